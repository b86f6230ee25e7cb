-- Written by squeeze.py: not trusted, Lean checks it.
import Derived.Test.YtbcepmkifomifaaDoorZK
import Derived.Test.YtbcepmkifomifaaDoorZa0
import Derived.Test.YtbcepmkifomifaaDoorZp1
import Derived.Test.YtbcepmkifomifaaDoorZp3
import Derived.Test.YtbcepmkifomifaaDoorZr0
namespace Go.Proofs.YtbcepmkifomifaaDoor.Print
open Go.RowKit Go.Proofs.YtbcepmkifomifaaDoorW.PrintWords Go.Proofs.YtbcepmkifomifaaDoorW.PrintLast Go.Proofs.YtbcepmkifomifaaDoorW.PrintMore
attribute [local go_sem] max2_int min2_int max_two min_two max_three min_three max_four min_four
set_option linter.unusedVariables false
set_option linter.unusedSimpArgs false
attribute [local go_sem high] eqA39
mutual
def laws_FnWordOne.j0:Nat→List Int→List Int→Bool→Option (Bool)
 |0,_,_,_=>none
 |k+1,x0,x1,x16=>if x16=true then(some true) else((spec_DrawWordText.f k x0).bind fun bt458=>((spec_DrawWordText.f k x1).bind fun bt463=>((impl_WordText.f bt458.1 bt458.2.1 bt458.2.2.1 bt458.2.2.2).bind fun t468=>((impl_WordText.f bt463.1 bt463.2.1 bt463.2.2.1 bt463.2.2.2).bind fun t469=>((spec_WordText.f k bt458.1 bt458.2.1 bt458.2.2.1 bt458.2.2.2).bind fun t470=>(if t468.toList=t470.toList then((spec_WordText.f k bt463.1 bt463.2.1 bt463.2.2.1 bt463.2.2.2).bind fun t471=>(if t469.toList=t471.toList then(if t468.toList=([]:List UInt8) then(laws_FnWordOne.j1 k t468 t469 true bt458.1 bt458.2.1 bt458.2.2.1 bt458.2.2.2 bt463.1 bt463.2.1 bt463.2.2.1 bt463.2.2.2) else(laws_FnWordOne.j1 k t468 t469 (t469.toList == ([]:List UInt8)) bt458.1 bt458.2.1 bt458.2.2.1 bt458.2.2.2 bt463.1 bt463.2.1 bt463.2.2.1 bt463.2.2.2)) else(laws_FnWordOne.j1 k t468 t469 true bt458.1 bt458.2.1 bt458.2.2.1 bt458.2.2.2 bt463.1 bt463.2.1 bt463.2.2.1 bt463.2.2.2))) else(laws_FnWordOne.j1 k t468 t469 true bt458.1 bt458.2.1 bt458.2.2.1 bt458.2.2.2 bt463.1 bt463.2.1 bt463.2.2.1 bt463.2.2.2)))))))
def laws_FnWordOne.j1:Nat→ByteArray→ByteArray→Bool→Int→Int→Int→Int→Int→Int→Int→Int→Option (Bool)
 |0,_,_,_,_,_,_,_,_,_,_,_=>none
 |k+1,x7,x8,x42,x463000,x463001,x463002,x463003,x468000,x468001,x468002,x468003=>if x42=true then((spec_WordText.f k x463000 x463001 x463002 x463003).bind fun t472=>(if x7.toList=t472.toList then((spec_WordText.f k x468000 x468001 x468002 x468003).bind fun t473=>(some (x8.toList == t473.toList))) else(some false))) else(some ((x7.toList == x8.toList) == (x463000 == x468000 && (x463001 == x468001 && (x463002 == x468002 && (x463003 == x468003))))))
end
def laws_FnWordOne.f (k:Nat) (l0:List Int) (l1:List Int):Option (Bool):=if(l0.length:Int)>1048576 then(laws_FnWordOne.j0 k l0 l1 true) else(laws_FnWordOne.j0 k l0 l1 (decide ((l1.length:Int)>1048576)))
theorem laws_FnWordOne.mono_l:∀k,(∀y0 y1 y2,LeO (laws_FnWordOne.j0 k y0 y1 y2) (laws_FnWordOne.j0 (k+1) y0 y1 y2))∧(∀y0 y1 y2 y3 y4 y5 y6 y7 y8 y9 y10,LeO (laws_FnWordOne.j1 k y0 y1 y2 y3 y4 y5 y6 y7 y8 y9 y10) (laws_FnWordOne.j1 (k+1) y0 y1 y2 y3 y4 y5 y6 y7 y8 y9 y10))
 |0=>⟨fun _ _ _ r h=>by simp[laws_FnWordOne.j0] at h,fun _ _ _ _ _ _ _ _ _ _ _ r h=>by simp[laws_FnWordOne.j1] at h⟩
 |k+1=>by
  obtain⟨ih0,ih1⟩:=laws_FnWordOne.mono_l k;refine⟨?_,?_⟩
  ·intro y0 y1 y2;unfold laws_FnWordOne.j0
   repeat' first|(with_reducible exact ih0 _ _ _)|(with_reducible exact ih1 _ _ _ _ _ _ _ _ _ _ _)|(with_reducible exact spec_DrawWordText.mono _ _)|(with_reducible exact spec_WordText.mono _ _ _ _ _)|(with_reducible exact LeO.refl _)|(with_reducible exact LeO.none _)|(with_reducible refine LeO.ite ?_ ?_)|(with_reducible refine LeO.bind ?_ (fun _=>?_))|exact ih0 _ _ _|exact ih1 _ _ _ _ _ _ _ _ _ _ _|exact spec_DrawWordText.mono _ _|exact spec_WordText.mono _ _ _ _ _|exact LeO.none _|refine LeO.ite ?_ ?_|refine LeO.bind ?_ (fun _=>?_)
  ·intro y0 y1 y2 y3 y4 y5 y6 y7 y8 y9 y10;unfold laws_FnWordOne.j1
   repeat' first|(with_reducible exact ih0 _ _ _)|(with_reducible exact ih1 _ _ _ _ _ _ _ _ _ _ _)|(with_reducible exact spec_DrawWordText.mono _ _)|(with_reducible exact spec_WordText.mono _ _ _ _ _)|(with_reducible exact LeO.refl _)|(with_reducible exact LeO.none _)|(with_reducible refine LeO.ite ?_ ?_)|(with_reducible refine LeO.bind ?_ (fun _=>?_))|exact ih0 _ _ _|exact ih1 _ _ _ _ _ _ _ _ _ _ _|exact spec_DrawWordText.mono _ _|exact spec_WordText.mono _ _ _ _ _|exact LeO.none _|refine LeO.ite ?_ ?_|refine LeO.bind ?_ (fun _=>?_)
theorem laws_FnWordOne.mono:∀a0 a1 k,LeO (laws_FnWordOne.f k a0 a1) (laws_FnWordOne.f (k+1) a0 a1):=by
 intro a0 a1 k;obtain⟨ih0,ih1⟩:=laws_FnWordOne.mono_l k;unfold laws_FnWordOne.f
 repeat' first|(with_reducible exact ih0 _ _ _)|(with_reducible exact ih1 _ _ _ _ _ _ _ _ _ _ _)|(with_reducible exact spec_DrawWordText.mono _ _)|(with_reducible exact spec_WordText.mono _ _ _ _ _)|(with_reducible exact LeO.refl _)|(with_reducible exact LeO.none _)|(with_reducible refine LeO.ite ?_ ?_)|(with_reducible refine LeO.bind ?_ (fun _=>?_))|exact ih0 _ _ _|exact ih1 _ _ _ _ _ _ _ _ _ _ _|exact spec_DrawWordText.mono _ _|exact spec_WordText.mono _ _ _ _ _|exact LeO.none _|refine LeO.ite ?_ ?_|refine LeO.bind ?_ (fun _=>?_)
set_option maxHeartbeats 8000000 in
set_option maxRecDepth 100000 in
theorem laws_FnWordOne.calls (k:Nat) (A0:Option Addr) (c0:Nat) (l0:List Int) (A1:Option Addr) (c1:Nat) (l1:List Int) (r:Bool) (w:World) (hr0:Kd.C (Kd.int .u8) w A0 l0.length l0) (hc0:l0.length≤c0) (hr1:Kd.C (Kd.int .u8) w A1 l1.length l1) (hc1:l1.length≤c1) (h:laws_FnWordOne.f k l0 l1=some r) :
  Calls Tryd.prog 7 #[.slice A0 l0.length c0,.slice A1 l1.length c1] w fun e w'=>e=.returned (.bool r)∧Below w.heap.size w w':=by
 have hu39:=Tryd.underlying39;have HR0:=qaj.mk hr0;have HC0:=qaj.mk hc0;clear hr0 hc0;have HR1:=qaj.mk hr1;have HC1:=qaj.mk hc1;clear hr1 hc1;have HB:=qaj.mk (Below.refl w.heap.size w);have H:(if(l0.length:Int)>1048576 then(laws_FnWordOne.j0 k l0 l1 true) else(laws_FnWordOne.j0 k l0 l1 (decide ((l1.length:Int)>1048576))))=some r:=h;clear h;have HC3:=qaj.mk H;clear H;go_enter Tryd.func7,Tryd.ntmps7
 go_upto_region 1 with(fail)
 go_cut [16] (fun v16 wc=>∃(kq:Nat) (x16_2:Bool),v16=.bool x16_2∧qaj (laws_FnWordOne.j0 kq l0 l1 x16_2=some r)∧qaj (kq≤k)∧qaj (Below w.heap.size w wc))
 case first=>
  have H:=HC3.out;clear HC3;by_cases c4:(l0.length:Int)>1048576
  ·rw[if_pos c4] at H;have c4b0:decide (1048576<(l0.length:Int))=true:=decide_eq_true c4;have c4b1:decide (1048576<l0.length)=true:=decide_eq_true (by omega);clear c4;(first|rw[c4b0]|(simp only[qak,qal];rw[c4b0])|skip);have H':=qaj.mk H;clear H;go_wp2
   go_meet
   case rel=>exact⟨_,(true),(za23),H',⟨za34⟩,⟨za2 HB⟩⟩
  ·rw[if_neg c4] at H;have c4b0:decide (1048576<(l0.length:Int))=false:=decide_eq_false c4;have c4b1:decide (1048576<l0.length)=false:=decide_eq_false (by omega);clear c4;(first|rw[c4b0]|(simp only[qak,qal];rw[c4b0])|skip);have H':=qaj.mk H;clear H;go_wp2
   go_meet
   case rel=>exact⟨_,(decide ((l1.length:Int)>1048576)),(za23),H',⟨za34⟩,⟨za2 HB⟩⟩
 case rest=>
  clear HC3
  try clear c1
  try clear p2
  try clear c4
  try clear c4b0
  try clear c4b1
  obtain⟨kq,x16_2,rfl,HA,HJ2,HB⟩:=hcut
  cases kq with
  |zero=>exact absurd HA.out (by simp[laws_FnWordOne.j0])
  |succ kj2=>
   have H:=HA.out;clear HA;simp only[laws_FnWordOne.j0] at H;by_cases c5:x16_2=true
   ·subst c5
    have H1:(some true)=some r:=by rw[if_pos rfl] at H;exact H
    clear H;have H:=H1;clear H1;obtain rfl:=Option.some.inj H;go_wp2;go_ret;exact⟨za10,za2 HB⟩
   ·replace c5:=Bool.eq_false_iff.mpr c5;subst c5
    have H1:((spec_DrawWordText.f kj2 l0).bind fun bt458=>((spec_DrawWordText.f kj2 l1).bind fun bt463=>((impl_WordText.f bt458.1 bt458.2.1 bt458.2.2.1 bt458.2.2.2).bind fun t468=>((impl_WordText.f bt463.1 bt463.2.1 bt463.2.2.1 bt463.2.2.2).bind fun t469=>((spec_WordText.f kj2 bt458.1 bt458.2.1 bt458.2.2.1 bt458.2.2.2).bind fun t470=>(if t468.toList=t470.toList then((spec_WordText.f kj2 bt463.1 bt463.2.1 bt463.2.2.1 bt463.2.2.2).bind fun t471=>(if t469.toList=t471.toList then(if t468.toList=([]:List UInt8) then(laws_FnWordOne.j1 kj2 t468 t469 true bt458.1 bt458.2.1 bt458.2.2.1 bt458.2.2.2 bt463.1 bt463.2.1 bt463.2.2.1 bt463.2.2.2) else(laws_FnWordOne.j1 kj2 t468 t469 (t469.toList == ([]:List UInt8)) bt458.1 bt458.2.1 bt458.2.2.1 bt458.2.2.2 bt463.1 bt463.2.1 bt463.2.2.1 bt463.2.2.2)) else(laws_FnWordOne.j1 kj2 t468 t469 true bt458.1 bt458.2.1 bt458.2.2.1 bt458.2.2.2 bt463.1 bt463.2.1 bt463.2.2.1 bt463.2.2.2))) else(laws_FnWordOne.j1 kj2 t468 t469 true bt458.1 bt458.2.1 bt458.2.2.1 bt458.2.2.2 bt463.1 bt463.2.1 bt463.2.2.1 bt463.2.2.2)))))))=some r:=by rw[if_neg (show ¬(false=true) by decide)] at H;exact H
    clear H;have H:=H1;clear H1;replace H:=Option.bind_eq_some_iff.mp H;obtain⟨⟨t458,t459,t460,t461⟩,A60,H⟩:=H
    replace H:((spec_DrawWordText.f kj2 l1).bind fun bt463=>((impl_WordText.f t458 t459 t460 t461).bind fun t468=>((impl_WordText.f bt463.1 bt463.2.1 bt463.2.2.1 bt463.2.2.2).bind fun t469=>((spec_WordText.f kj2 t458 t459 t460 t461).bind fun t470=>(if t468.toList=t470.toList then((spec_WordText.f kj2 bt463.1 bt463.2.1 bt463.2.2.1 bt463.2.2.2).bind fun t471=>(if t469.toList=t471.toList then(if t468.toList=([]:List UInt8) then(laws_FnWordOne.j1 kj2 t468 t469 true t458 t459 t460 t461 bt463.1 bt463.2.1 bt463.2.2.1 bt463.2.2.2) else(laws_FnWordOne.j1 kj2 t468 t469 (t469.toList == ([]:List UInt8)) t458 t459 t460 t461 bt463.1 bt463.2.1 bt463.2.2.1 bt463.2.2.2)) else(laws_FnWordOne.j1 kj2 t468 t469 true t458 t459 t460 t461 bt463.1 bt463.2.1 bt463.2.2.1 bt463.2.2.2))) else(laws_FnWordOne.j1 kj2 t468 t469 true t458 t459 t460 t461 bt463.1 bt463.2.1 bt463.2.2.1 bt463.2.2.2))))))=some r:=H
    have A6:=qaj.mk A60;clear A60;replace H:=Option.bind_eq_some_iff.mp H;obtain⟨⟨t463,t464,t465,t466⟩,A70,H⟩:=H
    replace H:((impl_WordText.f t458 t459 t460 t461).bind fun t468=>((impl_WordText.f t463 t464 t465 t466).bind fun t469=>((spec_WordText.f kj2 t458 t459 t460 t461).bind fun t470=>(if t468.toList=t470.toList then((spec_WordText.f kj2 t463 t464 t465 t466).bind fun t471=>(if t469.toList=t471.toList then(if t468.toList=([]:List UInt8) then(laws_FnWordOne.j1 kj2 t468 t469 true t458 t459 t460 t461 t463 t464 t465 t466) else(laws_FnWordOne.j1 kj2 t468 t469 (t469.toList == ([]:List UInt8)) t458 t459 t460 t461 t463 t464 t465 t466)) else(laws_FnWordOne.j1 kj2 t468 t469 true t458 t459 t460 t461 t463 t464 t465 t466))) else(laws_FnWordOne.j1 kj2 t468 t469 true t458 t459 t460 t461 t463 t464 t465 t466)))))=some r:=H
    have A7:=qaj.mk A70;clear A70;replace H:=Option.bind_eq_some_iff.mp H;obtain⟨t468,A80,H⟩:=H;replace H:((impl_WordText.f t463 t464 t465 t466).bind fun t469=>((spec_WordText.f kj2 t458 t459 t460 t461).bind fun t470=>(if t468.toList=t470.toList then((spec_WordText.f kj2 t463 t464 t465 t466).bind fun t471=>(if t469.toList=t471.toList then(if t468.toList=([]:List UInt8) then(laws_FnWordOne.j1 kj2 t468 t469 true t458 t459 t460 t461 t463 t464 t465 t466) else(laws_FnWordOne.j1 kj2 t468 t469 (t469.toList == ([]:List UInt8)) t458 t459 t460 t461 t463 t464 t465 t466)) else(laws_FnWordOne.j1 kj2 t468 t469 true t458 t459 t460 t461 t463 t464 t465 t466))) else(laws_FnWordOne.j1 kj2 t468 t469 true t458 t459 t460 t461 t463 t464 t465 t466))))=some r:=H;have A8:=qaj.mk A80;clear A80;replace H:=Option.bind_eq_some_iff.mp H;obtain⟨t469,A90,H⟩:=H;replace H:((spec_WordText.f kj2 t458 t459 t460 t461).bind fun t470=>(if t468.toList=t470.toList then((spec_WordText.f kj2 t463 t464 t465 t466).bind fun t471=>(if t469.toList=t471.toList then(if t468.toList=([]:List UInt8) then(laws_FnWordOne.j1 kj2 t468 t469 true t458 t459 t460 t461 t463 t464 t465 t466) else(laws_FnWordOne.j1 kj2 t468 t469 (t469.toList == ([]:List UInt8)) t458 t459 t460 t461 t463 t464 t465 t466)) else(laws_FnWordOne.j1 kj2 t468 t469 true t458 t459 t460 t461 t463 t464 t465 t466))) else(laws_FnWordOne.j1 kj2 t468 t469 true t458 t459 t460 t461 t463 t464 t465 t466)))=some r:=H;have A9:=qaj.mk A90;clear A90;have HC10:=qaj.mk H;clear H
    go_upto_region 7 with(first|((with_reducible refine qae (f:=29) rfl ?_);refine zF (some 18) Tryd.func29 #[.slice A0 l0.length c0] ?_;(with_reducible refine(spec_DrawWordText.calls kj2 _ _ l0 t458 t459 t460 t461 _ ?side1 ?side2 A6.out).mono ?_);(case side1=>exact zR HR0 HB);(case side2=>exact HC0.out);rintro e w11 ⟨rfl,hb⟩;refine⟨_,rfl,?_⟩;replace HB:=qaj.mk (qaa (za2 HB) hb);(try clear hb))|((with_reducible refine qai (N:=5) rfl ?_);(try(refine gate_guard (by rfl) ?_;dsimp only));refine zX (N:=5) (cs:=#[.int .i64 0,.int .i64 0,.int .i64 0,.int .i64 0]) (t:=39) ?_;intro gb462 hg w12 hbox hb;have BK462:=qaj.mk hbox;have GW462:=zH (w:=w) hg (za2 HB);have GE462:=GW462;replace HB:=qaj.mk (qaa (za2 HB) hb);clear hb hbox hg;obtain⟨hcz13_0,hcz13_1,hcz13_2,hcz13_3,hfz13_0,hfz13_1,hfz13_2,hfz13_3⟩:=zC4 BK462)|((with_reducible refine qae (f:=29) rfl ?_);refine zF (some 20) Tryd.func29 #[.slice A1 l1.length c1] ?_;(with_reducible refine(spec_DrawWordText.calls kj2 _ _ l1 t463 t464 t465 t466 _ ?side1 ?side2 A7.out).mono ?_);(case side1=>exact Kd.C_below HR1.out (za0 HB GE462));(case side2=>exact HC1.out);rintro e w14 ⟨rfl,hb⟩;refine⟨_,rfl,?_⟩;replace BK462:=qaj.mk (qah (g:=gb462) (o:=.cells #[.int .i64 t458,.int .i64 t459,.int .i64 t460,.int .i64 t461] 39 (0,0)) (by(with_reducible repeat(first|refine qac ?_ _|refine qad ?_|refine qab ?_ _));refine qaf (cs:=#[.int .i64 t458,.int .i64 t459,.int .i64 t460,.int .i64 0]) ?_ 3 _ rfl;(with_reducible repeat(first|refine qac ?_ _|refine qad ?_|refine qab ?_ _));refine qaf (cs:=#[.int .i64 t458,.int .i64 t459,.int .i64 0,.int .i64 0]) ?_ 2 _ rfl;(with_reducible repeat(first|refine qac ?_ _|refine qad ?_|refine qab ?_ _));refine qaf (cs:=#[.int .i64 t458,.int .i64 0,.int .i64 0,.int .i64 0]) ?_ 1 _ rfl;(with_reducible repeat(first|refine qac ?_ _|refine qad ?_|refine qab ?_ _));refine qaf (cs:=#[.int .i64 0,.int .i64 0,.int .i64 0,.int .i64 0]) ?_ 0 _ rfl;(with_reducible repeat(first|refine qac ?_ _|refine qad ?_|refine qab ?_ _));exact BK462.out) hb);replace HB:=qaj.mk (qaa (za0 HB GE462) hb);(try clear hb))|((with_reducible refine qai (N:=6) rfl ?_);(try(refine gate_guard (by rfl) ?_;dsimp only));refine zX (N:=6) (cs:=#[.int .i64 0,.int .i64 0,.int .i64 0,.int .i64 0]) (t:=39) ?_;intro gb467 hg w15 hbox hb;have BK467:=qaj.mk hbox;have GW467:=zH (w:=w) hg (za0 HB GE462);have GE467:=GW467;replace HB:=qaj.mk (qaa (za0 HB GE462) hb);have NB462_467:=zL BK462 hg;have NB467_462:=zG BK462 hg;replace BK462:=zY BK462 hb;clear hb hbox hg;have hnb16:=NB467_462.out;have hnc16:=NB462_467.out;obtain⟨hcz17_0,hcz17_1,hcz17_2,hcz17_3,hfz17_0,hfz17_1,hfz17_2,hfz17_3⟩:=zC4 BK467;obtain⟨hcz18_0,hcz18_1,hcz18_2,hcz18_3,hfz18_0,hfz18_1,hfz18_2,hfz18_3⟩:=zC4 BK462)|((with_reducible refine qae (f:=28) rfl ?_);refine zF (some 22) Tryd.func28 #[.agg #[.int .i64 t458,.int .i64 t459,.int .i64 t460,.int .i64 t461]] ?_;(with_reducible refine(impl_WordText.calls t458 t459 t460 t461 t468 _ A8.out).mono ?_);rintro e w19 ⟨rfl,hb⟩;refine⟨_,rfl,?_⟩;replace BK462:=qaj.mk (qah (g:=gb462) (o:=.cells #[.int .i64 t458,.int .i64 t459,.int .i64 t460,.int .i64 t461] 39 (0,0)) (za5 NB462_467 BK462) hb);replace BK467:=qaj.mk (qah (g:=gb467) (o:=.cells #[.int .i64 t463,.int .i64 t464,.int .i64 t465,.int .i64 t466] 39 (0,0)) (by(with_reducible repeat(first|refine qac ?_ _|refine qad ?_|refine qab ?_ _));refine qaf (cs:=#[.int .i64 t463,.int .i64 t464,.int .i64 t465,.int .i64 0]) ?_ 3 _ rfl;(with_reducible repeat(first|refine qac ?_ _|refine qad ?_|refine qab ?_ _));refine qaf (cs:=#[.int .i64 t463,.int .i64 t464,.int .i64 0,.int .i64 0]) ?_ 2 _ rfl;(with_reducible repeat(first|refine qac ?_ _|refine qad ?_|refine qab ?_ _));refine qaf (cs:=#[.int .i64 t463,.int .i64 0,.int .i64 0,.int .i64 0]) ?_ 1 _ rfl;(with_reducible repeat(first|refine qac ?_ _|refine qad ?_|refine qab ?_ _));refine qaf (cs:=#[.int .i64 0,.int .i64 0,.int .i64 0,.int .i64 0]) ?_ 0 _ rfl;(with_reducible repeat(first|refine qac ?_ _|refine qad ?_|refine qab ?_ _));exact BK467.out) hb);replace HB:=qaj.mk (qaa (za1 HB GE462 GE467) hb);(try clear hb);obtain⟨hcz20_0,hcz20_1,hcz20_2,hcz20_3,hfz20_0,hfz20_1,hfz20_2,hfz20_3⟩:=zC4 BK467)|((with_reducible refine qae (f:=28) rfl ?_);refine zF (some 24) Tryd.func28 #[.agg #[.int .i64 t463,.int .i64 t464,.int .i64 t465,.int .i64 t466]] ?_;(with_reducible refine(impl_WordText.calls t463 t464 t465 t466 t469 _ A9.out).mono ?_);rintro e w21 ⟨rfl,hb⟩;refine⟨_,rfl,?_⟩;replace BK462:=zY BK462 hb;replace BK467:=zY BK467 hb;replace HB:=qaj.mk (qaa (za1 HB GE462 GE467) hb);(try clear hb)))
    (try simp only[Act.put,List.setIfInBounds_toArray,List.set_cons_zero,List.set_cons_succ])
    go_cut [42] (fun v42 wc=>∃(kq:Nat) (x42_9:Bool),v42=.bool x42_9∧qaj (laws_FnWordOne.j1 kq t468 t469 x42_9 t458 t459 t460 t461 t463 t464 t465 t466=some r)∧qaj (kq≤kj2)∧qaj (wc.heap[gb462]?=some (.cells #[.int .i64 t458,.int .i64 t459,.int .i64 t460,.int .i64 t461] 39 (0,0)))∧qaj (wc.heap[gb467]?=some (.cells #[.int .i64 t463,.int .i64 t464,.int .i64 t465,.int .i64 t466] 39 (0,0)))∧qaj (Below w.heap.size w wc))
    case first=>
     have H:=HC10.out;clear HC10;replace H:=Option.bind_eq_some_iff.mp H;obtain⟨t470,A220,H⟩:=H;replace H:(if t468.toList=t470.toList then((spec_WordText.f kj2 t463 t464 t465 t466).bind fun t471=>(if t469.toList=t471.toList then(if t468.toList=([]:List UInt8) then(laws_FnWordOne.j1 kj2 t468 t469 true t458 t459 t460 t461 t463 t464 t465 t466) else(laws_FnWordOne.j1 kj2 t468 t469 (t469.toList == ([]:List UInt8)) t458 t459 t460 t461 t463 t464 t465 t466)) else(laws_FnWordOne.j1 kj2 t468 t469 true t458 t459 t460 t461 t463 t464 t465 t466))) else(laws_FnWordOne.j1 kj2 t468 t469 true t458 t459 t460 t461 t463 t464 t465 t466))=some r:=H;have A22:=qaj.mk A220;clear A220;by_cases c23:t468.toList=t470.toList
     ·rw[if_pos c23] at H;have c23b0:(t468.toList == t470.toList)=true:=beq_iff_eq.mpr c23;have c23b1:(t468.toList != t470.toList)=false:=bne_eq_false_iff_eq.mpr c23;clear c23;(first|rw[c23b0]|(simp only[qak,qal];rw[c23b0])|skip);replace H:=Option.bind_eq_some_iff.mp H;obtain⟨t471,A240,H⟩:=H;replace H:(if t469.toList=t471.toList then(if t468.toList=([]:List UInt8) then(laws_FnWordOne.j1 kj2 t468 t469 true t458 t459 t460 t461 t463 t464 t465 t466) else(laws_FnWordOne.j1 kj2 t468 t469 (t469.toList == ([]:List UInt8)) t458 t459 t460 t461 t463 t464 t465 t466)) else(laws_FnWordOne.j1 kj2 t468 t469 true t458 t459 t460 t461 t463 t464 t465 t466))=some r:=H;have A24:=qaj.mk A240;clear A240;by_cases c25:t469.toList=t471.toList
      ·rw[if_pos c25] at H;have c25b0:(t469.toList == t471.toList)=true:=beq_iff_eq.mpr c25;have c25b1:(t469.toList != t471.toList)=false:=bne_eq_false_iff_eq.mpr c25;clear c25;by_cases c26:t468.toList=([]:List UInt8)
       ·rw[if_pos c26] at H;have c26b0:(t468.toList == ([]:List UInt8))=true:=beq_iff_eq.mpr c26;have c26b1:(t468.toList != ([]:List UInt8))=false:=bne_eq_false_iff_eq.mpr c26;clear c26;have H':=qaj.mk H;clear H;have hnb27:=NB462_467.out;have hnc27:=NB467_462.out;obtain⟨hcz28_0,hcz28_1,hcz28_2,hcz28_3,hfz28_0,hfz28_1,hfz28_2,hfz28_3⟩:=zC4 BK462
        go_wp2_with(first|((with_reducible refine qae (f:=26) rfl ?_);refine zF (some 27) Tryd.func26 #[.agg #[.int .i64 t458,.int .i64 t459,.int .i64 t460,.int .i64 t461]] ?_;(with_reducible refine(spec_WordText.calls kj2 t458 t459 t460 t461 t470 _ A22.out).mono ?_);rintro e w29 ⟨rfl,hb⟩;refine⟨_,rfl,?_⟩;replace BK462:=zY BK462 hb;replace BK467:=zY BK467 hb;replace HB:=qaj.mk (qaa (za1 HB GE462 GE467) hb);(try clear hb);obtain⟨hcz30_0,hcz30_1,hcz30_2,hcz30_3,hfz30_0,hfz30_1,hfz30_2,hfz30_3⟩:=zC4 BK467)|(go_at_call 26;(with_reducible refine(spec_WordText.calls kj2 t463 t464 t465 t466 t471 _ A24.out).mono ?_);rintro e w31 ⟨rfl,hb⟩;replace BK462:=zY BK462 hb;replace BK467:=zY BK467 hb;replace HB:=qaj.mk (qaa (za1 HB GE462 GE467) hb);(try clear hb)))
        go_meet
        case rel=>exact⟨_,(true),(za23),H',⟨za38 HJ2⟩,⟨za18 BK462⟩,⟨za18 BK467⟩,⟨za1 HB GE462 GE467⟩⟩
       ·rw[if_neg c26] at H;have c26b0:(t468.toList == ([]:List UInt8))=false:=beq_eq_false_iff_ne.mpr c26;have c26b1:(t468.toList != ([]:List UInt8))=true:=bne_iff_ne.mpr c26;have H':=qaj.mk H;clear H;have hnb32:=NB462_467.out;have hnc32:=NB467_462.out;obtain⟨hcz33_0,hcz33_1,hcz33_2,hcz33_3,hfz33_0,hfz33_1,hfz33_2,hfz33_3⟩:=zC4 BK462
        go_wp2_with(first|((with_reducible refine qae (f:=26) rfl ?_);refine zF (some 27) Tryd.func26 #[.agg #[.int .i64 t458,.int .i64 t459,.int .i64 t460,.int .i64 t461]] ?_;(with_reducible refine(spec_WordText.calls kj2 t458 t459 t460 t461 t470 _ A22.out).mono ?_);rintro e w34 ⟨rfl,hb⟩;refine⟨_,rfl,?_⟩;replace BK462:=zY BK462 hb;replace BK467:=zY BK467 hb;replace HB:=qaj.mk (qaa (za1 HB GE462 GE467) hb);(try clear hb);obtain⟨hcz35_0,hcz35_1,hcz35_2,hcz35_3,hfz35_0,hfz35_1,hfz35_2,hfz35_3⟩:=zC4 BK467)|(go_at_call 26;(with_reducible refine(spec_WordText.calls kj2 t463 t464 t465 t466 t471 _ A24.out).mono ?_);rintro e w36 ⟨rfl,hb⟩;replace BK462:=zY BK462 hb;replace BK467:=zY BK467 hb;replace HB:=qaj.mk (qaa (za1 HB GE462 GE467) hb);(try clear hb)))
        go_meet
        case rel=>exact⟨_,((t469.toList == ([]:List UInt8))),(za23),H',⟨za38 HJ2⟩,⟨za18 BK462⟩,⟨za18 BK467⟩,⟨za1 HB GE462 GE467⟩⟩
      ·rw[if_neg c25] at H;have c25b0:(t469.toList == t471.toList)=false:=beq_eq_false_iff_ne.mpr c25;have c25b1:(t469.toList != t471.toList)=true:=bne_iff_ne.mpr c25;have H':=qaj.mk H;clear H;have hnb37:=NB462_467.out;have hnc37:=NB467_462.out;obtain⟨hcz38_0,hcz38_1,hcz38_2,hcz38_3,hfz38_0,hfz38_1,hfz38_2,hfz38_3⟩:=zC4 BK462
       go_wp2_with(first|((with_reducible refine qae (f:=26) rfl ?_);refine zF (some 27) Tryd.func26 #[.agg #[.int .i64 t458,.int .i64 t459,.int .i64 t460,.int .i64 t461]] ?_;(with_reducible refine(spec_WordText.calls kj2 t458 t459 t460 t461 t470 _ A22.out).mono ?_);rintro e w39 ⟨rfl,hb⟩;refine⟨_,rfl,?_⟩;replace BK462:=zY BK462 hb;replace BK467:=zY BK467 hb;replace HB:=qaj.mk (qaa (za1 HB GE462 GE467) hb);(try clear hb);obtain⟨hcz40_0,hcz40_1,hcz40_2,hcz40_3,hfz40_0,hfz40_1,hfz40_2,hfz40_3⟩:=zC4 BK467)|(go_at_call 26;(with_reducible refine(spec_WordText.calls kj2 t463 t464 t465 t466 t471 _ A24.out).mono ?_);rintro e w41 ⟨rfl,hb⟩;replace BK462:=zY BK462 hb;replace BK467:=zY BK467 hb;replace HB:=qaj.mk (qaa (za1 HB GE462 GE467) hb);(try clear hb)))
       go_meet
       case rel=>exact⟨_,(true),(za23),H',⟨za38 HJ2⟩,⟨za18 BK462⟩,⟨za18 BK467⟩,⟨za1 HB GE462 GE467⟩⟩
     ·rw[if_neg c23] at H;have c23b0:(t468.toList == t470.toList)=false:=beq_eq_false_iff_ne.mpr c23;have c23b1:(t468.toList != t470.toList)=true:=bne_iff_ne.mpr c23;(first|rw[c23b0]|(simp only[qak,qal];rw[c23b0])|skip);have H':=qaj.mk H;clear H;have hnb42:=NB462_467.out;have hnc42:=NB467_462.out;obtain⟨hcz43_0,hcz43_1,hcz43_2,hcz43_3,hfz43_0,hfz43_1,hfz43_2,hfz43_3⟩:=zC4 BK462
      go_wp2_with(first|((with_reducible refine qae (f:=26) rfl ?_);refine zF (some 27) Tryd.func26 #[.agg #[.int .i64 t458,.int .i64 t459,.int .i64 t460,.int .i64 t461]] ?_;(with_reducible refine(spec_WordText.calls kj2 t458 t459 t460 t461 t470 _ A22.out).mono ?_);rintro e w44 ⟨rfl,hb⟩;refine⟨_,rfl,?_⟩;replace BK462:=zY BK462 hb;replace BK467:=zY BK467 hb;replace HB:=qaj.mk (qaa (za1 HB GE462 GE467) hb);(try clear hb)))
      go_meet
      case rel=>exact⟨_,(true),(za23),H',⟨za38 HJ2⟩,⟨za18 BK462⟩,⟨za18 BK467⟩,⟨za1 HB GE462 GE467⟩⟩
    case rest=>
     clear HC10
     try clear c1
     try clear c2
     try clear p2
     try clear c3
     try clear c4
     try clear c4b0
     try clear c4b1
     try clear c5
     try clear c7
     try clear c16
     try clear c23
     try clear c23b0
     try clear c23b1
     try clear c25
     try clear c25b0
     try clear c25b1
     try clear c26
     try clear c26b0
     try clear c26b1
     try clear c27
     try clear c28
     try clear c29
     try clear c32
     try clear c37
     try clear c42
     try clear hcz13_0
     try clear hcz13_1
     try clear hcz13_2
     try clear hcz13_3
     try clear hcz17_0
     try clear hcz17_1
     try clear hcz17_2
     try clear hcz17_3
     try clear hcz18_0
     try clear hcz18_1
     try clear hcz18_2
     try clear hcz18_3
     try clear hcz20_0
     try clear hcz20_1
     try clear hcz20_2
     try clear hcz20_3
     try clear hcz28_0
     try clear hcz28_1
     try clear hcz28_2
     try clear hcz28_3
     try clear hcz30_0
     try clear hcz30_1
     try clear hcz30_2
     try clear hcz30_3
     try clear hcz33_0
     try clear hcz33_1
     try clear hcz33_2
     try clear hcz33_3
     try clear hcz35_0
     try clear hcz35_1
     try clear hcz35_2
     try clear hcz35_3
     try clear hcz38_0
     try clear hcz38_1
     try clear hcz38_2
     try clear hcz38_3
     try clear hcz40_0
     try clear hcz40_1
     try clear hcz40_2
     try clear hcz40_3
     try clear hcz43_0
     try clear hcz43_1
     try clear hcz43_2
     try clear hcz43_3
     try clear hfz13_0
     try clear hfz13_1
     try clear hfz13_2
     try clear hfz13_3
     try clear hfz17_0
     try clear hfz17_1
     try clear hfz17_2
     try clear hfz17_3
     try clear hfz18_0
     try clear hfz18_1
     try clear hfz18_2
     try clear hfz18_3
     try clear hfz20_0
     try clear hfz20_1
     try clear hfz20_2
     try clear hfz20_3
     try clear hfz28_0
     try clear hfz28_1
     try clear hfz28_2
     try clear hfz28_3
     try clear hfz30_0
     try clear hfz30_1
     try clear hfz30_2
     try clear hfz30_3
     try clear hfz33_0
     try clear hfz33_1
     try clear hfz33_2
     try clear hfz33_3
     try clear hfz35_0
     try clear hfz35_1
     try clear hfz35_2
     try clear hfz35_3
     try clear hfz38_0
     try clear hfz38_1
     try clear hfz38_2
     try clear hfz38_3
     try clear hfz40_0
     try clear hfz40_1
     try clear hfz40_2
     try clear hfz40_3
     try clear hfz43_0
     try clear hfz43_1
     try clear hfz43_2
     try clear hfz43_3
     try clear p2
     obtain⟨kq,x42_9,rfl,HA,HJ9,BK462,BK467,HB⟩:=hcut
     cases kq with
     |zero=>exact absurd HA.out (by simp[laws_FnWordOne.j1])
     |succ kj9=>
      have H:=HA.out;clear HA;simp only[laws_FnWordOne.j1] at H;by_cases c45:x42_9=true
      ·subst c45
       have H1:((spec_WordText.f kj9 t458 t459 t460 t461).bind fun t472=>(if t468.toList=t472.toList then((spec_WordText.f kj9 t463 t464 t465 t466).bind fun t473=>(some (t469.toList == t473.toList))) else(some false)))=some r:=by rw[if_pos rfl] at H;exact H
       clear H;have H:=H1;clear H1;replace H:=Option.bind_eq_some_iff.mp H;obtain⟨t472,A460,H⟩:=H;replace H:(if t468.toList=t472.toList then((spec_WordText.f kj9 t463 t464 t465 t466).bind fun t473=>(some (t469.toList == t473.toList))) else(some false))=some r:=H;have A46:=qaj.mk A460;clear A460;by_cases c47:t468.toList=t472.toList
       ·rw[if_pos c47] at H;have c47b0:(t468.toList == t472.toList)=true:=beq_iff_eq.mpr c47;have c47b1:(t468.toList != t472.toList)=false:=bne_eq_false_iff_eq.mpr c47;clear c47;replace H:=Option.bind_eq_some_iff.mp H;obtain⟨t473,A480,H⟩:=H;replace H:(some (t469.toList == t473.toList))=some r:=H;have A48:=qaj.mk A480;clear A480;obtain rfl:=Option.some.inj H;have hnb49:=NB462_467.out;have hnc49:=NB467_462.out;obtain⟨hcz50_0,hcz50_1,hcz50_2,hcz50_3,hfz50_0,hfz50_1,hfz50_2,hfz50_3⟩:=zC4 BK462
        go_wp2_with(first|((with_reducible refine qae (f:=26) rfl ?_);refine zF (some 45) Tryd.func26 #[.agg #[.int .i64 t458,.int .i64 t459,.int .i64 t460,.int .i64 t461]] ?_;(with_reducible refine(spec_WordText.calls kj9 t458 t459 t460 t461 t472 _ A46.out).mono ?_);rintro e w51 ⟨rfl,hb⟩;refine⟨_,rfl,?_⟩;replace BK462:=zY BK462 hb;replace BK467:=zY BK467 hb;replace HB:=qaj.mk (qaa (za1 HB GE462 GE467) hb);(try clear hb);obtain⟨hcz52_0,hcz52_1,hcz52_2,hcz52_3,hfz52_0,hfz52_1,hfz52_2,hfz52_3⟩:=zC4 BK467)|(go_at_call 26;(with_reducible refine(spec_WordText.calls kj9 t463 t464 t465 t466 t473 _ A48.out).mono ?_);rintro e w53 ⟨rfl,hb⟩;replace BK462:=zY BK462 hb;replace BK467:=zY BK467 hb;replace HB:=qaj.mk (qaa (za1 HB GE462 GE467) hb);(try clear hb)))
        go_ret;exact⟨za10,za1 HB GE462 GE467⟩
       ·rw[if_neg c47] at H;have c47b0:(t468.toList == t472.toList)=false:=beq_eq_false_iff_ne.mpr c47;have c47b1:(t468.toList != t472.toList)=true:=bne_iff_ne.mpr c47;obtain rfl:=Option.some.inj H;have hnb54:=NB462_467.out;have hnc54:=NB467_462.out;obtain⟨hcz55_0,hcz55_1,hcz55_2,hcz55_3,hfz55_0,hfz55_1,hfz55_2,hfz55_3⟩:=zC4 BK462
        go_wp2_with(first|((with_reducible refine qae (f:=26) rfl ?_);refine zF (some 45) Tryd.func26 #[.agg #[.int .i64 t458,.int .i64 t459,.int .i64 t460,.int .i64 t461]] ?_;(with_reducible refine(spec_WordText.calls kj9 t458 t459 t460 t461 t472 _ A46.out).mono ?_);rintro e w56 ⟨rfl,hb⟩;refine⟨_,rfl,?_⟩;replace BK462:=zY BK462 hb;replace BK467:=zY BK467 hb;replace HB:=qaj.mk (qaa (za1 HB GE462 GE467) hb);(try clear hb)))
        go_ret;exact⟨za10,za1 HB GE462 GE467⟩
      ·replace c45:=Bool.eq_false_iff.mpr c45;subst c45
       have H1:(some ((t468.toList == t469.toList) == (t458 == t463 && (t459 == t464 && (t460 == t465 && (t461 == t466))))))=some r:=by rw[if_neg (show ¬(false=true) by decide)] at H;exact H
       clear H;have H:=H1;clear H1;obtain rfl:=Option.some.inj H;have hnb57:=NB462_467.out;have hnc57:=NB467_462.out;obtain⟨hcz58_0,hcz58_1,hcz58_2,hcz58_3,hfz58_0,hfz58_1,hfz58_2,hfz58_3⟩:=zC4 BK462;obtain⟨hcz59_0,hcz59_1,hcz59_2,hcz59_3,hfz59_0,hfz59_1,hfz59_2,hfz59_3⟩:=zC4 BK467;go_wp2;go_ret;exact⟨za10,za1 HB GE462 GE467⟩
def laws_FnWordOne.Pure:Prop:=∀(l0:List Int) (l1:List Int),l0.length≤maxLen→l0.length*1≤140737488351232→(∀x ∈ l0,(Lit.int .u8 x).wf=true)→l1.length≤maxLen→l1.length*1≤140737488351232→(∀x ∈ l1,(Lit.int .u8 x).wf=true)→∃k,laws_FnWordOne.f k l0 l1=some true
theorem laws_FnWordOne.walk (P:laws_FnWordOne.Pure) (a0:Option Addr) (len0 cap0:Nat) (z0:List Int) (a1:Option Addr) (len1 cap1:Nat) (z1:List Int) (w:World) (w0:(a0=none∧len0=0∧cap0=0∧z0=[])∨∃x,a0=some x∧len0≤cap0∧cap0≤maxLen∧z0.length=cap0∧(∀i,i<z0.length→w.cell? (x.add i)=some (.int .u8 (z0.getD i 0)))∧∀n ∈ z0,(Lit.int .u8 n).wf=true) (y0:len0*1≤140737488351232) (w1:(a1=none∧len1=0∧cap1=0∧z1=[])∨∃x,a1=some x∧len1≤cap1∧cap1≤maxLen∧z1.length=cap1∧(∀i,i<z1.length→w.cell? (x.add i)=some (.int .u8 (z1.getD i 0)))∧∀n ∈ z1,(Lit.int .u8 n).wf=true) (y1:len1*1≤140737488351232) :
  Calls Tryd.prog 7 #[.slice a0 len0 cap0,.slice a1 len1 cap1] w fun e w'=>e=.returned (.bool true)∧Below w.heap.size w w':=by
 obtain⟨l0,rfl,hr0,hm0,hw0,hc0⟩:=ReadsInt.ofRowC w0;obtain⟨l1,rfl,hr1,hm1,hw1,hc1⟩:=ReadsInt.ofRowC w1;obtain⟨k,h⟩:=P l0 l1 hm0 y0 hw0 hm1 y1 hw1;refine(laws_FnWordOne.calls k _ _ l0 _ _ l1 true w (Kd.C_of_reads (d:=(0:Int)) (h1:=fun _=>rfl) hr0) hc0 (Kd.C_of_reads (d:=(0:Int)) (h1:=fun _=>rfl) hr1) hc1 h).mono ?_;rintro e w' ⟨rfl,hd⟩;exact⟨rfl,hd⟩
end Go.Proofs.YtbcepmkifomifaaDoor.Print
