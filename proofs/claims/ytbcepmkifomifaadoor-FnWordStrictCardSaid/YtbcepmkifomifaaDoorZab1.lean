-- Written by squeeze.py: not trusted, Lean checks it.
import Derived.Test.YtbcepmkifomifaaDoorZK
import Derived.Test.YtbcepmkifomifaaDoorZa0
import Derived.Test.YtbcepmkifomifaaDoorZab0
import Derived.Test.YtbcepmkifomifaaDoorZp2
import Derived.Test.YtbcepmkifomifaaDoorZp3
import Derived.Test.YtbcepmkifomifaaDoorZv0
import Derived.Test.YtbcepmkifomifaaDoorZy0
namespace Go.Proofs.YtbcepmkifomifaaDoor.Print
open Go.RowKit Go.Proofs.YtbcepmkifomifaaDoorW.PrintWords Go.Proofs.YtbcepmkifomifaaDoorW.PrintLast Go.Proofs.YtbcepmkifomifaaDoorW.PrintMore
attribute [local go_sem] max2_int min2_int max_two min_two max_three min_three max_four min_four
set_option linter.unusedVariables false
set_option linter.unusedSimpArgs false
attribute [local go_sem high] eqA39
def laws_FnWordStrict.j0:Nat→ByteArray→Bool→Bool→Bool→Int→Int→Int→Int→Int→Int→Int→Int→Option (Bool)
 |0,_,_,_,_,_,_,_,_,_,_,_,_=>none
 |k+1,x3,x5,x7,x34,x642000,x642001,x642002,x642003,x648000,x648001,x648002,x648003=>if x34=true then(if(x7 == x5)=true then(some (x648000 == x642000 && (x648001 == x642001 && (x648002 == x642002 && (x648003 == x642003))))) else(some false)) else((impl_WordOk.f x648000 x648001 x648002 x648003).bind fun t648=>(if t648=true then((impl_WordText.f x648000 x648001 x648002 x648003).bind fun t649=>(some (t649.toList == x3.toList))) else(some false)))
def laws_FnWordStrict.f (k:Nat) (l0:List Int):Option (Bool):=if(l0.length:Int)>1048576 then(some true) else((spec_DrawWordRead.f k l0).bind fun t635=>((spec_WordRead.f k t635).bind fun bt636=>((impl_WordRead.f k t635).bind fun bt642=>(if(bt642.2.2.2.2 != bt636.2.2.2.2)=true then(laws_FnWordStrict.j0 k t635 bt636.2.2.2.2 bt642.2.2.2.2 true bt636.1 bt636.2.1 bt636.2.2.1 bt636.2.2.2.1 bt642.1 bt642.2.1 bt642.2.2.1 bt642.2.2.2.1) else(if(!(bt642.1 == bt636.1) || (!(bt642.2.1 == bt636.2.1) || (!(bt642.2.2.1 == bt636.2.2.1) || (!(bt642.2.2.2.1 == bt636.2.2.2.1)))))=true then(laws_FnWordStrict.j0 k t635 bt636.2.2.2.2 bt642.2.2.2.2 true bt636.1 bt636.2.1 bt636.2.2.1 bt636.2.2.2.1 bt642.1 bt642.2.1 bt642.2.2.1 bt642.2.2.2.1) else(laws_FnWordStrict.j0 k t635 bt636.2.2.2.2 bt642.2.2.2.2 (!bt642.2.2.2.2) bt636.1 bt636.2.1 bt636.2.2.1 bt636.2.2.2.1 bt642.1 bt642.2.1 bt642.2.2.1 bt642.2.2.2.1))))))
theorem laws_FnWordStrict.mono_l:∀k,(∀y0 y1 y2 y3 y4 y5 y6 y7 y8 y9 y10 y11,LeO (laws_FnWordStrict.j0 k y0 y1 y2 y3 y4 y5 y6 y7 y8 y9 y10 y11) (laws_FnWordStrict.j0 (k+1) y0 y1 y2 y3 y4 y5 y6 y7 y8 y9 y10 y11))
 |0=>fun _ _ _ _ _ _ _ _ _ _ _ _ r h=>by simp[laws_FnWordStrict.j0] at h
 |k+1=>by
  have ih0:=laws_FnWordStrict.mono_l k
  ·intro y0 y1 y2 y3 y4 y5 y6 y7 y8 y9 y10 y11;unfold laws_FnWordStrict.j0
   repeat' first|(with_reducible exact ih0 _ _ _ _ _ _ _ _ _ _ _ _)|(with_reducible exact impl_WordRead.mono _ _)|(with_reducible exact spec_DrawWordRead.mono _ _)|(with_reducible exact spec_WordRead.mono _ _)|(with_reducible exact LeO.refl _)|(with_reducible exact LeO.none _)|(with_reducible refine LeO.ite ?_ ?_)|(with_reducible refine LeO.bind ?_ (fun _=>?_))|exact ih0 _ _ _ _ _ _ _ _ _ _ _ _|exact impl_WordRead.mono _ _|exact spec_DrawWordRead.mono _ _|exact spec_WordRead.mono _ _|exact LeO.none _|refine LeO.ite ?_ ?_|refine LeO.bind ?_ (fun _=>?_)
theorem laws_FnWordStrict.mono:∀a0 k,LeO (laws_FnWordStrict.f k a0) (laws_FnWordStrict.f (k+1) a0):=by
 intro a0 k;have ih0:=laws_FnWordStrict.mono_l k;unfold laws_FnWordStrict.f
 repeat' first|(with_reducible exact ih0 _ _ _ _ _ _ _ _ _ _ _ _)|(with_reducible exact impl_WordRead.mono _ _)|(with_reducible exact spec_DrawWordRead.mono _ _)|(with_reducible exact spec_WordRead.mono _ _)|(with_reducible exact LeO.refl _)|(with_reducible exact LeO.none _)|(with_reducible refine LeO.ite ?_ ?_)|(with_reducible refine LeO.bind ?_ (fun _=>?_))|exact ih0 _ _ _ _ _ _ _ _ _ _ _ _|exact impl_WordRead.mono _ _|exact spec_DrawWordRead.mono _ _|exact spec_WordRead.mono _ _|exact LeO.none _|refine LeO.ite ?_ ?_|refine LeO.bind ?_ (fun _=>?_)
set_option maxHeartbeats 8000000 in
set_option maxRecDepth 100000 in
theorem laws_FnWordStrict.calls (k:Nat) (A0:Option Addr) (c0:Nat) (l0:List Int) (r:Bool) (w:World) (hr0:Kd.C (Kd.int .u8) w A0 l0.length l0) (hc0:l0.length≤c0) (hgw:Tryd.GW w) (h:laws_FnWordStrict.f k l0=some r) :
  Calls Tryd.prog 13 #[.slice A0 l0.length c0] w fun e w'=>e=.returned (.bool r)∧Below w.heap.size w w':=by
 have HGW:=qaj.mk hgw;clear hgw;have hu39:=Tryd.underlying39;have HR0:=qaj.mk hr0;have HC0:=qaj.mk hc0;clear hr0 hc0;have HB:=qaj.mk (Below.refl w.heap.size w)
 have H:(if(l0.length:Int)>1048576 then(some true) else((spec_DrawWordRead.f k l0).bind fun t635=>((spec_WordRead.f k t635).bind fun bt636=>((impl_WordRead.f k t635).bind fun bt642=>(if(bt642.2.2.2.2 != bt636.2.2.2.2)=true then(laws_FnWordStrict.j0 k t635 bt636.2.2.2.2 bt642.2.2.2.2 true bt636.1 bt636.2.1 bt636.2.2.1 bt636.2.2.2.1 bt642.1 bt642.2.1 bt642.2.2.1 bt642.2.2.2.1) else(if(!(bt642.1 == bt636.1) || (!(bt642.2.1 == bt636.2.1) || (!(bt642.2.2.1 == bt636.2.2.1) || (!(bt642.2.2.2.1 == bt636.2.2.2.1)))))=true then(laws_FnWordStrict.j0 k t635 bt636.2.2.2.2 bt642.2.2.2.2 true bt636.1 bt636.2.1 bt636.2.2.1 bt636.2.2.2.1 bt642.1 bt642.2.1 bt642.2.2.1 bt642.2.2.2.1) else(laws_FnWordStrict.j0 k t635 bt636.2.2.2.2 bt642.2.2.2.2 (!bt642.2.2.2.2) bt636.1 bt636.2.1 bt636.2.2.1 bt636.2.2.2.1 bt642.1 bt642.2.1 bt642.2.2.1 bt642.2.2.2.1)))))))=some r:=h
 clear h;by_cases c2:(l0.length:Int)>1048576
 ·rw[if_pos c2] at H;have c2b0:decide (1048576<(l0.length:Int))=true:=decide_eq_true c2;have c2b1:decide (1048576<l0.length)=true:=decide_eq_true (by omega);clear c2;obtain rfl:=Option.some.inj H;go_enter Tryd.func13,Tryd.ntmps13;go_wp2;go_ret;exact⟨za10,za2 HB⟩
 ·rw[if_neg c2] at H;have c2b0:decide (1048576<(l0.length:Int))=false:=decide_eq_false c2;have c2b1:decide (1048576<l0.length)=false:=decide_eq_false (by omega);clear c2;replace H:=Option.bind_eq_some_iff.mp H;obtain⟨t635,A30,H⟩:=H
  replace H:((spec_WordRead.f k t635).bind fun bt636=>((impl_WordRead.f k t635).bind fun bt642=>(if(bt642.2.2.2.2 != bt636.2.2.2.2)=true then(laws_FnWordStrict.j0 k t635 bt636.2.2.2.2 bt642.2.2.2.2 true bt636.1 bt636.2.1 bt636.2.2.1 bt636.2.2.2.1 bt642.1 bt642.2.1 bt642.2.2.1 bt642.2.2.2.1) else(if(!(bt642.1 == bt636.1) || (!(bt642.2.1 == bt636.2.1) || (!(bt642.2.2.1 == bt636.2.2.1) || (!(bt642.2.2.2.1 == bt636.2.2.2.1)))))=true then(laws_FnWordStrict.j0 k t635 bt636.2.2.2.2 bt642.2.2.2.2 true bt636.1 bt636.2.1 bt636.2.2.1 bt636.2.2.2.1 bt642.1 bt642.2.1 bt642.2.2.1 bt642.2.2.2.1) else(laws_FnWordStrict.j0 k t635 bt636.2.2.2.2 bt642.2.2.2.2 (!bt642.2.2.2.2) bt636.1 bt636.2.1 bt636.2.2.1 bt636.2.2.2.1 bt642.1 bt642.2.1 bt642.2.2.1 bt642.2.2.2.1)))))=some r:=H
  have A3:=qaj.mk A30;clear A30;replace H:=Option.bind_eq_some_iff.mp H;obtain⟨⟨t636,t637,t638,t639,t640⟩,A40,H⟩:=H;replace H:((impl_WordRead.f k t635).bind fun bt642=>(if(bt642.2.2.2.2 != t640)=true then(laws_FnWordStrict.j0 k t635 t640 bt642.2.2.2.2 true t636 t637 t638 t639 bt642.1 bt642.2.1 bt642.2.2.1 bt642.2.2.2.1) else(if(!(bt642.1 == t636) || (!(bt642.2.1 == t637) || (!(bt642.2.2.1 == t638) || (!(bt642.2.2.2.1 == t639)))))=true then(laws_FnWordStrict.j0 k t635 t640 bt642.2.2.2.2 true t636 t637 t638 t639 bt642.1 bt642.2.1 bt642.2.2.1 bt642.2.2.2.1) else(laws_FnWordStrict.j0 k t635 t640 bt642.2.2.2.2 (!bt642.2.2.2.2) t636 t637 t638 t639 bt642.1 bt642.2.1 bt642.2.2.1 bt642.2.2.2.1))))=some r:=H;have A4:=qaj.mk A40;clear A40;replace H:=Option.bind_eq_some_iff.mp H;obtain⟨⟨t642,t643,t644,t645,t646⟩,A50,H⟩:=H;replace H:(if(t646 != t640)=true then(laws_FnWordStrict.j0 k t635 t640 t646 true t636 t637 t638 t639 t642 t643 t644 t645) else(if(!(t642 == t636) || (!(t643 == t637) || (!(t644 == t638) || (!(t645 == t639)))))=true then(laws_FnWordStrict.j0 k t635 t640 t646 true t636 t637 t638 t639 t642 t643 t644 t645) else(laws_FnWordStrict.j0 k t635 t640 t646 (!t646) t636 t637 t638 t639 t642 t643 t644 t645)))=some r:=H;have A5:=qaj.mk A50;clear A50;have HC6:=qaj.mk H;clear H;go_enter Tryd.func13,Tryd.ntmps13
  go_upto_region 6 with(first|((with_reducible refine qae (f:=36) rfl ?_);refine zF (some 12) Tryd.func36 #[.slice A0 l0.length c0] ?_;(with_reducible refine(spec_DrawWordRead.calls k _ _ l0 t635 _ ?side1 ?side2 A3.out).mono ?_);(case side1=>repeat(first|exact HR0.out|(with_reducible refine Kd.C_alloc ?_ _)|(with_reducible refine Kd.C_drewN ?_ _)|(with_reducible refine Kd.C_drew ?_)));(case side2=>exact HC0.out);rintro e w7 ⟨rfl,hb⟩;refine⟨_,rfl,?_⟩;replace HB:=qaj.mk (qaa (za2 HB) hb);(try clear hb))|((with_reducible refine qae (f:=34) rfl ?_);refine zF (some 15) Tryd.func34 #[.string t635] ?_;(with_reducible refine(spec_WordRead.calls k t635 t636 t637 t638 t639 t640 _ A4.out).mono ?_);rintro e w8 ⟨rfl,hb⟩;refine⟨_,rfl,?_⟩;replace HB:=qaj.mk (qaa (za2 HB) hb);(try clear hb))|((with_reducible refine qai (N:=4) rfl ?_);refine zX (N:=4) (cs:=#[.int .i64 0,.int .i64 0,.int .i64 0,.int .i64 0]) (t:=39) ?_;intro gb641 hg w9 hbox hb;have BK641:=qaj.mk hbox;have GW641:=zH (w:=w) hg (za2 HB);have GE641:=GW641;replace HB:=qaj.mk (qaa (za2 HB) hb);clear hb hbox hg;obtain⟨hcz10_0,hcz10_1,hcz10_2,hcz10_3,hfz10_0,hfz10_1,hfz10_2,hfz10_3⟩:=zC4 BK641)|((with_reducible refine qae (f:=32) rfl ?_);refine zF (some 20) Tryd.func32 #[.string t635] ?_;(with_reducible refine(impl_WordRead.calls k t635 t642 t643 t644 t645 t646 _ ?gw_ A5.out).mono ?_);(case gw_=>exact Tryd.GW.below HGW.out (za0 HB GE641));rintro e w11 ⟨rfl,hb⟩;refine⟨_,rfl,?_⟩;replace BK641:=qaj.mk (qah (g:=gb641) (o:=.cells #[.int .i64 t636,.int .i64 t637,.int .i64 t638,.int .i64 t639] 39 (0,0)) (by(with_reducible repeat(first|refine qac ?_ _|refine qad ?_|refine qab ?_ _));refine qaf (cs:=#[.int .i64 t636,.int .i64 t637,.int .i64 t638,.int .i64 0]) ?_ 3 _ rfl;(with_reducible repeat(first|refine qac ?_ _|refine qad ?_|refine qab ?_ _));refine qaf (cs:=#[.int .i64 t636,.int .i64 t637,.int .i64 0,.int .i64 0]) ?_ 2 _ rfl;(with_reducible repeat(first|refine qac ?_ _|refine qad ?_|refine qab ?_ _));refine qaf (cs:=#[.int .i64 t636,.int .i64 0,.int .i64 0,.int .i64 0]) ?_ 1 _ rfl;(with_reducible repeat(first|refine qac ?_ _|refine qad ?_|refine qab ?_ _));refine qaf (cs:=#[.int .i64 0,.int .i64 0,.int .i64 0,.int .i64 0]) ?_ 0 _ rfl;(with_reducible repeat(first|refine qac ?_ _|refine qad ?_|refine qab ?_ _));exact BK641.out) hb);replace HB:=qaj.mk (qaa (za0 HB GE641) hb);(try clear hb))|((with_reducible refine qai (N:=6) rfl ?_);refine zX (N:=6) (cs:=#[.int .i64 0,.int .i64 0,.int .i64 0,.int .i64 0]) (t:=39) ?_;intro gb647 hg w12 hbox hb;have BK647:=qaj.mk hbox;have GW647:=zH (w:=w) hg (za0 HB GE641);have GE647:=GW647;replace HB:=qaj.mk (qaa (za0 HB GE641) hb);have NB641_647:=zL BK641 hg;have NB647_641:=zG BK641 hg;replace BK641:=zY BK641 hb;clear hb hbox hg;have hnb13:=NB647_641.out;have hnc13:=NB641_647.out;obtain⟨hcz14_0,hcz14_1,hcz14_2,hcz14_3,hfz14_0,hfz14_1,hfz14_2,hfz14_3⟩:=zC4 BK647))
  (try simp only[Act.put,List.setIfInBounds_toArray,List.set_cons_zero,List.set_cons_succ])
  go_cut [34] (fun v34 wc=>∃(kq:Nat) (x34_5:Bool),v34=.bool x34_5∧qaj (laws_FnWordStrict.j0 kq t635 t640 t646 x34_5 t636 t637 t638 t639 t642 t643 t644 t645=some r)∧qaj (kq≤k)∧qaj (wc.heap[gb641]?=some (.cells #[.int .i64 t636,.int .i64 t637,.int .i64 t638,.int .i64 t639] 39 (0,0)))∧qaj (wc.heap[gb647]?=some (.cells #[.int .i64 t642,.int .i64 t643,.int .i64 t644,.int .i64 t645] 39 (0,0)))∧qaj (Below w.heap.size w wc))
  case first=>
   have H:=HC6.out;clear HC6;by_cases c15:(t646 != t640)=true
   ·rw[if_pos c15] at H;have c15b0:(t646 != t640)=true:=c15;(try(have c15b1:decide (t646=t640)=false:=by simpa using c15));(try(have c15b2:(t646 == t640)=false:=by simpa using c15));(try(have c15b3:¬(t646=t640):=by simpa using c15));clear c15;(first|rw[c15b0]|(simp only[qak,qal];rw[c15b0])|skip);have H':=qaj.mk H;clear H;go_wp2
    go_meet
    case rel=>exact⟨_,(true),(za23),H',⟨za34⟩,⟨za5 NB641_647 BK641⟩,⟨by(with_reducible repeat(first|refine qac ?_ _|refine qad ?_|refine qab ?_ _));refine qaf (cs:=#[.int .i64 t642,.int .i64 t643,.int .i64 t644,.int .i64 0]) ?_ 3 _ rfl;(with_reducible repeat(first|refine qac ?_ _|refine qad ?_|refine qab ?_ _));refine qaf (cs:=#[.int .i64 t642,.int .i64 t643,.int .i64 0,.int .i64 0]) ?_ 2 _ rfl;(with_reducible repeat(first|refine qac ?_ _|refine qad ?_|refine qab ?_ _));refine qaf (cs:=#[.int .i64 t642,.int .i64 0,.int .i64 0,.int .i64 0]) ?_ 1 _ rfl;(with_reducible repeat(first|refine qac ?_ _|refine qad ?_|refine qab ?_ _));refine qaf (cs:=#[.int .i64 0,.int .i64 0,.int .i64 0,.int .i64 0]) ?_ 0 _ rfl;(with_reducible repeat(first|refine qac ?_ _|refine qad ?_|refine qab ?_ _));exact BK647.out⟩,⟨za1 HB GE641 GE647⟩⟩
   ·rw[if_neg c15] at H
    have c15b0:(t646 != t640)=false:=by simpa using c15
    (try(have c15b1:decide (t646=t640)=true:=by simpa using c15));(try(have c15b2:(t646 == t640)=true:=by simpa using c15));clear c15;(first|rw[c15b0]|(simp only[qak,qal];rw[c15b0])|skip);by_cases c16:(!(t642 == t636) || (!(t643 == t637) || (!(t644 == t638) || (!(t645 == t639)))))=true
    ·rw[if_pos c16] at H;have c16b0:(!(t642 == t636) || (!(t643 == t637) || (!(t644 == t638) || (!(t645 == t639)))))=true:=c16;clear c16;have H':=qaj.mk H;clear H;have hnb17:=NB647_641.out;have hnc17:=NB641_647.out;obtain⟨hcz18_0,hcz18_1,hcz18_2,hcz18_3,hfz18_0,hfz18_1,hfz18_2,hfz18_3⟩:=zC4 BK647;obtain⟨hcz19_0,hcz19_1,hcz19_2,hcz19_3,hfz19_0,hfz19_1,hfz19_2,hfz19_3⟩:=zC4 BK641;go_wp2
     go_meet
     case rel=>exact⟨_,(true),(za23),H',⟨za34⟩,⟨za5 NB641_647 BK641⟩,⟨by(with_reducible repeat(first|refine qac ?_ _|refine qad ?_|refine qab ?_ _));refine qaf (cs:=#[.int .i64 t642,.int .i64 t643,.int .i64 t644,.int .i64 0]) ?_ 3 _ rfl;(with_reducible repeat(first|refine qac ?_ _|refine qad ?_|refine qab ?_ _));refine qaf (cs:=#[.int .i64 t642,.int .i64 t643,.int .i64 0,.int .i64 0]) ?_ 2 _ rfl;(with_reducible repeat(first|refine qac ?_ _|refine qad ?_|refine qab ?_ _));refine qaf (cs:=#[.int .i64 t642,.int .i64 0,.int .i64 0,.int .i64 0]) ?_ 1 _ rfl;(with_reducible repeat(first|refine qac ?_ _|refine qad ?_|refine qab ?_ _));refine qaf (cs:=#[.int .i64 0,.int .i64 0,.int .i64 0,.int .i64 0]) ?_ 0 _ rfl;(with_reducible repeat(first|refine qac ?_ _|refine qad ?_|refine qab ?_ _));exact BK647.out⟩,⟨za1 HB GE641 GE647⟩⟩
    ·rw[if_neg c16] at H
     have c16b0:(!(t642 == t636) || (!(t643 == t637) || (!(t644 == t638) || (!(t645 == t639)))))=false:=by simpa using c16
     clear c16;have H':=qaj.mk H;clear H;have hnb20:=NB647_641.out;have hnc20:=NB641_647.out;obtain⟨hcz21_0,hcz21_1,hcz21_2,hcz21_3,hfz21_0,hfz21_1,hfz21_2,hfz21_3⟩:=zC4 BK647;obtain⟨hcz22_0,hcz22_1,hcz22_2,hcz22_3,hfz22_0,hfz22_1,hfz22_2,hfz22_3⟩:=zC4 BK641;go_wp2
     go_meet
     case rel=>exact⟨_,(!t646),(za23),H',⟨za34⟩,⟨za5 NB641_647 BK641⟩,⟨by(with_reducible repeat(first|refine qac ?_ _|refine qad ?_|refine qab ?_ _));refine qaf (cs:=#[.int .i64 t642,.int .i64 t643,.int .i64 t644,.int .i64 0]) ?_ 3 _ rfl;(with_reducible repeat(first|refine qac ?_ _|refine qad ?_|refine qab ?_ _));refine qaf (cs:=#[.int .i64 t642,.int .i64 t643,.int .i64 0,.int .i64 0]) ?_ 2 _ rfl;(with_reducible repeat(first|refine qac ?_ _|refine qad ?_|refine qab ?_ _));refine qaf (cs:=#[.int .i64 t642,.int .i64 0,.int .i64 0,.int .i64 0]) ?_ 1 _ rfl;(with_reducible repeat(first|refine qac ?_ _|refine qad ?_|refine qab ?_ _));refine qaf (cs:=#[.int .i64 0,.int .i64 0,.int .i64 0,.int .i64 0]) ?_ 0 _ rfl;(with_reducible repeat(first|refine qac ?_ _|refine qad ?_|refine qab ?_ _));exact BK647.out⟩,⟨za1 HB GE641 GE647⟩⟩
  case rest=>
   clear HC6
   try clear c1
   try clear c2
   try clear c2b0
   try clear c2b1
   try clear p2
   try clear c3
   try clear c13
   try clear c15
   try clear c15b0
   try clear c15b1
   try clear c15b2
   try clear c16
   try clear c16b0
   try clear c17
   try clear c20
   try clear hcz10_0
   try clear hcz10_1
   try clear hcz10_2
   try clear hcz10_3
   try clear hcz14_0
   try clear hcz14_1
   try clear hcz14_2
   try clear hcz14_3
   try clear hcz18_0
   try clear hcz18_1
   try clear hcz18_2
   try clear hcz18_3
   try clear hcz19_0
   try clear hcz19_1
   try clear hcz19_2
   try clear hcz19_3
   try clear hcz21_0
   try clear hcz21_1
   try clear hcz21_2
   try clear hcz21_3
   try clear hcz22_0
   try clear hcz22_1
   try clear hcz22_2
   try clear hcz22_3
   try clear hfz10_0
   try clear hfz10_1
   try clear hfz10_2
   try clear hfz10_3
   try clear hfz14_0
   try clear hfz14_1
   try clear hfz14_2
   try clear hfz14_3
   try clear hfz18_0
   try clear hfz18_1
   try clear hfz18_2
   try clear hfz18_3
   try clear hfz19_0
   try clear hfz19_1
   try clear hfz19_2
   try clear hfz19_3
   try clear hfz21_0
   try clear hfz21_1
   try clear hfz21_2
   try clear hfz21_3
   try clear hfz22_0
   try clear hfz22_1
   try clear hfz22_2
   try clear hfz22_3
   obtain⟨kq,x34_5,rfl,HA,HJ5,BK641,BK647,HB⟩:=hcut
   cases kq with
   |zero=>exact absurd HA.out (by simp[laws_FnWordStrict.j0])
   |succ kj5=>
    have H:=HA.out;clear HA;simp only[laws_FnWordStrict.j0] at H;by_cases c23:x34_5=true
    ·subst c23
     have H1:(if(t646 == t640)=true then(some (t642 == t636 && (t643 == t637 && (t644 == t638 && (t645 == t639))))) else(some false))=some r:=by rw[if_pos rfl] at H;exact H
     clear H;have H:=H1;clear H1;by_cases c24:(t646 == t640)=true
     ·rw[if_pos c24] at H;have c24b0:(t646 == t640)=true:=c24;(try(have c24b1:decide (t646=t640)=true:=by simpa using c24));(try(have c24b2:(t646 == t640)=true:=by simpa using c24));clear c24;obtain rfl:=Option.some.inj H;have hnb25:=NB647_641.out;have hnc25:=NB641_647.out;obtain⟨hcz26_0,hcz26_1,hcz26_2,hcz26_3,hfz26_0,hfz26_1,hfz26_2,hfz26_3⟩:=zC4 BK647;obtain⟨hcz27_0,hcz27_1,hcz27_2,hcz27_3,hfz27_0,hfz27_1,hfz27_2,hfz27_3⟩:=zC4 BK641;go_wp2;go_ret;exact⟨za10,za1 HB GE641 GE647⟩
     ·rw[if_neg c24] at H
      have c24b0:(t646 == t640)=false:=by simpa using c24
      (try(have c24b1:decide (t646=t640)=false:=by simpa using c24));(try(have c24b2:(t646 == t640)=false:=by simpa using c24));(try(have c24b3:¬(t646=t640):=by simpa using c24));clear c24;obtain rfl:=Option.some.inj H;go_wp2;go_ret;exact⟨za10,za1 HB GE641 GE647⟩
    ·replace c23:=Bool.eq_false_iff.mpr c23;subst c23
     have H1:((impl_WordOk.f t642 t643 t644 t645).bind fun t648=>(if t648=true then((impl_WordText.f t642 t643 t644 t645).bind fun t649=>(some (t649.toList == t635.toList))) else(some false)))=some r:=by rw[if_neg (show ¬(false=true) by decide)] at H;exact H
     clear H;have H:=H1;clear H1;replace H:=Option.bind_eq_some_iff.mp H;obtain⟨t648,A280,H⟩:=H;replace H:(if t648=true then((impl_WordText.f t642 t643 t644 t645).bind fun t649=>(some (t649.toList == t635.toList))) else(some false))=some r:=H;have A28:=qaj.mk A280;clear A280;by_cases c29:t648=true
     ·subst c29
      have H1:((impl_WordText.f t642 t643 t644 t645).bind fun t649=>(some (t649.toList == t635.toList)))=some r:=by rw[if_pos rfl] at H;exact H
      clear H;have H:=H1;clear H1;replace H:=Option.bind_eq_some_iff.mp H;obtain⟨t649,A300,H⟩:=H;replace H:(some (t649.toList == t635.toList))=some r:=H;have A30:=qaj.mk A300;clear A300;obtain rfl:=Option.some.inj H;have hnb31:=NB647_641.out;have hnc31:=NB641_647.out;obtain⟨hcz32_0,hcz32_1,hcz32_2,hcz32_3,hfz32_0,hfz32_1,hfz32_2,hfz32_3⟩:=zC4 BK647
      go_wp2_with(first|((with_reducible refine qae (f:=33) rfl ?_);refine zF (some 44) Tryd.func33 #[.agg #[.int .i64 t642,.int .i64 t643,.int .i64 t644,.int .i64 t645]] ?_;(with_reducible refine(impl_WordOk.calls t642 t643 t644 t645 true _ A28.out).mono ?_);rintro e w33 ⟨rfl,hb⟩;refine⟨_,rfl,?_⟩;replace BK641:=zY BK641 hb;replace BK647:=zY BK647 hb;replace HB:=qaj.mk (qaa (za1 HB GE641 GE647) hb);(try clear hb);obtain⟨hcz34_0,hcz34_1,hcz34_2,hcz34_3,hfz34_0,hfz34_1,hfz34_2,hfz34_3⟩:=zC4 BK647)|(go_at_call 28;(with_reducible refine(impl_WordText.calls t642 t643 t644 t645 t649 _ A30.out).mono ?_);rintro e w35 ⟨rfl,hb⟩;replace BK641:=zY BK641 hb;replace BK647:=zY BK647 hb;replace HB:=qaj.mk (qaa (za1 HB GE641 GE647) hb);(try clear hb)))
      go_ret;exact⟨za10,za1 HB GE641 GE647⟩
     ·replace c29:=Bool.eq_false_iff.mpr c29;subst c29
      have H1:(some false)=some r:=by rw[if_neg (show ¬(false=true) by decide)] at H;exact H
      clear H;have H:=H1;clear H1;obtain rfl:=Option.some.inj H;have hnb36:=NB647_641.out;have hnc36:=NB641_647.out;obtain⟨hcz37_0,hcz37_1,hcz37_2,hcz37_3,hfz37_0,hfz37_1,hfz37_2,hfz37_3⟩:=zC4 BK647
      go_wp2_with(first|((with_reducible refine qae (f:=33) rfl ?_);refine zF (some 44) Tryd.func33 #[.agg #[.int .i64 t642,.int .i64 t643,.int .i64 t644,.int .i64 t645]] ?_;(with_reducible refine(impl_WordOk.calls t642 t643 t644 t645 false _ A28.out).mono ?_);rintro e w38 ⟨rfl,hb⟩;refine⟨_,rfl,?_⟩;replace BK641:=zY BK641 hb;replace BK647:=zY BK647 hb;replace HB:=qaj.mk (qaa (za1 HB GE641 GE647) hb);(try clear hb)))
      go_ret;exact⟨za10,za1 HB GE641 GE647⟩
def laws_FnWordStrict.Pure:Prop:=∀(l0:List Int),l0.length≤maxLen→l0.length*1≤140737488351232→(∀x ∈ l0,(Lit.int .u8 x).wf=true)→∃k,laws_FnWordStrict.f k l0=some true
theorem laws_FnWordStrict.walk (P:laws_FnWordStrict.Pure) (a0:Option Addr) (len0 cap0:Nat) (z0:List Int) (w:World) (w0:(a0=none∧len0=0∧cap0=0∧z0=[])∨∃x,a0=some x∧len0≤cap0∧cap0≤maxLen∧z0.length=cap0∧(∀i,i<z0.length→w.cell? (x.add i)=some (.int .u8 (z0.getD i 0)))∧∀n ∈ z0,(Lit.int .u8 n).wf=true) (y0:len0*1≤140737488351232) (hgw:Tryd.GW w) :
  Calls Tryd.prog 13 #[.slice a0 len0 cap0] w fun e w'=>e=.returned (.bool true)∧Below w.heap.size w w':=by
 obtain⟨l0,rfl,hr0,hm0,hw0,hc0⟩:=ReadsInt.ofRowC w0;obtain⟨k,h⟩:=P l0 hm0 y0 hw0;refine(laws_FnWordStrict.calls k _ _ l0 true w (Kd.C_of_reads (d:=(0:Int)) (h1:=fun _=>rfl) hr0) hc0 hgw h).mono ?_;rintro e w' ⟨rfl,hd⟩;exact⟨rfl,hd⟩
end Go.Proofs.YtbcepmkifomifaaDoor.Print
