-- Written by squeeze.py: not trusted, Lean checks it.
import Derived.Test.YtmbdphefnalenaaZK
import Derived.Test.YtmbdphefnalenaaZc0
import Derived.Test.YtmbdphefnalenaaZc5
import Derived.Test.YtmbdphefnalenaaZo1
namespace Go.Proofs.Ytmbdphefnalenaa.Print
open Go.RowKit Go.Proofs.YtmbdphefnalenaaW.PrintWords Go.Proofs.YtmbdphefnalenaaW.PrintLast Go.Proofs.YtmbdphefnalenaaW.PrintMore
attribute [local go_sem] max2_int min2_int max_two min_two max_three min_three max_four min_four
set_option linter.unusedVariables false
set_option linter.unusedSimpArgs false
def spec_HouseOk.f (k:Nat) (a0_0:Int) (a0_1:Bool) (a0_2:Int) (l0_3:List (S32)) (a0_4:Int):Option (Bool):=(spec_l2Of.f k a0_2 l0_3).bind fun bt1155=>((spec_l6In.f a0_0 1 3).bind fun t1161=>(if t1161=true then((spec_LogOk.f k l0_3 a0_4).bind fun t1162=>(if t1162=true then(some bt1155.2.2) else(some false))) else(some false)))
theorem spec_HouseOk.mono:∀a0 a1 a2 a3 a4 k,LeO (spec_HouseOk.f k a0 a1 a2 a3 a4) (spec_HouseOk.f (k+1) a0 a1 a2 a3 a4):=by
 intro a0 a1 a2 a3 a4 k
 unfold spec_HouseOk.f
 repeat' first
   |(with_reducible exact spec_LogOk.mono _ _ _)
   |(with_reducible exact spec_l2Of.mono _ _ _)
   |(with_reducible exact LeO.refl _)
   |(with_reducible exact LeO.none _)
   |(with_reducible refine LeO.ite ?_ ?_)
   |(with_reducible refine LeO.bind ?_ (fun _=>?_))
   |exact spec_LogOk.mono _ _ _
   |exact spec_l2Of.mono _ _ _
   |exact LeO.none _
   |refine LeO.ite ?_ ?_
   |refine LeO.bind ?_ (fun _=>?_)
set_option maxHeartbeats 8000000 in
set_option maxRecDepth 100000 in
theorem spec_HouseOk.calls (k:Nat) (a0_0:Int) (a0_1:Bool) (a0_2:Int) (A0_3:Option Addr) (c0_3:Nat) (l0_3:List (S32)) (a0_4:Int) (r:Bool) (w:World) (hr0_3:Kd.C k32 w A0_3 l0_3.length l0_3) (hc0_3:l0_3.length≤c0_3) (h:spec_HouseOk.f k a0_0 a0_1 a0_2 l0_3 a0_4=some r) :
  Calls Try.prog 45 #[.agg #[.int .i64 a0_0,.bool a0_1,.int .i64 a0_2,.slice A0_3 l0_3.length c0_3,.int .i64 a0_4]] w fun e w'=>e=.returned (.bool r)∧Below w.heap.size w w':=by
 have hu72:=Try.underlying72
 have hu38:=Try.underlying38
 have hu70:=Try.underlying70
 have HR0_3:=Aside0.mk hr0_3
 have HC0_3:=Aside0.mk hc0_3
 clear hr0_3 hc0_3
 have HB:=Aside0.mk (Below.refl w.heap.size w)
 have H:((spec_l2Of.f k a0_2 l0_3).bind fun bt1155=>((spec_l6In.f a0_0 1 3).bind fun t1161=>(if t1161=true then((spec_LogOk.f k l0_3 a0_4).bind fun t1162=>(if t1162=true then(some bt1155.2.2) else(some false))) else(some false))))=some r:=h
 clear h
 replace H:=Option.bind_eq_some_iff.mp H
 obtain⟨⟨t1155,t1156,t1159⟩,A20,H⟩:=H
 replace H:((spec_l6In.f a0_0 1 3).bind fun t1161=>(if t1161=true then((spec_LogOk.f k l0_3 a0_4).bind fun t1162=>(if t1162=true then(some t1159) else(some false))) else(some false)))=some r:=H
 have A2:=Aside0.mk A20
 clear A20
 replace H:=Option.bind_eq_some_iff.mp H
 obtain⟨t1161,A30,H⟩:=H
 replace H:(if t1161=true then((spec_LogOk.f k l0_3 a0_4).bind fun t1162=>(if t1162=true then(some t1159) else(some false))) else(some false))=some r:=H
 have A3:=Aside0.mk A30
 clear A30
 by_cases c4:t1161=true
 ·subst c4
  have H1:((spec_LogOk.f k l0_3 a0_4).bind fun t1162=>(if t1162=true then(some t1159) else(some false)))=some r:=by rw[if_pos rfl] at H;exact H
  clear H
  have H:=H1
  clear H1
  replace H:=Option.bind_eq_some_iff.mp H
  obtain⟨t1162,A50,H⟩:=H
  replace H:(if t1162=true then(some t1159) else(some false))=some r:=H
  have A5:=Aside0.mk A50
  clear A50
  by_cases c6:t1162=true
  ·subst c6
   have H1:(some t1159)=some r:=by rw[if_pos rfl] at H;exact H
   clear H
   have H:=H1
   clear H1
   obtain rfl:=Option.some.inj H
   go_enter Try.func45,Try.ntmps45
   go_wp2_with(first|((with_reducible refine qae (N:=1) rfl ?_);refine zX (N:=1) (cs:=#[.int .i64 a0_0,.bool a0_1,.int .i64 a0_2,.slice A0_3 l0_3.length c0_3,.int .i64 a0_4]) (t:=72) ?_;intro gb1154 hg w7 hbox hb;have BK1154:=Aside0.mk hbox;have GW1154:=zH (w:=w) hg (za4 HB);have GE1154:=GW1154;replace HB:=Aside0.mk (qab (za4 HB) hb);clear hb hbox hg;obtain⟨hcz8_0,hcz8_1,hcz8_2,hcz8_3,hcz8_4,hfz8_0,hfz8_1,hfz8_2,hfz8_3,hfz8_4⟩:=zC5 BK1154)|((with_reducible refine qac (f:=55) rfl ?_);refine zF (some 11) Try.func55 #[.int .i64 a0_2,.slice A0_3 l0_3.length c0_3] ?_;(with_reducible refine(spec_l2Of.calls k a0_2 _ _ l0_3 t1155 t1156 t1159 _ ?side1 ?side2 A2.out).mono ?_);(case side1=>exact zR HR0_3 HB);(case side2=>exact HC0_3.out);rintro e w9 ⟨v1157,rfl,ho0,hb⟩;refine⟨_,rfl,?_⟩;have HO1158:=Aside0.mk (Kd.R_lower ho0 (below_size (za1 HB GE1154)));replace BK1154:=Aside0.mk (qaa (zB BK1154) hb);replace HB:=Aside0.mk (qab (za1 HB GE1154) hb);(try clear hb);(try clear ho0))|((with_reducible refine qae (N:=3) rfl ?_);refine zX (N:=3) (cs:=#[.int .i64 0,.slice none 0 0]) (t:=38) ?_;intro gb1160 hg w10 hbox hb;replace HO1158:=Aside0.mk (Kd.R_below (za5 HO1158) hb);have BK1160:=Aside0.mk hbox;have GW1160:=zH (w:=w) hg (za1 HB GE1154);have GE1160:=GW1160;replace HB:=Aside0.mk (qab (za1 HB GE1154) hb);have NB1154_1160:=zL BK1154 hg;have NB1160_1154:=zG BK1154 hg;replace BK1154:=Aside0.mk (qaa (zB BK1154) hb);clear hb hbox hg;have hnb11:=NB1160_1154.out;have hnc11:=NB1154_1160.out;obtain⟨hcz12_0,hcz12_1,hfz12_0,hfz12_1⟩:=zC2 BK1160;obtain⟨Ao13,co13,eo13⟩:=Kd.R_slice HO1158.out;subst eo13;obtain⟨hcz14_0,hcz14_1,hcz14_2,hcz14_3,hcz14_4,hfz14_0,hfz14_1,hfz14_2,hfz14_3,hfz14_4⟩:=zC5 BK1154)|((with_reducible refine qac (f:=80) rfl ?_);refine zF (some 16) Try.func80 #[.int .i64 a0_0,.int .i64 1,.int .i64 3] ?_;(with_reducible refine(spec_l6In.calls a0_0 1 3 true _ A3.out).mono ?_);rintro e w' ⟨rfl,⟨nd,rfl⟩⟩;refine⟨_,rfl,?_⟩)|(go_at_call 81;(with_reducible refine(spec_LogOk.calls k _ _ l0_3 a0_4 true _ ?side1 ?side2 A5.out).mono ?_);(case side1=>exact Kd.C_below HR0_3.out (za2 HB GE1154 GE1160));(case side2=>exact HC0_3.out);rintro e w15 ⟨rfl,hb⟩;replace HO1158:=Aside0.mk (Kd.R_below (by(with_reducible repeat(first|apply Kd.R_alloc|apply Kd.R_drewN|apply Kd.R_drew));exact(Kd.R_mono (Kd.R_far (p:=⟨gb1160,1,none⟩) (Kd.R_far (p:=⟨gb1160,0,none⟩) (Kd.R_types HO1158.out BK1160.out (by decide)) (fun _ hk=>hk.2) (.int .i64 t1155)) (fun _ hk=>hk.2) (.slice Ao13 t1156.length co13)) (fun _ h_=>h_.1))) hb);replace BK1154:=Aside0.mk (qaa (g:=gb1154) (o:=.cells #[.int .i64 a0_0,.bool a0_1,.int .i64 a0_2,.slice A0_3 l0_3.length c0_3,.int .i64 a0_4] 72 (0,0)) (za0 NB1154_1160 BK1154) hb);replace BK1160:=Aside0.mk (qaa (g:=gb1160) (o:=.cells #[.int .i64 t1155,.slice Ao13 t1156.length co13] 38 (0,0)) (by(with_reducible repeat(first|refine blk_drewN ?_ _|refine blk_drew ?_|refine blk_alloc ?_ _));refine qad (cs:=#[.int .i64 t1155,.slice none 0 0]) ?_ 1 _ rfl;(with_reducible repeat(first|refine blk_drewN ?_ _|refine blk_drew ?_|refine blk_alloc ?_ _));refine qad (cs:=#[.int .i64 0,.slice none 0 0]) ?_ 0 _ rfl;(with_reducible repeat(first|refine blk_drewN ?_ _|refine blk_drew ?_|refine blk_alloc ?_ _));exact BK1160.out) hb);replace HB:=Aside0.mk (qab (za2 HB GE1154 GE1160) hb);(try clear hb)))
   go_ret
   exact⟨za16,za2 HB GE1154 GE1160⟩
  ·replace c6:=Bool.eq_false_iff.mpr c6
   subst c6
   have H1:(some false)=some r:=by rw[if_neg (show ¬(false=true) by decide)] at H;exact H
   clear H
   have H:=H1
   clear H1
   obtain rfl:=Option.some.inj H
   go_enter Try.func45,Try.ntmps45
   go_wp2_with(first|((with_reducible refine qae (N:=1) rfl ?_);refine zX (N:=1) (cs:=#[.int .i64 a0_0,.bool a0_1,.int .i64 a0_2,.slice A0_3 l0_3.length c0_3,.int .i64 a0_4]) (t:=72) ?_;intro gb1154 hg w16 hbox hb;have BK1154:=Aside0.mk hbox;have GW1154:=zH (w:=w) hg (za4 HB);have GE1154:=GW1154;replace HB:=Aside0.mk (qab (za4 HB) hb);clear hb hbox hg;obtain⟨hcz17_0,hcz17_1,hcz17_2,hcz17_3,hcz17_4,hfz17_0,hfz17_1,hfz17_2,hfz17_3,hfz17_4⟩:=zC5 BK1154)|((with_reducible refine qac (f:=55) rfl ?_);refine zF (some 11) Try.func55 #[.int .i64 a0_2,.slice A0_3 l0_3.length c0_3] ?_;(with_reducible refine(spec_l2Of.calls k a0_2 _ _ l0_3 t1155 t1156 t1159 _ ?side1 ?side2 A2.out).mono ?_);(case side1=>exact zR HR0_3 HB);(case side2=>exact HC0_3.out);rintro e w18 ⟨v1157,rfl,ho0,hb⟩;refine⟨_,rfl,?_⟩;have HO1158:=Aside0.mk (Kd.R_lower ho0 (below_size (za1 HB GE1154)));replace BK1154:=Aside0.mk (qaa (zB BK1154) hb);replace HB:=Aside0.mk (qab (za1 HB GE1154) hb);(try clear hb);(try clear ho0))|((with_reducible refine qae (N:=3) rfl ?_);refine zX (N:=3) (cs:=#[.int .i64 0,.slice none 0 0]) (t:=38) ?_;intro gb1160 hg w19 hbox hb;replace HO1158:=Aside0.mk (Kd.R_below (za5 HO1158) hb);have BK1160:=Aside0.mk hbox;have GW1160:=zH (w:=w) hg (za1 HB GE1154);have GE1160:=GW1160;replace HB:=Aside0.mk (qab (za1 HB GE1154) hb);have NB1154_1160:=zL BK1154 hg;have NB1160_1154:=zG BK1154 hg;replace BK1154:=Aside0.mk (qaa (zB BK1154) hb);clear hb hbox hg;have hnb20:=NB1160_1154.out;have hnc20:=NB1154_1160.out;obtain⟨hcz21_0,hcz21_1,hfz21_0,hfz21_1⟩:=zC2 BK1160;obtain⟨Ao22,co22,eo22⟩:=Kd.R_slice HO1158.out;subst eo22;obtain⟨hcz23_0,hcz23_1,hcz23_2,hcz23_3,hcz23_4,hfz23_0,hfz23_1,hfz23_2,hfz23_3,hfz23_4⟩:=zC5 BK1154)|((with_reducible refine qac (f:=80) rfl ?_);refine zF (some 16) Try.func80 #[.int .i64 a0_0,.int .i64 1,.int .i64 3] ?_;(with_reducible refine(spec_l6In.calls a0_0 1 3 true _ A3.out).mono ?_);rintro e w' ⟨rfl,⟨nd,rfl⟩⟩;refine⟨_,rfl,?_⟩)|(go_at_call 81;(with_reducible refine(spec_LogOk.calls k _ _ l0_3 a0_4 false _ ?side1 ?side2 A5.out).mono ?_);(case side1=>exact Kd.C_below HR0_3.out (za2 HB GE1154 GE1160));(case side2=>exact HC0_3.out);rintro e w24 ⟨rfl,hb⟩;replace HO1158:=Aside0.mk (Kd.R_below (by(with_reducible repeat(first|apply Kd.R_alloc|apply Kd.R_drewN|apply Kd.R_drew));exact(Kd.R_mono (Kd.R_far (p:=⟨gb1160,1,none⟩) (Kd.R_far (p:=⟨gb1160,0,none⟩) (Kd.R_types HO1158.out BK1160.out (by decide)) (fun _ hk=>hk.2) (.int .i64 t1155)) (fun _ hk=>hk.2) (.slice Ao22 t1156.length co22)) (fun _ h_=>h_.1))) hb);replace BK1154:=Aside0.mk (qaa (g:=gb1154) (o:=.cells #[.int .i64 a0_0,.bool a0_1,.int .i64 a0_2,.slice A0_3 l0_3.length c0_3,.int .i64 a0_4] 72 (0,0)) (za0 NB1154_1160 BK1154) hb);replace BK1160:=Aside0.mk (qaa (g:=gb1160) (o:=.cells #[.int .i64 t1155,.slice Ao22 t1156.length co22] 38 (0,0)) (by(with_reducible repeat(first|refine blk_drewN ?_ _|refine blk_drew ?_|refine blk_alloc ?_ _));refine qad (cs:=#[.int .i64 t1155,.slice none 0 0]) ?_ 1 _ rfl;(with_reducible repeat(first|refine blk_drewN ?_ _|refine blk_drew ?_|refine blk_alloc ?_ _));refine qad (cs:=#[.int .i64 0,.slice none 0 0]) ?_ 0 _ rfl;(with_reducible repeat(first|refine blk_drewN ?_ _|refine blk_drew ?_|refine blk_alloc ?_ _));exact BK1160.out) hb);replace HB:=Aside0.mk (qab (za2 HB GE1154 GE1160) hb);(try clear hb)))
   go_ret
   exact⟨za16,za2 HB GE1154 GE1160⟩
 ·replace c4:=Bool.eq_false_iff.mpr c4
  subst c4
  have H1:(some false)=some r:=by rw[if_neg (show ¬(false=true) by decide)] at H;exact H
  clear H
  have H:=H1
  clear H1
  obtain rfl:=Option.some.inj H
  go_enter Try.func45,Try.ntmps45
  go_wp2_with(first|((with_reducible refine qae (N:=1) rfl ?_);refine zX (N:=1) (cs:=#[.int .i64 a0_0,.bool a0_1,.int .i64 a0_2,.slice A0_3 l0_3.length c0_3,.int .i64 a0_4]) (t:=72) ?_;intro gb1154 hg w25 hbox hb;have BK1154:=Aside0.mk hbox;have GW1154:=zH (w:=w) hg (za4 HB);have GE1154:=GW1154;replace HB:=Aside0.mk (qab (za4 HB) hb);clear hb hbox hg;obtain⟨hcz26_0,hcz26_1,hcz26_2,hcz26_3,hcz26_4,hfz26_0,hfz26_1,hfz26_2,hfz26_3,hfz26_4⟩:=zC5 BK1154)|((with_reducible refine qac (f:=55) rfl ?_);refine zF (some 11) Try.func55 #[.int .i64 a0_2,.slice A0_3 l0_3.length c0_3] ?_;(with_reducible refine(spec_l2Of.calls k a0_2 _ _ l0_3 t1155 t1156 t1159 _ ?side1 ?side2 A2.out).mono ?_);(case side1=>exact zR HR0_3 HB);(case side2=>exact HC0_3.out);rintro e w27 ⟨v1157,rfl,ho0,hb⟩;refine⟨_,rfl,?_⟩;have HO1158:=Aside0.mk (Kd.R_lower ho0 (below_size (za1 HB GE1154)));replace BK1154:=Aside0.mk (qaa (zB BK1154) hb);replace HB:=Aside0.mk (qab (za1 HB GE1154) hb);(try clear hb);(try clear ho0))|((with_reducible refine qae (N:=3) rfl ?_);refine zX (N:=3) (cs:=#[.int .i64 0,.slice none 0 0]) (t:=38) ?_;intro gb1160 hg w28 hbox hb;replace HO1158:=Aside0.mk (Kd.R_below (za5 HO1158) hb);have BK1160:=Aside0.mk hbox;have GW1160:=zH (w:=w) hg (za1 HB GE1154);have GE1160:=GW1160;replace HB:=Aside0.mk (qab (za1 HB GE1154) hb);have NB1154_1160:=zL BK1154 hg;have NB1160_1154:=zG BK1154 hg;replace BK1154:=Aside0.mk (qaa (zB BK1154) hb);clear hb hbox hg;have hnb29:=NB1160_1154.out;have hnc29:=NB1154_1160.out;obtain⟨hcz30_0,hcz30_1,hfz30_0,hfz30_1⟩:=zC2 BK1160;obtain⟨Ao31,co31,eo31⟩:=Kd.R_slice HO1158.out;subst eo31;obtain⟨hcz32_0,hcz32_1,hcz32_2,hcz32_3,hcz32_4,hfz32_0,hfz32_1,hfz32_2,hfz32_3,hfz32_4⟩:=zC5 BK1154)|((with_reducible refine qac (f:=80) rfl ?_);refine zF (some 16) Try.func80 #[.int .i64 a0_0,.int .i64 1,.int .i64 3] ?_;(with_reducible refine(spec_l6In.calls a0_0 1 3 false _ A3.out).mono ?_);rintro e w' ⟨rfl,⟨nd,rfl⟩⟩;refine⟨_,rfl,?_⟩))
  go_ret
  exact⟨za16,za2 HB GE1154 GE1160⟩
end Go.Proofs.Ytmbdphefnalenaa.Print
