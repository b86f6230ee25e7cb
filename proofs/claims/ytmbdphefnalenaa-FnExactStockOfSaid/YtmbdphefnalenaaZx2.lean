-- Written by squeeze.py: not trusted, Lean checks it.
import Derived.Test.YtmbdphefnalenaaZK
import Derived.Test.YtmbdphefnalenaaZj0
import Derived.Test.YtmbdphefnalenaaZk0
import Derived.Test.YtmbdphefnalenaaZw1
import Derived.Test.YtmbdphefnalenaaZw2
import Derived.Test.YtmbdphefnalenaaZx0
import Derived.Test.YtmbdphefnalenaaZx1
namespace Go.Proofs.Ytmbdphefnalenaa.Print
open Go.RowKit Go.Proofs.YtmbdphefnalenaaW.PrintWords Go.Proofs.YtmbdphefnalenaaW.PrintLast Go.Proofs.YtmbdphefnalenaaW.PrintMore
attribute [local go_sem] max2_int min2_int max_two min_two max_three min_three max_four min_four
set_option linter.unusedVariables false
set_option linter.unusedSimpArgs false
mutual
def laws_FnExactStockOf.j0:Nat→Int→List (S54)→Bool→List (S32)→Bool→Bool→Int→List (S49)→Int→List (S49)→Option (Bool)
 |0,_,_,_,_,_,_,_,_,_,_=>none
 |k+1,x0,x1,x7,x8,x10,x44,x1122000,x1122001,x1131000,x1131001=>if x44=true then(some false) else((laws_toRecS.f k x1).bind fun t1132=>((laws_eqRecS.f k x8 t1132).bind fun t1135=>(if t1135=true then((laws_markRecS.f k x8 1).bind fun t1136=>(if t1136<0 then(laws_FnExactStockOf.j1 k x0 x1 x7 true x1122000 x1122001 x1131000 x1131001) else((laws_eqStock.f k x1131000 x1131001 x1122000 x1122001).bind fun t1137=>(if t1137=true then(laws_FnExactStockOf.j1 k x0 x1 x7 (x10 != x7) x1122000 x1122001 x1131000 x1131001) else(laws_FnExactStockOf.j1 k x0 x1 x7 true x1122000 x1122001 x1131000 x1131001))))) else(some false))))
def laws_FnExactStockOf.j1:Nat→Int→List (S54)→Bool→Bool→Int→List (S49)→Int→List (S49)→Option (Bool)
 |0,_,_,_,_,_,_,_,_=>none
 |k+1,x0,x1,x7,x65,x1122000,x1122001,x1131000,x1131001=>if x65=true then(some false) else((laws_markStock.f k x1131000 x1131001 1).bind fun bt1138=>((laws_heldStock.f k x1131000 bt1138.2 1).bind fun t1140=>(if t1140<0 then(some false) else(if t1140=bt1138.1 then((laws_toRecS.f k x1).bind fun t1141=>((impl_StockOf.f k x0 t1141).bind fun bt1144=>((laws_eqStock.f k bt1144.1 bt1144.2.1 x1122000 x1122001).bind fun t1150=>(if t1150=true then(laws_FnExactStockOf.j2 k bt1138.1 (bt1144.2.2 != x7) x1131000 bt1138.2) else(laws_FnExactStockOf.j2 k bt1138.1 true x1131000 bt1138.2))))) else(some false)))))
def laws_FnExactStockOf.j2:Nat→Int→Bool→Int→List (S49)→Option (Bool)
 |0,_,_,_,_=>none
 |k+1,x12,x92,x1131000,x1131001=>if x92=true then(some false) else((laws_heldStock.f k x1131000 x1131001 1).bind fun t1151=>(if t1151<0 then(some false) else(if t1151=x12 then(some true) else(some false))))
end
def laws_FnExactStockOf.f (k:Nat) (a0:Int) (l1:List (S54)):Option (Bool):=(laws_szRecS.f k l1 1048576).bind fun t1112=>(if t1112<0 then(some true) else((laws_toRecS.f k l1).bind fun t1113=>((spec_StockOf.f k a0 t1113).bind fun bt1116=>((laws_toRecS.f k l1).bind fun t1122=>((impl_StockOf.f k a0 t1122).bind fun bt1125=>((laws_eqStock.f k bt1125.1 bt1125.2.1 bt1116.1 bt1116.2.1).bind fun t1131=>(if t1131=true then(laws_FnExactStockOf.j0 k a0 l1 bt1116.2.2 t1122 bt1125.2.2 (bt1125.2.2 != bt1116.2.2) bt1116.1 bt1116.2.1 bt1125.1 bt1125.2.1) else(laws_FnExactStockOf.j0 k a0 l1 bt1116.2.2 t1122 bt1125.2.2 true bt1116.1 bt1116.2.1 bt1125.1 bt1125.2.1))))))))
theorem laws_FnExactStockOf.mono_l:∀k,(∀y0 y1 y2 y3 y4 y5 y6 y7 y8 y9,LeO (laws_FnExactStockOf.j0 k y0 y1 y2 y3 y4 y5 y6 y7 y8 y9) (laws_FnExactStockOf.j0 (k+1) y0 y1 y2 y3 y4 y5 y6 y7 y8 y9))∧(∀y0 y1 y2 y3 y4 y5 y6 y7,LeO (laws_FnExactStockOf.j1 k y0 y1 y2 y3 y4 y5 y6 y7) (laws_FnExactStockOf.j1 (k+1) y0 y1 y2 y3 y4 y5 y6 y7))∧(∀y0 y1 y2 y3,LeO (laws_FnExactStockOf.j2 k y0 y1 y2 y3) (laws_FnExactStockOf.j2 (k+1) y0 y1 y2 y3))
 |0=>⟨fun _ _ _ _ _ _ _ _ _ _ r h=>by simp[laws_FnExactStockOf.j0] at h,fun _ _ _ _ _ _ _ _ r h=>by simp[laws_FnExactStockOf.j1] at h,fun _ _ _ _ r h=>by simp[laws_FnExactStockOf.j2] at h⟩
 |k+1=>by
  obtain⟨ih0,ih1,ih2⟩:=laws_FnExactStockOf.mono_l k;refine⟨?_,?_,?_⟩
  ·intro y0 y1 y2 y3 y4 y5 y6 y7 y8 y9;unfold laws_FnExactStockOf.j0
   repeat' first|(with_reducible exact ih0 _ _ _ _ _ _ _ _ _ _)|(with_reducible exact ih1 _ _ _ _ _ _ _ _)|(with_reducible exact ih2 _ _ _ _)|(with_reducible exact impl_StockOf.mono _ _ _)|(with_reducible exact laws_eqRecS.mono _ _ _)|(with_reducible exact laws_eqStock.mono _ _ _ _ _)|(with_reducible exact laws_heldStock.mono _ _ _ _)|(with_reducible exact laws_markRecS.mono _ _ _)|(with_reducible exact laws_markStock.mono _ _ _ _)|(with_reducible exact laws_szRecS.mono _ _ _)|(with_reducible exact laws_toRecS.mono _ _)|(with_reducible exact spec_StockOf.mono _ _ _)|(with_reducible exact LeO.refl _)|(with_reducible exact LeO.none _)|(with_reducible refine LeO.ite ?_ ?_)|(with_reducible refine LeO.bind ?_ (fun _=>?_))|exact ih0 _ _ _ _ _ _ _ _ _ _|exact ih1 _ _ _ _ _ _ _ _|exact ih2 _ _ _ _|exact impl_StockOf.mono _ _ _|exact laws_eqRecS.mono _ _ _|exact laws_eqStock.mono _ _ _ _ _|exact laws_heldStock.mono _ _ _ _|exact laws_markRecS.mono _ _ _|exact laws_markStock.mono _ _ _ _|exact laws_szRecS.mono _ _ _|exact laws_toRecS.mono _ _|exact spec_StockOf.mono _ _ _|exact LeO.none _|refine LeO.ite ?_ ?_|refine LeO.bind ?_ (fun _=>?_)
  ·intro y0 y1 y2 y3 y4 y5 y6 y7;unfold laws_FnExactStockOf.j1
   repeat' first|(with_reducible exact ih0 _ _ _ _ _ _ _ _ _ _)|(with_reducible exact ih1 _ _ _ _ _ _ _ _)|(with_reducible exact ih2 _ _ _ _)|(with_reducible exact impl_StockOf.mono _ _ _)|(with_reducible exact laws_eqRecS.mono _ _ _)|(with_reducible exact laws_eqStock.mono _ _ _ _ _)|(with_reducible exact laws_heldStock.mono _ _ _ _)|(with_reducible exact laws_markRecS.mono _ _ _)|(with_reducible exact laws_markStock.mono _ _ _ _)|(with_reducible exact laws_szRecS.mono _ _ _)|(with_reducible exact laws_toRecS.mono _ _)|(with_reducible exact spec_StockOf.mono _ _ _)|(with_reducible exact LeO.refl _)|(with_reducible exact LeO.none _)|(with_reducible refine LeO.ite ?_ ?_)|(with_reducible refine LeO.bind ?_ (fun _=>?_))|exact ih0 _ _ _ _ _ _ _ _ _ _|exact ih1 _ _ _ _ _ _ _ _|exact ih2 _ _ _ _|exact impl_StockOf.mono _ _ _|exact laws_eqRecS.mono _ _ _|exact laws_eqStock.mono _ _ _ _ _|exact laws_heldStock.mono _ _ _ _|exact laws_markRecS.mono _ _ _|exact laws_markStock.mono _ _ _ _|exact laws_szRecS.mono _ _ _|exact laws_toRecS.mono _ _|exact spec_StockOf.mono _ _ _|exact LeO.none _|refine LeO.ite ?_ ?_|refine LeO.bind ?_ (fun _=>?_)
  ·intro y0 y1 y2 y3;unfold laws_FnExactStockOf.j2
   repeat' first|(with_reducible exact ih0 _ _ _ _ _ _ _ _ _ _)|(with_reducible exact ih1 _ _ _ _ _ _ _ _)|(with_reducible exact ih2 _ _ _ _)|(with_reducible exact impl_StockOf.mono _ _ _)|(with_reducible exact laws_eqRecS.mono _ _ _)|(with_reducible exact laws_eqStock.mono _ _ _ _ _)|(with_reducible exact laws_heldStock.mono _ _ _ _)|(with_reducible exact laws_markRecS.mono _ _ _)|(with_reducible exact laws_markStock.mono _ _ _ _)|(with_reducible exact laws_szRecS.mono _ _ _)|(with_reducible exact laws_toRecS.mono _ _)|(with_reducible exact spec_StockOf.mono _ _ _)|(with_reducible exact LeO.refl _)|(with_reducible exact LeO.none _)|(with_reducible refine LeO.ite ?_ ?_)|(with_reducible refine LeO.bind ?_ (fun _=>?_))|exact ih0 _ _ _ _ _ _ _ _ _ _|exact ih1 _ _ _ _ _ _ _ _|exact ih2 _ _ _ _|exact impl_StockOf.mono _ _ _|exact laws_eqRecS.mono _ _ _|exact laws_eqStock.mono _ _ _ _ _|exact laws_heldStock.mono _ _ _ _|exact laws_markRecS.mono _ _ _|exact laws_markStock.mono _ _ _ _|exact laws_szRecS.mono _ _ _|exact laws_toRecS.mono _ _|exact spec_StockOf.mono _ _ _|exact LeO.none _|refine LeO.ite ?_ ?_|refine LeO.bind ?_ (fun _=>?_)
theorem laws_FnExactStockOf.mono:∀a0 a1 k,LeO (laws_FnExactStockOf.f k a0 a1) (laws_FnExactStockOf.f (k+1) a0 a1):=by
 intro a0 a1 k;obtain⟨ih0,ih1,ih2⟩:=laws_FnExactStockOf.mono_l k;unfold laws_FnExactStockOf.f
 repeat' first|(with_reducible exact ih0 _ _ _ _ _ _ _ _ _ _)|(with_reducible exact ih1 _ _ _ _ _ _ _ _)|(with_reducible exact ih2 _ _ _ _)|(with_reducible exact impl_StockOf.mono _ _ _)|(with_reducible exact laws_eqRecS.mono _ _ _)|(with_reducible exact laws_eqStock.mono _ _ _ _ _)|(with_reducible exact laws_heldStock.mono _ _ _ _)|(with_reducible exact laws_markRecS.mono _ _ _)|(with_reducible exact laws_markStock.mono _ _ _ _)|(with_reducible exact laws_szRecS.mono _ _ _)|(with_reducible exact laws_toRecS.mono _ _)|(with_reducible exact spec_StockOf.mono _ _ _)|(with_reducible exact LeO.refl _)|(with_reducible exact LeO.none _)|(with_reducible refine LeO.ite ?_ ?_)|(with_reducible refine LeO.bind ?_ (fun _=>?_))|exact ih0 _ _ _ _ _ _ _ _ _ _|exact ih1 _ _ _ _ _ _ _ _|exact ih2 _ _ _ _|exact impl_StockOf.mono _ _ _|exact laws_eqRecS.mono _ _ _|exact laws_eqStock.mono _ _ _ _ _|exact laws_heldStock.mono _ _ _ _|exact laws_markRecS.mono _ _ _|exact laws_markStock.mono _ _ _ _|exact laws_szRecS.mono _ _ _|exact laws_toRecS.mono _ _|exact spec_StockOf.mono _ _ _|exact LeO.none _|refine LeO.ite ?_ ?_|refine LeO.bind ?_ (fun _=>?_)
set_option maxHeartbeats 8000000 in
set_option maxRecDepth 100000 in
theorem laws_FnExactStockOf.calls (k:Nat) (a0:Int) (A1:Option Addr) (c1:Nat) (l1:List (S54)) (r:Bool) (w:World) (hr1:Kd.C k54 w A1 l1.length l1) (hc1:l1.length≤c1) (h:laws_FnExactStockOf.f k a0 l1=some r) :
  Calls Try.prog 13 #[.int .i64 a0,.slice A1 l1.length c1] w fun e w'=>e=.returned (.bool r)∧Below w.heap.size w w':=by
 have hu38:=Try.underlying38;have HR1:=qaf.mk hr1;have HC1:=qaf.mk hc1;clear hr1 hc1;have HB:=qaf.mk (Below.refl w.heap.size w);have H:((laws_szRecS.f k l1 1048576).bind fun t1112=>(if t1112<0 then(some true) else((laws_toRecS.f k l1).bind fun t1113=>((spec_StockOf.f k a0 t1113).bind fun bt1116=>((laws_toRecS.f k l1).bind fun t1122=>((impl_StockOf.f k a0 t1122).bind fun bt1125=>((laws_eqStock.f k bt1125.1 bt1125.2.1 bt1116.1 bt1116.2.1).bind fun t1131=>(if t1131=true then(laws_FnExactStockOf.j0 k a0 l1 bt1116.2.2 t1122 bt1125.2.2 (bt1125.2.2 != bt1116.2.2) bt1116.1 bt1116.2.1 bt1125.1 bt1125.2.1) else(laws_FnExactStockOf.j0 k a0 l1 bt1116.2.2 t1122 bt1125.2.2 true bt1116.1 bt1116.2.1 bt1125.1 bt1125.2.1)))))))))=some r:=h;clear h;replace H:=Option.bind_eq_some_iff.mp H;obtain⟨t1112,A30,H⟩:=H;replace H:(if t1112<0 then(some true) else((laws_toRecS.f k l1).bind fun t1113=>((spec_StockOf.f k a0 t1113).bind fun bt1116=>((laws_toRecS.f k l1).bind fun t1122=>((impl_StockOf.f k a0 t1122).bind fun bt1125=>((laws_eqStock.f k bt1125.1 bt1125.2.1 bt1116.1 bt1116.2.1).bind fun t1131=>(if t1131=true then(laws_FnExactStockOf.j0 k a0 l1 bt1116.2.2 t1122 bt1125.2.2 (bt1125.2.2 != bt1116.2.2) bt1116.1 bt1116.2.1 bt1125.1 bt1125.2.1) else(laws_FnExactStockOf.j0 k a0 l1 bt1116.2.2 t1122 bt1125.2.2 true bt1116.1 bt1116.2.1 bt1125.1 bt1125.2.1))))))))=some r:=H;have A3:=qaf.mk A30;clear A30;by_cases c4:t1112<0
 ·rw[if_pos c4] at H;have c4b0:decide (t1112<0)=true:=decide_eq_true c4;clear c4;obtain rfl:=Option.some.inj H;go_enter Try.func13,Try.ntmps13
  go_wp2_with(first|((with_reducible refine qag (f:=39) rfl ?_);refine zF (some 18) Try.func39 #[.slice A1 l1.length c1,.int .i64 1048576] ?_;(with_reducible refine(laws_szRecS.calls k _ _ l1 1048576 t1112 _ ?side1 ?side2 A3.out).mono ?_);(case side1=>repeat(first|exact HR1.out|(with_reducible refine Kd.C_alloc ?_ _)|(with_reducible refine Kd.C_drewN ?_ _)|(with_reducible refine Kd.C_drew ?_)));(case side2=>exact HC1.out);rintro e w5 ⟨rfl,hb⟩;refine⟨_,rfl,?_⟩;replace HB:=qaf.mk (qad (za2 HB) hb);(try clear hb)))
  go_ret;exact⟨za12,za2 HB⟩
 ·rw[if_neg c4] at H;have c4b0:decide (t1112<0)=false:=decide_eq_false c4;clear c4;replace H:=Option.bind_eq_some_iff.mp H;obtain⟨t1113,A60,H⟩:=H;replace H:((spec_StockOf.f k a0 t1113).bind fun bt1116=>((laws_toRecS.f k l1).bind fun t1122=>((impl_StockOf.f k a0 t1122).bind fun bt1125=>((laws_eqStock.f k bt1125.1 bt1125.2.1 bt1116.1 bt1116.2.1).bind fun t1131=>(if t1131=true then(laws_FnExactStockOf.j0 k a0 l1 bt1116.2.2 t1122 bt1125.2.2 (bt1125.2.2 != bt1116.2.2) bt1116.1 bt1116.2.1 bt1125.1 bt1125.2.1) else(laws_FnExactStockOf.j0 k a0 l1 bt1116.2.2 t1122 bt1125.2.2 true bt1116.1 bt1116.2.1 bt1125.1 bt1125.2.1))))))=some r:=H;have A6:=qaf.mk A60;clear A60;replace H:=Option.bind_eq_some_iff.mp H;obtain⟨⟨t1116,t1117,t1120⟩,A70,H⟩:=H;replace H:((laws_toRecS.f k l1).bind fun t1122=>((impl_StockOf.f k a0 t1122).bind fun bt1125=>((laws_eqStock.f k bt1125.1 bt1125.2.1 t1116 t1117).bind fun t1131=>(if t1131=true then(laws_FnExactStockOf.j0 k a0 l1 t1120 t1122 bt1125.2.2 (bt1125.2.2 != t1120) t1116 t1117 bt1125.1 bt1125.2.1) else(laws_FnExactStockOf.j0 k a0 l1 t1120 t1122 bt1125.2.2 true t1116 t1117 bt1125.1 bt1125.2.1)))))=some r:=H;have A7:=qaf.mk A70;clear A70;replace H:=Option.bind_eq_some_iff.mp H;obtain⟨t1122,A80,H⟩:=H;replace H:((impl_StockOf.f k a0 t1122).bind fun bt1125=>((laws_eqStock.f k bt1125.1 bt1125.2.1 t1116 t1117).bind fun t1131=>(if t1131=true then(laws_FnExactStockOf.j0 k a0 l1 t1120 t1122 bt1125.2.2 (bt1125.2.2 != t1120) t1116 t1117 bt1125.1 bt1125.2.1) else(laws_FnExactStockOf.j0 k a0 l1 t1120 t1122 bt1125.2.2 true t1116 t1117 bt1125.1 bt1125.2.1))))=some r:=H
  have A8:=qaf.mk A80;clear A80;replace H:=Option.bind_eq_some_iff.mp H;obtain⟨⟨t1125,t1126,t1129⟩,A90,H⟩:=H;replace H:((laws_eqStock.f k t1125 t1126 t1116 t1117).bind fun t1131=>(if t1131=true then(laws_FnExactStockOf.j0 k a0 l1 t1120 t1122 t1129 (t1129 != t1120) t1116 t1117 t1125 t1126) else(laws_FnExactStockOf.j0 k a0 l1 t1120 t1122 t1129 true t1116 t1117 t1125 t1126)))=some r:=H;have A9:=qaf.mk A90;clear A90;have HC10:=qaf.mk H;clear H;go_enter Try.func13,Try.ntmps13
  go_upto_region 8 with(first|((with_reducible refine qag (f:=39) rfl ?_);refine zF (some 18) Try.func39 #[.slice A1 l1.length c1,.int .i64 1048576] ?_;(with_reducible refine(laws_szRecS.calls k _ _ l1 1048576 t1112 _ ?side1 ?side2 A3.out).mono ?_);(case side1=>repeat(first|exact HR1.out|(with_reducible refine Kd.C_alloc ?_ _)|(with_reducible refine Kd.C_drewN ?_ _)|(with_reducible refine Kd.C_drew ?_)));(case side2=>exact HC1.out);rintro e w11 ⟨rfl,hb⟩;refine⟨_,rfl,?_⟩;replace HB:=qaf.mk (qad (za2 HB) hb);(try clear hb))|((with_reducible refine qag (f:=40) rfl ?_);refine zF (some 24) Try.func40 #[.slice A1 l1.length c1] ?_;(with_reducible refine(laws_toRecS.calls k _ _ l1 t1113 _ ?side1 ?side2 A6.out).mono ?_);(case side1=>exact zR HR1 HB);(case side2=>exact HC1.out);rintro e w12 ⟨v1114,rfl,ho0,hb⟩;refine⟨_,rfl,?_⟩;have HO1115:=qaf.mk (Kd.S_lower ho0 (qan (za2 HB)));replace HB:=qaf.mk (qad (za2 HB) hb);(try clear hb);(try clear ho0);obtain⟨Ao13,co13,eo13⟩:=Kd.S_slice HO1115.out;subst eo13)|((with_reducible refine qag (f:=21) rfl ?_);refine zF (some 25) Try.func21 #[.int .i64 a0,.slice Ao13 t1113.length co13] ?_;(with_reducible refine(spec_StockOf.calls k a0 _ _ t1113 t1116 t1117 t1120 _ ?side1 ?side2 A7.out).mono ?_);(case side1=>repeat(first|exact(Kd.S_reads' HO1115.out).2.2|(with_reducible refine Kd.C_alloc ?_ _)|(with_reducible refine Kd.C_drewN ?_ _)|(with_reducible refine Kd.C_drew ?_)));(case side2=>exact(Kd.S_reads' HO1115.out).2.1);rintro e w14 ⟨v1118,rfl,ho0,hb⟩;refine⟨_,rfl,?_⟩;replace HO1115:=qaf.mk (Kd.S_below (za24 HO1115) hb);have HO1119:=qaf.mk (Kd.R_lower ho0 (qan (za2 HB)));replace HB:=qaf.mk (qad (za2 HB) hb);(try clear hb);(try clear ho0))|((with_reducible refine qam (N:=6) rfl ?_);refine zX (N:=6) (cs:=#[.int .i64 0,.slice none 0 0]) (t:=38) ?_;intro gb1121 hg w15 hbox hb;replace HO1115:=qaf.mk (Kd.S_below (za24 HO1115) hb);replace HO1119:=qaf.mk (Kd.R_below (za1 HO1119) hb);have BK1121:=qaf.mk hbox;have GW1121:=zH (w:=w) hg (za2 HB);have GE1121:=GW1121;replace HB:=qaf.mk (qad (za2 HB) hb);clear hb hbox hg;obtain⟨hcz16_0,hcz16_1,hfz16_0,hfz16_1⟩:=zC2 BK1121;obtain⟨Ao17,co17,eo17⟩:=Kd.R_slice HO1119.out;subst eo17)|((with_reducible refine qag (f:=40) rfl ?_);refine zF (some 29) Try.func40 #[.slice A1 l1.length c1] ?_;(with_reducible refine(laws_toRecS.calls k _ _ l1 t1122 _ ?side1 ?side2 A8.out).mono ?_);(case side1=>exact Kd.C_below HR1.out (za3 HB GE1121));(case side2=>exact HC1.out);rintro e w18 ⟨v1123,rfl,ho0,hb⟩;refine⟨_,rfl,?_⟩;replace HO1119:=qaf.mk (Kd.R_below (by(with_reducible repeat(first|apply Kd.R_alloc|apply Kd.R_drewN|apply Kd.R_drew));exact(Kd.R_mono (Kd.R_far (p:=⟨gb1121,1,none⟩) (Kd.R_far (p:=⟨gb1121,0,none⟩) (Kd.R_types HO1119.out BK1121.out (by decide)) (fun _ hk=>hk.2) (.int .i64 t1116)) (fun _ hk=>hk.2) (.slice Ao17 t1117.length co17)) (fun _ h_=>h_.1))) hb);have HO1124:=qaf.mk (Kd.S_lower (Kd.S_new' ho0 (Kd.S_lt (by(with_reducible repeat(first|apply Kd.S_alloc|apply Kd.S_drewN|apply Kd.S_drew));exact(Kd.S_mono (Kd.S_far (p:=⟨gb1121,1,none⟩) (Kd.S_far (p:=⟨gb1121,0,none⟩) (Kd.S_types HO1115.out BK1121.out (by decide)) (fun _ hk=>hk.2) (.int .i64 t1116)) (fun _ hk=>hk.2) (.slice Ao17 t1117.length co17)) (fun _ h_=>h_.1))))) (qan (za3 HB GE1121)));replace HO1115:=qaf.mk (Kd.S_elder' (by(with_reducible repeat(first|apply Kd.S_alloc|apply Kd.S_drewN|apply Kd.S_drew));exact(Kd.S_mono (Kd.S_far (p:=⟨gb1121,1,none⟩) (Kd.S_far (p:=⟨gb1121,0,none⟩) (Kd.S_types HO1115.out BK1121.out (by decide)) (fun _ hk=>hk.2) (.int .i64 t1116)) (fun _ hk=>hk.2) (.slice Ao17 t1117.length co17)) (fun _ h_=>h_.1))) (Kd.S_base ho0) hb);replace BK1121:=qaf.mk (qal (g:=gb1121) (o:=.cells #[.int .i64 t1116,.slice Ao17 t1117.length co17] 38 (0,0)) (by(with_reducible repeat(first|refine qac ?_ _|refine qaa ?_|refine qab ?_ _));refine qah (cs:=#[.int .i64 t1116,.slice none 0 0]) ?_ 1 _ rfl;(with_reducible repeat(first|refine qac ?_ _|refine qaa ?_|refine qab ?_ _));refine qah (cs:=#[.int .i64 0,.slice none 0 0]) ?_ 0 _ rfl;(with_reducible repeat(first|refine qac ?_ _|refine qaa ?_|refine qab ?_ _));exact BK1121.out) hb);replace HB:=qaf.mk (qad (za3 HB GE1121) hb);(try clear hb);(try clear ho0);obtain⟨Ao19,co19,eo19⟩:=Kd.S_slice HO1124.out;subst eo19)|((with_reducible refine qag (f:=22) rfl ?_);refine zF (some 33) Try.func22 #[.int .i64 a0,.slice Ao19 t1122.length co19] ?_;(with_reducible refine(impl_StockOf.calls k a0 _ _ t1122 t1125 t1126 t1129 _ ?side1 ?side2 A9.out).mono ?_);(case side1=>repeat(first|exact(Kd.S_reads' HO1124.out).2.2|(with_reducible refine Kd.C_alloc ?_ _)|(with_reducible refine Kd.C_drewN ?_ _)|(with_reducible refine Kd.C_drew ?_)));(case side2=>exact(Kd.S_reads' HO1124.out).2.1);rintro e w20 ⟨v1127,rfl,ho0,hb⟩;refine⟨_,rfl,?_⟩;replace HO1115:=qaf.mk (Kd.S_below (za24 HO1115) hb);replace HO1124:=qaf.mk (Kd.S_below (za24 HO1124) hb);have HO1128:=qaf.mk (Kd.R_lower (Kd.R_new' ho0 (Kd.R_lt (za1 HO1119))) (qan (za3 HB GE1121)));replace HO1119:=qaf.mk (Kd.R_elder' (za1 HO1119) (Kd.R_base ho0) hb);replace BK1121:=zY BK1121 hb;replace HB:=qaf.mk (qad (za3 HB GE1121) hb);(try clear hb);(try clear ho0))|((with_reducible refine qam (N:=9) rfl ?_);refine zX (N:=9) (cs:=#[.int .i64 0,.slice none 0 0]) (t:=38) ?_;intro gb1130 hg w21 hbox hb;replace HO1115:=qaf.mk (Kd.S_below (za24 HO1115) hb);replace HO1119:=qaf.mk (Kd.R_below (za1 HO1119) hb);replace HO1124:=qaf.mk (Kd.S_below (za24 HO1124) hb);replace HO1128:=qaf.mk (Kd.R_below (za1 HO1128) hb);have BK1130:=qaf.mk hbox;have GW1130:=zH (w:=w) hg (za3 HB GE1121);have GE1130:=GW1130;replace HB:=qaf.mk (qad (za3 HB GE1121) hb);have NB1121_1130:=zL BK1121 hg;have NB1130_1121:=zG BK1121 hg;replace BK1121:=zY BK1121 hb;clear hb hbox hg;have hnb22:=NB1130_1121.out;have hnc22:=NB1121_1130.out;obtain⟨hcz23_0,hcz23_1,hfz23_0,hfz23_1⟩:=zC2 BK1130;obtain⟨Ao24,co24,eo24⟩:=Kd.R_slice HO1128.out;subst eo24))
  (try simp only[Act.put,List.setIfInBounds_toArray,List.set_cons_zero,List.set_cons_succ])
  go_cut [44] (fun v44 wc=>∃(kq:Nat) (x44_9:Bool),v44=.bool x44_9∧qaf (laws_FnExactStockOf.j0 kq a0 l1 t1120 t1122 t1129 x44_9 t1116 t1117 t1125 t1126=some r)∧qaf (kq≤k)∧qaf (Kd.S k32 32 wc w.heap.size (fun _=>True) (.slice Ao19 t1122.length co19) t1122)∧qaf (Kd.R k49 49 wc w.heap.size (fun k_=>some k_≠((.slice Ao24 t1126.length co24):Value).ownBlock) (.slice Ao17 t1117.length co17) t1117)∧qaf (Kd.R k49 49 wc w.heap.size (fun k_=>some k_≠((.slice Ao17 t1117.length co17):Value).ownBlock) (.slice Ao24 t1126.length co24) t1126)∧qaf (wc.heap[gb1121]?=some (.cells #[.int .i64 t1116,(.slice Ao17 t1117.length co17)] 38 (0,0)))∧qaf (wc.heap[gb1130]?=some (.cells #[.int .i64 t1125,(.slice Ao24 t1126.length co24)] 38 (0,0)))∧qaf (Below w.heap.size w wc))
  case first=>
   have H:=HC10.out;clear HC10;replace H:=Option.bind_eq_some_iff.mp H;obtain⟨t1131,A250,H⟩:=H;replace H:(if t1131=true then(laws_FnExactStockOf.j0 k a0 l1 t1120 t1122 t1129 (t1129 != t1120) t1116 t1117 t1125 t1126) else(laws_FnExactStockOf.j0 k a0 l1 t1120 t1122 t1129 true t1116 t1117 t1125 t1126))=some r:=H;have A25:=qaf.mk A250;clear A250;by_cases c26:t1131=true
   ·subst c26
    have H1:(laws_FnExactStockOf.j0 k a0 l1 t1120 t1122 t1129 (t1129 != t1120) t1116 t1117 t1125 t1126)=some r:=by rw[if_pos rfl] at H;exact H
    clear H;have H:=H1;clear H1;have H':=qaf.mk H;clear H;have hnb27:=NB1130_1121.out;have hnc27:=NB1121_1130.out;obtain⟨hcz28_0,hcz28_1,hfz28_0,hfz28_1⟩:=zC2 BK1130;obtain⟨hcz29_0,hcz29_1,hfz29_0,hfz29_1⟩:=zC2 BK1121
    go_wp2_with(first|((with_reducible refine qag (f:=34) rfl ?_);refine zF (some 38) Try.func34 #[.agg #[.int .i64 t1125,.slice Ao24 t1126.length co24],.agg #[.int .i64 t1116,.slice Ao17 t1117.length co17]] ?_;(with_reducible refine(laws_eqStock.calls k t1125 _ _ t1126 t1116 _ _ t1117 true _ ?side1 ?side2 ?side3 ?side4 A25.out).mono ?_);(case side1=>refine(Kd.R_reads' (e:=49) (base:=w.heap.size) (ok:=fun k_=>(True∧some k_≠(.slice Ao17 t1117.length co17:Value).ownBlock)) (n:=t1126.length) (c:=co24) ?_).2.2;exact(by(with_reducible repeat(first|apply Kd.R_alloc|apply Kd.R_drewN|apply Kd.R_drew));exact(Kd.R_mono (Kd.R_far (p:=⟨gb1130,1,none⟩) (Kd.R_far (p:=⟨gb1130,0,none⟩) (Kd.R_types HO1128.out BK1130.out (by decide)) (fun _ hk=>hk.2) (.int .i64 t1125)) (fun _ hk=>hk.2) (.slice Ao24 t1126.length co24)) (fun _ h_=>h_.1))));(case side2=>exact(Kd.R_reads' HO1128.out).2.1);(case side3=>refine(Kd.R_reads' (e:=49) (base:=w.heap.size) (ok:=fun k_=>(True∧some k_≠(.slice Ao24 t1126.length co24:Value).ownBlock)) (n:=t1117.length) (c:=co17) ?_).2.2;exact(by(with_reducible repeat(first|apply Kd.R_alloc|apply Kd.R_drewN|apply Kd.R_drew));exact(Kd.R_mono (Kd.R_far (p:=⟨gb1130,1,none⟩) (Kd.R_far (p:=⟨gb1130,0,none⟩) (Kd.R_types HO1119.out BK1130.out (by decide)) (fun _ hk=>hk.2) (.int .i64 t1125)) (fun _ hk=>hk.2) (.slice Ao24 t1126.length co24)) (fun _ h_=>h_.1))));(case side4=>exact(Kd.R_reads' HO1119.out).2.1);rintro e w30 ⟨rfl,hb⟩;refine⟨_,rfl,?_⟩;replace HO1115:=qaf.mk (Kd.S_below (by(with_reducible repeat(first|apply Kd.S_alloc|apply Kd.S_drewN|apply Kd.S_drew));exact(Kd.S_mono (Kd.S_far (p:=⟨gb1130,1,none⟩) (Kd.S_far (p:=⟨gb1130,0,none⟩) (Kd.S_types HO1115.out BK1130.out (by decide)) (fun _ hk=>hk.2) (.int .i64 t1125)) (fun _ hk=>hk.2) (.slice Ao24 t1126.length co24)) (fun _ h_=>h_.1))) hb);replace HO1119:=qaf.mk (Kd.R_below (by(with_reducible repeat(first|apply Kd.R_alloc|apply Kd.R_drewN|apply Kd.R_drew));exact(Kd.R_mono (Kd.R_far (p:=⟨gb1130,1,none⟩) (Kd.R_far (p:=⟨gb1130,0,none⟩) (Kd.R_types HO1119.out BK1130.out (by decide)) (fun _ hk=>hk.2) (.int .i64 t1125)) (fun _ hk=>hk.2) (.slice Ao24 t1126.length co24)) (fun _ h_=>h_.1))) hb);replace HO1124:=qaf.mk (Kd.S_below (by(with_reducible repeat(first|apply Kd.S_alloc|apply Kd.S_drewN|apply Kd.S_drew));exact(Kd.S_mono (Kd.S_far (p:=⟨gb1130,1,none⟩) (Kd.S_far (p:=⟨gb1130,0,none⟩) (Kd.S_types HO1124.out BK1130.out (by decide)) (fun _ hk=>hk.2) (.int .i64 t1125)) (fun _ hk=>hk.2) (.slice Ao24 t1126.length co24)) (fun _ h_=>h_.1))) hb);replace HO1128:=qaf.mk (Kd.R_below (by(with_reducible repeat(first|apply Kd.R_alloc|apply Kd.R_drewN|apply Kd.R_drew));exact(Kd.R_mono (Kd.R_far (p:=⟨gb1130,1,none⟩) (Kd.R_far (p:=⟨gb1130,0,none⟩) (Kd.R_types HO1128.out BK1130.out (by decide)) (fun _ hk=>hk.2) (.int .i64 t1125)) (fun _ hk=>hk.2) (.slice Ao24 t1126.length co24)) (fun _ h_=>h_.1))) hb);replace BK1121:=qaf.mk (qal (g:=gb1121) (o:=.cells #[.int .i64 t1116,.slice Ao17 t1117.length co17] 38 (0,0)) (za0 NB1121_1130 BK1121) hb);replace BK1130:=qaf.mk (qal (g:=gb1130) (o:=.cells #[.int .i64 t1125,.slice Ao24 t1126.length co24] 38 (0,0)) (by(with_reducible repeat(first|refine qac ?_ _|refine qaa ?_|refine qab ?_ _));refine qah (cs:=#[.int .i64 t1125,.slice none 0 0]) ?_ 1 _ rfl;(with_reducible repeat(first|refine qac ?_ _|refine qaa ?_|refine qab ?_ _));refine qah (cs:=#[.int .i64 0,.slice none 0 0]) ?_ 0 _ rfl;(with_reducible repeat(first|refine qac ?_ _|refine qaa ?_|refine qab ?_ _));exact BK1130.out) hb);replace HB:=qaf.mk (qad (za4 HB GE1121 GE1130) hb);(try clear hb)))
    go_meet
    case rel=>exact⟨_,((t1129 != t1120)),(za38),H',⟨za64⟩,⟨by(with_reducible repeat(first|apply Kd.S_alloc|apply Kd.S_drewN|apply Kd.S_drew));exact Kd.S_mono HO1124.out (fun _ hk=>trivial)⟩,⟨by(with_reducible repeat(first|apply Kd.R_alloc|apply Kd.R_drewN|apply Kd.R_drew));exact Kd.R_mono HO1119.out (fun _ hk=>hk.2)⟩,⟨by(with_reducible repeat(first|apply Kd.R_alloc|apply Kd.R_drewN|apply Kd.R_drew));exact Kd.R_mono HO1128.out (fun _ hk=>hk.2)⟩,⟨za11 BK1121⟩,⟨za11 BK1130⟩,⟨za4 HB GE1121 GE1130⟩⟩
   ·replace c26:=Bool.eq_false_iff.mpr c26;subst c26
    have H1:(laws_FnExactStockOf.j0 k a0 l1 t1120 t1122 t1129 true t1116 t1117 t1125 t1126)=some r:=by rw[if_neg (show ¬(false=true) by decide)] at H;exact H
    clear H;have H:=H1;clear H1;have H':=qaf.mk H;clear H;have hnb31:=NB1130_1121.out;have hnc31:=NB1121_1130.out;obtain⟨hcz32_0,hcz32_1,hfz32_0,hfz32_1⟩:=zC2 BK1130;obtain⟨hcz33_0,hcz33_1,hfz33_0,hfz33_1⟩:=zC2 BK1121
    go_wp2_with(first|((with_reducible refine qag (f:=34) rfl ?_);refine zF (some 38) Try.func34 #[.agg #[.int .i64 t1125,.slice Ao24 t1126.length co24],.agg #[.int .i64 t1116,.slice Ao17 t1117.length co17]] ?_;(with_reducible refine(laws_eqStock.calls k t1125 _ _ t1126 t1116 _ _ t1117 false _ ?side1 ?side2 ?side3 ?side4 A25.out).mono ?_);(case side1=>refine(Kd.R_reads' (e:=49) (base:=w.heap.size) (ok:=fun k_=>(True∧some k_≠(.slice Ao17 t1117.length co17:Value).ownBlock)) (n:=t1126.length) (c:=co24) ?_).2.2;exact(by(with_reducible repeat(first|apply Kd.R_alloc|apply Kd.R_drewN|apply Kd.R_drew));exact(Kd.R_mono (Kd.R_far (p:=⟨gb1130,1,none⟩) (Kd.R_far (p:=⟨gb1130,0,none⟩) (Kd.R_types HO1128.out BK1130.out (by decide)) (fun _ hk=>hk.2) (.int .i64 t1125)) (fun _ hk=>hk.2) (.slice Ao24 t1126.length co24)) (fun _ h_=>h_.1))));(case side2=>exact(Kd.R_reads' HO1128.out).2.1);(case side3=>refine(Kd.R_reads' (e:=49) (base:=w.heap.size) (ok:=fun k_=>(True∧some k_≠(.slice Ao24 t1126.length co24:Value).ownBlock)) (n:=t1117.length) (c:=co17) ?_).2.2;exact(by(with_reducible repeat(first|apply Kd.R_alloc|apply Kd.R_drewN|apply Kd.R_drew));exact(Kd.R_mono (Kd.R_far (p:=⟨gb1130,1,none⟩) (Kd.R_far (p:=⟨gb1130,0,none⟩) (Kd.R_types HO1119.out BK1130.out (by decide)) (fun _ hk=>hk.2) (.int .i64 t1125)) (fun _ hk=>hk.2) (.slice Ao24 t1126.length co24)) (fun _ h_=>h_.1))));(case side4=>exact(Kd.R_reads' HO1119.out).2.1);rintro e w34 ⟨rfl,hb⟩;refine⟨_,rfl,?_⟩;replace HO1115:=qaf.mk (Kd.S_below (by(with_reducible repeat(first|apply Kd.S_alloc|apply Kd.S_drewN|apply Kd.S_drew));exact(Kd.S_mono (Kd.S_far (p:=⟨gb1130,1,none⟩) (Kd.S_far (p:=⟨gb1130,0,none⟩) (Kd.S_types HO1115.out BK1130.out (by decide)) (fun _ hk=>hk.2) (.int .i64 t1125)) (fun _ hk=>hk.2) (.slice Ao24 t1126.length co24)) (fun _ h_=>h_.1))) hb);replace HO1119:=qaf.mk (Kd.R_below (by(with_reducible repeat(first|apply Kd.R_alloc|apply Kd.R_drewN|apply Kd.R_drew));exact(Kd.R_mono (Kd.R_far (p:=⟨gb1130,1,none⟩) (Kd.R_far (p:=⟨gb1130,0,none⟩) (Kd.R_types HO1119.out BK1130.out (by decide)) (fun _ hk=>hk.2) (.int .i64 t1125)) (fun _ hk=>hk.2) (.slice Ao24 t1126.length co24)) (fun _ h_=>h_.1))) hb);replace HO1124:=qaf.mk (Kd.S_below (by(with_reducible repeat(first|apply Kd.S_alloc|apply Kd.S_drewN|apply Kd.S_drew));exact(Kd.S_mono (Kd.S_far (p:=⟨gb1130,1,none⟩) (Kd.S_far (p:=⟨gb1130,0,none⟩) (Kd.S_types HO1124.out BK1130.out (by decide)) (fun _ hk=>hk.2) (.int .i64 t1125)) (fun _ hk=>hk.2) (.slice Ao24 t1126.length co24)) (fun _ h_=>h_.1))) hb);replace HO1128:=qaf.mk (Kd.R_below (by(with_reducible repeat(first|apply Kd.R_alloc|apply Kd.R_drewN|apply Kd.R_drew));exact(Kd.R_mono (Kd.R_far (p:=⟨gb1130,1,none⟩) (Kd.R_far (p:=⟨gb1130,0,none⟩) (Kd.R_types HO1128.out BK1130.out (by decide)) (fun _ hk=>hk.2) (.int .i64 t1125)) (fun _ hk=>hk.2) (.slice Ao24 t1126.length co24)) (fun _ h_=>h_.1))) hb);replace BK1121:=qaf.mk (qal (g:=gb1121) (o:=.cells #[.int .i64 t1116,.slice Ao17 t1117.length co17] 38 (0,0)) (za0 NB1121_1130 BK1121) hb);replace BK1130:=qaf.mk (qal (g:=gb1130) (o:=.cells #[.int .i64 t1125,.slice Ao24 t1126.length co24] 38 (0,0)) (by(with_reducible repeat(first|refine qac ?_ _|refine qaa ?_|refine qab ?_ _));refine qah (cs:=#[.int .i64 t1125,.slice none 0 0]) ?_ 1 _ rfl;(with_reducible repeat(first|refine qac ?_ _|refine qaa ?_|refine qab ?_ _));refine qah (cs:=#[.int .i64 0,.slice none 0 0]) ?_ 0 _ rfl;(with_reducible repeat(first|refine qac ?_ _|refine qaa ?_|refine qab ?_ _));exact BK1130.out) hb);replace HB:=qaf.mk (qad (za4 HB GE1121 GE1130) hb);(try clear hb)))
    go_meet
    case rel=>exact⟨_,(true),(za38),H',⟨za64⟩,⟨by(with_reducible repeat(first|apply Kd.S_alloc|apply Kd.S_drewN|apply Kd.S_drew));exact Kd.S_mono HO1124.out (fun _ hk=>trivial)⟩,⟨by(with_reducible repeat(first|apply Kd.R_alloc|apply Kd.R_drewN|apply Kd.R_drew));exact Kd.R_mono HO1119.out (fun _ hk=>hk.2)⟩,⟨by(with_reducible repeat(first|apply Kd.R_alloc|apply Kd.R_drewN|apply Kd.R_drew));exact Kd.R_mono HO1128.out (fun _ hk=>hk.2)⟩,⟨za11 BK1121⟩,⟨za11 BK1130⟩,⟨za4 HB GE1121 GE1130⟩⟩
  case rest=>
   clear HC10
   try clear c1
   try clear c2
   try clear p2
   try clear c3
   try clear c4
   try clear c4b0
   try clear c13
   try clear c21
   try clear c22
   try clear c26
   try clear c27
   try clear c31
   try clear c34
   try clear hcz16_0
   try clear hcz16_1
   try clear hcz23_0
   try clear hcz23_1
   try clear hcz28_0
   try clear hcz28_1
   try clear hcz29_0
   try clear hcz29_1
   try clear hcz32_0
   try clear hcz32_1
   try clear hcz33_0
   try clear hcz33_1
   try clear hfz16_0
   try clear hfz16_1
   try clear hfz23_0
   try clear hfz23_1
   try clear hfz28_0
   try clear hfz28_1
   try clear hfz29_0
   try clear hfz29_1
   try clear hfz32_0
   try clear hfz32_1
   try clear hfz33_0
   try clear hfz33_1
   obtain⟨kq,x44_9,rfl,HA,HJ9,HO_8,HO_1122001,HO_1131001,BK1121,BK1130,HB⟩:=hcut
   cases kq with
   |zero=>exact absurd HA.out (by simp[laws_FnExactStockOf.j0])
   |succ kj9=>
    have H:=HA.out;clear HA;simp only[laws_FnExactStockOf.j0] at H;by_cases c35:x44_9=true
    ·subst c35
     have H1:(some false)=some r:=by rw[if_pos rfl] at H;exact H
     clear H;have H:=H1;clear H1;obtain rfl:=Option.some.inj H;go_wp2;go_ret;exact⟨za12,za4 HB GE1121 GE1130⟩
    ·replace c35:=Bool.eq_false_iff.mpr c35;subst c35
     have H1:((laws_toRecS.f kj9 l1).bind fun t1132=>((laws_eqRecS.f kj9 t1122 t1132).bind fun t1135=>(if t1135=true then((laws_markRecS.f kj9 t1122 1).bind fun t1136=>(if t1136<0 then(laws_FnExactStockOf.j1 kj9 a0 l1 t1120 true t1116 t1117 t1125 t1126) else((laws_eqStock.f kj9 t1125 t1126 t1116 t1117).bind fun t1137=>(if t1137=true then(laws_FnExactStockOf.j1 kj9 a0 l1 t1120 (t1129 != t1120) t1116 t1117 t1125 t1126) else(laws_FnExactStockOf.j1 kj9 a0 l1 t1120 true t1116 t1117 t1125 t1126))))) else(some false))))=some r:=by rw[if_neg (show ¬(false=true) by decide)] at H;exact H
     clear H;have H:=H1;clear H1;replace H:=Option.bind_eq_some_iff.mp H;obtain⟨t1132,A360,H⟩:=H;replace H:((laws_eqRecS.f kj9 t1122 t1132).bind fun t1135=>(if t1135=true then((laws_markRecS.f kj9 t1122 1).bind fun t1136=>(if t1136<0 then(laws_FnExactStockOf.j1 kj9 a0 l1 t1120 true t1116 t1117 t1125 t1126) else((laws_eqStock.f kj9 t1125 t1126 t1116 t1117).bind fun t1137=>(if t1137=true then(laws_FnExactStockOf.j1 kj9 a0 l1 t1120 (t1129 != t1120) t1116 t1117 t1125 t1126) else(laws_FnExactStockOf.j1 kj9 a0 l1 t1120 true t1116 t1117 t1125 t1126))))) else(some false)))=some r:=H;have A36:=qaf.mk A360;clear A360;replace H:=Option.bind_eq_some_iff.mp H;obtain⟨t1135,A370,H⟩:=H;replace H:(if t1135=true then((laws_markRecS.f kj9 t1122 1).bind fun t1136=>(if t1136<0 then(laws_FnExactStockOf.j1 kj9 a0 l1 t1120 true t1116 t1117 t1125 t1126) else((laws_eqStock.f kj9 t1125 t1126 t1116 t1117).bind fun t1137=>(if t1137=true then(laws_FnExactStockOf.j1 kj9 a0 l1 t1120 (t1129 != t1120) t1116 t1117 t1125 t1126) else(laws_FnExactStockOf.j1 kj9 a0 l1 t1120 true t1116 t1117 t1125 t1126))))) else(some false))=some r:=H;have A37:=qaf.mk A370;clear A370;by_cases c38:t1135=true
     ·subst c38
      have H1:((laws_markRecS.f kj9 t1122 1).bind fun t1136=>(if t1136<0 then(laws_FnExactStockOf.j1 kj9 a0 l1 t1120 true t1116 t1117 t1125 t1126) else((laws_eqStock.f kj9 t1125 t1126 t1116 t1117).bind fun t1137=>(if t1137=true then(laws_FnExactStockOf.j1 kj9 a0 l1 t1120 (t1129 != t1120) t1116 t1117 t1125 t1126) else(laws_FnExactStockOf.j1 kj9 a0 l1 t1120 true t1116 t1117 t1125 t1126)))))=some r:=by rw[if_pos rfl] at H;exact H
      clear H;have H:=H1;clear H1;replace H:=Option.bind_eq_some_iff.mp H;obtain⟨t1136,A390,H⟩:=H;replace H:(if t1136<0 then(laws_FnExactStockOf.j1 kj9 a0 l1 t1120 true t1116 t1117 t1125 t1126) else((laws_eqStock.f kj9 t1125 t1126 t1116 t1117).bind fun t1137=>(if t1137=true then(laws_FnExactStockOf.j1 kj9 a0 l1 t1120 (t1129 != t1120) t1116 t1117 t1125 t1126) else(laws_FnExactStockOf.j1 kj9 a0 l1 t1120 true t1116 t1117 t1125 t1126))))=some r:=H;have A39:=qaf.mk A390;clear A390;have HC40:=qaf.mk H;clear H
      go_upto_region 14 with(first|((with_reducible refine qag (f:=40) rfl ?_);refine zF (some 47) Try.func40 #[.slice A1 l1.length c1] ?_;(with_reducible refine(laws_toRecS.calls kj9 _ _ l1 t1132 _ ?side1 ?side2 A36.out).mono ?_);(case side1=>exact zR HR1 HB);(case side2=>exact HC1.out);rintro e w41 ⟨v1133,rfl,ho0,hb⟩;refine⟨_,rfl,?_⟩;replace HO_1122001:=qaf.mk (Kd.R_below (za1 HO_1122001) hb);replace HO_1131001:=qaf.mk (Kd.R_below (za1 HO_1131001) hb);have HO1134:=qaf.mk (Kd.S_lower (Kd.S_new' ho0 (Kd.S_lt (za24 HO_8))) (qan (za4 HB GE1121 GE1130)));replace HO_8:=qaf.mk (Kd.S_elder' (za24 HO_8) (Kd.S_base ho0) hb);replace BK1121:=zY BK1121 hb;replace BK1130:=zY BK1130 hb;replace HB:=qaf.mk (qad (za4 HB GE1121 GE1130) hb);(try clear hb);(try clear ho0);obtain⟨Ao42,co42,eo42⟩:=Kd.S_slice HO1134.out;subst eo42)|((with_reducible refine qag (f:=41) rfl ?_);refine zF (some 48) Try.func41 #[.slice Ao19 t1122.length co19,.slice Ao42 t1132.length co42] ?_;(with_reducible refine(laws_eqRecS.calls kj9 _ _ t1122 _ _ t1132 true _ ?side1 ?side2 ?side3 ?side4 A37.out).mono ?_);(case side1=>repeat(first|exact(Kd.S_reads' HO_8.out).2.2|(with_reducible refine Kd.C_alloc ?_ _)|(with_reducible refine Kd.C_drewN ?_ _)|(with_reducible refine Kd.C_drew ?_)));(case side2=>exact(Kd.S_reads' HO_8.out).2.1);(case side3=>repeat(first|exact(Kd.S_reads' HO1134.out).2.2|(with_reducible refine Kd.C_alloc ?_ _)|(with_reducible refine Kd.C_drewN ?_ _)|(with_reducible refine Kd.C_drew ?_)));(case side4=>exact(Kd.S_reads' HO1134.out).2.1);rintro e w43 ⟨rfl,hb⟩;refine⟨_,rfl,?_⟩;replace HO_8:=qaf.mk (Kd.S_below (za24 HO_8) hb);replace HO_1122001:=qaf.mk (Kd.R_below (za1 HO_1122001) hb);replace HO_1131001:=qaf.mk (Kd.R_below (za1 HO_1131001) hb);replace HO1134:=qaf.mk (Kd.S_below (za24 HO1134) hb);replace BK1121:=zY BK1121 hb;replace BK1130:=zY BK1130 hb;replace HB:=qaf.mk (qad (za4 HB GE1121 GE1130) hb);(try clear hb))|((with_reducible refine qag (f:=42) rfl ?_);refine zF (some 52) Try.func42 #[.slice Ao19 t1122.length co19,.int .i64 1] ?_;(with_reducible refine(laws_markRecS.calls kj9 ?pw (.slice Ao19 t1122.length co19) t1122 1 t1136 w _ ?side1 ?side2 A39.out).mono ?_);(case side1=>exact(za4 HB GE1121 GE1130));(case side2=>exact Kd.S_wide HO_8.out);rintro e w44 ⟨rfl,hb,hkp⟩;refine⟨_,rfl,?_⟩;replace HO_1122001:=qaf.mk (Kd.R_mono (ok':=fun k_=>some k_≠(.slice Ao24 t1126.length co24:Value).ownBlock) (Kd.R_keptB ((Kd.R_apartW HO_1122001.out (by decide))) hkp (fun k_ hk_ hs_=>(hk_.2) hs_)) (fun k_ hk_=>hk_.1.1));replace HO_1131001:=qaf.mk (Kd.R_mono (ok':=fun k_=>some k_≠(.slice Ao17 t1117.length co17:Value).ownBlock) (Kd.R_keptB ((Kd.R_apartW HO_1131001.out (by decide))) hkp (fun k_ hk_ hs_=>(hk_.2) hs_)) (fun k_ hk_=>hk_.1.1));replace BK1121:=qaf.mk (blk_kept (zB BK1121) hkp (fun hs_=>(fun e_=>(WideP.not_blk (zB BK1121) (by decide)) e_) hs_));replace BK1130:=qaf.mk (blk_kept (zB BK1130) hkp (fun hs_=>(fun e_=>(WideP.not_blk (zB BK1130) (by decide)) e_) hs_));replace HB:=qaf.mk hb;clear HO1134 HO_8;(try clear hb);(try clear hkp)))
      (try simp only[Act.put,List.setIfInBounds_toArray,List.set_cons_zero,List.set_cons_succ])
      go_cut [65] (fun v65 wc=>∃(kq:Nat) (x65_39:Bool),v65=.bool x65_39∧qaf (laws_FnExactStockOf.j1 kq a0 l1 t1120 x65_39 t1116 t1117 t1125 t1126=some r)∧qaf (kq≤kj9)∧qaf (Kd.R k49 49 wc w.heap.size (fun k_=>some k_≠((.slice Ao24 t1126.length co24):Value).ownBlock) (.slice Ao17 t1117.length co17) t1117)∧qaf (Kd.R k49 49 wc w.heap.size (fun k_=>some k_≠((.slice Ao17 t1117.length co17):Value).ownBlock) (.slice Ao24 t1126.length co24) t1126)∧qaf (wc.heap[gb1121]?=some (.cells #[.int .i64 t1116,(.slice Ao17 t1117.length co17)] 38 (0,0)))∧qaf (wc.heap[gb1130]?=some (.cells #[.int .i64 t1125,(.slice Ao24 t1126.length co24)] 38 (0,0)))∧qaf (Below w.heap.size w wc))
      case first=>
       have H:=HC40.out;clear HC40;by_cases c45:t1136<0
       ·rw[if_pos c45] at H;have c45b0:decide (t1136<0)=true:=decide_eq_true c45;clear c45;(first|rw[c45b0]|(simp only[qai,qaj];rw[c45b0])|skip);have H':=qaf.mk H;clear H;go_wp2
        go_meet
        case rel=>exact⟨_,(true),(za38),H',⟨za66 HJ9⟩,⟨za1 HO_1122001⟩,⟨za1 HO_1131001⟩,⟨za11 BK1121⟩,⟨za11 BK1130⟩,⟨za4 HB GE1121 GE1130⟩⟩
       ·rw[if_neg c45] at H;have c45b0:decide (t1136<0)=false:=decide_eq_false c45;clear c45;(first|rw[c45b0]|(simp only[qai,qaj];rw[c45b0])|skip);replace H:=Option.bind_eq_some_iff.mp H;obtain⟨t1137,A460,H⟩:=H;replace H:(if t1137=true then(laws_FnExactStockOf.j1 kj9 a0 l1 t1120 (t1129 != t1120) t1116 t1117 t1125 t1126) else(laws_FnExactStockOf.j1 kj9 a0 l1 t1120 true t1116 t1117 t1125 t1126))=some r:=H;have A46:=qaf.mk A460;clear A460;by_cases c47:t1137=true
        ·subst c47
         have H1:(laws_FnExactStockOf.j1 kj9 a0 l1 t1120 (t1129 != t1120) t1116 t1117 t1125 t1126)=some r:=by rw[if_pos rfl] at H;exact H
         clear H;have H:=H1;clear H1;have H':=qaf.mk H;clear H;have hnb48:=NB1130_1121.out;have hnc48:=NB1121_1130.out;obtain⟨hcz49_0,hcz49_1,hfz49_0,hfz49_1⟩:=zC2 BK1130;obtain⟨hcz50_0,hcz50_1,hfz50_0,hfz50_1⟩:=zC2 BK1121
         go_wp2_with(first|(go_at_call 34;(with_reducible refine(laws_eqStock.calls kj9 t1125 _ _ t1126 t1116 _ _ t1117 true _ ?side1 ?side2 ?side3 ?side4 A46.out).mono ?_);(case side1=>repeat(first|exact(Kd.R_reads' HO_1131001.out).2.2|(with_reducible refine Kd.C_alloc ?_ _)|(with_reducible refine Kd.C_drewN ?_ _)|(with_reducible refine Kd.C_drew ?_)));(case side2=>exact(Kd.R_reads' HO_1131001.out).2.1);(case side3=>repeat(first|exact(Kd.R_reads' HO_1122001.out).2.2|(with_reducible refine Kd.C_alloc ?_ _)|(with_reducible refine Kd.C_drewN ?_ _)|(with_reducible refine Kd.C_drew ?_)));(case side4=>exact(Kd.R_reads' HO_1122001.out).2.1);rintro e w51 ⟨rfl,hb⟩;replace HO_1122001:=qaf.mk (Kd.R_below (za1 HO_1122001) hb);replace HO_1131001:=qaf.mk (Kd.R_below (za1 HO_1131001) hb);replace BK1121:=zY BK1121 hb;replace BK1130:=zY BK1130 hb;replace HB:=qaf.mk (qad (za4 HB GE1121 GE1130) hb);(try clear hb)))
         go_meet
         case rel=>exact⟨_,((t1129 != t1120)),(za38),H',⟨za66 HJ9⟩,⟨za1 HO_1122001⟩,⟨za1 HO_1131001⟩,⟨za11 BK1121⟩,⟨za11 BK1130⟩,⟨za4 HB GE1121 GE1130⟩⟩
        ·replace c47:=Bool.eq_false_iff.mpr c47;subst c47
         have H1:(laws_FnExactStockOf.j1 kj9 a0 l1 t1120 true t1116 t1117 t1125 t1126)=some r:=by rw[if_neg (show ¬(false=true) by decide)] at H;exact H
         clear H;have H:=H1;clear H1;have H':=qaf.mk H;clear H;have hnb52:=NB1130_1121.out;have hnc52:=NB1121_1130.out;obtain⟨hcz53_0,hcz53_1,hfz53_0,hfz53_1⟩:=zC2 BK1130;obtain⟨hcz54_0,hcz54_1,hfz54_0,hfz54_1⟩:=zC2 BK1121
         go_wp2_with(first|(go_at_call 34;(with_reducible refine(laws_eqStock.calls kj9 t1125 _ _ t1126 t1116 _ _ t1117 false _ ?side1 ?side2 ?side3 ?side4 A46.out).mono ?_);(case side1=>repeat(first|exact(Kd.R_reads' HO_1131001.out).2.2|(with_reducible refine Kd.C_alloc ?_ _)|(with_reducible refine Kd.C_drewN ?_ _)|(with_reducible refine Kd.C_drew ?_)));(case side2=>exact(Kd.R_reads' HO_1131001.out).2.1);(case side3=>repeat(first|exact(Kd.R_reads' HO_1122001.out).2.2|(with_reducible refine Kd.C_alloc ?_ _)|(with_reducible refine Kd.C_drewN ?_ _)|(with_reducible refine Kd.C_drew ?_)));(case side4=>exact(Kd.R_reads' HO_1122001.out).2.1);rintro e w55 ⟨rfl,hb⟩;replace HO_1122001:=qaf.mk (Kd.R_below (za1 HO_1122001) hb);replace HO_1131001:=qaf.mk (Kd.R_below (za1 HO_1131001) hb);replace BK1121:=zY BK1121 hb;replace BK1130:=zY BK1130 hb;replace HB:=qaf.mk (qad (za4 HB GE1121 GE1130) hb);(try clear hb)))
         go_meet
         case rel=>exact⟨_,(true),(za38),H',⟨za66 HJ9⟩,⟨za1 HO_1122001⟩,⟨za1 HO_1131001⟩,⟨za11 BK1121⟩,⟨za11 BK1130⟩,⟨za4 HB GE1121 GE1130⟩⟩
      case rest=>
       clear HC40
       try clear c1
       try clear c2
       try clear p2
       try clear c3
       try clear c4
       try clear c4b0
       try clear c5
       try clear c13
       try clear c21
       try clear c22
       try clear c26
       try clear c27
       try clear c31
       try clear c34
       try clear c35
       try clear c38
       try clear c39
       try clear c40
       try clear c41
       try clear c42
       try clear c45
       try clear c45b0
       try clear c47
       try clear c48
       try clear c52
       try clear hcz16_0
       try clear hcz16_1
       try clear hcz23_0
       try clear hcz23_1
       try clear hcz28_0
       try clear hcz28_1
       try clear hcz29_0
       try clear hcz29_1
       try clear hcz32_0
       try clear hcz32_1
       try clear hcz33_0
       try clear hcz33_1
       try clear hcz49_0
       try clear hcz49_1
       try clear hcz50_0
       try clear hcz50_1
       try clear hcz53_0
       try clear hcz53_1
       try clear hcz54_0
       try clear hcz54_1
       try clear hfz16_0
       try clear hfz16_1
       try clear hfz23_0
       try clear hfz23_1
       try clear hfz28_0
       try clear hfz28_1
       try clear hfz29_0
       try clear hfz29_1
       try clear hfz32_0
       try clear hfz32_1
       try clear hfz33_0
       try clear hfz33_1
       try clear hfz49_0
       try clear hfz49_1
       try clear hfz50_0
       try clear hfz50_1
       try clear hfz53_0
       try clear hfz53_1
       try clear hfz54_0
       try clear hfz54_1
       try clear p2
       obtain⟨kq,x65_39,rfl,HA,HJ39,HO_1122001,HO_1131001,BK1121,BK1130,HB⟩:=hcut
       cases kq with
       |zero=>exact absurd HA.out (by simp[laws_FnExactStockOf.j1])
       |succ kj39=>
        have H:=HA.out;clear HA;simp only[laws_FnExactStockOf.j1] at H;by_cases c56:x65_39=true
        ·subst c56
         have H1:(some false)=some r:=by rw[if_pos rfl] at H;exact H
         clear H;have H:=H1;clear H1;obtain rfl:=Option.some.inj H;go_wp2;go_ret;exact⟨za12,za4 HB GE1121 GE1130⟩
        ·replace c56:=Bool.eq_false_iff.mpr c56;subst c56
         have H1:((laws_markStock.f kj39 t1125 t1126 1).bind fun bt1138=>((laws_heldStock.f kj39 t1125 bt1138.2 1).bind fun t1140=>(if t1140<0 then(some false) else(if t1140=bt1138.1 then((laws_toRecS.f kj39 l1).bind fun t1141=>((impl_StockOf.f kj39 a0 t1141).bind fun bt1144=>((laws_eqStock.f kj39 bt1144.1 bt1144.2.1 t1116 t1117).bind fun t1150=>(if t1150=true then(laws_FnExactStockOf.j2 kj39 bt1138.1 (bt1144.2.2 != t1120) t1125 bt1138.2) else(laws_FnExactStockOf.j2 kj39 bt1138.1 true t1125 bt1138.2))))) else(some false)))))=some r:=by rw[if_neg (show ¬(false=true) by decide)] at H;exact H
         clear H;have H:=H1;clear H1;replace H:=Option.bind_eq_some_iff.mp H;obtain⟨⟨t1138,t1139⟩,A570,H⟩:=H;replace H:((laws_heldStock.f kj39 t1125 t1139 1).bind fun t1140=>(if t1140<0 then(some false) else(if t1140=t1138 then((laws_toRecS.f kj39 l1).bind fun t1141=>((impl_StockOf.f kj39 a0 t1141).bind fun bt1144=>((laws_eqStock.f kj39 bt1144.1 bt1144.2.1 t1116 t1117).bind fun t1150=>(if t1150=true then(laws_FnExactStockOf.j2 kj39 t1138 (bt1144.2.2 != t1120) t1125 t1139) else(laws_FnExactStockOf.j2 kj39 t1138 true t1125 t1139))))) else(some false))))=some r:=H;have A57:=qaf.mk A570;clear A570;replace H:=Option.bind_eq_some_iff.mp H;obtain⟨t1140,A580,H⟩:=H;replace H:(if t1140<0 then(some false) else(if t1140=t1138 then((laws_toRecS.f kj39 l1).bind fun t1141=>((impl_StockOf.f kj39 a0 t1141).bind fun bt1144=>((laws_eqStock.f kj39 bt1144.1 bt1144.2.1 t1116 t1117).bind fun t1150=>(if t1150=true then(laws_FnExactStockOf.j2 kj39 t1138 (bt1144.2.2 != t1120) t1125 t1139) else(laws_FnExactStockOf.j2 kj39 t1138 true t1125 t1139))))) else(some false)))=some r:=H;have A58:=qaf.mk A580;clear A580;by_cases c59:t1140<0
         ·rw[if_pos c59] at H;have c59b0:decide (t1140<0)=true:=decide_eq_true c59;clear c59;obtain rfl:=Option.some.inj H;have hnb60:=NB1130_1121.out;have hnc60:=NB1121_1130.out;obtain⟨hcz61_0,hcz61_1,hfz61_0,hfz61_1⟩:=zC2 BK1130
          go_wp2_with(first|((with_reducible refine qag (f:=36) rfl ?_);refine zF (some 68) Try.func36 #[.agg #[.int .i64 t1125,.slice Ao24 t1126.length co24],.int .i64 1] ?_;(with_reducible refine(laws_markStock.calls kj39 t1125 (fun k_=>some k_=(.slice Ao24 t1126.length co24:Value).ownBlock) (.slice Ao24 t1126.length co24) t1126 1 t1138 t1139 w _ ?side1 ?side2 A57.out).mono ?_);(case side1=>exact(za4 HB GE1121 GE1130));(case side2=>exact Kd.R_tight rfl HO_1131001.out);rintro e w62 ⟨rfl,hy0,hb,hkp⟩;refine⟨_,rfl,?_⟩;replace HO_1122001:=qaf.mk (Kd.R_mono (ok':=fun k_=>some k_≠(.slice Ao24 t1126.length co24:Value).ownBlock) (Kd.R_keptB (HO_1122001.out) hkp (fun k_ hk_ hs_=>(hk_) hs_)) (fun k_ hk_=>hk_.1));replace BK1121:=qaf.mk (blk_kept (zB BK1121) hkp (fun hs_=>(fun e_=>(Kd.R_ne HO_1131001.out BK1121.out (by decide)) e_) hs_));replace BK1130:=qaf.mk (blk_kept (zB BK1130) hkp (fun hs_=>(fun e_=>(Kd.R_ne HO_1131001.out BK1130.out (by decide)) e_) hs_));replace HO_1131001:=qaf.mk (Kd.R_reok rfl hy0 (fun k_ e_=>HO_1131001.out.1 k_ e_));replace HB:=qaf.mk hb;(try clear hb);(try clear hkp);(try clear hy0);obtain⟨hcz63_0,hcz63_1,hfz63_0,hfz63_1⟩:=zC2 BK1130)|((with_reducible refine qag (f:=38) rfl ?_);refine goesL_ (some 71) rfl rfl Try.func38 (by kernel_rfl) rfl #[.agg #[.int .i64 t1125,.slice Ao24 t1139.length co24],.int .i64 1] rfl (by(try simp only[List.map_toArray,List.map_cons,List.map_nil]);first|done|(rw[show t1139.length=t1126.length from(Kd.R_reads' HO_1131001.out).1.symm]<;>rfl)|rfl|(simp only[List.length_drop,List.length_take];rfl)) ?_;(with_reducible refine(laws_heldStock.calls kj39 t1125 _ _ t1139 1 t1140 _ ?side1 ?side2 A58.out).mono ?_);(case side1=>repeat(first|exact(Kd.R_reads' HO_1131001.out).2.2|(with_reducible refine Kd.C_alloc ?_ _)|(with_reducible refine Kd.C_drewN ?_ _)|(with_reducible refine Kd.C_drew ?_)));(case side2=>rw[show t1139.length=t1126.length from(Kd.R_reads' HO_1131001.out).1.symm];exact(Kd.R_reads' HO_1131001.out).2.1);rintro e w64 ⟨rfl,hb⟩;refine⟨_,rfl,?_⟩;replace HO_1122001:=qaf.mk (Kd.R_below (za1 HO_1122001) hb);replace HO_1131001:=qaf.mk (Kd.R_below (za1 HO_1131001) hb);replace BK1121:=zY BK1121 hb;replace BK1130:=zY BK1130 hb;replace HB:=qaf.mk (qad (za4 HB GE1121 GE1130) hb);(try clear hb)))
          go_ret;exact⟨za12,za4 HB GE1121 GE1130⟩
         ·rw[if_neg c59] at H;have c59b0:decide (t1140<0)=false:=decide_eq_false c59;clear c59;by_cases c65:t1140=t1138
          ·rw[if_pos c65] at H;have c65b0:(t1140 == t1138)=true:=beq_iff_eq.mpr c65;have c65b1:(t1140 != t1138)=false:=bne_eq_false_iff_eq.mpr c65;clear c65;replace H:=Option.bind_eq_some_iff.mp H;obtain⟨t1141,A660,H⟩:=H;replace H:((impl_StockOf.f kj39 a0 t1141).bind fun bt1144=>((laws_eqStock.f kj39 bt1144.1 bt1144.2.1 t1116 t1117).bind fun t1150=>(if t1150=true then(laws_FnExactStockOf.j2 kj39 t1138 (bt1144.2.2 != t1120) t1125 t1139) else(laws_FnExactStockOf.j2 kj39 t1138 true t1125 t1139))))=some r:=H;have A66:=qaf.mk A660;clear A660;replace H:=Option.bind_eq_some_iff.mp H;obtain⟨⟨t1144,t1145,t1148⟩,A670,H⟩:=H;replace H:((laws_eqStock.f kj39 t1144 t1145 t1116 t1117).bind fun t1150=>(if t1150=true then(laws_FnExactStockOf.j2 kj39 t1138 (t1148 != t1120) t1125 t1139) else(laws_FnExactStockOf.j2 kj39 t1138 true t1125 t1139)))=some r:=H;have A67:=qaf.mk A670;clear A670;have HC68:=qaf.mk H;clear H;have hnb69:=NB1130_1121.out;have hnc69:=NB1121_1130.out;obtain⟨hcz70_0,hcz70_1,hfz70_0,hfz70_1⟩:=zC2 BK1130
           go_upto_region 25 with(first|((with_reducible refine qag (f:=36) rfl ?_);refine zF (some 68) Try.func36 #[.agg #[.int .i64 t1125,.slice Ao24 t1126.length co24],.int .i64 1] ?_;(with_reducible refine(laws_markStock.calls kj39 t1125 (fun k_=>some k_=(.slice Ao24 t1126.length co24:Value).ownBlock) (.slice Ao24 t1126.length co24) t1126 1 t1138 t1139 w _ ?side1 ?side2 A57.out).mono ?_);(case side1=>exact(za4 HB GE1121 GE1130));(case side2=>exact Kd.R_tight rfl HO_1131001.out);rintro e w71 ⟨rfl,hy0,hb,hkp⟩;refine⟨_,rfl,?_⟩;replace HO_1122001:=qaf.mk (Kd.R_mono (ok':=fun k_=>some k_≠(.slice Ao24 t1126.length co24:Value).ownBlock) (Kd.R_keptB (HO_1122001.out) hkp (fun k_ hk_ hs_=>(hk_) hs_)) (fun k_ hk_=>hk_.1));replace BK1121:=qaf.mk (blk_kept (zB BK1121) hkp (fun hs_=>(fun e_=>(Kd.R_ne HO_1131001.out BK1121.out (by decide)) e_) hs_));replace BK1130:=qaf.mk (blk_kept (zB BK1130) hkp (fun hs_=>(fun e_=>(Kd.R_ne HO_1131001.out BK1130.out (by decide)) e_) hs_));replace HO_1131001:=qaf.mk (Kd.R_reok rfl hy0 (fun k_ e_=>HO_1131001.out.1 k_ e_));replace HB:=qaf.mk hb;(try clear hb);(try clear hkp);(try clear hy0);obtain⟨hcz72_0,hcz72_1,hfz72_0,hfz72_1⟩:=zC2 BK1130)|((with_reducible refine qag (f:=38) rfl ?_);refine goesL_ (some 71) rfl rfl Try.func38 (by kernel_rfl) rfl #[.agg #[.int .i64 t1125,.slice Ao24 t1139.length co24],.int .i64 1] rfl (by(try simp only[List.map_toArray,List.map_cons,List.map_nil]);first|done|(rw[show t1139.length=t1126.length from(Kd.R_reads' HO_1131001.out).1.symm]<;>rfl)|rfl|(simp only[List.length_drop,List.length_take];rfl)) ?_;(with_reducible refine(laws_heldStock.calls kj39 t1125 _ _ t1139 1 t1140 _ ?side1 ?side2 A58.out).mono ?_);(case side1=>repeat(first|exact(Kd.R_reads' HO_1131001.out).2.2|(with_reducible refine Kd.C_alloc ?_ _)|(with_reducible refine Kd.C_drewN ?_ _)|(with_reducible refine Kd.C_drew ?_)));(case side2=>rw[show t1139.length=t1126.length from(Kd.R_reads' HO_1131001.out).1.symm];exact(Kd.R_reads' HO_1131001.out).2.1);rintro e w73 ⟨rfl,hb⟩;refine⟨_,rfl,?_⟩;replace HO_1122001:=qaf.mk (Kd.R_below (za1 HO_1122001) hb);replace HO_1131001:=qaf.mk (Kd.R_below (za1 HO_1131001) hb);replace BK1121:=zY BK1121 hb;replace BK1130:=zY BK1130 hb;replace HB:=qaf.mk (qad (za4 HB GE1121 GE1130) hb);(try clear hb))|((with_reducible refine qag (f:=40) rfl ?_);refine zF (some 80) Try.func40 #[.slice A1 l1.length c1] ?_;(with_reducible refine(laws_toRecS.calls kj39 _ _ l1 t1141 _ ?side1 ?side2 A66.out).mono ?_);(case side1=>exact zR HR1 HB);(case side2=>exact HC1.out);rintro e w74 ⟨v1142,rfl,ho0,hb⟩;refine⟨_,rfl,?_⟩;replace HO_1122001:=qaf.mk (Kd.R_below (za1 HO_1122001) hb);replace HO_1131001:=qaf.mk (Kd.R_below (za1 HO_1131001) hb);have HO1143:=qaf.mk (Kd.S_lower ho0 (qan (za4 HB GE1121 GE1130)));replace BK1121:=zY BK1121 hb;replace BK1130:=zY BK1130 hb;replace HB:=qaf.mk (qad (za4 HB GE1121 GE1130) hb);(try clear hb);(try clear ho0);obtain⟨Ao75,co75,eo75⟩:=Kd.S_slice HO1143.out;subst eo75)|((with_reducible refine qag (f:=22) rfl ?_);refine zF (some 81) Try.func22 #[.int .i64 a0,.slice Ao75 t1141.length co75] ?_;(with_reducible refine(impl_StockOf.calls kj39 a0 _ _ t1141 t1144 t1145 t1148 _ ?side1 ?side2 A67.out).mono ?_);(case side1=>repeat(first|exact(Kd.S_reads' HO1143.out).2.2|(with_reducible refine Kd.C_alloc ?_ _)|(with_reducible refine Kd.C_drewN ?_ _)|(with_reducible refine Kd.C_drew ?_)));(case side2=>exact(Kd.S_reads' HO1143.out).2.1);rintro e w76 ⟨v1146,rfl,ho0,hb⟩;refine⟨_,rfl,?_⟩;replace HO1143:=qaf.mk (Kd.S_below (za24 HO1143) hb);have HO1147:=qaf.mk (Kd.R_lower (Kd.R_new' (Kd.R_new' ho0 (Kd.R_lt (za1 HO_1122001))) (Kd.R_lt (za1 HO_1131001))) (qan (za4 HB GE1121 GE1130)));replace HO_1122001:=qaf.mk (Kd.R_elder' (za1 HO_1122001) (Kd.R_base ho0) hb);replace HO_1131001:=qaf.mk (Kd.R_elder' (za1 HO_1131001) (Kd.R_base ho0) hb);replace BK1121:=zY BK1121 hb;replace BK1130:=zY BK1130 hb;replace HB:=qaf.mk (qad (za4 HB GE1121 GE1130) hb);(try clear hb);(try clear ho0))|((with_reducible refine qam (N:=14) rfl ?_);refine zX (N:=14) (cs:=#[.int .i64 0,.slice none 0 0]) (t:=38) ?_;intro gb1149 hg w77 hbox hb;replace HO_1122001:=qaf.mk (Kd.R_below (za1 HO_1122001) hb);replace HO_1131001:=qaf.mk (Kd.R_below (za1 HO_1131001) hb);replace HO1143:=qaf.mk (Kd.S_below (za24 HO1143) hb);replace HO1147:=qaf.mk (Kd.R_below (za1 HO1147) hb);have BK1149:=qaf.mk hbox;have GW1149:=zH (w:=w) hg (za4 HB GE1121 GE1130);have GE1149:=GW1149;replace HB:=qaf.mk (qad (za4 HB GE1121 GE1130) hb);have NB1121_1149:=zL BK1121 hg;have NB1149_1121:=zG BK1121 hg;replace BK1121:=zY BK1121 hb;have NB1130_1149:=zL BK1130 hg;have NB1149_1130:=zG BK1130 hg;replace BK1130:=zY BK1130 hb;clear hb hbox hg;have hnb78:=NB1149_1121.out;have hnc78:=NB1121_1149.out;have hnb79:=NB1149_1130.out;have hnc79:=NB1130_1149.out;obtain⟨hcz80_0,hcz80_1,hfz80_0,hfz80_1⟩:=zC2 BK1149;obtain⟨Ao81,co81,eo81⟩:=Kd.R_slice HO1147.out;subst eo81))
           (try simp only[Act.put,List.setIfInBounds_toArray,List.set_cons_zero,List.set_cons_succ])
           go_cut [92] (fun v92 wc=>∃(kq:Nat) (x92_67:Bool),v92=.bool x92_67∧qaf (laws_FnExactStockOf.j2 kq t1138 x92_67 t1125 t1139=some r)∧qaf (kq≤kj39)∧qaf (Kd.R k49 49 wc w.heap.size (fun k_=>some k_≠((.slice Ao24 t1126.length co24):Value).ownBlock∧some k_≠((.slice Ao81 t1145.length co81):Value).ownBlock) (.slice Ao17 t1117.length co17) t1117)∧qaf (Kd.R k49 49 wc w.heap.size (fun k_=>some k_≠((.slice Ao17 t1117.length co17):Value).ownBlock∧some k_≠((.slice Ao81 t1145.length co81):Value).ownBlock) (.slice Ao24 t1126.length co24) t1139)∧qaf (Kd.R k49 49 wc w.heap.size (fun k_=>some k_≠((.slice Ao17 t1117.length co17):Value).ownBlock∧some k_≠((.slice Ao24 t1126.length co24):Value).ownBlock) (.slice Ao81 t1145.length co81) t1145)∧qaf (wc.heap[gb1121]?=some (.cells #[.int .i64 t1116,(.slice Ao17 t1117.length co17)] 38 (0,0)))∧qaf (wc.heap[gb1130]?=some (.cells #[.int .i64 t1125,(.slice Ao24 t1126.length co24)] 38 (0,0)))∧qaf (wc.heap[gb1149]?=some (.cells #[.int .i64 t1144,(.slice Ao81 t1145.length co81)] 38 (0,0)))∧qaf (Below w.heap.size w wc))
           case first=>
            have H:=HC68.out;clear HC68;replace H:=Option.bind_eq_some_iff.mp H;obtain⟨t1150,A820,H⟩:=H;replace H:(if t1150=true then(laws_FnExactStockOf.j2 kj39 t1138 (t1148 != t1120) t1125 t1139) else(laws_FnExactStockOf.j2 kj39 t1138 true t1125 t1139))=some r:=H;have A82:=qaf.mk A820;clear A820;by_cases c83:t1150=true
            ·subst c83
             have H1:(laws_FnExactStockOf.j2 kj39 t1138 (t1148 != t1120) t1125 t1139)=some r:=by rw[if_pos rfl] at H;exact H
             clear H;have H:=H1;clear H1;have H':=qaf.mk H;clear H;have hnb84:=NB1149_1121.out;have hnc84:=NB1121_1149.out;have hnb85:=NB1149_1130.out;have hnc85:=NB1130_1149.out;obtain⟨hcz86_0,hcz86_1,hfz86_0,hfz86_1⟩:=zC2 BK1149;have hnb87:=NB1121_1130.out;have hnc87:=NB1130_1121.out;obtain⟨hcz88_0,hcz88_1,hfz88_0,hfz88_1⟩:=zC2 BK1121
             go_wp2_with(first|((with_reducible refine qag (f:=34) rfl ?_);refine zF (some 86) Try.func34 #[.agg #[.int .i64 t1144,.slice Ao81 t1145.length co81],.agg #[.int .i64 t1116,.slice Ao17 t1117.length co17]] ?_;(with_reducible refine(laws_eqStock.calls kj39 t1144 _ _ t1145 t1116 _ _ t1117 true _ ?side1 ?side2 ?side3 ?side4 A82.out).mono ?_);(case side1=>refine(Kd.R_reads' (e:=49) (base:=w.heap.size) (ok:=fun k_=>((True∧some k_≠(.slice Ao17 t1117.length co17:Value).ownBlock)∧some k_≠(.slice Ao24 t1126.length co24:Value).ownBlock)) (n:=t1145.length) (c:=co81) ?_).2.2;exact(by(with_reducible repeat(first|apply Kd.R_alloc|apply Kd.R_drewN|apply Kd.R_drew));exact(Kd.R_mono (Kd.R_far (p:=⟨gb1149,1,none⟩) (Kd.R_far (p:=⟨gb1149,0,none⟩) (Kd.R_types HO1147.out BK1149.out (by decide)) (fun _ hk=>hk.2) (.int .i64 t1144)) (fun _ hk=>hk.2) (.slice Ao81 t1145.length co81)) (fun _ h_=>h_.1))));(case side2=>exact(Kd.R_reads' HO1147.out).2.1);(case side3=>refine(Kd.R_reads' (e:=49) (base:=w.heap.size) (ok:=fun k_=>(some k_≠(.slice Ao24 t1126.length co24:Value).ownBlock∧some k_≠(.slice Ao81 t1145.length co81:Value).ownBlock)) (n:=t1117.length) (c:=co17) ?_).2.2;exact(by(with_reducible repeat(first|apply Kd.R_alloc|apply Kd.R_drewN|apply Kd.R_drew));exact(Kd.R_mono (Kd.R_far (p:=⟨gb1149,1,none⟩) (Kd.R_far (p:=⟨gb1149,0,none⟩) (Kd.R_types HO_1122001.out BK1149.out (by decide)) (fun _ hk=>hk.2) (.int .i64 t1144)) (fun _ hk=>hk.2) (.slice Ao81 t1145.length co81)) (fun _ h_=>h_.1))));(case side4=>exact(Kd.R_reads' HO_1122001.out).2.1);rintro e w89 ⟨rfl,hb⟩;refine⟨_,rfl,?_⟩;replace HO_1122001:=qaf.mk (Kd.R_below (by(with_reducible repeat(first|apply Kd.R_alloc|apply Kd.R_drewN|apply Kd.R_drew));exact(Kd.R_mono (Kd.R_far (p:=⟨gb1149,1,none⟩) (Kd.R_far (p:=⟨gb1149,0,none⟩) (Kd.R_types HO_1122001.out BK1149.out (by decide)) (fun _ hk=>hk.2) (.int .i64 t1144)) (fun _ hk=>hk.2) (.slice Ao81 t1145.length co81)) (fun _ h_=>h_.1))) hb);replace HO_1131001:=qaf.mk (Kd.R_below (by(with_reducible repeat(first|apply Kd.R_alloc|apply Kd.R_drewN|apply Kd.R_drew));exact(Kd.R_mono (Kd.R_far (p:=⟨gb1149,1,none⟩) (Kd.R_far (p:=⟨gb1149,0,none⟩) (Kd.R_types HO_1131001.out BK1149.out (by decide)) (fun _ hk=>hk.2) (.int .i64 t1144)) (fun _ hk=>hk.2) (.slice Ao81 t1145.length co81)) (fun _ h_=>h_.1))) hb);replace HO1143:=qaf.mk (Kd.S_below (by(with_reducible repeat(first|apply Kd.S_alloc|apply Kd.S_drewN|apply Kd.S_drew));exact(Kd.S_mono (Kd.S_far (p:=⟨gb1149,1,none⟩) (Kd.S_far (p:=⟨gb1149,0,none⟩) (Kd.S_types HO1143.out BK1149.out (by decide)) (fun _ hk=>hk.2) (.int .i64 t1144)) (fun _ hk=>hk.2) (.slice Ao81 t1145.length co81)) (fun _ h_=>h_.1))) hb);replace HO1147:=qaf.mk (Kd.R_below (by(with_reducible repeat(first|apply Kd.R_alloc|apply Kd.R_drewN|apply Kd.R_drew));exact(Kd.R_mono (Kd.R_far (p:=⟨gb1149,1,none⟩) (Kd.R_far (p:=⟨gb1149,0,none⟩) (Kd.R_types HO1147.out BK1149.out (by decide)) (fun _ hk=>hk.2) (.int .i64 t1144)) (fun _ hk=>hk.2) (.slice Ao81 t1145.length co81)) (fun _ h_=>h_.1))) hb);replace BK1121:=qaf.mk (qal (g:=gb1121) (o:=.cells #[.int .i64 t1116,.slice Ao17 t1117.length co17] 38 (0,0)) (za0 NB1121_1149 BK1121) hb);replace BK1130:=qaf.mk (qal (g:=gb1130) (o:=.cells #[.int .i64 t1125,.slice Ao24 t1126.length co24] 38 (0,0)) (za0 NB1130_1149 BK1130) hb);replace BK1149:=qaf.mk (qal (g:=gb1149) (o:=.cells #[.int .i64 t1144,.slice Ao81 t1145.length co81] 38 (0,0)) (by(with_reducible repeat(first|refine qac ?_ _|refine qaa ?_|refine qab ?_ _));refine qah (cs:=#[.int .i64 t1144,.slice none 0 0]) ?_ 1 _ rfl;(with_reducible repeat(first|refine qac ?_ _|refine qaa ?_|refine qab ?_ _));refine qah (cs:=#[.int .i64 0,.slice none 0 0]) ?_ 0 _ rfl;(with_reducible repeat(first|refine qac ?_ _|refine qaa ?_|refine qab ?_ _));exact BK1149.out) hb);replace HB:=qaf.mk (qad (za9 HB GE1121 GE1130 GE1149) hb);(try clear hb)))
             go_meet
             case rel=>exact⟨_,((t1148 != t1120)),(za38),H',⟨za68 HJ9 HJ39⟩,⟨za1 HO_1122001⟩,⟨za1 HO_1131001⟩,⟨by(with_reducible repeat(first|apply Kd.R_alloc|apply Kd.R_drewN|apply Kd.R_drew));exact Kd.R_mono HO1147.out (fun _ hk=>⟨hk.1.2,hk.2⟩)⟩,⟨za11 BK1121⟩,⟨za11 BK1130⟩,⟨za11 BK1149⟩,⟨za9 HB GE1121 GE1130 GE1149⟩⟩
            ·replace c83:=Bool.eq_false_iff.mpr c83;subst c83
             have H1:(laws_FnExactStockOf.j2 kj39 t1138 true t1125 t1139)=some r:=by rw[if_neg (show ¬(false=true) by decide)] at H;exact H
             clear H;have H:=H1;clear H1;have H':=qaf.mk H;clear H;have hnb90:=NB1149_1121.out;have hnc90:=NB1121_1149.out;have hnb91:=NB1149_1130.out;have hnc91:=NB1130_1149.out;obtain⟨hcz92_0,hcz92_1,hfz92_0,hfz92_1⟩:=zC2 BK1149;have hnb93:=NB1121_1130.out;have hnc93:=NB1130_1121.out;obtain⟨hcz94_0,hcz94_1,hfz94_0,hfz94_1⟩:=zC2 BK1121
             go_wp2_with(first|((with_reducible refine qag (f:=34) rfl ?_);refine zF (some 86) Try.func34 #[.agg #[.int .i64 t1144,.slice Ao81 t1145.length co81],.agg #[.int .i64 t1116,.slice Ao17 t1117.length co17]] ?_;(with_reducible refine(laws_eqStock.calls kj39 t1144 _ _ t1145 t1116 _ _ t1117 false _ ?side1 ?side2 ?side3 ?side4 A82.out).mono ?_);(case side1=>refine(Kd.R_reads' (e:=49) (base:=w.heap.size) (ok:=fun k_=>((True∧some k_≠(.slice Ao17 t1117.length co17:Value).ownBlock)∧some k_≠(.slice Ao24 t1126.length co24:Value).ownBlock)) (n:=t1145.length) (c:=co81) ?_).2.2;exact(by(with_reducible repeat(first|apply Kd.R_alloc|apply Kd.R_drewN|apply Kd.R_drew));exact(Kd.R_mono (Kd.R_far (p:=⟨gb1149,1,none⟩) (Kd.R_far (p:=⟨gb1149,0,none⟩) (Kd.R_types HO1147.out BK1149.out (by decide)) (fun _ hk=>hk.2) (.int .i64 t1144)) (fun _ hk=>hk.2) (.slice Ao81 t1145.length co81)) (fun _ h_=>h_.1))));(case side2=>exact(Kd.R_reads' HO1147.out).2.1);(case side3=>refine(Kd.R_reads' (e:=49) (base:=w.heap.size) (ok:=fun k_=>(some k_≠(.slice Ao24 t1126.length co24:Value).ownBlock∧some k_≠(.slice Ao81 t1145.length co81:Value).ownBlock)) (n:=t1117.length) (c:=co17) ?_).2.2;exact(by(with_reducible repeat(first|apply Kd.R_alloc|apply Kd.R_drewN|apply Kd.R_drew));exact(Kd.R_mono (Kd.R_far (p:=⟨gb1149,1,none⟩) (Kd.R_far (p:=⟨gb1149,0,none⟩) (Kd.R_types HO_1122001.out BK1149.out (by decide)) (fun _ hk=>hk.2) (.int .i64 t1144)) (fun _ hk=>hk.2) (.slice Ao81 t1145.length co81)) (fun _ h_=>h_.1))));(case side4=>exact(Kd.R_reads' HO_1122001.out).2.1);rintro e w95 ⟨rfl,hb⟩;refine⟨_,rfl,?_⟩;replace HO_1122001:=qaf.mk (Kd.R_below (by(with_reducible repeat(first|apply Kd.R_alloc|apply Kd.R_drewN|apply Kd.R_drew));exact(Kd.R_mono (Kd.R_far (p:=⟨gb1149,1,none⟩) (Kd.R_far (p:=⟨gb1149,0,none⟩) (Kd.R_types HO_1122001.out BK1149.out (by decide)) (fun _ hk=>hk.2) (.int .i64 t1144)) (fun _ hk=>hk.2) (.slice Ao81 t1145.length co81)) (fun _ h_=>h_.1))) hb);replace HO_1131001:=qaf.mk (Kd.R_below (by(with_reducible repeat(first|apply Kd.R_alloc|apply Kd.R_drewN|apply Kd.R_drew));exact(Kd.R_mono (Kd.R_far (p:=⟨gb1149,1,none⟩) (Kd.R_far (p:=⟨gb1149,0,none⟩) (Kd.R_types HO_1131001.out BK1149.out (by decide)) (fun _ hk=>hk.2) (.int .i64 t1144)) (fun _ hk=>hk.2) (.slice Ao81 t1145.length co81)) (fun _ h_=>h_.1))) hb);replace HO1143:=qaf.mk (Kd.S_below (by(with_reducible repeat(first|apply Kd.S_alloc|apply Kd.S_drewN|apply Kd.S_drew));exact(Kd.S_mono (Kd.S_far (p:=⟨gb1149,1,none⟩) (Kd.S_far (p:=⟨gb1149,0,none⟩) (Kd.S_types HO1143.out BK1149.out (by decide)) (fun _ hk=>hk.2) (.int .i64 t1144)) (fun _ hk=>hk.2) (.slice Ao81 t1145.length co81)) (fun _ h_=>h_.1))) hb);replace HO1147:=qaf.mk (Kd.R_below (by(with_reducible repeat(first|apply Kd.R_alloc|apply Kd.R_drewN|apply Kd.R_drew));exact(Kd.R_mono (Kd.R_far (p:=⟨gb1149,1,none⟩) (Kd.R_far (p:=⟨gb1149,0,none⟩) (Kd.R_types HO1147.out BK1149.out (by decide)) (fun _ hk=>hk.2) (.int .i64 t1144)) (fun _ hk=>hk.2) (.slice Ao81 t1145.length co81)) (fun _ h_=>h_.1))) hb);replace BK1121:=qaf.mk (qal (g:=gb1121) (o:=.cells #[.int .i64 t1116,.slice Ao17 t1117.length co17] 38 (0,0)) (za0 NB1121_1149 BK1121) hb);replace BK1130:=qaf.mk (qal (g:=gb1130) (o:=.cells #[.int .i64 t1125,.slice Ao24 t1126.length co24] 38 (0,0)) (za0 NB1130_1149 BK1130) hb);replace BK1149:=qaf.mk (qal (g:=gb1149) (o:=.cells #[.int .i64 t1144,.slice Ao81 t1145.length co81] 38 (0,0)) (by(with_reducible repeat(first|refine qac ?_ _|refine qaa ?_|refine qab ?_ _));refine qah (cs:=#[.int .i64 t1144,.slice none 0 0]) ?_ 1 _ rfl;(with_reducible repeat(first|refine qac ?_ _|refine qaa ?_|refine qab ?_ _));refine qah (cs:=#[.int .i64 0,.slice none 0 0]) ?_ 0 _ rfl;(with_reducible repeat(first|refine qac ?_ _|refine qaa ?_|refine qab ?_ _));exact BK1149.out) hb);replace HB:=qaf.mk (qad (za9 HB GE1121 GE1130 GE1149) hb);(try clear hb)))
             go_meet
             case rel=>exact⟨_,(true),(za38),H',⟨za68 HJ9 HJ39⟩,⟨za1 HO_1122001⟩,⟨za1 HO_1131001⟩,⟨by(with_reducible repeat(first|apply Kd.R_alloc|apply Kd.R_drewN|apply Kd.R_drew));exact Kd.R_mono HO1147.out (fun _ hk=>⟨hk.1.2,hk.2⟩)⟩,⟨za11 BK1121⟩,⟨za11 BK1130⟩,⟨za11 BK1149⟩,⟨za9 HB GE1121 GE1130 GE1149⟩⟩
           case rest=>
            clear HC68
            try clear c1
            try clear c2
            try clear p2
            try clear c3
            try clear c4
            try clear c4b0
            try clear c5
            try clear c6
            try clear c7
            try clear c8
            try clear c9
            try clear c13
            try clear c21
            try clear c22
            try clear c26
            try clear c27
            try clear c31
            try clear c34
            try clear c35
            try clear c36
            try clear c38
            try clear c39
            try clear c40
            try clear c41
            try clear c42
            try clear c45
            try clear c45b0
            try clear c47
            try clear c48
            try clear c52
            try clear c56
            try clear c59
            try clear c59b0
            try clear c60
            try clear c65
            try clear c65b0
            try clear c65b1
            try clear c69
            try clear c78
            try clear c79
            try clear c83
            try clear c84
            try clear c85
            try clear c87
            try clear c90
            try clear c91
            try clear c93
            try clear hcz16_0
            try clear hcz16_1
            try clear hcz23_0
            try clear hcz23_1
            try clear hcz28_0
            try clear hcz28_1
            try clear hcz29_0
            try clear hcz29_1
            try clear hcz32_0
            try clear hcz32_1
            try clear hcz33_0
            try clear hcz33_1
            try clear hcz49_0
            try clear hcz49_1
            try clear hcz50_0
            try clear hcz50_1
            try clear hcz53_0
            try clear hcz53_1
            try clear hcz54_0
            try clear hcz54_1
            try clear hcz61_0
            try clear hcz61_1
            try clear hcz63_0
            try clear hcz63_1
            try clear hcz70_0
            try clear hcz70_1
            try clear hcz72_0
            try clear hcz72_1
            try clear hcz80_0
            try clear hcz80_1
            try clear hcz86_0
            try clear hcz86_1
            try clear hcz88_0
            try clear hcz88_1
            try clear hcz92_0
            try clear hcz92_1
            try clear hcz94_0
            try clear hcz94_1
            try clear hfz16_0
            try clear hfz16_1
            try clear hfz23_0
            try clear hfz23_1
            try clear hfz28_0
            try clear hfz28_1
            try clear hfz29_0
            try clear hfz29_1
            try clear hfz32_0
            try clear hfz32_1
            try clear hfz33_0
            try clear hfz33_1
            try clear hfz49_0
            try clear hfz49_1
            try clear hfz50_0
            try clear hfz50_1
            try clear hfz53_0
            try clear hfz53_1
            try clear hfz54_0
            try clear hfz54_1
            try clear hfz61_0
            try clear hfz61_1
            try clear hfz63_0
            try clear hfz63_1
            try clear hfz70_0
            try clear hfz70_1
            try clear hfz72_0
            try clear hfz72_1
            try clear hfz80_0
            try clear hfz80_1
            try clear hfz86_0
            try clear hfz86_1
            try clear hfz88_0
            try clear hfz88_1
            try clear hfz92_0
            try clear hfz92_1
            try clear hfz94_0
            try clear hfz94_1
            try clear p2
            obtain⟨kq,x92_67,rfl,HA,HJ67,HO_1122001,HO_1131001,HO_1150001,BK1121,BK1130,BK1149,HB⟩:=hcut;have hl1131001_67:=(Kd.R_reads' HO_1131001.out).1;rw[hl1131001_67] at HO_1131001;(try simp only[hl1131001_67]);(try simp only[hl1131001_67] at BK1121);(try simp only[hl1131001_67] at BK1130);(try simp only[hl1131001_67] at BK1149);(try simp only[hl1131001_67] at HO_1122001);(try simp only[hl1131001_67] at HO_1150001)
            cases kq with
            |zero=>exact absurd HA.out (by simp[laws_FnExactStockOf.j2])
            |succ kj67=>
             have H:=HA.out;clear HA;simp only[laws_FnExactStockOf.j2] at H;by_cases c96:x92_67=true
             ·subst c96
              have H1:(some false)=some r:=by rw[if_pos rfl] at H;exact H
              clear H;have H:=H1;clear H1;obtain rfl:=Option.some.inj H;go_wp2;go_ret;exact⟨za12,za9 HB GE1121 GE1130 GE1149⟩
             ·replace c96:=Bool.eq_false_iff.mpr c96;subst c96
              have H1:((laws_heldStock.f kj67 t1125 t1139 1).bind fun t1151=>(if t1151<0 then(some false) else(if t1151=t1138 then(some true) else(some false))))=some r:=by rw[if_neg (show ¬(false=true) by decide)] at H;exact H
              clear H;have H:=H1;clear H1;replace H:=Option.bind_eq_some_iff.mp H;obtain⟨t1151,A970,H⟩:=H;replace H:(if t1151<0 then(some false) else(if t1151=t1138 then(some true) else(some false)))=some r:=H;have A97:=qaf.mk A970;clear A970;by_cases c98:t1151<0
              ·rw[if_pos c98] at H;have c98b0:decide (t1151<0)=true:=decide_eq_true c98;clear c98;obtain rfl:=Option.some.inj H;have hnb99:=NB1130_1121.out;have hnc99:=NB1121_1130.out;have hnb100:=NB1130_1149.out;have hnc100:=NB1149_1130.out;obtain⟨hcz101_0,hcz101_1,hfz101_0,hfz101_1⟩:=zC2 BK1130
               go_wp2_with(first|((with_reducible refine qag (f:=38) rfl ?_);refine zF (some 95) Try.func38 #[.agg #[.int .i64 t1125,.slice Ao24 t1139.length co24],.int .i64 1] ?_;(with_reducible refine(laws_heldStock.calls kj67 t1125 _ _ t1139 1 t1151 _ ?side1 ?side2 A97.out).mono ?_);(case side1=>repeat(first|exact(Kd.R_reads' HO_1131001.out).2.2|(with_reducible refine Kd.C_alloc ?_ _)|(with_reducible refine Kd.C_drewN ?_ _)|(with_reducible refine Kd.C_drew ?_)));(case side2=>exact(Kd.R_reads' HO_1131001.out).2.1);rintro e w102 ⟨rfl,hb⟩;refine⟨_,rfl,?_⟩;replace HO_1122001:=qaf.mk (Kd.R_below (za1 HO_1122001) hb);replace HO_1131001:=qaf.mk (Kd.R_below (za1 HO_1131001) hb);replace HO_1150001:=qaf.mk (Kd.R_below (za1 HO_1150001) hb);replace BK1121:=zY BK1121 hb;replace BK1130:=zY BK1130 hb;replace BK1149:=zY BK1149 hb;replace HB:=qaf.mk (qad (za9 HB GE1121 GE1130 GE1149) hb);(try clear hb)))
               go_ret;exact⟨za12,za9 HB GE1121 GE1130 GE1149⟩
              ·rw[if_neg c98] at H;have c98b0:decide (t1151<0)=false:=decide_eq_false c98;clear c98;by_cases c103:t1151=t1138
               ·rw[if_pos c103] at H;have c103b0:(t1151 == t1138)=true:=beq_iff_eq.mpr c103;have c103b1:(t1151 != t1138)=false:=bne_eq_false_iff_eq.mpr c103;clear c103;obtain rfl:=Option.some.inj H;have hnb104:=NB1130_1121.out;have hnc104:=NB1121_1130.out;have hnb105:=NB1130_1149.out;have hnc105:=NB1149_1130.out;obtain⟨hcz106_0,hcz106_1,hfz106_0,hfz106_1⟩:=zC2 BK1130
                go_wp2_with(first|((with_reducible refine qag (f:=38) rfl ?_);refine zF (some 95) Try.func38 #[.agg #[.int .i64 t1125,.slice Ao24 t1139.length co24],.int .i64 1] ?_;(with_reducible refine(laws_heldStock.calls kj67 t1125 _ _ t1139 1 t1151 _ ?side1 ?side2 A97.out).mono ?_);(case side1=>repeat(first|exact(Kd.R_reads' HO_1131001.out).2.2|(with_reducible refine Kd.C_alloc ?_ _)|(with_reducible refine Kd.C_drewN ?_ _)|(with_reducible refine Kd.C_drew ?_)));(case side2=>exact(Kd.R_reads' HO_1131001.out).2.1);rintro e w107 ⟨rfl,hb⟩;refine⟨_,rfl,?_⟩;replace HO_1122001:=qaf.mk (Kd.R_below (za1 HO_1122001) hb);replace HO_1131001:=qaf.mk (Kd.R_below (za1 HO_1131001) hb);replace HO_1150001:=qaf.mk (Kd.R_below (za1 HO_1150001) hb);replace BK1121:=zY BK1121 hb;replace BK1130:=zY BK1130 hb;replace BK1149:=zY BK1149 hb;replace HB:=qaf.mk (qad (za9 HB GE1121 GE1130 GE1149) hb);(try clear hb)))
                go_ret;exact⟨za12,za9 HB GE1121 GE1130 GE1149⟩
               ·rw[if_neg c103] at H;have c103b0:(t1151 == t1138)=false:=beq_eq_false_iff_ne.mpr c103;have c103b1:(t1151 != t1138)=true:=bne_iff_ne.mpr c103;obtain rfl:=Option.some.inj H;have hnb108:=NB1130_1121.out;have hnc108:=NB1121_1130.out;have hnb109:=NB1130_1149.out;have hnc109:=NB1149_1130.out;obtain⟨hcz110_0,hcz110_1,hfz110_0,hfz110_1⟩:=zC2 BK1130
                go_wp2_with(first|((with_reducible refine qag (f:=38) rfl ?_);refine zF (some 95) Try.func38 #[.agg #[.int .i64 t1125,.slice Ao24 t1139.length co24],.int .i64 1] ?_;(with_reducible refine(laws_heldStock.calls kj67 t1125 _ _ t1139 1 t1151 _ ?side1 ?side2 A97.out).mono ?_);(case side1=>repeat(first|exact(Kd.R_reads' HO_1131001.out).2.2|(with_reducible refine Kd.C_alloc ?_ _)|(with_reducible refine Kd.C_drewN ?_ _)|(with_reducible refine Kd.C_drew ?_)));(case side2=>exact(Kd.R_reads' HO_1131001.out).2.1);rintro e w111 ⟨rfl,hb⟩;refine⟨_,rfl,?_⟩;replace HO_1122001:=qaf.mk (Kd.R_below (za1 HO_1122001) hb);replace HO_1131001:=qaf.mk (Kd.R_below (za1 HO_1131001) hb);replace HO_1150001:=qaf.mk (Kd.R_below (za1 HO_1150001) hb);replace BK1121:=zY BK1121 hb;replace BK1130:=zY BK1130 hb;replace BK1149:=zY BK1149 hb;replace HB:=qaf.mk (qad (za9 HB GE1121 GE1130 GE1149) hb);(try clear hb)))
                go_ret;exact⟨za12,za9 HB GE1121 GE1130 GE1149⟩
          ·rw[if_neg c65] at H;have c65b0:(t1140 == t1138)=false:=beq_eq_false_iff_ne.mpr c65;have c65b1:(t1140 != t1138)=true:=bne_iff_ne.mpr c65;obtain rfl:=Option.some.inj H;have hnb112:=NB1130_1121.out;have hnc112:=NB1121_1130.out;obtain⟨hcz113_0,hcz113_1,hfz113_0,hfz113_1⟩:=zC2 BK1130
           go_wp2_with(first|((with_reducible refine qag (f:=36) rfl ?_);refine zF (some 68) Try.func36 #[.agg #[.int .i64 t1125,.slice Ao24 t1126.length co24],.int .i64 1] ?_;(with_reducible refine(laws_markStock.calls kj39 t1125 (fun k_=>some k_=(.slice Ao24 t1126.length co24:Value).ownBlock) (.slice Ao24 t1126.length co24) t1126 1 t1138 t1139 w _ ?side1 ?side2 A57.out).mono ?_);(case side1=>exact(za4 HB GE1121 GE1130));(case side2=>exact Kd.R_tight rfl HO_1131001.out);rintro e w114 ⟨rfl,hy0,hb,hkp⟩;refine⟨_,rfl,?_⟩;replace HO_1122001:=qaf.mk (Kd.R_mono (ok':=fun k_=>some k_≠(.slice Ao24 t1126.length co24:Value).ownBlock) (Kd.R_keptB (HO_1122001.out) hkp (fun k_ hk_ hs_=>(hk_) hs_)) (fun k_ hk_=>hk_.1));replace BK1121:=qaf.mk (blk_kept (zB BK1121) hkp (fun hs_=>(fun e_=>(Kd.R_ne HO_1131001.out BK1121.out (by decide)) e_) hs_));replace BK1130:=qaf.mk (blk_kept (zB BK1130) hkp (fun hs_=>(fun e_=>(Kd.R_ne HO_1131001.out BK1130.out (by decide)) e_) hs_));replace HO_1131001:=qaf.mk (Kd.R_reok rfl hy0 (fun k_ e_=>HO_1131001.out.1 k_ e_));replace HB:=qaf.mk hb;(try clear hb);(try clear hkp);(try clear hy0);obtain⟨hcz115_0,hcz115_1,hfz115_0,hfz115_1⟩:=zC2 BK1130)|((with_reducible refine qag (f:=38) rfl ?_);refine goesL_ (some 71) rfl rfl Try.func38 (by kernel_rfl) rfl #[.agg #[.int .i64 t1125,.slice Ao24 t1139.length co24],.int .i64 1] rfl (by(try simp only[List.map_toArray,List.map_cons,List.map_nil]);first|done|(rw[show t1139.length=t1126.length from(Kd.R_reads' HO_1131001.out).1.symm]<;>rfl)|rfl|(simp only[List.length_drop,List.length_take];rfl)) ?_;(with_reducible refine(laws_heldStock.calls kj39 t1125 _ _ t1139 1 t1140 _ ?side1 ?side2 A58.out).mono ?_);(case side1=>repeat(first|exact(Kd.R_reads' HO_1131001.out).2.2|(with_reducible refine Kd.C_alloc ?_ _)|(with_reducible refine Kd.C_drewN ?_ _)|(with_reducible refine Kd.C_drew ?_)));(case side2=>rw[show t1139.length=t1126.length from(Kd.R_reads' HO_1131001.out).1.symm];exact(Kd.R_reads' HO_1131001.out).2.1);rintro e w116 ⟨rfl,hb⟩;refine⟨_,rfl,?_⟩;replace HO_1122001:=qaf.mk (Kd.R_below (za1 HO_1122001) hb);replace HO_1131001:=qaf.mk (Kd.R_below (za1 HO_1131001) hb);replace BK1121:=zY BK1121 hb;replace BK1130:=zY BK1130 hb;replace HB:=qaf.mk (qad (za4 HB GE1121 GE1130) hb);(try clear hb)))
           go_ret;exact⟨za12,za4 HB GE1121 GE1130⟩
     ·replace c38:=Bool.eq_false_iff.mpr c38;subst c38
      have H1:(some false)=some r:=by rw[if_neg (show ¬(false=true) by decide)] at H;exact H
      clear H;have H:=H1;clear H1;obtain rfl:=Option.some.inj H
      go_wp2_with(first|((with_reducible refine qag (f:=40) rfl ?_);refine zF (some 47) Try.func40 #[.slice A1 l1.length c1] ?_;(with_reducible refine(laws_toRecS.calls kj9 _ _ l1 t1132 _ ?side1 ?side2 A36.out).mono ?_);(case side1=>exact zR HR1 HB);(case side2=>exact HC1.out);rintro e w117 ⟨v1133,rfl,ho0,hb⟩;refine⟨_,rfl,?_⟩;replace HO_1122001:=qaf.mk (Kd.R_below (za1 HO_1122001) hb);replace HO_1131001:=qaf.mk (Kd.R_below (za1 HO_1131001) hb);have HO1134:=qaf.mk (Kd.S_lower (Kd.S_new' ho0 (Kd.S_lt (za24 HO_8))) (qan (za4 HB GE1121 GE1130)));replace HO_8:=qaf.mk (Kd.S_elder' (za24 HO_8) (Kd.S_base ho0) hb);replace BK1121:=zY BK1121 hb;replace BK1130:=zY BK1130 hb;replace HB:=qaf.mk (qad (za4 HB GE1121 GE1130) hb);(try clear hb);(try clear ho0);obtain⟨Ao118,co118,eo118⟩:=Kd.S_slice HO1134.out;subst eo118)|((with_reducible refine qag (f:=41) rfl ?_);refine zF (some 48) Try.func41 #[.slice Ao19 t1122.length co19,.slice Ao118 t1132.length co118] ?_;(with_reducible refine(laws_eqRecS.calls kj9 _ _ t1122 _ _ t1132 false _ ?side1 ?side2 ?side3 ?side4 A37.out).mono ?_);(case side1=>repeat(first|exact(Kd.S_reads' HO_8.out).2.2|(with_reducible refine Kd.C_alloc ?_ _)|(with_reducible refine Kd.C_drewN ?_ _)|(with_reducible refine Kd.C_drew ?_)));(case side2=>exact(Kd.S_reads' HO_8.out).2.1);(case side3=>repeat(first|exact(Kd.S_reads' HO1134.out).2.2|(with_reducible refine Kd.C_alloc ?_ _)|(with_reducible refine Kd.C_drewN ?_ _)|(with_reducible refine Kd.C_drew ?_)));(case side4=>exact(Kd.S_reads' HO1134.out).2.1);rintro e w119 ⟨rfl,hb⟩;refine⟨_,rfl,?_⟩;replace HO_8:=qaf.mk (Kd.S_below (za24 HO_8) hb);replace HO_1122001:=qaf.mk (Kd.R_below (za1 HO_1122001) hb);replace HO_1131001:=qaf.mk (Kd.R_below (za1 HO_1131001) hb);replace HO1134:=qaf.mk (Kd.S_below (za24 HO1134) hb);replace BK1121:=zY BK1121 hb;replace BK1130:=zY BK1130 hb;replace HB:=qaf.mk (qad (za4 HB GE1121 GE1130) hb);(try clear hb)))
      go_ret;exact⟨za12,za4 HB GE1121 GE1130⟩
end Go.Proofs.Ytmbdphefnalenaa.Print
