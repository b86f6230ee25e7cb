-- Written by squeeze.py: not trusted, Lean checks it.
import Derived.Test.YtmbdphefnalenaaZK
import Derived.Test.YtmbdphefnalenaaZe2
namespace Go.Proofs.Ytmbdphefnalenaa.Print
open Go.RowKit Go.Proofs.YtmbdphefnalenaaW.PrintWords Go.Proofs.YtmbdphefnalenaaW.PrintLast Go.Proofs.YtmbdphefnalenaaW.PrintMore
attribute [local go_sem] max2_int min2_int max_two min_two max_three min_three max_four min_four
set_option linter.unusedVariables false
set_option linter.unusedSimpArgs false
def impl_StockFree.f (k:Nat) (a0_0:Int) (l0_1:List (S49)):Option (Int):=(impl_StockOk.f k a0_0 l0_1).bind fun t623=>(if t623=true then((impl_Stock_free.f k a0_0 l0_1).bind fun t624=>(some t624)) else(some (-1)))
theorem impl_StockFree.mono:∀a0 a1 k,LeO (impl_StockFree.f k a0 a1) (impl_StockFree.f (k+1) a0 a1):=by
 intro a0 a1 k;unfold impl_StockFree.f
 repeat' first|(with_reducible exact impl_StockOk.mono _ _ _)|(with_reducible exact impl_Stock_free.mono _ _ _)|(with_reducible exact LeO.refl _)|(with_reducible exact LeO.none _)|(with_reducible refine LeO.ite ?_ ?_)|(with_reducible refine LeO.bind ?_ (fun _=>?_))|exact impl_StockOk.mono _ _ _|exact impl_Stock_free.mono _ _ _|exact LeO.none _|refine LeO.ite ?_ ?_|refine LeO.bind ?_ (fun _=>?_)
set_option maxHeartbeats 8000000 in
set_option maxRecDepth 100000 in
theorem impl_StockFree.calls (k:Nat) (a0_0:Int) (A0_1:Option Addr) (c0_1:Nat) (l0_1:List (S49)) (r:Int) (w:World) (hr0_1:Kd.C k49 w A0_1 l0_1.length l0_1) (hc0_1:l0_1.length≤c0_1) (h:impl_StockFree.f k a0_0 l0_1=some r) :
  Calls Try.prog 25 #[.agg #[.int .i64 a0_0,.slice A0_1 l0_1.length c0_1]] w fun e w'=>e=.returned (.int .i64 r)∧Below w.heap.size w w':=by
 have hu38:=Try.underlying38;have HR0_1:=qaf.mk hr0_1;have HC0_1:=qaf.mk hc0_1;clear hr0_1 hc0_1;have HB:=qaf.mk (Below.refl w.heap.size w);have H:((impl_StockOk.f k a0_0 l0_1).bind fun t623=>(if t623=true then((impl_Stock_free.f k a0_0 l0_1).bind fun t624=>(some t624)) else(some (-1))))=some r:=h;clear h;replace H:=Option.bind_eq_some_iff.mp H;obtain⟨t623,A20,H⟩:=H;replace H:(if t623=true then((impl_Stock_free.f k a0_0 l0_1).bind fun t624=>(some t624)) else(some (-1)))=some r:=H;have A2:=qaf.mk A20;clear A20;by_cases c3:t623=true
 ·subst c3
  have H1:((impl_Stock_free.f k a0_0 l0_1).bind fun t624=>(some t624))=some r:=by rw[if_pos rfl] at H;exact H
  clear H;have H:=H1;clear H1;replace H:=Option.bind_eq_some_iff.mp H;obtain⟨t624,A40,H⟩:=H;replace H:(some t624)=some r:=H;have A4:=qaf.mk A40;clear A40;obtain rfl:=Option.some.inj H;go_enter Try.func25,Try.ntmps25
  go_wp2_with(first|((with_reducible refine qam (N:=1) rfl ?_);refine zX (N:=1) (cs:=#[.int .i64 a0_0,.slice A0_1 l0_1.length c0_1]) (t:=38) ?_;intro gb622 hg w5 hbox hb;have BK622:=qaf.mk hbox;have GW622:=zH (w:=w) hg (za2 HB);have GE622:=GW622;replace HB:=qaf.mk (qad (za2 HB) hb);clear hb hbox hg;obtain⟨hcz6_0,hcz6_1,hfz6_0,hfz6_1⟩:=zC2 BK622)|((with_reducible refine qag (f:=29) rfl ?_);refine zF (some 4) Try.func29 #[.agg #[.int .i64 a0_0,.slice A0_1 l0_1.length c0_1]] ?_;(with_reducible refine(impl_StockOk.calls k a0_0 _ _ l0_1 true _ ?side1 ?side2 A2.out).mono ?_);(case side1=>exact zR HR0_1 HB);(case side2=>exact HC0_1.out);rintro e w7 ⟨rfl,hb⟩;refine⟨_,rfl,?_⟩;replace BK622:=zY BK622 hb;replace HB:=qaf.mk (qad (za3 HB GE622) hb);(try clear hb);obtain⟨hcz8_0,hcz8_1,hfz8_0,hfz8_1⟩:=zC2 BK622)|((with_reducible refine qag (f:=58) rfl ?_);refine zF (some 7) Try.func58 #[.agg #[.int .i64 a0_0,.slice A0_1 l0_1.length c0_1]] ?_;(with_reducible refine(impl_Stock_free.calls k a0_0 _ _ l0_1 t624 _ ?side1 ?side2 A4.out).mono ?_);(case side1=>exact zR HR0_1 HB);(case side2=>exact HC0_1.out);rintro e w9 ⟨rfl,hb⟩;refine⟨_,rfl,?_⟩;replace BK622:=zY BK622 hb;replace HB:=qaf.mk (qad (za3 HB GE622) hb);(try clear hb)))
  go_ret;exact⟨za12,za3 HB GE622⟩
 ·replace c3:=Bool.eq_false_iff.mpr c3;subst c3
  have H1:(some (-1))=some r:=by rw[if_neg (show ¬(false=true) by decide)] at H;exact H
  clear H;have H:=H1;clear H1;obtain rfl:=Option.some.inj H;go_enter Try.func25,Try.ntmps25
  go_wp2_with(first|((with_reducible refine qam (N:=1) rfl ?_);refine zX (N:=1) (cs:=#[.int .i64 a0_0,.slice A0_1 l0_1.length c0_1]) (t:=38) ?_;intro gb622 hg w10 hbox hb;have BK622:=qaf.mk hbox;have GW622:=zH (w:=w) hg (za2 HB);have GE622:=GW622;replace HB:=qaf.mk (qad (za2 HB) hb);clear hb hbox hg;obtain⟨hcz11_0,hcz11_1,hfz11_0,hfz11_1⟩:=zC2 BK622)|((with_reducible refine qag (f:=29) rfl ?_);refine zF (some 4) Try.func29 #[.agg #[.int .i64 a0_0,.slice A0_1 l0_1.length c0_1]] ?_;(with_reducible refine(impl_StockOk.calls k a0_0 _ _ l0_1 false _ ?side1 ?side2 A2.out).mono ?_);(case side1=>exact zR HR0_1 HB);(case side2=>exact HC0_1.out);rintro e w12 ⟨rfl,hb⟩;refine⟨_,rfl,?_⟩;replace BK622:=zY BK622 hb;replace HB:=qaf.mk (qad (za3 HB GE622) hb);(try clear hb)))
  go_ret;exact⟨za12,za3 HB GE622⟩
end Go.Proofs.Ytmbdphefnalenaa.Print
