-- Written by squeeze.py: not trusted, Lean checks it.
import Derived.Test.YtmbdphefnalenaaZK
import Derived.Test.YtmbdphefnalenaaZc0
namespace Go.Proofs.Ytmbdphefnalenaa.Print
open Go.RowKit Go.Proofs.YtmbdphefnalenaaW.PrintWords Go.Proofs.YtmbdphefnalenaaW.PrintLast Go.Proofs.YtmbdphefnalenaaW.PrintMore
attribute [local go_sem] max2_int min2_int max_two min_two max_three min_three max_four min_four
set_option linter.unusedVariables false
set_option linter.unusedSimpArgs false
def impl_RecOk.f (a0_0:Int) (a0_1:Int) (l0_2:List Int):Option (Bool):=if a0_0=1 then(if(l0_2.length:Int)=1 then(if 0<(l0_2.length:Int) then((impl_in.f (rd l0_2 0) 1 3).bind fun t281=>((impl_in.f a0_0 1 7).bind fun t282=>(if t282=true then((impl_isTrip.f a0_1).bind fun t283=>(if t283=true then(some t281) else(some false))) else(some false)))) else(none)) else((impl_in.f a0_0 1 7).bind fun t284=>(if t284=true then((impl_isTrip.f a0_1).bind fun t285=>(if t285=true then(some false) else(some false))) else(some false)))) else(if a0_0=4 then((impl_wantedOk.f l0_2).bind fun t286=>((impl_in.f a0_0 1 7).bind fun t287=>(if t287=true then((impl_isTrip.f a0_1).bind fun t288=>(if t288=true then(some t286) else(some false))) else(some false)))) else((impl_in.f a0_0 1 7).bind fun t289=>(if t289=true then((impl_isTrip.f a0_1).bind fun t290=>(if t290=true then(some ((l0_2.length:Int) == 0)) else(some false))) else(some false))))
set_option maxHeartbeats 8000000 in
set_option maxRecDepth 100000 in
theorem impl_RecOk.calls (a0_0:Int) (a0_1:Int) (A0_2:Option Addr) (c0_2:Nat) (l0_2:List Int) (r:Bool) (w:World) (hr0_2:Kd.C (Kd.int .i64) w A0_2 l0_2.length l0_2) (hc0_2:l0_2.length≤c0_2) (h:impl_RecOk.f a0_0 a0_1 l0_2=some r) :
  Calls Try.prog 63 #[.agg #[.int .i64 a0_0,.int .i64 a0_1,.slice A0_2 l0_2.length c0_2]] w fun e w'=>e=.returned (.bool r)∧Below w.heap.size w w':=by
 have hu32:=Try.underlying32
 have HR0_2:=Aside0.mk hr0_2
 have HC0_2:=Aside0.mk hc0_2
 clear hr0_2 hc0_2
 have HB:=Aside0.mk (Below.refl w.heap.size w)
 have H:(if a0_0=1 then(if(l0_2.length:Int)=1 then(if 0<(l0_2.length:Int) then((impl_in.f (rd l0_2 0) 1 3).bind fun t281=>((impl_in.f a0_0 1 7).bind fun t282=>(if t282=true then((impl_isTrip.f a0_1).bind fun t283=>(if t283=true then(some t281) else(some false))) else(some false)))) else(none)) else((impl_in.f a0_0 1 7).bind fun t284=>(if t284=true then((impl_isTrip.f a0_1).bind fun t285=>(if t285=true then(some false) else(some false))) else(some false)))) else(if a0_0=4 then((impl_wantedOk.f l0_2).bind fun t286=>((impl_in.f a0_0 1 7).bind fun t287=>(if t287=true then((impl_isTrip.f a0_1).bind fun t288=>(if t288=true then(some t286) else(some false))) else(some false)))) else((impl_in.f a0_0 1 7).bind fun t289=>(if t289=true then((impl_isTrip.f a0_1).bind fun t290=>(if t290=true then(some ((l0_2.length:Int) == 0)) else(some false))) else(some false)))))=some r:=h
 clear h
 by_cases c2:a0_0=1
 ·rw[if_pos c2] at H
  have c2b0:(a0_0 == 1)=true:=beq_iff_eq.mpr c2
  have c2b1:(a0_0 != 1)=false:=bne_eq_false_iff_eq.mpr c2
  clear c2
  by_cases c3:(l0_2.length:Int)=1
  ·rw[if_pos c3] at H
   have c3b0:((l0_2.length:Int) == 1)=true:=beq_iff_eq.mpr c3
   have c3b1:((l0_2.length:Int) != 1)=false:=bne_eq_false_iff_eq.mpr c3
   clear c3
   by_cases c4:0<(l0_2.length:Int)
   ·rw[if_pos c4] at H
    have c4b0:decide (0<(l0_2.length:Int))=true:=decide_eq_true c4
    have c4b1:decide (0<l0_2.length)=true:=decide_eq_true (by omega)
    clear c4
    replace H:=Option.bind_eq_some_iff.mp H
    obtain⟨t281,A50,H⟩:=H
    replace H:((impl_in.f a0_0 1 7).bind fun t282=>(if t282=true then((impl_isTrip.f a0_1).bind fun t283=>(if t283=true then(some t281) else(some false))) else(some false)))=some r:=H
    have A5:=Aside0.mk A50
    clear A50
    replace H:=Option.bind_eq_some_iff.mp H
    obtain⟨t282,A60,H⟩:=H
    replace H:(if t282=true then((impl_isTrip.f a0_1).bind fun t283=>(if t283=true then(some t281) else(some false))) else(some false))=some r:=H
    have A6:=Aside0.mk A60
    clear A60
    by_cases c7:t282=true
    ·subst c7
     have H1:((impl_isTrip.f a0_1).bind fun t283=>(if t283=true then(some t281) else(some false)))=some r:=by rw[if_pos rfl] at H;exact H
     clear H
     have H:=H1
     clear H1
     replace H:=Option.bind_eq_some_iff.mp H
     obtain⟨t283,A80,H⟩:=H
     replace H:(if t283=true then(some t281) else(some false))=some r:=H
     have A8:=Aside0.mk A80
     clear A80
     by_cases c9:t283=true
     ·subst c9
      have H1:(some t281)=some r:=by rw[if_pos rfl] at H;exact H
      clear H
      have H:=H1
      clear H1
      obtain rfl:=Option.some.inj H
      go_enter Try.func63,Try.ntmps63
      go_wp2_with(first|((with_reducible refine qae (N:=1) rfl ?_);refine zX (N:=1) (cs:=#[.int .i64 a0_0,.int .i64 a0_1,.slice A0_2 l0_2.length c0_2]) (t:=32) ?_;intro gb279 hg w10 hbox hb;have BK279:=Aside0.mk hbox;have GW279:=zH (w:=w) hg (za4 HB);have GE279:=GW279;replace HB:=Aside0.mk (qab (za4 HB) hb);clear hb hbox hg;obtain⟨hcz11_0,hcz11_1,hcz11_2,hfz11_0,hfz11_1,hfz11_2⟩:=zC3 BK279;have p280:0≤(0:Int):=(by omega);have q280:0<(l0_2.length:Int):=of_decide_eq_true (za9);obtain⟨ad280,e280,hx280_0⟩:=Kd.at_int HR0_2.out 0 p280 q280;cases e280;have qi280:(0<l0_2.length)=True:=eq_true (by omega);(try rw[show((0:Int)).toNat=0 from rfl] at hx280_0);(try rw[Addr.add_zero'] at hx280_0);replace hx280_0:=(HB.out.cell (World.block_lt_of_cell? w _ hx280_0)).trans hx280_0;replace p280:=eq_true p280;replace q280:=eq_true q280)|(go_at_call 66;(with_reducible refine(impl_in.calls (rd l0_2 0) 1 3 t281 _ A5.out).mono ?_);rintro e w' ⟨rfl,⟨nd,rfl⟩⟩)|((with_reducible refine qac (f:=66) rfl ?_);refine zF (some 30) Try.func66 #[.int .i64 a0_0,.int .i64 1,.int .i64 7] ?_;(with_reducible refine(impl_in.calls a0_0 1 7 true _ A6.out).mono ?_);rintro e w' ⟨rfl,⟨nd,rfl⟩⟩;refine⟨_,rfl,?_⟩)|(go_at_call 94;(with_reducible refine(impl_isTrip.calls a0_1 true _ A8.out).mono ?_);rintro e w' ⟨rfl,⟨nd,rfl⟩⟩))
      go_ret
      exact⟨za16,za1 HB GE279⟩
     ·replace c9:=Bool.eq_false_iff.mpr c9
      subst c9
      have H1:(some false)=some r:=by rw[if_neg (show ¬(false=true) by decide)] at H;exact H
      clear H
      have H:=H1
      clear H1
      obtain rfl:=Option.some.inj H
      go_enter Try.func63,Try.ntmps63
      go_wp2_with(first|((with_reducible refine qae (N:=1) rfl ?_);refine zX (N:=1) (cs:=#[.int .i64 a0_0,.int .i64 a0_1,.slice A0_2 l0_2.length c0_2]) (t:=32) ?_;intro gb279 hg w12 hbox hb;have BK279:=Aside0.mk hbox;have GW279:=zH (w:=w) hg (za4 HB);have GE279:=GW279;replace HB:=Aside0.mk (qab (za4 HB) hb);clear hb hbox hg;obtain⟨hcz13_0,hcz13_1,hcz13_2,hfz13_0,hfz13_1,hfz13_2⟩:=zC3 BK279;have p280:0≤(0:Int):=(by omega);have q280:0<(l0_2.length:Int):=of_decide_eq_true (za9);obtain⟨ad280,e280,hx280_0⟩:=Kd.at_int HR0_2.out 0 p280 q280;cases e280;have qi280:(0<l0_2.length)=True:=eq_true (by omega);(try rw[show((0:Int)).toNat=0 from rfl] at hx280_0);(try rw[Addr.add_zero'] at hx280_0);replace hx280_0:=(HB.out.cell (World.block_lt_of_cell? w _ hx280_0)).trans hx280_0;replace p280:=eq_true p280;replace q280:=eq_true q280)|(go_at_call 66;(with_reducible refine(impl_in.calls (rd l0_2 0) 1 3 t281 _ A5.out).mono ?_);rintro e w' ⟨rfl,⟨nd,rfl⟩⟩)|((with_reducible refine qac (f:=66) rfl ?_);refine zF (some 30) Try.func66 #[.int .i64 a0_0,.int .i64 1,.int .i64 7] ?_;(with_reducible refine(impl_in.calls a0_0 1 7 true _ A6.out).mono ?_);rintro e w' ⟨rfl,⟨nd,rfl⟩⟩;refine⟨_,rfl,?_⟩)|(go_at_call 94;(with_reducible refine(impl_isTrip.calls a0_1 false _ A8.out).mono ?_);rintro e w' ⟨rfl,⟨nd,rfl⟩⟩))
      go_ret
      exact⟨za16,za1 HB GE279⟩
    ·replace c7:=Bool.eq_false_iff.mpr c7
     subst c7
     have H1:(some false)=some r:=by rw[if_neg (show ¬(false=true) by decide)] at H;exact H
     clear H
     have H:=H1
     clear H1
     obtain rfl:=Option.some.inj H
     go_enter Try.func63,Try.ntmps63
     go_wp2_with(first|((with_reducible refine qae (N:=1) rfl ?_);refine zX (N:=1) (cs:=#[.int .i64 a0_0,.int .i64 a0_1,.slice A0_2 l0_2.length c0_2]) (t:=32) ?_;intro gb279 hg w14 hbox hb;have BK279:=Aside0.mk hbox;have GW279:=zH (w:=w) hg (za4 HB);have GE279:=GW279;replace HB:=Aside0.mk (qab (za4 HB) hb);clear hb hbox hg;obtain⟨hcz15_0,hcz15_1,hcz15_2,hfz15_0,hfz15_1,hfz15_2⟩:=zC3 BK279;have p280:0≤(0:Int):=(by omega);have q280:0<(l0_2.length:Int):=of_decide_eq_true (za9);obtain⟨ad280,e280,hx280_0⟩:=Kd.at_int HR0_2.out 0 p280 q280;cases e280;have qi280:(0<l0_2.length)=True:=eq_true (by omega);(try rw[show((0:Int)).toNat=0 from rfl] at hx280_0);(try rw[Addr.add_zero'] at hx280_0);replace hx280_0:=(HB.out.cell (World.block_lt_of_cell? w _ hx280_0)).trans hx280_0;replace p280:=eq_true p280;replace q280:=eq_true q280)|(go_at_call 66;(with_reducible refine(impl_in.calls (rd l0_2 0) 1 3 t281 _ A5.out).mono ?_);rintro e w' ⟨rfl,⟨nd,rfl⟩⟩)|((with_reducible refine qac (f:=66) rfl ?_);refine zF (some 30) Try.func66 #[.int .i64 a0_0,.int .i64 1,.int .i64 7] ?_;(with_reducible refine(impl_in.calls a0_0 1 7 false _ A6.out).mono ?_);rintro e w' ⟨rfl,⟨nd,rfl⟩⟩;refine⟨_,rfl,?_⟩))
     go_ret
     exact⟨za16,za1 HB GE279⟩
   ·rw[if_neg c4] at H
    exact absurd H (by simp)
  ·rw[if_neg c3] at H
   have c3b0:((l0_2.length:Int) == 1)=false:=beq_eq_false_iff_ne.mpr c3
   have c3b1:((l0_2.length:Int) != 1)=true:=bne_iff_ne.mpr c3
   replace H:=Option.bind_eq_some_iff.mp H
   obtain⟨t284,A160,H⟩:=H
   replace H:(if t284=true then((impl_isTrip.f a0_1).bind fun t285=>(if t285=true then(some false) else(some false))) else(some false))=some r:=H
   have A16:=Aside0.mk A160
   clear A160
   by_cases c17:t284=true
   ·subst c17
    have H1:((impl_isTrip.f a0_1).bind fun t285=>(if t285=true then(some false) else(some false)))=some r:=by rw[if_pos rfl] at H;exact H
    clear H
    have H:=H1
    clear H1
    replace H:=Option.bind_eq_some_iff.mp H
    obtain⟨t285,A180,H⟩:=H
    replace H:(if t285=true then(some false) else(some false))=some r:=H
    have A18:=Aside0.mk A180
    clear A180
    by_cases c19:t285=true
    ·subst c19
     have H1:(some false)=some r:=by rw[if_pos rfl] at H;exact H
     clear H
     have H:=H1
     clear H1
     obtain rfl:=Option.some.inj H
     go_enter Try.func63,Try.ntmps63
     go_wp2_with(first|((with_reducible refine qae (N:=1) rfl ?_);refine zX (N:=1) (cs:=#[.int .i64 a0_0,.int .i64 a0_1,.slice A0_2 l0_2.length c0_2]) (t:=32) ?_;intro gb279 hg w20 hbox hb;have BK279:=Aside0.mk hbox;have GW279:=zH (w:=w) hg (za4 HB);have GE279:=GW279;replace HB:=Aside0.mk (qab (za4 HB) hb);clear hb hbox hg;obtain⟨hcz21_0,hcz21_1,hcz21_2,hfz21_0,hfz21_1,hfz21_2⟩:=zC3 BK279)|((with_reducible refine qac (f:=66) rfl ?_);refine zF (some 30) Try.func66 #[.int .i64 a0_0,.int .i64 1,.int .i64 7] ?_;(with_reducible refine(impl_in.calls a0_0 1 7 true _ A16.out).mono ?_);rintro e w' ⟨rfl,⟨nd,rfl⟩⟩;refine⟨_,rfl,?_⟩)|(go_at_call 94;(with_reducible refine(impl_isTrip.calls a0_1 true _ A18.out).mono ?_);rintro e w' ⟨rfl,⟨nd,rfl⟩⟩))
     go_ret
     exact⟨za16,za1 HB GE279⟩
    ·replace c19:=Bool.eq_false_iff.mpr c19
     subst c19
     have H1:(some false)=some r:=by rw[if_neg (show ¬(false=true) by decide)] at H;exact H
     clear H
     have H:=H1
     clear H1
     obtain rfl:=Option.some.inj H
     go_enter Try.func63,Try.ntmps63
     go_wp2_with(first|((with_reducible refine qae (N:=1) rfl ?_);refine zX (N:=1) (cs:=#[.int .i64 a0_0,.int .i64 a0_1,.slice A0_2 l0_2.length c0_2]) (t:=32) ?_;intro gb279 hg w22 hbox hb;have BK279:=Aside0.mk hbox;have GW279:=zH (w:=w) hg (za4 HB);have GE279:=GW279;replace HB:=Aside0.mk (qab (za4 HB) hb);clear hb hbox hg;obtain⟨hcz23_0,hcz23_1,hcz23_2,hfz23_0,hfz23_1,hfz23_2⟩:=zC3 BK279)|((with_reducible refine qac (f:=66) rfl ?_);refine zF (some 30) Try.func66 #[.int .i64 a0_0,.int .i64 1,.int .i64 7] ?_;(with_reducible refine(impl_in.calls a0_0 1 7 true _ A16.out).mono ?_);rintro e w' ⟨rfl,⟨nd,rfl⟩⟩;refine⟨_,rfl,?_⟩)|(go_at_call 94;(with_reducible refine(impl_isTrip.calls a0_1 false _ A18.out).mono ?_);rintro e w' ⟨rfl,⟨nd,rfl⟩⟩))
     go_ret
     exact⟨za16,za1 HB GE279⟩
   ·replace c17:=Bool.eq_false_iff.mpr c17
    subst c17
    have H1:(some false)=some r:=by rw[if_neg (show ¬(false=true) by decide)] at H;exact H
    clear H
    have H:=H1
    clear H1
    obtain rfl:=Option.some.inj H
    go_enter Try.func63,Try.ntmps63
    go_wp2_with(first|((with_reducible refine qae (N:=1) rfl ?_);refine zX (N:=1) (cs:=#[.int .i64 a0_0,.int .i64 a0_1,.slice A0_2 l0_2.length c0_2]) (t:=32) ?_;intro gb279 hg w24 hbox hb;have BK279:=Aside0.mk hbox;have GW279:=zH (w:=w) hg (za4 HB);have GE279:=GW279;replace HB:=Aside0.mk (qab (za4 HB) hb);clear hb hbox hg;obtain⟨hcz25_0,hcz25_1,hcz25_2,hfz25_0,hfz25_1,hfz25_2⟩:=zC3 BK279)|((with_reducible refine qac (f:=66) rfl ?_);refine zF (some 30) Try.func66 #[.int .i64 a0_0,.int .i64 1,.int .i64 7] ?_;(with_reducible refine(impl_in.calls a0_0 1 7 false _ A16.out).mono ?_);rintro e w' ⟨rfl,⟨nd,rfl⟩⟩;refine⟨_,rfl,?_⟩))
    go_ret
    exact⟨za16,za1 HB GE279⟩
 ·rw[if_neg c2] at H
  have c2b0:(a0_0 == 1)=false:=beq_eq_false_iff_ne.mpr c2
  have c2b1:(a0_0 != 1)=true:=bne_iff_ne.mpr c2
  by_cases c26:a0_0=4
  ·rw[if_pos c26] at H
   have c26b0:(a0_0 == 4)=true:=beq_iff_eq.mpr c26
   have c26b1:(a0_0 != 4)=false:=bne_eq_false_iff_eq.mpr c26
   clear c26
   replace H:=Option.bind_eq_some_iff.mp H
   obtain⟨t286,A270,H⟩:=H
   replace H:((impl_in.f a0_0 1 7).bind fun t287=>(if t287=true then((impl_isTrip.f a0_1).bind fun t288=>(if t288=true then(some t286) else(some false))) else(some false)))=some r:=H
   have A27:=Aside0.mk A270
   clear A270
   replace H:=Option.bind_eq_some_iff.mp H
   obtain⟨t287,A280,H⟩:=H
   replace H:(if t287=true then((impl_isTrip.f a0_1).bind fun t288=>(if t288=true then(some t286) else(some false))) else(some false))=some r:=H
   have A28:=Aside0.mk A280
   clear A280
   by_cases c29:t287=true
   ·subst c29
    have H1:((impl_isTrip.f a0_1).bind fun t288=>(if t288=true then(some t286) else(some false)))=some r:=by rw[if_pos rfl] at H;exact H
    clear H
    have H:=H1
    clear H1
    replace H:=Option.bind_eq_some_iff.mp H
    obtain⟨t288,A300,H⟩:=H
    replace H:(if t288=true then(some t286) else(some false))=some r:=H
    have A30:=Aside0.mk A300
    clear A300
    by_cases c31:t288=true
    ·subst c31
     have H1:(some t286)=some r:=by rw[if_pos rfl] at H;exact H
     clear H
     have H:=H1
     clear H1
     obtain rfl:=Option.some.inj H
     go_enter Try.func63,Try.ntmps63
     go_wp2_with(first|((with_reducible refine qae (N:=1) rfl ?_);refine zX (N:=1) (cs:=#[.int .i64 a0_0,.int .i64 a0_1,.slice A0_2 l0_2.length c0_2]) (t:=32) ?_;intro gb279 hg w32 hbox hb;have BK279:=Aside0.mk hbox;have GW279:=zH (w:=w) hg (za4 HB);have GE279:=GW279;replace HB:=Aside0.mk (qab (za4 HB) hb);clear hb hbox hg;obtain⟨hcz33_0,hcz33_1,hcz33_2,hfz33_0,hfz33_1,hfz33_2⟩:=zC3 BK279)|((with_reducible refine qac (f:=93) rfl ?_);refine zF (some 27) Try.func93 #[.slice A0_2 l0_2.length c0_2] ?_;(with_reducible refine(impl_wantedOk.calls _ _ l0_2 t286 _ ?side1 ?side2 A27.out).mono ?_);(case side1=>exact zR HR0_2 HB);(case side2=>exact HC0_2.out);rintro e w' ⟨rfl,⟨nd,rfl⟩⟩;refine⟨_,rfl,?_⟩)|((with_reducible refine qac (f:=66) rfl ?_);refine zF (some 30) Try.func66 #[.int .i64 a0_0,.int .i64 1,.int .i64 7] ?_;(with_reducible refine(impl_in.calls a0_0 1 7 true _ A28.out).mono ?_);rintro e w' ⟨rfl,⟨nd,rfl⟩⟩;refine⟨_,rfl,?_⟩)|(go_at_call 94;(with_reducible refine(impl_isTrip.calls a0_1 true _ A30.out).mono ?_);rintro e w' ⟨rfl,⟨nd,rfl⟩⟩))
     go_ret
     exact⟨za16,za1 HB GE279⟩
    ·replace c31:=Bool.eq_false_iff.mpr c31
     subst c31
     have H1:(some false)=some r:=by rw[if_neg (show ¬(false=true) by decide)] at H;exact H
     clear H
     have H:=H1
     clear H1
     obtain rfl:=Option.some.inj H
     go_enter Try.func63,Try.ntmps63
     go_wp2_with(first|((with_reducible refine qae (N:=1) rfl ?_);refine zX (N:=1) (cs:=#[.int .i64 a0_0,.int .i64 a0_1,.slice A0_2 l0_2.length c0_2]) (t:=32) ?_;intro gb279 hg w34 hbox hb;have BK279:=Aside0.mk hbox;have GW279:=zH (w:=w) hg (za4 HB);have GE279:=GW279;replace HB:=Aside0.mk (qab (za4 HB) hb);clear hb hbox hg;obtain⟨hcz35_0,hcz35_1,hcz35_2,hfz35_0,hfz35_1,hfz35_2⟩:=zC3 BK279)|((with_reducible refine qac (f:=93) rfl ?_);refine zF (some 27) Try.func93 #[.slice A0_2 l0_2.length c0_2] ?_;(with_reducible refine(impl_wantedOk.calls _ _ l0_2 t286 _ ?side1 ?side2 A27.out).mono ?_);(case side1=>exact zR HR0_2 HB);(case side2=>exact HC0_2.out);rintro e w' ⟨rfl,⟨nd,rfl⟩⟩;refine⟨_,rfl,?_⟩)|((with_reducible refine qac (f:=66) rfl ?_);refine zF (some 30) Try.func66 #[.int .i64 a0_0,.int .i64 1,.int .i64 7] ?_;(with_reducible refine(impl_in.calls a0_0 1 7 true _ A28.out).mono ?_);rintro e w' ⟨rfl,⟨nd,rfl⟩⟩;refine⟨_,rfl,?_⟩)|(go_at_call 94;(with_reducible refine(impl_isTrip.calls a0_1 false _ A30.out).mono ?_);rintro e w' ⟨rfl,⟨nd,rfl⟩⟩))
     go_ret
     exact⟨za16,za1 HB GE279⟩
   ·replace c29:=Bool.eq_false_iff.mpr c29
    subst c29
    have H1:(some false)=some r:=by rw[if_neg (show ¬(false=true) by decide)] at H;exact H
    clear H
    have H:=H1
    clear H1
    obtain rfl:=Option.some.inj H
    go_enter Try.func63,Try.ntmps63
    go_wp2_with(first|((with_reducible refine qae (N:=1) rfl ?_);refine zX (N:=1) (cs:=#[.int .i64 a0_0,.int .i64 a0_1,.slice A0_2 l0_2.length c0_2]) (t:=32) ?_;intro gb279 hg w36 hbox hb;have BK279:=Aside0.mk hbox;have GW279:=zH (w:=w) hg (za4 HB);have GE279:=GW279;replace HB:=Aside0.mk (qab (za4 HB) hb);clear hb hbox hg;obtain⟨hcz37_0,hcz37_1,hcz37_2,hfz37_0,hfz37_1,hfz37_2⟩:=zC3 BK279)|((with_reducible refine qac (f:=93) rfl ?_);refine zF (some 27) Try.func93 #[.slice A0_2 l0_2.length c0_2] ?_;(with_reducible refine(impl_wantedOk.calls _ _ l0_2 t286 _ ?side1 ?side2 A27.out).mono ?_);(case side1=>exact zR HR0_2 HB);(case side2=>exact HC0_2.out);rintro e w' ⟨rfl,⟨nd,rfl⟩⟩;refine⟨_,rfl,?_⟩)|((with_reducible refine qac (f:=66) rfl ?_);refine zF (some 30) Try.func66 #[.int .i64 a0_0,.int .i64 1,.int .i64 7] ?_;(with_reducible refine(impl_in.calls a0_0 1 7 false _ A28.out).mono ?_);rintro e w' ⟨rfl,⟨nd,rfl⟩⟩;refine⟨_,rfl,?_⟩))
    go_ret
    exact⟨za16,za1 HB GE279⟩
  ·rw[if_neg c26] at H
   have c26b0:(a0_0 == 4)=false:=beq_eq_false_iff_ne.mpr c26
   have c26b1:(a0_0 != 4)=true:=bne_iff_ne.mpr c26
   replace H:=Option.bind_eq_some_iff.mp H
   obtain⟨t289,A380,H⟩:=H
   replace H:(if t289=true then((impl_isTrip.f a0_1).bind fun t290=>(if t290=true then(some ((l0_2.length:Int) == 0)) else(some false))) else(some false))=some r:=H
   have A38:=Aside0.mk A380
   clear A380
   by_cases c39:t289=true
   ·subst c39
    have H1:((impl_isTrip.f a0_1).bind fun t290=>(if t290=true then(some ((l0_2.length:Int) == 0)) else(some false)))=some r:=by rw[if_pos rfl] at H;exact H
    clear H
    have H:=H1
    clear H1
    replace H:=Option.bind_eq_some_iff.mp H
    obtain⟨t290,A400,H⟩:=H
    replace H:(if t290=true then(some ((l0_2.length:Int) == 0)) else(some false))=some r:=H
    have A40:=Aside0.mk A400
    clear A400
    by_cases c41:t290=true
    ·subst c41
     have H1:(some ((l0_2.length:Int) == 0))=some r:=by rw[if_pos rfl] at H;exact H
     clear H
     have H:=H1
     clear H1
     obtain rfl:=Option.some.inj H
     go_enter Try.func63,Try.ntmps63
     go_wp2_with(first|((with_reducible refine qae (N:=1) rfl ?_);refine zX (N:=1) (cs:=#[.int .i64 a0_0,.int .i64 a0_1,.slice A0_2 l0_2.length c0_2]) (t:=32) ?_;intro gb279 hg w42 hbox hb;have BK279:=Aside0.mk hbox;have GW279:=zH (w:=w) hg (za4 HB);have GE279:=GW279;replace HB:=Aside0.mk (qab (za4 HB) hb);clear hb hbox hg;obtain⟨hcz43_0,hcz43_1,hcz43_2,hfz43_0,hfz43_1,hfz43_2⟩:=zC3 BK279)|((with_reducible refine qac (f:=66) rfl ?_);refine zF (some 30) Try.func66 #[.int .i64 a0_0,.int .i64 1,.int .i64 7] ?_;(with_reducible refine(impl_in.calls a0_0 1 7 true _ A38.out).mono ?_);rintro e w' ⟨rfl,⟨nd,rfl⟩⟩;refine⟨_,rfl,?_⟩)|(go_at_call 94;(with_reducible refine(impl_isTrip.calls a0_1 true _ A40.out).mono ?_);rintro e w' ⟨rfl,⟨nd,rfl⟩⟩))
     go_ret
     exact⟨za16,za1 HB GE279⟩
    ·replace c41:=Bool.eq_false_iff.mpr c41
     subst c41
     have H1:(some false)=some r:=by rw[if_neg (show ¬(false=true) by decide)] at H;exact H
     clear H
     have H:=H1
     clear H1
     obtain rfl:=Option.some.inj H
     go_enter Try.func63,Try.ntmps63
     go_wp2_with(first|((with_reducible refine qae (N:=1) rfl ?_);refine zX (N:=1) (cs:=#[.int .i64 a0_0,.int .i64 a0_1,.slice A0_2 l0_2.length c0_2]) (t:=32) ?_;intro gb279 hg w44 hbox hb;have BK279:=Aside0.mk hbox;have GW279:=zH (w:=w) hg (za4 HB);have GE279:=GW279;replace HB:=Aside0.mk (qab (za4 HB) hb);clear hb hbox hg;obtain⟨hcz45_0,hcz45_1,hcz45_2,hfz45_0,hfz45_1,hfz45_2⟩:=zC3 BK279)|((with_reducible refine qac (f:=66) rfl ?_);refine zF (some 30) Try.func66 #[.int .i64 a0_0,.int .i64 1,.int .i64 7] ?_;(with_reducible refine(impl_in.calls a0_0 1 7 true _ A38.out).mono ?_);rintro e w' ⟨rfl,⟨nd,rfl⟩⟩;refine⟨_,rfl,?_⟩)|(go_at_call 94;(with_reducible refine(impl_isTrip.calls a0_1 false _ A40.out).mono ?_);rintro e w' ⟨rfl,⟨nd,rfl⟩⟩))
     go_ret
     exact⟨za16,za1 HB GE279⟩
   ·replace c39:=Bool.eq_false_iff.mpr c39
    subst c39
    have H1:(some false)=some r:=by rw[if_neg (show ¬(false=true) by decide)] at H;exact H
    clear H
    have H:=H1
    clear H1
    obtain rfl:=Option.some.inj H
    go_enter Try.func63,Try.ntmps63
    go_wp2_with(first|((with_reducible refine qae (N:=1) rfl ?_);refine zX (N:=1) (cs:=#[.int .i64 a0_0,.int .i64 a0_1,.slice A0_2 l0_2.length c0_2]) (t:=32) ?_;intro gb279 hg w46 hbox hb;have BK279:=Aside0.mk hbox;have GW279:=zH (w:=w) hg (za4 HB);have GE279:=GW279;replace HB:=Aside0.mk (qab (za4 HB) hb);clear hb hbox hg;obtain⟨hcz47_0,hcz47_1,hcz47_2,hfz47_0,hfz47_1,hfz47_2⟩:=zC3 BK279)|((with_reducible refine qac (f:=66) rfl ?_);refine zF (some 30) Try.func66 #[.int .i64 a0_0,.int .i64 1,.int .i64 7] ?_;(with_reducible refine(impl_in.calls a0_0 1 7 false _ A38.out).mono ?_);rintro e w' ⟨rfl,⟨nd,rfl⟩⟩;refine⟨_,rfl,?_⟩))
    go_ret
    exact⟨za16,za1 HB GE279⟩
def spec_l2Free.l0:Nat→Int→Int→Int→List (S49)→Option (Int)
 |0,_,_,_,_=>none
 |k+1,x3,x4,x333000,x333001=>if x4<(x333001.length:Int) then(if 0≤x4 then(if((rd_T49 x333001 x4).f1)=1 then(spec_l2Free.l0 k (wrap64 (x3 - ((rd_T49 x333001 x4).f0))) (wrap64 (x4+1)) x333000 x333001) else(if((rd_T49 x333001 x4).f1)=2 then(spec_l2Free.l0 k (wrap64 (x3 - ((rd_T49 x333001 x4).f0))) (wrap64 (x4+1)) x333000 x333001) else(spec_l2Free.l0 k x3 (wrap64 (x4+1)) x333000 x333001))) else(none)) else(some x3)
def spec_l2Free.f (k:Nat) (a0_0:Int) (l0_1:List (S49)):Option (Int):=spec_l2Free.l0 k a0_0 0 a0_0 l0_1
theorem spec_l2Free.mono_l:∀k,(∀y0 y1 y2 y3,LeO (spec_l2Free.l0 k y0 y1 y2 y3) (spec_l2Free.l0 (k+1) y0 y1 y2 y3))
 |0=>fun _ _ _ _ r h=>by simp[spec_l2Free.l0] at h
 |k+1=>by
  have ih0:=spec_l2Free.mono_l k
  ·intro y0 y1 y2 y3
   unfold spec_l2Free.l0
   repeat' first
   |(with_reducible exact ih0 _ _ _ _)
   |(with_reducible exact LeO.refl _)
   |(with_reducible exact LeO.none _)
   |(with_reducible refine LeO.ite ?_ ?_)
   |(with_reducible refine LeO.bind ?_ (fun _=>?_))
   |exact ih0 _ _ _ _
   |exact LeO.none _
   |refine LeO.ite ?_ ?_
   |refine LeO.bind ?_ (fun _=>?_)
theorem spec_l2Free.mono:∀a0 a1 k,LeO (spec_l2Free.f k a0 a1) (spec_l2Free.f (k+1) a0 a1):=by
 intro a0 a1 k
 have ih0:=spec_l2Free.mono_l k
 unfold spec_l2Free.f
 repeat' first
   |(with_reducible exact ih0 _ _ _ _)
   |(with_reducible exact LeO.refl _)
   |(with_reducible exact LeO.none _)
   |(with_reducible refine LeO.ite ?_ ?_)
   |(with_reducible refine LeO.bind ?_ (fun _=>?_))
   |exact ih0 _ _ _ _
   |exact LeO.none _
   |refine LeO.ite ?_ ?_
   |refine LeO.bind ?_ (fun _=>?_)
set_option maxHeartbeats 8000000 in
set_option maxRecDepth 100000 in
theorem spec_l2Free.calls (k:Nat) (a0_0:Int) (A0_1:Option Addr) (c0_1:Nat) (l0_1:List (S49)) (r:Int) (w:World) (hr0_1:Kd.C k49 w A0_1 l0_1.length l0_1) (hc0_1:l0_1.length≤c0_1) (h:spec_l2Free.f k a0_0 l0_1=some r) :
  Calls Try.prog 105 #[.agg #[.int .i64 a0_0,.slice A0_1 l0_1.length c0_1]] w fun e w'=>e=.returned (.int .i64 r)∧Below w.heap.size w w':=by
 have hu38:=Try.underlying38
 have HR0_1:=Aside0.mk hr0_1
 have HC0_1:=Aside0.mk hc0_1
 clear hr0_1 hc0_1
 have HB:=Aside0.mk (Below.refl w.heap.size w)
 have H:(spec_l2Free.l0 k a0_0 0 a0_0 l0_1)=some r:=h
 clear h
 have H':=Aside0.mk H
 clear H
 go_enter Try.func105,Try.ntmps105
 go_wp2_with(first|((with_reducible refine qae (N:=1) rfl ?_);refine zX (N:=1) (cs:=#[.int .i64 a0_0,.slice A0_1 l0_1.length c0_1]) (t:=38) ?_;intro gb332 hg w2 hbox hb;have BK332:=Aside0.mk hbox;have GW332:=zH (w:=w) hg (za4 HB);have GE332:=GW332;replace HB:=Aside0.mk (qab (za4 HB) hb);clear hb hbox hg;obtain⟨hcz3_0,hcz3_1,hfz3_0,hfz3_1⟩:=zC2 BK332))
 go_loopg [3,4] k (fun kq v3 v4 w'=>∃(x3_1:Int) (x4_1:Int),v3=.int .i64 x3_1∧v4=.int .i64 x4_1∧Aside0 (spec_l2Free.l0 kq x3_1 x4_1 a0_0 l0_1=some r)∧Aside0 (kq≤k)∧Aside0 (w'.heap[gb332]?=some (.cells #[.int .i64 a0_0,(.slice A0_1 l0_1.length c0_1)] 38 (0,0)))∧Aside0 (Below w.heap.size w w'))
 case atStart=>exact⟨(a0_0),(0),(za43),(za43),H',⟨Nat.le_refl _⟩,⟨za24 BK332⟩,⟨za1 HB GE332⟩⟩
 case round=>
  clear H'
  try clear c1
  try clear p2
  try clear hcz3_0
  try clear hcz3_1
  try clear hfz3_0
  try clear hfz3_1
  obtain⟨x3_1,x4_1,rfl,rfl,HA,HK1,BK332,HB⟩:=hrel
  cases gk with
  |zero=>exact absurd HA.out (by simp[spec_l2Free.l0])
  |succ k1=>
   have H:=HA.out
   clear HA
   simp only[spec_l2Free.l0] at H
   by_cases c4:x4_1<(l0_1.length:Int)
   ·rw[if_pos c4] at H
    have c4b0:decide (x4_1<(l0_1.length:Int))=true:=decide_eq_true c4
    clear c4
    by_cases c5:0≤x4_1
    ·rw[if_pos c5] at H
     have c5b0:decide (0≤x4_1)=true:=decide_eq_true c5
     clear c5
     by_cases c6:((rd_T49 l0_1 x4_1).f1)=1
     ·rw[if_pos c6] at H
      have c6b0:(((rd_T49 l0_1 x4_1).f1) == 1)=true:=beq_iff_eq.mpr c6
      have c6b1:(((rd_T49 l0_1 x4_1).f1) != 1)=false:=bne_eq_false_iff_eq.mpr c6
      clear c6
      have H':=Aside0.mk H
      clear H
      obtain⟨hcz7_0,hcz7_1,hfz7_0,hfz7_1⟩:=zC2 BK332
      have p333:0≤(x4_1:Int):=of_decide_eq_true (za9)
      have q333:x4_1<(l0_1.length:Int):=of_decide_eq_true (za9)
      obtain⟨ad333,e333,hx333_0,hx333_1⟩:=at_T49 HR0_1.out x4_1 p333 q333
      cases e333
      replace hx333_0:=(HB.out.cell (World.block_lt_of_cell? w _ hx333_0)).trans hx333_0
      replace hx333_1:=(HB.out.cell (World.block_lt_of_cell? w _ hx333_1)).trans hx333_1
      replace p333:=eq_true p333
      replace q333:=eq_true q333
      have p334:0≤(x4_1:Int):=of_decide_eq_true (za9)
      have q334:x4_1<(l0_1.length:Int):=of_decide_eq_true (za9)
      obtain⟨ad334,e334,hx334_0,hx334_1⟩:=at_T49 HR0_1.out x4_1 p334 q334
      obtain rfl:ad333=ad334:=(by injection e334)
      replace hx334_0:=(HB.out.cell (World.block_lt_of_cell? w _ hx334_0)).trans hx334_0
      replace hx334_1:=(HB.out.cell (World.block_lt_of_cell? w _ hx334_1)).trans hx334_1
      replace p334:=eq_true p334
      replace q334:=eq_true q334
      go_wp2
      go_roundg k1
      case measure=>have:=HK1.out;omega
      case rel=>exact⟨(wrap64 (x3_1 - ((rd_T49 l0_1 x4_1).f0))),(wrap64 (x4_1+1)),(za43),(za43),H',⟨by have:=HK1.out;omega⟩,⟨za24 BK332⟩,⟨za1 HB GE332⟩⟩
     ·rw[if_neg c6] at H
      have c6b0:(((rd_T49 l0_1 x4_1).f1) == 1)=false:=beq_eq_false_iff_ne.mpr c6
      have c6b1:(((rd_T49 l0_1 x4_1).f1) != 1)=true:=bne_iff_ne.mpr c6
      by_cases c8:((rd_T49 l0_1 x4_1).f1)=2
      ·rw[if_pos c8] at H
       have c8b0:(((rd_T49 l0_1 x4_1).f1) == 2)=true:=beq_iff_eq.mpr c8
       have c8b1:(((rd_T49 l0_1 x4_1).f1) != 2)=false:=bne_eq_false_iff_eq.mpr c8
       clear c8
       have H':=Aside0.mk H
       clear H
       obtain⟨hcz9_0,hcz9_1,hfz9_0,hfz9_1⟩:=zC2 BK332
       have p333:0≤(x4_1:Int):=of_decide_eq_true (za9)
       have q333:x4_1<(l0_1.length:Int):=of_decide_eq_true (za9)
       obtain⟨ad333,e333,hx333_0,hx333_1⟩:=at_T49 HR0_1.out x4_1 p333 q333
       cases e333
       replace hx333_0:=(HB.out.cell (World.block_lt_of_cell? w _ hx333_0)).trans hx333_0
       replace hx333_1:=(HB.out.cell (World.block_lt_of_cell? w _ hx333_1)).trans hx333_1
       replace p333:=eq_true p333
       replace q333:=eq_true q333
       have p335:0≤(x4_1:Int):=of_decide_eq_true (za9)
       have q335:x4_1<(l0_1.length:Int):=of_decide_eq_true (za9)
       obtain⟨ad335,e335,hx335_0,hx335_1⟩:=at_T49 HR0_1.out x4_1 p335 q335
       obtain rfl:ad333=ad335:=(by injection e335)
       replace hx335_0:=(HB.out.cell (World.block_lt_of_cell? w _ hx335_0)).trans hx335_0
       replace hx335_1:=(HB.out.cell (World.block_lt_of_cell? w _ hx335_1)).trans hx335_1
       replace p335:=eq_true p335
       replace q335:=eq_true q335
       have p336:0≤(x4_1:Int):=of_decide_eq_true (za9)
       have q336:x4_1<(l0_1.length:Int):=of_decide_eq_true (za9)
       obtain⟨ad336,e336,hx336_0,hx336_1⟩:=at_T49 HR0_1.out x4_1 p336 q336
       obtain rfl:ad333=ad336:=(by injection e336)
       replace hx336_0:=(HB.out.cell (World.block_lt_of_cell? w _ hx336_0)).trans hx336_0
       replace hx336_1:=(HB.out.cell (World.block_lt_of_cell? w _ hx336_1)).trans hx336_1
       replace p336:=eq_true p336
       replace q336:=eq_true q336
       go_wp2
       go_roundg k1
       case measure=>have:=HK1.out;omega
       case rel=>exact⟨(wrap64 (x3_1 - ((rd_T49 l0_1 x4_1).f0))),(wrap64 (x4_1+1)),(za43),(za43),H',⟨by have:=HK1.out;omega⟩,⟨za24 BK332⟩,⟨za1 HB GE332⟩⟩
      ·rw[if_neg c8] at H
       have c8b0:(((rd_T49 l0_1 x4_1).f1) == 2)=false:=beq_eq_false_iff_ne.mpr c8
       have c8b1:(((rd_T49 l0_1 x4_1).f1) != 2)=true:=bne_iff_ne.mpr c8
       have H':=Aside0.mk H
       clear H
       obtain⟨hcz10_0,hcz10_1,hfz10_0,hfz10_1⟩:=zC2 BK332
       have p333:0≤(x4_1:Int):=of_decide_eq_true (za9)
       have q333:x4_1<(l0_1.length:Int):=of_decide_eq_true (za9)
       obtain⟨ad333,e333,hx333_0,hx333_1⟩:=at_T49 HR0_1.out x4_1 p333 q333
       cases e333
       replace hx333_0:=(HB.out.cell (World.block_lt_of_cell? w _ hx333_0)).trans hx333_0
       replace hx333_1:=(HB.out.cell (World.block_lt_of_cell? w _ hx333_1)).trans hx333_1
       replace p333:=eq_true p333
       replace q333:=eq_true q333
       have p335:0≤(x4_1:Int):=of_decide_eq_true (za9)
       have q335:x4_1<(l0_1.length:Int):=of_decide_eq_true (za9)
       obtain⟨ad335,e335,hx335_0,hx335_1⟩:=at_T49 HR0_1.out x4_1 p335 q335
       obtain rfl:ad333=ad335:=(by injection e335)
       replace hx335_0:=(HB.out.cell (World.block_lt_of_cell? w _ hx335_0)).trans hx335_0
       replace hx335_1:=(HB.out.cell (World.block_lt_of_cell? w _ hx335_1)).trans hx335_1
       replace p335:=eq_true p335
       replace q335:=eq_true q335
       go_wp2
       go_roundg k1
       case measure=>have:=HK1.out;omega
       case rel=>exact⟨(x3_1),(wrap64 (x4_1+1)),(za43),(za43),H',⟨by have:=HK1.out;omega⟩,⟨za24 BK332⟩,⟨za1 HB GE332⟩⟩
    ·rw[if_neg c5] at H
     exact absurd H (by simp)
   ·rw[if_neg c4] at H
    have c4b0:decide (x4_1<(l0_1.length:Int))=false:=decide_eq_false c4
    clear c4
    obtain rfl:=Option.some.inj H
    obtain⟨hcz11_0,hcz11_1,hfz11_0,hfz11_1⟩:=zC2 BK332
    go_wp2
    go_ret
    exact⟨za16,za1 HB GE332⟩
end Go.Proofs.Ytmbdphefnalenaa.Print
