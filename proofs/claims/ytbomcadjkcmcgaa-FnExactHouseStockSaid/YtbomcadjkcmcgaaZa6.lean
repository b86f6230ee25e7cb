-- Written by squeeze.py: not trusted, Lean checks it.
import Derived.Test.YtbomcadjkcmcgaaZK
import Derived.Test.YtbomcadjkcmcgaaZa5
namespace Go.Proofs.Ytbomcadjkcmcgaa.Print
open Go.RowKit Go.Proofs.YtbomcadjkcmcgaaW.PrintWords Go.Proofs.YtbomcadjkcmcgaaW.PrintLast Go.Proofs.YtbomcadjkcmcgaaW.PrintMore
attribute [local go_sem] max2_int min2_int max_two min_two max_three min_three max_four min_four
set_option linter.unusedVariables false
set_option linter.unusedSimpArgs false
def impl_RecOk.f (a0_0:Int) (a0_1:Int) (l0_2:List Int):Option (Bool):=if a0_0=1 then(if(l0_2.length:Int)=1 then(if 0<(l0_2.length:Int) then((impl_in.f (rd l0_2 0) 1 3).bind fun t211=>((impl_in.f a0_0 1 7).bind fun t212=>(if t212=true then((impl_isTrip.f a0_1).bind fun t213=>(if t213=true then(some t211) else(some false))) else(some false)))) else(none)) else((impl_in.f a0_0 1 7).bind fun t214=>(if t214=true then((impl_isTrip.f a0_1).bind fun t215=>(if t215=true then(some false) else(some false))) else(some false)))) else(if a0_0=4 then((impl_wantedOk.f l0_2).bind fun t216=>((impl_in.f a0_0 1 7).bind fun t217=>(if t217=true then((impl_isTrip.f a0_1).bind fun t218=>(if t218=true then(some t216) else(some false))) else(some false)))) else((impl_in.f a0_0 1 7).bind fun t219=>(if t219=true then((impl_isTrip.f a0_1).bind fun t220=>(if t220=true then(some ((l0_2.length:Int) == 0)) else(some false))) else(some false))))
set_option maxHeartbeats 8000000 in
set_option maxRecDepth 100000 in
theorem impl_RecOk.calls (a0_0:Int) (a0_1:Int) (A0_2:Option Addr) (c0_2:Nat) (l0_2:List Int) (r:Bool) (w:World) (hr0_2:Kd.C (Kd.int .i64) w A0_2 l0_2.length l0_2) (hc0_2:l0_2.length≤c0_2) (h:impl_RecOk.f a0_0 a0_1 l0_2=some r) :
  Calls Try.prog 39 #[.agg #[.int .i64 a0_0,.int .i64 a0_1,.slice A0_2 l0_2.length c0_2]] w fun e w'=>e=.returned (.bool r)∧Below w.heap.size w w':=by
 have hu62:=Try.underlying62;have HR0_2:=qah.mk hr0_2;have HC0_2:=qah.mk hc0_2;clear hr0_2 hc0_2;have HB:=qah.mk (Below.refl w.heap.size w)
 have H:(if a0_0=1 then(if(l0_2.length:Int)=1 then(if 0<(l0_2.length:Int) then((impl_in.f (rd l0_2 0) 1 3).bind fun t211=>((impl_in.f a0_0 1 7).bind fun t212=>(if t212=true then((impl_isTrip.f a0_1).bind fun t213=>(if t213=true then(some t211) else(some false))) else(some false)))) else(none)) else((impl_in.f a0_0 1 7).bind fun t214=>(if t214=true then((impl_isTrip.f a0_1).bind fun t215=>(if t215=true then(some false) else(some false))) else(some false)))) else(if a0_0=4 then((impl_wantedOk.f l0_2).bind fun t216=>((impl_in.f a0_0 1 7).bind fun t217=>(if t217=true then((impl_isTrip.f a0_1).bind fun t218=>(if t218=true then(some t216) else(some false))) else(some false)))) else((impl_in.f a0_0 1 7).bind fun t219=>(if t219=true then((impl_isTrip.f a0_1).bind fun t220=>(if t220=true then(some ((l0_2.length:Int) == 0)) else(some false))) else(some false)))))=some r:=h
 clear h;by_cases c2:a0_0=1
 ·rw[if_pos c2] at H;have c2b0:(a0_0 == 1)=true:=beq_iff_eq.mpr c2;have c2b1:(a0_0 != 1)=false:=bne_eq_false_iff_eq.mpr c2;clear c2;by_cases c3:(l0_2.length:Int)=1
  ·rw[if_pos c3] at H;have c3b0:((l0_2.length:Int) == 1)=true:=beq_iff_eq.mpr c3;have c3b1:((l0_2.length:Int) != 1)=false:=bne_eq_false_iff_eq.mpr c3;clear c3;by_cases c4:0<(l0_2.length:Int)
   ·rw[if_pos c4] at H;have c4b0:decide (0<(l0_2.length:Int))=true:=decide_eq_true c4;have c4b1:decide (0<l0_2.length)=true:=decide_eq_true (by omega);clear c4;replace H:=Option.bind_eq_some_iff.mp H;obtain⟨t211,A50,H⟩:=H;replace H:((impl_in.f a0_0 1 7).bind fun t212=>(if t212=true then((impl_isTrip.f a0_1).bind fun t213=>(if t213=true then(some t211) else(some false))) else(some false)))=some r:=H;have A5:=qah.mk A50;clear A50;replace H:=Option.bind_eq_some_iff.mp H;obtain⟨t212,A60,H⟩:=H;replace H:(if t212=true then((impl_isTrip.f a0_1).bind fun t213=>(if t213=true then(some t211) else(some false))) else(some false))=some r:=H;have A6:=qah.mk A60;clear A60;by_cases c7:t212=true
    ·subst c7
     have H1:((impl_isTrip.f a0_1).bind fun t213=>(if t213=true then(some t211) else(some false)))=some r:=by rw[if_pos rfl] at H;exact H
     clear H;have H:=H1;clear H1;replace H:=Option.bind_eq_some_iff.mp H;obtain⟨t213,A80,H⟩:=H;replace H:(if t213=true then(some t211) else(some false))=some r:=H;have A8:=qah.mk A80;clear A80;by_cases c9:t213=true
     ·subst c9
      have H1:(some t211)=some r:=by rw[if_pos rfl] at H;exact H
      clear H;have H:=H1;clear H1;obtain rfl:=Option.some.inj H;go_enter Try.func39,Try.ntmps39
      go_wp2_with(first|((with_reducible refine qag (N:=1) rfl ?_);refine zX (N:=1) (cs:=#[.int .i64 a0_0,.int .i64 a0_1,.slice A0_2 l0_2.length c0_2]) (t:=62) ?_;intro gb209 hg w10 hbox hb;have BK209:=qah.mk hbox;have GW209:=zH (w:=w) hg (za1 HB);have GE209:=GW209;replace HB:=qah.mk (qaa (za1 HB) hb);clear hb hbox hg;obtain⟨hcz11_0,hcz11_1,hcz11_2,hfz11_0,hfz11_1,hfz11_2⟩:=zC3 BK209;have p210:0≤(0:Int):=(by omega);have q210:0<(l0_2.length:Int):=of_decide_eq_true (za7);obtain⟨ad210,e210,hx210_0⟩:=Kd.at_int HR0_2.out 0 p210 q210;cases e210;have qi210:(0<l0_2.length)=True:=eq_true (by omega);(try rw[show((0:Int)).toNat=0 from rfl] at hx210_0);(try rw[Addr.add_zero'] at hx210_0);replace hx210_0:=(HB.out.cell (World.block_lt_of_cell? w _ hx210_0)).trans hx210_0;replace p210:=eq_true p210;replace q210:=eq_true q210)|(go_at_call 37;(with_reducible refine(impl_in.calls (rd l0_2 0) 1 3 t211 _ A5.out).mono ?_);rintro e w' ⟨rfl,⟨nd,rfl⟩⟩)|((with_reducible refine qaf (f:=37) rfl ?_);refine zF (some 30) Try.func37 #[.int .i64 a0_0,.int .i64 1,.int .i64 7] ?_;(with_reducible refine(impl_in.calls a0_0 1 7 true _ A6.out).mono ?_);rintro e w' ⟨rfl,⟨nd,rfl⟩⟩;refine⟨_,rfl,?_⟩)|(go_at_call 52;(with_reducible refine(impl_isTrip.calls a0_1 true _ A8.out).mono ?_);rintro e w' ⟨rfl,⟨nd,rfl⟩⟩))
      go_ret;exact⟨za8,za0 HB GE209⟩
     ·replace c9:=Bool.eq_false_iff.mpr c9;subst c9
      have H1:(some false)=some r:=by rw[if_neg (show ¬(false=true) by decide)] at H;exact H
      clear H;have H:=H1;clear H1;obtain rfl:=Option.some.inj H;go_enter Try.func39,Try.ntmps39
      go_wp2_with(first|((with_reducible refine qag (N:=1) rfl ?_);refine zX (N:=1) (cs:=#[.int .i64 a0_0,.int .i64 a0_1,.slice A0_2 l0_2.length c0_2]) (t:=62) ?_;intro gb209 hg w12 hbox hb;have BK209:=qah.mk hbox;have GW209:=zH (w:=w) hg (za1 HB);have GE209:=GW209;replace HB:=qah.mk (qaa (za1 HB) hb);clear hb hbox hg;obtain⟨hcz13_0,hcz13_1,hcz13_2,hfz13_0,hfz13_1,hfz13_2⟩:=zC3 BK209;have p210:0≤(0:Int):=(by omega);have q210:0<(l0_2.length:Int):=of_decide_eq_true (za7);obtain⟨ad210,e210,hx210_0⟩:=Kd.at_int HR0_2.out 0 p210 q210;cases e210;have qi210:(0<l0_2.length)=True:=eq_true (by omega);(try rw[show((0:Int)).toNat=0 from rfl] at hx210_0);(try rw[Addr.add_zero'] at hx210_0);replace hx210_0:=(HB.out.cell (World.block_lt_of_cell? w _ hx210_0)).trans hx210_0;replace p210:=eq_true p210;replace q210:=eq_true q210)|(go_at_call 37;(with_reducible refine(impl_in.calls (rd l0_2 0) 1 3 t211 _ A5.out).mono ?_);rintro e w' ⟨rfl,⟨nd,rfl⟩⟩)|((with_reducible refine qaf (f:=37) rfl ?_);refine zF (some 30) Try.func37 #[.int .i64 a0_0,.int .i64 1,.int .i64 7] ?_;(with_reducible refine(impl_in.calls a0_0 1 7 true _ A6.out).mono ?_);rintro e w' ⟨rfl,⟨nd,rfl⟩⟩;refine⟨_,rfl,?_⟩)|(go_at_call 52;(with_reducible refine(impl_isTrip.calls a0_1 false _ A8.out).mono ?_);rintro e w' ⟨rfl,⟨nd,rfl⟩⟩))
      go_ret;exact⟨za8,za0 HB GE209⟩
    ·replace c7:=Bool.eq_false_iff.mpr c7;subst c7
     have H1:(some false)=some r:=by rw[if_neg (show ¬(false=true) by decide)] at H;exact H
     clear H;have H:=H1;clear H1;obtain rfl:=Option.some.inj H;go_enter Try.func39,Try.ntmps39
     go_wp2_with(first|((with_reducible refine qag (N:=1) rfl ?_);refine zX (N:=1) (cs:=#[.int .i64 a0_0,.int .i64 a0_1,.slice A0_2 l0_2.length c0_2]) (t:=62) ?_;intro gb209 hg w14 hbox hb;have BK209:=qah.mk hbox;have GW209:=zH (w:=w) hg (za1 HB);have GE209:=GW209;replace HB:=qah.mk (qaa (za1 HB) hb);clear hb hbox hg;obtain⟨hcz15_0,hcz15_1,hcz15_2,hfz15_0,hfz15_1,hfz15_2⟩:=zC3 BK209;have p210:0≤(0:Int):=(by omega);have q210:0<(l0_2.length:Int):=of_decide_eq_true (za7);obtain⟨ad210,e210,hx210_0⟩:=Kd.at_int HR0_2.out 0 p210 q210;cases e210;have qi210:(0<l0_2.length)=True:=eq_true (by omega);(try rw[show((0:Int)).toNat=0 from rfl] at hx210_0);(try rw[Addr.add_zero'] at hx210_0);replace hx210_0:=(HB.out.cell (World.block_lt_of_cell? w _ hx210_0)).trans hx210_0;replace p210:=eq_true p210;replace q210:=eq_true q210)|(go_at_call 37;(with_reducible refine(impl_in.calls (rd l0_2 0) 1 3 t211 _ A5.out).mono ?_);rintro e w' ⟨rfl,⟨nd,rfl⟩⟩)|((with_reducible refine qaf (f:=37) rfl ?_);refine zF (some 30) Try.func37 #[.int .i64 a0_0,.int .i64 1,.int .i64 7] ?_;(with_reducible refine(impl_in.calls a0_0 1 7 false _ A6.out).mono ?_);rintro e w' ⟨rfl,⟨nd,rfl⟩⟩;refine⟨_,rfl,?_⟩))
     go_ret;exact⟨za8,za0 HB GE209⟩
   ·rw[if_neg c4] at H;exact absurd H (by simp)
  ·rw[if_neg c3] at H;have c3b0:((l0_2.length:Int) == 1)=false:=beq_eq_false_iff_ne.mpr c3;have c3b1:((l0_2.length:Int) != 1)=true:=bne_iff_ne.mpr c3;replace H:=Option.bind_eq_some_iff.mp H;obtain⟨t214,A160,H⟩:=H;replace H:(if t214=true then((impl_isTrip.f a0_1).bind fun t215=>(if t215=true then(some false) else(some false))) else(some false))=some r:=H;have A16:=qah.mk A160;clear A160;by_cases c17:t214=true
   ·subst c17
    have H1:((impl_isTrip.f a0_1).bind fun t215=>(if t215=true then(some false) else(some false)))=some r:=by rw[if_pos rfl] at H;exact H
    clear H;have H:=H1;clear H1;replace H:=Option.bind_eq_some_iff.mp H;obtain⟨t215,A180,H⟩:=H;replace H:(if t215=true then(some false) else(some false))=some r:=H;have A18:=qah.mk A180;clear A180;by_cases c19:t215=true
    ·subst c19
     have H1:(some false)=some r:=by rw[if_pos rfl] at H;exact H
     clear H;have H:=H1;clear H1;obtain rfl:=Option.some.inj H;go_enter Try.func39,Try.ntmps39
     go_wp2_with(first|((with_reducible refine qag (N:=1) rfl ?_);refine zX (N:=1) (cs:=#[.int .i64 a0_0,.int .i64 a0_1,.slice A0_2 l0_2.length c0_2]) (t:=62) ?_;intro gb209 hg w20 hbox hb;have BK209:=qah.mk hbox;have GW209:=zH (w:=w) hg (za1 HB);have GE209:=GW209;replace HB:=qah.mk (qaa (za1 HB) hb);clear hb hbox hg;obtain⟨hcz21_0,hcz21_1,hcz21_2,hfz21_0,hfz21_1,hfz21_2⟩:=zC3 BK209)|((with_reducible refine qaf (f:=37) rfl ?_);refine zF (some 30) Try.func37 #[.int .i64 a0_0,.int .i64 1,.int .i64 7] ?_;(with_reducible refine(impl_in.calls a0_0 1 7 true _ A16.out).mono ?_);rintro e w' ⟨rfl,⟨nd,rfl⟩⟩;refine⟨_,rfl,?_⟩)|(go_at_call 52;(with_reducible refine(impl_isTrip.calls a0_1 true _ A18.out).mono ?_);rintro e w' ⟨rfl,⟨nd,rfl⟩⟩))
     go_ret;exact⟨za8,za0 HB GE209⟩
    ·replace c19:=Bool.eq_false_iff.mpr c19;subst c19
     have H1:(some false)=some r:=by rw[if_neg (show ¬(false=true) by decide)] at H;exact H
     clear H;have H:=H1;clear H1;obtain rfl:=Option.some.inj H;go_enter Try.func39,Try.ntmps39
     go_wp2_with(first|((with_reducible refine qag (N:=1) rfl ?_);refine zX (N:=1) (cs:=#[.int .i64 a0_0,.int .i64 a0_1,.slice A0_2 l0_2.length c0_2]) (t:=62) ?_;intro gb209 hg w22 hbox hb;have BK209:=qah.mk hbox;have GW209:=zH (w:=w) hg (za1 HB);have GE209:=GW209;replace HB:=qah.mk (qaa (za1 HB) hb);clear hb hbox hg;obtain⟨hcz23_0,hcz23_1,hcz23_2,hfz23_0,hfz23_1,hfz23_2⟩:=zC3 BK209)|((with_reducible refine qaf (f:=37) rfl ?_);refine zF (some 30) Try.func37 #[.int .i64 a0_0,.int .i64 1,.int .i64 7] ?_;(with_reducible refine(impl_in.calls a0_0 1 7 true _ A16.out).mono ?_);rintro e w' ⟨rfl,⟨nd,rfl⟩⟩;refine⟨_,rfl,?_⟩)|(go_at_call 52;(with_reducible refine(impl_isTrip.calls a0_1 false _ A18.out).mono ?_);rintro e w' ⟨rfl,⟨nd,rfl⟩⟩))
     go_ret;exact⟨za8,za0 HB GE209⟩
   ·replace c17:=Bool.eq_false_iff.mpr c17;subst c17
    have H1:(some false)=some r:=by rw[if_neg (show ¬(false=true) by decide)] at H;exact H
    clear H;have H:=H1;clear H1;obtain rfl:=Option.some.inj H;go_enter Try.func39,Try.ntmps39
    go_wp2_with(first|((with_reducible refine qag (N:=1) rfl ?_);refine zX (N:=1) (cs:=#[.int .i64 a0_0,.int .i64 a0_1,.slice A0_2 l0_2.length c0_2]) (t:=62) ?_;intro gb209 hg w24 hbox hb;have BK209:=qah.mk hbox;have GW209:=zH (w:=w) hg (za1 HB);have GE209:=GW209;replace HB:=qah.mk (qaa (za1 HB) hb);clear hb hbox hg;obtain⟨hcz25_0,hcz25_1,hcz25_2,hfz25_0,hfz25_1,hfz25_2⟩:=zC3 BK209)|((with_reducible refine qaf (f:=37) rfl ?_);refine zF (some 30) Try.func37 #[.int .i64 a0_0,.int .i64 1,.int .i64 7] ?_;(with_reducible refine(impl_in.calls a0_0 1 7 false _ A16.out).mono ?_);rintro e w' ⟨rfl,⟨nd,rfl⟩⟩;refine⟨_,rfl,?_⟩))
    go_ret;exact⟨za8,za0 HB GE209⟩
 ·rw[if_neg c2] at H;have c2b0:(a0_0 == 1)=false:=beq_eq_false_iff_ne.mpr c2;have c2b1:(a0_0 != 1)=true:=bne_iff_ne.mpr c2;by_cases c26:a0_0=4
  ·rw[if_pos c26] at H;have c26b0:(a0_0 == 4)=true:=beq_iff_eq.mpr c26;have c26b1:(a0_0 != 4)=false:=bne_eq_false_iff_eq.mpr c26;clear c26;replace H:=Option.bind_eq_some_iff.mp H;obtain⟨t216,A270,H⟩:=H;replace H:((impl_in.f a0_0 1 7).bind fun t217=>(if t217=true then((impl_isTrip.f a0_1).bind fun t218=>(if t218=true then(some t216) else(some false))) else(some false)))=some r:=H;have A27:=qah.mk A270;clear A270;replace H:=Option.bind_eq_some_iff.mp H;obtain⟨t217,A280,H⟩:=H;replace H:(if t217=true then((impl_isTrip.f a0_1).bind fun t218=>(if t218=true then(some t216) else(some false))) else(some false))=some r:=H;have A28:=qah.mk A280;clear A280;by_cases c29:t217=true
   ·subst c29
    have H1:((impl_isTrip.f a0_1).bind fun t218=>(if t218=true then(some t216) else(some false)))=some r:=by rw[if_pos rfl] at H;exact H
    clear H;have H:=H1;clear H1;replace H:=Option.bind_eq_some_iff.mp H;obtain⟨t218,A300,H⟩:=H;replace H:(if t218=true then(some t216) else(some false))=some r:=H;have A30:=qah.mk A300;clear A300;by_cases c31:t218=true
    ·subst c31
     have H1:(some t216)=some r:=by rw[if_pos rfl] at H;exact H
     clear H;have H:=H1;clear H1;obtain rfl:=Option.some.inj H;go_enter Try.func39,Try.ntmps39
     go_wp2_with(first|((with_reducible refine qag (N:=1) rfl ?_);refine zX (N:=1) (cs:=#[.int .i64 a0_0,.int .i64 a0_1,.slice A0_2 l0_2.length c0_2]) (t:=62) ?_;intro gb209 hg w32 hbox hb;have BK209:=qah.mk hbox;have GW209:=zH (w:=w) hg (za1 HB);have GE209:=GW209;replace HB:=qah.mk (qaa (za1 HB) hb);clear hb hbox hg;obtain⟨hcz33_0,hcz33_1,hcz33_2,hfz33_0,hfz33_1,hfz33_2⟩:=zC3 BK209)|((with_reducible refine qaf (f:=51) rfl ?_);refine zF (some 27) Try.func51 #[.slice A0_2 l0_2.length c0_2] ?_;(with_reducible refine(impl_wantedOk.calls _ _ l0_2 t216 _ ?side1 ?side2 A27.out).mono ?_);(case side1=>exact zR HR0_2 HB);(case side2=>exact HC0_2.out);rintro e w' ⟨rfl,⟨nd,rfl⟩⟩;refine⟨_,rfl,?_⟩)|((with_reducible refine qaf (f:=37) rfl ?_);refine zF (some 30) Try.func37 #[.int .i64 a0_0,.int .i64 1,.int .i64 7] ?_;(with_reducible refine(impl_in.calls a0_0 1 7 true _ A28.out).mono ?_);rintro e w' ⟨rfl,⟨nd,rfl⟩⟩;refine⟨_,rfl,?_⟩)|(go_at_call 52;(with_reducible refine(impl_isTrip.calls a0_1 true _ A30.out).mono ?_);rintro e w' ⟨rfl,⟨nd,rfl⟩⟩))
     go_ret;exact⟨za8,za0 HB GE209⟩
    ·replace c31:=Bool.eq_false_iff.mpr c31;subst c31
     have H1:(some false)=some r:=by rw[if_neg (show ¬(false=true) by decide)] at H;exact H
     clear H;have H:=H1;clear H1;obtain rfl:=Option.some.inj H;go_enter Try.func39,Try.ntmps39
     go_wp2_with(first|((with_reducible refine qag (N:=1) rfl ?_);refine zX (N:=1) (cs:=#[.int .i64 a0_0,.int .i64 a0_1,.slice A0_2 l0_2.length c0_2]) (t:=62) ?_;intro gb209 hg w34 hbox hb;have BK209:=qah.mk hbox;have GW209:=zH (w:=w) hg (za1 HB);have GE209:=GW209;replace HB:=qah.mk (qaa (za1 HB) hb);clear hb hbox hg;obtain⟨hcz35_0,hcz35_1,hcz35_2,hfz35_0,hfz35_1,hfz35_2⟩:=zC3 BK209)|((with_reducible refine qaf (f:=51) rfl ?_);refine zF (some 27) Try.func51 #[.slice A0_2 l0_2.length c0_2] ?_;(with_reducible refine(impl_wantedOk.calls _ _ l0_2 t216 _ ?side1 ?side2 A27.out).mono ?_);(case side1=>exact zR HR0_2 HB);(case side2=>exact HC0_2.out);rintro e w' ⟨rfl,⟨nd,rfl⟩⟩;refine⟨_,rfl,?_⟩)|((with_reducible refine qaf (f:=37) rfl ?_);refine zF (some 30) Try.func37 #[.int .i64 a0_0,.int .i64 1,.int .i64 7] ?_;(with_reducible refine(impl_in.calls a0_0 1 7 true _ A28.out).mono ?_);rintro e w' ⟨rfl,⟨nd,rfl⟩⟩;refine⟨_,rfl,?_⟩)|(go_at_call 52;(with_reducible refine(impl_isTrip.calls a0_1 false _ A30.out).mono ?_);rintro e w' ⟨rfl,⟨nd,rfl⟩⟩))
     go_ret;exact⟨za8,za0 HB GE209⟩
   ·replace c29:=Bool.eq_false_iff.mpr c29;subst c29
    have H1:(some false)=some r:=by rw[if_neg (show ¬(false=true) by decide)] at H;exact H
    clear H;have H:=H1;clear H1;obtain rfl:=Option.some.inj H;go_enter Try.func39,Try.ntmps39
    go_wp2_with(first|((with_reducible refine qag (N:=1) rfl ?_);refine zX (N:=1) (cs:=#[.int .i64 a0_0,.int .i64 a0_1,.slice A0_2 l0_2.length c0_2]) (t:=62) ?_;intro gb209 hg w36 hbox hb;have BK209:=qah.mk hbox;have GW209:=zH (w:=w) hg (za1 HB);have GE209:=GW209;replace HB:=qah.mk (qaa (za1 HB) hb);clear hb hbox hg;obtain⟨hcz37_0,hcz37_1,hcz37_2,hfz37_0,hfz37_1,hfz37_2⟩:=zC3 BK209)|((with_reducible refine qaf (f:=51) rfl ?_);refine zF (some 27) Try.func51 #[.slice A0_2 l0_2.length c0_2] ?_;(with_reducible refine(impl_wantedOk.calls _ _ l0_2 t216 _ ?side1 ?side2 A27.out).mono ?_);(case side1=>exact zR HR0_2 HB);(case side2=>exact HC0_2.out);rintro e w' ⟨rfl,⟨nd,rfl⟩⟩;refine⟨_,rfl,?_⟩)|((with_reducible refine qaf (f:=37) rfl ?_);refine zF (some 30) Try.func37 #[.int .i64 a0_0,.int .i64 1,.int .i64 7] ?_;(with_reducible refine(impl_in.calls a0_0 1 7 false _ A28.out).mono ?_);rintro e w' ⟨rfl,⟨nd,rfl⟩⟩;refine⟨_,rfl,?_⟩))
    go_ret;exact⟨za8,za0 HB GE209⟩
  ·rw[if_neg c26] at H;have c26b0:(a0_0 == 4)=false:=beq_eq_false_iff_ne.mpr c26;have c26b1:(a0_0 != 4)=true:=bne_iff_ne.mpr c26;replace H:=Option.bind_eq_some_iff.mp H;obtain⟨t219,A380,H⟩:=H;replace H:(if t219=true then((impl_isTrip.f a0_1).bind fun t220=>(if t220=true then(some ((l0_2.length:Int) == 0)) else(some false))) else(some false))=some r:=H;have A38:=qah.mk A380;clear A380;by_cases c39:t219=true
   ·subst c39
    have H1:((impl_isTrip.f a0_1).bind fun t220=>(if t220=true then(some ((l0_2.length:Int) == 0)) else(some false)))=some r:=by rw[if_pos rfl] at H;exact H
    clear H;have H:=H1;clear H1;replace H:=Option.bind_eq_some_iff.mp H;obtain⟨t220,A400,H⟩:=H;replace H:(if t220=true then(some ((l0_2.length:Int) == 0)) else(some false))=some r:=H;have A40:=qah.mk A400;clear A400;by_cases c41:t220=true
    ·subst c41
     have H1:(some ((l0_2.length:Int) == 0))=some r:=by rw[if_pos rfl] at H;exact H
     clear H;have H:=H1;clear H1;obtain rfl:=Option.some.inj H;go_enter Try.func39,Try.ntmps39
     go_wp2_with(first|((with_reducible refine qag (N:=1) rfl ?_);refine zX (N:=1) (cs:=#[.int .i64 a0_0,.int .i64 a0_1,.slice A0_2 l0_2.length c0_2]) (t:=62) ?_;intro gb209 hg w42 hbox hb;have BK209:=qah.mk hbox;have GW209:=zH (w:=w) hg (za1 HB);have GE209:=GW209;replace HB:=qah.mk (qaa (za1 HB) hb);clear hb hbox hg;obtain⟨hcz43_0,hcz43_1,hcz43_2,hfz43_0,hfz43_1,hfz43_2⟩:=zC3 BK209)|((with_reducible refine qaf (f:=37) rfl ?_);refine zF (some 30) Try.func37 #[.int .i64 a0_0,.int .i64 1,.int .i64 7] ?_;(with_reducible refine(impl_in.calls a0_0 1 7 true _ A38.out).mono ?_);rintro e w' ⟨rfl,⟨nd,rfl⟩⟩;refine⟨_,rfl,?_⟩)|(go_at_call 52;(with_reducible refine(impl_isTrip.calls a0_1 true _ A40.out).mono ?_);rintro e w' ⟨rfl,⟨nd,rfl⟩⟩))
     go_ret;exact⟨za8,za0 HB GE209⟩
    ·replace c41:=Bool.eq_false_iff.mpr c41;subst c41
     have H1:(some false)=some r:=by rw[if_neg (show ¬(false=true) by decide)] at H;exact H
     clear H;have H:=H1;clear H1;obtain rfl:=Option.some.inj H;go_enter Try.func39,Try.ntmps39
     go_wp2_with(first|((with_reducible refine qag (N:=1) rfl ?_);refine zX (N:=1) (cs:=#[.int .i64 a0_0,.int .i64 a0_1,.slice A0_2 l0_2.length c0_2]) (t:=62) ?_;intro gb209 hg w44 hbox hb;have BK209:=qah.mk hbox;have GW209:=zH (w:=w) hg (za1 HB);have GE209:=GW209;replace HB:=qah.mk (qaa (za1 HB) hb);clear hb hbox hg;obtain⟨hcz45_0,hcz45_1,hcz45_2,hfz45_0,hfz45_1,hfz45_2⟩:=zC3 BK209)|((with_reducible refine qaf (f:=37) rfl ?_);refine zF (some 30) Try.func37 #[.int .i64 a0_0,.int .i64 1,.int .i64 7] ?_;(with_reducible refine(impl_in.calls a0_0 1 7 true _ A38.out).mono ?_);rintro e w' ⟨rfl,⟨nd,rfl⟩⟩;refine⟨_,rfl,?_⟩)|(go_at_call 52;(with_reducible refine(impl_isTrip.calls a0_1 false _ A40.out).mono ?_);rintro e w' ⟨rfl,⟨nd,rfl⟩⟩))
     go_ret;exact⟨za8,za0 HB GE209⟩
   ·replace c39:=Bool.eq_false_iff.mpr c39;subst c39
    have H1:(some false)=some r:=by rw[if_neg (show ¬(false=true) by decide)] at H;exact H
    clear H;have H:=H1;clear H1;obtain rfl:=Option.some.inj H;go_enter Try.func39,Try.ntmps39
    go_wp2_with(first|((with_reducible refine qag (N:=1) rfl ?_);refine zX (N:=1) (cs:=#[.int .i64 a0_0,.int .i64 a0_1,.slice A0_2 l0_2.length c0_2]) (t:=62) ?_;intro gb209 hg w46 hbox hb;have BK209:=qah.mk hbox;have GW209:=zH (w:=w) hg (za1 HB);have GE209:=GW209;replace HB:=qah.mk (qaa (za1 HB) hb);clear hb hbox hg;obtain⟨hcz47_0,hcz47_1,hcz47_2,hfz47_0,hfz47_1,hfz47_2⟩:=zC3 BK209)|((with_reducible refine qaf (f:=37) rfl ?_);refine zF (some 30) Try.func37 #[.int .i64 a0_0,.int .i64 1,.int .i64 7] ?_;(with_reducible refine(impl_in.calls a0_0 1 7 false _ A38.out).mono ?_);rintro e w' ⟨rfl,⟨nd,rfl⟩⟩;refine⟨_,rfl,?_⟩))
    go_ret;exact⟨za8,za0 HB GE209⟩
def impl_LogOk_1.f (a0_0:Int) (a0_1:Int) (l0_2:List Int):Option (Bool):=(impl_RecOk.f a0_0 a0_1 l0_2).bind fun t222=>(some (!t222))
set_option maxHeartbeats 8000000 in
set_option maxRecDepth 100000 in
theorem impl_LogOk_1.calls (a0_0:Int) (a0_1:Int) (A0_2:Option Addr) (c0_2:Nat) (l0_2:List Int) (r:Bool) (w:World) (hr0_2:Kd.C (Kd.int .i64) w A0_2 l0_2.length l0_2) (hc0_2:l0_2.length≤c0_2) (h:impl_LogOk_1.f a0_0 a0_1 l0_2=some r) :
  Calls Try.prog 38 #[.agg #[.int .i64 a0_0,.int .i64 a0_1,.slice A0_2 l0_2.length c0_2]] w fun e w'=>e=.returned (.bool r)∧Below w.heap.size w w':=by
 have hu62:=Try.underlying62;have HR0_2:=qah.mk hr0_2;have HC0_2:=qah.mk hc0_2;clear hr0_2 hc0_2;have HB:=qah.mk (Below.refl w.heap.size w);have H:((impl_RecOk.f a0_0 a0_1 l0_2).bind fun t222=>(some (!t222)))=some r:=h;clear h;replace H:=Option.bind_eq_some_iff.mp H;obtain⟨t222,A20,H⟩:=H;replace H:(some (!t222))=some r:=H;have A2:=qah.mk A20;clear A20;obtain rfl:=Option.some.inj H;go_enter Try.func38,Try.ntmps38
 go_wp2_with(first|((with_reducible refine qag (N:=1) rfl ?_);refine zX (N:=1) (cs:=#[.int .i64 a0_0,.int .i64 a0_1,.slice A0_2 l0_2.length c0_2]) (t:=62) ?_;intro gb221 hg w3 hbox hb;have BK221:=qah.mk hbox;have GW221:=zH (w:=w) hg (za1 HB);have GE221:=GW221;replace HB:=qah.mk (qaa (za1 HB) hb);clear hb hbox hg;obtain⟨hcz4_0,hcz4_1,hcz4_2,hfz4_0,hfz4_1,hfz4_2⟩:=zC3 BK221)|((with_reducible refine qaf (f:=39) rfl ?_);refine zF (some 4) Try.func39 #[.agg #[.int .i64 a0_0,.int .i64 a0_1,.slice A0_2 l0_2.length c0_2]] ?_;(with_reducible refine(impl_RecOk.calls a0_0 a0_1 _ _ l0_2 t222 _ ?side1 ?side2 A2.out).mono ?_);(case side1=>exact zR HR0_2 HB);(case side2=>exact HC0_2.out);rintro e w5 ⟨rfl,hb⟩;refine⟨_,rfl,?_⟩;replace BK221:=zY BK221 hb;replace HB:=qah.mk (qaa (za0 HB GE221) hb);(try clear hb)))
 go_ret;exact⟨za8,za0 HB GE221⟩
theorem drop_cons_T62 {l:List S62} {k:Nat} (h:k<l.length):l.drop k=rd_T62 l (k:Int) :: l.drop (k+1):=by
 rw[List.drop_eq_getElem_cons h];simp[rd_T62,List.getD_eq_getElem?_getD,List.getElem?_eq_getElem h]
set_option maxHeartbeats 4000000 in
set_option maxRecDepth 100000 in
theorem idx_T62 (p:S62→Option Bool) (g:Nat) (A_:Option Addr) (c_:Nat) (l0:List S62) (r:Bool) (w:World) (hr0:Kd.C k62 w A_ l0.length l0) (hc0:l0.length≤c_)
  (eg:∀args w,(callFunc g args).run Try.prog w=.ok (.enter g args) w)
  (hg:∀(W:World) (x:S62) (A2:Option Addr) (c2:Nat) (b:Bool),Kd.C (Kd.int .i64) W A2 (x.f2).length (x.f2)→(x.f2).length≤c2→p x=some b→Calls Try.prog g #[.agg #[.int .i64 (x.f0),.int .i64 (x.f1),.slice A2 (x.f2).length c2]] W fun e w'=>e=.returned (.bool b)∧Below W.heap.size W w') (h:anyO p l0=some r) :
  Calls Try.prog 53 #[.slice A_ l0.length c_,.func (.func g) #[] #[]] w (IdxB r w):=by
 have HR:=qah.mk hr0;have HG:=qah.mk hg;have HH:=qah.mk h;clear hr0 hc0 hg h
 have hbig:l0.length≤9223372036854775807:=by
  have:=HR.out;exact this.2.1
 go_enter Try.func53,Try.ntmps53;go_wp2
 go_loopg [5,8] l0.length (fun gg _ s8 wr=>∃kk:Nat,kk≤l0.length∧l0.length - kk≤gg∧s8=.int .i64 kk∧qah (Below w.heap.size w wr)∧qah (anyO p (l0.drop kk)=some r))
 case atStart=>exact⟨0,Nat.zero_le _,by omega,rfl,⟨Below.refl _ _⟩,HH⟩
 case round=>
  obtain⟨kk,hkk,hg',rfl,BW,B⟩:=hrel;clear HH;by_cases hlt:kk<l0.length
  ·have hltz:(kk:Int)<(l0.length:Int):=by omega
   obtain⟨ad,A2,c2,e0,hx0,hx1,hx2,hl2,hi2⟩:=at_T62 HR.out (kk:Int) (by omega) hltz
   cases e0
   rw[Int.toNat_natCast] at hx0;rw[Int.toNat_natCast] at hx1;rw[Int.toNat_natCast] at hx2;replace hx0:=(BW.out.cell (World.block_lt_of_cell? w _ hx0)).trans hx0;replace hx1:=(BW.out.cell (World.block_lt_of_cell? w _ hx1)).trans hx1;replace hx2:=(BW.out.cell (World.block_lt_of_cell? w _ hx2)).trans hx2;have HI2:=qah.mk hi2;have HL2:=qah.mk hl2;clear hi2 hl2;have B':=B.out;rw[drop_cons_T62 hlt] at B';obtain⟨b,hb,hb'⟩:=anyO_cons B';clear B B';generalize rd_T62 l0 (kk:Int)=x at *;have HB:=qah.mk hb;clear hb
   rcases hb' with⟨rfl,rfl⟩|⟨rfl,hb'⟩
   ·have hcall:=HG.out wr x _ _ true (Kd.C_below HI2.out BW.out) HL2.out HB.out
    go_wp2_with(go_at_fn g;refine hcall.mono ?_;rintro e w' ⟨rfl,hbl⟩)
    go_ret;exact⟨kk,rfl,by simp,qaa BW.out hbl⟩
   ·have B2:=qah.mk hb';clear hb';have hcall:=HG.out wr x _ _ false (Kd.C_below HI2.out BW.out) HL2.out HB.out
    go_wp2_with(go_at_fn g;refine hcall.mono ?_;rintro e w' ⟨rfl,hbl⟩)
    go_roundg (l0.length - (kk+1))
    case measure=>omega
    case rel=>exact⟨kk+1,by omega,by omega,by go_num,⟨qaa BW.out hbl⟩,B2⟩
  ·have hltz:¬(kk:Int)<(l0.length:Int):=by omega
   have B':=B.out;rw[List.drop_eq_nil_of_le (by omega)] at B'
   have hr:false=r:=by injection B'
   subst hr;clear B';go_wp2;go_ret;exact⟨-1,rfl,by decide,BW.out⟩
set_option maxHeartbeats 4000000 in
theorem contains_T62 (p:S62→Option Bool) (g:Nat) (A_:Option Addr) (c_:Nat) (l0:List S62) (r:Bool) (w:World) (hr0:Kd.C k62 w A_ l0.length l0) (hc0:l0.length≤c_)
  (eg:∀args w,(callFunc g args).run Try.prog w=.ok (.enter g args) w)
  (hg:∀(W:World) (x:S62) (A2:Option Addr) (c2:Nat) (b:Bool),Kd.C (Kd.int .i64) W A2 (x.f2).length (x.f2)→(x.f2).length≤c2→p x=some b→Calls Try.prog g #[.agg #[.int .i64 (x.f0),.int .i64 (x.f1),.slice A2 (x.f2).length c2]] W fun e w'=>e=.returned (.bool b)∧Below W.heap.size W w') (h:anyO p l0=some r) :
  Calls Try.prog 40 #[.slice A_ l0.length c_,.func (.func g) #[] #[]] w fun e w'=>e=.returned (.bool r)∧Below w.heap.size w w':=by
 have hI:=fun W=>idx_T62 p g A_ c_ l0 r W
 have HR:=qah.mk hr0;have HG:=qah.mk hg;have HH:=qah.mk h;have HC:=qah.mk hc0;clear hr0 hc0 hg h;go_enter Try.func40,Try.ntmps40
 go_wp2_with(go_at_call 53;refine(hI _ HR.out HC.out eg HG.out HH.out).mono ?_;rintro e w' ⟨i,rfl,hi,hb⟩)
 go_ret;exact⟨by rw[←hi];rfl,hb⟩
def impl_LogOk.f (l0_0:List (S62)) (a0_1:Int):Option (Bool):=if(l0_0.length:Int)≤40 then((impl_in.f a0_1 0 (l0_0.length:Int)).bind fun t=>if t=true then((anyO (fun x:S62=>impl_LogOk_1.f x.f0 x.f1 x.f2) l0_0).bind fun a=>some (!a)) else some false) else some false
set_option maxHeartbeats 8000000 in
set_option maxRecDepth 100000 in
theorem impl_LogOk.calls (A0_0:Option Addr) (c0_0:Nat) (l0_0:List (S62)) (a0_1:Int) (r:Bool) (w:World) (hr0_0:Kd.C k62 w A0_0 l0_0.length l0_0) (hc0_0:l0_0.length≤c0_0) (h:impl_LogOk.f l0_0 a0_1=some r) :
  Calls Try.prog 22 #[.agg #[.slice A0_0 l0_0.length c0_0,.int .i64 a0_1]] w fun e w'=>e=.returned (.bool r)∧Below w.heap.size w w':=by
 have HR:=qah.mk hr0_0;have HC:=qah.mk hc0_0
 have c1:=fun(W:World) (r':Bool) (hr:Kd.C k62 W A0_0 l0_0.length l0_0) (h:anyO (fun x:S62=>impl_LogOk_1.f x.f0 x.f1 x.f2) l0_0=some r')=>contains_T62 (fun x:S62=>impl_LogOk_1.f x.f0 x.f1 x.f2) 38 A0_0 c0_0 l0_0 r' W hr HC.out (enters_of Try.func38 (by kernel_rfl) rfl) (fun W x A c b h1 h2 hb=>(impl_LogOk_1.calls x.f0 x.f1 A c x.f2 b W h1 h2 hb).mono fun e w' ⟨he,hd⟩=>⟨he,hd⟩) h
 have C1:=qah.mk c1;clear hr0_0 hc0_0 c1;unfold impl_LogOk.f at h;by_cases h3:(l0_0.length:Int)≤40
 ·rw[if_pos h3] at h;have h3b:decide ((l0_0.length:Int)≤40)=true:=decide_eq_true h3;have h3c:decide (l0_0.length≤40)=true:=decide_eq_true (by omega);clear h3;obtain⟨t,ht,h⟩:=Option.bind_eq_some_iff.mp h;have HT:=qah.mk ht;clear ht
  cases t with
  |false=>
   rw[if_neg (by decide)] at h
   injection h with h
   subst h;go_enter Try.func22,Try.ntmps22
   go_wp2_with(go_at_call 37;refine(impl_in.calls _ _ _ false _ HT.out).mono ?_;rintro e w' ⟨rfl,⟨nd,rfl⟩⟩)
   go_ret;exact⟨rfl,pw_below_drewN (below_alloc (Below.refl _ _) _) _⟩
  |true=>
   rw[if_pos rfl] at h;obtain⟨a,ha,h⟩:=Option.bind_eq_some_iff.mp h
   injection h with h
   subst h;have HA:=qah.mk ha;clear ha;go_enter Try.func22,Try.ntmps22
   go_wp2_with(first|(go_at_call 37;refine(impl_in.calls _ _ _ true _ HT.out).mono ?_;rintro e w' ⟨rfl,⟨nd,rfl⟩⟩)|(go_at_call 40;refine(C1.out _ a ?side1 HA.out).mono ?_;(case side1=>repeat(first|exact HR.out|(with_reducible refine Kd.C_alloc ?_ _)|(with_reducible refine Kd.C_drewN ?_ _)|(with_reducible refine Kd.C_drew ?_)));rintro e w' ⟨rfl,hb⟩))
   go_ret;exact⟨rfl,qaa (pw_below_drewN (below_alloc (Below.refl _ _) _) _) hb⟩
 ·rw[if_neg h3] at h
  injection h with h
  subst h;have h3b:decide ((l0_0.length:Int)≤40)=false:=decide_eq_false h3;have h3c:decide (l0_0.length≤40)=false:=decide_eq_false (by omega);clear h3;go_enter Try.func22,Try.ntmps22;go_wp2;go_ret;exact⟨rfl,below_alloc (Below.refl _ _) _⟩
def impl_StockNew.f (a0:Int):Option (Int × (List (S72)) × Bool):=(impl_in.f a0 0 9).bind fun t224=>(if t224=true then(if 6≤17592186044416 then(some (a0,(List.replicate 6 z72),true)) else(none)) else(some (0,([]:List (S72)),false)))
set_option maxHeartbeats 8000000 in
set_option maxRecDepth 100000 in
theorem impl_StockNew.calls (a0:Int) (r1:Int) (r2:List (S72)) (r3:Bool) (w:World) (h:impl_StockNew.f a0=some (r1,r2,r3)) :
  Calls Try.prog 41 #[.int .i64 a0] w fun e w'=>∃v1_:Value,e=.returned (.tuple #[.agg #[.int .i64 r1,v1_],.bool r3])∧Kd.R k72 72 w' w.heap.size (fun _=>True) v1_ r2∧Below w.heap.size w w':=by
 have hu39:=Try.underlying39;have HB:=qah.mk (Below.refl w.heap.size w);have H:((impl_in.f a0 0 9).bind fun t224=>(if t224=true then(if 6≤17592186044416 then(some (a0,(List.replicate 6 z72),true)) else(none)) else(some (0,([]:List (S72)),false))))=some (r1,r2,r3):=h;clear h;replace H:=Option.bind_eq_some_iff.mp H;obtain⟨t224,A20,H⟩:=H;replace H:(if t224=true then(if 6≤17592186044416 then(some (a0,(List.replicate 6 z72),true)) else(none)) else(some (0,([]:List (S72)),false)))=some (r1,r2,r3):=H;have A2:=qah.mk A20;clear A20;by_cases c3:t224=true
 ·subst c3
  have H1:(if 6≤17592186044416 then(some (a0,(List.replicate 6 z72),true)) else(none))=some (r1,r2,r3):=by rw[if_pos rfl] at H;exact H
  clear H;have H:=H1;clear H1;by_cases c4:6≤17592186044416
  ·rw[if_pos c4] at H;have c4b0:=eq_true c4;have c4b1:decide (6≤17592186044416)=true:=decide_eq_true c4;clear c4;obtain⟨y225,hy225⟩:∃y_:List (S72),y_=(List.replicate 6 z72):=⟨_,rfl⟩
   replace H:(some (a0,y225,true))=some (r1,r2,r3):=by first|(rw[hy225];with_reducible exact H)|(have H2_:=(Option.bind_some _ _).symm.trans H;rw[hy225];with_reducible exact H2_)|(have H2_:=(Option.bind_some _ _).symm.trans H;with_reducible exact H2_)|with_reducible exact H|(rw[hy225];exact H)|exact H
   have Ny225:=qah.mk hy225;clear hy225;simp only[Option.some.injEq,Prod.mk.injEq] at H;obtain⟨rfl,rfl,rfl⟩:=H;go_enter Try.func41,Try.ntmps41
   go_wp2_with(first|((with_reducible refine qag (N:=2) rfl ?_);refine zX (N:=2) (cs:=#[.int .i64 0,.slice none 0 0]) (t:=39) ?_;intro gb223 hg w5 hbox hb;have BK223:=qah.mk hbox;have GW223:=zH (w:=w) hg (za1 HB);have GE223:=GW223;replace HB:=qah.mk (qaa (za1 HB) hb);clear hb hbox hg)|((with_reducible refine qaf (f:=37) rfl ?_);refine zF (some 5) Try.func37 #[.int .i64 a0,.int .i64 0,.int .i64 9] ?_;(with_reducible refine(impl_in.calls a0 0 9 true _ A2.out).mono ?_);rintro e w' ⟨rfl,⟨nd,rfl⟩⟩;refine⟨_,rfl,?_⟩;(try(rw[drewN_self w5];generalize hq_:World.drewN w5 _=w5;replace BK223:qah (w5.heap[gb223]?=some (.cells #[.int .i64 0,.slice none 0 0] 39 (0,0))):=⟨by rw[←hq_];exact(zB BK223)⟩;replace HB:qah (Below w.heap.size w w5):=⟨by rw[←hq_];exact(za0 HB GE223)⟩;clear hq_;have hczugb223_0:w5.cell? ⟨gb223,0,none⟩=some _:=(qab BK223.out 0).trans rfl;have hfzugb223_0:=blk_frozen BK223.out 0;have hczugb223_1:w5.cell? ⟨gb223,1,none⟩=some _:=(qab BK223.out 1).trans rfl;have hfzugb223_1:=blk_frozen BK223.out 1)))|((with_reducible refine qag (N:=9) rfl ?_);refine Kd.R_make k72 _ 72 rfl (N:=9) rfl 37 _ _ rfl 6 rfl rfl Try.underlying37 (.agg #[(.int .i64 0),(.int .i64 0)]) 16 info72 rfl (by decide) (by omega) z72 (ok:=fun _=>True) (okp:=fun _=>True) (k72_mkM _ _ _ z72 ) (fun _ hk=>hk) trivial (by omega) (by omega) (Below.refl _ _) (Nat.le_refl _) ?_;intro v226 w6 ho7 hb hg_ hnew_;clear hg_ hnew_;(first|rw[←Ny225.out] at ho7|(simp only[Int.reduceToNat] at ho7;rw[←Ny225.out] at ho7));have HO227:=qah.mk (Kd.R_lower ho7 (qam (za0 HB GE223)));replace BK223:=zY BK223 hb;replace HB:=qah.mk (qaa (za0 HB GE223) hb);clear hb ho7;obtain⟨Ao8,co8,eo8⟩:=Kd.R_slice HO227.out;subst eo8;obtain⟨hcz9_0,hcz9_1,hfz9_0,hfz9_1⟩:=zC2 BK223))
   refine bodyPost_ret (results_ct rfl _ _ gb223 39 #[.int .i64 a0,.slice Ao8 y225.length co8] (0,0) _ rfl (by(with_reducible repeat(first|refine qae ?_ _|refine qac ?_|refine qad ?_ _));refine qai (cs:=#[.int .i64 a0,.slice none 0 0]) ?_ 1 _ rfl;(with_reducible repeat(first|refine qae ?_ _|refine qac ?_|refine qad ?_ _));refine qai (cs:=#[.int .i64 0,.slice none 0 0]) ?_ 0 _ rfl;(with_reducible repeat(first|refine qae ?_ _|refine qac ?_|refine qad ?_ _));exact BK223.out) Try.underlying39 rfl (by kernel_rfl)) rfl ?_;exact⟨_,za8,by(with_reducible repeat(first|apply Kd.R_alloc|apply Kd.R_drewN|apply Kd.R_drew));exact Kd.R_mono (Kd.R_far (p:=⟨gb223,1,none⟩) (Kd.R_far (p:=⟨gb223,0,none⟩) (Kd.R_types HO227.out BK223.out (by decide)) (fun _ hk=>hk.2) (.int .i64 a0)) (fun _ hk=>hk.2) (.slice Ao8 y225.length co8)) (fun _ hk=>trivial),za0 HB GE223⟩
  ·rw[if_neg c4] at H;exact absurd H (by simp)
 ·replace c3:=Bool.eq_false_iff.mpr c3;subst c3
  have H1:(some (0,([]:List (S72)),false))=some (r1,r2,r3):=by rw[if_neg (show ¬(false=true) by decide)] at H;exact H
  clear H;have H:=H1;clear H1;simp only[Option.some.injEq,Prod.mk.injEq] at H;obtain⟨rfl,rfl,rfl⟩:=H;go_enter Try.func41,Try.ntmps41
  go_wp2_with(first|((with_reducible refine qag (N:=2) rfl ?_);refine zX (N:=2) (cs:=#[.int .i64 0,.slice none 0 0]) (t:=39) ?_;intro gb223 hg w10 hbox hb;have BK223:=qah.mk hbox;have GW223:=zH (w:=w) hg (za1 HB);have GE223:=GW223;replace HB:=qah.mk (qaa (za1 HB) hb);clear hb hbox hg)|((with_reducible refine qaf (f:=37) rfl ?_);refine zF (some 5) Try.func37 #[.int .i64 a0,.int .i64 0,.int .i64 9] ?_;(with_reducible refine(impl_in.calls a0 0 9 false _ A2.out).mono ?_);rintro e w' ⟨rfl,⟨nd,rfl⟩⟩;refine⟨_,rfl,?_⟩;(try(rw[drewN_self w10];generalize hq_:World.drewN w10 _=w10;replace BK223:qah (w10.heap[gb223]?=some (.cells #[.int .i64 0,.slice none 0 0] 39 (0,0))):=⟨by rw[←hq_];exact(zB BK223)⟩;replace HB:qah (Below w.heap.size w w10):=⟨by rw[←hq_];exact(za0 HB GE223)⟩;clear hq_;have hczugb223_0:w10.cell? ⟨gb223,0,none⟩=some _:=(qab BK223.out 0).trans rfl;have hfzugb223_0:=blk_frozen BK223.out 0;have hczugb223_1:w10.cell? ⟨gb223,1,none⟩=some _:=(qab BK223.out 1).trans rfl;have hfzugb223_1:=blk_frozen BK223.out 1));obtain⟨hcz11_0,hcz11_1,hfz11_0,hfz11_1⟩:=zC2 BK223))
  refine bodyPost_ret (results_ct rfl _ _ gb223 39 #[.int .i64 0,.slice none 0 0] (0,0) _ rfl (by(with_reducible repeat(first|refine qae ?_ _|refine qac ?_|refine qad ?_ _));refine qai (cs:=#[.int .i64 0,.slice none 0 0]) ?_ 1 _ rfl;(with_reducible repeat(first|refine qae ?_ _|refine qac ?_|refine qad ?_ _));refine qai (cs:=#[.int .i64 0,.slice none 0 0]) ?_ 0 _ rfl;(with_reducible repeat(first|refine qae ?_ _|refine qac ?_|refine qad ?_ _));exact BK223.out) Try.underlying39 rfl (by kernel_rfl)) rfl ?_;exact⟨_,za8,za16,za0 HB GE223⟩
end Go.Proofs.Ytbomcadjkcmcgaa.Print
