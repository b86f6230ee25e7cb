-- Written by squeeze.py: not trusted, Lean checks it.
import Derived.Test.YtjccnaklodbbfaaZK
import Derived.Test.YtjccnaklodbbfaaZb0
import Derived.Test.YtjccnaklodbbfaaZi0
namespace Go.Proofs.Ytjccnaklodbbfaa.Print
open Go.RowKit Go.Proofs.YtjccnaklodbbfaaW.PrintWords Go.Proofs.YtjccnaklodbbfaaW.PrintLast Go.Proofs.YtjccnaklodbbfaaW.PrintMore
attribute [local go_sem] max2_int min2_int max_two min_two max_three min_three max_four min_four
set_option linter.unusedVariables false
set_option linter.unusedSimpArgs false
def impl_isTrip.f (a0:Int):Option (Bool):=(impl_in.f a0 1 6).bind fun t195=>(some t195)
set_option maxHeartbeats 8000000 in
set_option maxRecDepth 100000 in
theorem impl_isTrip.calls (a0:Int) (r:Bool) (w:World) (h:impl_isTrip.f a0=some r) :
  Calls Try.prog 113 #[.int .i64 a0] w fun e w'=>e=.returned (.bool r)∧Drawn0 w w':=by
 have H:((impl_in.f a0 1 6).bind fun t195=>(some t195))=some r:=h
 clear h
 replace H:=Option.bind_eq_some_iff.mp H
 obtain⟨t195,A20,H⟩:=H
 replace H:(some t195)=some r:=H
 have A2:=Aside0.mk A20
 clear A20
 obtain rfl:=Option.some.inj H
 go_enter Try.func113,Try.ntmps113
 go_wp2_with(first|((with_reducible refine qaf (f:=60) rfl ?_);refine zF (some 4) Try.func60 #[.int .i64 a0,.int .i64 1,.int .i64 6] ?_;(with_reducible refine(impl_in.calls a0 1 6 t195 _ A2.out).mono ?_);rintro e w' ⟨rfl,⟨nd,rfl⟩⟩;refine⟨_,rfl,?_⟩))
 go_ret
 exact⟨za17,za20⟩
def impl_RecOk.f (a0_0:Int) (a0_1:Int) (l0_2:List Int):Option (Bool):=if a0_0=1 then(if(l0_2.length:Int)=1 then(if 0<(l0_2.length:Int) then((impl_in.f (rd l0_2 0) 1 3).bind fun t198=>((impl_in.f a0_0 1 7).bind fun t199=>(if t199=true then((impl_isTrip.f a0_1).bind fun t200=>(if t200=true then(some t198) else(some false))) else(some false)))) else(none)) else((impl_in.f a0_0 1 7).bind fun t201=>(if t201=true then((impl_isTrip.f a0_1).bind fun t202=>(if t202=true then(some false) else(some false))) else(some false)))) else(if a0_0=4 then((impl_wantedOk.f l0_2).bind fun t203=>((impl_in.f a0_0 1 7).bind fun t204=>(if t204=true then((impl_isTrip.f a0_1).bind fun t205=>(if t205=true then(some t203) else(some false))) else(some false)))) else((impl_in.f a0_0 1 7).bind fun t206=>(if t206=true then((impl_isTrip.f a0_1).bind fun t207=>(if t207=true then(some ((l0_2.length:Int) == 0)) else(some false))) else(some false))))
set_option maxHeartbeats 8000000 in
set_option maxRecDepth 100000 in
theorem impl_RecOk.calls (a0_0:Int) (a0_1:Int) (A0_2:Option Addr) (c0_2:Nat) (l0_2:List Int) (r:Bool) (w:World) (hr0_2:Kd.C (Kd.int .i64) w A0_2 l0_2.length l0_2) (hc0_2:l0_2.length≤c0_2) (h:impl_RecOk.f a0_0 a0_1 l0_2=some r) :
  Calls Try.prog 82 #[.agg #[.int .i64 a0_0,.int .i64 a0_1,.slice A0_2 l0_2.length c0_2]] w fun e w'=>e=.returned (.bool r)∧Below w.heap.size w w':=by
 have hu62:=Try.underlying62
 have HR0_2:=Aside0.mk hr0_2
 have HC0_2:=Aside0.mk hc0_2
 clear hr0_2 hc0_2
 have HB:=Aside0.mk (Below.refl w.heap.size w)
 have H:(if a0_0=1 then(if(l0_2.length:Int)=1 then(if 0<(l0_2.length:Int) then((impl_in.f (rd l0_2 0) 1 3).bind fun t198=>((impl_in.f a0_0 1 7).bind fun t199=>(if t199=true then((impl_isTrip.f a0_1).bind fun t200=>(if t200=true then(some t198) else(some false))) else(some false)))) else(none)) else((impl_in.f a0_0 1 7).bind fun t201=>(if t201=true then((impl_isTrip.f a0_1).bind fun t202=>(if t202=true then(some false) else(some false))) else(some false)))) else(if a0_0=4 then((impl_wantedOk.f l0_2).bind fun t203=>((impl_in.f a0_0 1 7).bind fun t204=>(if t204=true then((impl_isTrip.f a0_1).bind fun t205=>(if t205=true then(some t203) else(some false))) else(some false)))) else((impl_in.f a0_0 1 7).bind fun t206=>(if t206=true then((impl_isTrip.f a0_1).bind fun t207=>(if t207=true then(some ((l0_2.length:Int) == 0)) else(some false))) else(some false)))))=some r:=h
 clear h
 by_cases c2:a0_0=1
 ·rw[if_pos c2] at H
  have c2b0:(a0_0 == 1)=true:=beq_iff_eq.mpr c2
  have c2b1:(a0_0 != 1)=false:=bne_eq_false_iff_eq.mpr c2
  clear c2
  by_cases c3:(l0_2.length:Int)=1
  ·rw[if_pos c3] at H
   have c3b0:((l0_2.length:Int) == 1)=true:=beq_iff_eq.mpr c3
   have c3b1:((l0_2.length:Int) != 1)=false:=bne_eq_false_iff_eq.mpr c3
   clear c3
   by_cases c4:0<(l0_2.length:Int)
   ·rw[if_pos c4] at H
    have c4b0:decide (0<(l0_2.length:Int))=true:=decide_eq_true c4
    have c4b1:decide (0<l0_2.length)=true:=decide_eq_true (by omega)
    clear c4
    replace H:=Option.bind_eq_some_iff.mp H
    obtain⟨t198,A50,H⟩:=H
    replace H:((impl_in.f a0_0 1 7).bind fun t199=>(if t199=true then((impl_isTrip.f a0_1).bind fun t200=>(if t200=true then(some t198) else(some false))) else(some false)))=some r:=H
    have A5:=Aside0.mk A50
    clear A50
    replace H:=Option.bind_eq_some_iff.mp H
    obtain⟨t199,A60,H⟩:=H
    replace H:(if t199=true then((impl_isTrip.f a0_1).bind fun t200=>(if t200=true then(some t198) else(some false))) else(some false))=some r:=H
    have A6:=Aside0.mk A60
    clear A60
    by_cases c7:t199=true
    ·subst c7
     have H1:((impl_isTrip.f a0_1).bind fun t200=>(if t200=true then(some t198) else(some false)))=some r:=by rw[if_pos rfl] at H;exact H
     clear H
     have H:=H1
     clear H1
     replace H:=Option.bind_eq_some_iff.mp H
     obtain⟨t200,A80,H⟩:=H
     replace H:(if t200=true then(some t198) else(some false))=some r:=H
     have A8:=Aside0.mk A80
     clear A80
     by_cases c9:t200=true
     ·subst c9
      have H1:(some t198)=some r:=by rw[if_pos rfl] at H;exact H
      clear H
      have H:=H1
      clear H1
      obtain rfl:=Option.some.inj H
      go_enter Try.func82,Try.ntmps82
      go_wp2_with(first|((with_reducible refine qah (N:=1) rfl ?_);refine zX (N:=1) (cs:=#[.int .i64 a0_0,.int .i64 a0_1,.slice A0_2 l0_2.length c0_2]) (t:=62) ?_;intro gb196 hg w10 hbox hb;have BK196:=Aside0.mk hbox;have GW196:=zH (w:=w) hg (za1 HB);have GE196:=GW196;replace HB:=Aside0.mk (qab (za1 HB) hb);clear hb hbox hg;obtain⟨hcz11_0,hcz11_1,hcz11_2,hfz11_0,hfz11_1,hfz11_2⟩:=zC3 BK196;have p197:0≤(0:Int):=(by omega);have q197:0<(l0_2.length:Int):=of_decide_eq_true (za5);obtain⟨ad197,e197,hx197_0⟩:=Kd.at_int HR0_2.out 0 p197 q197;cases e197;have qi197:(0<l0_2.length)=True:=eq_true (by omega);(try rw[show((0:Int)).toNat=0 from rfl] at hx197_0);(try rw[Addr.add_zero'] at hx197_0);replace hx197_0:=(HB.out.cell (World.block_lt_of_cell? w _ hx197_0)).trans hx197_0;replace p197:=eq_true p197;replace q197:=eq_true q197)|(go_at_call 60;(with_reducible refine(impl_in.calls (rd l0_2 0) 1 3 t198 _ A5.out).mono ?_);rintro e w' ⟨rfl,⟨nd,rfl⟩⟩)|((with_reducible refine qaf (f:=60) rfl ?_);refine zF (some 30) Try.func60 #[.int .i64 a0_0,.int .i64 1,.int .i64 7] ?_;(with_reducible refine(impl_in.calls a0_0 1 7 true _ A6.out).mono ?_);rintro e w' ⟨rfl,⟨nd,rfl⟩⟩;refine⟨_,rfl,?_⟩)|(go_at_call 113;(with_reducible refine(impl_isTrip.calls a0_1 true _ A8.out).mono ?_);rintro e w' ⟨rfl,⟨nd,rfl⟩⟩))
      go_ret
      exact⟨za9,za0 HB GE196⟩
     ·replace c9:=Bool.eq_false_iff.mpr c9
      subst c9
      have H1:(some false)=some r:=by rw[if_neg (show ¬(false=true) by decide)] at H;exact H
      clear H
      have H:=H1
      clear H1
      obtain rfl:=Option.some.inj H
      go_enter Try.func82,Try.ntmps82
      go_wp2_with(first|((with_reducible refine qah (N:=1) rfl ?_);refine zX (N:=1) (cs:=#[.int .i64 a0_0,.int .i64 a0_1,.slice A0_2 l0_2.length c0_2]) (t:=62) ?_;intro gb196 hg w12 hbox hb;have BK196:=Aside0.mk hbox;have GW196:=zH (w:=w) hg (za1 HB);have GE196:=GW196;replace HB:=Aside0.mk (qab (za1 HB) hb);clear hb hbox hg;obtain⟨hcz13_0,hcz13_1,hcz13_2,hfz13_0,hfz13_1,hfz13_2⟩:=zC3 BK196;have p197:0≤(0:Int):=(by omega);have q197:0<(l0_2.length:Int):=of_decide_eq_true (za5);obtain⟨ad197,e197,hx197_0⟩:=Kd.at_int HR0_2.out 0 p197 q197;cases e197;have qi197:(0<l0_2.length)=True:=eq_true (by omega);(try rw[show((0:Int)).toNat=0 from rfl] at hx197_0);(try rw[Addr.add_zero'] at hx197_0);replace hx197_0:=(HB.out.cell (World.block_lt_of_cell? w _ hx197_0)).trans hx197_0;replace p197:=eq_true p197;replace q197:=eq_true q197)|(go_at_call 60;(with_reducible refine(impl_in.calls (rd l0_2 0) 1 3 t198 _ A5.out).mono ?_);rintro e w' ⟨rfl,⟨nd,rfl⟩⟩)|((with_reducible refine qaf (f:=60) rfl ?_);refine zF (some 30) Try.func60 #[.int .i64 a0_0,.int .i64 1,.int .i64 7] ?_;(with_reducible refine(impl_in.calls a0_0 1 7 true _ A6.out).mono ?_);rintro e w' ⟨rfl,⟨nd,rfl⟩⟩;refine⟨_,rfl,?_⟩)|(go_at_call 113;(with_reducible refine(impl_isTrip.calls a0_1 false _ A8.out).mono ?_);rintro e w' ⟨rfl,⟨nd,rfl⟩⟩))
      go_ret
      exact⟨za9,za0 HB GE196⟩
    ·replace c7:=Bool.eq_false_iff.mpr c7
     subst c7
     have H1:(some false)=some r:=by rw[if_neg (show ¬(false=true) by decide)] at H;exact H
     clear H
     have H:=H1
     clear H1
     obtain rfl:=Option.some.inj H
     go_enter Try.func82,Try.ntmps82
     go_wp2_with(first|((with_reducible refine qah (N:=1) rfl ?_);refine zX (N:=1) (cs:=#[.int .i64 a0_0,.int .i64 a0_1,.slice A0_2 l0_2.length c0_2]) (t:=62) ?_;intro gb196 hg w14 hbox hb;have BK196:=Aside0.mk hbox;have GW196:=zH (w:=w) hg (za1 HB);have GE196:=GW196;replace HB:=Aside0.mk (qab (za1 HB) hb);clear hb hbox hg;obtain⟨hcz15_0,hcz15_1,hcz15_2,hfz15_0,hfz15_1,hfz15_2⟩:=zC3 BK196;have p197:0≤(0:Int):=(by omega);have q197:0<(l0_2.length:Int):=of_decide_eq_true (za5);obtain⟨ad197,e197,hx197_0⟩:=Kd.at_int HR0_2.out 0 p197 q197;cases e197;have qi197:(0<l0_2.length)=True:=eq_true (by omega);(try rw[show((0:Int)).toNat=0 from rfl] at hx197_0);(try rw[Addr.add_zero'] at hx197_0);replace hx197_0:=(HB.out.cell (World.block_lt_of_cell? w _ hx197_0)).trans hx197_0;replace p197:=eq_true p197;replace q197:=eq_true q197)|(go_at_call 60;(with_reducible refine(impl_in.calls (rd l0_2 0) 1 3 t198 _ A5.out).mono ?_);rintro e w' ⟨rfl,⟨nd,rfl⟩⟩)|((with_reducible refine qaf (f:=60) rfl ?_);refine zF (some 30) Try.func60 #[.int .i64 a0_0,.int .i64 1,.int .i64 7] ?_;(with_reducible refine(impl_in.calls a0_0 1 7 false _ A6.out).mono ?_);rintro e w' ⟨rfl,⟨nd,rfl⟩⟩;refine⟨_,rfl,?_⟩))
     go_ret
     exact⟨za9,za0 HB GE196⟩
   ·rw[if_neg c4] at H
    exact absurd H (by simp)
  ·rw[if_neg c3] at H
   have c3b0:((l0_2.length:Int) == 1)=false:=beq_eq_false_iff_ne.mpr c3
   have c3b1:((l0_2.length:Int) != 1)=true:=bne_iff_ne.mpr c3
   replace H:=Option.bind_eq_some_iff.mp H
   obtain⟨t201,A160,H⟩:=H
   replace H:(if t201=true then((impl_isTrip.f a0_1).bind fun t202=>(if t202=true then(some false) else(some false))) else(some false))=some r:=H
   have A16:=Aside0.mk A160
   clear A160
   by_cases c17:t201=true
   ·subst c17
    have H1:((impl_isTrip.f a0_1).bind fun t202=>(if t202=true then(some false) else(some false)))=some r:=by rw[if_pos rfl] at H;exact H
    clear H
    have H:=H1
    clear H1
    replace H:=Option.bind_eq_some_iff.mp H
    obtain⟨t202,A180,H⟩:=H
    replace H:(if t202=true then(some false) else(some false))=some r:=H
    have A18:=Aside0.mk A180
    clear A180
    by_cases c19:t202=true
    ·subst c19
     have H1:(some false)=some r:=by rw[if_pos rfl] at H;exact H
     clear H
     have H:=H1
     clear H1
     obtain rfl:=Option.some.inj H
     go_enter Try.func82,Try.ntmps82
     go_wp2_with(first|((with_reducible refine qah (N:=1) rfl ?_);refine zX (N:=1) (cs:=#[.int .i64 a0_0,.int .i64 a0_1,.slice A0_2 l0_2.length c0_2]) (t:=62) ?_;intro gb196 hg w20 hbox hb;have BK196:=Aside0.mk hbox;have GW196:=zH (w:=w) hg (za1 HB);have GE196:=GW196;replace HB:=Aside0.mk (qab (za1 HB) hb);clear hb hbox hg;obtain⟨hcz21_0,hcz21_1,hcz21_2,hfz21_0,hfz21_1,hfz21_2⟩:=zC3 BK196)|((with_reducible refine qaf (f:=60) rfl ?_);refine zF (some 30) Try.func60 #[.int .i64 a0_0,.int .i64 1,.int .i64 7] ?_;(with_reducible refine(impl_in.calls a0_0 1 7 true _ A16.out).mono ?_);rintro e w' ⟨rfl,⟨nd,rfl⟩⟩;refine⟨_,rfl,?_⟩)|(go_at_call 113;(with_reducible refine(impl_isTrip.calls a0_1 true _ A18.out).mono ?_);rintro e w' ⟨rfl,⟨nd,rfl⟩⟩))
     go_ret
     exact⟨za9,za0 HB GE196⟩
    ·replace c19:=Bool.eq_false_iff.mpr c19
     subst c19
     have H1:(some false)=some r:=by rw[if_neg (show ¬(false=true) by decide)] at H;exact H
     clear H
     have H:=H1
     clear H1
     obtain rfl:=Option.some.inj H
     go_enter Try.func82,Try.ntmps82
     go_wp2_with(first|((with_reducible refine qah (N:=1) rfl ?_);refine zX (N:=1) (cs:=#[.int .i64 a0_0,.int .i64 a0_1,.slice A0_2 l0_2.length c0_2]) (t:=62) ?_;intro gb196 hg w22 hbox hb;have BK196:=Aside0.mk hbox;have GW196:=zH (w:=w) hg (za1 HB);have GE196:=GW196;replace HB:=Aside0.mk (qab (za1 HB) hb);clear hb hbox hg;obtain⟨hcz23_0,hcz23_1,hcz23_2,hfz23_0,hfz23_1,hfz23_2⟩:=zC3 BK196)|((with_reducible refine qaf (f:=60) rfl ?_);refine zF (some 30) Try.func60 #[.int .i64 a0_0,.int .i64 1,.int .i64 7] ?_;(with_reducible refine(impl_in.calls a0_0 1 7 true _ A16.out).mono ?_);rintro e w' ⟨rfl,⟨nd,rfl⟩⟩;refine⟨_,rfl,?_⟩)|(go_at_call 113;(with_reducible refine(impl_isTrip.calls a0_1 false _ A18.out).mono ?_);rintro e w' ⟨rfl,⟨nd,rfl⟩⟩))
     go_ret
     exact⟨za9,za0 HB GE196⟩
   ·replace c17:=Bool.eq_false_iff.mpr c17
    subst c17
    have H1:(some false)=some r:=by rw[if_neg (show ¬(false=true) by decide)] at H;exact H
    clear H
    have H:=H1
    clear H1
    obtain rfl:=Option.some.inj H
    go_enter Try.func82,Try.ntmps82
    go_wp2_with(first|((with_reducible refine qah (N:=1) rfl ?_);refine zX (N:=1) (cs:=#[.int .i64 a0_0,.int .i64 a0_1,.slice A0_2 l0_2.length c0_2]) (t:=62) ?_;intro gb196 hg w24 hbox hb;have BK196:=Aside0.mk hbox;have GW196:=zH (w:=w) hg (za1 HB);have GE196:=GW196;replace HB:=Aside0.mk (qab (za1 HB) hb);clear hb hbox hg;obtain⟨hcz25_0,hcz25_1,hcz25_2,hfz25_0,hfz25_1,hfz25_2⟩:=zC3 BK196)|((with_reducible refine qaf (f:=60) rfl ?_);refine zF (some 30) Try.func60 #[.int .i64 a0_0,.int .i64 1,.int .i64 7] ?_;(with_reducible refine(impl_in.calls a0_0 1 7 false _ A16.out).mono ?_);rintro e w' ⟨rfl,⟨nd,rfl⟩⟩;refine⟨_,rfl,?_⟩))
    go_ret
    exact⟨za9,za0 HB GE196⟩
 ·rw[if_neg c2] at H
  have c2b0:(a0_0 == 1)=false:=beq_eq_false_iff_ne.mpr c2
  have c2b1:(a0_0 != 1)=true:=bne_iff_ne.mpr c2
  by_cases c26:a0_0=4
  ·rw[if_pos c26] at H
   have c26b0:(a0_0 == 4)=true:=beq_iff_eq.mpr c26
   have c26b1:(a0_0 != 4)=false:=bne_eq_false_iff_eq.mpr c26
   clear c26
   replace H:=Option.bind_eq_some_iff.mp H
   obtain⟨t203,A270,H⟩:=H
   replace H:((impl_in.f a0_0 1 7).bind fun t204=>(if t204=true then((impl_isTrip.f a0_1).bind fun t205=>(if t205=true then(some t203) else(some false))) else(some false)))=some r:=H
   have A27:=Aside0.mk A270
   clear A270
   replace H:=Option.bind_eq_some_iff.mp H
   obtain⟨t204,A280,H⟩:=H
   replace H:(if t204=true then((impl_isTrip.f a0_1).bind fun t205=>(if t205=true then(some t203) else(some false))) else(some false))=some r:=H
   have A28:=Aside0.mk A280
   clear A280
   by_cases c29:t204=true
   ·subst c29
    have H1:((impl_isTrip.f a0_1).bind fun t205=>(if t205=true then(some t203) else(some false)))=some r:=by rw[if_pos rfl] at H;exact H
    clear H
    have H:=H1
    clear H1
    replace H:=Option.bind_eq_some_iff.mp H
    obtain⟨t205,A300,H⟩:=H
    replace H:(if t205=true then(some t203) else(some false))=some r:=H
    have A30:=Aside0.mk A300
    clear A300
    by_cases c31:t205=true
    ·subst c31
     have H1:(some t203)=some r:=by rw[if_pos rfl] at H;exact H
     clear H
     have H:=H1
     clear H1
     obtain rfl:=Option.some.inj H
     go_enter Try.func82,Try.ntmps82
     go_wp2_with(first|((with_reducible refine qah (N:=1) rfl ?_);refine zX (N:=1) (cs:=#[.int .i64 a0_0,.int .i64 a0_1,.slice A0_2 l0_2.length c0_2]) (t:=62) ?_;intro gb196 hg w32 hbox hb;have BK196:=Aside0.mk hbox;have GW196:=zH (w:=w) hg (za1 HB);have GE196:=GW196;replace HB:=Aside0.mk (qab (za1 HB) hb);clear hb hbox hg;obtain⟨hcz33_0,hcz33_1,hcz33_2,hfz33_0,hfz33_1,hfz33_2⟩:=zC3 BK196)|((with_reducible refine qaf (f:=90) rfl ?_);refine zF (some 27) Try.func90 #[.slice A0_2 l0_2.length c0_2] ?_;(with_reducible refine(impl_wantedOk.calls _ _ l0_2 t203 _ ?side1 ?side2 A27.out).mono ?_);(case side1=>exact zR HR0_2 HB);(case side2=>exact HC0_2.out);rintro e w' ⟨rfl,⟨nd,rfl⟩⟩;refine⟨_,rfl,?_⟩)|((with_reducible refine qaf (f:=60) rfl ?_);refine zF (some 30) Try.func60 #[.int .i64 a0_0,.int .i64 1,.int .i64 7] ?_;(with_reducible refine(impl_in.calls a0_0 1 7 true _ A28.out).mono ?_);rintro e w' ⟨rfl,⟨nd,rfl⟩⟩;refine⟨_,rfl,?_⟩)|(go_at_call 113;(with_reducible refine(impl_isTrip.calls a0_1 true _ A30.out).mono ?_);rintro e w' ⟨rfl,⟨nd,rfl⟩⟩))
     go_ret
     exact⟨za9,za0 HB GE196⟩
    ·replace c31:=Bool.eq_false_iff.mpr c31
     subst c31
     have H1:(some false)=some r:=by rw[if_neg (show ¬(false=true) by decide)] at H;exact H
     clear H
     have H:=H1
     clear H1
     obtain rfl:=Option.some.inj H
     go_enter Try.func82,Try.ntmps82
     go_wp2_with(first|((with_reducible refine qah (N:=1) rfl ?_);refine zX (N:=1) (cs:=#[.int .i64 a0_0,.int .i64 a0_1,.slice A0_2 l0_2.length c0_2]) (t:=62) ?_;intro gb196 hg w34 hbox hb;have BK196:=Aside0.mk hbox;have GW196:=zH (w:=w) hg (za1 HB);have GE196:=GW196;replace HB:=Aside0.mk (qab (za1 HB) hb);clear hb hbox hg;obtain⟨hcz35_0,hcz35_1,hcz35_2,hfz35_0,hfz35_1,hfz35_2⟩:=zC3 BK196)|((with_reducible refine qaf (f:=90) rfl ?_);refine zF (some 27) Try.func90 #[.slice A0_2 l0_2.length c0_2] ?_;(with_reducible refine(impl_wantedOk.calls _ _ l0_2 t203 _ ?side1 ?side2 A27.out).mono ?_);(case side1=>exact zR HR0_2 HB);(case side2=>exact HC0_2.out);rintro e w' ⟨rfl,⟨nd,rfl⟩⟩;refine⟨_,rfl,?_⟩)|((with_reducible refine qaf (f:=60) rfl ?_);refine zF (some 30) Try.func60 #[.int .i64 a0_0,.int .i64 1,.int .i64 7] ?_;(with_reducible refine(impl_in.calls a0_0 1 7 true _ A28.out).mono ?_);rintro e w' ⟨rfl,⟨nd,rfl⟩⟩;refine⟨_,rfl,?_⟩)|(go_at_call 113;(with_reducible refine(impl_isTrip.calls a0_1 false _ A30.out).mono ?_);rintro e w' ⟨rfl,⟨nd,rfl⟩⟩))
     go_ret
     exact⟨za9,za0 HB GE196⟩
   ·replace c29:=Bool.eq_false_iff.mpr c29
    subst c29
    have H1:(some false)=some r:=by rw[if_neg (show ¬(false=true) by decide)] at H;exact H
    clear H
    have H:=H1
    clear H1
    obtain rfl:=Option.some.inj H
    go_enter Try.func82,Try.ntmps82
    go_wp2_with(first|((with_reducible refine qah (N:=1) rfl ?_);refine zX (N:=1) (cs:=#[.int .i64 a0_0,.int .i64 a0_1,.slice A0_2 l0_2.length c0_2]) (t:=62) ?_;intro gb196 hg w36 hbox hb;have BK196:=Aside0.mk hbox;have GW196:=zH (w:=w) hg (za1 HB);have GE196:=GW196;replace HB:=Aside0.mk (qab (za1 HB) hb);clear hb hbox hg;obtain⟨hcz37_0,hcz37_1,hcz37_2,hfz37_0,hfz37_1,hfz37_2⟩:=zC3 BK196)|((with_reducible refine qaf (f:=90) rfl ?_);refine zF (some 27) Try.func90 #[.slice A0_2 l0_2.length c0_2] ?_;(with_reducible refine(impl_wantedOk.calls _ _ l0_2 t203 _ ?side1 ?side2 A27.out).mono ?_);(case side1=>exact zR HR0_2 HB);(case side2=>exact HC0_2.out);rintro e w' ⟨rfl,⟨nd,rfl⟩⟩;refine⟨_,rfl,?_⟩)|((with_reducible refine qaf (f:=60) rfl ?_);refine zF (some 30) Try.func60 #[.int .i64 a0_0,.int .i64 1,.int .i64 7] ?_;(with_reducible refine(impl_in.calls a0_0 1 7 false _ A28.out).mono ?_);rintro e w' ⟨rfl,⟨nd,rfl⟩⟩;refine⟨_,rfl,?_⟩))
    go_ret
    exact⟨za9,za0 HB GE196⟩
  ·rw[if_neg c26] at H
   have c26b0:(a0_0 == 4)=false:=beq_eq_false_iff_ne.mpr c26
   have c26b1:(a0_0 != 4)=true:=bne_iff_ne.mpr c26
   replace H:=Option.bind_eq_some_iff.mp H
   obtain⟨t206,A380,H⟩:=H
   replace H:(if t206=true then((impl_isTrip.f a0_1).bind fun t207=>(if t207=true then(some ((l0_2.length:Int) == 0)) else(some false))) else(some false))=some r:=H
   have A38:=Aside0.mk A380
   clear A380
   by_cases c39:t206=true
   ·subst c39
    have H1:((impl_isTrip.f a0_1).bind fun t207=>(if t207=true then(some ((l0_2.length:Int) == 0)) else(some false)))=some r:=by rw[if_pos rfl] at H;exact H
    clear H
    have H:=H1
    clear H1
    replace H:=Option.bind_eq_some_iff.mp H
    obtain⟨t207,A400,H⟩:=H
    replace H:(if t207=true then(some ((l0_2.length:Int) == 0)) else(some false))=some r:=H
    have A40:=Aside0.mk A400
    clear A400
    by_cases c41:t207=true
    ·subst c41
     have H1:(some ((l0_2.length:Int) == 0))=some r:=by rw[if_pos rfl] at H;exact H
     clear H
     have H:=H1
     clear H1
     obtain rfl:=Option.some.inj H
     go_enter Try.func82,Try.ntmps82
     go_wp2_with(first|((with_reducible refine qah (N:=1) rfl ?_);refine zX (N:=1) (cs:=#[.int .i64 a0_0,.int .i64 a0_1,.slice A0_2 l0_2.length c0_2]) (t:=62) ?_;intro gb196 hg w42 hbox hb;have BK196:=Aside0.mk hbox;have GW196:=zH (w:=w) hg (za1 HB);have GE196:=GW196;replace HB:=Aside0.mk (qab (za1 HB) hb);clear hb hbox hg;obtain⟨hcz43_0,hcz43_1,hcz43_2,hfz43_0,hfz43_1,hfz43_2⟩:=zC3 BK196)|((with_reducible refine qaf (f:=60) rfl ?_);refine zF (some 30) Try.func60 #[.int .i64 a0_0,.int .i64 1,.int .i64 7] ?_;(with_reducible refine(impl_in.calls a0_0 1 7 true _ A38.out).mono ?_);rintro e w' ⟨rfl,⟨nd,rfl⟩⟩;refine⟨_,rfl,?_⟩)|(go_at_call 113;(with_reducible refine(impl_isTrip.calls a0_1 true _ A40.out).mono ?_);rintro e w' ⟨rfl,⟨nd,rfl⟩⟩))
     go_ret
     exact⟨za9,za0 HB GE196⟩
    ·replace c41:=Bool.eq_false_iff.mpr c41
     subst c41
     have H1:(some false)=some r:=by rw[if_neg (show ¬(false=true) by decide)] at H;exact H
     clear H
     have H:=H1
     clear H1
     obtain rfl:=Option.some.inj H
     go_enter Try.func82,Try.ntmps82
     go_wp2_with(first|((with_reducible refine qah (N:=1) rfl ?_);refine zX (N:=1) (cs:=#[.int .i64 a0_0,.int .i64 a0_1,.slice A0_2 l0_2.length c0_2]) (t:=62) ?_;intro gb196 hg w44 hbox hb;have BK196:=Aside0.mk hbox;have GW196:=zH (w:=w) hg (za1 HB);have GE196:=GW196;replace HB:=Aside0.mk (qab (za1 HB) hb);clear hb hbox hg;obtain⟨hcz45_0,hcz45_1,hcz45_2,hfz45_0,hfz45_1,hfz45_2⟩:=zC3 BK196)|((with_reducible refine qaf (f:=60) rfl ?_);refine zF (some 30) Try.func60 #[.int .i64 a0_0,.int .i64 1,.int .i64 7] ?_;(with_reducible refine(impl_in.calls a0_0 1 7 true _ A38.out).mono ?_);rintro e w' ⟨rfl,⟨nd,rfl⟩⟩;refine⟨_,rfl,?_⟩)|(go_at_call 113;(with_reducible refine(impl_isTrip.calls a0_1 false _ A40.out).mono ?_);rintro e w' ⟨rfl,⟨nd,rfl⟩⟩))
     go_ret
     exact⟨za9,za0 HB GE196⟩
   ·replace c39:=Bool.eq_false_iff.mpr c39
    subst c39
    have H1:(some false)=some r:=by rw[if_neg (show ¬(false=true) by decide)] at H;exact H
    clear H
    have H:=H1
    clear H1
    obtain rfl:=Option.some.inj H
    go_enter Try.func82,Try.ntmps82
    go_wp2_with(first|((with_reducible refine qah (N:=1) rfl ?_);refine zX (N:=1) (cs:=#[.int .i64 a0_0,.int .i64 a0_1,.slice A0_2 l0_2.length c0_2]) (t:=62) ?_;intro gb196 hg w46 hbox hb;have BK196:=Aside0.mk hbox;have GW196:=zH (w:=w) hg (za1 HB);have GE196:=GW196;replace HB:=Aside0.mk (qab (za1 HB) hb);clear hb hbox hg;obtain⟨hcz47_0,hcz47_1,hcz47_2,hfz47_0,hfz47_1,hfz47_2⟩:=zC3 BK196)|((with_reducible refine qaf (f:=60) rfl ?_);refine zF (some 30) Try.func60 #[.int .i64 a0_0,.int .i64 1,.int .i64 7] ?_;(with_reducible refine(impl_in.calls a0_0 1 7 false _ A38.out).mono ?_);rintro e w' ⟨rfl,⟨nd,rfl⟩⟩;refine⟨_,rfl,?_⟩))
    go_ret
    exact⟨za9,za0 HB GE196⟩
end Go.Proofs.Ytjccnaklodbbfaa.Print
