-- Written by squeeze.py: not trusted, Lean checks it.
import Derived.Test.YtjccnaklodbbfaaZK
import Derived.Test.YtjccnaklodbbfaaZb0
namespace Go.Proofs.Ytjccnaklodbbfaa.Print
open Go.RowKit Go.Proofs.YtjccnaklodbbfaaW.PrintWords Go.Proofs.YtjccnaklodbbfaaW.PrintLast Go.Proofs.YtjccnaklodbbfaaW.PrintMore
attribute [local go_sem] max2_int min2_int max_two min_two max_three min_three max_four min_four
set_option linter.unusedVariables false
set_option linter.unusedSimpArgs false
def spec_l1Many.l0:Nat→List Int→Int→Int→Option (Bool)
 |0,_,_,_=>none
 |k+1,x0,x3,x4=>if x4<(x0.length:Int) then(if 0≤x4 then((spec_l6In.f (rd x0 x4) 0 3).bind fun t281=>(if t281=true then(spec_l1Many.l0 k x0 (wrap64 (x3+(rd x0 x4))) (wrap64 (x4+1))) else(some false))) else(none)) else(if(x0.length:Int)=3 then(some (decide (x3>0))) else(some false))
def spec_l1Many.f (k:Nat) (l0:List Int):Option (Bool):=spec_l1Many.l0 k l0 0 0
theorem spec_l1Many.mono_l:∀k,(∀y0 y1 y2,LeO (spec_l1Many.l0 k y0 y1 y2) (spec_l1Many.l0 (k+1) y0 y1 y2))
 |0=>fun _ _ _ r h=>by simp[spec_l1Many.l0] at h
 |k+1=>by
  have ih0:=spec_l1Many.mono_l k
  ·intro y0 y1 y2
   unfold spec_l1Many.l0
   repeat' first
   |(with_reducible exact ih0 _ _ _)
   |(with_reducible exact LeO.refl _)
   |(with_reducible exact LeO.none _)
   |(with_reducible refine LeO.ite ?_ ?_)
   |(with_reducible refine LeO.bind ?_ (fun _=>?_))
   |exact ih0 _ _ _
   |exact LeO.none _
   |refine LeO.ite ?_ ?_
   |refine LeO.bind ?_ (fun _=>?_)
theorem spec_l1Many.mono:∀a0 k,LeO (spec_l1Many.f k a0) (spec_l1Many.f (k+1) a0):=by
 intro a0 k
 have ih0:=spec_l1Many.mono_l k
 unfold spec_l1Many.f
 repeat' first
   |(with_reducible exact ih0 _ _ _)
   |(with_reducible exact LeO.refl _)
   |(with_reducible exact LeO.none _)
   |(with_reducible refine LeO.ite ?_ ?_)
   |(with_reducible refine LeO.bind ?_ (fun _=>?_))
   |exact ih0 _ _ _
   |exact LeO.none _
   |refine LeO.ite ?_ ?_
   |refine LeO.bind ?_ (fun _=>?_)
set_option maxHeartbeats 8000000 in
set_option maxRecDepth 100000 in
theorem spec_l1Many.calls (k:Nat) (A0:Option Addr) (c0:Nat) (l0:List Int) (r:Bool) (w:World) (hr0:Kd.C (Kd.int .i64) w A0 l0.length l0) (hc0:l0.length≤c0) (h:spec_l1Many.f k l0=some r) :
  Calls Try.prog 86 #[.slice A0 l0.length c0] w fun e w'=>e=.returned (.bool r)∧Drawn0 w w':=by
 have HR0:=Aside0.mk hr0
 have HC0:=Aside0.mk hc0
 clear hr0 hc0
 have H:(spec_l1Many.l0 k l0 0 0)=some r:=h
 clear h
 have H':=Aside0.mk H
 clear H
 go_enter Try.func86,Try.ntmps86
 go_wp2
 go_loopg [3,4] k (fun kq v3 v4 w'=>∃(x3_1:Int) (x4_1:Int),v3=.int .i64 x3_1∧v4=.int .i64 x4_1∧Aside0 (spec_l1Many.l0 kq l0 x3_1 x4_1=some r)∧Aside0 (kq≤k)∧Drawn0 w w')
 case atStart=>exact⟨(0),(0),(za17),(za17),H',⟨Nat.le_refl _⟩,za20⟩
 case round=>
  clear H'
  obtain⟨x3_1,x4_1,rfl,rfl,HA,HK1,⟨m1,rfl⟩⟩:=hrel
  cases gk with
  |zero=>exact absurd HA.out (by simp[spec_l1Many.l0])
  |succ k1=>
   have H:=HA.out
   clear HA
   simp only[spec_l1Many.l0] at H
   by_cases c2:x4_1<(l0.length:Int)
   ·rw[if_pos c2] at H
    have c2b0:decide (x4_1<(l0.length:Int))=true:=decide_eq_true c2
    clear c2
    by_cases c3:0≤x4_1
    ·rw[if_pos c3] at H
     have c3b0:decide (0≤x4_1)=true:=decide_eq_true c3
     clear c3
     replace H:=Option.bind_eq_some_iff.mp H
     obtain⟨t281,A40,H⟩:=H
     replace H:(if t281=true then(spec_l1Many.l0 k1 l0 (wrap64 (x3_1+(rd l0 x4_1))) (wrap64 (x4_1+1))) else(some false))=some r:=H
     have A4:=Aside0.mk A40
     clear A40
     by_cases c5:t281=true
     ·subst c5
      have H1:(spec_l1Many.l0 k1 l0 (wrap64 (x3_1+(rd l0 x4_1))) (wrap64 (x4_1+1)))=some r:=by rw[if_pos rfl] at H;exact H
      clear H
      have H:=H1
      clear H1
      have H':=Aside0.mk H
      clear H
      have p280:0≤(x4_1:Int):=of_decide_eq_true (za5)
      have q280:x4_1<(l0.length:Int):=of_decide_eq_true (za5)
      obtain⟨ad280,e280,hx280_0⟩:=Kd.at_int HR0.out x4_1 p280 q280
      cases e280
      replace p280:=eq_true p280
      replace q280:=eq_true q280
      go_wp2_with(first|((with_reducible refine qaf (f:=58) rfl ?_);refine zF (some 15) Try.func58 #[.int .i64 (rd l0 x4_1),.int .i64 0,.int .i64 3] ?_;(with_reducible refine(spec_l6In.calls (rd l0 x4_1) 0 3 true _ A4.out).mono ?_);rintro e w' ⟨rfl,⟨nd,rfl⟩⟩;refine⟨_,rfl,?_⟩;have p282:0≤(x4_1:Int):=of_decide_eq_true (za5);have q282:x4_1<(l0.length:Int):=of_decide_eq_true (za5);obtain⟨ad282,e282,hx282_0⟩:=Kd.at_int HR0.out x4_1 p282 q282;obtain rfl:ad280=ad282:=(by injection e282);replace p282:=eq_true p282;replace q282:=eq_true q282))
      go_roundg k1
      case measure=>have:=HK1.out;omega
      case rel=>exact⟨(wrap64 (x3_1+(rd l0 x4_1))),(wrap64 (x4_1+1)),(za17),(za17),H',⟨by have:=HK1.out;omega⟩,za20⟩
     ·replace c5:=Bool.eq_false_iff.mpr c5
      subst c5
      have H1:(some false)=some r:=by rw[if_neg (show ¬(false=true) by decide)] at H;exact H
      clear H
      have H:=H1
      clear H1
      obtain rfl:=Option.some.inj H
      have p280:0≤(x4_1:Int):=of_decide_eq_true (za5)
      have q280:x4_1<(l0.length:Int):=of_decide_eq_true (za5)
      obtain⟨ad280,e280,hx280_0⟩:=Kd.at_int HR0.out x4_1 p280 q280
      cases e280
      replace p280:=eq_true p280
      replace q280:=eq_true q280
      go_wp2_with(first|((with_reducible refine qaf (f:=58) rfl ?_);refine zF (some 15) Try.func58 #[.int .i64 (rd l0 x4_1),.int .i64 0,.int .i64 3] ?_;(with_reducible refine(spec_l6In.calls (rd l0 x4_1) 0 3 false _ A4.out).mono ?_);rintro e w' ⟨rfl,⟨nd,rfl⟩⟩;refine⟨_,rfl,?_⟩))
      go_ret
      exact⟨za17,za20⟩
    ·rw[if_neg c3] at H
     exact absurd H (by simp)
   ·rw[if_neg c2] at H
    have c2b0:decide (x4_1<(l0.length:Int))=false:=decide_eq_false c2
    clear c2
    by_cases c6:(l0.length:Int)=3
    ·rw[if_pos c6] at H
     have c6b0:((l0.length:Int) == 3)=true:=beq_iff_eq.mpr c6
     have c6b1:((l0.length:Int) != 3)=false:=bne_eq_false_iff_eq.mpr c6
     clear c6
     obtain rfl:=Option.some.inj H
     go_wp2
     go_ret
     exact⟨za17,za20⟩
    ·rw[if_neg c6] at H
     have c6b0:((l0.length:Int) == 3)=false:=beq_eq_false_iff_ne.mpr c6
     have c6b1:((l0.length:Int) != 3)=true:=bne_iff_ne.mpr c6
     obtain rfl:=Option.some.inj H
     go_wp2
     go_ret
     exact⟨za17,za20⟩
def spec_RecOk.f (k:Nat) (a0_0:Int) (a0_1:Int) (l0_2:List Int):Option (Bool):=(spec_l6In.f a0_1 1 6).bind fun t284=>(if t284=true then(if a0_0=1 then(if(l0_2.length:Int)=1 then(if 0<(l0_2.length:Int) then((spec_l6In.f (rd l0_2 0) 1 3).bind fun t286=>(some t286)) else(none)) else(some false)) else(if a0_0=4 then((spec_l1Many.f k l0_2).bind fun t287=>(some t287)) else((spec_l6In.f a0_0 2 7).bind fun t288=>(if t288=true then(some ((l0_2.length:Int) == 0)) else(some false))))) else(some false))
theorem spec_RecOk.mono:∀a0 a1 a2 k,LeO (spec_RecOk.f k a0 a1 a2) (spec_RecOk.f (k+1) a0 a1 a2):=by
 intro a0 a1 a2 k
 unfold spec_RecOk.f
 repeat' first
   |(with_reducible exact spec_l1Many.mono _ _)
   |(with_reducible exact LeO.refl _)
   |(with_reducible exact LeO.none _)
   |(with_reducible refine LeO.ite ?_ ?_)
   |(with_reducible refine LeO.bind ?_ (fun _=>?_))
   |exact spec_l1Many.mono _ _
   |exact LeO.none _
   |refine LeO.ite ?_ ?_
   |refine LeO.bind ?_ (fun _=>?_)
set_option maxHeartbeats 8000000 in
set_option maxRecDepth 100000 in
theorem spec_RecOk.calls (k:Nat) (a0_0:Int) (a0_1:Int) (A0_2:Option Addr) (c0_2:Nat) (l0_2:List Int) (r:Bool) (w:World) (hr0_2:Kd.C (Kd.int .i64) w A0_2 l0_2.length l0_2) (hc0_2:l0_2.length≤c0_2) (h:spec_RecOk.f k a0_0 a0_1 l0_2=some r) :
  Calls Try.prog 44 #[.agg #[.int .i64 a0_0,.int .i64 a0_1,.slice A0_2 l0_2.length c0_2]] w fun e w'=>e=.returned (.bool r)∧Below w.heap.size w w':=by
 have hu62:=Try.underlying62
 have HR0_2:=Aside0.mk hr0_2
 have HC0_2:=Aside0.mk hc0_2
 clear hr0_2 hc0_2
 have HB:=Aside0.mk (Below.refl w.heap.size w)
 have H:((spec_l6In.f a0_1 1 6).bind fun t284=>(if t284=true then(if a0_0=1 then(if(l0_2.length:Int)=1 then(if 0<(l0_2.length:Int) then((spec_l6In.f (rd l0_2 0) 1 3).bind fun t286=>(some t286)) else(none)) else(some false)) else(if a0_0=4 then((spec_l1Many.f k l0_2).bind fun t287=>(some t287)) else((spec_l6In.f a0_0 2 7).bind fun t288=>(if t288=true then(some ((l0_2.length:Int) == 0)) else(some false))))) else(some false)))=some r:=h
 clear h
 replace H:=Option.bind_eq_some_iff.mp H
 obtain⟨t284,A20,H⟩:=H
 replace H:(if t284=true then(if a0_0=1 then(if(l0_2.length:Int)=1 then(if 0<(l0_2.length:Int) then((spec_l6In.f (rd l0_2 0) 1 3).bind fun t286=>(some t286)) else(none)) else(some false)) else(if a0_0=4 then((spec_l1Many.f k l0_2).bind fun t287=>(some t287)) else((spec_l6In.f a0_0 2 7).bind fun t288=>(if t288=true then(some ((l0_2.length:Int) == 0)) else(some false))))) else(some false))=some r:=H
 have A2:=Aside0.mk A20
 clear A20
 by_cases c3:t284=true
 ·subst c3
  have H1:(if a0_0=1 then(if(l0_2.length:Int)=1 then(if 0<(l0_2.length:Int) then((spec_l6In.f (rd l0_2 0) 1 3).bind fun t286=>(some t286)) else(none)) else(some false)) else(if a0_0=4 then((spec_l1Many.f k l0_2).bind fun t287=>(some t287)) else((spec_l6In.f a0_0 2 7).bind fun t288=>(if t288=true then(some ((l0_2.length:Int) == 0)) else(some false)))))=some r:=by rw[if_pos rfl] at H;exact H
  clear H
  have H:=H1
  clear H1
  by_cases c4:a0_0=1
  ·rw[if_pos c4] at H
   have c4b0:(a0_0 == 1)=true:=beq_iff_eq.mpr c4
   have c4b1:(a0_0 != 1)=false:=bne_eq_false_iff_eq.mpr c4
   clear c4
   by_cases c5:(l0_2.length:Int)=1
   ·rw[if_pos c5] at H
    have c5b0:((l0_2.length:Int) == 1)=true:=beq_iff_eq.mpr c5
    have c5b1:((l0_2.length:Int) != 1)=false:=bne_eq_false_iff_eq.mpr c5
    clear c5
    by_cases c6:0<(l0_2.length:Int)
    ·rw[if_pos c6] at H
     have c6b0:decide (0<(l0_2.length:Int))=true:=decide_eq_true c6
     have c6b1:decide (0<l0_2.length)=true:=decide_eq_true (by omega)
     clear c6
     replace H:=Option.bind_eq_some_iff.mp H
     obtain⟨t286,A70,H⟩:=H
     replace H:(some t286)=some r:=H
     have A7:=Aside0.mk A70
     clear A70
     obtain rfl:=Option.some.inj H
     go_enter Try.func44,Try.ntmps44
     go_wp2_with(first|((with_reducible refine qah (N:=1) rfl ?_);(try(refine qaq (by rfl) ?_;dsimp only));refine zX (N:=1) (cs:=#[.int .i64 a0_0,.int .i64 a0_1,.slice A0_2 l0_2.length c0_2]) (t:=62) ?_;intro gb283 hg w8 hbox hb;have BK283:=Aside0.mk hbox;have GW283:=zH (w:=w) hg (za1 HB);have GE283:=GW283;replace HB:=Aside0.mk (qab (za1 HB) hb);clear hb hbox hg;obtain⟨hcz9_0,hcz9_1,hcz9_2,hfz9_0,hfz9_1,hfz9_2⟩:=zC3 BK283)|((with_reducible refine qaf (f:=58) rfl ?_);refine zF (some 5) Try.func58 #[.int .i64 a0_1,.int .i64 1,.int .i64 6] ?_;(with_reducible refine(spec_l6In.calls a0_1 1 6 true _ A2.out).mono ?_);rintro e w' ⟨rfl,⟨nd,rfl⟩⟩;refine⟨_,rfl,?_⟩;have p285:0≤(0:Int):=(by omega);have q285:0<(l0_2.length:Int):=of_decide_eq_true (za5);obtain⟨ad285,e285,hx285_0⟩:=Kd.at_int HR0_2.out 0 p285 q285;cases e285;have qi285:(0<l0_2.length)=True:=eq_true (by omega);(try rw[show((0:Int)).toNat=0 from rfl] at hx285_0);(try rw[Addr.add_zero'] at hx285_0);replace hx285_0:=(HB.out.cell (World.block_lt_of_cell? w _ hx285_0)).trans hx285_0;replace p285:=eq_true p285;replace q285:=eq_true q285)|(go_at_call 58;(with_reducible refine(spec_l6In.calls (rd l0_2 0) 1 3 t286 _ A7.out).mono ?_);rintro e w' ⟨rfl,⟨nd,rfl⟩⟩))
     go_ret
     exact⟨za9,za0 HB GE283⟩
    ·rw[if_neg c6] at H
     exact absurd H (by simp)
   ·rw[if_neg c5] at H
    have c5b0:((l0_2.length:Int) == 1)=false:=beq_eq_false_iff_ne.mpr c5
    have c5b1:((l0_2.length:Int) != 1)=true:=bne_iff_ne.mpr c5
    obtain rfl:=Option.some.inj H
    go_enter Try.func44,Try.ntmps44
    go_wp2_with(first|((with_reducible refine qah (N:=1) rfl ?_);(try(refine qaq (by rfl) ?_;dsimp only));refine zX (N:=1) (cs:=#[.int .i64 a0_0,.int .i64 a0_1,.slice A0_2 l0_2.length c0_2]) (t:=62) ?_;intro gb283 hg w10 hbox hb;have BK283:=Aside0.mk hbox;have GW283:=zH (w:=w) hg (za1 HB);have GE283:=GW283;replace HB:=Aside0.mk (qab (za1 HB) hb);clear hb hbox hg;obtain⟨hcz11_0,hcz11_1,hcz11_2,hfz11_0,hfz11_1,hfz11_2⟩:=zC3 BK283)|((with_reducible refine qaf (f:=58) rfl ?_);refine zF (some 5) Try.func58 #[.int .i64 a0_1,.int .i64 1,.int .i64 6] ?_;(with_reducible refine(spec_l6In.calls a0_1 1 6 true _ A2.out).mono ?_);rintro e w' ⟨rfl,⟨nd,rfl⟩⟩;refine⟨_,rfl,?_⟩))
    go_ret
    exact⟨za9,za0 HB GE283⟩
  ·rw[if_neg c4] at H
   have c4b0:(a0_0 == 1)=false:=beq_eq_false_iff_ne.mpr c4
   have c4b1:(a0_0 != 1)=true:=bne_iff_ne.mpr c4
   by_cases c12:a0_0=4
   ·rw[if_pos c12] at H
    have c12b0:(a0_0 == 4)=true:=beq_iff_eq.mpr c12
    have c12b1:(a0_0 != 4)=false:=bne_eq_false_iff_eq.mpr c12
    clear c12
    replace H:=Option.bind_eq_some_iff.mp H
    obtain⟨t287,A130,H⟩:=H
    replace H:(some t287)=some r:=H
    have A13:=Aside0.mk A130
    clear A130
    obtain rfl:=Option.some.inj H
    go_enter Try.func44,Try.ntmps44
    go_wp2_with(first|((with_reducible refine qah (N:=1) rfl ?_);(try(refine qaq (by rfl) ?_;dsimp only));refine zX (N:=1) (cs:=#[.int .i64 a0_0,.int .i64 a0_1,.slice A0_2 l0_2.length c0_2]) (t:=62) ?_;intro gb283 hg w14 hbox hb;have BK283:=Aside0.mk hbox;have GW283:=zH (w:=w) hg (za1 HB);have GE283:=GW283;replace HB:=Aside0.mk (qab (za1 HB) hb);clear hb hbox hg;obtain⟨hcz15_0,hcz15_1,hcz15_2,hfz15_0,hfz15_1,hfz15_2⟩:=zC3 BK283)|((with_reducible refine qaf (f:=58) rfl ?_);refine zF (some 5) Try.func58 #[.int .i64 a0_1,.int .i64 1,.int .i64 6] ?_;(with_reducible refine(spec_l6In.calls a0_1 1 6 true _ A2.out).mono ?_);rintro e w' ⟨rfl,⟨nd,rfl⟩⟩;refine⟨_,rfl,?_⟩)|((with_reducible refine qaf (f:=86) rfl ?_);refine zF (some 26) Try.func86 #[.slice A0_2 l0_2.length c0_2] ?_;(with_reducible refine(spec_l1Many.calls k _ _ l0_2 t287 _ ?side1 ?side2 A13.out).mono ?_);(case side1=>repeat(first|exact(Kd.C_below HR0_2.out (za0 HB GE283))|(with_reducible refine Kd.C_alloc ?_ _)|(with_reducible refine Kd.C_drewN ?_ _)|(with_reducible refine Kd.C_drew ?_)));(case side2=>exact HC0_2.out);rintro e w' ⟨rfl,⟨nd,rfl⟩⟩;refine⟨_,rfl,?_⟩))
    go_ret
    exact⟨za9,za0 HB GE283⟩
   ·rw[if_neg c12] at H
    have c12b0:(a0_0 == 4)=false:=beq_eq_false_iff_ne.mpr c12
    have c12b1:(a0_0 != 4)=true:=bne_iff_ne.mpr c12
    replace H:=Option.bind_eq_some_iff.mp H
    obtain⟨t288,A160,H⟩:=H
    replace H:(if t288=true then(some ((l0_2.length:Int) == 0)) else(some false))=some r:=H
    have A16:=Aside0.mk A160
    clear A160
    by_cases c17:t288=true
    ·subst c17
     have H1:(some ((l0_2.length:Int) == 0))=some r:=by rw[if_pos rfl] at H;exact H
     clear H
     have H:=H1
     clear H1
     obtain rfl:=Option.some.inj H
     go_enter Try.func44,Try.ntmps44
     go_wp2_with(first|((with_reducible refine qah (N:=1) rfl ?_);(try(refine qaq (by rfl) ?_;dsimp only));refine zX (N:=1) (cs:=#[.int .i64 a0_0,.int .i64 a0_1,.slice A0_2 l0_2.length c0_2]) (t:=62) ?_;intro gb283 hg w18 hbox hb;have BK283:=Aside0.mk hbox;have GW283:=zH (w:=w) hg (za1 HB);have GE283:=GW283;replace HB:=Aside0.mk (qab (za1 HB) hb);clear hb hbox hg;obtain⟨hcz19_0,hcz19_1,hcz19_2,hfz19_0,hfz19_1,hfz19_2⟩:=zC3 BK283)|((with_reducible refine qaf (f:=58) rfl ?_);refine zF (some 5) Try.func58 #[.int .i64 a0_1,.int .i64 1,.int .i64 6] ?_;(with_reducible refine(spec_l6In.calls a0_1 1 6 true _ A2.out).mono ?_);rintro e w' ⟨rfl,⟨nd,rfl⟩⟩;refine⟨_,rfl,?_⟩)|((with_reducible refine qaf (f:=58) rfl ?_);refine zF (some 29) Try.func58 #[.int .i64 a0_0,.int .i64 2,.int .i64 7] ?_;(with_reducible refine(spec_l6In.calls a0_0 2 7 true _ A16.out).mono ?_);rintro e w' ⟨rfl,⟨nd,rfl⟩⟩;refine⟨_,rfl,?_⟩))
     go_ret
     exact⟨za9,za0 HB GE283⟩
    ·replace c17:=Bool.eq_false_iff.mpr c17
     subst c17
     have H1:(some false)=some r:=by rw[if_neg (show ¬(false=true) by decide)] at H;exact H
     clear H
     have H:=H1
     clear H1
     obtain rfl:=Option.some.inj H
     go_enter Try.func44,Try.ntmps44
     go_wp2_with(first|((with_reducible refine qah (N:=1) rfl ?_);(try(refine qaq (by rfl) ?_;dsimp only));refine zX (N:=1) (cs:=#[.int .i64 a0_0,.int .i64 a0_1,.slice A0_2 l0_2.length c0_2]) (t:=62) ?_;intro gb283 hg w20 hbox hb;have BK283:=Aside0.mk hbox;have GW283:=zH (w:=w) hg (za1 HB);have GE283:=GW283;replace HB:=Aside0.mk (qab (za1 HB) hb);clear hb hbox hg;obtain⟨hcz21_0,hcz21_1,hcz21_2,hfz21_0,hfz21_1,hfz21_2⟩:=zC3 BK283)|((with_reducible refine qaf (f:=58) rfl ?_);refine zF (some 5) Try.func58 #[.int .i64 a0_1,.int .i64 1,.int .i64 6] ?_;(with_reducible refine(spec_l6In.calls a0_1 1 6 true _ A2.out).mono ?_);rintro e w' ⟨rfl,⟨nd,rfl⟩⟩;refine⟨_,rfl,?_⟩)|((with_reducible refine qaf (f:=58) rfl ?_);refine zF (some 29) Try.func58 #[.int .i64 a0_0,.int .i64 2,.int .i64 7] ?_;(with_reducible refine(spec_l6In.calls a0_0 2 7 false _ A16.out).mono ?_);rintro e w' ⟨rfl,⟨nd,rfl⟩⟩;refine⟨_,rfl,?_⟩))
     go_ret
     exact⟨za9,za0 HB GE283⟩
 ·replace c3:=Bool.eq_false_iff.mpr c3
  subst c3
  have H1:(some false)=some r:=by rw[if_neg (show ¬(false=true) by decide)] at H;exact H
  clear H
  have H:=H1
  clear H1
  obtain rfl:=Option.some.inj H
  go_enter Try.func44,Try.ntmps44
  go_wp2_with(first|((with_reducible refine qah (N:=1) rfl ?_);(try(refine qaq (by rfl) ?_;dsimp only));refine zX (N:=1) (cs:=#[.int .i64 a0_0,.int .i64 a0_1,.slice A0_2 l0_2.length c0_2]) (t:=62) ?_;intro gb283 hg w22 hbox hb;have BK283:=Aside0.mk hbox;have GW283:=zH (w:=w) hg (za1 HB);have GE283:=GW283;replace HB:=Aside0.mk (qab (za1 HB) hb);clear hb hbox hg;obtain⟨hcz23_0,hcz23_1,hcz23_2,hfz23_0,hfz23_1,hfz23_2⟩:=zC3 BK283)|((with_reducible refine qaf (f:=58) rfl ?_);refine zF (some 5) Try.func58 #[.int .i64 a0_1,.int .i64 1,.int .i64 6] ?_;(with_reducible refine(spec_l6In.calls a0_1 1 6 false _ A2.out).mono ?_);rintro e w' ⟨rfl,⟨nd,rfl⟩⟩;refine⟨_,rfl,?_⟩))
  go_ret
  exact⟨za9,za0 HB GE283⟩
end Go.Proofs.Ytjccnaklodbbfaa.Print
