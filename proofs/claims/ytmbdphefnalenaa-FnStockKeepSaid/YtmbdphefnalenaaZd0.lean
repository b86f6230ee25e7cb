-- Written by squeeze.py: not trusted, Lean checks it.
import Derived.Test.YtmbdphefnalenaaZK
namespace Go.Proofs.Ytmbdphefnalenaa.Print
open Go.RowKit Go.Proofs.YtmbdphefnalenaaW.PrintWords Go.Proofs.YtmbdphefnalenaaW.PrintLast Go.Proofs.YtmbdphefnalenaaW.PrintMore
attribute [local go_sem] max2_int min2_int max_two min_two max_three min_three max_four min_four
set_option linter.unusedVariables false
set_option linter.unusedSimpArgs false
def spec_l6In.f (a0:Int) (a1:Int) (a2:Int):Option (Bool):=if a0≥a1 then(some (decide (a0≤a2))) else(some false)
set_option maxHeartbeats 8000000 in
set_option maxRecDepth 100000 in
theorem spec_l6In.calls (a0:Int) (a1:Int) (a2:Int) (r:Bool) (w:World) (h:spec_l6In.f a0 a1 a2=some r) :
  Calls Try.prog 80 #[.int .i64 a0,.int .i64 a1,.int .i64 a2] w fun e w'=>e=.returned (.bool r)∧Drawn0 w w':=by
 have H:(if a0≥a1 then(some (decide (a0≤a2))) else(some false))=some r:=h;clear h;by_cases c4:a0≥a1
 ·rw[if_pos c4] at H;have c4b0:decide (a1≤a0)=true:=decide_eq_true c4;clear c4;obtain rfl:=Option.some.inj H;go_enter Try.func80,Try.ntmps80;go_wp2;go_ret;exact⟨za38,za62⟩
 ·rw[if_neg c4] at H;have c4b0:decide (a1≤a0)=false:=decide_eq_false c4;clear c4;obtain rfl:=Option.some.inj H;go_enter Try.func80,Try.ntmps80;go_wp2;go_ret;exact⟨za38,za62⟩
def spec_l1Many.l0:Nat→List Int→Int→Int→Option (Bool)
 |0,_,_,_=>none
 |k+1,x0,x3,x4=>if x4<(x0.length:Int) then(if 0≤x4 then((spec_l6In.f (rd x0 x4) 0 3).bind fun t122=>(if t122=true then(spec_l1Many.l0 k x0 (wrap64 (x3+(rd x0 x4))) (wrap64 (x4+1))) else(some false))) else(none)) else(if(x0.length:Int)=3 then(some (decide (x3>0))) else(some false))
def spec_l1Many.f (k:Nat) (l0:List Int):Option (Bool):=spec_l1Many.l0 k l0 0 0
theorem spec_l1Many.mono_l:∀k,(∀y0 y1 y2,LeO (spec_l1Many.l0 k y0 y1 y2) (spec_l1Many.l0 (k+1) y0 y1 y2))
 |0=>fun _ _ _ r h=>by simp[spec_l1Many.l0] at h
 |k+1=>by
  have ih0:=spec_l1Many.mono_l k
  ·intro y0 y1 y2;unfold spec_l1Many.l0
   repeat' first|(with_reducible exact ih0 _ _ _)|(with_reducible exact LeO.refl _)|(with_reducible exact LeO.none _)|(with_reducible refine LeO.ite ?_ ?_)|(with_reducible refine LeO.bind ?_ (fun _=>?_))|exact ih0 _ _ _|exact LeO.none _|refine LeO.ite ?_ ?_|refine LeO.bind ?_ (fun _=>?_)
theorem spec_l1Many.mono:∀a0 k,LeO (spec_l1Many.f k a0) (spec_l1Many.f (k+1) a0):=by
 intro a0 k;have ih0:=spec_l1Many.mono_l k;unfold spec_l1Many.f
 repeat' first|(with_reducible exact ih0 _ _ _)|(with_reducible exact LeO.refl _)|(with_reducible exact LeO.none _)|(with_reducible refine LeO.ite ?_ ?_)|(with_reducible refine LeO.bind ?_ (fun _=>?_))|exact ih0 _ _ _|exact LeO.none _|refine LeO.ite ?_ ?_|refine LeO.bind ?_ (fun _=>?_)
set_option maxHeartbeats 8000000 in
set_option maxRecDepth 100000 in
theorem spec_l1Many.calls (k:Nat) (A0:Option Addr) (c0:Nat) (l0:List Int) (r:Bool) (w:World) (hr0:Kd.C (Kd.int .i64) w A0 l0.length l0) (hc0:l0.length≤c0) (h:spec_l1Many.f k l0=some r) :
  Calls Try.prog 102 #[.slice A0 l0.length c0] w fun e w'=>e=.returned (.bool r)∧Drawn0 w w':=by
 have HR0:=qaf.mk hr0;have HC0:=qaf.mk hc0;clear hr0 hc0;have H:(spec_l1Many.l0 k l0 0 0)=some r:=h;clear h;have H':=qaf.mk H;clear H;go_enter Try.func102,Try.ntmps102;go_wp2
 go_loopg [3,4] k (fun kq v3 v4 w'=>∃(x3_1:Int) (x4_1:Int),v3=.int .i64 x3_1∧v4=.int .i64 x4_1∧qaf (spec_l1Many.l0 kq l0 x3_1 x4_1=some r)∧qaf (kq≤k)∧Drawn0 w w')
 case atStart=>exact⟨(0),(0),(za38),(za38),H',⟨Nat.le_refl _⟩,za62⟩
 case round=>
  clear H'
  try clear c1
  obtain⟨x3_1,x4_1,rfl,rfl,HA,HK1,⟨m1,rfl⟩⟩:=hrel
  cases gk with
  |zero=>exact absurd HA.out (by simp[spec_l1Many.l0])
  |succ k1=>
   have H:=HA.out;clear HA;simp only[spec_l1Many.l0] at H;by_cases c2:x4_1<(l0.length:Int)
   ·rw[if_pos c2] at H;have c2b0:decide (x4_1<(l0.length:Int))=true:=decide_eq_true c2;clear c2;by_cases c3:0≤x4_1
    ·rw[if_pos c3] at H;have c3b0:decide (0≤x4_1)=true:=decide_eq_true c3;clear c3;replace H:=Option.bind_eq_some_iff.mp H;obtain⟨t122,A40,H⟩:=H;replace H:(if t122=true then(spec_l1Many.l0 k1 l0 (wrap64 (x3_1+(rd l0 x4_1))) (wrap64 (x4_1+1))) else(some false))=some r:=H;have A4:=qaf.mk A40;clear A40;by_cases c5:t122=true
     ·subst c5
      have H1:(spec_l1Many.l0 k1 l0 (wrap64 (x3_1+(rd l0 x4_1))) (wrap64 (x4_1+1)))=some r:=by rw[if_pos rfl] at H;exact H
      clear H;have H:=H1;clear H1;have H':=qaf.mk H;clear H;have p121:0≤(x4_1:Int):=of_decide_eq_true (za10);have q121:x4_1<(l0.length:Int):=of_decide_eq_true (za10);obtain⟨ad121,e121,hx121_0⟩:=Kd.at_int HR0.out x4_1 p121 q121
      cases e121
      replace p121:=eq_true p121;replace q121:=eq_true q121
      go_wp2_with(first|((with_reducible refine qag (f:=80) rfl ?_);refine zF (some 15) Try.func80 #[.int .i64 (rd l0 x4_1),.int .i64 0,.int .i64 3] ?_;(with_reducible refine(spec_l6In.calls (rd l0 x4_1) 0 3 true _ A4.out).mono ?_);rintro e w' ⟨rfl,⟨nd,rfl⟩⟩;refine⟨_,rfl,?_⟩;have p123:0≤(x4_1:Int):=of_decide_eq_true (za10);have q123:x4_1<(l0.length:Int):=of_decide_eq_true (za10);obtain⟨ad123,e123,hx123_0⟩:=Kd.at_int HR0.out x4_1 p123 q123;obtain rfl:ad121=ad123:=(by injection e123);replace p123:=eq_true p123;replace q123:=eq_true q123))
      go_roundg k1
      case measure=>have:=HK1.out;omega
      case rel=>exact⟨(wrap64 (x3_1+(rd l0 x4_1))),(wrap64 (x4_1+1)),(za38),(za38),H',⟨by have:=HK1.out;omega⟩,za62⟩
     ·replace c5:=Bool.eq_false_iff.mpr c5;subst c5
      have H1:(some false)=some r:=by rw[if_neg (show ¬(false=true) by decide)] at H;exact H
      clear H;have H:=H1;clear H1;obtain rfl:=Option.some.inj H;have p121:0≤(x4_1:Int):=of_decide_eq_true (za10);have q121:x4_1<(l0.length:Int):=of_decide_eq_true (za10);obtain⟨ad121,e121,hx121_0⟩:=Kd.at_int HR0.out x4_1 p121 q121
      cases e121
      replace p121:=eq_true p121;replace q121:=eq_true q121
      go_wp2_with(first|((with_reducible refine qag (f:=80) rfl ?_);refine zF (some 15) Try.func80 #[.int .i64 (rd l0 x4_1),.int .i64 0,.int .i64 3] ?_;(with_reducible refine(spec_l6In.calls (rd l0 x4_1) 0 3 false _ A4.out).mono ?_);rintro e w' ⟨rfl,⟨nd,rfl⟩⟩;refine⟨_,rfl,?_⟩))
      go_ret;exact⟨za38,za62⟩
    ·rw[if_neg c3] at H;exact absurd H (by simp)
   ·rw[if_neg c2] at H;have c2b0:decide (x4_1<(l0.length:Int))=false:=decide_eq_false c2;clear c2;by_cases c6:(l0.length:Int)=3
    ·rw[if_pos c6] at H;have c6b0:((l0.length:Int) == 3)=true:=beq_iff_eq.mpr c6;have c6b1:((l0.length:Int) != 3)=false:=bne_eq_false_iff_eq.mpr c6;clear c6;obtain rfl:=Option.some.inj H;go_wp2;go_ret;exact⟨za38,za62⟩
    ·rw[if_neg c6] at H;have c6b0:((l0.length:Int) == 3)=false:=beq_eq_false_iff_ne.mpr c6;have c6b1:((l0.length:Int) != 3)=true:=bne_iff_ne.mpr c6;obtain rfl:=Option.some.inj H;go_wp2;go_ret;exact⟨za38,za62⟩
def spec_RecOk.f (k:Nat) (a0_0:Int) (a0_1:Int) (l0_2:List Int):Option (Bool):=(spec_l6In.f a0_1 1 6).bind fun t125=>(if t125=true then(if a0_0=1 then(if(l0_2.length:Int)=1 then(if 0<(l0_2.length:Int) then((spec_l6In.f (rd l0_2 0) 1 3).bind fun t127=>(some t127)) else(none)) else(some false)) else(if a0_0=4 then((spec_l1Many.f k l0_2).bind fun t128=>(some t128)) else((spec_l6In.f a0_0 2 7).bind fun t129=>(if t129=true then(some ((l0_2.length:Int) == 0)) else(some false))))) else(some false))
theorem spec_RecOk.mono:∀a0 a1 a2 k,LeO (spec_RecOk.f k a0 a1 a2) (spec_RecOk.f (k+1) a0 a1 a2):=by
 intro a0 a1 a2 k;unfold spec_RecOk.f
 repeat' first|(with_reducible exact spec_l1Many.mono _ _)|(with_reducible exact LeO.refl _)|(with_reducible exact LeO.none _)|(with_reducible refine LeO.ite ?_ ?_)|(with_reducible refine LeO.bind ?_ (fun _=>?_))|exact spec_l1Many.mono _ _|exact LeO.none _|refine LeO.ite ?_ ?_|refine LeO.bind ?_ (fun _=>?_)
set_option maxHeartbeats 8000000 in
set_option maxRecDepth 100000 in
theorem spec_RecOk.calls (k:Nat) (a0_0:Int) (a0_1:Int) (A0_2:Option Addr) (c0_2:Nat) (l0_2:List Int) (r:Bool) (w:World) (hr0_2:Kd.C (Kd.int .i64) w A0_2 l0_2.length l0_2) (hc0_2:l0_2.length≤c0_2) (h:spec_RecOk.f k a0_0 a0_1 l0_2=some r) :
  Calls Try.prog 84 #[.agg #[.int .i64 a0_0,.int .i64 a0_1,.slice A0_2 l0_2.length c0_2]] w fun e w'=>e=.returned (.bool r)∧Below w.heap.size w w':=by
 have hu32:=Try.underlying32;have HR0_2:=qaf.mk hr0_2;have HC0_2:=qaf.mk hc0_2;clear hr0_2 hc0_2;have HB:=qaf.mk (Below.refl w.heap.size w);have H:((spec_l6In.f a0_1 1 6).bind fun t125=>(if t125=true then(if a0_0=1 then(if(l0_2.length:Int)=1 then(if 0<(l0_2.length:Int) then((spec_l6In.f (rd l0_2 0) 1 3).bind fun t127=>(some t127)) else(none)) else(some false)) else(if a0_0=4 then((spec_l1Many.f k l0_2).bind fun t128=>(some t128)) else((spec_l6In.f a0_0 2 7).bind fun t129=>(if t129=true then(some ((l0_2.length:Int) == 0)) else(some false))))) else(some false)))=some r:=h;clear h;replace H:=Option.bind_eq_some_iff.mp H;obtain⟨t125,A20,H⟩:=H;replace H:(if t125=true then(if a0_0=1 then(if(l0_2.length:Int)=1 then(if 0<(l0_2.length:Int) then((spec_l6In.f (rd l0_2 0) 1 3).bind fun t127=>(some t127)) else(none)) else(some false)) else(if a0_0=4 then((spec_l1Many.f k l0_2).bind fun t128=>(some t128)) else((spec_l6In.f a0_0 2 7).bind fun t129=>(if t129=true then(some ((l0_2.length:Int) == 0)) else(some false))))) else(some false))=some r:=H;have A2:=qaf.mk A20;clear A20;by_cases c3:t125=true
 ·subst c3
  have H1:(if a0_0=1 then(if(l0_2.length:Int)=1 then(if 0<(l0_2.length:Int) then((spec_l6In.f (rd l0_2 0) 1 3).bind fun t127=>(some t127)) else(none)) else(some false)) else(if a0_0=4 then((spec_l1Many.f k l0_2).bind fun t128=>(some t128)) else((spec_l6In.f a0_0 2 7).bind fun t129=>(if t129=true then(some ((l0_2.length:Int) == 0)) else(some false)))))=some r:=by rw[if_pos rfl] at H;exact H
  clear H;have H:=H1;clear H1;by_cases c4:a0_0=1
  ·rw[if_pos c4] at H;have c4b0:(a0_0 == 1)=true:=beq_iff_eq.mpr c4;have c4b1:(a0_0 != 1)=false:=bne_eq_false_iff_eq.mpr c4;clear c4;by_cases c5:(l0_2.length:Int)=1
   ·rw[if_pos c5] at H;have c5b0:((l0_2.length:Int) == 1)=true:=beq_iff_eq.mpr c5;have c5b1:((l0_2.length:Int) != 1)=false:=bne_eq_false_iff_eq.mpr c5;clear c5;by_cases c6:0<(l0_2.length:Int)
    ·rw[if_pos c6] at H;have c6b0:decide (0<(l0_2.length:Int))=true:=decide_eq_true c6;have c6b1:decide (0<l0_2.length)=true:=decide_eq_true (by omega);clear c6;replace H:=Option.bind_eq_some_iff.mp H;obtain⟨t127,A70,H⟩:=H;replace H:(some t127)=some r:=H;have A7:=qaf.mk A70;clear A70;obtain rfl:=Option.some.inj H;go_enter Try.func84,Try.ntmps84
     go_wp2_with(first|((with_reducible refine qam (N:=1) rfl ?_);(try(refine qaw (by rfl) ?_;dsimp only));refine zX (N:=1) (cs:=#[.int .i64 a0_0,.int .i64 a0_1,.slice A0_2 l0_2.length c0_2]) (t:=32) ?_;intro gb124 hg w8 hbox hb;have BK124:=qaf.mk hbox;have GW124:=zH (w:=w) hg (za2 HB);have GE124:=GW124;replace HB:=qaf.mk (qad (za2 HB) hb);clear hb hbox hg;obtain⟨hcz9_0,hcz9_1,hcz9_2,hfz9_0,hfz9_1,hfz9_2⟩:=zC3 BK124)|((with_reducible refine qag (f:=80) rfl ?_);refine zF (some 5) Try.func80 #[.int .i64 a0_1,.int .i64 1,.int .i64 6] ?_;(with_reducible refine(spec_l6In.calls a0_1 1 6 true _ A2.out).mono ?_);rintro e w' ⟨rfl,⟨nd,rfl⟩⟩;refine⟨_,rfl,?_⟩;have p126:0≤(0:Int):=(by omega);have q126:0<(l0_2.length:Int):=of_decide_eq_true (za10);obtain⟨ad126,e126,hx126_0⟩:=Kd.at_int HR0_2.out 0 p126 q126;cases e126;have qi126:(0<l0_2.length)=True:=eq_true (by omega);(try rw[show((0:Int)).toNat=0 from rfl] at hx126_0);(try rw[Addr.add_zero'] at hx126_0);replace hx126_0:=(HB.out.cell (World.block_lt_of_cell? w _ hx126_0)).trans hx126_0;replace p126:=eq_true p126;replace q126:=eq_true q126)|(go_at_call 80;(with_reducible refine(spec_l6In.calls (rd l0_2 0) 1 3 t127 _ A7.out).mono ?_);rintro e w' ⟨rfl,⟨nd,rfl⟩⟩))
     go_ret;exact⟨za12,za3 HB GE124⟩
    ·rw[if_neg c6] at H;exact absurd H (by simp)
   ·rw[if_neg c5] at H;have c5b0:((l0_2.length:Int) == 1)=false:=beq_eq_false_iff_ne.mpr c5;have c5b1:((l0_2.length:Int) != 1)=true:=bne_iff_ne.mpr c5;obtain rfl:=Option.some.inj H;go_enter Try.func84,Try.ntmps84
    go_wp2_with(first|((with_reducible refine qam (N:=1) rfl ?_);(try(refine qaw (by rfl) ?_;dsimp only));refine zX (N:=1) (cs:=#[.int .i64 a0_0,.int .i64 a0_1,.slice A0_2 l0_2.length c0_2]) (t:=32) ?_;intro gb124 hg w10 hbox hb;have BK124:=qaf.mk hbox;have GW124:=zH (w:=w) hg (za2 HB);have GE124:=GW124;replace HB:=qaf.mk (qad (za2 HB) hb);clear hb hbox hg;obtain⟨hcz11_0,hcz11_1,hcz11_2,hfz11_0,hfz11_1,hfz11_2⟩:=zC3 BK124)|((with_reducible refine qag (f:=80) rfl ?_);refine zF (some 5) Try.func80 #[.int .i64 a0_1,.int .i64 1,.int .i64 6] ?_;(with_reducible refine(spec_l6In.calls a0_1 1 6 true _ A2.out).mono ?_);rintro e w' ⟨rfl,⟨nd,rfl⟩⟩;refine⟨_,rfl,?_⟩))
    go_ret;exact⟨za12,za3 HB GE124⟩
  ·rw[if_neg c4] at H;have c4b0:(a0_0 == 1)=false:=beq_eq_false_iff_ne.mpr c4;have c4b1:(a0_0 != 1)=true:=bne_iff_ne.mpr c4;by_cases c12:a0_0=4
   ·rw[if_pos c12] at H;have c12b0:(a0_0 == 4)=true:=beq_iff_eq.mpr c12;have c12b1:(a0_0 != 4)=false:=bne_eq_false_iff_eq.mpr c12;clear c12;replace H:=Option.bind_eq_some_iff.mp H;obtain⟨t128,A130,H⟩:=H;replace H:(some t128)=some r:=H;have A13:=qaf.mk A130;clear A130;obtain rfl:=Option.some.inj H;go_enter Try.func84,Try.ntmps84
    go_wp2_with(first|((with_reducible refine qam (N:=1) rfl ?_);(try(refine qaw (by rfl) ?_;dsimp only));refine zX (N:=1) (cs:=#[.int .i64 a0_0,.int .i64 a0_1,.slice A0_2 l0_2.length c0_2]) (t:=32) ?_;intro gb124 hg w14 hbox hb;have BK124:=qaf.mk hbox;have GW124:=zH (w:=w) hg (za2 HB);have GE124:=GW124;replace HB:=qaf.mk (qad (za2 HB) hb);clear hb hbox hg;obtain⟨hcz15_0,hcz15_1,hcz15_2,hfz15_0,hfz15_1,hfz15_2⟩:=zC3 BK124)|((with_reducible refine qag (f:=80) rfl ?_);refine zF (some 5) Try.func80 #[.int .i64 a0_1,.int .i64 1,.int .i64 6] ?_;(with_reducible refine(spec_l6In.calls a0_1 1 6 true _ A2.out).mono ?_);rintro e w' ⟨rfl,⟨nd,rfl⟩⟩;refine⟨_,rfl,?_⟩)|((with_reducible refine qag (f:=102) rfl ?_);refine zF (some 26) Try.func102 #[.slice A0_2 l0_2.length c0_2] ?_;(with_reducible refine(spec_l1Many.calls k _ _ l0_2 t128 _ ?side1 ?side2 A13.out).mono ?_);(case side1=>repeat(first|exact(Kd.C_below HR0_2.out (za3 HB GE124))|(with_reducible refine Kd.C_alloc ?_ _)|(with_reducible refine Kd.C_drewN ?_ _)|(with_reducible refine Kd.C_drew ?_)));(case side2=>exact HC0_2.out);rintro e w' ⟨rfl,⟨nd,rfl⟩⟩;refine⟨_,rfl,?_⟩))
    go_ret;exact⟨za12,za3 HB GE124⟩
   ·rw[if_neg c12] at H;have c12b0:(a0_0 == 4)=false:=beq_eq_false_iff_ne.mpr c12;have c12b1:(a0_0 != 4)=true:=bne_iff_ne.mpr c12;replace H:=Option.bind_eq_some_iff.mp H;obtain⟨t129,A160,H⟩:=H;replace H:(if t129=true then(some ((l0_2.length:Int) == 0)) else(some false))=some r:=H;have A16:=qaf.mk A160;clear A160;by_cases c17:t129=true
    ·subst c17
     have H1:(some ((l0_2.length:Int) == 0))=some r:=by rw[if_pos rfl] at H;exact H
     clear H;have H:=H1;clear H1;obtain rfl:=Option.some.inj H;go_enter Try.func84,Try.ntmps84
     go_wp2_with(first|((with_reducible refine qam (N:=1) rfl ?_);(try(refine qaw (by rfl) ?_;dsimp only));refine zX (N:=1) (cs:=#[.int .i64 a0_0,.int .i64 a0_1,.slice A0_2 l0_2.length c0_2]) (t:=32) ?_;intro gb124 hg w18 hbox hb;have BK124:=qaf.mk hbox;have GW124:=zH (w:=w) hg (za2 HB);have GE124:=GW124;replace HB:=qaf.mk (qad (za2 HB) hb);clear hb hbox hg;obtain⟨hcz19_0,hcz19_1,hcz19_2,hfz19_0,hfz19_1,hfz19_2⟩:=zC3 BK124)|((with_reducible refine qag (f:=80) rfl ?_);refine zF (some 5) Try.func80 #[.int .i64 a0_1,.int .i64 1,.int .i64 6] ?_;(with_reducible refine(spec_l6In.calls a0_1 1 6 true _ A2.out).mono ?_);rintro e w' ⟨rfl,⟨nd,rfl⟩⟩;refine⟨_,rfl,?_⟩)|((with_reducible refine qag (f:=80) rfl ?_);refine zF (some 29) Try.func80 #[.int .i64 a0_0,.int .i64 2,.int .i64 7] ?_;(with_reducible refine(spec_l6In.calls a0_0 2 7 true _ A16.out).mono ?_);rintro e w' ⟨rfl,⟨nd,rfl⟩⟩;refine⟨_,rfl,?_⟩))
     go_ret;exact⟨za12,za3 HB GE124⟩
    ·replace c17:=Bool.eq_false_iff.mpr c17;subst c17
     have H1:(some false)=some r:=by rw[if_neg (show ¬(false=true) by decide)] at H;exact H
     clear H;have H:=H1;clear H1;obtain rfl:=Option.some.inj H;go_enter Try.func84,Try.ntmps84
     go_wp2_with(first|((with_reducible refine qam (N:=1) rfl ?_);(try(refine qaw (by rfl) ?_;dsimp only));refine zX (N:=1) (cs:=#[.int .i64 a0_0,.int .i64 a0_1,.slice A0_2 l0_2.length c0_2]) (t:=32) ?_;intro gb124 hg w20 hbox hb;have BK124:=qaf.mk hbox;have GW124:=zH (w:=w) hg (za2 HB);have GE124:=GW124;replace HB:=qaf.mk (qad (za2 HB) hb);clear hb hbox hg;obtain⟨hcz21_0,hcz21_1,hcz21_2,hfz21_0,hfz21_1,hfz21_2⟩:=zC3 BK124)|((with_reducible refine qag (f:=80) rfl ?_);refine zF (some 5) Try.func80 #[.int .i64 a0_1,.int .i64 1,.int .i64 6] ?_;(with_reducible refine(spec_l6In.calls a0_1 1 6 true _ A2.out).mono ?_);rintro e w' ⟨rfl,⟨nd,rfl⟩⟩;refine⟨_,rfl,?_⟩)|((with_reducible refine qag (f:=80) rfl ?_);refine zF (some 29) Try.func80 #[.int .i64 a0_0,.int .i64 2,.int .i64 7] ?_;(with_reducible refine(spec_l6In.calls a0_0 2 7 false _ A16.out).mono ?_);rintro e w' ⟨rfl,⟨nd,rfl⟩⟩;refine⟨_,rfl,?_⟩))
     go_ret;exact⟨za12,za3 HB GE124⟩
 ·replace c3:=Bool.eq_false_iff.mpr c3;subst c3
  have H1:(some false)=some r:=by rw[if_neg (show ¬(false=true) by decide)] at H;exact H
  clear H;have H:=H1;clear H1;obtain rfl:=Option.some.inj H;go_enter Try.func84,Try.ntmps84
  go_wp2_with(first|((with_reducible refine qam (N:=1) rfl ?_);(try(refine qaw (by rfl) ?_;dsimp only));refine zX (N:=1) (cs:=#[.int .i64 a0_0,.int .i64 a0_1,.slice A0_2 l0_2.length c0_2]) (t:=32) ?_;intro gb124 hg w22 hbox hb;have BK124:=qaf.mk hbox;have GW124:=zH (w:=w) hg (za2 HB);have GE124:=GW124;replace HB:=qaf.mk (qad (za2 HB) hb);clear hb hbox hg;obtain⟨hcz23_0,hcz23_1,hcz23_2,hfz23_0,hfz23_1,hfz23_2⟩:=zC3 BK124)|((with_reducible refine qag (f:=80) rfl ?_);refine zF (some 5) Try.func80 #[.int .i64 a0_1,.int .i64 1,.int .i64 6] ?_;(with_reducible refine(spec_l6In.calls a0_1 1 6 false _ A2.out).mono ?_);rintro e w' ⟨rfl,⟨nd,rfl⟩⟩;refine⟨_,rfl,?_⟩))
  go_ret;exact⟨za12,za3 HB GE124⟩
def impl_in.f (a0:Int) (a1:Int) (a2:Int):Option (Bool):=if a0≥a1 then(some (decide (a0≤a2))) else(some false)
set_option maxHeartbeats 8000000 in
set_option maxRecDepth 100000 in
theorem impl_in.calls (a0:Int) (a1:Int) (a2:Int) (r:Bool) (w:World) (h:impl_in.f a0 a1 a2=some r) :
  Calls Try.prog 66 #[.int .i64 a0,.int .i64 a1,.int .i64 a2] w fun e w'=>e=.returned (.bool r)∧Drawn0 w w':=by
 have H:(if a0≥a1 then(some (decide (a0≤a2))) else(some false))=some r:=h;clear h;by_cases c4:a0≥a1
 ·rw[if_pos c4] at H;have c4b0:decide (a1≤a0)=true:=decide_eq_true c4;clear c4;obtain rfl:=Option.some.inj H;go_enter Try.func66,Try.ntmps66;go_wp2;go_ret;exact⟨za38,za62⟩
 ·rw[if_neg c4] at H;have c4b0:decide (a1≤a0)=false:=decide_eq_false c4;clear c4;obtain rfl:=Option.some.inj H;go_enter Try.func66,Try.ntmps66;go_wp2;go_ret;exact⟨za38,za62⟩
def impl_wantedOk_1.f (a0:Int):Option (Bool):=(impl_in.f a0 0 3).bind fun t310=>(some (!t310))
set_option maxHeartbeats 8000000 in
set_option maxRecDepth 100000 in
theorem impl_wantedOk_1.calls (a0:Int) (r:Bool) (w:World) (h:impl_wantedOk_1.f a0=some r) :
  Calls Try.prog 107 #[.int .i64 a0] w fun e w'=>e=.returned (.bool r)∧Drawn0 w w':=by
 have H:((impl_in.f a0 0 3).bind fun t310=>(some (!t310)))=some r:=h;clear h;replace H:=Option.bind_eq_some_iff.mp H;obtain⟨t310,A20,H⟩:=H;replace H:(some (!t310))=some r:=H;have A2:=qaf.mk A20;clear A20;obtain rfl:=Option.some.inj H;go_enter Try.func107,Try.ntmps107
 go_wp2_with(first|((with_reducible refine qag (f:=66) rfl ?_);refine zF (some 4) Try.func66 #[.int .i64 a0,.int .i64 0,.int .i64 3] ?_;(with_reducible refine(impl_in.calls a0 0 3 t310 _ A2.out).mono ?_);rintro e w' ⟨rfl,⟨nd,rfl⟩⟩;refine⟨_,rfl,?_⟩))
 go_ret;exact⟨za38,za62⟩
def impl_wantedOk_2.f (a0:Int):Option (Bool):=some (a0 != 0)
set_option maxHeartbeats 8000000 in
set_option maxRecDepth 100000 in
theorem impl_wantedOk_2.calls (a0:Int) (r:Bool) (w:World) (h:impl_wantedOk_2.f a0=some r) :
  Calls Try.prog 108 #[.int .i64 a0] w fun e w'=>e=.returned (.bool r)∧Drawn0 w w':=by
 have H:(some (a0 != 0))=some r:=h;clear h;obtain rfl:=Option.some.inj H;go_enter Try.func108,Try.ntmps108;go_wp2;go_ret;exact⟨za38,za62⟩
theorem drop_cons_rd {l:List Int} {k:Nat} (h:k<l.length):l.drop k=rd l (k:Int) :: l.drop (k+1):=by
 rw[List.drop_eq_getElem_cons h];simp[rd,List.getD_eq_getElem?_getD,List.getElem?_eq_getElem h]
set_option maxHeartbeats 4000000 in
theorem idx_int (p:Int→Option Bool) (g:Nat) (A0:Option Addr) (c0:Nat) (l0:List Int) (r:Bool) (w:World) (hr0:Kd.C (Kd.int .i64) w A0 l0.length l0) (hc0:l0.length≤c0)
  (eg:∀args w,(callFunc g args).run Try.prog w=.ok (.enter g args) w)
  (hg:∀(W:World) (x:Int) (b:Bool),p x=some b→Calls Try.prog g #[.int .i64 x] W fun e w'=>e=.returned (.bool b)∧Drawn0 W w') (h:anyO p l0=some r) :
  Calls Try.prog 113 #[.slice A0 l0.length c0,.func (.func g) #[] #[]] w (IdxQ r w):=by
 have HR:=qaf.mk hr0;have HG:=qaf.mk hg;have HH:=qaf.mk h;clear hr0 hc0 hg h
 have hbig:l0.length≤9223372036854775807:=by
  have:=HR.out;exact this.2.1
 go_enter Try.func113,Try.ntmps113;go_wp2
 go_loopg [5,8] l0.length (fun gg _ s8 wr=>∃kk q:Nat,kk≤l0.length∧l0.length - kk≤gg∧s8=.int .i64 kk∧wr=w.drewN q∧qaf (anyO p (l0.drop kk)=some r))
 case atStart=>exact⟨0,0,Nat.zero_le _,by omega,rfl,rfl,HH⟩
 case round=>
  obtain⟨kk,q,hkk,hg',rfl,rfl,B⟩:=hrel;clear HH;by_cases hlt:kk<l0.length
  ·have hltz:(kk:Int)<(l0.length:Int):=by omega
   obtain⟨ad,e0,hcell⟩:=Kd.at_int HR.out (kk:Int) (by omega) hltz
   cases e0
   rw[Int.toNat_natCast] at hcell;have B':=B.out;rw[drop_cons_rd hlt] at B';obtain⟨b,hb,hb'⟩:=anyO_cons B';clear B B'
   have hcall:=fun W=>HG.out W _ b hb
   have HB:=qaf.mk hb;clear hb
   rcases hb' with⟨rfl,rfl⟩|⟨rfl,hb'⟩
   ·go_wp2_with(go_at_fn g;refine(hcall _).mono ?_;rintro e w' ⟨rfl,⟨q',rfl⟩⟩)
    go_ret;exact⟨kk,rfl,by simp,⟨⟨_,rfl⟩⟩⟩
   ·have B2:=qaf.mk hb';clear hb'
    go_wp2_with(go_at_fn g;refine(hcall _).mono ?_;rintro e w' ⟨rfl,⟨q',rfl⟩⟩)
    go_roundg (l0.length - (kk+1))
    case measure=>omega
    case rel=>exact⟨kk+1,_,by omega,by omega,by go_num,rfl,B2⟩
  ·have hltz:¬(kk:Int)<(l0.length:Int):=by omega
   have B':=B.out;rw[List.drop_eq_nil_of_le (by omega)] at B'
   have hr:false=r:=by injection B'
   subst hr;clear B';go_wp2;go_ret;exact⟨-1,rfl,by decide,⟨⟨q,rfl⟩⟩⟩
set_option maxHeartbeats 4000000 in
theorem contains_int (p:Int→Option Bool) (g:Nat) (A0:Option Addr) (c0:Nat) (l0:List Int) (r:Bool) (w:World) (hr0:Kd.C (Kd.int .i64) w A0 l0.length l0) (hc0:l0.length≤c0)
  (eg:∀args w,(callFunc g args).run Try.prog w=.ok (.enter g args) w)
  (hg:∀(W:World) (x:Int) (b:Bool),p x=some b→Calls Try.prog g #[.int .i64 x] W fun e w'=>e=.returned (.bool b)∧Drawn0 W w') (h:anyO p l0=some r) :
  Calls Try.prog 109 #[.slice A0 l0.length c0,.func (.func g) #[] #[]] w fun e w'=>e=.returned (.bool r)∧Drawn0 w w':=by
 have hI:=fun W=>idx_int p g A0 c0 l0 r W
 have HR:=qaf.mk hr0;have HG:=qaf.mk hg;have HH:=qaf.mk h;have HC:=qaf.mk hc0;clear hr0 hc0 hg h;go_enter Try.func109,Try.ntmps109
 go_wp2_with(go_at_call 113;refine(hI _ HR.out HC.out eg HG.out HH.out).mono ?_;rintro e w' ⟨i,rfl,hi,⟨q,rfl⟩⟩)
 go_ret;exact⟨by rw[←hi];rfl,⟨⟨_,rfl⟩⟩⟩
def impl_wantedOk.f (l0:List Int):Option (Bool):=if(l0.length:Int)=3 then((anyO impl_wantedOk_1.f l0).bind fun a=>if a=true then some false else anyO impl_wantedOk_2.f l0) else some false
set_option maxHeartbeats 8000000 in
set_option maxRecDepth 100000 in
theorem impl_wantedOk.calls (A0:Option Addr) (c0:Nat) (l0:List Int) (r:Bool) (w:World) (hr0:Kd.C (Kd.int .i64) w A0 l0.length l0) (hc0:l0.length≤c0) (h:impl_wantedOk.f l0=some r) :
  Calls Try.prog 93 #[.slice A0 l0.length c0] w fun e w'=>e=.returned (.bool r)∧Drawn0 w w':=by
 have HR:=qaf.mk hr0;have HC:=qaf.mk hc0
 have c1:=fun(W:World) (r':Bool) (hr:Kd.C (Kd.int .i64) W A0 l0.length l0) (h:anyO impl_wantedOk_1.f l0=some r')=>contains_int impl_wantedOk_1.f 107 A0 c0 l0 r' W hr HC.out (enters_of Try.func107 (by kernel_rfl) rfl) (fun W x b hb=>impl_wantedOk_1.calls x b W hb) h
 have c2:=fun(W:World) (r':Bool) (hr:Kd.C (Kd.int .i64) W A0 l0.length l0) (h:anyO impl_wantedOk_2.f l0=some r')=>contains_int impl_wantedOk_2.f 108 A0 c0 l0 r' W hr HC.out (enters_of Try.func108 (by kernel_rfl) rfl) (fun W x b hb=>impl_wantedOk_2.calls x b W hb) h
 have C1:=qaf.mk c1;have C2:=qaf.mk c2;clear hr0 hc0 c1 c2;unfold impl_wantedOk.f at h;by_cases h3:(l0.length:Int)=3
 ·rw[if_pos h3] at h;obtain⟨a,ha,h⟩:=Option.bind_eq_some_iff.mp h
  have h3b:((l0.length:Int) == 3)=true:=by simpa using h3
  clear h3
  cases a with
  |true=>
   rw[if_pos rfl] at h
   injection h with h
   subst h;have HA:=qaf.mk ha;clear ha;go_enter Try.func93,Try.ntmps93
   go_wp2_with(go_at_call 109;refine(C1.out _ true HR.out HA.out).mono ?_;rintro e w' ⟨rfl,⟨q,rfl⟩⟩)
   go_ret;exact⟨rfl,⟨⟨_,rfl⟩⟩⟩
  |false=>
   rw[if_neg (by decide)] at h;have HA:=qaf.mk ha;have HB:=qaf.mk h;clear ha h;go_enter Try.func93,Try.ntmps93
   go_wp2_with fail
   go_at_call 109
   refine(C1.out _ false HR.out HA.out).mono ?_;rintro e w' ⟨rfl,⟨q,rfl⟩⟩
   go_wp2_with fail
   go_at_call 109
   refine(C2.out _ r (by exact HR.out) HB.out).mono ?_;rintro e w' ⟨rfl,⟨q2,rfl⟩⟩
   go_wp2_with fail
   go_ret;exact⟨rfl,⟨⟨_,rfl⟩⟩⟩
 ·rw[if_neg h3] at h
  injection h with h
  subst h
  have h3b:((l0.length:Int) == 3)=false:=by simpa using h3
  clear h3;go_enter Try.func93,Try.ntmps93;go_wp2;go_ret;exact⟨rfl,⟨⟨0,rfl⟩⟩⟩
def impl_isTrip.f (a0:Int):Option (Bool):=(impl_in.f a0 1 6).bind fun t311=>(some t311)
set_option maxHeartbeats 8000000 in
set_option maxRecDepth 100000 in
theorem impl_isTrip.calls (a0:Int) (r:Bool) (w:World) (h:impl_isTrip.f a0=some r) :
  Calls Try.prog 94 #[.int .i64 a0] w fun e w'=>e=.returned (.bool r)∧Drawn0 w w':=by
 have H:((impl_in.f a0 1 6).bind fun t311=>(some t311))=some r:=h;clear h;replace H:=Option.bind_eq_some_iff.mp H;obtain⟨t311,A20,H⟩:=H;replace H:(some t311)=some r:=H;have A2:=qaf.mk A20;clear A20;obtain rfl:=Option.some.inj H;go_enter Try.func94,Try.ntmps94
 go_wp2_with(first|((with_reducible refine qag (f:=66) rfl ?_);refine zF (some 4) Try.func66 #[.int .i64 a0,.int .i64 1,.int .i64 6] ?_;(with_reducible refine(impl_in.calls a0 1 6 t311 _ A2.out).mono ?_);rintro e w' ⟨rfl,⟨nd,rfl⟩⟩;refine⟨_,rfl,?_⟩))
 go_ret;exact⟨za38,za62⟩
end Go.Proofs.Ytmbdphefnalenaa.Print
