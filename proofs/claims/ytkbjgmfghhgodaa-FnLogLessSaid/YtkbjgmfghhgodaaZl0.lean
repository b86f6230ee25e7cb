-- Written by squeeze.py, a program of this session, out of what print.sh and myprint.py had printed: cut to what is used, narrowed. Not trusted, Lean checks it.
import Derived.Test.YtkbjgmfghhgodaaZK
import Derived.Test.YtkbjgmfghhgodaaZb0
import Derived.Test.YtkbjgmfghhgodaaZk0
namespace Go.Proofs.Ytkbjgmfghhgodaa.Print
open Go.RowKit Go.Proofs.YtkbjgmfghhgodaaW.PrintWords Go.Proofs.YtkbjgmfghhgodaaW.PrintLast Go.Proofs.YtkbjgmfghhgodaaW.PrintMore
attribute [local go_sem] max2_int min2_int max_two min_two max_three min_three max_four min_four
set_option linter.unusedVariables false
set_option linter.unusedSimpArgs false
def spec_RecOk.f (k:Nat) (a0_0:Int) (a0_1:Int) (l0_2:List Int):Option (Bool):=(spec_l6In.f a0_1 1 6).bind fun t241=>(if t241=true then(if a0_0=1 then(if(l0_2.length:Int)=1 then(if 0<(l0_2.length:Int) then((spec_l6In.f (rd l0_2 0) 1 3).bind fun t243=>(some t243)) else(none)) else(some false)) else(if a0_0=4 then((spec_l1Many.f k l0_2).bind fun t244=>(some t244)) else((spec_l6In.f a0_0 2 7).bind fun t245=>(if t245=true then(some ((l0_2.length:Int) == 0)) else(some false))))) else(some false))
theorem spec_RecOk.mono:∀a0 a1 a2 k,LeO (spec_RecOk.f k a0 a1 a2) (spec_RecOk.f (k+1) a0 a1 a2):=by
 intro a0 a1 a2 k
 unfold spec_RecOk.f
 repeat' first
   |(with_reducible exact spec_l1Many.mono _ _)
   |(with_reducible exact LeO.refl _)
   |(with_reducible exact LeO.none _)
   |(with_reducible refine LeO.ite ?_ ?_)
   |(with_reducible refine LeO.bind ?_ (fun _=>?_))
   |exact spec_l1Many.mono _ _
   |exact LeO.none _
   |refine LeO.ite ?_ ?_
   |refine LeO.bind ?_ (fun _=>?_)
set_option maxHeartbeats 8000000 in
set_option maxRecDepth 100000 in
theorem spec_RecOk.calls (k:Nat) (a0_0:Int) (a0_1:Int) (A0_2:Option Addr) (c0_2:Nat) (l0_2:List Int) (r:Bool) (w:World) (hr0_2:Kd.C (Kd.int .i64) w A0_2 l0_2.length l0_2) (hc0_2:l0_2.length≤c0_2) (h:spec_RecOk.f k a0_0 a0_1 l0_2=some r) :
  Calls Try.prog 25 #[.agg #[.int .i64 a0_0,.int .i64 a0_1,.slice A0_2 l0_2.length c0_2]] w fun e w'=>e=.returned (.bool r)∧Below w.heap.size w w':=by
 have hu45:=Try.underlying45
 have HR0_2:=qbb.mk hr0_2
 have HC0_2:=qbb.mk hc0_2
 clear hr0_2 hc0_2
 have HB:=qbb.mk (Below.refl w.heap.size w)
 have H:((spec_l6In.f a0_1 1 6).bind fun t241=>(if t241=true then(if a0_0=1 then(if(l0_2.length:Int)=1 then(if 0<(l0_2.length:Int) then((spec_l6In.f (rd l0_2 0) 1 3).bind fun t243=>(some t243)) else(none)) else(some false)) else(if a0_0=4 then((spec_l1Many.f k l0_2).bind fun t244=>(some t244)) else((spec_l6In.f a0_0 2 7).bind fun t245=>(if t245=true then(some ((l0_2.length:Int) == 0)) else(some false))))) else(some false)))=some r:=h
 clear h
 replace H:=Option.bind_eq_some_iff.mp H
 obtain⟨t241,A20,H⟩:=H
 replace H:(if t241=true then(if a0_0=1 then(if(l0_2.length:Int)=1 then(if 0<(l0_2.length:Int) then((spec_l6In.f (rd l0_2 0) 1 3).bind fun t243=>(some t243)) else(none)) else(some false)) else(if a0_0=4 then((spec_l1Many.f k l0_2).bind fun t244=>(some t244)) else((spec_l6In.f a0_0 2 7).bind fun t245=>(if t245=true then(some ((l0_2.length:Int) == 0)) else(some false))))) else(some false))=some r:=H
 have A2:=qbb.mk A20
 clear A20
 by_cases c3:t241=true
 ·subst c3
  have H1:(if a0_0=1 then(if(l0_2.length:Int)=1 then(if 0<(l0_2.length:Int) then((spec_l6In.f (rd l0_2 0) 1 3).bind fun t243=>(some t243)) else(none)) else(some false)) else(if a0_0=4 then((spec_l1Many.f k l0_2).bind fun t244=>(some t244)) else((spec_l6In.f a0_0 2 7).bind fun t245=>(if t245=true then(some ((l0_2.length:Int) == 0)) else(some false)))))=some r:=by rw[if_pos rfl] at H;exact H
  clear H
  have H:=H1
  clear H1
  by_cases c4:a0_0=1
  ·rw[if_pos c4] at H
   have c4b0:(a0_0 == 1)=true:=beq_iff_eq.mpr c4
   have c4b1:(a0_0 != 1)=false:=bne_eq_false_iff_eq.mpr c4
   clear c4
   by_cases c5:(l0_2.length:Int)=1
   ·rw[if_pos c5] at H
    have c5b0:((l0_2.length:Int) == 1)=true:=beq_iff_eq.mpr c5
    have c5b1:((l0_2.length:Int) != 1)=false:=bne_eq_false_iff_eq.mpr c5
    clear c5
    by_cases c6:0<(l0_2.length:Int)
    ·rw[if_pos c6] at H
     have c6b0:decide (0<(l0_2.length:Int))=true:=decide_eq_true c6
     have c6b1:decide (0<l0_2.length)=true:=decide_eq_true (by omega)
     clear c6
     replace H:=Option.bind_eq_some_iff.mp H
     obtain⟨t243,A70,H⟩:=H
     replace H:(some t243)=some r:=H
     have A7:=qbb.mk A70
     clear A70
     obtain rfl:=Option.some.inj H
     go_enter Try.func25,Try.ntmps25
     go_wp2_with(first|((with_reducible refine qav (N:=1) rfl ?_);(try(refine gate_guard (by rfl) ?_;dsimp only));refine qat ?hg (N:=1) ?hd (cs:=#[.int .i64 a0_0,.int .i64 a0_1,.slice A0_2 l0_2.length c0_2]) (t:=45) ?hr ?_;(case hd=>rfl);(case hg=>rfl);(case hr=>first|(go_simp;done)|(go_simp;rfl));intro gb240 hg w8 hbox hb;have n0_:=qbb.mk (qak (by repeat(first|(with_reducible first|exact HB.out|apply qac|apply qaa|apply qab)|exact HB.out)) hb);have n1_:=qbb.mk (hbox);have n2_:=qbb.mk ((by rw[hg];exact(qaj (by repeat(first|(with_reducible first|exact HB.out|apply qac|apply qaa|apply qab)|exact HB.out))):w.heap.size≤gb240));have n3_:=qbb.mk ((by rw[hg];exact(qaj (by repeat(first|(with_reducible first|exact HB.out|apply qac|apply qaa|apply qab)|exact HB.out))):w.heap.size≤gb240));clear HB;have HB:=n0_;have BK240:=n1_;have GW240:=n2_;have GE240:=n3_;clear n0_ n1_ n2_ n3_;clear hb hbox hg;have hcz9_0:w8.cell? ⟨gb240,0,none⟩=some (.int .i64 a0_0):=(qai BK240.out 0).trans rfl;have hcz9_1:w8.cell? ⟨gb240,1,none⟩=some (.int .i64 a0_1):=(qai BK240.out 1).trans rfl;have hcz9_2:w8.cell? ⟨gb240,2,none⟩=some (.slice A0_2 l0_2.length c0_2):=(qai BK240.out 2).trans rfl;have hfz9_0:=qah BK240.out 0;have hfz9_1:=qah BK240.out 1;have hfz9_2:=qah BK240.out 2)|((with_reducible refine qao (f:=47) rfl ?_);refine qax (some 5) rfl rfl Try.func47 (by kernel_rfl) rfl #[.int .i64 a0_1,.int .i64 1,.int .i64 6] rfl (by(try simp only[List.map_toArray,List.map_cons,List.map_nil]);first|done|rfl|(simp only[List.length_drop,List.length_take];rfl)) ?_;(with_reducible refine(spec_l6In.calls a0_1 1 6 true _ A2.out).mono ?_);rintro e w' ⟨rfl,⟨nd,rfl⟩⟩;refine⟨_,rfl,?_⟩;have p242:0≤(0:Int):=(by omega);have q242:0<(l0_2.length:Int):=of_decide_eq_true (by first|(with_reducible assumption)|assumption);obtain⟨ad242,e242,hx242_0⟩:=Kd.at_int HR0_2.out 0 p242 q242;cases e242;have qi242:(0<l0_2.length)=True:=eq_true (by omega);(try rw[show((0:Int)).toNat=0 from rfl] at hx242_0);(try rw[Addr.add_zero'] at hx242_0);replace hx242_0:=(HB.out.cell (World.block_lt_of_cell? w _ hx242_0)).trans hx242_0;replace p242:=eq_true p242;replace q242:=eq_true q242)|(go_at_call 47;(with_reducible refine(spec_l6In.calls (rd l0_2 0) 1 3 t243 _ A7.out).mono ?_);rintro e w' ⟨rfl,⟨nd,rfl⟩⟩))
     go_ret
     exact⟨by first|rfl|(simp[qan,qam]<;>rfl)|(simp[*,qan,qam]<;>rfl),by repeat(first|(with_reducible first|exact HB.out|apply qac|apply qaa|apply qab|refine qag ?_ GE240.out)|exact HB.out)⟩
    ·rw[if_neg c6] at H
     exact absurd H (by simp)
   ·rw[if_neg c5] at H
    have c5b0:((l0_2.length:Int) == 1)=false:=beq_eq_false_iff_ne.mpr c5
    have c5b1:((l0_2.length:Int) != 1)=true:=bne_iff_ne.mpr c5
    obtain rfl:=Option.some.inj H
    go_enter Try.func25,Try.ntmps25
    go_wp2_with(first|((with_reducible refine qav (N:=1) rfl ?_);(try(refine gate_guard (by rfl) ?_;dsimp only));refine qat ?hg (N:=1) ?hd (cs:=#[.int .i64 a0_0,.int .i64 a0_1,.slice A0_2 l0_2.length c0_2]) (t:=45) ?hr ?_;(case hd=>rfl);(case hg=>rfl);(case hr=>first|(go_simp;done)|(go_simp;rfl));intro gb240 hg w10 hbox hb;have n0_:=qbb.mk (qak (by repeat(first|(with_reducible first|exact HB.out|apply qac|apply qaa|apply qab)|exact HB.out)) hb);have n1_:=qbb.mk (hbox);have n2_:=qbb.mk ((by rw[hg];exact(qaj (by repeat(first|(with_reducible first|exact HB.out|apply qac|apply qaa|apply qab)|exact HB.out))):w.heap.size≤gb240));have n3_:=qbb.mk ((by rw[hg];exact(qaj (by repeat(first|(with_reducible first|exact HB.out|apply qac|apply qaa|apply qab)|exact HB.out))):w.heap.size≤gb240));clear HB;have HB:=n0_;have BK240:=n1_;have GW240:=n2_;have GE240:=n3_;clear n0_ n1_ n2_ n3_;clear hb hbox hg;have hcz11_0:w10.cell? ⟨gb240,0,none⟩=some (.int .i64 a0_0):=(qai BK240.out 0).trans rfl;have hcz11_1:w10.cell? ⟨gb240,1,none⟩=some (.int .i64 a0_1):=(qai BK240.out 1).trans rfl;have hcz11_2:w10.cell? ⟨gb240,2,none⟩=some (.slice A0_2 l0_2.length c0_2):=(qai BK240.out 2).trans rfl;have hfz11_0:=qah BK240.out 0;have hfz11_1:=qah BK240.out 1;have hfz11_2:=qah BK240.out 2)|((with_reducible refine qao (f:=47) rfl ?_);refine qax (some 5) rfl rfl Try.func47 (by kernel_rfl) rfl #[.int .i64 a0_1,.int .i64 1,.int .i64 6] rfl (by(try simp only[List.map_toArray,List.map_cons,List.map_nil]);first|done|rfl|(simp only[List.length_drop,List.length_take];rfl)) ?_;(with_reducible refine(spec_l6In.calls a0_1 1 6 true _ A2.out).mono ?_);rintro e w' ⟨rfl,⟨nd,rfl⟩⟩;refine⟨_,rfl,?_⟩))
    go_ret
    exact⟨by first|rfl|(simp[qan,qam]<;>rfl)|(simp[*,qan,qam]<;>rfl),by repeat(first|(with_reducible first|exact HB.out|apply qac|apply qaa|apply qab|refine qag ?_ GE240.out)|exact HB.out)⟩
  ·rw[if_neg c4] at H
   have c4b0:(a0_0 == 1)=false:=beq_eq_false_iff_ne.mpr c4
   have c4b1:(a0_0 != 1)=true:=bne_iff_ne.mpr c4
   by_cases c12:a0_0=4
   ·rw[if_pos c12] at H
    have c12b0:(a0_0 == 4)=true:=beq_iff_eq.mpr c12
    have c12b1:(a0_0 != 4)=false:=bne_eq_false_iff_eq.mpr c12
    clear c12
    replace H:=Option.bind_eq_some_iff.mp H
    obtain⟨t244,A130,H⟩:=H
    replace H:(some t244)=some r:=H
    have A13:=qbb.mk A130
    clear A130
    obtain rfl:=Option.some.inj H
    go_enter Try.func25,Try.ntmps25
    go_wp2_with(first|((with_reducible refine qav (N:=1) rfl ?_);(try(refine gate_guard (by rfl) ?_;dsimp only));refine qat ?hg (N:=1) ?hd (cs:=#[.int .i64 a0_0,.int .i64 a0_1,.slice A0_2 l0_2.length c0_2]) (t:=45) ?hr ?_;(case hd=>rfl);(case hg=>rfl);(case hr=>first|(go_simp;done)|(go_simp;rfl));intro gb240 hg w14 hbox hb;have n0_:=qbb.mk (qak (by repeat(first|(with_reducible first|exact HB.out|apply qac|apply qaa|apply qab)|exact HB.out)) hb);have n1_:=qbb.mk (hbox);have n2_:=qbb.mk ((by rw[hg];exact(qaj (by repeat(first|(with_reducible first|exact HB.out|apply qac|apply qaa|apply qab)|exact HB.out))):w.heap.size≤gb240));have n3_:=qbb.mk ((by rw[hg];exact(qaj (by repeat(first|(with_reducible first|exact HB.out|apply qac|apply qaa|apply qab)|exact HB.out))):w.heap.size≤gb240));clear HB;have HB:=n0_;have BK240:=n1_;have GW240:=n2_;have GE240:=n3_;clear n0_ n1_ n2_ n3_;clear hb hbox hg;have hcz15_0:w14.cell? ⟨gb240,0,none⟩=some (.int .i64 a0_0):=(qai BK240.out 0).trans rfl;have hcz15_1:w14.cell? ⟨gb240,1,none⟩=some (.int .i64 a0_1):=(qai BK240.out 1).trans rfl;have hcz15_2:w14.cell? ⟨gb240,2,none⟩=some (.slice A0_2 l0_2.length c0_2):=(qai BK240.out 2).trans rfl;have hfz15_0:=qah BK240.out 0;have hfz15_1:=qah BK240.out 1;have hfz15_2:=qah BK240.out 2)|((with_reducible refine qao (f:=47) rfl ?_);refine qax (some 5) rfl rfl Try.func47 (by kernel_rfl) rfl #[.int .i64 a0_1,.int .i64 1,.int .i64 6] rfl (by(try simp only[List.map_toArray,List.map_cons,List.map_nil]);first|done|rfl|(simp only[List.length_drop,List.length_take];rfl)) ?_;(with_reducible refine(spec_l6In.calls a0_1 1 6 true _ A2.out).mono ?_);rintro e w' ⟨rfl,⟨nd,rfl⟩⟩;refine⟨_,rfl,?_⟩)|((with_reducible refine qao (f:=58) rfl ?_);refine qax (some 26) rfl rfl Try.func58 (by kernel_rfl) rfl #[.slice A0_2 l0_2.length c0_2] rfl (by(try simp only[List.map_toArray,List.map_cons,List.map_nil]);first|done|rfl|(simp only[List.length_drop,List.length_take];rfl)) ?_;(with_reducible refine(spec_l1Many.calls k _ _ l0_2 t244 _ ?side1 ?side2 A13.out).mono ?_);(case side1=>repeat(first|exact(Kd.C_below HR0_2.out (by repeat(first|(with_reducible first|exact HB.out|apply qac|apply qaa|apply qab|refine qag ?_ GE240.out)|exact HB.out)))|(with_reducible refine Kd.C_alloc ?_ _)|(with_reducible refine Kd.C_drewN ?_ _)|(with_reducible refine Kd.C_drew ?_)));(case side2=>exact HC0_2.out);rintro e w' ⟨rfl,⟨nd,rfl⟩⟩;refine⟨_,rfl,?_⟩))
    go_ret
    exact⟨by first|rfl|(simp[qan,qam]<;>rfl)|(simp[*,qan,qam]<;>rfl),by repeat(first|(with_reducible first|exact HB.out|apply qac|apply qaa|apply qab|refine qag ?_ GE240.out)|exact HB.out)⟩
   ·rw[if_neg c12] at H
    have c12b0:(a0_0 == 4)=false:=beq_eq_false_iff_ne.mpr c12
    have c12b1:(a0_0 != 4)=true:=bne_iff_ne.mpr c12
    replace H:=Option.bind_eq_some_iff.mp H
    obtain⟨t245,A160,H⟩:=H
    replace H:(if t245=true then(some ((l0_2.length:Int) == 0)) else(some false))=some r:=H
    have A16:=qbb.mk A160
    clear A160
    by_cases c17:t245=true
    ·subst c17
     have H1:(some ((l0_2.length:Int) == 0))=some r:=by rw[if_pos rfl] at H;exact H
     clear H
     have H:=H1
     clear H1
     obtain rfl:=Option.some.inj H
     go_enter Try.func25,Try.ntmps25
     go_wp2_with(first|((with_reducible refine qav (N:=1) rfl ?_);(try(refine gate_guard (by rfl) ?_;dsimp only));refine qat ?hg (N:=1) ?hd (cs:=#[.int .i64 a0_0,.int .i64 a0_1,.slice A0_2 l0_2.length c0_2]) (t:=45) ?hr ?_;(case hd=>rfl);(case hg=>rfl);(case hr=>first|(go_simp;done)|(go_simp;rfl));intro gb240 hg w18 hbox hb;have n0_:=qbb.mk (qak (by repeat(first|(with_reducible first|exact HB.out|apply qac|apply qaa|apply qab)|exact HB.out)) hb);have n1_:=qbb.mk (hbox);have n2_:=qbb.mk ((by rw[hg];exact(qaj (by repeat(first|(with_reducible first|exact HB.out|apply qac|apply qaa|apply qab)|exact HB.out))):w.heap.size≤gb240));have n3_:=qbb.mk ((by rw[hg];exact(qaj (by repeat(first|(with_reducible first|exact HB.out|apply qac|apply qaa|apply qab)|exact HB.out))):w.heap.size≤gb240));clear HB;have HB:=n0_;have BK240:=n1_;have GW240:=n2_;have GE240:=n3_;clear n0_ n1_ n2_ n3_;clear hb hbox hg;have hcz19_0:w18.cell? ⟨gb240,0,none⟩=some (.int .i64 a0_0):=(qai BK240.out 0).trans rfl;have hcz19_1:w18.cell? ⟨gb240,1,none⟩=some (.int .i64 a0_1):=(qai BK240.out 1).trans rfl;have hcz19_2:w18.cell? ⟨gb240,2,none⟩=some (.slice A0_2 l0_2.length c0_2):=(qai BK240.out 2).trans rfl;have hfz19_0:=qah BK240.out 0;have hfz19_1:=qah BK240.out 1;have hfz19_2:=qah BK240.out 2)|((with_reducible refine qao (f:=47) rfl ?_);refine qax (some 5) rfl rfl Try.func47 (by kernel_rfl) rfl #[.int .i64 a0_1,.int .i64 1,.int .i64 6] rfl (by(try simp only[List.map_toArray,List.map_cons,List.map_nil]);first|done|rfl|(simp only[List.length_drop,List.length_take];rfl)) ?_;(with_reducible refine(spec_l6In.calls a0_1 1 6 true _ A2.out).mono ?_);rintro e w' ⟨rfl,⟨nd,rfl⟩⟩;refine⟨_,rfl,?_⟩)|((with_reducible refine qao (f:=47) rfl ?_);refine qax (some 29) rfl rfl Try.func47 (by kernel_rfl) rfl #[.int .i64 a0_0,.int .i64 2,.int .i64 7] rfl (by(try simp only[List.map_toArray,List.map_cons,List.map_nil]);first|done|rfl|(simp only[List.length_drop,List.length_take];rfl)) ?_;(with_reducible refine(spec_l6In.calls a0_0 2 7 true _ A16.out).mono ?_);rintro e w' ⟨rfl,⟨nd,rfl⟩⟩;refine⟨_,rfl,?_⟩))
     go_ret
     exact⟨by first|rfl|(simp[qan,qam]<;>rfl)|(simp[*,qan,qam]<;>rfl),by repeat(first|(with_reducible first|exact HB.out|apply qac|apply qaa|apply qab|refine qag ?_ GE240.out)|exact HB.out)⟩
    ·replace c17:=Bool.eq_false_iff.mpr c17
     subst c17
     have H1:(some false)=some r:=by rw[if_neg (show ¬(false=true) by decide)] at H;exact H
     clear H
     have H:=H1
     clear H1
     obtain rfl:=Option.some.inj H
     go_enter Try.func25,Try.ntmps25
     go_wp2_with(first|((with_reducible refine qav (N:=1) rfl ?_);(try(refine gate_guard (by rfl) ?_;dsimp only));refine qat ?hg (N:=1) ?hd (cs:=#[.int .i64 a0_0,.int .i64 a0_1,.slice A0_2 l0_2.length c0_2]) (t:=45) ?hr ?_;(case hd=>rfl);(case hg=>rfl);(case hr=>first|(go_simp;done)|(go_simp;rfl));intro gb240 hg w20 hbox hb;have n0_:=qbb.mk (qak (by repeat(first|(with_reducible first|exact HB.out|apply qac|apply qaa|apply qab)|exact HB.out)) hb);have n1_:=qbb.mk (hbox);have n2_:=qbb.mk ((by rw[hg];exact(qaj (by repeat(first|(with_reducible first|exact HB.out|apply qac|apply qaa|apply qab)|exact HB.out))):w.heap.size≤gb240));have n3_:=qbb.mk ((by rw[hg];exact(qaj (by repeat(first|(with_reducible first|exact HB.out|apply qac|apply qaa|apply qab)|exact HB.out))):w.heap.size≤gb240));clear HB;have HB:=n0_;have BK240:=n1_;have GW240:=n2_;have GE240:=n3_;clear n0_ n1_ n2_ n3_;clear hb hbox hg;have hcz21_0:w20.cell? ⟨gb240,0,none⟩=some (.int .i64 a0_0):=(qai BK240.out 0).trans rfl;have hcz21_1:w20.cell? ⟨gb240,1,none⟩=some (.int .i64 a0_1):=(qai BK240.out 1).trans rfl;have hcz21_2:w20.cell? ⟨gb240,2,none⟩=some (.slice A0_2 l0_2.length c0_2):=(qai BK240.out 2).trans rfl;have hfz21_0:=qah BK240.out 0;have hfz21_1:=qah BK240.out 1;have hfz21_2:=qah BK240.out 2)|((with_reducible refine qao (f:=47) rfl ?_);refine qax (some 5) rfl rfl Try.func47 (by kernel_rfl) rfl #[.int .i64 a0_1,.int .i64 1,.int .i64 6] rfl (by(try simp only[List.map_toArray,List.map_cons,List.map_nil]);first|done|rfl|(simp only[List.length_drop,List.length_take];rfl)) ?_;(with_reducible refine(spec_l6In.calls a0_1 1 6 true _ A2.out).mono ?_);rintro e w' ⟨rfl,⟨nd,rfl⟩⟩;refine⟨_,rfl,?_⟩)|((with_reducible refine qao (f:=47) rfl ?_);refine qax (some 29) rfl rfl Try.func47 (by kernel_rfl) rfl #[.int .i64 a0_0,.int .i64 2,.int .i64 7] rfl (by(try simp only[List.map_toArray,List.map_cons,List.map_nil]);first|done|rfl|(simp only[List.length_drop,List.length_take];rfl)) ?_;(with_reducible refine(spec_l6In.calls a0_0 2 7 false _ A16.out).mono ?_);rintro e w' ⟨rfl,⟨nd,rfl⟩⟩;refine⟨_,rfl,?_⟩))
     go_ret
     exact⟨by first|rfl|(simp[qan,qam]<;>rfl)|(simp[*,qan,qam]<;>rfl),by repeat(first|(with_reducible first|exact HB.out|apply qac|apply qaa|apply qab|refine qag ?_ GE240.out)|exact HB.out)⟩
 ·replace c3:=Bool.eq_false_iff.mpr c3
  subst c3
  have H1:(some false)=some r:=by rw[if_neg (show ¬(false=true) by decide)] at H;exact H
  clear H
  have H:=H1
  clear H1
  obtain rfl:=Option.some.inj H
  go_enter Try.func25,Try.ntmps25
  go_wp2_with(first|((with_reducible refine qav (N:=1) rfl ?_);(try(refine gate_guard (by rfl) ?_;dsimp only));refine qat ?hg (N:=1) ?hd (cs:=#[.int .i64 a0_0,.int .i64 a0_1,.slice A0_2 l0_2.length c0_2]) (t:=45) ?hr ?_;(case hd=>rfl);(case hg=>rfl);(case hr=>first|(go_simp;done)|(go_simp;rfl));intro gb240 hg w22 hbox hb;have n0_:=qbb.mk (qak (by repeat(first|(with_reducible first|exact HB.out|apply qac|apply qaa|apply qab)|exact HB.out)) hb);have n1_:=qbb.mk (hbox);have n2_:=qbb.mk ((by rw[hg];exact(qaj (by repeat(first|(with_reducible first|exact HB.out|apply qac|apply qaa|apply qab)|exact HB.out))):w.heap.size≤gb240));have n3_:=qbb.mk ((by rw[hg];exact(qaj (by repeat(first|(with_reducible first|exact HB.out|apply qac|apply qaa|apply qab)|exact HB.out))):w.heap.size≤gb240));clear HB;have HB:=n0_;have BK240:=n1_;have GW240:=n2_;have GE240:=n3_;clear n0_ n1_ n2_ n3_;clear hb hbox hg;have hcz23_0:w22.cell? ⟨gb240,0,none⟩=some (.int .i64 a0_0):=(qai BK240.out 0).trans rfl;have hcz23_1:w22.cell? ⟨gb240,1,none⟩=some (.int .i64 a0_1):=(qai BK240.out 1).trans rfl;have hcz23_2:w22.cell? ⟨gb240,2,none⟩=some (.slice A0_2 l0_2.length c0_2):=(qai BK240.out 2).trans rfl;have hfz23_0:=qah BK240.out 0;have hfz23_1:=qah BK240.out 1;have hfz23_2:=qah BK240.out 2)|((with_reducible refine qao (f:=47) rfl ?_);refine qax (some 5) rfl rfl Try.func47 (by kernel_rfl) rfl #[.int .i64 a0_1,.int .i64 1,.int .i64 6] rfl (by(try simp only[List.map_toArray,List.map_cons,List.map_nil]);first|done|rfl|(simp only[List.length_drop,List.length_take];rfl)) ?_;(with_reducible refine(spec_l6In.calls a0_1 1 6 false _ A2.out).mono ?_);rintro e w' ⟨rfl,⟨nd,rfl⟩⟩;refine⟨_,rfl,?_⟩))
  go_ret
  exact⟨by first|rfl|(simp[qan,qam]<;>rfl)|(simp[*,qan,qam]<;>rfl),by repeat(first|(with_reducible first|exact HB.out|apply qac|apply qaa|apply qab|refine qag ?_ GE240.out)|exact HB.out)⟩
end Go.Proofs.Ytkbjgmfghhgodaa.Print
