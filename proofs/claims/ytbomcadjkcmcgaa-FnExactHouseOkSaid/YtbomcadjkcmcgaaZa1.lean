-- Written by squeeze.py, a program of this session, out of what print.sh and myprint.py had printed: cut to what is used, narrowed. Not trusted, Lean checks it.
import Derived.Test.YtbomcadjkcmcgaaZK
import Derived.Test.YtbomcadjkcmcgaaZa0
namespace Go.Proofs.Ytbomcadjkcmcgaa.Print
open Go.RowKit Go.Proofs.YtbomcadjkcmcgaaW.PrintWords Go.Proofs.YtbomcadjkcmcgaaW.PrintLast Go.Proofs.YtbomcadjkcmcgaaW.PrintMore
attribute [local go_sem] max2_int min2_int max_two min_two max_three min_three max_four min_four
set_option linter.unusedVariables false
set_option linter.unusedSimpArgs false
def spec_RecOk.f (k:Nat) (a0_0:Int) (a0_1:Int) (l0_2:List Int):Option (Bool):=(spec_l6In.f a0_1 1 6).bind fun t118=>(if t118=true then(if a0_0=1 then(if(l0_2.length:Int)=1 then(if 0<(l0_2.length:Int) then((spec_l6In.f (rd l0_2 0) 1 3).bind fun t120=>(some t120)) else(none)) else(some false)) else(if a0_0=4 then((spec_l1Many.f k l0_2).bind fun t121=>(some t121)) else((spec_l6In.f a0_0 2 7).bind fun t122=>(if t122=true then(some ((l0_2.length:Int) == 0)) else(some false))))) else(some false))
theorem spec_RecOk.mono:∀a0 a1 a2 k,LeO (spec_RecOk.f k a0 a1 a2) (spec_RecOk.f (k+1) a0 a1 a2):=by
 intro a0 a1 a2 k
 unfold spec_RecOk.f
 repeat' first
   |(with_reducible exact spec_l1Many.mono _ _)
   |(with_reducible exact LeO.refl _)
   |(with_reducible exact LeO.none _)
   |(with_reducible refine LeO.ite ?_ ?_)
   |(with_reducible refine LeO.bind ?_ (fun _=>?_))
   |exact spec_l1Many.mono _ _
   |exact LeO.none _
   |refine LeO.ite ?_ ?_
   |refine LeO.bind ?_ (fun _=>?_)
set_option maxHeartbeats 8000000 in
set_option maxRecDepth 100000 in
theorem spec_RecOk.calls (k:Nat) (a0_0:Int) (a0_1:Int) (A0_2:Option Addr) (c0_2:Nat) (l0_2:List Int) (r:Bool) (w:World) (hr0_2:Kd.C (Kd.int .i64) w A0_2 l0_2.length l0_2) (hc0_2:l0_2.length≤c0_2) (h:spec_RecOk.f k a0_0 a0_1 l0_2=some r) :
  Calls Try.prog 33 #[.agg #[.int .i64 a0_0,.int .i64 a0_1,.slice A0_2 l0_2.length c0_2]] w fun e w'=>e=.returned (.bool r)∧Below w.heap.size w w':=by
 have hu62:=Try.underlying62
 have HR0_2:=qam.mk hr0_2
 have HC0_2:=qam.mk hc0_2
 clear hr0_2 hc0_2
 have HB:=qam.mk (Below.refl w.heap.size w)
 have H:((spec_l6In.f a0_1 1 6).bind fun t118=>(if t118=true then(if a0_0=1 then(if(l0_2.length:Int)=1 then(if 0<(l0_2.length:Int) then((spec_l6In.f (rd l0_2 0) 1 3).bind fun t120=>(some t120)) else(none)) else(some false)) else(if a0_0=4 then((spec_l1Many.f k l0_2).bind fun t121=>(some t121)) else((spec_l6In.f a0_0 2 7).bind fun t122=>(if t122=true then(some ((l0_2.length:Int) == 0)) else(some false))))) else(some false)))=some r:=h
 clear h
 replace H:=Option.bind_eq_some_iff.mp H
 obtain⟨t118,A20,H⟩:=H
 replace H:(if t118=true then(if a0_0=1 then(if(l0_2.length:Int)=1 then(if 0<(l0_2.length:Int) then((spec_l6In.f (rd l0_2 0) 1 3).bind fun t120=>(some t120)) else(none)) else(some false)) else(if a0_0=4 then((spec_l1Many.f k l0_2).bind fun t121=>(some t121)) else((spec_l6In.f a0_0 2 7).bind fun t122=>(if t122=true then(some ((l0_2.length:Int) == 0)) else(some false))))) else(some false))=some r:=H
 have A2:=qam.mk A20
 clear A20
 by_cases c3:t118=true
 ·subst c3
  have H1:(if a0_0=1 then(if(l0_2.length:Int)=1 then(if 0<(l0_2.length:Int) then((spec_l6In.f (rd l0_2 0) 1 3).bind fun t120=>(some t120)) else(none)) else(some false)) else(if a0_0=4 then((spec_l1Many.f k l0_2).bind fun t121=>(some t121)) else((spec_l6In.f a0_0 2 7).bind fun t122=>(if t122=true then(some ((l0_2.length:Int) == 0)) else(some false)))))=some r:=by rw[if_pos rfl] at H;exact H
  clear H
  have H:=H1
  clear H1
  by_cases c4:a0_0=1
  ·rw[if_pos c4] at H
   have c4b0:(a0_0 == 1)=true:=beq_iff_eq.mpr c4
   have c4b1:(a0_0 != 1)=false:=bne_eq_false_iff_eq.mpr c4
   clear c4
   by_cases c5:(l0_2.length:Int)=1
   ·rw[if_pos c5] at H
    have c5b0:((l0_2.length:Int) == 1)=true:=beq_iff_eq.mpr c5
    have c5b1:((l0_2.length:Int) != 1)=false:=bne_eq_false_iff_eq.mpr c5
    clear c5
    by_cases c6:0<(l0_2.length:Int)
    ·rw[if_pos c6] at H
     have c6b0:decide (0<(l0_2.length:Int))=true:=decide_eq_true c6
     have c6b1:decide (0<l0_2.length)=true:=decide_eq_true (by omega)
     clear c6
     replace H:=Option.bind_eq_some_iff.mp H
     obtain⟨t120,A70,H⟩:=H
     replace H:(some t120)=some r:=H
     have A7:=qam.mk A70
     clear A70
     obtain rfl:=Option.some.inj H
     go_enter Try.func33,Try.ntmps33
     go_wp2_with(first|((with_reducible refine qak (N:=1) rfl ?_);(try(refine gate_guard (by rfl) ?_;dsimp only));refine qai ?hg (N:=1) ?hd (cs:=#[.int .i64 a0_0,.int .i64 a0_1,.slice A0_2 l0_2.length c0_2]) (t:=62) ?hr ?_;(case hd=>rfl);(case hg=>rfl);(case hr=>first|(go_simp;done)|(go_simp;rfl));intro gb117 hg w8 hbox hb;have n0_:=qam.mk (qad (za2 HB) hb);have n1_:=qam.mk (hbox);have n2_:=qam.mk ((by rw[hg];exact(qac (za2 HB)):w.heap.size≤gb117));have n3_:=qam.mk ((by rw[hg];exact(qac (za2 HB)):w.heap.size≤gb117));clear HB;have HB:=n0_;have BK117:=n1_;have GW117:=n2_;have GE117:=n3_;clear n0_ n1_ n2_ n3_;clear hb hbox hg;have hcz9_0:w8.cell? ⟨gb117,0,none⟩=some (.int .i64 a0_0):=(qab BK117.out 0).trans rfl;have hcz9_1:w8.cell? ⟨gb117,1,none⟩=some (.int .i64 a0_1):=(qab BK117.out 1).trans rfl;have hcz9_2:w8.cell? ⟨gb117,2,none⟩=some (.slice A0_2 l0_2.length c0_2):=(qab BK117.out 2).trans rfl;have hfz9_0:=qaa BK117.out 0;have hfz9_1:=qaa BK117.out 1;have hfz9_2:=qaa BK117.out 2)|((with_reducible refine qaj (f:=18) rfl ?_);refine goesL_ (some 5) rfl rfl Try.func18 (by kernel_rfl) rfl #[.int .i64 a0_1,.int .i64 1,.int .i64 6] rfl (by(try simp only[List.map_toArray,List.map_cons,List.map_nil]);first|done|rfl|(simp only[List.length_drop,List.length_take];rfl)) ?_;(with_reducible refine(spec_l6In.calls a0_1 1 6 true _ A2.out).mono ?_);rintro e w' ⟨rfl,⟨nd,rfl⟩⟩;refine⟨_,rfl,?_⟩;have p119:0≤(0:Int):=(by omega);have q119:0<(l0_2.length:Int):=of_decide_eq_true (za6);obtain⟨ad119,e119,hx119_0⟩:=Kd.at_int HR0_2.out 0 p119 q119;cases e119;have qi119:(0<l0_2.length)=True:=eq_true (by omega);(try rw[show((0:Int)).toNat=0 from rfl] at hx119_0);(try rw[Addr.add_zero'] at hx119_0);replace hx119_0:=(HB.out.cell (World.block_lt_of_cell? w _ hx119_0)).trans hx119_0;replace p119:=eq_true p119;replace q119:=eq_true q119)|(go_at_call 18;(with_reducible refine(spec_l6In.calls (rd l0_2 0) 1 3 t120 _ A7.out).mono ?_);rintro e w' ⟨rfl,⟨nd,rfl⟩⟩))
     go_ret
     exact⟨za8,za1 HB GE117⟩
    ·rw[if_neg c6] at H
     exact absurd H (by simp)
   ·rw[if_neg c5] at H
    have c5b0:((l0_2.length:Int) == 1)=false:=beq_eq_false_iff_ne.mpr c5
    have c5b1:((l0_2.length:Int) != 1)=true:=bne_iff_ne.mpr c5
    obtain rfl:=Option.some.inj H
    go_enter Try.func33,Try.ntmps33
    go_wp2_with(first|((with_reducible refine qak (N:=1) rfl ?_);(try(refine gate_guard (by rfl) ?_;dsimp only));refine qai ?hg (N:=1) ?hd (cs:=#[.int .i64 a0_0,.int .i64 a0_1,.slice A0_2 l0_2.length c0_2]) (t:=62) ?hr ?_;(case hd=>rfl);(case hg=>rfl);(case hr=>first|(go_simp;done)|(go_simp;rfl));intro gb117 hg w10 hbox hb;have n0_:=qam.mk (qad (za2 HB) hb);have n1_:=qam.mk (hbox);have n2_:=qam.mk ((by rw[hg];exact(qac (za2 HB)):w.heap.size≤gb117));have n3_:=qam.mk ((by rw[hg];exact(qac (za2 HB)):w.heap.size≤gb117));clear HB;have HB:=n0_;have BK117:=n1_;have GW117:=n2_;have GE117:=n3_;clear n0_ n1_ n2_ n3_;clear hb hbox hg;have hcz11_0:w10.cell? ⟨gb117,0,none⟩=some (.int .i64 a0_0):=(qab BK117.out 0).trans rfl;have hcz11_1:w10.cell? ⟨gb117,1,none⟩=some (.int .i64 a0_1):=(qab BK117.out 1).trans rfl;have hcz11_2:w10.cell? ⟨gb117,2,none⟩=some (.slice A0_2 l0_2.length c0_2):=(qab BK117.out 2).trans rfl;have hfz11_0:=qaa BK117.out 0;have hfz11_1:=qaa BK117.out 1;have hfz11_2:=qaa BK117.out 2)|((with_reducible refine qaj (f:=18) rfl ?_);refine goesL_ (some 5) rfl rfl Try.func18 (by kernel_rfl) rfl #[.int .i64 a0_1,.int .i64 1,.int .i64 6] rfl (by(try simp only[List.map_toArray,List.map_cons,List.map_nil]);first|done|rfl|(simp only[List.length_drop,List.length_take];rfl)) ?_;(with_reducible refine(spec_l6In.calls a0_1 1 6 true _ A2.out).mono ?_);rintro e w' ⟨rfl,⟨nd,rfl⟩⟩;refine⟨_,rfl,?_⟩))
    go_ret
    exact⟨za8,za1 HB GE117⟩
  ·rw[if_neg c4] at H
   have c4b0:(a0_0 == 1)=false:=beq_eq_false_iff_ne.mpr c4
   have c4b1:(a0_0 != 1)=true:=bne_iff_ne.mpr c4
   by_cases c12:a0_0=4
   ·rw[if_pos c12] at H
    have c12b0:(a0_0 == 4)=true:=beq_iff_eq.mpr c12
    have c12b1:(a0_0 != 4)=false:=bne_eq_false_iff_eq.mpr c12
    clear c12
    replace H:=Option.bind_eq_some_iff.mp H
    obtain⟨t121,A130,H⟩:=H
    replace H:(some t121)=some r:=H
    have A13:=qam.mk A130
    clear A130
    obtain rfl:=Option.some.inj H
    go_enter Try.func33,Try.ntmps33
    go_wp2_with(first|((with_reducible refine qak (N:=1) rfl ?_);(try(refine gate_guard (by rfl) ?_;dsimp only));refine qai ?hg (N:=1) ?hd (cs:=#[.int .i64 a0_0,.int .i64 a0_1,.slice A0_2 l0_2.length c0_2]) (t:=62) ?hr ?_;(case hd=>rfl);(case hg=>rfl);(case hr=>first|(go_simp;done)|(go_simp;rfl));intro gb117 hg w14 hbox hb;have n0_:=qam.mk (qad (za2 HB) hb);have n1_:=qam.mk (hbox);have n2_:=qam.mk ((by rw[hg];exact(qac (za2 HB)):w.heap.size≤gb117));have n3_:=qam.mk ((by rw[hg];exact(qac (za2 HB)):w.heap.size≤gb117));clear HB;have HB:=n0_;have BK117:=n1_;have GW117:=n2_;have GE117:=n3_;clear n0_ n1_ n2_ n3_;clear hb hbox hg;have hcz15_0:w14.cell? ⟨gb117,0,none⟩=some (.int .i64 a0_0):=(qab BK117.out 0).trans rfl;have hcz15_1:w14.cell? ⟨gb117,1,none⟩=some (.int .i64 a0_1):=(qab BK117.out 1).trans rfl;have hcz15_2:w14.cell? ⟨gb117,2,none⟩=some (.slice A0_2 l0_2.length c0_2):=(qab BK117.out 2).trans rfl;have hfz15_0:=qaa BK117.out 0;have hfz15_1:=qaa BK117.out 1;have hfz15_2:=qaa BK117.out 2)|((with_reducible refine qaj (f:=18) rfl ?_);refine goesL_ (some 5) rfl rfl Try.func18 (by kernel_rfl) rfl #[.int .i64 a0_1,.int .i64 1,.int .i64 6] rfl (by(try simp only[List.map_toArray,List.map_cons,List.map_nil]);first|done|rfl|(simp only[List.length_drop,List.length_take];rfl)) ?_;(with_reducible refine(spec_l6In.calls a0_1 1 6 true _ A2.out).mono ?_);rintro e w' ⟨rfl,⟨nd,rfl⟩⟩;refine⟨_,rfl,?_⟩)|((with_reducible refine qaj (f:=48) rfl ?_);refine goesL_ (some 26) rfl rfl Try.func48 (by kernel_rfl) rfl #[.slice A0_2 l0_2.length c0_2] rfl (by(try simp only[List.map_toArray,List.map_cons,List.map_nil]);first|done|rfl|(simp only[List.length_drop,List.length_take];rfl)) ?_;(with_reducible refine(spec_l1Many.calls k _ _ l0_2 t121 _ ?side1 ?side2 A13.out).mono ?_);(case side1=>repeat(first|exact(Kd.C_below HR0_2.out (za1 HB GE117))|(with_reducible refine Kd.C_alloc ?_ _)|(with_reducible refine Kd.C_drewN ?_ _)|(with_reducible refine Kd.C_drew ?_)));(case side2=>exact HC0_2.out);rintro e w' ⟨rfl,⟨nd,rfl⟩⟩;refine⟨_,rfl,?_⟩))
    go_ret
    exact⟨za8,za1 HB GE117⟩
   ·rw[if_neg c12] at H
    have c12b0:(a0_0 == 4)=false:=beq_eq_false_iff_ne.mpr c12
    have c12b1:(a0_0 != 4)=true:=bne_iff_ne.mpr c12
    replace H:=Option.bind_eq_some_iff.mp H
    obtain⟨t122,A160,H⟩:=H
    replace H:(if t122=true then(some ((l0_2.length:Int) == 0)) else(some false))=some r:=H
    have A16:=qam.mk A160
    clear A160
    by_cases c17:t122=true
    ·subst c17
     have H1:(some ((l0_2.length:Int) == 0))=some r:=by rw[if_pos rfl] at H;exact H
     clear H
     have H:=H1
     clear H1
     obtain rfl:=Option.some.inj H
     go_enter Try.func33,Try.ntmps33
     go_wp2_with(first|((with_reducible refine qak (N:=1) rfl ?_);(try(refine gate_guard (by rfl) ?_;dsimp only));refine qai ?hg (N:=1) ?hd (cs:=#[.int .i64 a0_0,.int .i64 a0_1,.slice A0_2 l0_2.length c0_2]) (t:=62) ?hr ?_;(case hd=>rfl);(case hg=>rfl);(case hr=>first|(go_simp;done)|(go_simp;rfl));intro gb117 hg w18 hbox hb;have n0_:=qam.mk (qad (za2 HB) hb);have n1_:=qam.mk (hbox);have n2_:=qam.mk ((by rw[hg];exact(qac (za2 HB)):w.heap.size≤gb117));have n3_:=qam.mk ((by rw[hg];exact(qac (za2 HB)):w.heap.size≤gb117));clear HB;have HB:=n0_;have BK117:=n1_;have GW117:=n2_;have GE117:=n3_;clear n0_ n1_ n2_ n3_;clear hb hbox hg;have hcz19_0:w18.cell? ⟨gb117,0,none⟩=some (.int .i64 a0_0):=(qab BK117.out 0).trans rfl;have hcz19_1:w18.cell? ⟨gb117,1,none⟩=some (.int .i64 a0_1):=(qab BK117.out 1).trans rfl;have hcz19_2:w18.cell? ⟨gb117,2,none⟩=some (.slice A0_2 l0_2.length c0_2):=(qab BK117.out 2).trans rfl;have hfz19_0:=qaa BK117.out 0;have hfz19_1:=qaa BK117.out 1;have hfz19_2:=qaa BK117.out 2)|((with_reducible refine qaj (f:=18) rfl ?_);refine goesL_ (some 5) rfl rfl Try.func18 (by kernel_rfl) rfl #[.int .i64 a0_1,.int .i64 1,.int .i64 6] rfl (by(try simp only[List.map_toArray,List.map_cons,List.map_nil]);first|done|rfl|(simp only[List.length_drop,List.length_take];rfl)) ?_;(with_reducible refine(spec_l6In.calls a0_1 1 6 true _ A2.out).mono ?_);rintro e w' ⟨rfl,⟨nd,rfl⟩⟩;refine⟨_,rfl,?_⟩)|((with_reducible refine qaj (f:=18) rfl ?_);refine goesL_ (some 29) rfl rfl Try.func18 (by kernel_rfl) rfl #[.int .i64 a0_0,.int .i64 2,.int .i64 7] rfl (by(try simp only[List.map_toArray,List.map_cons,List.map_nil]);first|done|rfl|(simp only[List.length_drop,List.length_take];rfl)) ?_;(with_reducible refine(spec_l6In.calls a0_0 2 7 true _ A16.out).mono ?_);rintro e w' ⟨rfl,⟨nd,rfl⟩⟩;refine⟨_,rfl,?_⟩))
     go_ret
     exact⟨za8,za1 HB GE117⟩
    ·replace c17:=Bool.eq_false_iff.mpr c17
     subst c17
     have H1:(some false)=some r:=by rw[if_neg (show ¬(false=true) by decide)] at H;exact H
     clear H
     have H:=H1
     clear H1
     obtain rfl:=Option.some.inj H
     go_enter Try.func33,Try.ntmps33
     go_wp2_with(first|((with_reducible refine qak (N:=1) rfl ?_);(try(refine gate_guard (by rfl) ?_;dsimp only));refine qai ?hg (N:=1) ?hd (cs:=#[.int .i64 a0_0,.int .i64 a0_1,.slice A0_2 l0_2.length c0_2]) (t:=62) ?hr ?_;(case hd=>rfl);(case hg=>rfl);(case hr=>first|(go_simp;done)|(go_simp;rfl));intro gb117 hg w20 hbox hb;have n0_:=qam.mk (qad (za2 HB) hb);have n1_:=qam.mk (hbox);have n2_:=qam.mk ((by rw[hg];exact(qac (za2 HB)):w.heap.size≤gb117));have n3_:=qam.mk ((by rw[hg];exact(qac (za2 HB)):w.heap.size≤gb117));clear HB;have HB:=n0_;have BK117:=n1_;have GW117:=n2_;have GE117:=n3_;clear n0_ n1_ n2_ n3_;clear hb hbox hg;have hcz21_0:w20.cell? ⟨gb117,0,none⟩=some (.int .i64 a0_0):=(qab BK117.out 0).trans rfl;have hcz21_1:w20.cell? ⟨gb117,1,none⟩=some (.int .i64 a0_1):=(qab BK117.out 1).trans rfl;have hcz21_2:w20.cell? ⟨gb117,2,none⟩=some (.slice A0_2 l0_2.length c0_2):=(qab BK117.out 2).trans rfl;have hfz21_0:=qaa BK117.out 0;have hfz21_1:=qaa BK117.out 1;have hfz21_2:=qaa BK117.out 2)|((with_reducible refine qaj (f:=18) rfl ?_);refine goesL_ (some 5) rfl rfl Try.func18 (by kernel_rfl) rfl #[.int .i64 a0_1,.int .i64 1,.int .i64 6] rfl (by(try simp only[List.map_toArray,List.map_cons,List.map_nil]);first|done|rfl|(simp only[List.length_drop,List.length_take];rfl)) ?_;(with_reducible refine(spec_l6In.calls a0_1 1 6 true _ A2.out).mono ?_);rintro e w' ⟨rfl,⟨nd,rfl⟩⟩;refine⟨_,rfl,?_⟩)|((with_reducible refine qaj (f:=18) rfl ?_);refine goesL_ (some 29) rfl rfl Try.func18 (by kernel_rfl) rfl #[.int .i64 a0_0,.int .i64 2,.int .i64 7] rfl (by(try simp only[List.map_toArray,List.map_cons,List.map_nil]);first|done|rfl|(simp only[List.length_drop,List.length_take];rfl)) ?_;(with_reducible refine(spec_l6In.calls a0_0 2 7 false _ A16.out).mono ?_);rintro e w' ⟨rfl,⟨nd,rfl⟩⟩;refine⟨_,rfl,?_⟩))
     go_ret
     exact⟨za8,za1 HB GE117⟩
 ·replace c3:=Bool.eq_false_iff.mpr c3
  subst c3
  have H1:(some false)=some r:=by rw[if_neg (show ¬(false=true) by decide)] at H;exact H
  clear H
  have H:=H1
  clear H1
  obtain rfl:=Option.some.inj H
  go_enter Try.func33,Try.ntmps33
  go_wp2_with(first|((with_reducible refine qak (N:=1) rfl ?_);(try(refine gate_guard (by rfl) ?_;dsimp only));refine qai ?hg (N:=1) ?hd (cs:=#[.int .i64 a0_0,.int .i64 a0_1,.slice A0_2 l0_2.length c0_2]) (t:=62) ?hr ?_;(case hd=>rfl);(case hg=>rfl);(case hr=>first|(go_simp;done)|(go_simp;rfl));intro gb117 hg w22 hbox hb;have n0_:=qam.mk (qad (za2 HB) hb);have n1_:=qam.mk (hbox);have n2_:=qam.mk ((by rw[hg];exact(qac (za2 HB)):w.heap.size≤gb117));have n3_:=qam.mk ((by rw[hg];exact(qac (za2 HB)):w.heap.size≤gb117));clear HB;have HB:=n0_;have BK117:=n1_;have GW117:=n2_;have GE117:=n3_;clear n0_ n1_ n2_ n3_;clear hb hbox hg;have hcz23_0:w22.cell? ⟨gb117,0,none⟩=some (.int .i64 a0_0):=(qab BK117.out 0).trans rfl;have hcz23_1:w22.cell? ⟨gb117,1,none⟩=some (.int .i64 a0_1):=(qab BK117.out 1).trans rfl;have hcz23_2:w22.cell? ⟨gb117,2,none⟩=some (.slice A0_2 l0_2.length c0_2):=(qab BK117.out 2).trans rfl;have hfz23_0:=qaa BK117.out 0;have hfz23_1:=qaa BK117.out 1;have hfz23_2:=qaa BK117.out 2)|((with_reducible refine qaj (f:=18) rfl ?_);refine goesL_ (some 5) rfl rfl Try.func18 (by kernel_rfl) rfl #[.int .i64 a0_1,.int .i64 1,.int .i64 6] rfl (by(try simp only[List.map_toArray,List.map_cons,List.map_nil]);first|done|rfl|(simp only[List.length_drop,List.length_take];rfl)) ?_;(with_reducible refine(spec_l6In.calls a0_1 1 6 false _ A2.out).mono ?_);rintro e w' ⟨rfl,⟨nd,rfl⟩⟩;refine⟨_,rfl,?_⟩))
  go_ret
  exact⟨za8,za1 HB GE117⟩
def spec_l2Free.l0:Nat→Int→Int→Int→List (S72)→Option (Int)
 |0,_,_,_,_=>none
 |k+1,x3,x4,x124000,x124001=>if x4<(x124001.length:Int) then(if 0≤x4 then(if((rd_T72 x124001 x4).f1)=1 then(spec_l2Free.l0 k (wrap64 (x3 - ((rd_T72 x124001 x4).f0))) (wrap64 (x4+1)) x124000 x124001) else(if((rd_T72 x124001 x4).f1)=2 then(spec_l2Free.l0 k (wrap64 (x3 - ((rd_T72 x124001 x4).f0))) (wrap64 (x4+1)) x124000 x124001) else(spec_l2Free.l0 k x3 (wrap64 (x4+1)) x124000 x124001))) else(none)) else(some x3)
def spec_l2Free.f (k:Nat) (a0_0:Int) (l0_1:List (S72)):Option (Int):=spec_l2Free.l0 k a0_0 0 a0_0 l0_1
theorem spec_l2Free.mono_l:∀k,(∀y0 y1 y2 y3,LeO (spec_l2Free.l0 k y0 y1 y2 y3) (spec_l2Free.l0 (k+1) y0 y1 y2 y3))
 |0=>fun _ _ _ _ r h=>by simp[spec_l2Free.l0] at h
 |k+1=>by
  have ih0:=spec_l2Free.mono_l k
  ·intro y0 y1 y2 y3
   unfold spec_l2Free.l0
   repeat' first
   |(with_reducible exact ih0 _ _ _ _)
   |(with_reducible exact LeO.refl _)
   |(with_reducible exact LeO.none _)
   |(with_reducible refine LeO.ite ?_ ?_)
   |(with_reducible refine LeO.bind ?_ (fun _=>?_))
   |exact ih0 _ _ _ _
   |exact LeO.none _
   |refine LeO.ite ?_ ?_
   |refine LeO.bind ?_ (fun _=>?_)
theorem spec_l2Free.mono:∀a0 a1 k,LeO (spec_l2Free.f k a0 a1) (spec_l2Free.f (k+1) a0 a1):=by
 intro a0 a1 k
 have ih0:=spec_l2Free.mono_l k
 unfold spec_l2Free.f
 repeat' first
   |(with_reducible exact ih0 _ _ _ _)
   |(with_reducible exact LeO.refl _)
   |(with_reducible exact LeO.none _)
   |(with_reducible refine LeO.ite ?_ ?_)
   |(with_reducible refine LeO.bind ?_ (fun _=>?_))
   |exact ih0 _ _ _ _
   |exact LeO.none _
   |refine LeO.ite ?_ ?_
   |refine LeO.bind ?_ (fun _=>?_)
set_option maxHeartbeats 8000000 in
set_option maxRecDepth 100000 in
theorem spec_l2Free.calls (k:Nat) (a0_0:Int) (A0_1:Option Addr) (c0_1:Nat) (l0_1:List (S72)) (r:Int) (w:World) (hr0_1:Kd.C k72 w A0_1 l0_1.length l0_1) (hc0_1:l0_1.length≤c0_1) (h:spec_l2Free.f k a0_0 l0_1=some r) :
  Calls Try.prog 49 #[.agg #[.int .i64 a0_0,.slice A0_1 l0_1.length c0_1]] w fun e w'=>e=.returned (.int .i64 r)∧Below w.heap.size w w':=by
 have hu39:=Try.underlying39
 have HR0_1:=qam.mk hr0_1
 have HC0_1:=qam.mk hc0_1
 clear hr0_1 hc0_1
 have HB:=qam.mk (Below.refl w.heap.size w)
 have H:(spec_l2Free.l0 k a0_0 0 a0_0 l0_1)=some r:=h
 clear h
 have H':=qam.mk H
 clear H
 go_enter Try.func49,Try.ntmps49
 go_wp2_with(first|((with_reducible refine qak (N:=1) rfl ?_);refine qai ?hg (N:=1) ?hd (cs:=#[.int .i64 a0_0,.slice A0_1 l0_1.length c0_1]) (t:=39) ?hr ?_;(case hd=>rfl);(case hg=>rfl);(case hr=>first|(go_simp;done)|(go_simp;rfl));intro gb123 hg w2 hbox hb;have n0_:=qam.mk (qad (za2 HB) hb);have n1_:=qam.mk (hbox);have n2_:=qam.mk ((by rw[hg];exact(qac (za2 HB)):w.heap.size≤gb123));have n3_:=qam.mk ((by rw[hg];exact(qac (za2 HB)):w.heap.size≤gb123));clear HB;have HB:=n0_;have BK123:=n1_;have GW123:=n2_;have GE123:=n3_;clear n0_ n1_ n2_ n3_;clear hb hbox hg;have hcz3_0:w2.cell? ⟨gb123,0,none⟩=some (.int .i64 a0_0):=(qab BK123.out 0).trans rfl;have hcz3_1:w2.cell? ⟨gb123,1,none⟩=some (.slice A0_1 l0_1.length c0_1):=(qab BK123.out 1).trans rfl;have hfz3_0:=qaa BK123.out 0;have hfz3_1:=qaa BK123.out 1))
 go_loopg [3,4] k (fun kq v3 v4 w'=>∃(x3_1:Int) (x4_1:Int),v3=.int .i64 x3_1∧v4=.int .i64 x4_1∧qam (spec_l2Free.l0 kq x3_1 x4_1 a0_0 l0_1=some r)∧qam (kq≤k)∧qam (w'.heap[gb123]?=some (.cells #[.int .i64 a0_0,(.slice A0_1 l0_1.length c0_1)] 39 (0,0)))∧qam (Below w.heap.size w w'))
 case atStart=>exact⟨(a0_0),(0),(za11),(za11),H',⟨Nat.le_refl _⟩,⟨za0 BK123⟩,⟨za1 HB GE123⟩⟩
 case round=>
  clear H'
  try clear p2
  try clear hcz3_0
  try clear hcz3_1
  try clear hfz3_0
  try clear hfz3_1
  obtain⟨x3_1,x4_1,rfl,rfl,HA,HK1,BK123,HB⟩:=hrel
  cases gk with
  |zero=>exact absurd HA.out (by simp[spec_l2Free.l0])
  |succ k1=>
   have H:=HA.out
   clear HA
   simp only[spec_l2Free.l0] at H
   by_cases c4:x4_1<(l0_1.length:Int)
   ·rw[if_pos c4] at H
    have c4b0:decide (x4_1<(l0_1.length:Int))=true:=decide_eq_true c4
    clear c4
    by_cases c5:0≤x4_1
    ·rw[if_pos c5] at H
     have c5b0:decide (0≤x4_1)=true:=decide_eq_true c5
     clear c5
     by_cases c6:((rd_T72 l0_1 x4_1).f1)=1
     ·rw[if_pos c6] at H
      have c6b0:(((rd_T72 l0_1 x4_1).f1) == 1)=true:=beq_iff_eq.mpr c6
      have c6b1:(((rd_T72 l0_1 x4_1).f1) != 1)=false:=bne_eq_false_iff_eq.mpr c6
      clear c6
      have H':=qam.mk H
      clear H
      have hcz7_0:wr.cell? ⟨gb123,0,none⟩=some (.int .i64 a0_0):=(qab BK123.out 0).trans rfl
      have hcz7_1:wr.cell? ⟨gb123,1,none⟩=some (.slice A0_1 l0_1.length c0_1):=(qab BK123.out 1).trans rfl
      have hfz7_0:=qaa BK123.out 0
      have hfz7_1:=qaa BK123.out 1
      have p124:0≤(x4_1:Int):=of_decide_eq_true (za6)
      have q124:x4_1<(l0_1.length:Int):=of_decide_eq_true (za6)
      obtain⟨ad124,e124,hx124_0,hx124_1⟩:=at_T72 HR0_1.out x4_1 p124 q124
      cases e124
      replace hx124_0:=(HB.out.cell (World.block_lt_of_cell? w _ hx124_0)).trans hx124_0
      replace hx124_1:=(HB.out.cell (World.block_lt_of_cell? w _ hx124_1)).trans hx124_1
      replace p124:=eq_true p124
      replace q124:=eq_true q124
      have p125:0≤(x4_1:Int):=of_decide_eq_true (za6)
      have q125:x4_1<(l0_1.length:Int):=of_decide_eq_true (za6)
      obtain⟨ad125,e125,hx125_0,hx125_1⟩:=at_T72 HR0_1.out x4_1 p125 q125
      obtain rfl:ad124=ad125:=(by injection e125)
      replace hx125_0:=(HB.out.cell (World.block_lt_of_cell? w _ hx125_0)).trans hx125_0
      replace hx125_1:=(HB.out.cell (World.block_lt_of_cell? w _ hx125_1)).trans hx125_1
      replace p125:=eq_true p125
      replace q125:=eq_true q125
      go_wp2
      go_roundg k1
      case measure=>have:=HK1.out;omega
      case rel=>exact⟨(wrap64 (x3_1 - ((rd_T72 l0_1 x4_1).f0))),(wrap64 (x4_1+1)),(za11),(za11),H',⟨by have:=HK1.out;omega⟩,⟨za0 BK123⟩,⟨za1 HB GE123⟩⟩
     ·rw[if_neg c6] at H
      have c6b0:(((rd_T72 l0_1 x4_1).f1) == 1)=false:=beq_eq_false_iff_ne.mpr c6
      have c6b1:(((rd_T72 l0_1 x4_1).f1) != 1)=true:=bne_iff_ne.mpr c6
      by_cases c8:((rd_T72 l0_1 x4_1).f1)=2
      ·rw[if_pos c8] at H
       have c8b0:(((rd_T72 l0_1 x4_1).f1) == 2)=true:=beq_iff_eq.mpr c8
       have c8b1:(((rd_T72 l0_1 x4_1).f1) != 2)=false:=bne_eq_false_iff_eq.mpr c8
       clear c8
       have H':=qam.mk H
       clear H
       have hcz9_0:wr.cell? ⟨gb123,0,none⟩=some (.int .i64 a0_0):=(qab BK123.out 0).trans rfl
       have hcz9_1:wr.cell? ⟨gb123,1,none⟩=some (.slice A0_1 l0_1.length c0_1):=(qab BK123.out 1).trans rfl
       have hfz9_0:=qaa BK123.out 0
       have hfz9_1:=qaa BK123.out 1
       have p124:0≤(x4_1:Int):=of_decide_eq_true (za6)
       have q124:x4_1<(l0_1.length:Int):=of_decide_eq_true (za6)
       obtain⟨ad124,e124,hx124_0,hx124_1⟩:=at_T72 HR0_1.out x4_1 p124 q124
       cases e124
       replace hx124_0:=(HB.out.cell (World.block_lt_of_cell? w _ hx124_0)).trans hx124_0
       replace hx124_1:=(HB.out.cell (World.block_lt_of_cell? w _ hx124_1)).trans hx124_1
       replace p124:=eq_true p124
       replace q124:=eq_true q124
       have p126:0≤(x4_1:Int):=of_decide_eq_true (za6)
       have q126:x4_1<(l0_1.length:Int):=of_decide_eq_true (za6)
       obtain⟨ad126,e126,hx126_0,hx126_1⟩:=at_T72 HR0_1.out x4_1 p126 q126
       obtain rfl:ad124=ad126:=(by injection e126)
       replace hx126_0:=(HB.out.cell (World.block_lt_of_cell? w _ hx126_0)).trans hx126_0
       replace hx126_1:=(HB.out.cell (World.block_lt_of_cell? w _ hx126_1)).trans hx126_1
       replace p126:=eq_true p126
       replace q126:=eq_true q126
       have p127:0≤(x4_1:Int):=of_decide_eq_true (za6)
       have q127:x4_1<(l0_1.length:Int):=of_decide_eq_true (za6)
       obtain⟨ad127,e127,hx127_0,hx127_1⟩:=at_T72 HR0_1.out x4_1 p127 q127
       obtain rfl:ad124=ad127:=(by injection e127)
       replace hx127_0:=(HB.out.cell (World.block_lt_of_cell? w _ hx127_0)).trans hx127_0
       replace hx127_1:=(HB.out.cell (World.block_lt_of_cell? w _ hx127_1)).trans hx127_1
       replace p127:=eq_true p127
       replace q127:=eq_true q127
       go_wp2
       go_roundg k1
       case measure=>have:=HK1.out;omega
       case rel=>exact⟨(wrap64 (x3_1 - ((rd_T72 l0_1 x4_1).f0))),(wrap64 (x4_1+1)),(za11),(za11),H',⟨by have:=HK1.out;omega⟩,⟨za0 BK123⟩,⟨za1 HB GE123⟩⟩
      ·rw[if_neg c8] at H
       have c8b0:(((rd_T72 l0_1 x4_1).f1) == 2)=false:=beq_eq_false_iff_ne.mpr c8
       have c8b1:(((rd_T72 l0_1 x4_1).f1) != 2)=true:=bne_iff_ne.mpr c8
       have H':=qam.mk H
       clear H
       have hcz10_0:wr.cell? ⟨gb123,0,none⟩=some (.int .i64 a0_0):=(qab BK123.out 0).trans rfl
       have hcz10_1:wr.cell? ⟨gb123,1,none⟩=some (.slice A0_1 l0_1.length c0_1):=(qab BK123.out 1).trans rfl
       have hfz10_0:=qaa BK123.out 0
       have hfz10_1:=qaa BK123.out 1
       have p124:0≤(x4_1:Int):=of_decide_eq_true (za6)
       have q124:x4_1<(l0_1.length:Int):=of_decide_eq_true (za6)
       obtain⟨ad124,e124,hx124_0,hx124_1⟩:=at_T72 HR0_1.out x4_1 p124 q124
       cases e124
       replace hx124_0:=(HB.out.cell (World.block_lt_of_cell? w _ hx124_0)).trans hx124_0
       replace hx124_1:=(HB.out.cell (World.block_lt_of_cell? w _ hx124_1)).trans hx124_1
       replace p124:=eq_true p124
       replace q124:=eq_true q124
       have p126:0≤(x4_1:Int):=of_decide_eq_true (za6)
       have q126:x4_1<(l0_1.length:Int):=of_decide_eq_true (za6)
       obtain⟨ad126,e126,hx126_0,hx126_1⟩:=at_T72 HR0_1.out x4_1 p126 q126
       obtain rfl:ad124=ad126:=(by injection e126)
       replace hx126_0:=(HB.out.cell (World.block_lt_of_cell? w _ hx126_0)).trans hx126_0
       replace hx126_1:=(HB.out.cell (World.block_lt_of_cell? w _ hx126_1)).trans hx126_1
       replace p126:=eq_true p126
       replace q126:=eq_true q126
       go_wp2
       go_roundg k1
       case measure=>have:=HK1.out;omega
       case rel=>exact⟨(x3_1),(wrap64 (x4_1+1)),(za11),(za11),H',⟨by have:=HK1.out;omega⟩,⟨za0 BK123⟩,⟨za1 HB GE123⟩⟩
    ·rw[if_neg c5] at H
     exact absurd H (by simp)
   ·rw[if_neg c4] at H
    have c4b0:decide (x4_1<(l0_1.length:Int))=false:=decide_eq_false c4
    clear c4
    obtain rfl:=Option.some.inj H
    have hcz11_0:wr.cell? ⟨gb123,0,none⟩=some (.int .i64 a0_0):=(qab BK123.out 0).trans rfl
    have hcz11_1:wr.cell? ⟨gb123,1,none⟩=some (.slice A0_1 l0_1.length c0_1):=(qab BK123.out 1).trans rfl
    have hfz11_0:=qaa BK123.out 0
    have hfz11_1:=qaa BK123.out 1
    go_wp2
    go_ret
    exact⟨za8,za1 HB GE123⟩
end Go.Proofs.Ytbomcadjkcmcgaa.Print
