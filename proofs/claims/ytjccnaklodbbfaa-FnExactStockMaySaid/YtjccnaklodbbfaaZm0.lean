-- Written by squeeze.py, a program of this session, out of what print.sh and myprint.py had printed: cut to what is used, narrowed. Not trusted, Lean checks it.
import Derived.Test.YtjccnaklodbbfaaZK
import Derived.Test.YtjccnaklodbbfaaZb0
namespace Go.Proofs.Ytjccnaklodbbfaa.Print
open Go.RowKit Go.Proofs.YtjccnaklodbbfaaW.PrintWords Go.Proofs.YtjccnaklodbbfaaW.PrintLast Go.Proofs.YtjccnaklodbbfaaW.PrintMore
attribute [local go_sem] max2_int min2_int max_two min_two max_three min_three max_four min_four
set_option linter.unusedVariables false
set_option linter.unusedSimpArgs false
def spec_l1Many.l0:Nat→List Int→Int→Int→Option (Bool)
 |0,_,_,_=>none
 |k+1,x0,x3,x4=>if x4<(x0.length:Int) then(if 0≤x4 then((spec_l6In.f (rd x0 x4) 0 3).bind fun t296=>(if t296=true then(spec_l1Many.l0 k x0 (wrap64 (x3+(rd x0 x4))) (wrap64 (x4+1))) else(some false))) else(none)) else(if(x0.length:Int)=3 then(some (decide (x3>0))) else(some false))
def spec_l1Many.f (k:Nat) (l0:List Int):Option (Bool):=spec_l1Many.l0 k l0 0 0
theorem spec_l1Many.mono_l:∀k,(∀y0 y1 y2,LeO (spec_l1Many.l0 k y0 y1 y2) (spec_l1Many.l0 (k+1) y0 y1 y2))
 |0=>fun _ _ _ r h=>by simp[spec_l1Many.l0] at h
 |k+1=>by
  have ih0:=spec_l1Many.mono_l k
  ·intro y0 y1 y2
   unfold spec_l1Many.l0
   repeat' first
   |(with_reducible exact ih0 _ _ _)
   |(with_reducible exact LeO.refl _)
   |(with_reducible exact LeO.none _)
   |(with_reducible refine LeO.ite ?_ ?_)
   |(with_reducible refine LeO.bind ?_ (fun _=>?_))
   |exact ih0 _ _ _
   |exact LeO.none _
   |refine LeO.ite ?_ ?_
   |refine LeO.bind ?_ (fun _=>?_)
theorem spec_l1Many.mono:∀a0 k,LeO (spec_l1Many.f k a0) (spec_l1Many.f (k+1) a0):=by
 intro a0 k
 have ih0:=spec_l1Many.mono_l k
 unfold spec_l1Many.f
 repeat' first
   |(with_reducible exact ih0 _ _ _)
   |(with_reducible exact LeO.refl _)
   |(with_reducible exact LeO.none _)
   |(with_reducible refine LeO.ite ?_ ?_)
   |(with_reducible refine LeO.bind ?_ (fun _=>?_))
   |exact ih0 _ _ _
   |exact LeO.none _
   |refine LeO.ite ?_ ?_
   |refine LeO.bind ?_ (fun _=>?_)
set_option maxHeartbeats 8000000 in
set_option maxRecDepth 100000 in
theorem spec_l1Many.calls (k:Nat) (A0:Option Addr) (c0:Nat) (l0:List Int) (r:Bool) (w:World) (hr0:Kd.C (Kd.int .i64) w A0 l0.length l0) (hc0:l0.length≤c0) (h:spec_l1Many.f k l0=some r) :
  Calls Try.prog 86 #[.slice A0 l0.length c0] w fun e w'=>e=.returned (.bool r)∧Drawn0 w w':=by
 have HR0:=qal.mk hr0
 have HC0:=qal.mk hc0
 clear hr0 hc0
 have H:(spec_l1Many.l0 k l0 0 0)=some r:=h
 clear h
 have H':=qal.mk H
 clear H
 go_enter Try.func86,Try.ntmps86
 go_wp2
 go_loopg [3,4] k (fun kq v3 v4 w'=>∃(x3_1:Int) (x4_1:Int),v3=.int .i64 x3_1∧v4=.int .i64 x4_1∧qal (spec_l1Many.l0 kq l0 x3_1 x4_1=some r)∧qal (kq≤k)∧Drawn0 w w')
 case atStart=>exact⟨(0),(0),(za22),(za22),H',⟨Nat.le_refl _⟩,za44⟩
 case round=>
  clear H'
  obtain⟨x3_1,x4_1,rfl,rfl,HA,HK1,⟨m1,rfl⟩⟩:=hrel
  cases gk with
  |zero=>exact absurd HA.out (by simp[spec_l1Many.l0])
  |succ k1=>
   have H:=HA.out
   clear HA
   simp only[spec_l1Many.l0] at H
   by_cases c2:x4_1<(l0.length:Int)
   ·rw[if_pos c2] at H
    have c2b0:decide (x4_1<(l0.length:Int))=true:=decide_eq_true c2
    clear c2
    by_cases c3:0≤x4_1
    ·rw[if_pos c3] at H
     have c3b0:decide (0≤x4_1)=true:=decide_eq_true c3
     clear c3
     replace H:=Option.bind_eq_some_iff.mp H
     obtain⟨t296,A40,H⟩:=H
     replace H:(if t296=true then(spec_l1Many.l0 k1 l0 (wrap64 (x3_1+(rd l0 x4_1))) (wrap64 (x4_1+1))) else(some false))=some r:=H
     have A4:=qal.mk A40
     clear A40
     by_cases c5:t296=true
     ·subst c5
      have H1:(spec_l1Many.l0 k1 l0 (wrap64 (x3_1+(rd l0 x4_1))) (wrap64 (x4_1+1)))=some r:=by rw[if_pos rfl] at H;exact H
      clear H
      have H:=H1
      clear H1
      have H':=qal.mk H
      clear H
      have p295:0≤(x4_1:Int):=of_decide_eq_true (za8)
      have q295:x4_1<(l0.length:Int):=of_decide_eq_true (za8)
      obtain⟨ad295,e295,hx295_0⟩:=Kd.at_int HR0.out x4_1 p295 q295
      cases e295
      replace p295:=eq_true p295
      replace q295:=eq_true q295
      go_wp2_with(first|((with_reducible refine qai (f:=58) rfl ?_);refine qau (some 15) rfl rfl Try.func58 (by kernel_rfl) rfl #[.int .i64 (rd l0 x4_1),.int .i64 0,.int .i64 3] rfl (by(try simp only[List.map_toArray,List.map_cons,List.map_nil]);first|done|rfl|(simp only[List.length_drop,List.length_take];rfl)) ?_;(with_reducible refine(spec_l6In.calls (rd l0 x4_1) 0 3 true _ A4.out).mono ?_);rintro e w' ⟨rfl,⟨nd,rfl⟩⟩;refine⟨_,rfl,?_⟩;have p297:0≤(x4_1:Int):=of_decide_eq_true (za8);have q297:x4_1<(l0.length:Int):=of_decide_eq_true (za8);obtain⟨ad297,e297,hx297_0⟩:=Kd.at_int HR0.out x4_1 p297 q297;obtain rfl:ad295=ad297:=(by injection e297);replace p297:=eq_true p297;replace q297:=eq_true q297))
      go_roundg k1
      case measure=>have:=HK1.out;omega
      case rel=>exact⟨(wrap64 (x3_1+(rd l0 x4_1))),(wrap64 (x4_1+1)),(za22),(za22),H',⟨by have:=HK1.out;omega⟩,za44⟩
     ·replace c5:=Bool.eq_false_iff.mpr c5
      subst c5
      have H1:(some false)=some r:=by rw[if_neg (show ¬(false=true) by decide)] at H;exact H
      clear H
      have H:=H1
      clear H1
      obtain rfl:=Option.some.inj H
      have p295:0≤(x4_1:Int):=of_decide_eq_true (za8)
      have q295:x4_1<(l0.length:Int):=of_decide_eq_true (za8)
      obtain⟨ad295,e295,hx295_0⟩:=Kd.at_int HR0.out x4_1 p295 q295
      cases e295
      replace p295:=eq_true p295
      replace q295:=eq_true q295
      go_wp2_with(first|((with_reducible refine qai (f:=58) rfl ?_);refine qau (some 15) rfl rfl Try.func58 (by kernel_rfl) rfl #[.int .i64 (rd l0 x4_1),.int .i64 0,.int .i64 3] rfl (by(try simp only[List.map_toArray,List.map_cons,List.map_nil]);first|done|rfl|(simp only[List.length_drop,List.length_take];rfl)) ?_;(with_reducible refine(spec_l6In.calls (rd l0 x4_1) 0 3 false _ A4.out).mono ?_);rintro e w' ⟨rfl,⟨nd,rfl⟩⟩;refine⟨_,rfl,?_⟩))
      go_ret
      exact⟨za22,za44⟩
    ·rw[if_neg c3] at H
     exact absurd H (by simp)
   ·rw[if_neg c2] at H
    have c2b0:decide (x4_1<(l0.length:Int))=false:=decide_eq_false c2
    clear c2
    by_cases c6:(l0.length:Int)=3
    ·rw[if_pos c6] at H
     have c6b0:((l0.length:Int) == 3)=true:=beq_iff_eq.mpr c6
     have c6b1:((l0.length:Int) != 3)=false:=bne_eq_false_iff_eq.mpr c6
     clear c6
     obtain rfl:=Option.some.inj H
     go_wp2
     go_ret
     exact⟨za22,za44⟩
    ·rw[if_neg c6] at H
     have c6b0:((l0.length:Int) == 3)=false:=beq_eq_false_iff_ne.mpr c6
     have c6b1:((l0.length:Int) != 3)=true:=bne_iff_ne.mpr c6
     obtain rfl:=Option.some.inj H
     go_wp2
     go_ret
     exact⟨za22,za44⟩
def spec_RecOk.f (k:Nat) (a0_0:Int) (a0_1:Int) (l0_2:List Int):Option (Bool):=(spec_l6In.f a0_1 1 6).bind fun t299=>(if t299=true then(if a0_0=1 then(if(l0_2.length:Int)=1 then(if 0<(l0_2.length:Int) then((spec_l6In.f (rd l0_2 0) 1 3).bind fun t301=>(some t301)) else(none)) else(some false)) else(if a0_0=4 then((spec_l1Many.f k l0_2).bind fun t302=>(some t302)) else((spec_l6In.f a0_0 2 7).bind fun t303=>(if t303=true then(some ((l0_2.length:Int) == 0)) else(some false))))) else(some false))
theorem spec_RecOk.mono:∀a0 a1 a2 k,LeO (spec_RecOk.f k a0 a1 a2) (spec_RecOk.f (k+1) a0 a1 a2):=by
 intro a0 a1 a2 k
 unfold spec_RecOk.f
 repeat' first
   |(with_reducible exact spec_l1Many.mono _ _)
   |(with_reducible exact LeO.refl _)
   |(with_reducible exact LeO.none _)
   |(with_reducible refine LeO.ite ?_ ?_)
   |(with_reducible refine LeO.bind ?_ (fun _=>?_))
   |exact spec_l1Many.mono _ _
   |exact LeO.none _
   |refine LeO.ite ?_ ?_
   |refine LeO.bind ?_ (fun _=>?_)
set_option maxHeartbeats 8000000 in
set_option maxRecDepth 100000 in
theorem spec_RecOk.calls (k:Nat) (a0_0:Int) (a0_1:Int) (A0_2:Option Addr) (c0_2:Nat) (l0_2:List Int) (r:Bool) (w:World) (hr0_2:Kd.C (Kd.int .i64) w A0_2 l0_2.length l0_2) (hc0_2:l0_2.length≤c0_2) (h:spec_RecOk.f k a0_0 a0_1 l0_2=some r) :
  Calls Try.prog 44 #[.agg #[.int .i64 a0_0,.int .i64 a0_1,.slice A0_2 l0_2.length c0_2]] w fun e w'=>e=.returned (.bool r)∧Below w.heap.size w w':=by
 have hu62:=Try.underlying62
 have HR0_2:=qal.mk hr0_2
 have HC0_2:=qal.mk hc0_2
 clear hr0_2 hc0_2
 have HB:=qal.mk (Below.refl w.heap.size w)
 have H:((spec_l6In.f a0_1 1 6).bind fun t299=>(if t299=true then(if a0_0=1 then(if(l0_2.length:Int)=1 then(if 0<(l0_2.length:Int) then((spec_l6In.f (rd l0_2 0) 1 3).bind fun t301=>(some t301)) else(none)) else(some false)) else(if a0_0=4 then((spec_l1Many.f k l0_2).bind fun t302=>(some t302)) else((spec_l6In.f a0_0 2 7).bind fun t303=>(if t303=true then(some ((l0_2.length:Int) == 0)) else(some false))))) else(some false)))=some r:=h
 clear h
 replace H:=Option.bind_eq_some_iff.mp H
 obtain⟨t299,A20,H⟩:=H
 replace H:(if t299=true then(if a0_0=1 then(if(l0_2.length:Int)=1 then(if 0<(l0_2.length:Int) then((spec_l6In.f (rd l0_2 0) 1 3).bind fun t301=>(some t301)) else(none)) else(some false)) else(if a0_0=4 then((spec_l1Many.f k l0_2).bind fun t302=>(some t302)) else((spec_l6In.f a0_0 2 7).bind fun t303=>(if t303=true then(some ((l0_2.length:Int) == 0)) else(some false))))) else(some false))=some r:=H
 have A2:=qal.mk A20
 clear A20
 by_cases c3:t299=true
 ·subst c3
  have H1:(if a0_0=1 then(if(l0_2.length:Int)=1 then(if 0<(l0_2.length:Int) then((spec_l6In.f (rd l0_2 0) 1 3).bind fun t301=>(some t301)) else(none)) else(some false)) else(if a0_0=4 then((spec_l1Many.f k l0_2).bind fun t302=>(some t302)) else((spec_l6In.f a0_0 2 7).bind fun t303=>(if t303=true then(some ((l0_2.length:Int) == 0)) else(some false)))))=some r:=by rw[if_pos rfl] at H;exact H
  clear H
  have H:=H1
  clear H1
  by_cases c4:a0_0=1
  ·rw[if_pos c4] at H
   have c4b0:(a0_0 == 1)=true:=beq_iff_eq.mpr c4
   have c4b1:(a0_0 != 1)=false:=bne_eq_false_iff_eq.mpr c4
   clear c4
   by_cases c5:(l0_2.length:Int)=1
   ·rw[if_pos c5] at H
    have c5b0:((l0_2.length:Int) == 1)=true:=beq_iff_eq.mpr c5
    have c5b1:((l0_2.length:Int) != 1)=false:=bne_eq_false_iff_eq.mpr c5
    clear c5
    by_cases c6:0<(l0_2.length:Int)
    ·rw[if_pos c6] at H
     have c6b0:decide (0<(l0_2.length:Int))=true:=decide_eq_true c6
     have c6b1:decide (0<l0_2.length)=true:=decide_eq_true (by omega)
     clear c6
     replace H:=Option.bind_eq_some_iff.mp H
     obtain⟨t301,A70,H⟩:=H
     replace H:(some t301)=some r:=H
     have A7:=qal.mk A70
     clear A70
     obtain rfl:=Option.some.inj H
     go_enter Try.func44,Try.ntmps44
     go_wp2_with(first|((with_reducible refine qak (N:=1) rfl ?_);(try(refine qbc (by rfl) ?_;dsimp only));refine qaj ?hg (N:=1) ?hd (cs:=#[.int .i64 a0_0,.int .i64 a0_1,.slice A0_2 l0_2.length c0_2]) (t:=62) ?hr ?_;(case hd=>rfl);(case hg=>rfl);(case hr=>first|(go_simp;done)|(go_simp;rfl));intro gb298 hg w8 hbox hb;have n0_:=qal.mk (qae (za2 HB) hb);have n1_:=qal.mk (hbox);have n2_:=qal.mk ((by rw[hg];exact(qad (za2 HB)):w.heap.size≤gb298));have n3_:=qal.mk ((by rw[hg];exact(qad (za2 HB)):w.heap.size≤gb298));clear HB;have HB:=n0_;have BK298:=n1_;have GW298:=n2_;have GE298:=n3_;clear n0_ n1_ n2_ n3_;clear hb hbox hg;have hcz9_0:w8.cell? ⟨gb298,0,none⟩=some (.int .i64 a0_0):=(qab BK298.out 0).trans rfl;have hcz9_1:w8.cell? ⟨gb298,1,none⟩=some (.int .i64 a0_1):=(qab BK298.out 1).trans rfl;have hcz9_2:w8.cell? ⟨gb298,2,none⟩=some (.slice A0_2 l0_2.length c0_2):=(qab BK298.out 2).trans rfl;have hfz9_0:=qaa BK298.out 0;have hfz9_1:=qaa BK298.out 1;have hfz9_2:=qaa BK298.out 2)|((with_reducible refine qai (f:=58) rfl ?_);refine qau (some 5) rfl rfl Try.func58 (by kernel_rfl) rfl #[.int .i64 a0_1,.int .i64 1,.int .i64 6] rfl (by(try simp only[List.map_toArray,List.map_cons,List.map_nil]);first|done|rfl|(simp only[List.length_drop,List.length_take];rfl)) ?_;(with_reducible refine(spec_l6In.calls a0_1 1 6 true _ A2.out).mono ?_);rintro e w' ⟨rfl,⟨nd,rfl⟩⟩;refine⟨_,rfl,?_⟩;have p300:0≤(0:Int):=(by omega);have q300:0<(l0_2.length:Int):=of_decide_eq_true (za8);obtain⟨ad300,e300,hx300_0⟩:=Kd.at_int HR0_2.out 0 p300 q300;cases e300;have qi300:(0<l0_2.length)=True:=eq_true (by omega);(try rw[show((0:Int)).toNat=0 from rfl] at hx300_0);(try rw[Addr.add_zero'] at hx300_0);replace hx300_0:=(HB.out.cell (World.block_lt_of_cell? w _ hx300_0)).trans hx300_0;replace p300:=eq_true p300;replace q300:=eq_true q300)|(go_at_call 58;(with_reducible refine(spec_l6In.calls (rd l0_2 0) 1 3 t301 _ A7.out).mono ?_);rintro e w' ⟨rfl,⟨nd,rfl⟩⟩))
     go_ret
     exact⟨za9,za1 HB GE298⟩
    ·rw[if_neg c6] at H
     exact absurd H (by simp)
   ·rw[if_neg c5] at H
    have c5b0:((l0_2.length:Int) == 1)=false:=beq_eq_false_iff_ne.mpr c5
    have c5b1:((l0_2.length:Int) != 1)=true:=bne_iff_ne.mpr c5
    obtain rfl:=Option.some.inj H
    go_enter Try.func44,Try.ntmps44
    go_wp2_with(first|((with_reducible refine qak (N:=1) rfl ?_);(try(refine qbc (by rfl) ?_;dsimp only));refine qaj ?hg (N:=1) ?hd (cs:=#[.int .i64 a0_0,.int .i64 a0_1,.slice A0_2 l0_2.length c0_2]) (t:=62) ?hr ?_;(case hd=>rfl);(case hg=>rfl);(case hr=>first|(go_simp;done)|(go_simp;rfl));intro gb298 hg w10 hbox hb;have n0_:=qal.mk (qae (za2 HB) hb);have n1_:=qal.mk (hbox);have n2_:=qal.mk ((by rw[hg];exact(qad (za2 HB)):w.heap.size≤gb298));have n3_:=qal.mk ((by rw[hg];exact(qad (za2 HB)):w.heap.size≤gb298));clear HB;have HB:=n0_;have BK298:=n1_;have GW298:=n2_;have GE298:=n3_;clear n0_ n1_ n2_ n3_;clear hb hbox hg;have hcz11_0:w10.cell? ⟨gb298,0,none⟩=some (.int .i64 a0_0):=(qab BK298.out 0).trans rfl;have hcz11_1:w10.cell? ⟨gb298,1,none⟩=some (.int .i64 a0_1):=(qab BK298.out 1).trans rfl;have hcz11_2:w10.cell? ⟨gb298,2,none⟩=some (.slice A0_2 l0_2.length c0_2):=(qab BK298.out 2).trans rfl;have hfz11_0:=qaa BK298.out 0;have hfz11_1:=qaa BK298.out 1;have hfz11_2:=qaa BK298.out 2)|((with_reducible refine qai (f:=58) rfl ?_);refine qau (some 5) rfl rfl Try.func58 (by kernel_rfl) rfl #[.int .i64 a0_1,.int .i64 1,.int .i64 6] rfl (by(try simp only[List.map_toArray,List.map_cons,List.map_nil]);first|done|rfl|(simp only[List.length_drop,List.length_take];rfl)) ?_;(with_reducible refine(spec_l6In.calls a0_1 1 6 true _ A2.out).mono ?_);rintro e w' ⟨rfl,⟨nd,rfl⟩⟩;refine⟨_,rfl,?_⟩))
    go_ret
    exact⟨za9,za1 HB GE298⟩
  ·rw[if_neg c4] at H
   have c4b0:(a0_0 == 1)=false:=beq_eq_false_iff_ne.mpr c4
   have c4b1:(a0_0 != 1)=true:=bne_iff_ne.mpr c4
   by_cases c12:a0_0=4
   ·rw[if_pos c12] at H
    have c12b0:(a0_0 == 4)=true:=beq_iff_eq.mpr c12
    have c12b1:(a0_0 != 4)=false:=bne_eq_false_iff_eq.mpr c12
    clear c12
    replace H:=Option.bind_eq_some_iff.mp H
    obtain⟨t302,A130,H⟩:=H
    replace H:(some t302)=some r:=H
    have A13:=qal.mk A130
    clear A130
    obtain rfl:=Option.some.inj H
    go_enter Try.func44,Try.ntmps44
    go_wp2_with(first|((with_reducible refine qak (N:=1) rfl ?_);(try(refine qbc (by rfl) ?_;dsimp only));refine qaj ?hg (N:=1) ?hd (cs:=#[.int .i64 a0_0,.int .i64 a0_1,.slice A0_2 l0_2.length c0_2]) (t:=62) ?hr ?_;(case hd=>rfl);(case hg=>rfl);(case hr=>first|(go_simp;done)|(go_simp;rfl));intro gb298 hg w14 hbox hb;have n0_:=qal.mk (qae (za2 HB) hb);have n1_:=qal.mk (hbox);have n2_:=qal.mk ((by rw[hg];exact(qad (za2 HB)):w.heap.size≤gb298));have n3_:=qal.mk ((by rw[hg];exact(qad (za2 HB)):w.heap.size≤gb298));clear HB;have HB:=n0_;have BK298:=n1_;have GW298:=n2_;have GE298:=n3_;clear n0_ n1_ n2_ n3_;clear hb hbox hg;have hcz15_0:w14.cell? ⟨gb298,0,none⟩=some (.int .i64 a0_0):=(qab BK298.out 0).trans rfl;have hcz15_1:w14.cell? ⟨gb298,1,none⟩=some (.int .i64 a0_1):=(qab BK298.out 1).trans rfl;have hcz15_2:w14.cell? ⟨gb298,2,none⟩=some (.slice A0_2 l0_2.length c0_2):=(qab BK298.out 2).trans rfl;have hfz15_0:=qaa BK298.out 0;have hfz15_1:=qaa BK298.out 1;have hfz15_2:=qaa BK298.out 2)|((with_reducible refine qai (f:=58) rfl ?_);refine qau (some 5) rfl rfl Try.func58 (by kernel_rfl) rfl #[.int .i64 a0_1,.int .i64 1,.int .i64 6] rfl (by(try simp only[List.map_toArray,List.map_cons,List.map_nil]);first|done|rfl|(simp only[List.length_drop,List.length_take];rfl)) ?_;(with_reducible refine(spec_l6In.calls a0_1 1 6 true _ A2.out).mono ?_);rintro e w' ⟨rfl,⟨nd,rfl⟩⟩;refine⟨_,rfl,?_⟩)|((with_reducible refine qai (f:=86) rfl ?_);refine qau (some 26) rfl rfl Try.func86 (by kernel_rfl) rfl #[.slice A0_2 l0_2.length c0_2] rfl (by(try simp only[List.map_toArray,List.map_cons,List.map_nil]);first|done|rfl|(simp only[List.length_drop,List.length_take];rfl)) ?_;(with_reducible refine(spec_l1Many.calls k _ _ l0_2 t302 _ ?side1 ?side2 A13.out).mono ?_);(case side1=>repeat(first|exact(Kd.C_below HR0_2.out (za1 HB GE298))|(with_reducible refine Kd.C_alloc ?_ _)|(with_reducible refine Kd.C_drewN ?_ _)|(with_reducible refine Kd.C_drew ?_)));(case side2=>exact HC0_2.out);rintro e w' ⟨rfl,⟨nd,rfl⟩⟩;refine⟨_,rfl,?_⟩))
    go_ret
    exact⟨za9,za1 HB GE298⟩
   ·rw[if_neg c12] at H
    have c12b0:(a0_0 == 4)=false:=beq_eq_false_iff_ne.mpr c12
    have c12b1:(a0_0 != 4)=true:=bne_iff_ne.mpr c12
    replace H:=Option.bind_eq_some_iff.mp H
    obtain⟨t303,A160,H⟩:=H
    replace H:(if t303=true then(some ((l0_2.length:Int) == 0)) else(some false))=some r:=H
    have A16:=qal.mk A160
    clear A160
    by_cases c17:t303=true
    ·subst c17
     have H1:(some ((l0_2.length:Int) == 0))=some r:=by rw[if_pos rfl] at H;exact H
     clear H
     have H:=H1
     clear H1
     obtain rfl:=Option.some.inj H
     go_enter Try.func44,Try.ntmps44
     go_wp2_with(first|((with_reducible refine qak (N:=1) rfl ?_);(try(refine qbc (by rfl) ?_;dsimp only));refine qaj ?hg (N:=1) ?hd (cs:=#[.int .i64 a0_0,.int .i64 a0_1,.slice A0_2 l0_2.length c0_2]) (t:=62) ?hr ?_;(case hd=>rfl);(case hg=>rfl);(case hr=>first|(go_simp;done)|(go_simp;rfl));intro gb298 hg w18 hbox hb;have n0_:=qal.mk (qae (za2 HB) hb);have n1_:=qal.mk (hbox);have n2_:=qal.mk ((by rw[hg];exact(qad (za2 HB)):w.heap.size≤gb298));have n3_:=qal.mk ((by rw[hg];exact(qad (za2 HB)):w.heap.size≤gb298));clear HB;have HB:=n0_;have BK298:=n1_;have GW298:=n2_;have GE298:=n3_;clear n0_ n1_ n2_ n3_;clear hb hbox hg;have hcz19_0:w18.cell? ⟨gb298,0,none⟩=some (.int .i64 a0_0):=(qab BK298.out 0).trans rfl;have hcz19_1:w18.cell? ⟨gb298,1,none⟩=some (.int .i64 a0_1):=(qab BK298.out 1).trans rfl;have hcz19_2:w18.cell? ⟨gb298,2,none⟩=some (.slice A0_2 l0_2.length c0_2):=(qab BK298.out 2).trans rfl;have hfz19_0:=qaa BK298.out 0;have hfz19_1:=qaa BK298.out 1;have hfz19_2:=qaa BK298.out 2)|((with_reducible refine qai (f:=58) rfl ?_);refine qau (some 5) rfl rfl Try.func58 (by kernel_rfl) rfl #[.int .i64 a0_1,.int .i64 1,.int .i64 6] rfl (by(try simp only[List.map_toArray,List.map_cons,List.map_nil]);first|done|rfl|(simp only[List.length_drop,List.length_take];rfl)) ?_;(with_reducible refine(spec_l6In.calls a0_1 1 6 true _ A2.out).mono ?_);rintro e w' ⟨rfl,⟨nd,rfl⟩⟩;refine⟨_,rfl,?_⟩)|((with_reducible refine qai (f:=58) rfl ?_);refine qau (some 29) rfl rfl Try.func58 (by kernel_rfl) rfl #[.int .i64 a0_0,.int .i64 2,.int .i64 7] rfl (by(try simp only[List.map_toArray,List.map_cons,List.map_nil]);first|done|rfl|(simp only[List.length_drop,List.length_take];rfl)) ?_;(with_reducible refine(spec_l6In.calls a0_0 2 7 true _ A16.out).mono ?_);rintro e w' ⟨rfl,⟨nd,rfl⟩⟩;refine⟨_,rfl,?_⟩))
     go_ret
     exact⟨za9,za1 HB GE298⟩
    ·replace c17:=Bool.eq_false_iff.mpr c17
     subst c17
     have H1:(some false)=some r:=by rw[if_neg (show ¬(false=true) by decide)] at H;exact H
     clear H
     have H:=H1
     clear H1
     obtain rfl:=Option.some.inj H
     go_enter Try.func44,Try.ntmps44
     go_wp2_with(first|((with_reducible refine qak (N:=1) rfl ?_);(try(refine qbc (by rfl) ?_;dsimp only));refine qaj ?hg (N:=1) ?hd (cs:=#[.int .i64 a0_0,.int .i64 a0_1,.slice A0_2 l0_2.length c0_2]) (t:=62) ?hr ?_;(case hd=>rfl);(case hg=>rfl);(case hr=>first|(go_simp;done)|(go_simp;rfl));intro gb298 hg w20 hbox hb;have n0_:=qal.mk (qae (za2 HB) hb);have n1_:=qal.mk (hbox);have n2_:=qal.mk ((by rw[hg];exact(qad (za2 HB)):w.heap.size≤gb298));have n3_:=qal.mk ((by rw[hg];exact(qad (za2 HB)):w.heap.size≤gb298));clear HB;have HB:=n0_;have BK298:=n1_;have GW298:=n2_;have GE298:=n3_;clear n0_ n1_ n2_ n3_;clear hb hbox hg;have hcz21_0:w20.cell? ⟨gb298,0,none⟩=some (.int .i64 a0_0):=(qab BK298.out 0).trans rfl;have hcz21_1:w20.cell? ⟨gb298,1,none⟩=some (.int .i64 a0_1):=(qab BK298.out 1).trans rfl;have hcz21_2:w20.cell? ⟨gb298,2,none⟩=some (.slice A0_2 l0_2.length c0_2):=(qab BK298.out 2).trans rfl;have hfz21_0:=qaa BK298.out 0;have hfz21_1:=qaa BK298.out 1;have hfz21_2:=qaa BK298.out 2)|((with_reducible refine qai (f:=58) rfl ?_);refine qau (some 5) rfl rfl Try.func58 (by kernel_rfl) rfl #[.int .i64 a0_1,.int .i64 1,.int .i64 6] rfl (by(try simp only[List.map_toArray,List.map_cons,List.map_nil]);first|done|rfl|(simp only[List.length_drop,List.length_take];rfl)) ?_;(with_reducible refine(spec_l6In.calls a0_1 1 6 true _ A2.out).mono ?_);rintro e w' ⟨rfl,⟨nd,rfl⟩⟩;refine⟨_,rfl,?_⟩)|((with_reducible refine qai (f:=58) rfl ?_);refine qau (some 29) rfl rfl Try.func58 (by kernel_rfl) rfl #[.int .i64 a0_0,.int .i64 2,.int .i64 7] rfl (by(try simp only[List.map_toArray,List.map_cons,List.map_nil]);first|done|rfl|(simp only[List.length_drop,List.length_take];rfl)) ?_;(with_reducible refine(spec_l6In.calls a0_0 2 7 false _ A16.out).mono ?_);rintro e w' ⟨rfl,⟨nd,rfl⟩⟩;refine⟨_,rfl,?_⟩))
     go_ret
     exact⟨za9,za1 HB GE298⟩
 ·replace c3:=Bool.eq_false_iff.mpr c3
  subst c3
  have H1:(some false)=some r:=by rw[if_neg (show ¬(false=true) by decide)] at H;exact H
  clear H
  have H:=H1
  clear H1
  obtain rfl:=Option.some.inj H
  go_enter Try.func44,Try.ntmps44
  go_wp2_with(first|((with_reducible refine qak (N:=1) rfl ?_);(try(refine qbc (by rfl) ?_;dsimp only));refine qaj ?hg (N:=1) ?hd (cs:=#[.int .i64 a0_0,.int .i64 a0_1,.slice A0_2 l0_2.length c0_2]) (t:=62) ?hr ?_;(case hd=>rfl);(case hg=>rfl);(case hr=>first|(go_simp;done)|(go_simp;rfl));intro gb298 hg w22 hbox hb;have n0_:=qal.mk (qae (za2 HB) hb);have n1_:=qal.mk (hbox);have n2_:=qal.mk ((by rw[hg];exact(qad (za2 HB)):w.heap.size≤gb298));have n3_:=qal.mk ((by rw[hg];exact(qad (za2 HB)):w.heap.size≤gb298));clear HB;have HB:=n0_;have BK298:=n1_;have GW298:=n2_;have GE298:=n3_;clear n0_ n1_ n2_ n3_;clear hb hbox hg;have hcz23_0:w22.cell? ⟨gb298,0,none⟩=some (.int .i64 a0_0):=(qab BK298.out 0).trans rfl;have hcz23_1:w22.cell? ⟨gb298,1,none⟩=some (.int .i64 a0_1):=(qab BK298.out 1).trans rfl;have hcz23_2:w22.cell? ⟨gb298,2,none⟩=some (.slice A0_2 l0_2.length c0_2):=(qab BK298.out 2).trans rfl;have hfz23_0:=qaa BK298.out 0;have hfz23_1:=qaa BK298.out 1;have hfz23_2:=qaa BK298.out 2)|((with_reducible refine qai (f:=58) rfl ?_);refine qau (some 5) rfl rfl Try.func58 (by kernel_rfl) rfl #[.int .i64 a0_1,.int .i64 1,.int .i64 6] rfl (by(try simp only[List.map_toArray,List.map_cons,List.map_nil]);first|done|rfl|(simp only[List.length_drop,List.length_take];rfl)) ?_;(with_reducible refine(spec_l6In.calls a0_1 1 6 false _ A2.out).mono ?_);rintro e w' ⟨rfl,⟨nd,rfl⟩⟩;refine⟨_,rfl,?_⟩))
  go_ret
  exact⟨za9,za1 HB GE298⟩
end Go.Proofs.Ytjccnaklodbbfaa.Print
