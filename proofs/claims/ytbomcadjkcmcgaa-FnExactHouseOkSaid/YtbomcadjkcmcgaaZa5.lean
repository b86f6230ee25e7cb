-- Written by squeeze.py, a program of this session, out of what print.sh and myprint.py had printed: cut to what is used, narrowed. Not trusted, Lean checks it.
import Derived.Test.YtbomcadjkcmcgaaZK
import Derived.Test.YtbomcadjkcmcgaaZa0
import Derived.Test.YtbomcadjkcmcgaaZa1
import Derived.Test.YtbomcadjkcmcgaaZa4
namespace Go.Proofs.Ytbomcadjkcmcgaa.Print
open Go.RowKit Go.Proofs.YtbomcadjkcmcgaaW.PrintWords Go.Proofs.YtbomcadjkcmcgaaW.PrintLast Go.Proofs.YtbomcadjkcmcgaaW.PrintMore
attribute [local go_sem] max2_int min2_int max_two min_two max_three min_three max_four min_four
set_option linter.unusedVariables false
set_option linter.unusedSimpArgs false
def spec_LogOk.l0:Nat→Int→List (S62)→Int→Option (Bool)
 |0,_,_,_=>none
 |k+1,x3,x160000,x160001=>if x3<(x160000.length:Int) then(if 0≤x3 then((spec_RecOk.f k ((rd_T62 x160000 x3).f0) ((rd_T62 x160000 x3).f1) ((rd_T62 x160000 x3).f2)).bind fun t161=>(if t161=true then(spec_LogOk.l0 k (wrap64 (x3+1)) x160000 x160001) else(some false))) else(none)) else(if(x160000.length:Int)≤40 then((spec_l6In.f x160001 0 (x160000.length:Int)).bind fun t162=>(some t162)) else(some false))
def spec_LogOk.f (k:Nat) (l0_0:List (S62)) (a0_1:Int):Option (Bool):=spec_LogOk.l0 k 0 l0_0 a0_1
theorem spec_LogOk.mono_l:∀k,(∀y0 y1 y2,LeO (spec_LogOk.l0 k y0 y1 y2) (spec_LogOk.l0 (k+1) y0 y1 y2))
 |0=>fun _ _ _ r h=>by simp[spec_LogOk.l0] at h
 |k+1=>by
  have ih0:=spec_LogOk.mono_l k
  ·intro y0 y1 y2
   unfold spec_LogOk.l0
   repeat' first
   |(with_reducible exact ih0 _ _ _)
   |(with_reducible exact spec_RecOk.mono _ _ _ _)
   |(with_reducible exact LeO.refl _)
   |(with_reducible exact LeO.none _)
   |(with_reducible refine LeO.ite ?_ ?_)
   |(with_reducible refine LeO.bind ?_ (fun _=>?_))
   |exact ih0 _ _ _
   |exact spec_RecOk.mono _ _ _ _
   |exact LeO.none _
   |refine LeO.ite ?_ ?_
   |refine LeO.bind ?_ (fun _=>?_)
theorem spec_LogOk.mono:∀a0 a1 k,LeO (spec_LogOk.f k a0 a1) (spec_LogOk.f (k+1) a0 a1):=by
 intro a0 a1 k
 have ih0:=spec_LogOk.mono_l k
 unfold spec_LogOk.f
 repeat' first
   |(with_reducible exact ih0 _ _ _)
   |(with_reducible exact spec_RecOk.mono _ _ _ _)
   |(with_reducible exact LeO.refl _)
   |(with_reducible exact LeO.none _)
   |(with_reducible refine LeO.ite ?_ ?_)
   |(with_reducible refine LeO.bind ?_ (fun _=>?_))
   |exact ih0 _ _ _
   |exact spec_RecOk.mono _ _ _ _
   |exact LeO.none _
   |refine LeO.ite ?_ ?_
   |refine LeO.bind ?_ (fun _=>?_)
set_option maxHeartbeats 8000000 in
set_option maxRecDepth 100000 in
theorem spec_LogOk.calls (k:Nat) (A0_0:Option Addr) (c0_0:Nat) (l0_0:List (S62)) (a0_1:Int) (r:Bool) (w:World) (hr0_0:Kd.C k62 w A0_0 l0_0.length l0_0) (hc0_0:l0_0.length≤c0_0) (h:spec_LogOk.f k l0_0 a0_1=some r) :
  Calls Try.prog 19 #[.agg #[.slice A0_0 l0_0.length c0_0,.int .i64 a0_1]] w fun e w'=>e=.returned (.bool r)∧Below w.heap.size w w':=by
 have hu31:=Try.underlying31
 have hu62:=Try.underlying62
 have HR0_0:=qam.mk hr0_0
 have HC0_0:=qam.mk hc0_0
 clear hr0_0 hc0_0
 have HB:=qam.mk (Below.refl w.heap.size w)
 have H:(spec_LogOk.l0 k 0 l0_0 a0_1)=some r:=h
 clear h
 have H':=qam.mk H
 clear H
 go_enter Try.func19,Try.ntmps19
 go_wp2_with(first|((with_reducible refine qak (N:=1) rfl ?_);(try(refine gate_guard (by rfl) ?_;dsimp only));refine qai ?hg (N:=1) ?hd (cs:=#[.slice A0_0 l0_0.length c0_0,.int .i64 a0_1]) (t:=31) ?hr ?_;(case hd=>rfl);(case hg=>rfl);(case hr=>first|(go_simp;done)|(go_simp;rfl));intro gb159 hg w2 hbox hb;have n0_:=qam.mk (qad (za2 HB) hb);have n1_:=qam.mk (hbox);have n2_:=qam.mk ((by rw[hg];exact(qac (za2 HB)):w.heap.size≤gb159));have n3_:=qam.mk ((by rw[hg];exact(qac (za2 HB)):w.heap.size≤gb159));clear HB;have HB:=n0_;have BK159:=n1_;have GW159:=n2_;have GE159:=n3_;clear n0_ n1_ n2_ n3_;clear hb hbox hg))
 go_loopg [3] k (fun kq v3 w'=>∃(x3_1:Int),v3=.int .i64 x3_1∧qam (spec_LogOk.l0 kq x3_1 l0_0 a0_1=some r)∧qam (kq≤k)∧qam (w'.heap[gb159]?=some (.cells #[(.slice A0_0 l0_0.length c0_0),.int .i64 a0_1] 31 (0,0)))∧qam (Below w.heap.size w w'))
 case atStart=>exact⟨(0),(za11),H',⟨Nat.le_refl _⟩,⟨za0 BK159⟩,⟨za1 HB GE159⟩⟩
 case round=>
  clear H'
  try clear c1
  try clear p2
  obtain⟨x3_1,rfl,HA,HK1,BK159,HB⟩:=hrel
  cases gk with
  |zero=>exact absurd HA.out (by simp[spec_LogOk.l0])
  |succ k1=>
   have H:=HA.out
   clear HA
   simp only[spec_LogOk.l0] at H
   by_cases c3:x3_1<(l0_0.length:Int)
   ·rw[if_pos c3] at H
    have c3b0:decide (x3_1<(l0_0.length:Int))=true:=decide_eq_true c3
    clear c3
    by_cases c4:0≤x3_1
    ·rw[if_pos c4] at H
     have c4b0:decide (0≤x3_1)=true:=decide_eq_true c4
     clear c4
     replace H:=Option.bind_eq_some_iff.mp H
     obtain⟨t161,A50,H⟩:=H
     replace H:(if t161=true then(spec_LogOk.l0 k1 (wrap64 (x3_1+1)) l0_0 a0_1) else(some false))=some r:=H
     have A5:=qam.mk A50
     clear A50
     by_cases c6:t161=true
     ·subst c6
      have H1:(spec_LogOk.l0 k1 (wrap64 (x3_1+1)) l0_0 a0_1)=some r:=by rw[if_pos rfl] at H;exact H
      clear H
      have H:=H1
      clear H1
      have H':=qam.mk H
      clear H
      have hcz7_0:wr.cell? ⟨gb159,0,none⟩=some (.slice A0_0 l0_0.length c0_0):=(qab BK159.out 0).trans rfl
      have hcz7_1:wr.cell? ⟨gb159,1,none⟩=some (.int .i64 a0_1):=(qab BK159.out 1).trans rfl
      have hfz7_0:=qaa BK159.out 0
      have hfz7_1:=qaa BK159.out 1
      have p160:0≤(x3_1:Int):=of_decide_eq_true (za6)
      have q160:x3_1<(l0_0.length:Int):=of_decide_eq_true (za6)
      obtain⟨ad160,A160_2,c160_2,e160,hx160_0,hx160_1,hx160_2,hl160_2,hi160_2⟩:=at_T62 HR0_0.out x3_1 p160 q160
      cases e160
      have hxo160_2:=qam.mk hx160_2
      replace hx160_0:=(HB.out.cell (World.block_lt_of_cell? w _ hx160_0)).trans hx160_0
      replace hx160_1:=(HB.out.cell (World.block_lt_of_cell? w _ hx160_1)).trans hx160_1
      replace hx160_2:=(HB.out.cell (World.block_lt_of_cell? w _ hx160_2)).trans hx160_2
      have HR160_2:=qam.mk hi160_2
      have HC160_2:=qam.mk hl160_2
      clear hi160_2 hl160_2
      replace p160:=eq_true p160
      replace q160:=eq_true q160
      go_wp2_with(first|((with_reducible refine qaj (f:=33) rfl ?_);refine goesL_ (some 16) rfl rfl Try.func33 (by kernel_rfl) rfl #[.agg #[.int .i64 ((rd_T62 l0_0 x3_1).f0),.int .i64 ((rd_T62 l0_0 x3_1).f1),.slice A160_2 ((rd_T62 l0_0 x3_1).f2).length c160_2]] rfl (by(try simp only[List.map_toArray,List.map_cons,List.map_nil]);first|done|rfl|(simp only[List.length_drop,List.length_take];rfl)) ?_;(with_reducible refine(spec_RecOk.calls k1 ((rd_T62 l0_0 x3_1).f0) ((rd_T62 l0_0 x3_1).f1) _ _ ((rd_T62 l0_0 x3_1).f2) true _ ?side1 ?side2 A5.out).mono ?_);(case side1=>repeat(first|exact(Kd.C_below HR160_2.out HB.out)|(with_reducible refine Kd.C_alloc ?_ _)|(with_reducible refine Kd.C_drewN ?_ _)|(with_reducible refine Kd.C_drew ?_)));(case side2=>exact HC160_2.out);rintro e w8 ⟨rfl,hb⟩;refine⟨_,rfl,?_⟩;have n0_:=qam.mk (qae (g:=gb159) (o:=.cells #[.slice (some ad160) l0_0.length c0_0,.int .i64 a0_1] 31 (0,0)) (za0 BK159) hb);have n1_:=qam.mk (qad (za1 HB GE159) hb);clear BK159;clear HB;have BK159:=n0_;have HB:=n1_;clear n0_ n1_;(try clear hb);(try clear hb2);(try clear hk);(try clear hi)))
      go_roundg k1
      case measure=>have:=HK1.out;omega
      case rel=>exact⟨(wrap64 (x3_1+1)),(za11),H',⟨by have:=HK1.out;omega⟩,⟨za0 BK159⟩,⟨za1 HB GE159⟩⟩
     ·replace c6:=Bool.eq_false_iff.mpr c6
      subst c6
      have H1:(some false)=some r:=by rw[if_neg (show ¬(false=true) by decide)] at H;exact H
      clear H
      have H:=H1
      clear H1
      obtain rfl:=Option.some.inj H
      have hcz9_0:wr.cell? ⟨gb159,0,none⟩=some (.slice A0_0 l0_0.length c0_0):=(qab BK159.out 0).trans rfl
      have hcz9_1:wr.cell? ⟨gb159,1,none⟩=some (.int .i64 a0_1):=(qab BK159.out 1).trans rfl
      have hfz9_0:=qaa BK159.out 0
      have hfz9_1:=qaa BK159.out 1
      have p160:0≤(x3_1:Int):=of_decide_eq_true (za6)
      have q160:x3_1<(l0_0.length:Int):=of_decide_eq_true (za6)
      obtain⟨ad160,A160_2,c160_2,e160,hx160_0,hx160_1,hx160_2,hl160_2,hi160_2⟩:=at_T62 HR0_0.out x3_1 p160 q160
      cases e160
      have hxo160_2:=qam.mk hx160_2
      replace hx160_0:=(HB.out.cell (World.block_lt_of_cell? w _ hx160_0)).trans hx160_0
      replace hx160_1:=(HB.out.cell (World.block_lt_of_cell? w _ hx160_1)).trans hx160_1
      replace hx160_2:=(HB.out.cell (World.block_lt_of_cell? w _ hx160_2)).trans hx160_2
      have HR160_2:=qam.mk hi160_2
      have HC160_2:=qam.mk hl160_2
      clear hi160_2 hl160_2
      replace p160:=eq_true p160
      replace q160:=eq_true q160
      go_wp2_with(first|((with_reducible refine qaj (f:=33) rfl ?_);refine goesL_ (some 16) rfl rfl Try.func33 (by kernel_rfl) rfl #[.agg #[.int .i64 ((rd_T62 l0_0 x3_1).f0),.int .i64 ((rd_T62 l0_0 x3_1).f1),.slice A160_2 ((rd_T62 l0_0 x3_1).f2).length c160_2]] rfl (by(try simp only[List.map_toArray,List.map_cons,List.map_nil]);first|done|rfl|(simp only[List.length_drop,List.length_take];rfl)) ?_;(with_reducible refine(spec_RecOk.calls k1 ((rd_T62 l0_0 x3_1).f0) ((rd_T62 l0_0 x3_1).f1) _ _ ((rd_T62 l0_0 x3_1).f2) false _ ?side1 ?side2 A5.out).mono ?_);(case side1=>repeat(first|exact(Kd.C_below HR160_2.out HB.out)|(with_reducible refine Kd.C_alloc ?_ _)|(with_reducible refine Kd.C_drewN ?_ _)|(with_reducible refine Kd.C_drew ?_)));(case side2=>exact HC160_2.out);rintro e w10 ⟨rfl,hb⟩;refine⟨_,rfl,?_⟩;have n0_:=qam.mk (qae (g:=gb159) (o:=.cells #[.slice (some ad160) l0_0.length c0_0,.int .i64 a0_1] 31 (0,0)) (za0 BK159) hb);have n1_:=qam.mk (qad (za1 HB GE159) hb);clear BK159;clear HB;have BK159:=n0_;have HB:=n1_;clear n0_ n1_;(try clear hb);(try clear hb2);(try clear hk);(try clear hi)))
      go_ret
      exact⟨za8,za1 HB GE159⟩
    ·rw[if_neg c4] at H
     exact absurd H (by simp)
   ·rw[if_neg c3] at H
    have c3b0:decide (x3_1<(l0_0.length:Int))=false:=decide_eq_false c3
    clear c3
    by_cases c11:(l0_0.length:Int)≤40
    ·rw[if_pos c11] at H
     have c11b0:decide ((l0_0.length:Int)≤40)=true:=decide_eq_true c11
     have c11b1:decide (l0_0.length≤40)=true:=decide_eq_true (by omega)
     clear c11
     replace H:=Option.bind_eq_some_iff.mp H
     obtain⟨t162,A120,H⟩:=H
     replace H:(some t162)=some r:=H
     have A12:=qam.mk A120
     clear A120
     obtain rfl:=Option.some.inj H
     have hcz13_0:wr.cell? ⟨gb159,0,none⟩=some (.slice A0_0 l0_0.length c0_0):=(qab BK159.out 0).trans rfl
     have hcz13_1:wr.cell? ⟨gb159,1,none⟩=some (.int .i64 a0_1):=(qab BK159.out 1).trans rfl
     have hfz13_0:=qaa BK159.out 0
     have hfz13_1:=qaa BK159.out 1
     go_wp2_with(first|(go_at_call 18;(with_reducible refine(spec_l6In.calls a0_1 0 (l0_0.length:Int) t162 _ A12.out).mono ?_);rintro e w' ⟨rfl,⟨nd,rfl⟩⟩))
     go_ret
     exact⟨za8,za1 HB GE159⟩
    ·rw[if_neg c11] at H
     have c11b0:decide ((l0_0.length:Int)≤40)=false:=decide_eq_false c11
     have c11b1:decide (l0_0.length≤40)=false:=decide_eq_false (by omega)
     clear c11
     obtain rfl:=Option.some.inj H
     have hcz14_0:wr.cell? ⟨gb159,0,none⟩=some (.slice A0_0 l0_0.length c0_0):=(qab BK159.out 0).trans rfl
     have hcz14_1:wr.cell? ⟨gb159,1,none⟩=some (.int .i64 a0_1):=(qab BK159.out 1).trans rfl
     have hfz14_0:=qaa BK159.out 0
     have hfz14_1:=qaa BK159.out 1
     go_wp2
     go_ret
     exact⟨za8,za1 HB GE159⟩
def spec_HouseOk.f (k:Nat) (a0_0:Int) (a0_1:Bool) (a0_2:Int) (l0_3:List (S62)) (a0_4:Int):Option (Bool):=(spec_l2Of.f k a0_2 l0_3).bind fun bt164=>((spec_l6In.f a0_0 1 3).bind fun t170=>(if t170=true then((spec_LogOk.f k l0_3 a0_4).bind fun t171=>(if t171=true then(some bt164.2.2) else(some false))) else(some false)))
theorem spec_HouseOk.mono:∀a0 a1 a2 a3 a4 k,LeO (spec_HouseOk.f k a0 a1 a2 a3 a4) (spec_HouseOk.f (k+1) a0 a1 a2 a3 a4):=by
 intro a0 a1 a2 a3 a4 k
 unfold spec_HouseOk.f
 repeat' first
   |(with_reducible exact spec_LogOk.mono _ _ _)
   |(with_reducible exact spec_l2Of.mono _ _ _)
   |(with_reducible exact LeO.refl _)
   |(with_reducible exact LeO.none _)
   |(with_reducible refine LeO.ite ?_ ?_)
   |(with_reducible refine LeO.bind ?_ (fun _=>?_))
   |exact spec_LogOk.mono _ _ _
   |exact spec_l2Of.mono _ _ _
   |exact LeO.none _
   |refine LeO.ite ?_ ?_
   |refine LeO.bind ?_ (fun _=>?_)
set_option maxHeartbeats 8000000 in
set_option maxRecDepth 100000 in
theorem spec_HouseOk.calls (k:Nat) (a0_0:Int) (a0_1:Bool) (a0_2:Int) (A0_3:Option Addr) (c0_3:Nat) (l0_3:List (S62)) (a0_4:Int) (r:Bool) (w:World) (hr0_3:Kd.C k62 w A0_3 l0_3.length l0_3) (hc0_3:l0_3.length≤c0_3) (h:spec_HouseOk.f k a0_0 a0_1 a0_2 l0_3 a0_4=some r) :
  Calls Try.prog 6 #[.agg #[.int .i64 a0_0,.bool a0_1,.int .i64 a0_2,.slice A0_3 l0_3.length c0_3,.int .i64 a0_4]] w fun e w'=>e=.returned (.bool r)∧Below w.heap.size w w':=by
 have hu33:=Try.underlying33
 have hu39:=Try.underlying39
 have hu31:=Try.underlying31
 have HR0_3:=qam.mk hr0_3
 have HC0_3:=qam.mk hc0_3
 clear hr0_3 hc0_3
 have HB:=qam.mk (Below.refl w.heap.size w)
 have H:((spec_l2Of.f k a0_2 l0_3).bind fun bt164=>((spec_l6In.f a0_0 1 3).bind fun t170=>(if t170=true then((spec_LogOk.f k l0_3 a0_4).bind fun t171=>(if t171=true then(some bt164.2.2) else(some false))) else(some false))))=some r:=h
 clear h
 replace H:=Option.bind_eq_some_iff.mp H
 obtain⟨⟨t164,t165,t168⟩,A20,H⟩:=H
 replace H:((spec_l6In.f a0_0 1 3).bind fun t170=>(if t170=true then((spec_LogOk.f k l0_3 a0_4).bind fun t171=>(if t171=true then(some t168) else(some false))) else(some false)))=some r:=H
 have A2:=qam.mk A20
 clear A20
 replace H:=Option.bind_eq_some_iff.mp H
 obtain⟨t170,A30,H⟩:=H
 replace H:(if t170=true then((spec_LogOk.f k l0_3 a0_4).bind fun t171=>(if t171=true then(some t168) else(some false))) else(some false))=some r:=H
 have A3:=qam.mk A30
 clear A30
 by_cases c4:t170=true
 ·subst c4
  have H1:((spec_LogOk.f k l0_3 a0_4).bind fun t171=>(if t171=true then(some t168) else(some false)))=some r:=by rw[if_pos rfl] at H;exact H
  clear H
  have H:=H1
  clear H1
  replace H:=Option.bind_eq_some_iff.mp H
  obtain⟨t171,A50,H⟩:=H
  replace H:(if t171=true then(some t168) else(some false))=some r:=H
  have A5:=qam.mk A50
  clear A50
  by_cases c6:t171=true
  ·subst c6
   have H1:(some t168)=some r:=by rw[if_pos rfl] at H;exact H
   clear H
   have H:=H1
   clear H1
   obtain rfl:=Option.some.inj H
   go_enter Try.func6,Try.ntmps6
   go_wp2_with(first|((with_reducible refine qak (N:=1) rfl ?_);refine qai ?hg (N:=1) ?hd (cs:=#[.int .i64 a0_0,.bool a0_1,.int .i64 a0_2,.slice A0_3 l0_3.length c0_3,.int .i64 a0_4]) (t:=33) ?hr ?_;(case hd=>rfl);(case hg=>rfl);(case hr=>first|(go_simp;done)|(go_simp;rfl));intro gb163 hg w7 hbox hb;have n0_:=qam.mk (qad (za2 HB) hb);have n1_:=qam.mk (hbox);have n2_:=qam.mk ((by rw[hg];exact(qac (za2 HB)):w.heap.size≤gb163));have n3_:=qam.mk ((by rw[hg];exact(qac (za2 HB)):w.heap.size≤gb163));clear HB;have HB:=n0_;have BK163:=n1_;have GW163:=n2_;have GE163:=n3_;clear n0_ n1_ n2_ n3_;clear hb hbox hg;have hcz8_0:w7.cell? ⟨gb163,0,none⟩=some (.int .i64 a0_0):=(qab BK163.out 0).trans rfl;have hcz8_1:w7.cell? ⟨gb163,1,none⟩=some (.bool a0_1):=(qab BK163.out 1).trans rfl;have hcz8_2:w7.cell? ⟨gb163,2,none⟩=some (.int .i64 a0_2):=(qab BK163.out 2).trans rfl;have hcz8_3:w7.cell? ⟨gb163,3,none⟩=some (.slice A0_3 l0_3.length c0_3):=(qab BK163.out 3).trans rfl;have hcz8_4:w7.cell? ⟨gb163,4,none⟩=some (.int .i64 a0_4):=(qab BK163.out 4).trans rfl;have hfz8_0:=qaa BK163.out 0;have hfz8_1:=qaa BK163.out 1;have hfz8_2:=qaa BK163.out 2;have hfz8_3:=qaa BK163.out 3;have hfz8_4:=qaa BK163.out 4)|((with_reducible refine qaj (f:=17) rfl ?_);refine goesL_ (some 11) rfl rfl Try.func17 (by kernel_rfl) rfl #[.int .i64 a0_2,.slice A0_3 l0_3.length c0_3] rfl (by(try simp only[List.map_toArray,List.map_cons,List.map_nil]);first|done|rfl|(simp only[List.length_drop,List.length_take];rfl)) ?_;(with_reducible refine(spec_l2Of.calls k a0_2 _ _ l0_3 t164 t165 t168 _ ?side1 ?side2 A2.out).mono ?_);(case side1=>repeat(first|exact(Kd.C_below HR0_3.out HB.out)|(with_reducible refine Kd.C_alloc ?_ _)|(with_reducible refine Kd.C_drewN ?_ _)|(with_reducible refine Kd.C_drew ?_)));(case side2=>exact HC0_3.out);rintro e w9 ⟨v166,rfl,ho0,hb⟩;refine⟨_,rfl,?_⟩;have n0_:=qam.mk (Kd.R_lower ho0 (qac (za1 HB GE163)));have n1_:=qam.mk (qae (g:=gb163) (o:=.cells #[.int .i64 a0_0,.bool a0_1,.int .i64 a0_2,.slice A0_3 l0_3.length c0_3,.int .i64 a0_4] 33 (0,0)) (za0 BK163) hb);have n2_:=qam.mk (qad (za1 HB GE163) hb);clear BK163;clear HB;have HO167:=n0_;have BK163:=n1_;have HB:=n2_;clear n0_ n1_ n2_;(try clear hb);(try clear hb2);(try clear hk);(try clear hi);(try clear ho0))|((with_reducible refine qak (N:=3) rfl ?_);refine qai ?hg (N:=3) ?hd (cs:=#[.int .i64 0,.slice none 0 0]) (t:=39) ?hr ?_;(case hd=>rfl);(case hg=>rfl);(case hr=>first|(go_simp;done)|(go_simp;rfl));intro gb169 hg w10 hbox hb;have n0_:=qam.mk (Kd.R_below (za9 HO167) hb);have n1_:=qam.mk (qae (g:=gb163) (o:=.cells #[.int .i64 a0_0,.bool a0_1,.int .i64 a0_2,.slice A0_3 l0_3.length c0_3,.int .i64 a0_4] 33 (0,0)) (za0 BK163) hb);have n2_:=qam.mk (qad (za1 HB GE163) hb);have n3_:=qam.mk (hbox);have n4_:=qam.mk ((by rw[hg];exact(qac (za1 HB GE163)):w.heap.size≤gb169));have n5_:=qam.mk ((by rw[hg];exact(qac (za1 HB GE163)):w.heap.size≤gb169));have n6_:=qam.mk ((by rw[hg];exact Nat.ne_of_lt (qal (g:=gb163) (o:=.cells #[.int .i64 a0_0,.bool a0_1,.int .i64 a0_2,.slice A0_3 l0_3.length c0_3,.int .i64 a0_4] 33 (0,0)) (za0 BK163)):gb163≠gb169));have n7_:=qam.mk ((by rw[hg];exact Nat.ne_of_gt (qal (g:=gb163) (o:=.cells #[.int .i64 a0_0,.bool a0_1,.int .i64 a0_2,.slice A0_3 l0_3.length c0_3,.int .i64 a0_4] 33 (0,0)) (za0 BK163)):gb169≠gb163));clear HO167;clear BK163;clear HB;have HO167:=n0_;have BK163:=n1_;have HB:=n2_;have BK169:=n3_;have GW169:=n4_;have GE169:=n5_;have NB163_169:=n6_;have NB169_163:=n7_;clear n0_ n1_ n2_ n3_ n4_ n5_ n6_ n7_;clear hb hbox hg;have hnb11:=NB169_163.out;have hnc11:=NB163_169.out;have hcz12_0:w10.cell? ⟨gb169,0,none⟩=some (.int .i64 0):=(qab BK169.out 0).trans rfl;have hcz12_1:w10.cell? ⟨gb169,1,none⟩=some (.slice none 0 0):=(qab BK169.out 1).trans rfl;have hfz12_0:=qaa BK169.out 0;have hfz12_1:=qaa BK169.out 1;obtain⟨Ao13,co13,eo13⟩:=Kd.R_slice HO167.out;subst eo13;have hcz14_0:w10.cell? ⟨gb163,0,none⟩=some (.int .i64 a0_0):=(qab BK163.out 0).trans rfl;have hcz14_1:w10.cell? ⟨gb163,1,none⟩=some (.bool a0_1):=(qab BK163.out 1).trans rfl;have hcz14_2:w10.cell? ⟨gb163,2,none⟩=some (.int .i64 a0_2):=(qab BK163.out 2).trans rfl;have hcz14_3:w10.cell? ⟨gb163,3,none⟩=some (.slice A0_3 l0_3.length c0_3):=(qab BK163.out 3).trans rfl;have hcz14_4:w10.cell? ⟨gb163,4,none⟩=some (.int .i64 a0_4):=(qab BK163.out 4).trans rfl;have hfz14_0:=qaa BK163.out 0;have hfz14_1:=qaa BK163.out 1;have hfz14_2:=qaa BK163.out 2;have hfz14_3:=qaa BK163.out 3;have hfz14_4:=qaa BK163.out 4)|((with_reducible refine qaj (f:=18) rfl ?_);refine goesL_ (some 16) rfl rfl Try.func18 (by kernel_rfl) rfl #[.int .i64 a0_0,.int .i64 1,.int .i64 3] rfl (by(try simp only[List.map_toArray,List.map_cons,List.map_nil]);first|done|rfl|(simp only[List.length_drop,List.length_take];rfl)) ?_;(with_reducible refine(spec_l6In.calls a0_0 1 3 true _ A3.out).mono ?_);rintro e w' ⟨rfl,⟨nd,rfl⟩⟩;refine⟨_,rfl,?_⟩)|(go_at_call 19;(with_reducible refine(spec_LogOk.calls k _ _ l0_3 a0_4 true _ ?side1 ?side2 A5.out).mono ?_);(case side1=>exact Kd.C_below HR0_3.out (za3 HB GE163 GE169));(case side2=>exact HC0_3.out);rintro e w15 ⟨rfl,hb⟩;have n0_:=qam.mk (Kd.R_below (by(with_reducible repeat(first|apply Kd.R_alloc|apply Kd.R_drewN|apply Kd.R_drew));exact(Kd.R_mono (Kd.R_far (p:=⟨gb169,1,none⟩) (Kd.R_far (p:=⟨gb169,0,none⟩) (Kd.R_types HO167.out BK169.out (by decide)) (fun _ hk=>hk.2) (.int .i64 t164)) (fun _ hk=>hk.2) (.slice Ao13 t165.length co13)) (fun _ h_=>h_.1))) hb);have n1_:=qam.mk (qae (g:=gb163) (o:=.cells #[.int .i64 a0_0,.bool a0_1,.int .i64 a0_2,.slice A0_3 l0_3.length c0_3,.int .i64 a0_4] 33 (0,0)) (za4 NB163_169 BK163) hb);have n2_:=qam.mk (qae (g:=gb169) (o:=.cells #[.int .i64 t164,.slice Ao13 t165.length co13] 39 (0,0)) (by(with_reducible repeat(first|refine qah ?_ _|refine qaf ?_|refine qag ?_ _));refine qan (cs:=#[.int .i64 t164,.slice none 0 0]) ?_ 1 _ rfl;(with_reducible repeat(first|refine qah ?_ _|refine qaf ?_|refine qag ?_ _));refine qan (cs:=#[.int .i64 0,.slice none 0 0]) ?_ 0 _ rfl;(with_reducible repeat(first|refine qah ?_ _|refine qaf ?_|refine qag ?_ _));exact BK169.out) hb);have n3_:=qam.mk (qad (za3 HB GE163 GE169) hb);clear HO167;clear BK163;clear BK169;clear HB;have HO167:=n0_;have BK163:=n1_;have BK169:=n2_;have HB:=n3_;clear n0_ n1_ n2_ n3_;(try clear hb);(try clear hb2);(try clear hk);(try clear hi)))
   go_ret
   exact⟨za8,za3 HB GE163 GE169⟩
  ·replace c6:=Bool.eq_false_iff.mpr c6
   subst c6
   have H1:(some false)=some r:=by rw[if_neg (show ¬(false=true) by decide)] at H;exact H
   clear H
   have H:=H1
   clear H1
   obtain rfl:=Option.some.inj H
   go_enter Try.func6,Try.ntmps6
   go_wp2_with(first|((with_reducible refine qak (N:=1) rfl ?_);refine qai ?hg (N:=1) ?hd (cs:=#[.int .i64 a0_0,.bool a0_1,.int .i64 a0_2,.slice A0_3 l0_3.length c0_3,.int .i64 a0_4]) (t:=33) ?hr ?_;(case hd=>rfl);(case hg=>rfl);(case hr=>first|(go_simp;done)|(go_simp;rfl));intro gb163 hg w16 hbox hb;have n0_:=qam.mk (qad (za2 HB) hb);have n1_:=qam.mk (hbox);have n2_:=qam.mk ((by rw[hg];exact(qac (za2 HB)):w.heap.size≤gb163));have n3_:=qam.mk ((by rw[hg];exact(qac (za2 HB)):w.heap.size≤gb163));clear HB;have HB:=n0_;have BK163:=n1_;have GW163:=n2_;have GE163:=n3_;clear n0_ n1_ n2_ n3_;clear hb hbox hg;have hcz17_0:w16.cell? ⟨gb163,0,none⟩=some (.int .i64 a0_0):=(qab BK163.out 0).trans rfl;have hcz17_1:w16.cell? ⟨gb163,1,none⟩=some (.bool a0_1):=(qab BK163.out 1).trans rfl;have hcz17_2:w16.cell? ⟨gb163,2,none⟩=some (.int .i64 a0_2):=(qab BK163.out 2).trans rfl;have hcz17_3:w16.cell? ⟨gb163,3,none⟩=some (.slice A0_3 l0_3.length c0_3):=(qab BK163.out 3).trans rfl;have hcz17_4:w16.cell? ⟨gb163,4,none⟩=some (.int .i64 a0_4):=(qab BK163.out 4).trans rfl;have hfz17_0:=qaa BK163.out 0;have hfz17_1:=qaa BK163.out 1;have hfz17_2:=qaa BK163.out 2;have hfz17_3:=qaa BK163.out 3;have hfz17_4:=qaa BK163.out 4)|((with_reducible refine qaj (f:=17) rfl ?_);refine goesL_ (some 11) rfl rfl Try.func17 (by kernel_rfl) rfl #[.int .i64 a0_2,.slice A0_3 l0_3.length c0_3] rfl (by(try simp only[List.map_toArray,List.map_cons,List.map_nil]);first|done|rfl|(simp only[List.length_drop,List.length_take];rfl)) ?_;(with_reducible refine(spec_l2Of.calls k a0_2 _ _ l0_3 t164 t165 t168 _ ?side1 ?side2 A2.out).mono ?_);(case side1=>repeat(first|exact(Kd.C_below HR0_3.out HB.out)|(with_reducible refine Kd.C_alloc ?_ _)|(with_reducible refine Kd.C_drewN ?_ _)|(with_reducible refine Kd.C_drew ?_)));(case side2=>exact HC0_3.out);rintro e w18 ⟨v166,rfl,ho0,hb⟩;refine⟨_,rfl,?_⟩;have n0_:=qam.mk (Kd.R_lower ho0 (qac (za1 HB GE163)));have n1_:=qam.mk (qae (g:=gb163) (o:=.cells #[.int .i64 a0_0,.bool a0_1,.int .i64 a0_2,.slice A0_3 l0_3.length c0_3,.int .i64 a0_4] 33 (0,0)) (za0 BK163) hb);have n2_:=qam.mk (qad (za1 HB GE163) hb);clear BK163;clear HB;have HO167:=n0_;have BK163:=n1_;have HB:=n2_;clear n0_ n1_ n2_;(try clear hb);(try clear hb2);(try clear hk);(try clear hi);(try clear ho0))|((with_reducible refine qak (N:=3) rfl ?_);refine qai ?hg (N:=3) ?hd (cs:=#[.int .i64 0,.slice none 0 0]) (t:=39) ?hr ?_;(case hd=>rfl);(case hg=>rfl);(case hr=>first|(go_simp;done)|(go_simp;rfl));intro gb169 hg w19 hbox hb;have n0_:=qam.mk (Kd.R_below (za9 HO167) hb);have n1_:=qam.mk (qae (g:=gb163) (o:=.cells #[.int .i64 a0_0,.bool a0_1,.int .i64 a0_2,.slice A0_3 l0_3.length c0_3,.int .i64 a0_4] 33 (0,0)) (za0 BK163) hb);have n2_:=qam.mk (qad (za1 HB GE163) hb);have n3_:=qam.mk (hbox);have n4_:=qam.mk ((by rw[hg];exact(qac (za1 HB GE163)):w.heap.size≤gb169));have n5_:=qam.mk ((by rw[hg];exact(qac (za1 HB GE163)):w.heap.size≤gb169));have n6_:=qam.mk ((by rw[hg];exact Nat.ne_of_lt (qal (g:=gb163) (o:=.cells #[.int .i64 a0_0,.bool a0_1,.int .i64 a0_2,.slice A0_3 l0_3.length c0_3,.int .i64 a0_4] 33 (0,0)) (za0 BK163)):gb163≠gb169));have n7_:=qam.mk ((by rw[hg];exact Nat.ne_of_gt (qal (g:=gb163) (o:=.cells #[.int .i64 a0_0,.bool a0_1,.int .i64 a0_2,.slice A0_3 l0_3.length c0_3,.int .i64 a0_4] 33 (0,0)) (za0 BK163)):gb169≠gb163));clear HO167;clear BK163;clear HB;have HO167:=n0_;have BK163:=n1_;have HB:=n2_;have BK169:=n3_;have GW169:=n4_;have GE169:=n5_;have NB163_169:=n6_;have NB169_163:=n7_;clear n0_ n1_ n2_ n3_ n4_ n5_ n6_ n7_;clear hb hbox hg;have hnb20:=NB169_163.out;have hnc20:=NB163_169.out;have hcz21_0:w19.cell? ⟨gb169,0,none⟩=some (.int .i64 0):=(qab BK169.out 0).trans rfl;have hcz21_1:w19.cell? ⟨gb169,1,none⟩=some (.slice none 0 0):=(qab BK169.out 1).trans rfl;have hfz21_0:=qaa BK169.out 0;have hfz21_1:=qaa BK169.out 1;obtain⟨Ao22,co22,eo22⟩:=Kd.R_slice HO167.out;subst eo22;have hcz23_0:w19.cell? ⟨gb163,0,none⟩=some (.int .i64 a0_0):=(qab BK163.out 0).trans rfl;have hcz23_1:w19.cell? ⟨gb163,1,none⟩=some (.bool a0_1):=(qab BK163.out 1).trans rfl;have hcz23_2:w19.cell? ⟨gb163,2,none⟩=some (.int .i64 a0_2):=(qab BK163.out 2).trans rfl;have hcz23_3:w19.cell? ⟨gb163,3,none⟩=some (.slice A0_3 l0_3.length c0_3):=(qab BK163.out 3).trans rfl;have hcz23_4:w19.cell? ⟨gb163,4,none⟩=some (.int .i64 a0_4):=(qab BK163.out 4).trans rfl;have hfz23_0:=qaa BK163.out 0;have hfz23_1:=qaa BK163.out 1;have hfz23_2:=qaa BK163.out 2;have hfz23_3:=qaa BK163.out 3;have hfz23_4:=qaa BK163.out 4)|((with_reducible refine qaj (f:=18) rfl ?_);refine goesL_ (some 16) rfl rfl Try.func18 (by kernel_rfl) rfl #[.int .i64 a0_0,.int .i64 1,.int .i64 3] rfl (by(try simp only[List.map_toArray,List.map_cons,List.map_nil]);first|done|rfl|(simp only[List.length_drop,List.length_take];rfl)) ?_;(with_reducible refine(spec_l6In.calls a0_0 1 3 true _ A3.out).mono ?_);rintro e w' ⟨rfl,⟨nd,rfl⟩⟩;refine⟨_,rfl,?_⟩)|(go_at_call 19;(with_reducible refine(spec_LogOk.calls k _ _ l0_3 a0_4 false _ ?side1 ?side2 A5.out).mono ?_);(case side1=>exact Kd.C_below HR0_3.out (za3 HB GE163 GE169));(case side2=>exact HC0_3.out);rintro e w24 ⟨rfl,hb⟩;have n0_:=qam.mk (Kd.R_below (by(with_reducible repeat(first|apply Kd.R_alloc|apply Kd.R_drewN|apply Kd.R_drew));exact(Kd.R_mono (Kd.R_far (p:=⟨gb169,1,none⟩) (Kd.R_far (p:=⟨gb169,0,none⟩) (Kd.R_types HO167.out BK169.out (by decide)) (fun _ hk=>hk.2) (.int .i64 t164)) (fun _ hk=>hk.2) (.slice Ao22 t165.length co22)) (fun _ h_=>h_.1))) hb);have n1_:=qam.mk (qae (g:=gb163) (o:=.cells #[.int .i64 a0_0,.bool a0_1,.int .i64 a0_2,.slice A0_3 l0_3.length c0_3,.int .i64 a0_4] 33 (0,0)) (za4 NB163_169 BK163) hb);have n2_:=qam.mk (qae (g:=gb169) (o:=.cells #[.int .i64 t164,.slice Ao22 t165.length co22] 39 (0,0)) (by(with_reducible repeat(first|refine qah ?_ _|refine qaf ?_|refine qag ?_ _));refine qan (cs:=#[.int .i64 t164,.slice none 0 0]) ?_ 1 _ rfl;(with_reducible repeat(first|refine qah ?_ _|refine qaf ?_|refine qag ?_ _));refine qan (cs:=#[.int .i64 0,.slice none 0 0]) ?_ 0 _ rfl;(with_reducible repeat(first|refine qah ?_ _|refine qaf ?_|refine qag ?_ _));exact BK169.out) hb);have n3_:=qam.mk (qad (za3 HB GE163 GE169) hb);clear HO167;clear BK163;clear BK169;clear HB;have HO167:=n0_;have BK163:=n1_;have BK169:=n2_;have HB:=n3_;clear n0_ n1_ n2_ n3_;(try clear hb);(try clear hb2);(try clear hk);(try clear hi)))
   go_ret
   exact⟨za8,za3 HB GE163 GE169⟩
 ·replace c4:=Bool.eq_false_iff.mpr c4
  subst c4
  have H1:(some false)=some r:=by rw[if_neg (show ¬(false=true) by decide)] at H;exact H
  clear H
  have H:=H1
  clear H1
  obtain rfl:=Option.some.inj H
  go_enter Try.func6,Try.ntmps6
  go_wp2_with(first|((with_reducible refine qak (N:=1) rfl ?_);refine qai ?hg (N:=1) ?hd (cs:=#[.int .i64 a0_0,.bool a0_1,.int .i64 a0_2,.slice A0_3 l0_3.length c0_3,.int .i64 a0_4]) (t:=33) ?hr ?_;(case hd=>rfl);(case hg=>rfl);(case hr=>first|(go_simp;done)|(go_simp;rfl));intro gb163 hg w25 hbox hb;have n0_:=qam.mk (qad (za2 HB) hb);have n1_:=qam.mk (hbox);have n2_:=qam.mk ((by rw[hg];exact(qac (za2 HB)):w.heap.size≤gb163));have n3_:=qam.mk ((by rw[hg];exact(qac (za2 HB)):w.heap.size≤gb163));clear HB;have HB:=n0_;have BK163:=n1_;have GW163:=n2_;have GE163:=n3_;clear n0_ n1_ n2_ n3_;clear hb hbox hg;have hcz26_0:w25.cell? ⟨gb163,0,none⟩=some (.int .i64 a0_0):=(qab BK163.out 0).trans rfl;have hcz26_1:w25.cell? ⟨gb163,1,none⟩=some (.bool a0_1):=(qab BK163.out 1).trans rfl;have hcz26_2:w25.cell? ⟨gb163,2,none⟩=some (.int .i64 a0_2):=(qab BK163.out 2).trans rfl;have hcz26_3:w25.cell? ⟨gb163,3,none⟩=some (.slice A0_3 l0_3.length c0_3):=(qab BK163.out 3).trans rfl;have hcz26_4:w25.cell? ⟨gb163,4,none⟩=some (.int .i64 a0_4):=(qab BK163.out 4).trans rfl;have hfz26_0:=qaa BK163.out 0;have hfz26_1:=qaa BK163.out 1;have hfz26_2:=qaa BK163.out 2;have hfz26_3:=qaa BK163.out 3;have hfz26_4:=qaa BK163.out 4)|((with_reducible refine qaj (f:=17) rfl ?_);refine goesL_ (some 11) rfl rfl Try.func17 (by kernel_rfl) rfl #[.int .i64 a0_2,.slice A0_3 l0_3.length c0_3] rfl (by(try simp only[List.map_toArray,List.map_cons,List.map_nil]);first|done|rfl|(simp only[List.length_drop,List.length_take];rfl)) ?_;(with_reducible refine(spec_l2Of.calls k a0_2 _ _ l0_3 t164 t165 t168 _ ?side1 ?side2 A2.out).mono ?_);(case side1=>repeat(first|exact(Kd.C_below HR0_3.out HB.out)|(with_reducible refine Kd.C_alloc ?_ _)|(with_reducible refine Kd.C_drewN ?_ _)|(with_reducible refine Kd.C_drew ?_)));(case side2=>exact HC0_3.out);rintro e w27 ⟨v166,rfl,ho0,hb⟩;refine⟨_,rfl,?_⟩;have n0_:=qam.mk (Kd.R_lower ho0 (qac (za1 HB GE163)));have n1_:=qam.mk (qae (g:=gb163) (o:=.cells #[.int .i64 a0_0,.bool a0_1,.int .i64 a0_2,.slice A0_3 l0_3.length c0_3,.int .i64 a0_4] 33 (0,0)) (za0 BK163) hb);have n2_:=qam.mk (qad (za1 HB GE163) hb);clear BK163;clear HB;have HO167:=n0_;have BK163:=n1_;have HB:=n2_;clear n0_ n1_ n2_;(try clear hb);(try clear hb2);(try clear hk);(try clear hi);(try clear ho0))|((with_reducible refine qak (N:=3) rfl ?_);refine qai ?hg (N:=3) ?hd (cs:=#[.int .i64 0,.slice none 0 0]) (t:=39) ?hr ?_;(case hd=>rfl);(case hg=>rfl);(case hr=>first|(go_simp;done)|(go_simp;rfl));intro gb169 hg w28 hbox hb;have n0_:=qam.mk (Kd.R_below (za9 HO167) hb);have n1_:=qam.mk (qae (g:=gb163) (o:=.cells #[.int .i64 a0_0,.bool a0_1,.int .i64 a0_2,.slice A0_3 l0_3.length c0_3,.int .i64 a0_4] 33 (0,0)) (za0 BK163) hb);have n2_:=qam.mk (qad (za1 HB GE163) hb);have n3_:=qam.mk (hbox);have n4_:=qam.mk ((by rw[hg];exact(qac (za1 HB GE163)):w.heap.size≤gb169));have n5_:=qam.mk ((by rw[hg];exact(qac (za1 HB GE163)):w.heap.size≤gb169));have n6_:=qam.mk ((by rw[hg];exact Nat.ne_of_lt (qal (g:=gb163) (o:=.cells #[.int .i64 a0_0,.bool a0_1,.int .i64 a0_2,.slice A0_3 l0_3.length c0_3,.int .i64 a0_4] 33 (0,0)) (za0 BK163)):gb163≠gb169));have n7_:=qam.mk ((by rw[hg];exact Nat.ne_of_gt (qal (g:=gb163) (o:=.cells #[.int .i64 a0_0,.bool a0_1,.int .i64 a0_2,.slice A0_3 l0_3.length c0_3,.int .i64 a0_4] 33 (0,0)) (za0 BK163)):gb169≠gb163));clear HO167;clear BK163;clear HB;have HO167:=n0_;have BK163:=n1_;have HB:=n2_;have BK169:=n3_;have GW169:=n4_;have GE169:=n5_;have NB163_169:=n6_;have NB169_163:=n7_;clear n0_ n1_ n2_ n3_ n4_ n5_ n6_ n7_;clear hb hbox hg;have hnb29:=NB169_163.out;have hnc29:=NB163_169.out;have hcz30_0:w28.cell? ⟨gb169,0,none⟩=some (.int .i64 0):=(qab BK169.out 0).trans rfl;have hcz30_1:w28.cell? ⟨gb169,1,none⟩=some (.slice none 0 0):=(qab BK169.out 1).trans rfl;have hfz30_0:=qaa BK169.out 0;have hfz30_1:=qaa BK169.out 1;obtain⟨Ao31,co31,eo31⟩:=Kd.R_slice HO167.out;subst eo31;have hcz32_0:w28.cell? ⟨gb163,0,none⟩=some (.int .i64 a0_0):=(qab BK163.out 0).trans rfl;have hcz32_1:w28.cell? ⟨gb163,1,none⟩=some (.bool a0_1):=(qab BK163.out 1).trans rfl;have hcz32_2:w28.cell? ⟨gb163,2,none⟩=some (.int .i64 a0_2):=(qab BK163.out 2).trans rfl;have hcz32_3:w28.cell? ⟨gb163,3,none⟩=some (.slice A0_3 l0_3.length c0_3):=(qab BK163.out 3).trans rfl;have hcz32_4:w28.cell? ⟨gb163,4,none⟩=some (.int .i64 a0_4):=(qab BK163.out 4).trans rfl;have hfz32_0:=qaa BK163.out 0;have hfz32_1:=qaa BK163.out 1;have hfz32_2:=qaa BK163.out 2;have hfz32_3:=qaa BK163.out 3;have hfz32_4:=qaa BK163.out 4)|((with_reducible refine qaj (f:=18) rfl ?_);refine goesL_ (some 16) rfl rfl Try.func18 (by kernel_rfl) rfl #[.int .i64 a0_0,.int .i64 1,.int .i64 3] rfl (by(try simp only[List.map_toArray,List.map_cons,List.map_nil]);first|done|rfl|(simp only[List.length_drop,List.length_take];rfl)) ?_;(with_reducible refine(spec_l6In.calls a0_0 1 3 false _ A3.out).mono ?_);rintro e w' ⟨rfl,⟨nd,rfl⟩⟩;refine⟨_,rfl,?_⟩))
  go_ret
  exact⟨za8,za3 HB GE163 GE169⟩
def laws_toIntS.l0:Nat→List Int→List Int→Int→Option (List Int)
 |0,_,_,_=>none
 |k+1,x0,x3,x4=>if x4<(x0.length:Int) then(if 0≤x4 then(if x4<(x3.length:Int) then(laws_toIntS.l0 k x0 (x3.set (x4:Int).toNat (rd x0 x4)) (wrap64 (x4+1))) else(none)) else(none)) else(some x3)
def laws_toIntS.f (k:Nat) (l0:List Int):Option (List Int):=if 0≤(l0.length:Int) then(if((l0.length:Int):Int).toNat≤35184372088832 then(laws_toIntS.l0 k l0 (List.replicate ((l0.length:Int):Int).toNat 0) 0) else(none)) else(none)
theorem laws_toIntS.mono_l:∀k,(∀y0 y1 y2,LeO (laws_toIntS.l0 k y0 y1 y2) (laws_toIntS.l0 (k+1) y0 y1 y2))
 |0=>fun _ _ _ r h=>by simp[laws_toIntS.l0] at h
 |k+1=>by
  have ih0:=laws_toIntS.mono_l k
  ·intro y0 y1 y2
   unfold laws_toIntS.l0
   repeat' first
   |(with_reducible exact ih0 _ _ _)
   |(with_reducible exact LeO.refl _)
   |(with_reducible exact LeO.none _)
   |(with_reducible refine LeO.ite ?_ ?_)
   |(with_reducible refine LeO.bind ?_ (fun _=>?_))
   |exact ih0 _ _ _
   |exact LeO.none _
   |refine LeO.ite ?_ ?_
   |refine LeO.bind ?_ (fun _=>?_)
theorem laws_toIntS.mono:∀a0 k,LeO (laws_toIntS.f k a0) (laws_toIntS.f (k+1) a0):=by
 intro a0 k
 have ih0:=laws_toIntS.mono_l k
 unfold laws_toIntS.f
 repeat' first
   |(with_reducible exact ih0 _ _ _)
   |(with_reducible exact LeO.refl _)
   |(with_reducible exact LeO.none _)
   |(with_reducible refine LeO.ite ?_ ?_)
   |(with_reducible refine LeO.bind ?_ (fun _=>?_))
   |exact ih0 _ _ _
   |exact LeO.none _
   |refine LeO.ite ?_ ?_
   |refine LeO.bind ?_ (fun _=>?_)
set_option maxHeartbeats 8000000 in
set_option maxRecDepth 100000 in
theorem laws_toIntS.calls (k:Nat) (A0:Option Addr) (c0:Nat) (l0:List Int) (r:List Int) (w:World) (hr0:Kd.C (Kd.int .i64) w A0 l0.length l0) (hc0:l0.length≤c0) (h:laws_toIntS.f k l0=some r) :
  Calls Try.prog 59 #[.slice A0 l0.length c0] w fun e w'=>∃v0_:Value,e=.returned (v0_)∧Kd.R (Kd.int .i64) 3 w' w.heap.size (fun _=>True) v0_ r∧Below w.heap.size w w':=by
 have HR0:=qam.mk hr0
 have HC0:=qam.mk hc0
 clear hr0 hc0
 have HB:=qam.mk (Below.refl w.heap.size w)
 have H:(if 0≤(l0.length:Int) then(if((l0.length:Int):Int).toNat≤35184372088832 then(laws_toIntS.l0 k l0 (List.replicate ((l0.length:Int):Int).toNat 0) 0) else(none)) else(none))=some r:=h
 clear h
 by_cases c2:0≤(l0.length:Int)
 ·rw[if_pos c2] at H
  have c2b0:=eq_true c2
  have c2b1:decide (0≤(l0.length:Int))=true:=decide_eq_true c2
  clear c2
  by_cases c3:((l0.length:Int):Int).toNat≤35184372088832
  ·rw[if_pos c3] at H
   have c3b0:=eq_true c3
   have c3b1:decide (((l0.length:Int):Int).toNat≤35184372088832)=true:=decide_eq_true c3
   clear c3
   obtain⟨y172,hy172⟩:∃y_:List Int,y_=(List.replicate ((l0.length:Int):Int).toNat 0):=⟨_,rfl⟩
   replace H:(laws_toIntS.l0 k l0 y172 0)=some r:=by first|(rw[hy172];with_reducible exact H)|(have H2_:=(Option.bind_some _ _).symm.trans H;rw[hy172];with_reducible exact H2_)|(have H2_:=(Option.bind_some _ _).symm.trans H;with_reducible exact H2_)|with_reducible exact H|(rw[hy172];exact H)|exact H
   have Ny172:=qam.mk hy172
   clear hy172
   have H':=qam.mk H
   clear H
   go_enter Try.func59,Try.ntmps59
   go_wp2_with(first|((with_reducible refine qak (N:=7) rfl ?_);refine Kd.R_make (Kd.int .i64) _ 3 rfl (N:=7) rfl 60 _ _ rfl (l0.length:Int) rfl rfl Try.underlying60 (.int .i64 0) 8 info3 rfl (by decide) (by omega) 0 (ok:=fun _=>True) (okp:=fun _=>True) rfl (fun _ hk=>hk) trivial (of_decide_eq_true (za6)) (Nat.le_trans (Nat.mul_le_mul_right _ (of_decide_eq_true (za6):(l0.length:Int).toNat≤35184372088832)) (by omega)) (Below.refl _ _) (Nat.le_refl _) ?_;intro v173 w4 ho5 hb hg_ hnew_;clear hg_ hnew_;(first|rw[←Ny172.out] at ho5|(simp only[Int.reduceToNat] at ho5;rw[←Ny172.out] at ho5));have n0_:=qam.mk (Kd.R_lower ho5 (qac (za2 HB)));have n1_:=qam.mk (qad (za2 HB) hb);clear HB;have HO174:=n0_;have HB:=n1_;clear n0_ n1_;clear hb ho5))
   go_loopg [4] k (fun kq v4 w'=>∃(x3_1:List Int) (x4_1:Int),v4=.int .i64 x4_1∧qam (laws_toIntS.l0 kq l0 x3_1 x4_1=some r)∧qam (kq≤k)∧qam (Kd.R (Kd.int .i64) 3 w' w.heap.size (fun _=>True) v173 x3_1)∧qam (Below w.heap.size w w'))
   case atStart=>exact⟨(y172),(0),(za11),H',⟨Nat.le_refl _⟩,⟨za9 HO174⟩,⟨za2 HB⟩⟩
   case round=>
    clear H'
    try clear c2
    try clear c2b0
    try clear c2b1
    try clear p2
    try clear c3
    try clear c3b0
    try clear c3b1
    try clear c5
    obtain⟨x3_1,x4_1,rfl,HA,HK1,HO_3,HB⟩:=hrel
    cases gk with
    |zero=>exact absurd HA.out (by simp[laws_toIntS.l0])
    |succ k1=>
     have H:=HA.out
     clear HA
     simp only[laws_toIntS.l0] at H
     by_cases c6:x4_1<(l0.length:Int)
     ·rw[if_pos c6] at H
      have c6b0:decide (x4_1<(l0.length:Int))=true:=decide_eq_true c6
      clear c6
      by_cases c7:0≤x4_1
      ·rw[if_pos c7] at H
       have c7b0:decide (0≤x4_1)=true:=decide_eq_true c7
       clear c7
       by_cases c8:x4_1<(x3_1.length:Int)
       ·rw[if_pos c8] at H
        have c8b0:decide (x4_1<(x3_1.length:Int))=true:=decide_eq_true c8
        clear c8
        obtain⟨y176,hy176⟩:∃y_:List Int,y_=(x3_1.set (x4_1:Int).toNat (rd l0 x4_1)):=⟨_,rfl⟩
        replace H:(laws_toIntS.l0 k1 l0 y176 (wrap64 (x4_1+1)))=some r:=by first|(rw[hy176];with_reducible exact H)|(have H2_:=(Option.bind_some _ _).symm.trans H;rw[hy176];with_reducible exact H2_)|(have H2_:=(Option.bind_some _ _).symm.trans H;with_reducible exact H2_)|with_reducible exact H|(rw[hy176];exact H)|exact H
        have Ny176:=qam.mk hy176
        clear hy176
        have H':=qam.mk H
        clear H
        have p175:0≤(x4_1:Int):=of_decide_eq_true (za6)
        have q175:x4_1<(l0.length:Int):=of_decide_eq_true (za6)
        obtain⟨ad175,e175,hx175_0⟩:=Kd.at_int HR0.out x4_1 p175 q175
        cases e175
        replace hx175_0:=(HB.out.cell (World.block_lt_of_cell? w _ hx175_0)).trans hx175_0
        replace p175:=eq_true p175
        replace q175:=eq_true q175
        have p9:0≤(x4_1:Int):=of_decide_eq_true (za6)
        have q9:(x4_1:Int)<((x3_1.length:Int):Int):=of_decide_eq_true (za6)
        obtain⟨go9,co9,eo9,gb9,gl9,cl9,HG9⟩:=Kd.R_form HO_3.out (by omega)
        (first|cases eo9|(injection eo9 with ea_ en_ ec_;(first|subst ea_|(injection ea_ with ea_;subst ea_));subst ec_;clear en_))
        have GB9:=qam.mk gb9
        have GG9:=qam.mk HG9
        clear gb9 gl9 HG9
        obtain⟨hx9_0,hf9_0⟩:=Kd.R_celln 0 HO_3.out (x4_1:Int) p9 q9
        replace p9:=eq_true p9
        replace q9:=eq_true q9
        have HP10:=Kd.R_putg HO_3.out (x4_1:Int) (rd l0 x4_1)
        go_wp2_with(first|((with_reducible refine gate_store (t:=3) (p:=20) rfl ?_);refine store_event (t:=3) (p:=20) (v:=?vo_w11) (w1:=(wr.setCell ⟨go9,(x4_1:Int).toNat,none⟩ (.int .i64 (rd l0 x4_1)))) ?hg ?ho ?hn ?hr ?_;(case ho=>rfl);(case hg=>rfl);(case hn=>rfl);(case hr=>first|(go_simp;done)|(go_simp;rfl));intro w11 hw;have hg:wr.grownBy w11 (some go9):=(by rw[hw];exact HP10.2);have hp_:Kd.R (Kd.int .i64) 3 w11 w.heap.size (fun _=>True) (.slice (some ⟨go9,0,none⟩) x3_1.length co9) y176:=(by rw[hw,Ny176.out];exact HP10.1);clear HP10;have n0_:=qam.mk (hp_);have n1_:=qam.mk ((by rw[hw];exact below_set (HB.out) GB9.out:Below w.heap.size w w11));clear HO_3;clear HB;have HO_3:=n0_;have HB:=n1_;clear n0_ n1_;clear hg hw hp_))
        go_roundg k1
        case measure=>have:=HK1.out;omega
        case rel=>exact⟨(y176),(wrap64 (x4_1+1)),(za11),H',⟨by have:=HK1.out;omega⟩,⟨za9 HO_3⟩,⟨za2 HB⟩⟩
       ·rw[if_neg c8] at H
        exact absurd H (by simp)
      ·rw[if_neg c7] at H
       exact absurd H (by simp)
     ·rw[if_neg c6] at H
      have c6b0:decide (x4_1<(l0.length:Int))=false:=decide_eq_false c6
      clear c6
      obtain rfl:=Option.some.inj H
      go_wp2
      go_ret
      exact⟨_,za8,za9 HO_3,za2 HB⟩
  ·rw[if_neg c3] at H
   exact absurd H (by simp)
 ·rw[if_neg c2] at H
  exact absurd H (by simp)
end Go.Proofs.Ytbomcadjkcmcgaa.Print
