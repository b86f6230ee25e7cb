-- Written by squeeze.py, a program of this session, out of what print.sh and myprint.py had printed: cut to what is used, narrowed. Not trusted, Lean checks it.
import Derived.Test.YtjccnaklodbbfaaZK
import Derived.Test.YtjccnaklodbbfaaZb0
namespace Go.Proofs.Ytjccnaklodbbfaa.Print
open Go.RowKit Go.Proofs.YtjccnaklodbbfaaW.PrintWords Go.Proofs.YtjccnaklodbbfaaW.PrintLast Go.Proofs.YtjccnaklodbbfaaW.PrintMore
attribute [local go_sem] max2_int min2_int max_two min_two max_three min_three max_four min_four
set_option linter.unusedVariables false
set_option linter.unusedSimpArgs false
def spec_l2Hold.j0:Nat→Int→Bool→Int→Int→Option (Bool)
 |0,_,_,_,_=>none
 |k+1,x4,x10,x283000,x283001=>if x10=true then((spec_l6In.f x283000 1 3).bind fun t283=>(some t283)) else(if x4=3 then((spec_l6In.f x283000 0 3).bind fun t284=>(some t284)) else(some false))
def spec_l2Hold.f (k:Nat) (a0_0:Int) (a0_1:Int):Option (Bool):=if a0_1=0 then(some (a0_0 == 0)) else(if a0_1=1 then(spec_l2Hold.j0 k a0_1 (a0_1 == 1) a0_0 a0_1) else(spec_l2Hold.j0 k a0_1 (a0_1 == 2) a0_0 a0_1))
theorem spec_l2Hold.mono_l:∀k,(∀y0 y1 y2 y3,LeO (spec_l2Hold.j0 k y0 y1 y2 y3) (spec_l2Hold.j0 (k+1) y0 y1 y2 y3))
 |0=>fun _ _ _ _ r h=>by simp[spec_l2Hold.j0] at h
 |k+1=>by
  have ih0:=spec_l2Hold.mono_l k
  ·intro y0 y1 y2 y3
   unfold spec_l2Hold.j0
   repeat' first
   |(with_reducible exact ih0 _ _ _ _)
   |(with_reducible exact LeO.refl _)
   |(with_reducible exact LeO.none _)
   |(with_reducible refine LeO.ite ?_ ?_)
   |(with_reducible refine LeO.bind ?_ (fun _=>?_))
   |exact ih0 _ _ _ _
   |exact LeO.none _
   |refine LeO.ite ?_ ?_
   |refine LeO.bind ?_ (fun _=>?_)
theorem spec_l2Hold.mono:∀a0 a1 k,LeO (spec_l2Hold.f k a0 a1) (spec_l2Hold.f (k+1) a0 a1):=by
 intro a0 a1 k
 have ih0:=spec_l2Hold.mono_l k
 unfold spec_l2Hold.f
 repeat' first
   |(with_reducible exact ih0 _ _ _ _)
   |(with_reducible exact LeO.refl _)
   |(with_reducible exact LeO.none _)
   |(with_reducible refine LeO.ite ?_ ?_)
   |(with_reducible refine LeO.bind ?_ (fun _=>?_))
   |exact ih0 _ _ _ _
   |exact LeO.none _
   |refine LeO.ite ?_ ?_
   |refine LeO.bind ?_ (fun _=>?_)
set_option maxHeartbeats 8000000 in
set_option maxRecDepth 100000 in
theorem spec_l2Hold.calls (k:Nat) (a0_0:Int) (a0_1:Int) (r:Bool) (w:World) (h:spec_l2Hold.f k a0_0 a0_1=some r) :
  Calls Try.prog 72 #[.agg #[.int .i64 a0_0,.int .i64 a0_1]] w fun e w'=>e=.returned (.bool r)∧Below w.heap.size w w':=by
 have hu46:=Try.underlying46
 have HB:=qal.mk (Below.refl w.heap.size w)
 have H:(if a0_1=0 then(some (a0_0 == 0)) else(if a0_1=1 then(spec_l2Hold.j0 k a0_1 (a0_1 == 1) a0_0 a0_1) else(spec_l2Hold.j0 k a0_1 (a0_1 == 2) a0_0 a0_1)))=some r:=h
 clear h
 by_cases c2:a0_1=0
 ·rw[if_pos c2] at H
  have c2b0:(a0_1 == 0)=true:=beq_iff_eq.mpr c2
  have c2b1:(a0_1 != 0)=false:=bne_eq_false_iff_eq.mpr c2
  clear c2
  obtain rfl:=Option.some.inj H
  go_enter Try.func72,Try.ntmps72
  go_wp2_with(first|((with_reducible refine qak (N:=1) rfl ?_);refine qaj ?hg (N:=1) ?hd (cs:=#[.int .i64 a0_0,.int .i64 a0_1]) (t:=46) ?hr ?_;(case hd=>rfl);(case hg=>rfl);(case hr=>first|(go_simp;done)|(go_simp;rfl));intro gb282 hg w3 hbox hb;have n0_:=qal.mk (qae (za2 HB) hb);have n1_:=qal.mk (hbox);have n2_:=qal.mk ((by rw[hg];exact(qad (za2 HB)):w.heap.size≤gb282));have n3_:=qal.mk ((by rw[hg];exact(qad (za2 HB)):w.heap.size≤gb282));clear HB;have HB:=n0_;have BK282:=n1_;have GW282:=n2_;have GE282:=n3_;clear n0_ n1_ n2_ n3_;clear hb hbox hg;have hcz4_0:w3.cell? ⟨gb282,0,none⟩=some (.int .i64 a0_0):=(qab BK282.out 0).trans rfl;have hcz4_1:w3.cell? ⟨gb282,1,none⟩=some (.int .i64 a0_1):=(qab BK282.out 1).trans rfl;have hfz4_0:=qaa BK282.out 0;have hfz4_1:=qaa BK282.out 1))
  go_ret
  exact⟨za9,za1 HB GE282⟩
 ·rw[if_neg c2] at H
  have c2b0:(a0_1 == 0)=false:=beq_eq_false_iff_ne.mpr c2
  have c2b1:(a0_1 != 0)=true:=bne_iff_ne.mpr c2
  have HC5:=qal.mk H
  clear H
  go_enter Try.func72,Try.ntmps72
  go_upto_if 10 with(first|((with_reducible refine qak (N:=1) rfl ?_);refine qaj ?hg (N:=1) ?hd (cs:=#[.int .i64 a0_0,.int .i64 a0_1]) (t:=46) ?hr ?_;(case hd=>rfl);(case hg=>rfl);(case hr=>first|(go_simp;done)|(go_simp;rfl));intro gb282 hg w6 hbox hb;have n0_:=qal.mk (qae (za2 HB) hb);have n1_:=qal.mk (hbox);have n2_:=qal.mk ((by rw[hg];exact(qad (za2 HB)):w.heap.size≤gb282));have n3_:=qal.mk ((by rw[hg];exact(qad (za2 HB)):w.heap.size≤gb282));clear HB;have HB:=n0_;have BK282:=n1_;have GW282:=n2_;have GE282:=n3_;clear n0_ n1_ n2_ n3_;clear hb hbox hg;have hcz7_0:w6.cell? ⟨gb282,0,none⟩=some (.int .i64 a0_0):=(qab BK282.out 0).trans rfl;have hcz7_1:w6.cell? ⟨gb282,1,none⟩=some (.int .i64 a0_1):=(qab BK282.out 1).trans rfl;have hfz7_0:=qaa BK282.out 0;have hfz7_1:=qaa BK282.out 1))
  (try simp only[Act.put,List.setIfInBounds_toArray,List.set_cons_zero,List.set_cons_succ])
  go_cut [10] (fun v10 wc=>∃(kq:Nat) (x10_4:Bool),v10=.bool x10_4∧qal (spec_l2Hold.j0 kq a0_1 x10_4 a0_0 a0_1=some r)∧qal (kq≤k)∧qal (wc.heap[gb282]?=some (.cells #[.int .i64 a0_0,.int .i64 a0_1] 46 (0,0)))∧qal (Below w.heap.size w wc))
  case first=>
   have H:=HC5.out
   clear HC5
   by_cases c8:a0_1=1
   ·rw[if_pos c8] at H
    have c8b0:(a0_1 == 1)=true:=beq_iff_eq.mpr c8
    have c8b1:(a0_1 != 1)=false:=bne_eq_false_iff_eq.mpr c8
    clear c8
    (first|rw[c8b0]|(simp only[qas,qat];rw[c8b0])|skip)
    have H':=qal.mk H
    clear H
    go_wp2
    go_meet
    case rel=>exact⟨_,((a0_1 == 1)),(za22),H',⟨za46⟩,⟨za0 BK282⟩,⟨za1 HB GE282⟩⟩
   ·rw[if_neg c8] at H
    have c8b0:(a0_1 == 1)=false:=beq_eq_false_iff_ne.mpr c8
    have c8b1:(a0_1 != 1)=true:=bne_iff_ne.mpr c8
    (first|rw[c8b0]|(simp only[qas,qat];rw[c8b0])|skip)
    have H':=qal.mk H
    clear H
    go_wp2
    go_meet
    case rel=>exact⟨_,((a0_1 == 2)),(za22),H',⟨za46⟩,⟨za0 BK282⟩,⟨za1 HB GE282⟩⟩
  case rest=>
   clear HC5
   try clear c2
   try clear c2b0
   try clear c2b1
   try clear p2
   try clear c7
   try clear c8
   try clear c8b0
   try clear c8b1
   try clear hcz4_0
   try clear hcz4_1
   try clear hcz7_0
   try clear hcz7_1
   try clear hfz4_0
   try clear hfz4_1
   try clear hfz7_0
   try clear hfz7_1
   obtain⟨kq,x10_4,rfl,HA,HJ4,BK282,HB⟩:=hcut
   cases kq with
   |zero=>exact absurd HA.out (by simp[spec_l2Hold.j0])
   |succ kj4=>
    have H:=HA.out
    clear HA
    simp only[spec_l2Hold.j0] at H
    by_cases c9:x10_4=true
    ·subst c9
     have H1:((spec_l6In.f a0_0 1 3).bind fun t283=>(some t283))=some r:=by rw[if_pos rfl] at H;exact H
     clear H
     have H:=H1
     clear H1
     replace H:=Option.bind_eq_some_iff.mp H
     obtain⟨t283,A100,H⟩:=H
     replace H:(some t283)=some r:=H
     have A10:=qal.mk A100
     clear A100
     obtain rfl:=Option.some.inj H
     have hcz11_0:wc.cell? ⟨gb282,0,none⟩=some (.int .i64 a0_0):=(qab BK282.out 0).trans rfl
     have hcz11_1:wc.cell? ⟨gb282,1,none⟩=some (.int .i64 a0_1):=(qab BK282.out 1).trans rfl
     have hfz11_0:=qaa BK282.out 0
     have hfz11_1:=qaa BK282.out 1
     go_wp2_with(first|((with_reducible refine qai (f:=58) rfl ?_);refine qau (some 15) rfl rfl Try.func58 (by kernel_rfl) rfl #[.int .i64 a0_0,.int .i64 1,.int .i64 3] rfl (by(try simp only[List.map_toArray,List.map_cons,List.map_nil]);first|done|rfl|(simp only[List.length_drop,List.length_take];rfl)) ?_;(with_reducible refine(spec_l6In.calls a0_0 1 3 t283 _ A10.out).mono ?_);rintro e w' ⟨rfl,⟨nd,rfl⟩⟩;refine⟨_,rfl,?_⟩))
     go_ret
     exact⟨za9,za1 HB GE282⟩
    ·replace c9:=Bool.eq_false_iff.mpr c9
     subst c9
     have H1:(if a0_1=3 then((spec_l6In.f a0_0 0 3).bind fun t284=>(some t284)) else(some false))=some r:=by rw[if_neg (show ¬(false=true) by decide)] at H;exact H
     clear H
     have H:=H1
     clear H1
     by_cases c12:a0_1=3
     ·rw[if_pos c12] at H
      have c12b0:(a0_1 == 3)=true:=beq_iff_eq.mpr c12
      have c12b1:(a0_1 != 3)=false:=bne_eq_false_iff_eq.mpr c12
      clear c12
      replace H:=Option.bind_eq_some_iff.mp H
      obtain⟨t284,A130,H⟩:=H
      replace H:(some t284)=some r:=H
      have A13:=qal.mk A130
      clear A130
      obtain rfl:=Option.some.inj H
      have hcz14_0:wc.cell? ⟨gb282,0,none⟩=some (.int .i64 a0_0):=(qab BK282.out 0).trans rfl
      have hcz14_1:wc.cell? ⟨gb282,1,none⟩=some (.int .i64 a0_1):=(qab BK282.out 1).trans rfl
      have hfz14_0:=qaa BK282.out 0
      have hfz14_1:=qaa BK282.out 1
      go_wp2_with(first|((with_reducible refine qai (f:=58) rfl ?_);refine qau (some 20) rfl rfl Try.func58 (by kernel_rfl) rfl #[.int .i64 a0_0,.int .i64 0,.int .i64 3] rfl (by(try simp only[List.map_toArray,List.map_cons,List.map_nil]);first|done|rfl|(simp only[List.length_drop,List.length_take];rfl)) ?_;(with_reducible refine(spec_l6In.calls a0_0 0 3 t284 _ A13.out).mono ?_);rintro e w' ⟨rfl,⟨nd,rfl⟩⟩;refine⟨_,rfl,?_⟩))
      go_ret
      exact⟨za9,za1 HB GE282⟩
     ·rw[if_neg c12] at H
      have c12b0:(a0_1 == 3)=false:=beq_eq_false_iff_ne.mpr c12
      have c12b1:(a0_1 != 3)=true:=bne_iff_ne.mpr c12
      obtain rfl:=Option.some.inj H
      go_wp2
      go_ret
      exact⟨za9,za1 HB GE282⟩
def spec_l2Free.l0:Nat→Int→Int→Int→List (S46)→Option (Int)
 |0,_,_,_,_=>none
 |k+1,x3,x4,x286000,x286001=>if x4<(x286001.length:Int) then(if 0≤x4 then(if((rd_T46 x286001 x4).f1)=1 then(spec_l2Free.l0 k (wrap64 (x3 - ((rd_T46 x286001 x4).f0))) (wrap64 (x4+1)) x286000 x286001) else(if((rd_T46 x286001 x4).f1)=2 then(spec_l2Free.l0 k (wrap64 (x3 - ((rd_T46 x286001 x4).f0))) (wrap64 (x4+1)) x286000 x286001) else(spec_l2Free.l0 k x3 (wrap64 (x4+1)) x286000 x286001))) else(none)) else(some x3)
def spec_l2Free.f (k:Nat) (a0_0:Int) (l0_1:List (S46)):Option (Int):=spec_l2Free.l0 k a0_0 0 a0_0 l0_1
theorem spec_l2Free.mono_l:∀k,(∀y0 y1 y2 y3,LeO (spec_l2Free.l0 k y0 y1 y2 y3) (spec_l2Free.l0 (k+1) y0 y1 y2 y3))
 |0=>fun _ _ _ _ r h=>by simp[spec_l2Free.l0] at h
 |k+1=>by
  have ih0:=spec_l2Free.mono_l k
  ·intro y0 y1 y2 y3
   unfold spec_l2Free.l0
   repeat' first
   |(with_reducible exact ih0 _ _ _ _)
   |(with_reducible exact LeO.refl _)
   |(with_reducible exact LeO.none _)
   |(with_reducible refine LeO.ite ?_ ?_)
   |(with_reducible refine LeO.bind ?_ (fun _=>?_))
   |exact ih0 _ _ _ _
   |exact LeO.none _
   |refine LeO.ite ?_ ?_
   |refine LeO.bind ?_ (fun _=>?_)
theorem spec_l2Free.mono:∀a0 a1 k,LeO (spec_l2Free.f k a0 a1) (spec_l2Free.f (k+1) a0 a1):=by
 intro a0 a1 k
 have ih0:=spec_l2Free.mono_l k
 unfold spec_l2Free.f
 repeat' first
   |(with_reducible exact ih0 _ _ _ _)
   |(with_reducible exact LeO.refl _)
   |(with_reducible exact LeO.none _)
   |(with_reducible refine LeO.ite ?_ ?_)
   |(with_reducible refine LeO.bind ?_ (fun _=>?_))
   |exact ih0 _ _ _ _
   |exact LeO.none _
   |refine LeO.ite ?_ ?_
   |refine LeO.bind ?_ (fun _=>?_)
set_option maxHeartbeats 8000000 in
set_option maxRecDepth 100000 in
theorem spec_l2Free.calls (k:Nat) (a0_0:Int) (A0_1:Option Addr) (c0_1:Nat) (l0_1:List (S46)) (r:Int) (w:World) (hr0_1:Kd.C k46 w A0_1 l0_1.length l0_1) (hc0_1:l0_1.length≤c0_1) (h:spec_l2Free.f k a0_0 l0_1=some r) :
  Calls Try.prog 73 #[.agg #[.int .i64 a0_0,.slice A0_1 l0_1.length c0_1]] w fun e w'=>e=.returned (.int .i64 r)∧Below w.heap.size w w':=by
 have hu36:=Try.underlying36
 have HR0_1:=qal.mk hr0_1
 have HC0_1:=qal.mk hc0_1
 clear hr0_1 hc0_1
 have HB:=qal.mk (Below.refl w.heap.size w)
 have H:(spec_l2Free.l0 k a0_0 0 a0_0 l0_1)=some r:=h
 clear h
 have H':=qal.mk H
 clear H
 go_enter Try.func73,Try.ntmps73
 go_wp2_with(first|((with_reducible refine qak (N:=1) rfl ?_);refine qaj ?hg (N:=1) ?hd (cs:=#[.int .i64 a0_0,.slice A0_1 l0_1.length c0_1]) (t:=36) ?hr ?_;(case hd=>rfl);(case hg=>rfl);(case hr=>first|(go_simp;done)|(go_simp;rfl));intro gb285 hg w2 hbox hb;have n0_:=qal.mk (qae (za2 HB) hb);have n1_:=qal.mk (hbox);have n2_:=qal.mk ((by rw[hg];exact(qad (za2 HB)):w.heap.size≤gb285));have n3_:=qal.mk ((by rw[hg];exact(qad (za2 HB)):w.heap.size≤gb285));clear HB;have HB:=n0_;have BK285:=n1_;have GW285:=n2_;have GE285:=n3_;clear n0_ n1_ n2_ n3_;clear hb hbox hg;have hcz3_0:w2.cell? ⟨gb285,0,none⟩=some (.int .i64 a0_0):=(qab BK285.out 0).trans rfl;have hcz3_1:w2.cell? ⟨gb285,1,none⟩=some (.slice A0_1 l0_1.length c0_1):=(qab BK285.out 1).trans rfl;have hfz3_0:=qaa BK285.out 0;have hfz3_1:=qaa BK285.out 1))
 go_loopg [3,4] k (fun kq v3 v4 w'=>∃(x3_1:Int) (x4_1:Int),v3=.int .i64 x3_1∧v4=.int .i64 x4_1∧qal (spec_l2Free.l0 kq x3_1 x4_1 a0_0 l0_1=some r)∧qal (kq≤k)∧qal (w'.heap[gb285]?=some (.cells #[.int .i64 a0_0,(.slice A0_1 l0_1.length c0_1)] 36 (0,0)))∧qal (Below w.heap.size w w'))
 case atStart=>exact⟨(a0_0),(0),(za22),(za22),H',⟨Nat.le_refl _⟩,⟨za0 BK285⟩,⟨za1 HB GE285⟩⟩
 case round=>
  clear H'
  try clear p2
  try clear hcz3_0
  try clear hcz3_1
  try clear hfz3_0
  try clear hfz3_1
  obtain⟨x3_1,x4_1,rfl,rfl,HA,HK1,BK285,HB⟩:=hrel
  cases gk with
  |zero=>exact absurd HA.out (by simp[spec_l2Free.l0])
  |succ k1=>
   have H:=HA.out
   clear HA
   simp only[spec_l2Free.l0] at H
   by_cases c4:x4_1<(l0_1.length:Int)
   ·rw[if_pos c4] at H
    have c4b0:decide (x4_1<(l0_1.length:Int))=true:=decide_eq_true c4
    clear c4
    by_cases c5:0≤x4_1
    ·rw[if_pos c5] at H
     have c5b0:decide (0≤x4_1)=true:=decide_eq_true c5
     clear c5
     by_cases c6:((rd_T46 l0_1 x4_1).f1)=1
     ·rw[if_pos c6] at H
      have c6b0:(((rd_T46 l0_1 x4_1).f1) == 1)=true:=beq_iff_eq.mpr c6
      have c6b1:(((rd_T46 l0_1 x4_1).f1) != 1)=false:=bne_eq_false_iff_eq.mpr c6
      clear c6
      have H':=qal.mk H
      clear H
      have hcz7_0:wr.cell? ⟨gb285,0,none⟩=some (.int .i64 a0_0):=(qab BK285.out 0).trans rfl
      have hcz7_1:wr.cell? ⟨gb285,1,none⟩=some (.slice A0_1 l0_1.length c0_1):=(qab BK285.out 1).trans rfl
      have hfz7_0:=qaa BK285.out 0
      have hfz7_1:=qaa BK285.out 1
      have p286:0≤(x4_1:Int):=of_decide_eq_true (za8)
      have q286:x4_1<(l0_1.length:Int):=of_decide_eq_true (za8)
      obtain⟨ad286,e286,hx286_0,hx286_1⟩:=at_T46 HR0_1.out x4_1 p286 q286
      cases e286
      replace hx286_0:=(HB.out.cell (World.block_lt_of_cell? w _ hx286_0)).trans hx286_0
      replace hx286_1:=(HB.out.cell (World.block_lt_of_cell? w _ hx286_1)).trans hx286_1
      replace p286:=eq_true p286
      replace q286:=eq_true q286
      have p287:0≤(x4_1:Int):=of_decide_eq_true (za8)
      have q287:x4_1<(l0_1.length:Int):=of_decide_eq_true (za8)
      obtain⟨ad287,e287,hx287_0,hx287_1⟩:=at_T46 HR0_1.out x4_1 p287 q287
      obtain rfl:ad286=ad287:=(by injection e287)
      replace hx287_0:=(HB.out.cell (World.block_lt_of_cell? w _ hx287_0)).trans hx287_0
      replace hx287_1:=(HB.out.cell (World.block_lt_of_cell? w _ hx287_1)).trans hx287_1
      replace p287:=eq_true p287
      replace q287:=eq_true q287
      go_wp2
      go_roundg k1
      case measure=>have:=HK1.out;omega
      case rel=>exact⟨(wrap64 (x3_1 - ((rd_T46 l0_1 x4_1).f0))),(wrap64 (x4_1+1)),(za22),(za22),H',⟨by have:=HK1.out;omega⟩,⟨za0 BK285⟩,⟨za1 HB GE285⟩⟩
     ·rw[if_neg c6] at H
      have c6b0:(((rd_T46 l0_1 x4_1).f1) == 1)=false:=beq_eq_false_iff_ne.mpr c6
      have c6b1:(((rd_T46 l0_1 x4_1).f1) != 1)=true:=bne_iff_ne.mpr c6
      by_cases c8:((rd_T46 l0_1 x4_1).f1)=2
      ·rw[if_pos c8] at H
       have c8b0:(((rd_T46 l0_1 x4_1).f1) == 2)=true:=beq_iff_eq.mpr c8
       have c8b1:(((rd_T46 l0_1 x4_1).f1) != 2)=false:=bne_eq_false_iff_eq.mpr c8
       clear c8
       have H':=qal.mk H
       clear H
       have hcz9_0:wr.cell? ⟨gb285,0,none⟩=some (.int .i64 a0_0):=(qab BK285.out 0).trans rfl
       have hcz9_1:wr.cell? ⟨gb285,1,none⟩=some (.slice A0_1 l0_1.length c0_1):=(qab BK285.out 1).trans rfl
       have hfz9_0:=qaa BK285.out 0
       have hfz9_1:=qaa BK285.out 1
       have p286:0≤(x4_1:Int):=of_decide_eq_true (za8)
       have q286:x4_1<(l0_1.length:Int):=of_decide_eq_true (za8)
       obtain⟨ad286,e286,hx286_0,hx286_1⟩:=at_T46 HR0_1.out x4_1 p286 q286
       cases e286
       replace hx286_0:=(HB.out.cell (World.block_lt_of_cell? w _ hx286_0)).trans hx286_0
       replace hx286_1:=(HB.out.cell (World.block_lt_of_cell? w _ hx286_1)).trans hx286_1
       replace p286:=eq_true p286
       replace q286:=eq_true q286
       have p288:0≤(x4_1:Int):=of_decide_eq_true (za8)
       have q288:x4_1<(l0_1.length:Int):=of_decide_eq_true (za8)
       obtain⟨ad288,e288,hx288_0,hx288_1⟩:=at_T46 HR0_1.out x4_1 p288 q288
       obtain rfl:ad286=ad288:=(by injection e288)
       replace hx288_0:=(HB.out.cell (World.block_lt_of_cell? w _ hx288_0)).trans hx288_0
       replace hx288_1:=(HB.out.cell (World.block_lt_of_cell? w _ hx288_1)).trans hx288_1
       replace p288:=eq_true p288
       replace q288:=eq_true q288
       have p289:0≤(x4_1:Int):=of_decide_eq_true (za8)
       have q289:x4_1<(l0_1.length:Int):=of_decide_eq_true (za8)
       obtain⟨ad289,e289,hx289_0,hx289_1⟩:=at_T46 HR0_1.out x4_1 p289 q289
       obtain rfl:ad286=ad289:=(by injection e289)
       replace hx289_0:=(HB.out.cell (World.block_lt_of_cell? w _ hx289_0)).trans hx289_0
       replace hx289_1:=(HB.out.cell (World.block_lt_of_cell? w _ hx289_1)).trans hx289_1
       replace p289:=eq_true p289
       replace q289:=eq_true q289
       go_wp2
       go_roundg k1
       case measure=>have:=HK1.out;omega
       case rel=>exact⟨(wrap64 (x3_1 - ((rd_T46 l0_1 x4_1).f0))),(wrap64 (x4_1+1)),(za22),(za22),H',⟨by have:=HK1.out;omega⟩,⟨za0 BK285⟩,⟨za1 HB GE285⟩⟩
      ·rw[if_neg c8] at H
       have c8b0:(((rd_T46 l0_1 x4_1).f1) == 2)=false:=beq_eq_false_iff_ne.mpr c8
       have c8b1:(((rd_T46 l0_1 x4_1).f1) != 2)=true:=bne_iff_ne.mpr c8
       have H':=qal.mk H
       clear H
       have hcz10_0:wr.cell? ⟨gb285,0,none⟩=some (.int .i64 a0_0):=(qab BK285.out 0).trans rfl
       have hcz10_1:wr.cell? ⟨gb285,1,none⟩=some (.slice A0_1 l0_1.length c0_1):=(qab BK285.out 1).trans rfl
       have hfz10_0:=qaa BK285.out 0
       have hfz10_1:=qaa BK285.out 1
       have p286:0≤(x4_1:Int):=of_decide_eq_true (za8)
       have q286:x4_1<(l0_1.length:Int):=of_decide_eq_true (za8)
       obtain⟨ad286,e286,hx286_0,hx286_1⟩:=at_T46 HR0_1.out x4_1 p286 q286
       cases e286
       replace hx286_0:=(HB.out.cell (World.block_lt_of_cell? w _ hx286_0)).trans hx286_0
       replace hx286_1:=(HB.out.cell (World.block_lt_of_cell? w _ hx286_1)).trans hx286_1
       replace p286:=eq_true p286
       replace q286:=eq_true q286
       have p288:0≤(x4_1:Int):=of_decide_eq_true (za8)
       have q288:x4_1<(l0_1.length:Int):=of_decide_eq_true (za8)
       obtain⟨ad288,e288,hx288_0,hx288_1⟩:=at_T46 HR0_1.out x4_1 p288 q288
       obtain rfl:ad286=ad288:=(by injection e288)
       replace hx288_0:=(HB.out.cell (World.block_lt_of_cell? w _ hx288_0)).trans hx288_0
       replace hx288_1:=(HB.out.cell (World.block_lt_of_cell? w _ hx288_1)).trans hx288_1
       replace p288:=eq_true p288
       replace q288:=eq_true q288
       go_wp2
       go_roundg k1
       case measure=>have:=HK1.out;omega
       case rel=>exact⟨(x3_1),(wrap64 (x4_1+1)),(za22),(za22),H',⟨by have:=HK1.out;omega⟩,⟨za0 BK285⟩,⟨za1 HB GE285⟩⟩
    ·rw[if_neg c5] at H
     exact absurd H (by simp)
   ·rw[if_neg c4] at H
    have c4b0:decide (x4_1<(l0_1.length:Int))=false:=decide_eq_false c4
    clear c4
    obtain rfl:=Option.some.inj H
    have hcz11_0:wr.cell? ⟨gb285,0,none⟩=some (.int .i64 a0_0):=(qab BK285.out 0).trans rfl
    have hcz11_1:wr.cell? ⟨gb285,1,none⟩=some (.slice A0_1 l0_1.length c0_1):=(qab BK285.out 1).trans rfl
    have hfz11_0:=qaa BK285.out 0
    have hfz11_1:=qaa BK285.out 1
    go_wp2
    go_ret
    exact⟨za9,za1 HB GE285⟩
def spec_StockOk.l0:Nat→Int→Int→List (S46)→Option (Bool)
 |0,_,_,_=>none
 |k+1,x3,x291000,x291001=>if x3<(x291001.length:Int) then(if 0≤x3 then((spec_l2Hold.f k ((rd_T46 x291001 x3).f0) ((rd_T46 x291001 x3).f1)).bind fun t292=>(if t292=true then(spec_StockOk.l0 k (wrap64 (x3+1)) x291000 x291001) else(some false))) else(none)) else((spec_l6In.f x291000 0 9).bind fun t293=>(if t293=true then(if(x291001.length:Int)=6 then((spec_l2Free.f k x291000 x291001).bind fun t294=>(some (decide (t294≥0)))) else(some false)) else(some false)))
def spec_StockOk.f (k:Nat) (a0_0:Int) (l0_1:List (S46)):Option (Bool):=spec_StockOk.l0 k 0 a0_0 l0_1
theorem spec_StockOk.mono_l:∀k,(∀y0 y1 y2,LeO (spec_StockOk.l0 k y0 y1 y2) (spec_StockOk.l0 (k+1) y0 y1 y2))
 |0=>fun _ _ _ r h=>by simp[spec_StockOk.l0] at h
 |k+1=>by
  have ih0:=spec_StockOk.mono_l k
  ·intro y0 y1 y2
   unfold spec_StockOk.l0
   repeat' first
   |(with_reducible exact ih0 _ _ _)
   |(with_reducible exact spec_l2Free.mono _ _ _)
   |(with_reducible exact spec_l2Hold.mono _ _ _)
   |(with_reducible exact LeO.refl _)
   |(with_reducible exact LeO.none _)
   |(with_reducible refine LeO.ite ?_ ?_)
   |(with_reducible refine LeO.bind ?_ (fun _=>?_))
   |exact ih0 _ _ _
   |exact spec_l2Free.mono _ _ _
   |exact spec_l2Hold.mono _ _ _
   |exact LeO.none _
   |refine LeO.ite ?_ ?_
   |refine LeO.bind ?_ (fun _=>?_)
theorem spec_StockOk.mono:∀a0 a1 k,LeO (spec_StockOk.f k a0 a1) (spec_StockOk.f (k+1) a0 a1):=by
 intro a0 a1 k
 have ih0:=spec_StockOk.mono_l k
 unfold spec_StockOk.f
 repeat' first
   |(with_reducible exact ih0 _ _ _)
   |(with_reducible exact spec_l2Free.mono _ _ _)
   |(with_reducible exact spec_l2Hold.mono _ _ _)
   |(with_reducible exact LeO.refl _)
   |(with_reducible exact LeO.none _)
   |(with_reducible refine LeO.ite ?_ ?_)
   |(with_reducible refine LeO.bind ?_ (fun _=>?_))
   |exact ih0 _ _ _
   |exact spec_l2Free.mono _ _ _
   |exact spec_l2Hold.mono _ _ _
   |exact LeO.none _
   |refine LeO.ite ?_ ?_
   |refine LeO.bind ?_ (fun _=>?_)
set_option maxHeartbeats 8000000 in
set_option maxRecDepth 100000 in
theorem spec_StockOk.calls (k:Nat) (a0_0:Int) (A0_1:Option Addr) (c0_1:Nat) (l0_1:List (S46)) (r:Bool) (w:World) (hr0_1:Kd.C k46 w A0_1 l0_1.length l0_1) (hc0_1:l0_1.length≤c0_1) (h:spec_StockOk.f k a0_0 l0_1=some r) :
  Calls Try.prog 28 #[.agg #[.int .i64 a0_0,.slice A0_1 l0_1.length c0_1]] w fun e w'=>e=.returned (.bool r)∧Below w.heap.size w w':=by
 have hu36:=Try.underlying36
 have hu46:=Try.underlying46
 have HR0_1:=qal.mk hr0_1
 have HC0_1:=qal.mk hc0_1
 clear hr0_1 hc0_1
 have HB:=qal.mk (Below.refl w.heap.size w)
 have H:(spec_StockOk.l0 k 0 a0_0 l0_1)=some r:=h
 clear h
 have H':=qal.mk H
 clear H
 go_enter Try.func28,Try.ntmps28
 go_wp2_with(first|((with_reducible refine qak (N:=1) rfl ?_);(try(refine qbc (by rfl) ?_;dsimp only));refine qaj ?hg (N:=1) ?hd (cs:=#[.int .i64 a0_0,.slice A0_1 l0_1.length c0_1]) (t:=36) ?hr ?_;(case hd=>rfl);(case hg=>rfl);(case hr=>first|(go_simp;done)|(go_simp;rfl));intro gb290 hg w2 hbox hb;have n0_:=qal.mk (qae (za2 HB) hb);have n1_:=qal.mk (hbox);have n2_:=qal.mk ((by rw[hg];exact(qad (za2 HB)):w.heap.size≤gb290));have n3_:=qal.mk ((by rw[hg];exact(qad (za2 HB)):w.heap.size≤gb290));clear HB;have HB:=n0_;have BK290:=n1_;have GW290:=n2_;have GE290:=n3_;clear n0_ n1_ n2_ n3_;clear hb hbox hg))
 go_loopg [3] k (fun kq v3 w'=>∃(x3_1:Int),v3=.int .i64 x3_1∧qal (spec_StockOk.l0 kq x3_1 a0_0 l0_1=some r)∧qal (kq≤k)∧qal (w'.heap[gb290]?=some (.cells #[.int .i64 a0_0,(.slice A0_1 l0_1.length c0_1)] 36 (0,0)))∧qal (Below w.heap.size w w'))
 case atStart=>exact⟨(0),(za22),H',⟨Nat.le_refl _⟩,⟨za0 BK290⟩,⟨za1 HB GE290⟩⟩
 case round=>
  clear H'
  try clear c2
  try clear p2
  obtain⟨x3_1,rfl,HA,HK1,BK290,HB⟩:=hrel
  cases gk with
  |zero=>exact absurd HA.out (by simp[spec_StockOk.l0])
  |succ k1=>
   have H:=HA.out
   clear HA
   simp only[spec_StockOk.l0] at H
   by_cases c3:x3_1<(l0_1.length:Int)
   ·rw[if_pos c3] at H
    have c3b0:decide (x3_1<(l0_1.length:Int))=true:=decide_eq_true c3
    clear c3
    by_cases c4:0≤x3_1
    ·rw[if_pos c4] at H
     have c4b0:decide (0≤x3_1)=true:=decide_eq_true c4
     clear c4
     replace H:=Option.bind_eq_some_iff.mp H
     obtain⟨t292,A50,H⟩:=H
     replace H:(if t292=true then(spec_StockOk.l0 k1 (wrap64 (x3_1+1)) a0_0 l0_1) else(some false))=some r:=H
     have A5:=qal.mk A50
     clear A50
     by_cases c6:t292=true
     ·subst c6
      have H1:(spec_StockOk.l0 k1 (wrap64 (x3_1+1)) a0_0 l0_1)=some r:=by rw[if_pos rfl] at H;exact H
      clear H
      have H:=H1
      clear H1
      have H':=qal.mk H
      clear H
      have hcz7_0:wr.cell? ⟨gb290,0,none⟩=some (.int .i64 a0_0):=(qab BK290.out 0).trans rfl
      have hcz7_1:wr.cell? ⟨gb290,1,none⟩=some (.slice A0_1 l0_1.length c0_1):=(qab BK290.out 1).trans rfl
      have hfz7_0:=qaa BK290.out 0
      have hfz7_1:=qaa BK290.out 1
      have p291:0≤(x3_1:Int):=of_decide_eq_true (za8)
      have q291:x3_1<(l0_1.length:Int):=of_decide_eq_true (za8)
      obtain⟨ad291,e291,hx291_0,hx291_1⟩:=at_T46 HR0_1.out x3_1 p291 q291
      cases e291
      replace hx291_0:=(HB.out.cell (World.block_lt_of_cell? w _ hx291_0)).trans hx291_0
      replace hx291_1:=(HB.out.cell (World.block_lt_of_cell? w _ hx291_1)).trans hx291_1
      replace p291:=eq_true p291
      replace q291:=eq_true q291
      go_wp2_with(first|((with_reducible refine qai (f:=72) rfl ?_);refine qau (some 16) rfl rfl Try.func72 (by kernel_rfl) rfl #[.agg #[.int .i64 ((rd_T46 l0_1 x3_1).f0),.int .i64 ((rd_T46 l0_1 x3_1).f1)]] rfl (by(try simp only[List.map_toArray,List.map_cons,List.map_nil]);first|done|rfl|(simp only[List.length_drop,List.length_take];rfl)) ?_;(with_reducible refine(spec_l2Hold.calls k1 ((rd_T46 l0_1 x3_1).f0) ((rd_T46 l0_1 x3_1).f1) true _ A5.out).mono ?_);rintro e w8 ⟨rfl,hb⟩;refine⟨_,rfl,?_⟩;have n0_:=qal.mk (qac (g:=gb290) (o:=.cells #[.int .i64 a0_0,.slice (some ad291) l0_1.length c0_1] 36 (0,0)) (za0 BK290) hb);have n1_:=qal.mk (qae (za1 HB GE290) hb);clear BK290;clear HB;have BK290:=n0_;have HB:=n1_;clear n0_ n1_;(try clear hb);(try clear hb2);(try clear hk);(try clear hi)))
      go_roundg k1
      case measure=>have:=HK1.out;omega
      case rel=>exact⟨(wrap64 (x3_1+1)),(za22),H',⟨by have:=HK1.out;omega⟩,⟨za0 BK290⟩,⟨za1 HB GE290⟩⟩
     ·replace c6:=Bool.eq_false_iff.mpr c6
      subst c6
      have H1:(some false)=some r:=by rw[if_neg (show ¬(false=true) by decide)] at H;exact H
      clear H
      have H:=H1
      clear H1
      obtain rfl:=Option.some.inj H
      have hcz9_0:wr.cell? ⟨gb290,0,none⟩=some (.int .i64 a0_0):=(qab BK290.out 0).trans rfl
      have hcz9_1:wr.cell? ⟨gb290,1,none⟩=some (.slice A0_1 l0_1.length c0_1):=(qab BK290.out 1).trans rfl
      have hfz9_0:=qaa BK290.out 0
      have hfz9_1:=qaa BK290.out 1
      have p291:0≤(x3_1:Int):=of_decide_eq_true (za8)
      have q291:x3_1<(l0_1.length:Int):=of_decide_eq_true (za8)
      obtain⟨ad291,e291,hx291_0,hx291_1⟩:=at_T46 HR0_1.out x3_1 p291 q291
      cases e291
      replace hx291_0:=(HB.out.cell (World.block_lt_of_cell? w _ hx291_0)).trans hx291_0
      replace hx291_1:=(HB.out.cell (World.block_lt_of_cell? w _ hx291_1)).trans hx291_1
      replace p291:=eq_true p291
      replace q291:=eq_true q291
      go_wp2_with(first|((with_reducible refine qai (f:=72) rfl ?_);refine qau (some 16) rfl rfl Try.func72 (by kernel_rfl) rfl #[.agg #[.int .i64 ((rd_T46 l0_1 x3_1).f0),.int .i64 ((rd_T46 l0_1 x3_1).f1)]] rfl (by(try simp only[List.map_toArray,List.map_cons,List.map_nil]);first|done|rfl|(simp only[List.length_drop,List.length_take];rfl)) ?_;(with_reducible refine(spec_l2Hold.calls k1 ((rd_T46 l0_1 x3_1).f0) ((rd_T46 l0_1 x3_1).f1) false _ A5.out).mono ?_);rintro e w10 ⟨rfl,hb⟩;refine⟨_,rfl,?_⟩;have n0_:=qal.mk (qac (g:=gb290) (o:=.cells #[.int .i64 a0_0,.slice (some ad291) l0_1.length c0_1] 36 (0,0)) (za0 BK290) hb);have n1_:=qal.mk (qae (za1 HB GE290) hb);clear BK290;clear HB;have BK290:=n0_;have HB:=n1_;clear n0_ n1_;(try clear hb);(try clear hb2);(try clear hk);(try clear hi)))
      go_ret
      exact⟨za9,za1 HB GE290⟩
    ·rw[if_neg c4] at H
     exact absurd H (by simp)
   ·rw[if_neg c3] at H
    have c3b0:decide (x3_1<(l0_1.length:Int))=false:=decide_eq_false c3
    clear c3
    replace H:=Option.bind_eq_some_iff.mp H
    obtain⟨t293,A110,H⟩:=H
    replace H:(if t293=true then(if(l0_1.length:Int)=6 then((spec_l2Free.f k1 a0_0 l0_1).bind fun t294=>(some (decide (t294≥0)))) else(some false)) else(some false))=some r:=H
    have A11:=qal.mk A110
    clear A110
    by_cases c12:t293=true
    ·subst c12
     have H1:(if(l0_1.length:Int)=6 then((spec_l2Free.f k1 a0_0 l0_1).bind fun t294=>(some (decide (t294≥0)))) else(some false))=some r:=by rw[if_pos rfl] at H;exact H
     clear H
     have H:=H1
     clear H1
     by_cases c13:(l0_1.length:Int)=6
     ·rw[if_pos c13] at H
      have c13b0:((l0_1.length:Int) == 6)=true:=beq_iff_eq.mpr c13
      have c13b1:((l0_1.length:Int) != 6)=false:=bne_eq_false_iff_eq.mpr c13
      clear c13
      replace H:=Option.bind_eq_some_iff.mp H
      obtain⟨t294,A140,H⟩:=H
      replace H:(some (decide (t294≥0)))=some r:=H
      have A14:=qal.mk A140
      clear A140
      obtain rfl:=Option.some.inj H
      have hcz15_0:wr.cell? ⟨gb290,0,none⟩=some (.int .i64 a0_0):=(qab BK290.out 0).trans rfl
      have hcz15_1:wr.cell? ⟨gb290,1,none⟩=some (.slice A0_1 l0_1.length c0_1):=(qab BK290.out 1).trans rfl
      have hfz15_0:=qaa BK290.out 0
      have hfz15_1:=qaa BK290.out 1
      go_wp2_with(first|((with_reducible refine qai (f:=58) rfl ?_);refine qau (some 20) rfl rfl Try.func58 (by kernel_rfl) rfl #[.int .i64 a0_0,.int .i64 0,.int .i64 9] rfl (by(try simp only[List.map_toArray,List.map_cons,List.map_nil]);first|done|rfl|(simp only[List.length_drop,List.length_take];rfl)) ?_;(with_reducible refine(spec_l6In.calls a0_0 0 9 true _ A11.out).mono ?_);rintro e w' ⟨rfl,⟨nd,rfl⟩⟩;refine⟨_,rfl,?_⟩)|(go_at_call 73;(with_reducible refine(spec_l2Free.calls k1 a0_0 _ _ l0_1 t294 _ ?side1 ?side2 A14.out).mono ?_);(case side1=>repeat(first|exact(Kd.C_below HR0_1.out (za1 HB GE290))|(with_reducible refine Kd.C_alloc ?_ _)|(with_reducible refine Kd.C_drewN ?_ _)|(with_reducible refine Kd.C_drew ?_)));(case side2=>exact HC0_1.out);rintro e w16 ⟨rfl,hb⟩;have n0_:=qal.mk (qac (g:=gb290) (o:=.cells #[.int .i64 a0_0,.slice A0_1 l0_1.length c0_1] 36 (0,0)) (za0 BK290) hb);have n1_:=qal.mk (qae (za1 HB GE290) hb);clear BK290;clear HB;have BK290:=n0_;have HB:=n1_;clear n0_ n1_;(try clear hb);(try clear hb2);(try clear hk);(try clear hi)))
      go_ret
      exact⟨za9,za1 HB GE290⟩
     ·rw[if_neg c13] at H
      have c13b0:((l0_1.length:Int) == 6)=false:=beq_eq_false_iff_ne.mpr c13
      have c13b1:((l0_1.length:Int) != 6)=true:=bne_iff_ne.mpr c13
      obtain rfl:=Option.some.inj H
      have hcz17_0:wr.cell? ⟨gb290,0,none⟩=some (.int .i64 a0_0):=(qab BK290.out 0).trans rfl
      have hcz17_1:wr.cell? ⟨gb290,1,none⟩=some (.slice A0_1 l0_1.length c0_1):=(qab BK290.out 1).trans rfl
      have hfz17_0:=qaa BK290.out 0
      have hfz17_1:=qaa BK290.out 1
      go_wp2_with(first|((with_reducible refine qai (f:=58) rfl ?_);refine qau (some 20) rfl rfl Try.func58 (by kernel_rfl) rfl #[.int .i64 a0_0,.int .i64 0,.int .i64 9] rfl (by(try simp only[List.map_toArray,List.map_cons,List.map_nil]);first|done|rfl|(simp only[List.length_drop,List.length_take];rfl)) ?_;(with_reducible refine(spec_l6In.calls a0_0 0 9 true _ A11.out).mono ?_);rintro e w' ⟨rfl,⟨nd,rfl⟩⟩;refine⟨_,rfl,?_⟩))
      go_ret
      exact⟨za9,za1 HB GE290⟩
    ·replace c12:=Bool.eq_false_iff.mpr c12
     subst c12
     have H1:(some false)=some r:=by rw[if_neg (show ¬(false=true) by decide)] at H;exact H
     clear H
     have H:=H1
     clear H1
     obtain rfl:=Option.some.inj H
     have hcz18_0:wr.cell? ⟨gb290,0,none⟩=some (.int .i64 a0_0):=(qab BK290.out 0).trans rfl
     have hcz18_1:wr.cell? ⟨gb290,1,none⟩=some (.slice A0_1 l0_1.length c0_1):=(qab BK290.out 1).trans rfl
     have hfz18_0:=qaa BK290.out 0
     have hfz18_1:=qaa BK290.out 1
     go_wp2_with(first|((with_reducible refine qai (f:=58) rfl ?_);refine qau (some 20) rfl rfl Try.func58 (by kernel_rfl) rfl #[.int .i64 a0_0,.int .i64 0,.int .i64 9] rfl (by(try simp only[List.map_toArray,List.map_cons,List.map_nil]);first|done|rfl|(simp only[List.length_drop,List.length_take];rfl)) ?_;(with_reducible refine(spec_l6In.calls a0_0 0 9 false _ A11.out).mono ?_);rintro e w' ⟨rfl,⟨nd,rfl⟩⟩;refine⟨_,rfl,?_⟩))
     go_ret
     exact⟨za9,za1 HB GE290⟩
end Go.Proofs.Ytjccnaklodbbfaa.Print
