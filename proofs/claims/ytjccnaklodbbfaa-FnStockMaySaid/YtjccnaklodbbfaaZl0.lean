-- Written by squeeze.py: not trusted, Lean checks it.
import Derived.Test.YtjccnaklodbbfaaZK
import Derived.Test.YtjccnaklodbbfaaZb0
namespace Go.Proofs.Ytjccnaklodbbfaa.Print
open Go.RowKit Go.Proofs.YtjccnaklodbbfaaW.PrintWords Go.Proofs.YtjccnaklodbbfaaW.PrintLast Go.Proofs.YtjccnaklodbbfaaW.PrintMore
attribute [local go_sem] max2_int min2_int max_two min_two max_three min_three max_four min_four
set_option linter.unusedVariables false
set_option linter.unusedSimpArgs false
def spec_l2Hold.j0:Nat→Int→Bool→Int→Int→Option (Bool)
 |0,_,_,_,_=>none
 |k+1,x4,x10,x268000,x268001=>if x10=true then((spec_l6In.f x268000 1 3).bind fun t268=>(some t268)) else(if x4=3 then((spec_l6In.f x268000 0 3).bind fun t269=>(some t269)) else(some false))
def spec_l2Hold.f (k:Nat) (a0_0:Int) (a0_1:Int):Option (Bool):=if a0_1=0 then(some (a0_0 == 0)) else(if a0_1=1 then(spec_l2Hold.j0 k a0_1 (a0_1 == 1) a0_0 a0_1) else(spec_l2Hold.j0 k a0_1 (a0_1 == 2) a0_0 a0_1))
theorem spec_l2Hold.mono_l:∀k,(∀y0 y1 y2 y3,LeO (spec_l2Hold.j0 k y0 y1 y2 y3) (spec_l2Hold.j0 (k+1) y0 y1 y2 y3))
 |0=>fun _ _ _ _ r h=>by simp[spec_l2Hold.j0] at h
 |k+1=>by
  have ih0:=spec_l2Hold.mono_l k
  ·intro y0 y1 y2 y3
   unfold spec_l2Hold.j0
   repeat' first
   |(with_reducible exact ih0 _ _ _ _)
   |(with_reducible exact LeO.refl _)
   |(with_reducible exact LeO.none _)
   |(with_reducible refine LeO.ite ?_ ?_)
   |(with_reducible refine LeO.bind ?_ (fun _=>?_))
   |exact ih0 _ _ _ _
   |exact LeO.none _
   |refine LeO.ite ?_ ?_
   |refine LeO.bind ?_ (fun _=>?_)
theorem spec_l2Hold.mono:∀a0 a1 k,LeO (spec_l2Hold.f k a0 a1) (spec_l2Hold.f (k+1) a0 a1):=by
 intro a0 a1 k
 have ih0:=spec_l2Hold.mono_l k
 unfold spec_l2Hold.f
 repeat' first
   |(with_reducible exact ih0 _ _ _ _)
   |(with_reducible exact LeO.refl _)
   |(with_reducible exact LeO.none _)
   |(with_reducible refine LeO.ite ?_ ?_)
   |(with_reducible refine LeO.bind ?_ (fun _=>?_))
   |exact ih0 _ _ _ _
   |exact LeO.none _
   |refine LeO.ite ?_ ?_
   |refine LeO.bind ?_ (fun _=>?_)
set_option maxHeartbeats 8000000 in
set_option maxRecDepth 100000 in
theorem spec_l2Hold.calls (k:Nat) (a0_0:Int) (a0_1:Int) (r:Bool) (w:World) (h:spec_l2Hold.f k a0_0 a0_1=some r) :
  Calls Try.prog 72 #[.agg #[.int .i64 a0_0,.int .i64 a0_1]] w fun e w'=>e=.returned (.bool r)∧Below w.heap.size w w':=by
 have hu46:=Try.underlying46
 have HB:=Aside0.mk (Below.refl w.heap.size w)
 have H:(if a0_1=0 then(some (a0_0 == 0)) else(if a0_1=1 then(spec_l2Hold.j0 k a0_1 (a0_1 == 1) a0_0 a0_1) else(spec_l2Hold.j0 k a0_1 (a0_1 == 2) a0_0 a0_1)))=some r:=h
 clear h
 by_cases c2:a0_1=0
 ·rw[if_pos c2] at H
  have c2b0:(a0_1 == 0)=true:=beq_iff_eq.mpr c2
  have c2b1:(a0_1 != 0)=false:=bne_eq_false_iff_eq.mpr c2
  clear c2
  obtain rfl:=Option.some.inj H
  go_enter Try.func72,Try.ntmps72
  go_wp2_with(first|((with_reducible refine qah (N:=1) rfl ?_);refine zX (N:=1) (cs:=#[.int .i64 a0_0,.int .i64 a0_1]) (t:=46) ?_;intro gb267 hg w3 hbox hb;have BK267:=Aside0.mk hbox;have GW267:=zH (w:=w) hg (za1 HB);have GE267:=GW267;replace HB:=Aside0.mk (qab (za1 HB) hb);clear hb hbox hg;obtain⟨hcz4_0,hcz4_1,hfz4_0,hfz4_1⟩:=zC2 BK267))
  go_ret
  exact⟨za9,za0 HB GE267⟩
 ·rw[if_neg c2] at H
  have c2b0:(a0_1 == 0)=false:=beq_eq_false_iff_ne.mpr c2
  have c2b1:(a0_1 != 0)=true:=bne_iff_ne.mpr c2
  have HC5:=Aside0.mk H
  clear H
  go_enter Try.func72,Try.ntmps72
  go_upto_if 10 with(first|((with_reducible refine qah (N:=1) rfl ?_);refine zX (N:=1) (cs:=#[.int .i64 a0_0,.int .i64 a0_1]) (t:=46) ?_;intro gb267 hg w6 hbox hb;have BK267:=Aside0.mk hbox;have GW267:=zH (w:=w) hg (za1 HB);have GE267:=GW267;replace HB:=Aside0.mk (qab (za1 HB) hb);clear hb hbox hg;obtain⟨hcz7_0,hcz7_1,hfz7_0,hfz7_1⟩:=zC2 BK267))
  (try simp only[Act.put,List.setIfInBounds_toArray,List.set_cons_zero,List.set_cons_succ])
  go_cut [10] (fun v10 wc=>∃(kq:Nat) (x10_4:Bool),v10=.bool x10_4∧Aside0 (spec_l2Hold.j0 kq a0_1 x10_4 a0_0 a0_1=some r)∧Aside0 (kq≤k)∧Aside0 (wc.heap[gb267]?=some (.cells #[.int .i64 a0_0,.int .i64 a0_1] 46 (0,0)))∧Aside0 (Below w.heap.size w wc))
  case first=>
   have H:=HC5.out
   clear HC5
   by_cases c8:a0_1=1
   ·rw[if_pos c8] at H
    have c8b0:(a0_1 == 1)=true:=beq_iff_eq.mpr c8
    have c8b1:(a0_1 != 1)=false:=bne_eq_false_iff_eq.mpr c8
    clear c8
    (first|rw[c8b0]|(simp only[qaj,qak];rw[c8b0])|skip)
    have H':=Aside0.mk H
    clear H
    go_wp2
    go_meet
    case rel=>exact⟨_,((a0_1 == 1)),(za17),H',⟨za23⟩,⟨za16 BK267⟩,⟨za0 HB GE267⟩⟩
   ·rw[if_neg c8] at H
    have c8b0:(a0_1 == 1)=false:=beq_eq_false_iff_ne.mpr c8
    have c8b1:(a0_1 != 1)=true:=bne_iff_ne.mpr c8
    (first|rw[c8b0]|(simp only[qaj,qak];rw[c8b0])|skip)
    have H':=Aside0.mk H
    clear H
    go_wp2
    go_meet
    case rel=>exact⟨_,((a0_1 == 2)),(za17),H',⟨za23⟩,⟨za16 BK267⟩,⟨za0 HB GE267⟩⟩
  case rest=>
   clear HC5
   try clear c2
   try clear c2b0
   try clear c2b1
   try clear p2
   try clear c7
   try clear c8
   try clear c8b0
   try clear c8b1
   try clear hcz4_0
   try clear hcz4_1
   try clear hcz7_0
   try clear hcz7_1
   try clear hfz4_0
   try clear hfz4_1
   try clear hfz7_0
   try clear hfz7_1
   obtain⟨kq,x10_4,rfl,HA,HJ4,BK267,HB⟩:=hcut
   cases kq with
   |zero=>exact absurd HA.out (by simp[spec_l2Hold.j0])
   |succ kj4=>
    have H:=HA.out
    clear HA
    simp only[spec_l2Hold.j0] at H
    by_cases c9:x10_4=true
    ·subst c9
     have H1:((spec_l6In.f a0_0 1 3).bind fun t268=>(some t268))=some r:=by rw[if_pos rfl] at H;exact H
     clear H
     have H:=H1
     clear H1
     replace H:=Option.bind_eq_some_iff.mp H
     obtain⟨t268,A100,H⟩:=H
     replace H:(some t268)=some r:=H
     have A10:=Aside0.mk A100
     clear A100
     obtain rfl:=Option.some.inj H
     obtain⟨hcz11_0,hcz11_1,hfz11_0,hfz11_1⟩:=zC2 BK267
     go_wp2_with(first|((with_reducible refine qaf (f:=58) rfl ?_);refine zF (some 15) Try.func58 #[.int .i64 a0_0,.int .i64 1,.int .i64 3] ?_;(with_reducible refine(spec_l6In.calls a0_0 1 3 t268 _ A10.out).mono ?_);rintro e w' ⟨rfl,⟨nd,rfl⟩⟩;refine⟨_,rfl,?_⟩))
     go_ret
     exact⟨za9,za0 HB GE267⟩
    ·replace c9:=Bool.eq_false_iff.mpr c9
     subst c9
     have H1:(if a0_1=3 then((spec_l6In.f a0_0 0 3).bind fun t269=>(some t269)) else(some false))=some r:=by rw[if_neg (show ¬(false=true) by decide)] at H;exact H
     clear H
     have H:=H1
     clear H1
     by_cases c12:a0_1=3
     ·rw[if_pos c12] at H
      have c12b0:(a0_1 == 3)=true:=beq_iff_eq.mpr c12
      have c12b1:(a0_1 != 3)=false:=bne_eq_false_iff_eq.mpr c12
      clear c12
      replace H:=Option.bind_eq_some_iff.mp H
      obtain⟨t269,A130,H⟩:=H
      replace H:(some t269)=some r:=H
      have A13:=Aside0.mk A130
      clear A130
      obtain rfl:=Option.some.inj H
      obtain⟨hcz14_0,hcz14_1,hfz14_0,hfz14_1⟩:=zC2 BK267
      go_wp2_with(first|((with_reducible refine qaf (f:=58) rfl ?_);refine zF (some 20) Try.func58 #[.int .i64 a0_0,.int .i64 0,.int .i64 3] ?_;(with_reducible refine(spec_l6In.calls a0_0 0 3 t269 _ A13.out).mono ?_);rintro e w' ⟨rfl,⟨nd,rfl⟩⟩;refine⟨_,rfl,?_⟩))
      go_ret
      exact⟨za9,za0 HB GE267⟩
     ·rw[if_neg c12] at H
      have c12b0:(a0_1 == 3)=false:=beq_eq_false_iff_ne.mpr c12
      have c12b1:(a0_1 != 3)=true:=bne_iff_ne.mpr c12
      obtain rfl:=Option.some.inj H
      go_wp2
      go_ret
      exact⟨za9,za0 HB GE267⟩
def spec_l2Free.l0:Nat→Int→Int→Int→List (S46)→Option (Int)
 |0,_,_,_,_=>none
 |k+1,x3,x4,x271000,x271001=>if x4<(x271001.length:Int) then(if 0≤x4 then(if((rd_T46 x271001 x4).f1)=1 then(spec_l2Free.l0 k (wrap64 (x3 - ((rd_T46 x271001 x4).f0))) (wrap64 (x4+1)) x271000 x271001) else(if((rd_T46 x271001 x4).f1)=2 then(spec_l2Free.l0 k (wrap64 (x3 - ((rd_T46 x271001 x4).f0))) (wrap64 (x4+1)) x271000 x271001) else(spec_l2Free.l0 k x3 (wrap64 (x4+1)) x271000 x271001))) else(none)) else(some x3)
def spec_l2Free.f (k:Nat) (a0_0:Int) (l0_1:List (S46)):Option (Int):=spec_l2Free.l0 k a0_0 0 a0_0 l0_1
theorem spec_l2Free.mono_l:∀k,(∀y0 y1 y2 y3,LeO (spec_l2Free.l0 k y0 y1 y2 y3) (spec_l2Free.l0 (k+1) y0 y1 y2 y3))
 |0=>fun _ _ _ _ r h=>by simp[spec_l2Free.l0] at h
 |k+1=>by
  have ih0:=spec_l2Free.mono_l k
  ·intro y0 y1 y2 y3
   unfold spec_l2Free.l0
   repeat' first
   |(with_reducible exact ih0 _ _ _ _)
   |(with_reducible exact LeO.refl _)
   |(with_reducible exact LeO.none _)
   |(with_reducible refine LeO.ite ?_ ?_)
   |(with_reducible refine LeO.bind ?_ (fun _=>?_))
   |exact ih0 _ _ _ _
   |exact LeO.none _
   |refine LeO.ite ?_ ?_
   |refine LeO.bind ?_ (fun _=>?_)
theorem spec_l2Free.mono:∀a0 a1 k,LeO (spec_l2Free.f k a0 a1) (spec_l2Free.f (k+1) a0 a1):=by
 intro a0 a1 k
 have ih0:=spec_l2Free.mono_l k
 unfold spec_l2Free.f
 repeat' first
   |(with_reducible exact ih0 _ _ _ _)
   |(with_reducible exact LeO.refl _)
   |(with_reducible exact LeO.none _)
   |(with_reducible refine LeO.ite ?_ ?_)
   |(with_reducible refine LeO.bind ?_ (fun _=>?_))
   |exact ih0 _ _ _ _
   |exact LeO.none _
   |refine LeO.ite ?_ ?_
   |refine LeO.bind ?_ (fun _=>?_)
set_option maxHeartbeats 8000000 in
set_option maxRecDepth 100000 in
theorem spec_l2Free.calls (k:Nat) (a0_0:Int) (A0_1:Option Addr) (c0_1:Nat) (l0_1:List (S46)) (r:Int) (w:World) (hr0_1:Kd.C k46 w A0_1 l0_1.length l0_1) (hc0_1:l0_1.length≤c0_1) (h:spec_l2Free.f k a0_0 l0_1=some r) :
  Calls Try.prog 73 #[.agg #[.int .i64 a0_0,.slice A0_1 l0_1.length c0_1]] w fun e w'=>e=.returned (.int .i64 r)∧Below w.heap.size w w':=by
 have hu36:=Try.underlying36
 have HR0_1:=Aside0.mk hr0_1
 have HC0_1:=Aside0.mk hc0_1
 clear hr0_1 hc0_1
 have HB:=Aside0.mk (Below.refl w.heap.size w)
 have H:(spec_l2Free.l0 k a0_0 0 a0_0 l0_1)=some r:=h
 clear h
 have H':=Aside0.mk H
 clear H
 go_enter Try.func73,Try.ntmps73
 go_wp2_with(first|((with_reducible refine qah (N:=1) rfl ?_);refine zX (N:=1) (cs:=#[.int .i64 a0_0,.slice A0_1 l0_1.length c0_1]) (t:=36) ?_;intro gb270 hg w2 hbox hb;have BK270:=Aside0.mk hbox;have GW270:=zH (w:=w) hg (za1 HB);have GE270:=GW270;replace HB:=Aside0.mk (qab (za1 HB) hb);clear hb hbox hg;obtain⟨hcz3_0,hcz3_1,hfz3_0,hfz3_1⟩:=zC2 BK270))
 go_loopg [3,4] k (fun kq v3 v4 w'=>∃(x3_1:Int) (x4_1:Int),v3=.int .i64 x3_1∧v4=.int .i64 x4_1∧Aside0 (spec_l2Free.l0 kq x3_1 x4_1 a0_0 l0_1=some r)∧Aside0 (kq≤k)∧Aside0 (w'.heap[gb270]?=some (.cells #[.int .i64 a0_0,(.slice A0_1 l0_1.length c0_1)] 36 (0,0)))∧Aside0 (Below w.heap.size w w'))
 case atStart=>exact⟨(a0_0),(0),(za17),(za17),H',⟨Nat.le_refl _⟩,⟨za16 BK270⟩,⟨za0 HB GE270⟩⟩
 case round=>
  clear H'
  try clear p2
  try clear hcz3_0
  try clear hcz3_1
  try clear hfz3_0
  try clear hfz3_1
  obtain⟨x3_1,x4_1,rfl,rfl,HA,HK1,BK270,HB⟩:=hrel
  cases gk with
  |zero=>exact absurd HA.out (by simp[spec_l2Free.l0])
  |succ k1=>
   have H:=HA.out
   clear HA
   simp only[spec_l2Free.l0] at H
   by_cases c4:x4_1<(l0_1.length:Int)
   ·rw[if_pos c4] at H
    have c4b0:decide (x4_1<(l0_1.length:Int))=true:=decide_eq_true c4
    clear c4
    by_cases c5:0≤x4_1
    ·rw[if_pos c5] at H
     have c5b0:decide (0≤x4_1)=true:=decide_eq_true c5
     clear c5
     by_cases c6:((rd_T46 l0_1 x4_1).f1)=1
     ·rw[if_pos c6] at H
      have c6b0:(((rd_T46 l0_1 x4_1).f1) == 1)=true:=beq_iff_eq.mpr c6
      have c6b1:(((rd_T46 l0_1 x4_1).f1) != 1)=false:=bne_eq_false_iff_eq.mpr c6
      clear c6
      have H':=Aside0.mk H
      clear H
      obtain⟨hcz7_0,hcz7_1,hfz7_0,hfz7_1⟩:=zC2 BK270
      have p271:0≤(x4_1:Int):=of_decide_eq_true (za5)
      have q271:x4_1<(l0_1.length:Int):=of_decide_eq_true (za5)
      obtain⟨ad271,e271,hx271_0,hx271_1⟩:=at_T46 HR0_1.out x4_1 p271 q271
      cases e271
      replace hx271_0:=(HB.out.cell (World.block_lt_of_cell? w _ hx271_0)).trans hx271_0
      replace hx271_1:=(HB.out.cell (World.block_lt_of_cell? w _ hx271_1)).trans hx271_1
      replace p271:=eq_true p271
      replace q271:=eq_true q271
      have p272:0≤(x4_1:Int):=of_decide_eq_true (za5)
      have q272:x4_1<(l0_1.length:Int):=of_decide_eq_true (za5)
      obtain⟨ad272,e272,hx272_0,hx272_1⟩:=at_T46 HR0_1.out x4_1 p272 q272
      obtain rfl:ad271=ad272:=(by injection e272)
      replace hx272_0:=(HB.out.cell (World.block_lt_of_cell? w _ hx272_0)).trans hx272_0
      replace hx272_1:=(HB.out.cell (World.block_lt_of_cell? w _ hx272_1)).trans hx272_1
      replace p272:=eq_true p272
      replace q272:=eq_true q272
      go_wp2
      go_roundg k1
      case measure=>have:=HK1.out;omega
      case rel=>exact⟨(wrap64 (x3_1 - ((rd_T46 l0_1 x4_1).f0))),(wrap64 (x4_1+1)),(za17),(za17),H',⟨by have:=HK1.out;omega⟩,⟨za16 BK270⟩,⟨za0 HB GE270⟩⟩
     ·rw[if_neg c6] at H
      have c6b0:(((rd_T46 l0_1 x4_1).f1) == 1)=false:=beq_eq_false_iff_ne.mpr c6
      have c6b1:(((rd_T46 l0_1 x4_1).f1) != 1)=true:=bne_iff_ne.mpr c6
      by_cases c8:((rd_T46 l0_1 x4_1).f1)=2
      ·rw[if_pos c8] at H
       have c8b0:(((rd_T46 l0_1 x4_1).f1) == 2)=true:=beq_iff_eq.mpr c8
       have c8b1:(((rd_T46 l0_1 x4_1).f1) != 2)=false:=bne_eq_false_iff_eq.mpr c8
       clear c8
       have H':=Aside0.mk H
       clear H
       obtain⟨hcz9_0,hcz9_1,hfz9_0,hfz9_1⟩:=zC2 BK270
       have p271:0≤(x4_1:Int):=of_decide_eq_true (za5)
       have q271:x4_1<(l0_1.length:Int):=of_decide_eq_true (za5)
       obtain⟨ad271,e271,hx271_0,hx271_1⟩:=at_T46 HR0_1.out x4_1 p271 q271
       cases e271
       replace hx271_0:=(HB.out.cell (World.block_lt_of_cell? w _ hx271_0)).trans hx271_0
       replace hx271_1:=(HB.out.cell (World.block_lt_of_cell? w _ hx271_1)).trans hx271_1
       replace p271:=eq_true p271
       replace q271:=eq_true q271
       have p273:0≤(x4_1:Int):=of_decide_eq_true (za5)
       have q273:x4_1<(l0_1.length:Int):=of_decide_eq_true (za5)
       obtain⟨ad273,e273,hx273_0,hx273_1⟩:=at_T46 HR0_1.out x4_1 p273 q273
       obtain rfl:ad271=ad273:=(by injection e273)
       replace hx273_0:=(HB.out.cell (World.block_lt_of_cell? w _ hx273_0)).trans hx273_0
       replace hx273_1:=(HB.out.cell (World.block_lt_of_cell? w _ hx273_1)).trans hx273_1
       replace p273:=eq_true p273
       replace q273:=eq_true q273
       have p274:0≤(x4_1:Int):=of_decide_eq_true (za5)
       have q274:x4_1<(l0_1.length:Int):=of_decide_eq_true (za5)
       obtain⟨ad274,e274,hx274_0,hx274_1⟩:=at_T46 HR0_1.out x4_1 p274 q274
       obtain rfl:ad271=ad274:=(by injection e274)
       replace hx274_0:=(HB.out.cell (World.block_lt_of_cell? w _ hx274_0)).trans hx274_0
       replace hx274_1:=(HB.out.cell (World.block_lt_of_cell? w _ hx274_1)).trans hx274_1
       replace p274:=eq_true p274
       replace q274:=eq_true q274
       go_wp2
       go_roundg k1
       case measure=>have:=HK1.out;omega
       case rel=>exact⟨(wrap64 (x3_1 - ((rd_T46 l0_1 x4_1).f0))),(wrap64 (x4_1+1)),(za17),(za17),H',⟨by have:=HK1.out;omega⟩,⟨za16 BK270⟩,⟨za0 HB GE270⟩⟩
      ·rw[if_neg c8] at H
       have c8b0:(((rd_T46 l0_1 x4_1).f1) == 2)=false:=beq_eq_false_iff_ne.mpr c8
       have c8b1:(((rd_T46 l0_1 x4_1).f1) != 2)=true:=bne_iff_ne.mpr c8
       have H':=Aside0.mk H
       clear H
       obtain⟨hcz10_0,hcz10_1,hfz10_0,hfz10_1⟩:=zC2 BK270
       have p271:0≤(x4_1:Int):=of_decide_eq_true (za5)
       have q271:x4_1<(l0_1.length:Int):=of_decide_eq_true (za5)
       obtain⟨ad271,e271,hx271_0,hx271_1⟩:=at_T46 HR0_1.out x4_1 p271 q271
       cases e271
       replace hx271_0:=(HB.out.cell (World.block_lt_of_cell? w _ hx271_0)).trans hx271_0
       replace hx271_1:=(HB.out.cell (World.block_lt_of_cell? w _ hx271_1)).trans hx271_1
       replace p271:=eq_true p271
       replace q271:=eq_true q271
       have p273:0≤(x4_1:Int):=of_decide_eq_true (za5)
       have q273:x4_1<(l0_1.length:Int):=of_decide_eq_true (za5)
       obtain⟨ad273,e273,hx273_0,hx273_1⟩:=at_T46 HR0_1.out x4_1 p273 q273
       obtain rfl:ad271=ad273:=(by injection e273)
       replace hx273_0:=(HB.out.cell (World.block_lt_of_cell? w _ hx273_0)).trans hx273_0
       replace hx273_1:=(HB.out.cell (World.block_lt_of_cell? w _ hx273_1)).trans hx273_1
       replace p273:=eq_true p273
       replace q273:=eq_true q273
       go_wp2
       go_roundg k1
       case measure=>have:=HK1.out;omega
       case rel=>exact⟨(x3_1),(wrap64 (x4_1+1)),(za17),(za17),H',⟨by have:=HK1.out;omega⟩,⟨za16 BK270⟩,⟨za0 HB GE270⟩⟩
    ·rw[if_neg c5] at H
     exact absurd H (by simp)
   ·rw[if_neg c4] at H
    have c4b0:decide (x4_1<(l0_1.length:Int))=false:=decide_eq_false c4
    clear c4
    obtain rfl:=Option.some.inj H
    obtain⟨hcz11_0,hcz11_1,hfz11_0,hfz11_1⟩:=zC2 BK270
    go_wp2
    go_ret
    exact⟨za9,za0 HB GE270⟩
def spec_StockOk.l0:Nat→Int→Int→List (S46)→Option (Bool)
 |0,_,_,_=>none
 |k+1,x3,x276000,x276001=>if x3<(x276001.length:Int) then(if 0≤x3 then((spec_l2Hold.f k ((rd_T46 x276001 x3).f0) ((rd_T46 x276001 x3).f1)).bind fun t277=>(if t277=true then(spec_StockOk.l0 k (wrap64 (x3+1)) x276000 x276001) else(some false))) else(none)) else((spec_l6In.f x276000 0 9).bind fun t278=>(if t278=true then(if(x276001.length:Int)=6 then((spec_l2Free.f k x276000 x276001).bind fun t279=>(some (decide (t279≥0)))) else(some false)) else(some false)))
def spec_StockOk.f (k:Nat) (a0_0:Int) (l0_1:List (S46)):Option (Bool):=spec_StockOk.l0 k 0 a0_0 l0_1
theorem spec_StockOk.mono_l:∀k,(∀y0 y1 y2,LeO (spec_StockOk.l0 k y0 y1 y2) (spec_StockOk.l0 (k+1) y0 y1 y2))
 |0=>fun _ _ _ r h=>by simp[spec_StockOk.l0] at h
 |k+1=>by
  have ih0:=spec_StockOk.mono_l k
  ·intro y0 y1 y2
   unfold spec_StockOk.l0
   repeat' first
   |(with_reducible exact ih0 _ _ _)
   |(with_reducible exact spec_l2Free.mono _ _ _)
   |(with_reducible exact spec_l2Hold.mono _ _ _)
   |(with_reducible exact LeO.refl _)
   |(with_reducible exact LeO.none _)
   |(with_reducible refine LeO.ite ?_ ?_)
   |(with_reducible refine LeO.bind ?_ (fun _=>?_))
   |exact ih0 _ _ _
   |exact spec_l2Free.mono _ _ _
   |exact spec_l2Hold.mono _ _ _
   |exact LeO.none _
   |refine LeO.ite ?_ ?_
   |refine LeO.bind ?_ (fun _=>?_)
theorem spec_StockOk.mono:∀a0 a1 k,LeO (spec_StockOk.f k a0 a1) (spec_StockOk.f (k+1) a0 a1):=by
 intro a0 a1 k
 have ih0:=spec_StockOk.mono_l k
 unfold spec_StockOk.f
 repeat' first
   |(with_reducible exact ih0 _ _ _)
   |(with_reducible exact spec_l2Free.mono _ _ _)
   |(with_reducible exact spec_l2Hold.mono _ _ _)
   |(with_reducible exact LeO.refl _)
   |(with_reducible exact LeO.none _)
   |(with_reducible refine LeO.ite ?_ ?_)
   |(with_reducible refine LeO.bind ?_ (fun _=>?_))
   |exact ih0 _ _ _
   |exact spec_l2Free.mono _ _ _
   |exact spec_l2Hold.mono _ _ _
   |exact LeO.none _
   |refine LeO.ite ?_ ?_
   |refine LeO.bind ?_ (fun _=>?_)
set_option maxHeartbeats 8000000 in
set_option maxRecDepth 100000 in
theorem spec_StockOk.calls (k:Nat) (a0_0:Int) (A0_1:Option Addr) (c0_1:Nat) (l0_1:List (S46)) (r:Bool) (w:World) (hr0_1:Kd.C k46 w A0_1 l0_1.length l0_1) (hc0_1:l0_1.length≤c0_1) (h:spec_StockOk.f k a0_0 l0_1=some r) :
  Calls Try.prog 28 #[.agg #[.int .i64 a0_0,.slice A0_1 l0_1.length c0_1]] w fun e w'=>e=.returned (.bool r)∧Below w.heap.size w w':=by
 have hu36:=Try.underlying36
 have hu46:=Try.underlying46
 have HR0_1:=Aside0.mk hr0_1
 have HC0_1:=Aside0.mk hc0_1
 clear hr0_1 hc0_1
 have HB:=Aside0.mk (Below.refl w.heap.size w)
 have H:(spec_StockOk.l0 k 0 a0_0 l0_1)=some r:=h
 clear h
 have H':=Aside0.mk H
 clear H
 go_enter Try.func28,Try.ntmps28
 go_wp2_with(first|((with_reducible refine qah (N:=1) rfl ?_);(try(refine qaq (by rfl) ?_;dsimp only));refine zX (N:=1) (cs:=#[.int .i64 a0_0,.slice A0_1 l0_1.length c0_1]) (t:=36) ?_;intro gb275 hg w2 hbox hb;have BK275:=Aside0.mk hbox;have GW275:=zH (w:=w) hg (za1 HB);have GE275:=GW275;replace HB:=Aside0.mk (qab (za1 HB) hb);clear hb hbox hg))
 go_loopg [3] k (fun kq v3 w'=>∃(x3_1:Int),v3=.int .i64 x3_1∧Aside0 (spec_StockOk.l0 kq x3_1 a0_0 l0_1=some r)∧Aside0 (kq≤k)∧Aside0 (w'.heap[gb275]?=some (.cells #[.int .i64 a0_0,(.slice A0_1 l0_1.length c0_1)] 36 (0,0)))∧Aside0 (Below w.heap.size w w'))
 case atStart=>exact⟨(0),(za17),H',⟨Nat.le_refl _⟩,⟨za16 BK275⟩,⟨za0 HB GE275⟩⟩
 case round=>
  clear H'
  try clear c2
  try clear p2
  obtain⟨x3_1,rfl,HA,HK1,BK275,HB⟩:=hrel
  cases gk with
  |zero=>exact absurd HA.out (by simp[spec_StockOk.l0])
  |succ k1=>
   have H:=HA.out
   clear HA
   simp only[spec_StockOk.l0] at H
   by_cases c3:x3_1<(l0_1.length:Int)
   ·rw[if_pos c3] at H
    have c3b0:decide (x3_1<(l0_1.length:Int))=true:=decide_eq_true c3
    clear c3
    by_cases c4:0≤x3_1
    ·rw[if_pos c4] at H
     have c4b0:decide (0≤x3_1)=true:=decide_eq_true c4
     clear c4
     replace H:=Option.bind_eq_some_iff.mp H
     obtain⟨t277,A50,H⟩:=H
     replace H:(if t277=true then(spec_StockOk.l0 k1 (wrap64 (x3_1+1)) a0_0 l0_1) else(some false))=some r:=H
     have A5:=Aside0.mk A50
     clear A50
     by_cases c6:t277=true
     ·subst c6
      have H1:(spec_StockOk.l0 k1 (wrap64 (x3_1+1)) a0_0 l0_1)=some r:=by rw[if_pos rfl] at H;exact H
      clear H
      have H:=H1
      clear H1
      have H':=Aside0.mk H
      clear H
      obtain⟨hcz7_0,hcz7_1,hfz7_0,hfz7_1⟩:=zC2 BK275
      have p276:0≤(x3_1:Int):=of_decide_eq_true (za5)
      have q276:x3_1<(l0_1.length:Int):=of_decide_eq_true (za5)
      obtain⟨ad276,e276,hx276_0,hx276_1⟩:=at_T46 HR0_1.out x3_1 p276 q276
      cases e276
      replace hx276_0:=(HB.out.cell (World.block_lt_of_cell? w _ hx276_0)).trans hx276_0
      replace hx276_1:=(HB.out.cell (World.block_lt_of_cell? w _ hx276_1)).trans hx276_1
      replace p276:=eq_true p276
      replace q276:=eq_true q276
      go_wp2_with(first|((with_reducible refine qaf (f:=72) rfl ?_);refine zF (some 16) Try.func72 #[.agg #[.int .i64 ((rd_T46 l0_1 x3_1).f0),.int .i64 ((rd_T46 l0_1 x3_1).f1)]] ?_;(with_reducible refine(spec_l2Hold.calls k1 ((rd_T46 l0_1 x3_1).f0) ((rd_T46 l0_1 x3_1).f1) true _ A5.out).mono ?_);rintro e w8 ⟨rfl,hb⟩;refine⟨_,rfl,?_⟩;replace BK275:=Aside0.mk (qaa (zB BK275) hb);replace HB:=Aside0.mk (qab (za0 HB GE275) hb);(try clear hb)))
      go_roundg k1
      case measure=>have:=HK1.out;omega
      case rel=>exact⟨(wrap64 (x3_1+1)),(za17),H',⟨by have:=HK1.out;omega⟩,⟨za16 BK275⟩,⟨za0 HB GE275⟩⟩
     ·replace c6:=Bool.eq_false_iff.mpr c6
      subst c6
      have H1:(some false)=some r:=by rw[if_neg (show ¬(false=true) by decide)] at H;exact H
      clear H
      have H:=H1
      clear H1
      obtain rfl:=Option.some.inj H
      obtain⟨hcz9_0,hcz9_1,hfz9_0,hfz9_1⟩:=zC2 BK275
      have p276:0≤(x3_1:Int):=of_decide_eq_true (za5)
      have q276:x3_1<(l0_1.length:Int):=of_decide_eq_true (za5)
      obtain⟨ad276,e276,hx276_0,hx276_1⟩:=at_T46 HR0_1.out x3_1 p276 q276
      cases e276
      replace hx276_0:=(HB.out.cell (World.block_lt_of_cell? w _ hx276_0)).trans hx276_0
      replace hx276_1:=(HB.out.cell (World.block_lt_of_cell? w _ hx276_1)).trans hx276_1
      replace p276:=eq_true p276
      replace q276:=eq_true q276
      go_wp2_with(first|((with_reducible refine qaf (f:=72) rfl ?_);refine zF (some 16) Try.func72 #[.agg #[.int .i64 ((rd_T46 l0_1 x3_1).f0),.int .i64 ((rd_T46 l0_1 x3_1).f1)]] ?_;(with_reducible refine(spec_l2Hold.calls k1 ((rd_T46 l0_1 x3_1).f0) ((rd_T46 l0_1 x3_1).f1) false _ A5.out).mono ?_);rintro e w10 ⟨rfl,hb⟩;refine⟨_,rfl,?_⟩;replace BK275:=Aside0.mk (qaa (zB BK275) hb);replace HB:=Aside0.mk (qab (za0 HB GE275) hb);(try clear hb)))
      go_ret
      exact⟨za9,za0 HB GE275⟩
    ·rw[if_neg c4] at H
     exact absurd H (by simp)
   ·rw[if_neg c3] at H
    have c3b0:decide (x3_1<(l0_1.length:Int))=false:=decide_eq_false c3
    clear c3
    replace H:=Option.bind_eq_some_iff.mp H
    obtain⟨t278,A110,H⟩:=H
    replace H:(if t278=true then(if(l0_1.length:Int)=6 then((spec_l2Free.f k1 a0_0 l0_1).bind fun t279=>(some (decide (t279≥0)))) else(some false)) else(some false))=some r:=H
    have A11:=Aside0.mk A110
    clear A110
    by_cases c12:t278=true
    ·subst c12
     have H1:(if(l0_1.length:Int)=6 then((spec_l2Free.f k1 a0_0 l0_1).bind fun t279=>(some (decide (t279≥0)))) else(some false))=some r:=by rw[if_pos rfl] at H;exact H
     clear H
     have H:=H1
     clear H1
     by_cases c13:(l0_1.length:Int)=6
     ·rw[if_pos c13] at H
      have c13b0:((l0_1.length:Int) == 6)=true:=beq_iff_eq.mpr c13
      have c13b1:((l0_1.length:Int) != 6)=false:=bne_eq_false_iff_eq.mpr c13
      clear c13
      replace H:=Option.bind_eq_some_iff.mp H
      obtain⟨t279,A140,H⟩:=H
      replace H:(some (decide (t279≥0)))=some r:=H
      have A14:=Aside0.mk A140
      clear A140
      obtain rfl:=Option.some.inj H
      obtain⟨hcz15_0,hcz15_1,hfz15_0,hfz15_1⟩:=zC2 BK275
      go_wp2_with(first|((with_reducible refine qaf (f:=58) rfl ?_);refine zF (some 20) Try.func58 #[.int .i64 a0_0,.int .i64 0,.int .i64 9] ?_;(with_reducible refine(spec_l6In.calls a0_0 0 9 true _ A11.out).mono ?_);rintro e w' ⟨rfl,⟨nd,rfl⟩⟩;refine⟨_,rfl,?_⟩)|(go_at_call 73;(with_reducible refine(spec_l2Free.calls k1 a0_0 _ _ l0_1 t279 _ ?side1 ?side2 A14.out).mono ?_);(case side1=>repeat(first|exact(Kd.C_below HR0_1.out (za0 HB GE275))|(with_reducible refine Kd.C_alloc ?_ _)|(with_reducible refine Kd.C_drewN ?_ _)|(with_reducible refine Kd.C_drew ?_)));(case side2=>exact HC0_1.out);rintro e w16 ⟨rfl,hb⟩;replace BK275:=Aside0.mk (qaa (zB BK275) hb);replace HB:=Aside0.mk (qab (za0 HB GE275) hb);(try clear hb)))
      go_ret
      exact⟨za9,za0 HB GE275⟩
     ·rw[if_neg c13] at H
      have c13b0:((l0_1.length:Int) == 6)=false:=beq_eq_false_iff_ne.mpr c13
      have c13b1:((l0_1.length:Int) != 6)=true:=bne_iff_ne.mpr c13
      obtain rfl:=Option.some.inj H
      obtain⟨hcz17_0,hcz17_1,hfz17_0,hfz17_1⟩:=zC2 BK275
      go_wp2_with(first|((with_reducible refine qaf (f:=58) rfl ?_);refine zF (some 20) Try.func58 #[.int .i64 a0_0,.int .i64 0,.int .i64 9] ?_;(with_reducible refine(spec_l6In.calls a0_0 0 9 true _ A11.out).mono ?_);rintro e w' ⟨rfl,⟨nd,rfl⟩⟩;refine⟨_,rfl,?_⟩))
      go_ret
      exact⟨za9,za0 HB GE275⟩
    ·replace c12:=Bool.eq_false_iff.mpr c12
     subst c12
     have H1:(some false)=some r:=by rw[if_neg (show ¬(false=true) by decide)] at H;exact H
     clear H
     have H:=H1
     clear H1
     obtain rfl:=Option.some.inj H
     obtain⟨hcz18_0,hcz18_1,hfz18_0,hfz18_1⟩:=zC2 BK275
     go_wp2_with(first|((with_reducible refine qaf (f:=58) rfl ?_);refine zF (some 20) Try.func58 #[.int .i64 a0_0,.int .i64 0,.int .i64 9] ?_;(with_reducible refine(spec_l6In.calls a0_0 0 9 false _ A11.out).mono ?_);rintro e w' ⟨rfl,⟨nd,rfl⟩⟩;refine⟨_,rfl,?_⟩))
     go_ret
     exact⟨za9,za0 HB GE275⟩
end Go.Proofs.Ytjccnaklodbbfaa.Print
