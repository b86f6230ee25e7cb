-- Written by squeeze.py: not trusted, Lean checks it.
import Derived.Test.YtmbdphefnalenaaZK
import Derived.Test.YtmbdphefnalenaaZd0
import Derived.Test.YtmbdphefnalenaaZe0
namespace Go.Proofs.Ytmbdphefnalenaa.Print
open Go.RowKit Go.Proofs.YtmbdphefnalenaaW.PrintWords Go.Proofs.YtmbdphefnalenaaW.PrintLast Go.Proofs.YtmbdphefnalenaaW.PrintMore
attribute [local go_sem] max2_int min2_int max_two min_two max_three min_three max_four min_four
set_option linter.unusedVariables false
set_option linter.unusedSimpArgs false
def spec_l2Hold.j0:Nat→Int→Bool→Int→Int→Option (Bool)
 |0,_,_,_,_=>none
 |k+1,x4,x10,x403000,x403001=>if x10=true then((spec_l6In.f x403000 1 3).bind fun t403=>(some t403)) else(if x4=3 then((spec_l6In.f x403000 0 3).bind fun t404=>(some t404)) else(some false))
def spec_l2Hold.f (k:Nat) (a0_0:Int) (a0_1:Int):Option (Bool):=if a0_1=0 then(some (a0_0 == 0)) else(if a0_1=1 then(spec_l2Hold.j0 k a0_1 (a0_1 == 1) a0_0 a0_1) else(spec_l2Hold.j0 k a0_1 (a0_1 == 2) a0_0 a0_1))
theorem spec_l2Hold.mono_l:∀k,(∀y0 y1 y2 y3,LeO (spec_l2Hold.j0 k y0 y1 y2 y3) (spec_l2Hold.j0 (k+1) y0 y1 y2 y3))
 |0=>fun _ _ _ _ r h=>by simp[spec_l2Hold.j0] at h
 |k+1=>by
  have ih0:=spec_l2Hold.mono_l k
  ·intro y0 y1 y2 y3;unfold spec_l2Hold.j0
   repeat' first|(with_reducible exact ih0 _ _ _ _)|(with_reducible exact LeO.refl _)|(with_reducible exact LeO.none _)|(with_reducible refine LeO.ite ?_ ?_)|(with_reducible refine LeO.bind ?_ (fun _=>?_))|exact ih0 _ _ _ _|exact LeO.none _|refine LeO.ite ?_ ?_|refine LeO.bind ?_ (fun _=>?_)
theorem spec_l2Hold.mono:∀a0 a1 k,LeO (spec_l2Hold.f k a0 a1) (spec_l2Hold.f (k+1) a0 a1):=by
 intro a0 a1 k;have ih0:=spec_l2Hold.mono_l k;unfold spec_l2Hold.f
 repeat' first|(with_reducible exact ih0 _ _ _ _)|(with_reducible exact LeO.refl _)|(with_reducible exact LeO.none _)|(with_reducible refine LeO.ite ?_ ?_)|(with_reducible refine LeO.bind ?_ (fun _=>?_))|exact ih0 _ _ _ _|exact LeO.none _|refine LeO.ite ?_ ?_|refine LeO.bind ?_ (fun _=>?_)
set_option maxHeartbeats 8000000 in
set_option maxRecDepth 100000 in
theorem spec_l2Hold.calls (k:Nat) (a0_0:Int) (a0_1:Int) (r:Bool) (w:World) (h:spec_l2Hold.f k a0_0 a0_1=some r) :
  Calls Try.prog 106 #[.agg #[.int .i64 a0_0,.int .i64 a0_1]] w fun e w'=>e=.returned (.bool r)∧Below w.heap.size w w':=by
 have hu49:=Try.underlying49;have HB:=qaf.mk (Below.refl w.heap.size w);have H:(if a0_1=0 then(some (a0_0 == 0)) else(if a0_1=1 then(spec_l2Hold.j0 k a0_1 (a0_1 == 1) a0_0 a0_1) else(spec_l2Hold.j0 k a0_1 (a0_1 == 2) a0_0 a0_1)))=some r:=h;clear h;by_cases c2:a0_1=0
 ·rw[if_pos c2] at H;have c2b0:(a0_1 == 0)=true:=beq_iff_eq.mpr c2;have c2b1:(a0_1 != 0)=false:=bne_eq_false_iff_eq.mpr c2;clear c2;obtain rfl:=Option.some.inj H;go_enter Try.func106,Try.ntmps106
  go_wp2_with(first|((with_reducible refine qam (N:=1) rfl ?_);refine zX (N:=1) (cs:=#[.int .i64 a0_0,.int .i64 a0_1]) (t:=49) ?_;intro gb402 hg w3 hbox hb;have BK402:=qaf.mk hbox;have GW402:=zH (w:=w) hg (za2 HB);have GE402:=GW402;replace HB:=qaf.mk (qad (za2 HB) hb);clear hb hbox hg;obtain⟨hcz4_0,hcz4_1,hfz4_0,hfz4_1⟩:=zC2 BK402))
  go_ret;exact⟨za12,za3 HB GE402⟩
 ·rw[if_neg c2] at H;have c2b0:(a0_1 == 0)=false:=beq_eq_false_iff_ne.mpr c2;have c2b1:(a0_1 != 0)=true:=bne_iff_ne.mpr c2;have HC5:=qaf.mk H;clear H;go_enter Try.func106,Try.ntmps106
  go_upto_if 10 with(first|((with_reducible refine qam (N:=1) rfl ?_);refine zX (N:=1) (cs:=#[.int .i64 a0_0,.int .i64 a0_1]) (t:=49) ?_;intro gb402 hg w6 hbox hb;have BK402:=qaf.mk hbox;have GW402:=zH (w:=w) hg (za2 HB);have GE402:=GW402;replace HB:=qaf.mk (qad (za2 HB) hb);clear hb hbox hg;obtain⟨hcz7_0,hcz7_1,hfz7_0,hfz7_1⟩:=zC2 BK402))
  (try simp only[Act.put,List.setIfInBounds_toArray,List.set_cons_zero,List.set_cons_succ])
  go_cut [10] (fun v10 wc=>∃(kq:Nat) (x10_4:Bool),v10=.bool x10_4∧qaf (spec_l2Hold.j0 kq a0_1 x10_4 a0_0 a0_1=some r)∧qaf (kq≤k)∧qaf (wc.heap[gb402]?=some (.cells #[.int .i64 a0_0,.int .i64 a0_1] 49 (0,0)))∧qaf (Below w.heap.size w wc))
  case first=>
   have H:=HC5.out;clear HC5;by_cases c8:a0_1=1
   ·rw[if_pos c8] at H;have c8b0:(a0_1 == 1)=true:=beq_iff_eq.mpr c8;have c8b1:(a0_1 != 1)=false:=bne_eq_false_iff_eq.mpr c8;clear c8;(first|rw[c8b0]|(simp only[qai,qaj];rw[c8b0])|skip);have H':=qaf.mk H;clear H;go_wp2
    go_meet
    case rel=>exact⟨_,((a0_1 == 1)),(za38),H',⟨za64⟩,⟨za11 BK402⟩,⟨za3 HB GE402⟩⟩
   ·rw[if_neg c8] at H;have c8b0:(a0_1 == 1)=false:=beq_eq_false_iff_ne.mpr c8;have c8b1:(a0_1 != 1)=true:=bne_iff_ne.mpr c8;(first|rw[c8b0]|(simp only[qai,qaj];rw[c8b0])|skip);have H':=qaf.mk H;clear H;go_wp2
    go_meet
    case rel=>exact⟨_,((a0_1 == 2)),(za38),H',⟨za64⟩,⟨za11 BK402⟩,⟨za3 HB GE402⟩⟩
  case rest=>
   clear HC5
   try clear c1
   try clear c2
   try clear c2b0
   try clear c2b1
   try clear p2
   try clear c8
   try clear c8b0
   try clear c8b1
   try clear hcz4_0
   try clear hcz4_1
   try clear hcz7_0
   try clear hcz7_1
   try clear hfz4_0
   try clear hfz4_1
   try clear hfz7_0
   try clear hfz7_1
   obtain⟨kq,x10_4,rfl,HA,HJ4,BK402,HB⟩:=hcut
   cases kq with
   |zero=>exact absurd HA.out (by simp[spec_l2Hold.j0])
   |succ kj4=>
    have H:=HA.out;clear HA;simp only[spec_l2Hold.j0] at H;by_cases c9:x10_4=true
    ·subst c9
     have H1:((spec_l6In.f a0_0 1 3).bind fun t403=>(some t403))=some r:=by rw[if_pos rfl] at H;exact H
     clear H;have H:=H1;clear H1;replace H:=Option.bind_eq_some_iff.mp H;obtain⟨t403,A100,H⟩:=H;replace H:(some t403)=some r:=H;have A10:=qaf.mk A100;clear A100;obtain rfl:=Option.some.inj H;obtain⟨hcz11_0,hcz11_1,hfz11_0,hfz11_1⟩:=zC2 BK402
     go_wp2_with(first|((with_reducible refine qag (f:=80) rfl ?_);refine zF (some 15) Try.func80 #[.int .i64 a0_0,.int .i64 1,.int .i64 3] ?_;(with_reducible refine(spec_l6In.calls a0_0 1 3 t403 _ A10.out).mono ?_);rintro e w' ⟨rfl,⟨nd,rfl⟩⟩;refine⟨_,rfl,?_⟩))
     go_ret;exact⟨za12,za3 HB GE402⟩
    ·replace c9:=Bool.eq_false_iff.mpr c9;subst c9
     have H1:(if a0_1=3 then((spec_l6In.f a0_0 0 3).bind fun t404=>(some t404)) else(some false))=some r:=by rw[if_neg (show ¬(false=true) by decide)] at H;exact H
     clear H;have H:=H1;clear H1;by_cases c12:a0_1=3
     ·rw[if_pos c12] at H;have c12b0:(a0_1 == 3)=true:=beq_iff_eq.mpr c12;have c12b1:(a0_1 != 3)=false:=bne_eq_false_iff_eq.mpr c12;clear c12;replace H:=Option.bind_eq_some_iff.mp H;obtain⟨t404,A130,H⟩:=H;replace H:(some t404)=some r:=H;have A13:=qaf.mk A130;clear A130;obtain rfl:=Option.some.inj H;obtain⟨hcz14_0,hcz14_1,hfz14_0,hfz14_1⟩:=zC2 BK402
      go_wp2_with(first|((with_reducible refine qag (f:=80) rfl ?_);refine zF (some 20) Try.func80 #[.int .i64 a0_0,.int .i64 0,.int .i64 3] ?_;(with_reducible refine(spec_l6In.calls a0_0 0 3 t404 _ A13.out).mono ?_);rintro e w' ⟨rfl,⟨nd,rfl⟩⟩;refine⟨_,rfl,?_⟩))
      go_ret;exact⟨za12,za3 HB GE402⟩
     ·rw[if_neg c12] at H;have c12b0:(a0_1 == 3)=false:=beq_eq_false_iff_ne.mpr c12;have c12b1:(a0_1 != 3)=true:=bne_iff_ne.mpr c12;obtain rfl:=Option.some.inj H;go_wp2;go_ret;exact⟨za12,za3 HB GE402⟩
def spec_StockOk.l0:Nat→Int→Int→List (S49)→Option (Bool)
 |0,_,_,_=>none
 |k+1,x3,x406000,x406001=>if x3<(x406001.length:Int) then(if 0≤x3 then((spec_l2Hold.f k ((rd_T49 x406001 x3).f0) ((rd_T49 x406001 x3).f1)).bind fun t407=>(if t407=true then(spec_StockOk.l0 k (wrap64 (x3+1)) x406000 x406001) else(some false))) else(none)) else((spec_l6In.f x406000 0 9).bind fun t408=>(if t408=true then(if(x406001.length:Int)=6 then((spec_l2Free.f k x406000 x406001).bind fun t409=>(some (decide (t409≥0)))) else(some false)) else(some false)))
def spec_StockOk.f (k:Nat) (a0_0:Int) (l0_1:List (S49)):Option (Bool):=spec_StockOk.l0 k 0 a0_0 l0_1
theorem spec_StockOk.mono_l:∀k,(∀y0 y1 y2,LeO (spec_StockOk.l0 k y0 y1 y2) (spec_StockOk.l0 (k+1) y0 y1 y2))
 |0=>fun _ _ _ r h=>by simp[spec_StockOk.l0] at h
 |k+1=>by
  have ih0:=spec_StockOk.mono_l k
  ·intro y0 y1 y2;unfold spec_StockOk.l0
   repeat' first|(with_reducible exact ih0 _ _ _)|(with_reducible exact spec_l2Free.mono _ _ _)|(with_reducible exact spec_l2Hold.mono _ _ _)|(with_reducible exact LeO.refl _)|(with_reducible exact LeO.none _)|(with_reducible refine LeO.ite ?_ ?_)|(with_reducible refine LeO.bind ?_ (fun _=>?_))|exact ih0 _ _ _|exact spec_l2Free.mono _ _ _|exact spec_l2Hold.mono _ _ _|exact LeO.none _|refine LeO.ite ?_ ?_|refine LeO.bind ?_ (fun _=>?_)
theorem spec_StockOk.mono:∀a0 a1 k,LeO (spec_StockOk.f k a0 a1) (spec_StockOk.f (k+1) a0 a1):=by
 intro a0 a1 k;have ih0:=spec_StockOk.mono_l k;unfold spec_StockOk.f
 repeat' first|(with_reducible exact ih0 _ _ _)|(with_reducible exact spec_l2Free.mono _ _ _)|(with_reducible exact spec_l2Hold.mono _ _ _)|(with_reducible exact LeO.refl _)|(with_reducible exact LeO.none _)|(with_reducible refine LeO.ite ?_ ?_)|(with_reducible refine LeO.bind ?_ (fun _=>?_))|exact ih0 _ _ _|exact spec_l2Free.mono _ _ _|exact spec_l2Hold.mono _ _ _|exact LeO.none _|refine LeO.ite ?_ ?_|refine LeO.bind ?_ (fun _=>?_)
set_option maxHeartbeats 8000000 in
set_option maxRecDepth 100000 in
theorem spec_StockOk.calls (k:Nat) (a0_0:Int) (A0_1:Option Addr) (c0_1:Nat) (l0_1:List (S49)) (r:Bool) (w:World) (hr0_1:Kd.C k49 w A0_1 l0_1.length l0_1) (hc0_1:l0_1.length≤c0_1) (h:spec_StockOk.f k a0_0 l0_1=some r) :
  Calls Try.prog 92 #[.agg #[.int .i64 a0_0,.slice A0_1 l0_1.length c0_1]] w fun e w'=>e=.returned (.bool r)∧Below w.heap.size w w':=by
 have hu38:=Try.underlying38;have hu49:=Try.underlying49;have HR0_1:=qaf.mk hr0_1;have HC0_1:=qaf.mk hc0_1;clear hr0_1 hc0_1;have HB:=qaf.mk (Below.refl w.heap.size w);have H:(spec_StockOk.l0 k 0 a0_0 l0_1)=some r:=h;clear h;have H':=qaf.mk H;clear H;go_enter Try.func92,Try.ntmps92
 go_wp2_with(first|((with_reducible refine qam (N:=1) rfl ?_);(try(refine qaw (by rfl) ?_;dsimp only));refine zX (N:=1) (cs:=#[.int .i64 a0_0,.slice A0_1 l0_1.length c0_1]) (t:=38) ?_;intro gb405 hg w2 hbox hb;have BK405:=qaf.mk hbox;have GW405:=zH (w:=w) hg (za2 HB);have GE405:=GW405;replace HB:=qaf.mk (qad (za2 HB) hb);clear hb hbox hg))
 go_loopg [3] k (fun kq v3 w'=>∃(x3_1:Int),v3=.int .i64 x3_1∧qaf (spec_StockOk.l0 kq x3_1 a0_0 l0_1=some r)∧qaf (kq≤k)∧qaf (w'.heap[gb405]?=some (.cells #[.int .i64 a0_0,(.slice A0_1 l0_1.length c0_1)] 38 (0,0)))∧qaf (Below w.heap.size w w'))
 case atStart=>exact⟨(0),(za38),H',⟨Nat.le_refl _⟩,⟨za11 BK405⟩,⟨za3 HB GE405⟩⟩
 case round=>
  clear H'
  try clear p2
  obtain⟨x3_1,rfl,HA,HK1,BK405,HB⟩:=hrel
  cases gk with
  |zero=>exact absurd HA.out (by simp[spec_StockOk.l0])
  |succ k1=>
   have H:=HA.out;clear HA;simp only[spec_StockOk.l0] at H;by_cases c3:x3_1<(l0_1.length:Int)
   ·rw[if_pos c3] at H;have c3b0:decide (x3_1<(l0_1.length:Int))=true:=decide_eq_true c3;clear c3;by_cases c4:0≤x3_1
    ·rw[if_pos c4] at H;have c4b0:decide (0≤x3_1)=true:=decide_eq_true c4;clear c4;replace H:=Option.bind_eq_some_iff.mp H;obtain⟨t407,A50,H⟩:=H;replace H:(if t407=true then(spec_StockOk.l0 k1 (wrap64 (x3_1+1)) a0_0 l0_1) else(some false))=some r:=H;have A5:=qaf.mk A50;clear A50;by_cases c6:t407=true
     ·subst c6
      have H1:(spec_StockOk.l0 k1 (wrap64 (x3_1+1)) a0_0 l0_1)=some r:=by rw[if_pos rfl] at H;exact H
      clear H;have H:=H1;clear H1;have H':=qaf.mk H;clear H;obtain⟨hcz7_0,hcz7_1,hfz7_0,hfz7_1⟩:=zC2 BK405;have p406:0≤(x3_1:Int):=of_decide_eq_true (za10);have q406:x3_1<(l0_1.length:Int):=of_decide_eq_true (za10);obtain⟨ad406,e406,hx406_0,hx406_1⟩:=at_T49 HR0_1.out x3_1 p406 q406
      cases e406
      replace hx406_0:=(HB.out.cell (World.block_lt_of_cell? w _ hx406_0)).trans hx406_0;replace hx406_1:=(HB.out.cell (World.block_lt_of_cell? w _ hx406_1)).trans hx406_1;replace p406:=eq_true p406;replace q406:=eq_true q406
      go_wp2_with(first|((with_reducible refine qag (f:=106) rfl ?_);refine zF (some 16) Try.func106 #[.agg #[.int .i64 ((rd_T49 l0_1 x3_1).f0),.int .i64 ((rd_T49 l0_1 x3_1).f1)]] ?_;(with_reducible refine(spec_l2Hold.calls k1 ((rd_T49 l0_1 x3_1).f0) ((rd_T49 l0_1 x3_1).f1) true _ A5.out).mono ?_);rintro e w8 ⟨rfl,hb⟩;refine⟨_,rfl,?_⟩;replace BK405:=zY BK405 hb;replace HB:=qaf.mk (qad (za3 HB GE405) hb);(try clear hb)))
      go_roundg k1
      case measure=>have:=HK1.out;omega
      case rel=>exact⟨(wrap64 (x3_1+1)),(za38),H',⟨by have:=HK1.out;omega⟩,⟨za11 BK405⟩,⟨za3 HB GE405⟩⟩
     ·replace c6:=Bool.eq_false_iff.mpr c6;subst c6
      have H1:(some false)=some r:=by rw[if_neg (show ¬(false=true) by decide)] at H;exact H
      clear H;have H:=H1;clear H1;obtain rfl:=Option.some.inj H;obtain⟨hcz9_0,hcz9_1,hfz9_0,hfz9_1⟩:=zC2 BK405;have p406:0≤(x3_1:Int):=of_decide_eq_true (za10);have q406:x3_1<(l0_1.length:Int):=of_decide_eq_true (za10);obtain⟨ad406,e406,hx406_0,hx406_1⟩:=at_T49 HR0_1.out x3_1 p406 q406
      cases e406
      replace hx406_0:=(HB.out.cell (World.block_lt_of_cell? w _ hx406_0)).trans hx406_0;replace hx406_1:=(HB.out.cell (World.block_lt_of_cell? w _ hx406_1)).trans hx406_1;replace p406:=eq_true p406;replace q406:=eq_true q406
      go_wp2_with(first|((with_reducible refine qag (f:=106) rfl ?_);refine zF (some 16) Try.func106 #[.agg #[.int .i64 ((rd_T49 l0_1 x3_1).f0),.int .i64 ((rd_T49 l0_1 x3_1).f1)]] ?_;(with_reducible refine(spec_l2Hold.calls k1 ((rd_T49 l0_1 x3_1).f0) ((rd_T49 l0_1 x3_1).f1) false _ A5.out).mono ?_);rintro e w10 ⟨rfl,hb⟩;refine⟨_,rfl,?_⟩;replace BK405:=zY BK405 hb;replace HB:=qaf.mk (qad (za3 HB GE405) hb);(try clear hb)))
      go_ret;exact⟨za12,za3 HB GE405⟩
    ·rw[if_neg c4] at H;exact absurd H (by simp)
   ·rw[if_neg c3] at H;have c3b0:decide (x3_1<(l0_1.length:Int))=false:=decide_eq_false c3;clear c3;replace H:=Option.bind_eq_some_iff.mp H;obtain⟨t408,A110,H⟩:=H;replace H:(if t408=true then(if(l0_1.length:Int)=6 then((spec_l2Free.f k1 a0_0 l0_1).bind fun t409=>(some (decide (t409≥0)))) else(some false)) else(some false))=some r:=H;have A11:=qaf.mk A110;clear A110;by_cases c12:t408=true
    ·subst c12
     have H1:(if(l0_1.length:Int)=6 then((spec_l2Free.f k1 a0_0 l0_1).bind fun t409=>(some (decide (t409≥0)))) else(some false))=some r:=by rw[if_pos rfl] at H;exact H
     clear H;have H:=H1;clear H1;by_cases c13:(l0_1.length:Int)=6
     ·rw[if_pos c13] at H;have c13b0:((l0_1.length:Int) == 6)=true:=beq_iff_eq.mpr c13;have c13b1:((l0_1.length:Int) != 6)=false:=bne_eq_false_iff_eq.mpr c13;clear c13;replace H:=Option.bind_eq_some_iff.mp H;obtain⟨t409,A140,H⟩:=H;replace H:(some (decide (t409≥0)))=some r:=H;have A14:=qaf.mk A140;clear A140;obtain rfl:=Option.some.inj H;obtain⟨hcz15_0,hcz15_1,hfz15_0,hfz15_1⟩:=zC2 BK405
      go_wp2_with(first|((with_reducible refine qag (f:=80) rfl ?_);refine zF (some 20) Try.func80 #[.int .i64 a0_0,.int .i64 0,.int .i64 9] ?_;(with_reducible refine(spec_l6In.calls a0_0 0 9 true _ A11.out).mono ?_);rintro e w' ⟨rfl,⟨nd,rfl⟩⟩;refine⟨_,rfl,?_⟩)|(go_at_call 105;(with_reducible refine(spec_l2Free.calls k1 a0_0 _ _ l0_1 t409 _ ?side1 ?side2 A14.out).mono ?_);(case side1=>repeat(first|exact(Kd.C_below HR0_1.out (za3 HB GE405))|(with_reducible refine Kd.C_alloc ?_ _)|(with_reducible refine Kd.C_drewN ?_ _)|(with_reducible refine Kd.C_drew ?_)));(case side2=>exact HC0_1.out);rintro e w16 ⟨rfl,hb⟩;replace BK405:=zY BK405 hb;replace HB:=qaf.mk (qad (za3 HB GE405) hb);(try clear hb)))
      go_ret;exact⟨za12,za3 HB GE405⟩
     ·rw[if_neg c13] at H;have c13b0:((l0_1.length:Int) == 6)=false:=beq_eq_false_iff_ne.mpr c13;have c13b1:((l0_1.length:Int) != 6)=true:=bne_iff_ne.mpr c13;obtain rfl:=Option.some.inj H;obtain⟨hcz17_0,hcz17_1,hfz17_0,hfz17_1⟩:=zC2 BK405
      go_wp2_with(first|((with_reducible refine qag (f:=80) rfl ?_);refine zF (some 20) Try.func80 #[.int .i64 a0_0,.int .i64 0,.int .i64 9] ?_;(with_reducible refine(spec_l6In.calls a0_0 0 9 true _ A11.out).mono ?_);rintro e w' ⟨rfl,⟨nd,rfl⟩⟩;refine⟨_,rfl,?_⟩))
      go_ret;exact⟨za12,za3 HB GE405⟩
    ·replace c12:=Bool.eq_false_iff.mpr c12;subst c12
     have H1:(some false)=some r:=by rw[if_neg (show ¬(false=true) by decide)] at H;exact H
     clear H;have H:=H1;clear H1;obtain rfl:=Option.some.inj H;obtain⟨hcz18_0,hcz18_1,hfz18_0,hfz18_1⟩:=zC2 BK405
     go_wp2_with(first|((with_reducible refine qag (f:=80) rfl ?_);refine zF (some 20) Try.func80 #[.int .i64 a0_0,.int .i64 0,.int .i64 9] ?_;(with_reducible refine(spec_l6In.calls a0_0 0 9 false _ A11.out).mono ?_);rintro e w' ⟨rfl,⟨nd,rfl⟩⟩;refine⟨_,rfl,?_⟩))
     go_ret;exact⟨za12,za3 HB GE405⟩
def spec_StockMay.f (k:Nat) (a0_0:Int) (l0_1:List (S49)) (a1_0:Int) (a1_1:Int) (l1_2:List Int):Option (Bool):=(spec_StockOk.f k a0_0 l0_1).bind fun t412=>(if t412=true then((spec_RecOk.f k a1_0 a1_1 l1_2).bind fun t413=>(if t413=true then((spec_l2May.f k a0_0 l0_1 a1_0 a1_1 l1_2).bind fun t414=>(some t414)) else(some false))) else(some false))
theorem spec_StockMay.mono:∀a0 a1 a2 a3 a4 k,LeO (spec_StockMay.f k a0 a1 a2 a3 a4) (spec_StockMay.f (k+1) a0 a1 a2 a3 a4):=by
 intro a0 a1 a2 a3 a4 k;unfold spec_StockMay.f
 repeat' first|(with_reducible exact spec_RecOk.mono _ _ _ _)|(with_reducible exact spec_StockOk.mono _ _ _)|(with_reducible exact spec_l2May.mono _ _ _ _ _ _)|(with_reducible exact LeO.refl _)|(with_reducible exact LeO.none _)|(with_reducible refine LeO.ite ?_ ?_)|(with_reducible refine LeO.bind ?_ (fun _=>?_))|exact spec_RecOk.mono _ _ _ _|exact spec_StockOk.mono _ _ _|exact spec_l2May.mono _ _ _ _ _ _|exact LeO.none _|refine LeO.ite ?_ ?_|refine LeO.bind ?_ (fun _=>?_)
set_option maxHeartbeats 8000000 in
set_option maxRecDepth 100000 in
theorem spec_StockMay.calls (k:Nat) (a0_0:Int) (A0_1:Option Addr) (c0_1:Nat) (l0_1:List (S49)) (a1_0:Int) (a1_1:Int) (A1_2:Option Addr) (c1_2:Nat) (l1_2:List Int) (r:Bool) (w:World) (hr0_1:Kd.C k49 w A0_1 l0_1.length l0_1) (hc0_1:l0_1.length≤c0_1) (hr1_2:Kd.C (Kd.int .i64) w A1_2 l1_2.length l1_2) (hc1_2:l1_2.length≤c1_2) (h:spec_StockMay.f k a0_0 l0_1 a1_0 a1_1 l1_2=some r) :
  Calls Try.prog 60 #[.agg #[.int .i64 a0_0,.slice A0_1 l0_1.length c0_1],.agg #[.int .i64 a1_0,.int .i64 a1_1,.slice A1_2 l1_2.length c1_2]] w fun e w'=>e=.returned (.bool r)∧Below w.heap.size w w':=by
 have hu38:=Try.underlying38;have hu32:=Try.underlying32;have HR0_1:=qaf.mk hr0_1;have HC0_1:=qaf.mk hc0_1;clear hr0_1 hc0_1;have HR1_2:=qaf.mk hr1_2;have HC1_2:=qaf.mk hc1_2;clear hr1_2 hc1_2;have HB:=qaf.mk (Below.refl w.heap.size w);have H:((spec_StockOk.f k a0_0 l0_1).bind fun t412=>(if t412=true then((spec_RecOk.f k a1_0 a1_1 l1_2).bind fun t413=>(if t413=true then((spec_l2May.f k a0_0 l0_1 a1_0 a1_1 l1_2).bind fun t414=>(some t414)) else(some false))) else(some false)))=some r:=h;clear h;replace H:=Option.bind_eq_some_iff.mp H;obtain⟨t412,A30,H⟩:=H;replace H:(if t412=true then((spec_RecOk.f k a1_0 a1_1 l1_2).bind fun t413=>(if t413=true then((spec_l2May.f k a0_0 l0_1 a1_0 a1_1 l1_2).bind fun t414=>(some t414)) else(some false))) else(some false))=some r:=H;have A3:=qaf.mk A30;clear A30;by_cases c4:t412=true
 ·subst c4
  have H1:((spec_RecOk.f k a1_0 a1_1 l1_2).bind fun t413=>(if t413=true then((spec_l2May.f k a0_0 l0_1 a1_0 a1_1 l1_2).bind fun t414=>(some t414)) else(some false)))=some r:=by rw[if_pos rfl] at H;exact H
  clear H;have H:=H1;clear H1;replace H:=Option.bind_eq_some_iff.mp H;obtain⟨t413,A50,H⟩:=H;replace H:(if t413=true then((spec_l2May.f k a0_0 l0_1 a1_0 a1_1 l1_2).bind fun t414=>(some t414)) else(some false))=some r:=H;have A5:=qaf.mk A50;clear A50;by_cases c6:t413=true
  ·subst c6
   have H1:((spec_l2May.f k a0_0 l0_1 a1_0 a1_1 l1_2).bind fun t414=>(some t414))=some r:=by rw[if_pos rfl] at H;exact H
   clear H;have H:=H1;clear H1;replace H:=Option.bind_eq_some_iff.mp H;obtain⟨t414,A70,H⟩:=H;replace H:(some t414)=some r:=H;have A7:=qaf.mk A70;clear A70;obtain rfl:=Option.some.inj H;go_enter Try.func60,Try.ntmps60
   go_wp2_with(first|((with_reducible refine qam (N:=2) rfl ?_);refine zX (N:=2) (cs:=#[.int .i64 a0_0,.slice A0_1 l0_1.length c0_1]) (t:=38) ?_;intro gb410 hg w8 hbox hb;have BK410:=qaf.mk hbox;have GW410:=zH (w:=w) hg (za2 HB);have GE410:=GW410;replace HB:=qaf.mk (qad (za2 HB) hb);clear hb hbox hg)|((with_reducible refine qam (N:=3) rfl ?_);refine zX (N:=3) (cs:=#[.int .i64 a1_0,.int .i64 a1_1,.slice A1_2 l1_2.length c1_2]) (t:=32) ?_;intro gb411 hg w9 hbox hb;have BK411:=qaf.mk hbox;have GW411:=zH (w:=w) hg (za3 HB GE410);have GE411:=GW411;replace HB:=qaf.mk (qad (za3 HB GE410) hb);have NB410_411:=zL BK410 hg;have NB411_410:=zG BK410 hg;replace BK410:=zY BK410 hb;clear hb hbox hg;have hnb10:=NB410_411.out;have hnc10:=NB411_410.out;obtain⟨hcz11_0,hcz11_1,hfz11_0,hfz11_1⟩:=zC2 BK410)|((with_reducible refine qag (f:=92) rfl ?_);refine zF (some 6) Try.func92 #[.agg #[.int .i64 a0_0,.slice A0_1 l0_1.length c0_1]] ?_;(with_reducible refine(spec_StockOk.calls k a0_0 _ _ l0_1 true _ ?side1 ?side2 A3.out).mono ?_);(case side1=>exact zR HR0_1 HB);(case side2=>exact HC0_1.out);rintro e w12 ⟨rfl,hb⟩;refine⟨_,rfl,?_⟩;replace BK410:=zY BK410 hb;replace BK411:=zY BK411 hb;replace HB:=qaf.mk (qad (za4 HB GE410 GE411) hb);(try clear hb);obtain⟨hcz13_0,hcz13_1,hcz13_2,hfz13_0,hfz13_1,hfz13_2⟩:=zC3 BK411)|(go_at_call 84;(with_reducible refine(spec_RecOk.calls k a1_0 a1_1 _ _ l1_2 true _ ?side1 ?side2 A5.out).mono ?_);(case side1=>exact zR HR1_2 HB);(case side2=>exact HC1_2.out);rintro e w14 ⟨rfl,hb⟩;replace BK410:=zY BK410 hb;replace BK411:=zY BK411 hb;replace HB:=qaf.mk (qad (za4 HB GE410 GE411) hb);(try clear hb);obtain⟨hcz15_0,hcz15_1,hfz15_0,hfz15_1⟩:=zC2 BK410;obtain⟨hcz16_0,hcz16_1,hcz16_2,hfz16_0,hfz16_1,hfz16_2⟩:=zC3 BK411)|(go_at_call 90;(with_reducible refine(spec_l2May.calls k a0_0 _ _ l0_1 a1_0 a1_1 _ _ l1_2 t414 _ ?side1 ?side2 ?side3 ?side4 A7.out).mono ?_);(case side1=>exact zR HR0_1 HB);(case side2=>exact HC0_1.out);(case side3=>exact zR HR1_2 HB);(case side4=>exact HC1_2.out);rintro e w17 ⟨rfl,hb⟩;replace BK410:=zY BK410 hb;replace BK411:=zY BK411 hb;replace HB:=qaf.mk (qad (za4 HB GE410 GE411) hb);(try clear hb)))
   go_ret;exact⟨za12,za4 HB GE410 GE411⟩
  ·replace c6:=Bool.eq_false_iff.mpr c6;subst c6
   have H1:(some false)=some r:=by rw[if_neg (show ¬(false=true) by decide)] at H;exact H
   clear H;have H:=H1;clear H1;obtain rfl:=Option.some.inj H;go_enter Try.func60,Try.ntmps60
   go_wp2_with(first|((with_reducible refine qam (N:=2) rfl ?_);refine zX (N:=2) (cs:=#[.int .i64 a0_0,.slice A0_1 l0_1.length c0_1]) (t:=38) ?_;intro gb410 hg w18 hbox hb;have BK410:=qaf.mk hbox;have GW410:=zH (w:=w) hg (za2 HB);have GE410:=GW410;replace HB:=qaf.mk (qad (za2 HB) hb);clear hb hbox hg)|((with_reducible refine qam (N:=3) rfl ?_);refine zX (N:=3) (cs:=#[.int .i64 a1_0,.int .i64 a1_1,.slice A1_2 l1_2.length c1_2]) (t:=32) ?_;intro gb411 hg w19 hbox hb;have BK411:=qaf.mk hbox;have GW411:=zH (w:=w) hg (za3 HB GE410);have GE411:=GW411;replace HB:=qaf.mk (qad (za3 HB GE410) hb);have NB410_411:=zL BK410 hg;have NB411_410:=zG BK410 hg;replace BK410:=zY BK410 hb;clear hb hbox hg;have hnb20:=NB410_411.out;have hnc20:=NB411_410.out;obtain⟨hcz21_0,hcz21_1,hfz21_0,hfz21_1⟩:=zC2 BK410)|((with_reducible refine qag (f:=92) rfl ?_);refine zF (some 6) Try.func92 #[.agg #[.int .i64 a0_0,.slice A0_1 l0_1.length c0_1]] ?_;(with_reducible refine(spec_StockOk.calls k a0_0 _ _ l0_1 true _ ?side1 ?side2 A3.out).mono ?_);(case side1=>exact zR HR0_1 HB);(case side2=>exact HC0_1.out);rintro e w22 ⟨rfl,hb⟩;refine⟨_,rfl,?_⟩;replace BK410:=zY BK410 hb;replace BK411:=zY BK411 hb;replace HB:=qaf.mk (qad (za4 HB GE410 GE411) hb);(try clear hb);obtain⟨hcz23_0,hcz23_1,hcz23_2,hfz23_0,hfz23_1,hfz23_2⟩:=zC3 BK411)|(go_at_call 84;(with_reducible refine(spec_RecOk.calls k a1_0 a1_1 _ _ l1_2 false _ ?side1 ?side2 A5.out).mono ?_);(case side1=>exact zR HR1_2 HB);(case side2=>exact HC1_2.out);rintro e w24 ⟨rfl,hb⟩;replace BK410:=zY BK410 hb;replace BK411:=zY BK411 hb;replace HB:=qaf.mk (qad (za4 HB GE410 GE411) hb);(try clear hb)))
   go_ret;exact⟨za12,za4 HB GE410 GE411⟩
 ·replace c4:=Bool.eq_false_iff.mpr c4;subst c4
  have H1:(some false)=some r:=by rw[if_neg (show ¬(false=true) by decide)] at H;exact H
  clear H;have H:=H1;clear H1;obtain rfl:=Option.some.inj H;go_enter Try.func60,Try.ntmps60
  go_wp2_with(first|((with_reducible refine qam (N:=2) rfl ?_);refine zX (N:=2) (cs:=#[.int .i64 a0_0,.slice A0_1 l0_1.length c0_1]) (t:=38) ?_;intro gb410 hg w25 hbox hb;have BK410:=qaf.mk hbox;have GW410:=zH (w:=w) hg (za2 HB);have GE410:=GW410;replace HB:=qaf.mk (qad (za2 HB) hb);clear hb hbox hg)|((with_reducible refine qam (N:=3) rfl ?_);refine zX (N:=3) (cs:=#[.int .i64 a1_0,.int .i64 a1_1,.slice A1_2 l1_2.length c1_2]) (t:=32) ?_;intro gb411 hg w26 hbox hb;have BK411:=qaf.mk hbox;have GW411:=zH (w:=w) hg (za3 HB GE410);have GE411:=GW411;replace HB:=qaf.mk (qad (za3 HB GE410) hb);have NB410_411:=zL BK410 hg;have NB411_410:=zG BK410 hg;replace BK410:=zY BK410 hb;clear hb hbox hg;have hnb27:=NB410_411.out;have hnc27:=NB411_410.out;obtain⟨hcz28_0,hcz28_1,hfz28_0,hfz28_1⟩:=zC2 BK410)|((with_reducible refine qag (f:=92) rfl ?_);refine zF (some 6) Try.func92 #[.agg #[.int .i64 a0_0,.slice A0_1 l0_1.length c0_1]] ?_;(with_reducible refine(spec_StockOk.calls k a0_0 _ _ l0_1 false _ ?side1 ?side2 A3.out).mono ?_);(case side1=>exact zR HR0_1 HB);(case side2=>exact HC0_1.out);rintro e w29 ⟨rfl,hb⟩;refine⟨_,rfl,?_⟩;replace BK410:=zY BK410 hb;replace BK411:=zY BK411 hb;replace HB:=qaf.mk (qad (za4 HB GE410 GE411) hb);(try clear hb)))
  go_ret;exact⟨za12,za4 HB GE410 GE411⟩
def spec_l2Copy.f (a0_0:Int) (l0_1:List (S49)):Option (Int × (List (S49))):=(some (([]:List (S49)):List (S49))).bind fun y427=>(if y427.length+l0_1.length<8796093022208 then(some (a0_0,(y427++l0_1))) else(none))
def spec_l2Copy.T1:Bool × List (List Nat × List Nat):=(true,[([],[]),([0],[0]),([],[]),([],[]),([3],[3]),([2,4],[2,4]),([1,5],[1,5]),([6,5,0,1,2,3,4,5,6],[6])])
def spec_l2Copy.B1:List Nat:=[0,1,0,0,8,28,63,127]
theorem spec_l2Copy.tab1:rtab .any (opsOf Try.f62 1)=spec_l2Copy.T1:=by kernel_rfl
theorem spec_l2Copy.bits1:waitsOk spec_l2Copy.T1.2 spec_l2Copy.B1=true:=by kernel_rfl
set_option maxHeartbeats 8000000 in
set_option maxRecDepth 100000 in
theorem spec_l2Copy.calls (a0_0:Int) (A0_1:Option Addr) (c0_1:Nat) (l0_1:List (S49)) (r1:Int) (r2:List (S49)) (w:World) (hr0_1:Kd.C k49 w A0_1 l0_1.length l0_1) (hc0_1:l0_1.length≤c0_1) (h:spec_l2Copy.f a0_0 l0_1=some (r1,r2)) :
  Calls Try.prog 62 #[.agg #[.int .i64 a0_0,.slice A0_1 l0_1.length c0_1]] w fun e w'=>∃v1_:Value,e=.returned (.agg #[.int .i64 r1,v1_])∧Kd.R k49 49 w' w.heap.size (fun _=>True) v1_ r2∧Below w.heap.size w w':=by
 have hu38:=Try.underlying38;have HR0_1:=qaf.mk hr0_1;have HC0_1:=qaf.mk hc0_1;clear hr0_1 hc0_1;have HB:=qaf.mk (Below.refl w.heap.size w);have H:((some (([]:List (S49)):List (S49))).bind fun y427=>(if y427.length+l0_1.length<8796093022208 then(some (a0_0,(y427++l0_1))) else(none)))=some (r1,r2):=h;clear h;obtain⟨y427,hy427⟩:∃y_:List (S49),y_=(([]:List (S49))):=⟨_,rfl⟩
 replace H:(if y427.length+l0_1.length<8796093022208 then(some (a0_0,(y427++l0_1))) else(none))=some (r1,r2):=by first|(rw[hy427];with_reducible exact H)|(have H2_:=(Option.bind_some _ _).symm.trans H;rw[hy427];with_reducible exact H2_)|(have H2_:=(Option.bind_some _ _).symm.trans H;with_reducible exact H2_)|with_reducible exact H|(rw[hy427];exact H)|exact H
 have Ny427:=qaf.mk hy427;clear hy427;by_cases c2:y427.length+l0_1.length<8796093022208
 ·rw[if_pos c2] at H;have LMc2:=qaf.mk c2;clear c2;obtain⟨y430,hy430⟩:∃y_:List (S49),y_=(y427++l0_1):=⟨_,rfl⟩
  replace H:(some (a0_0,y430))=some (r1,r2):=by first|(rw[hy430];with_reducible exact H)|(have H2_:=(Option.bind_some _ _).symm.trans H;rw[hy430];with_reducible exact H2_)|(have H2_:=(Option.bind_some _ _).symm.trans H;with_reducible exact H2_)|with_reducible exact H|(rw[hy430];exact H)|exact H
  have Ny430:=qaf.mk hy430;clear hy430;simp only[Option.some.injEq,Prod.mk.injEq] at H;obtain⟨rfl,rfl⟩:=H;go_enter Try.func62,Try.ntmps62
  try go_wp2_with(first|((with_reducible refine qam (N:=1) rfl ?_);refine zX (N:=1) (cs:=#[.int .i64 a0_0,.slice A0_1 l0_1.length c0_1]) (t:=38) ?_;intro gb425 hg w3 hbox hb;have BK425:=qaf.mk hbox;have GW425:=zH (w:=w) hg (za2 HB);have GE425:=GW425;replace HB:=qaf.mk (qad (za2 HB) hb);clear hb hbox hg)|((with_reducible refine qam (N:=2) rfl ?_);refine zX (N:=2) (cs:=#[.int .i64 0,.slice none 0 0]) (t:=38) ?_;intro gb426 hg w4 hbox hb;have BK426:=qaf.mk hbox;have GW426:=zH (w:=w) hg (za3 HB GE425);have GE426:=GW426;replace HB:=qaf.mk (qad (za3 HB GE425) hb);have NB425_426:=zL BK425 hg;have NB426_425:=zG BK425 hg;replace BK425:=zY BK425 hb;clear hb hbox hg))
  replace BK425:=qaf.mk (qaa BK425.out);replace BK426:=qaf.mk (qaa BK426.out);replace HB:=qaf.mk (qas HB.out);refine start_ (n:=8) (S:=fun w'=>w'.cell? ⟨gb425,0,none⟩=some (.int .i64 a0_0)∧w'.cell? ⟨gb425,1,none⟩=some (.slice A0_1 l0_1.length c0_1)) (ds:=[]) #[false,false,false,false,false,false,false,false] (by kernel_rfl) rfl rfl ⟨(qae BK425.out 0).trans rfl,(qae BK425.out 1).trans rfl⟩ (fun hHeld=>?_);refine qbc spec_l2Copy.tab1 spec_l2Copy.bits1 (fun HT_ HW_=>?_);generalize w4.drew=w5 at BK425 BK426 HB hHeld ⊢;refine qao (i:=0) (N:=some 3) (v:=?_) (a':=?_) #[true,false,false,false,false,false,false,false] rfl rfl (qak HT_.out (by kernel_rfl)) (fun _ _ _ h=>h) (Or.inl ⟨by rfl,?_⟩) ?_ ?_;rotate_left
  ·intro w';go_simp
   with_reducible rfl
  rotate_left
  ·simp only[Act.put,List.setIfInBounds_toArray,List.set_cons_zero,List.set_cons_succ,qai,qaj];rfl
  refine qao (i:=3) (N:=some 6) (v:=?_) (a':=?_) #[true,false,false,true,false,false,false,false] rfl rfl (qak HT_.out (by kernel_rfl)) (fun _ _ _ h=>h) (Or.inl ⟨by rfl,?_⟩) ?_ ?_;rotate_left
  ·intro w';go_simp
   with_reducible rfl
  rotate_left
  ·simp only[Act.put,List.setIfInBounds_toArray,List.set_cons_zero,List.set_cons_succ,qai,qaj];rfl
  refine take_ (i:=1) (N:=some 4) (v:=?_) (a':=?_) #[true,true,false,true,false,false,false,false] rfl rfl (qav HT_.out HW_.out (by kernel_rfl)) (fun _ _ _ h=>h) (Or.inl ⟨by rfl,?_⟩) hHeld ?_ ?_;rotate_left
  ·rintro w' ⟨s0,s1⟩;go_simp
   with_reducible rfl
  rotate_left
  ·simp only[Act.put,List.setIfInBounds_toArray,List.set_cons_zero,List.set_cons_succ,qai,qaj];rfl
  refine take_ (i:=4) (N:=some 7) (v:=?_) (a':=?_) #[true,true,false,true,true,false,false,false] rfl rfl (qav HT_.out HW_.out (by kernel_rfl)) (fun _ _ _ h=>h) (Or.inl ⟨by rfl,?_⟩) hHeld ?_ ?_;rotate_left
  ·rintro w' ⟨s0,s1⟩;go_simp
   with_reducible rfl
  rotate_left
  ·simp only[Act.put,List.setIfInBounds_toArray,List.set_cons_zero,List.set_cons_succ,qai,qaj];rfl
  refine one_ (i:=2) (N:=some 5) #[true,true,true,true,true,false,false,false] rfl rfl (one_of HT_.out (by kernel_rfl)) (by decide) (fun K hK=>?_);refine Kd.R_lit_step k49 _ 49 (by rfl) (N:=5) (by rfl) (xs:=([]:List (S49))) (inner:=[]) (ok:=fun _=>True) (okp:=fun _=>True) (by first|(go_simp;done)|(go_simp;rfl)) (Reps.none _ _) (fun _ hk=>hk) trivial (Below.refl _ _) (Nat.le_refl _) (by simp) ?_;intro v428 w6 ho7 hb hg_ hnew_;clear hg_ hnew_;(first|rw[←Ny427.out] at ho7|(simp only[Int.reduceToNat] at ho7;rw[←Ny427.out] at ho7));have HO429:=qaf.mk (Kd.R_lower ho7 (qan (za4 HB GE425 GE426)));replace BK425:=zY BK425 hb;replace BK426:=zY BK426 hb;replace HB:=qaf.mk (qad (za4 HB GE425 GE426) hb);clear hb ho7;refine hK.out _ _ ⟨(qae BK425.out 0).trans rfl,(qae BK425.out 1).trans rfl⟩ (fun hHeld=>?_);clear hK K;refine qbb (a':=?_) ?_ ?_;rotate_left
  ·show Act.put _ (some 5) _=_;simp only[Act.put,List.setIfInBounds_toArray,List.set_cons_zero,List.set_cons_succ,qai,qaj];rfl
  refine one_ (i:=5) (N:=some 8) #[true,true,true,true,true,true,false,false] rfl rfl (one_of HT_.out (by kernel_rfl)) (by decide) (fun K hK=>?_);refine Kd.R_append_rows_step k49 (w0:=w) w.heap.size (by rfl) (.tmp 5) (.tmp 7) 36 49 (.agg #[(.int .i64 0),(.int .i64 0)]) 16 rfl Try.underlying36 info49 rfl (by decide) (by omega) v428 y427 l0_1 _ _ _ (fun _=>True) (fun _=>False) rfl rfl ?aO ?aR (fun _ _ h=>h) (fun _ h=>h.elim) ?aF ?aB ?aS ?aL ?_;(case aR=>repeat(first|exact(Kd.C_below HR0_1.out HB.out)|(with_reducible refine Kd.C_alloc ?_ _)|(with_reducible refine Kd.C_drewN ?_ _)|(with_reducible refine Kd.C_drew ?_)));(case aB=>exact(za4 HB GE425 GE426));(case aF=>exact(fun _ _=>trivial));(case aO=>exact(za1 HO429));(case aS=>exact(qan (za4 HB GE425 GE426)));(case aL=>have:=LMc2.out;omega);intro v431 w8 ho hb hg hat;rw[←Ny430.out] at ho;replace BK425:=qaf.mk (qba (zB BK425) hg (Kd.R_ne HO429.out BK425.out (by decide)));replace BK426:=qaf.mk (qba (zB BK426) hg (Kd.R_ne HO429.out BK426.out (by decide)));replace HB:=qaf.mk hb;have HO432:=qaf.mk ho
  clear HO429;clear ho hb hg hat;obtain⟨Ao9,co9,eo9⟩:=Kd.R_slice HO432.out;(first|subst eo9|(injection eo9 with f1_ f2_ f3_;have f4_:=f1_.symm;have f5_:=f3_.symm;clear f1_ f2_ f3_;subst f4_;subst f5_));refine hK.out _ _ ⟨(qae BK425.out 0).trans rfl,(qae BK425.out 1).trans rfl⟩ (fun hHeld=>?_);clear hK K;refine qbb (a':=?_) ?_ ?_;rotate_left
  ·show Act.put _ (some 8) _=_;simp only[Act.put,List.setIfInBounds_toArray,List.set_cons_zero,List.set_cons_succ,qai,qaj];rfl
  refine qao (i:=6) (N:=some 9) (v:=?_) (a':=?_) #[true,true,true,true,true,true,true,false] rfl rfl (qak HT_.out (by kernel_rfl)) (fun _ _ _ h=>h) (Or.inl ⟨by rfl,?_⟩) ?_ ?_;rotate_left
  ·intro w';go_simp
   with_reducible rfl
  rotate_left
  ·simp only[Act.put,List.setIfInBounds_toArray,List.set_cons_zero,List.set_cons_succ,qai,qaj];rfl
  refine one_ (i:=7) (N:=none) #[true,true,true,true,true,true,true,true] rfl rfl (one_of HT_.out (by kernel_rfl)) (by decide) (fun K hK=>?_);have hs10:w8.cell? ⟨gb426,0,none⟩=some (.int .i64 0):=(qae BK426.out 0).trans rfl;have hfs10:=qax BK426.out 0;have hns10_0:=NB425_426.out;have hms10_0:=NB426_425.out;have hs11:w8.cell? ⟨gb426,1,none⟩=some (.slice none 0 0):=(qae BK426.out 1).trans rfl;have hfs11:=qax BK426.out 1;have hns11_0:=NB425_426.out;have hms11_0:=NB426_425.out;refine skip_ (w1:=?_) (by rfl) rfl ?_ ?_;rotate_left
  ·go_simp;rfl
  refine hK.out _ _ ⟨((qar (p:=⟨gb426,_,none⟩) NB425_426.out _).trans (((qar (p:=⟨gb426,_,none⟩) NB425_426.out _).trans (hHeld.1)))),((qar (p:=⟨gb426,_,none⟩) NB425_426.out _).trans (((qar (p:=⟨gb426,_,none⟩) NB425_426.out _).trans (hHeld.2))))⟩ (fun hHeld=>?_);clear hK K;refine done_ (done_of HT_.out (by kernel_rfl)) ?_
  try go_wp2
  refine bodyPost_ret (results_cell_row rfl _ _ gb426 38 #[.int .i64 a0_0,.slice Ao9 y430.length co9] (0,0) _ rfl (by(with_reducible repeat(first|refine qac ?_ _|refine qaa ?_|refine qab ?_ _));refine qah (cs:=#[.int .i64 a0_0,.slice none 0 0]) ?_ 1 _ rfl;(with_reducible repeat(first|refine qac ?_ _|refine qaa ?_|refine qab ?_ _));refine qah (cs:=#[.int .i64 0,.slice none 0 0]) ?_ 0 _ rfl;(with_reducible repeat(first|refine qac ?_ _|refine qaa ?_|refine qab ?_ _));exact BK426.out) Try.underlying38 rfl (by kernel_rfl)) rfl ?_;exact⟨_,za12,by(with_reducible repeat(first|apply Kd.R_alloc|apply Kd.R_drewN|apply Kd.R_drew));exact Kd.R_mono (Kd.R_far (p:=⟨gb426,1,none⟩) (Kd.R_far (p:=⟨gb426,0,none⟩) (Kd.R_types HO432.out BK426.out (by decide)) (fun _ hk=>hk.2) (.int .i64 a0_0)) (fun _ hk=>hk.2) (.slice Ao9 y430.length co9)) (fun _ hk=>trivial),za4 HB GE425 GE426⟩
 ·rw[if_neg c2] at H;exact absurd H (by simp)
end Go.Proofs.Ytmbdphefnalenaa.Print
