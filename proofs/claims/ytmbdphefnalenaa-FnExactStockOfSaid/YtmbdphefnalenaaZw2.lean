-- Written by squeeze.py: not trusted, Lean checks it.
import Derived.Test.YtmbdphefnalenaaZK
namespace Go.Proofs.Ytmbdphefnalenaa.Print
open Go.RowKit Go.Proofs.YtmbdphefnalenaaW.PrintWords Go.Proofs.YtmbdphefnalenaaW.PrintLast Go.Proofs.YtmbdphefnalenaaW.PrintMore
attribute [local go_sem] max2_int min2_int max_two min_two max_three min_three max_four min_four
set_option linter.unusedVariables false
set_option linter.unusedSimpArgs false
def laws_heldHoldS.l0:Nat→List (S49)→Int→Int→Option (Int)
 |0,_,_,_=>none
 |k+1,x0,x1,x5=>if x5<(x0.length:Int) then(if 0≤x5 then(if((rd_T49 x0 x5).f0)=x1 then(if((rd_T49 x0 x5).f1)=(wrap64 (x1+1)) then(laws_heldHoldS.l0 k x0 (wrap64 ((wrap64 (x1+1))+1)) (wrap64 (x5+1))) else(some (-1))) else(some (-1))) else(none)) else(some x1)
def laws_heldHoldS.f (k:Nat) (l0:List (S49)) (a1:Int):Option (Int):=laws_heldHoldS.l0 k l0 a1 0
theorem laws_heldHoldS.mono_l:∀k,(∀y0 y1 y2,LeO (laws_heldHoldS.l0 k y0 y1 y2) (laws_heldHoldS.l0 (k+1) y0 y1 y2))
 |0=>fun _ _ _ r h=>by simp[laws_heldHoldS.l0] at h
 |k+1=>by
  have ih0:=laws_heldHoldS.mono_l k
  ·intro y0 y1 y2;unfold laws_heldHoldS.l0
   repeat' first|(with_reducible exact ih0 _ _ _)|(with_reducible exact LeO.refl _)|(with_reducible exact LeO.none _)|(with_reducible refine LeO.ite ?_ ?_)|(with_reducible refine LeO.bind ?_ (fun _=>?_))|exact ih0 _ _ _|exact LeO.none _|refine LeO.ite ?_ ?_|refine LeO.bind ?_ (fun _=>?_)
theorem laws_heldHoldS.mono:∀a0 a1 k,LeO (laws_heldHoldS.f k a0 a1) (laws_heldHoldS.f (k+1) a0 a1):=by
 intro a0 a1 k;have ih0:=laws_heldHoldS.mono_l k;unfold laws_heldHoldS.f
 repeat' first|(with_reducible exact ih0 _ _ _)|(with_reducible exact LeO.refl _)|(with_reducible exact LeO.none _)|(with_reducible refine LeO.ite ?_ ?_)|(with_reducible refine LeO.bind ?_ (fun _=>?_))|exact ih0 _ _ _|exact LeO.none _|refine LeO.ite ?_ ?_|refine LeO.bind ?_ (fun _=>?_)
set_option maxHeartbeats 8000000 in
set_option maxRecDepth 100000 in
theorem laws_heldHoldS.calls (k:Nat) (A0:Option Addr) (c0:Nat) (l0:List (S49)) (a1:Int) (r:Int) (w:World) (hr0:Kd.C k49 w A0 l0.length l0) (hc0:l0.length≤c0) (h:laws_heldHoldS.f k l0 a1=some r) :
  Calls Try.prog 76 #[.slice A0 l0.length c0,.int .i64 a1] w fun e w'=>e=.returned (.int .i64 r)∧Drawn0 w w':=by
 have HR0:=qaf.mk hr0;have HC0:=qaf.mk hc0;clear hr0 hc0;have H:(laws_heldHoldS.l0 k l0 a1 0)=some r:=h;clear h;have H':=qaf.mk H;clear H;go_enter Try.func76,Try.ntmps76;go_wp2
 go_loopg [1,5] k (fun kq v1 v5 w'=>∃(x1_1:Int) (x5_1:Int),v1=.int .i64 x1_1∧v5=.int .i64 x5_1∧qaf (laws_heldHoldS.l0 kq l0 x1_1 x5_1=some r)∧qaf (kq≤k)∧Drawn0 w w')
 case atStart=>exact⟨(a1),(0),(za38),(za38),H',⟨Nat.le_refl _⟩,za62⟩
 case round=>
  clear H'
  try clear p2
  obtain⟨x1_1,x5_1,rfl,rfl,HA,HK1,⟨m1,rfl⟩⟩:=hrel
  cases gk with
  |zero=>exact absurd HA.out (by simp[laws_heldHoldS.l0])
  |succ k1=>
   have H:=HA.out;clear HA;simp only[laws_heldHoldS.l0] at H;by_cases c3:x5_1<(l0.length:Int)
   ·rw[if_pos c3] at H;have c3b0:decide (x5_1<(l0.length:Int))=true:=decide_eq_true c3;clear c3;by_cases c4:0≤x5_1
    ·rw[if_pos c4] at H;have c4b0:decide (0≤x5_1)=true:=decide_eq_true c4;clear c4;by_cases c5:((rd_T49 l0 x5_1).f0)=x1_1
     ·rw[if_pos c5] at H;have c5b0:(((rd_T49 l0 x5_1).f0) == x1_1)=true:=beq_iff_eq.mpr c5;have c5b1:(((rd_T49 l0 x5_1).f0) != x1_1)=false:=bne_eq_false_iff_eq.mpr c5;clear c5;by_cases c6:((rd_T49 l0 x5_1).f1)=(wrap64 (x1_1+1))
      ·rw[if_pos c6] at H;have c6b0:(((rd_T49 l0 x5_1).f1) == (wrap64 (x1_1+1)))=true:=beq_iff_eq.mpr c6;have c6b1:(((rd_T49 l0 x5_1).f1) != (wrap64 (x1_1+1)))=false:=bne_eq_false_iff_eq.mpr c6;clear c6;have H':=qaf.mk H;clear H;have p1020:0≤(x5_1:Int):=of_decide_eq_true (za10);have q1020:x5_1<(l0.length:Int):=of_decide_eq_true (za10);obtain⟨ad1020,e1020,hx1020_0,hx1020_1⟩:=at_T49 HR0.out x5_1 p1020 q1020
       cases e1020
       replace p1020:=eq_true p1020;replace q1020:=eq_true q1020;have p1021:0≤(x5_1:Int):=of_decide_eq_true (za10);have q1021:x5_1<(l0.length:Int):=of_decide_eq_true (za10);obtain⟨ad1021,e1021,hx1021_0,hx1021_1⟩:=at_T49 HR0.out x5_1 p1021 q1021;obtain rfl:ad1020=ad1021:=(by injection e1021);replace p1021:=eq_true p1021;replace q1021:=eq_true q1021;go_wp2
       go_roundg k1
       case measure=>have:=HK1.out;omega
       case rel=>exact⟨(wrap64 ((wrap64 (x1_1+1))+1)),(wrap64 (x5_1+1)),(za38),(za38),H',⟨by have:=HK1.out;omega⟩,za62⟩
      ·rw[if_neg c6] at H;have c6b0:(((rd_T49 l0 x5_1).f1) == (wrap64 (x1_1+1)))=false:=beq_eq_false_iff_ne.mpr c6;have c6b1:(((rd_T49 l0 x5_1).f1) != (wrap64 (x1_1+1)))=true:=bne_iff_ne.mpr c6;obtain rfl:=Option.some.inj H;have p1020:0≤(x5_1:Int):=of_decide_eq_true (za10);have q1020:x5_1<(l0.length:Int):=of_decide_eq_true (za10);obtain⟨ad1020,e1020,hx1020_0,hx1020_1⟩:=at_T49 HR0.out x5_1 p1020 q1020
       cases e1020
       replace p1020:=eq_true p1020;replace q1020:=eq_true q1020;have p1021:0≤(x5_1:Int):=of_decide_eq_true (za10);have q1021:x5_1<(l0.length:Int):=of_decide_eq_true (za10);obtain⟨ad1021,e1021,hx1021_0,hx1021_1⟩:=at_T49 HR0.out x5_1 p1021 q1021;obtain rfl:ad1020=ad1021:=(by injection e1021);replace p1021:=eq_true p1021;replace q1021:=eq_true q1021;go_wp2;go_ret;exact⟨za38,za62⟩
     ·rw[if_neg c5] at H;have c5b0:(((rd_T49 l0 x5_1).f0) == x1_1)=false:=beq_eq_false_iff_ne.mpr c5;have c5b1:(((rd_T49 l0 x5_1).f0) != x1_1)=true:=bne_iff_ne.mpr c5;obtain rfl:=Option.some.inj H;have p1020:0≤(x5_1:Int):=of_decide_eq_true (za10);have q1020:x5_1<(l0.length:Int):=of_decide_eq_true (za10);obtain⟨ad1020,e1020,hx1020_0,hx1020_1⟩:=at_T49 HR0.out x5_1 p1020 q1020
      cases e1020
      replace p1020:=eq_true p1020;replace q1020:=eq_true q1020;go_wp2;go_ret;exact⟨za38,za62⟩
    ·rw[if_neg c4] at H;exact absurd H (by simp)
   ·rw[if_neg c3] at H;have c3b0:decide (x5_1<(l0.length:Int))=false:=decide_eq_false c3;clear c3;obtain rfl:=Option.some.inj H;go_wp2;go_ret;exact⟨za38,za62⟩
def laws_heldStock.f (k:Nat) (a0_0:Int) (l0_1:List (S49)) (a1:Int):Option (Int):=(laws_heldHoldS.f k l0_1 a1).bind fun t1023=>(if t1023<0 then(some (-1)) else(some t1023))
theorem laws_heldStock.mono:∀a0 a1 a2 k,LeO (laws_heldStock.f k a0 a1 a2) (laws_heldStock.f (k+1) a0 a1 a2):=by
 intro a0 a1 a2 k;unfold laws_heldStock.f
 repeat' first|(with_reducible exact laws_heldHoldS.mono _ _ _)|(with_reducible exact LeO.refl _)|(with_reducible exact LeO.none _)|(with_reducible refine LeO.ite ?_ ?_)|(with_reducible refine LeO.bind ?_ (fun _=>?_))|exact laws_heldHoldS.mono _ _ _|exact LeO.none _|refine LeO.ite ?_ ?_|refine LeO.bind ?_ (fun _=>?_)
set_option maxHeartbeats 8000000 in
set_option maxRecDepth 100000 in
theorem laws_heldStock.calls (k:Nat) (a0_0:Int) (A0_1:Option Addr) (c0_1:Nat) (l0_1:List (S49)) (a1:Int) (r:Int) (w:World) (hr0_1:Kd.C k49 w A0_1 l0_1.length l0_1) (hc0_1:l0_1.length≤c0_1) (h:laws_heldStock.f k a0_0 l0_1 a1=some r) :
  Calls Try.prog 38 #[.agg #[.int .i64 a0_0,.slice A0_1 l0_1.length c0_1],.int .i64 a1] w fun e w'=>e=.returned (.int .i64 r)∧Below w.heap.size w w':=by
 have hu38:=Try.underlying38;have HR0_1:=qaf.mk hr0_1;have HC0_1:=qaf.mk hc0_1;clear hr0_1 hc0_1;have HB:=qaf.mk (Below.refl w.heap.size w);have H:((laws_heldHoldS.f k l0_1 a1).bind fun t1023=>(if t1023<0 then(some (-1)) else(some t1023)))=some r:=h;clear h;replace H:=Option.bind_eq_some_iff.mp H;obtain⟨t1023,A30,H⟩:=H;replace H:(if t1023<0 then(some (-1)) else(some t1023))=some r:=H;have A3:=qaf.mk A30;clear A30;by_cases c4:t1023<0
 ·rw[if_pos c4] at H;have c4b0:decide (t1023<0)=true:=decide_eq_true c4;clear c4;obtain rfl:=Option.some.inj H;go_enter Try.func38,Try.ntmps38
  go_wp2_with(first|((with_reducible refine qam (N:=2) rfl ?_);refine zX (N:=2) (cs:=#[.int .i64 a0_0,.slice A0_1 l0_1.length c0_1]) (t:=38) ?_;intro gb1022 hg w5 hbox hb;have BK1022:=qaf.mk hbox;have GW1022:=zH (w:=w) hg (za2 HB);have GE1022:=GW1022;replace HB:=qaf.mk (qad (za2 HB) hb);clear hb hbox hg;obtain⟨hcz6_0,hcz6_1,hfz6_0,hfz6_1⟩:=zC2 BK1022)|((with_reducible refine qag (f:=76) rfl ?_);refine zF (some 8) Try.func76 #[.slice A0_1 l0_1.length c0_1,.int .i64 a1] ?_;(with_reducible refine(laws_heldHoldS.calls k _ _ l0_1 a1 t1023 _ ?side1 ?side2 A3.out).mono ?_);(case side1=>exact zR HR0_1 HB);(case side2=>exact HC0_1.out);rintro e w' ⟨rfl,⟨nd,rfl⟩⟩;refine⟨_,rfl,?_⟩))
  go_ret;exact⟨za12,za3 HB GE1022⟩
 ·rw[if_neg c4] at H;have c4b0:decide (t1023<0)=false:=decide_eq_false c4;clear c4;obtain rfl:=Option.some.inj H;go_enter Try.func38,Try.ntmps38
  go_wp2_with(first|((with_reducible refine qam (N:=2) rfl ?_);refine zX (N:=2) (cs:=#[.int .i64 a0_0,.slice A0_1 l0_1.length c0_1]) (t:=38) ?_;intro gb1022 hg w7 hbox hb;have BK1022:=qaf.mk hbox;have GW1022:=zH (w:=w) hg (za2 HB);have GE1022:=GW1022;replace HB:=qaf.mk (qad (za2 HB) hb);clear hb hbox hg;obtain⟨hcz8_0,hcz8_1,hfz8_0,hfz8_1⟩:=zC2 BK1022)|((with_reducible refine qag (f:=76) rfl ?_);refine zF (some 8) Try.func76 #[.slice A0_1 l0_1.length c0_1,.int .i64 a1] ?_;(with_reducible refine(laws_heldHoldS.calls k _ _ l0_1 a1 t1023 _ ?side1 ?side2 A3.out).mono ?_);(case side1=>exact zR HR0_1 HB);(case side2=>exact HC0_1.out);rintro e w' ⟨rfl,⟨nd,rfl⟩⟩;refine⟨_,rfl,?_⟩))
  go_ret;exact⟨za12,za3 HB GE1022⟩
end Go.Proofs.Ytmbdphefnalenaa.Print
