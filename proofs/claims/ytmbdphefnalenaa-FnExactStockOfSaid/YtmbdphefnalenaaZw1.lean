-- Written by squeeze.py: not trusted, Lean checks it.
import Derived.Test.YtmbdphefnalenaaZK
import Derived.Test.YtmbdphefnalenaaZw0
namespace Go.Proofs.Ytmbdphefnalenaa.Print
open Go.RowKit Go.Proofs.YtmbdphefnalenaaW.PrintWords Go.Proofs.YtmbdphefnalenaaW.PrintLast Go.Proofs.YtmbdphefnalenaaW.PrintMore
attribute [local go_sem] max2_int min2_int max_two min_two max_three min_three max_four min_four
set_option linter.unusedVariables false
set_option linter.unusedSimpArgs false
def laws_eqStock.f (k:Nat) (a0_0:Int) (l0_1:List (S49)) (a1_0:Int) (l1_1:List (S49)):Option (Bool):=if a0_0=a1_0 then((laws_eqHoldS.f k l0_1 l1_1).bind fun t1005=>(if t1005=true then(some true) else(some false))) else(some false)
theorem laws_eqStock.mono:∀a0 a1 a2 a3 k,LeO (laws_eqStock.f k a0 a1 a2 a3) (laws_eqStock.f (k+1) a0 a1 a2 a3):=by
 intro a0 a1 a2 a3 k;unfold laws_eqStock.f
 repeat' first|(with_reducible exact laws_eqHoldS.mono _ _ _)|(with_reducible exact LeO.refl _)|(with_reducible exact LeO.none _)|(with_reducible refine LeO.ite ?_ ?_)|(with_reducible refine LeO.bind ?_ (fun _=>?_))|exact laws_eqHoldS.mono _ _ _|exact LeO.none _|refine LeO.ite ?_ ?_|refine LeO.bind ?_ (fun _=>?_)
set_option maxHeartbeats 8000000 in
set_option maxRecDepth 100000 in
theorem laws_eqStock.calls (k:Nat) (a0_0:Int) (A0_1:Option Addr) (c0_1:Nat) (l0_1:List (S49)) (a1_0:Int) (A1_1:Option Addr) (c1_1:Nat) (l1_1:List (S49)) (r:Bool) (w:World) (hr0_1:Kd.C k49 w A0_1 l0_1.length l0_1) (hc0_1:l0_1.length≤c0_1) (hr1_1:Kd.C k49 w A1_1 l1_1.length l1_1) (hc1_1:l1_1.length≤c1_1) (h:laws_eqStock.f k a0_0 l0_1 a1_0 l1_1=some r) :
  Calls Try.prog 34 #[.agg #[.int .i64 a0_0,.slice A0_1 l0_1.length c0_1],.agg #[.int .i64 a1_0,.slice A1_1 l1_1.length c1_1]] w fun e w'=>e=.returned (.bool r)∧Below w.heap.size w w':=by
 have hu38:=Try.underlying38;have HR0_1:=qaf.mk hr0_1;have HC0_1:=qaf.mk hc0_1;clear hr0_1 hc0_1;have HR1_1:=qaf.mk hr1_1;have HC1_1:=qaf.mk hc1_1;clear hr1_1 hc1_1;have HB:=qaf.mk (Below.refl w.heap.size w);have H:(if a0_0=a1_0 then((laws_eqHoldS.f k l0_1 l1_1).bind fun t1005=>(if t1005=true then(some true) else(some false))) else(some false))=some r:=h;clear h;by_cases c3:a0_0=a1_0
 ·rw[if_pos c3] at H;have c3b0:(a0_0 == a1_0)=true:=beq_iff_eq.mpr c3;have c3b1:(a0_0 != a1_0)=false:=bne_eq_false_iff_eq.mpr c3;clear c3;replace H:=Option.bind_eq_some_iff.mp H;obtain⟨t1005,A40,H⟩:=H;replace H:(if t1005=true then(some true) else(some false))=some r:=H;have A4:=qaf.mk A40;clear A40;by_cases c5:t1005=true
  ·subst c5
   have H1:(some true)=some r:=by rw[if_pos rfl] at H;exact H
   clear H;have H:=H1;clear H1;obtain rfl:=Option.some.inj H;go_enter Try.func34,Try.ntmps34
   go_wp2_with(first|((with_reducible refine qam (N:=2) rfl ?_);refine zX (N:=2) (cs:=#[.int .i64 a0_0,.slice A0_1 l0_1.length c0_1]) (t:=38) ?_;intro gb1003 hg w6 hbox hb;have BK1003:=qaf.mk hbox;have GW1003:=zH (w:=w) hg (za2 HB);have GE1003:=GW1003;replace HB:=qaf.mk (qad (za2 HB) hb);clear hb hbox hg)|((with_reducible refine qam (N:=3) rfl ?_);refine zX (N:=3) (cs:=#[.int .i64 a1_0,.slice A1_1 l1_1.length c1_1]) (t:=38) ?_;intro gb1004 hg w7 hbox hb;have BK1004:=qaf.mk hbox;have GW1004:=zH (w:=w) hg (za3 HB GE1003);have GE1004:=GW1004;replace HB:=qaf.mk (qad (za3 HB GE1003) hb);have NB1003_1004:=zL BK1003 hg;have NB1004_1003:=zG BK1003 hg;replace BK1003:=zY BK1003 hb;clear hb hbox hg;have hnb8:=NB1003_1004.out;have hnc8:=NB1004_1003.out;obtain⟨hcz9_0,hcz9_1,hfz9_0,hfz9_1⟩:=zC2 BK1003;obtain⟨hcz10_0,hcz10_1,hfz10_0,hfz10_1⟩:=zC2 BK1004)|((with_reducible refine qag (f:=72) rfl ?_);refine zF (some 14) Try.func72 #[.slice A0_1 l0_1.length c0_1,.slice A1_1 l1_1.length c1_1] ?_;(with_reducible refine(laws_eqHoldS.calls k _ _ l0_1 _ _ l1_1 true _ ?side1 ?side2 ?side3 ?side4 A4.out).mono ?_);(case side1=>exact zR HR0_1 HB);(case side2=>exact HC0_1.out);(case side3=>exact zR HR1_1 HB);(case side4=>exact HC1_1.out);rintro e w11 ⟨rfl,hb⟩;refine⟨_,rfl,?_⟩;replace BK1003:=zY BK1003 hb;replace BK1004:=zY BK1004 hb;replace HB:=qaf.mk (qad (za4 HB GE1003 GE1004) hb);(try clear hb)))
   go_ret;exact⟨za12,za4 HB GE1003 GE1004⟩
  ·replace c5:=Bool.eq_false_iff.mpr c5;subst c5
   have H1:(some false)=some r:=by rw[if_neg (show ¬(false=true) by decide)] at H;exact H
   clear H;have H:=H1;clear H1;obtain rfl:=Option.some.inj H;go_enter Try.func34,Try.ntmps34
   go_wp2_with(first|((with_reducible refine qam (N:=2) rfl ?_);refine zX (N:=2) (cs:=#[.int .i64 a0_0,.slice A0_1 l0_1.length c0_1]) (t:=38) ?_;intro gb1003 hg w12 hbox hb;have BK1003:=qaf.mk hbox;have GW1003:=zH (w:=w) hg (za2 HB);have GE1003:=GW1003;replace HB:=qaf.mk (qad (za2 HB) hb);clear hb hbox hg)|((with_reducible refine qam (N:=3) rfl ?_);refine zX (N:=3) (cs:=#[.int .i64 a1_0,.slice A1_1 l1_1.length c1_1]) (t:=38) ?_;intro gb1004 hg w13 hbox hb;have BK1004:=qaf.mk hbox;have GW1004:=zH (w:=w) hg (za3 HB GE1003);have GE1004:=GW1004;replace HB:=qaf.mk (qad (za3 HB GE1003) hb);have NB1003_1004:=zL BK1003 hg;have NB1004_1003:=zG BK1003 hg;replace BK1003:=zY BK1003 hb;clear hb hbox hg;have hnb14:=NB1003_1004.out;have hnc14:=NB1004_1003.out;obtain⟨hcz15_0,hcz15_1,hfz15_0,hfz15_1⟩:=zC2 BK1003;obtain⟨hcz16_0,hcz16_1,hfz16_0,hfz16_1⟩:=zC2 BK1004)|((with_reducible refine qag (f:=72) rfl ?_);refine zF (some 14) Try.func72 #[.slice A0_1 l0_1.length c0_1,.slice A1_1 l1_1.length c1_1] ?_;(with_reducible refine(laws_eqHoldS.calls k _ _ l0_1 _ _ l1_1 false _ ?side1 ?side2 ?side3 ?side4 A4.out).mono ?_);(case side1=>exact zR HR0_1 HB);(case side2=>exact HC0_1.out);(case side3=>exact zR HR1_1 HB);(case side4=>exact HC1_1.out);rintro e w17 ⟨rfl,hb⟩;refine⟨_,rfl,?_⟩;replace BK1003:=zY BK1003 hb;replace BK1004:=zY BK1004 hb;replace HB:=qaf.mk (qad (za4 HB GE1003 GE1004) hb);(try clear hb)))
   go_ret;exact⟨za12,za4 HB GE1003 GE1004⟩
 ·rw[if_neg c3] at H;have c3b0:(a0_0 == a1_0)=false:=beq_eq_false_iff_ne.mpr c3;have c3b1:(a0_0 != a1_0)=true:=bne_iff_ne.mpr c3;obtain rfl:=Option.some.inj H;go_enter Try.func34,Try.ntmps34
  go_wp2_with(first|((with_reducible refine qam (N:=2) rfl ?_);refine zX (N:=2) (cs:=#[.int .i64 a0_0,.slice A0_1 l0_1.length c0_1]) (t:=38) ?_;intro gb1003 hg w18 hbox hb;have BK1003:=qaf.mk hbox;have GW1003:=zH (w:=w) hg (za2 HB);have GE1003:=GW1003;replace HB:=qaf.mk (qad (za2 HB) hb);clear hb hbox hg)|((with_reducible refine qam (N:=3) rfl ?_);refine zX (N:=3) (cs:=#[.int .i64 a1_0,.slice A1_1 l1_1.length c1_1]) (t:=38) ?_;intro gb1004 hg w19 hbox hb;have BK1004:=qaf.mk hbox;have GW1004:=zH (w:=w) hg (za3 HB GE1003);have GE1004:=GW1004;replace HB:=qaf.mk (qad (za3 HB GE1003) hb);have NB1003_1004:=zL BK1003 hg;have NB1004_1003:=zG BK1003 hg;replace BK1003:=zY BK1003 hb;clear hb hbox hg;have hnb20:=NB1003_1004.out;have hnc20:=NB1004_1003.out;obtain⟨hcz21_0,hcz21_1,hfz21_0,hfz21_1⟩:=zC2 BK1003;obtain⟨hcz22_0,hcz22_1,hfz22_0,hfz22_1⟩:=zC2 BK1004))
  go_ret;exact⟨za12,za4 HB GE1003 GE1004⟩
def laws_eqIntS.l0:Nat→List Int→List Int→Int→Option (Bool)
 |0,_,_,_=>none
 |k+1,x0,x1,x5=>if x5<(x0.length:Int) then(if 0≤x5 then(if x5<(x1.length:Int) then(if(rd x0 x5)=(rd x1 x5) then(laws_eqIntS.l0 k x0 x1 (wrap64 (x5+1))) else(some false)) else(none)) else(none)) else(some true)
def laws_eqIntS.f (k:Nat) (l0:List Int) (l1:List Int):Option (Bool):=if(l0.length:Int)=(l1.length:Int) then(laws_eqIntS.l0 k l0 l1 0) else(some false)
theorem laws_eqIntS.mono_l:∀k,(∀y0 y1 y2,LeO (laws_eqIntS.l0 k y0 y1 y2) (laws_eqIntS.l0 (k+1) y0 y1 y2))
 |0=>fun _ _ _ r h=>by simp[laws_eqIntS.l0] at h
 |k+1=>by
  have ih0:=laws_eqIntS.mono_l k
  ·intro y0 y1 y2;unfold laws_eqIntS.l0
   repeat' first|(with_reducible exact ih0 _ _ _)|(with_reducible exact LeO.refl _)|(with_reducible exact LeO.none _)|(with_reducible refine LeO.ite ?_ ?_)|(with_reducible refine LeO.bind ?_ (fun _=>?_))|exact ih0 _ _ _|exact LeO.none _|refine LeO.ite ?_ ?_|refine LeO.bind ?_ (fun _=>?_)
theorem laws_eqIntS.mono:∀a0 a1 k,LeO (laws_eqIntS.f k a0 a1) (laws_eqIntS.f (k+1) a0 a1):=by
 intro a0 a1 k;have ih0:=laws_eqIntS.mono_l k;unfold laws_eqIntS.f
 repeat' first|(with_reducible exact ih0 _ _ _)|(with_reducible exact LeO.refl _)|(with_reducible exact LeO.none _)|(with_reducible refine LeO.ite ?_ ?_)|(with_reducible refine LeO.bind ?_ (fun _=>?_))|exact ih0 _ _ _|exact LeO.none _|refine LeO.ite ?_ ?_|refine LeO.bind ?_ (fun _=>?_)
set_option maxHeartbeats 8000000 in
set_option maxRecDepth 100000 in
theorem laws_eqIntS.calls (k:Nat) (A0:Option Addr) (c0:Nat) (l0:List Int) (A1:Option Addr) (c1:Nat) (l1:List Int) (r:Bool) (w:World) (hr0:Kd.C (Kd.int .i64) w A0 l0.length l0) (hc0:l0.length≤c0) (hr1:Kd.C (Kd.int .i64) w A1 l1.length l1) (hc1:l1.length≤c1) (h:laws_eqIntS.f k l0 l1=some r) :
  Calls Try.prog 73 #[.slice A0 l0.length c0,.slice A1 l1.length c1] w fun e w'=>e=.returned (.bool r)∧Drawn0 w w':=by
 have HR0:=qaf.mk hr0;have HC0:=qaf.mk hc0;clear hr0 hc0;have HR1:=qaf.mk hr1;have HC1:=qaf.mk hc1;clear hr1 hc1;have H:(if(l0.length:Int)=(l1.length:Int) then(laws_eqIntS.l0 k l0 l1 0) else(some false))=some r:=h;clear h;by_cases c3:(l0.length:Int)=(l1.length:Int)
 ·rw[if_pos c3] at H;have c3b0:((l0.length:Int) == (l1.length:Int))=true:=beq_iff_eq.mpr c3;have c3b1:((l0.length:Int) != (l1.length:Int))=false:=bne_eq_false_iff_eq.mpr c3
  have c3b2:(l0.length == l1.length)=true:=by first|simpa using c3|(simp at c3 ⊢;omega)
  clear c3;have H':=qaf.mk H;clear H;go_enter Try.func73,Try.ntmps73;go_wp2
  repeat(go_quiet(fail);try go_wp2)
  go_loopg [5] k (fun kq v5 w'=>∃(x5_1:Int),v5=.int .i64 x5_1∧qaf (laws_eqIntS.l0 kq l0 l1 x5_1=some r)∧qaf (kq≤k)∧Drawn0 w w')
  case atStart=>exact⟨(0),(za38),H',⟨Nat.le_refl _⟩,za62⟩
  case round=>
   clear H'
   try clear c1
   try clear p2
   try clear c3
   try clear c3b0
   try clear c3b1
   try clear c3b2
   obtain⟨x5_1,rfl,HA,HK1,⟨m1,rfl⟩⟩:=hrel
   cases gk with
   |zero=>exact absurd HA.out (by simp[laws_eqIntS.l0])
   |succ k1=>
    have H:=HA.out;clear HA;simp only[laws_eqIntS.l0] at H;by_cases c4:x5_1<(l0.length:Int)
    ·rw[if_pos c4] at H;have c4b0:decide (x5_1<(l0.length:Int))=true:=decide_eq_true c4;clear c4;by_cases c5:0≤x5_1
     ·rw[if_pos c5] at H;have c5b0:decide (0≤x5_1)=true:=decide_eq_true c5;clear c5;by_cases c6:x5_1<(l1.length:Int)
      ·rw[if_pos c6] at H;have c6b0:decide (x5_1<(l1.length:Int))=true:=decide_eq_true c6;clear c6;by_cases c7:(rd l0 x5_1)=(rd l1 x5_1)
       ·rw[if_pos c7] at H;have c7b0:((rd l0 x5_1) == (rd l1 x5_1))=true:=beq_iff_eq.mpr c7;have c7b1:((rd l0 x5_1) != (rd l1 x5_1))=false:=bne_eq_false_iff_eq.mpr c7;clear c7;have H':=qaf.mk H;clear H;have p1006:0≤(x5_1:Int):=of_decide_eq_true (za10);have q1006:x5_1<(l0.length:Int):=of_decide_eq_true (za10);obtain⟨ad1006,e1006,hx1006_0⟩:=Kd.at_int HR0.out x5_1 p1006 q1006
        cases e1006
        replace p1006:=eq_true p1006;replace q1006:=eq_true q1006;have p1007:0≤(x5_1:Int):=of_decide_eq_true (za10);have q1007:x5_1<(l1.length:Int):=of_decide_eq_true (za10);obtain⟨ad1007,e1007,hx1007_0⟩:=Kd.at_int HR1.out x5_1 p1007 q1007
        cases e1007
        replace p1007:=eq_true p1007;replace q1007:=eq_true q1007;go_wp2
        repeat(go_quiet(fail);try go_wp2)
        go_roundg k1
        case measure=>have:=HK1.out;omega
        case rel=>exact⟨(wrap64 (x5_1+1)),(za38),H',⟨by have:=HK1.out;omega⟩,za62⟩
       ·rw[if_neg c7] at H;have c7b0:((rd l0 x5_1) == (rd l1 x5_1))=false:=beq_eq_false_iff_ne.mpr c7;have c7b1:((rd l0 x5_1) != (rd l1 x5_1))=true:=bne_iff_ne.mpr c7;obtain rfl:=Option.some.inj H;have p1006:0≤(x5_1:Int):=of_decide_eq_true (za10);have q1006:x5_1<(l0.length:Int):=of_decide_eq_true (za10);obtain⟨ad1006,e1006,hx1006_0⟩:=Kd.at_int HR0.out x5_1 p1006 q1006
        cases e1006
        replace p1006:=eq_true p1006;replace q1006:=eq_true q1006;have p1007:0≤(x5_1:Int):=of_decide_eq_true (za10);have q1007:x5_1<(l1.length:Int):=of_decide_eq_true (za10);obtain⟨ad1007,e1007,hx1007_0⟩:=Kd.at_int HR1.out x5_1 p1007 q1007
        cases e1007
        replace p1007:=eq_true p1007;replace q1007:=eq_true q1007;go_wp2
        repeat(go_quiet(fail);try go_wp2)
        go_ret;exact⟨za38,za62⟩
      ·rw[if_neg c6] at H;exact absurd H (by simp)
     ·rw[if_neg c5] at H;exact absurd H (by simp)
    ·rw[if_neg c4] at H;have c4b0:decide (x5_1<(l0.length:Int))=false:=decide_eq_false c4;clear c4;obtain rfl:=Option.some.inj H;go_wp2
     repeat(go_quiet(fail);try go_wp2)
     go_ret;exact⟨za38,za62⟩
 ·rw[if_neg c3] at H;have c3b0:((l0.length:Int) == (l1.length:Int))=false:=beq_eq_false_iff_ne.mpr c3;have c3b1:((l0.length:Int) != (l1.length:Int))=true:=bne_iff_ne.mpr c3
  have c3b2:(l0.length == l1.length)=false:=by first|simpa using c3|(simp at c3 ⊢;omega)
  obtain rfl:=Option.some.inj H;go_enter Try.func73,Try.ntmps73;go_wp2
  repeat(go_quiet(fail);try go_wp2)
  go_ret;exact⟨za38,za62⟩
def laws_eqRec.f (k:Nat) (a0_0:Int) (a0_1:Int) (l0_2:List Int) (a1_0:Int) (a1_1:Int) (l1_2:List Int):Option (Bool):=if a0_0=a1_0 then(if a0_1=a1_1 then((laws_eqIntS.f k l0_2 l1_2).bind fun t1010=>(if t1010=true then(some true) else(some false))) else(some false)) else(some false)
theorem laws_eqRec.mono:∀a0 a1 a2 a3 a4 a5 k,LeO (laws_eqRec.f k a0 a1 a2 a3 a4 a5) (laws_eqRec.f (k+1) a0 a1 a2 a3 a4 a5):=by
 intro a0 a1 a2 a3 a4 a5 k;unfold laws_eqRec.f
 repeat' first|(with_reducible exact laws_eqIntS.mono _ _ _)|(with_reducible exact LeO.refl _)|(with_reducible exact LeO.none _)|(with_reducible refine LeO.ite ?_ ?_)|(with_reducible refine LeO.bind ?_ (fun _=>?_))|exact laws_eqIntS.mono _ _ _|exact LeO.none _|refine LeO.ite ?_ ?_|refine LeO.bind ?_ (fun _=>?_)
set_option maxHeartbeats 8000000 in
set_option maxRecDepth 100000 in
theorem laws_eqRec.calls (k:Nat) (a0_0:Int) (a0_1:Int) (A0_2:Option Addr) (c0_2:Nat) (l0_2:List Int) (a1_0:Int) (a1_1:Int) (A1_2:Option Addr) (c1_2:Nat) (l1_2:List Int) (r:Bool) (w:World) (hr0_2:Kd.C (Kd.int .i64) w A0_2 l0_2.length l0_2) (hc0_2:l0_2.length≤c0_2) (hr1_2:Kd.C (Kd.int .i64) w A1_2 l1_2.length l1_2) (hc1_2:l1_2.length≤c1_2) (h:laws_eqRec.f k a0_0 a0_1 l0_2 a1_0 a1_1 l1_2=some r) :
  Calls Try.prog 35 #[.agg #[.int .i64 a0_0,.int .i64 a0_1,.slice A0_2 l0_2.length c0_2],.agg #[.int .i64 a1_0,.int .i64 a1_1,.slice A1_2 l1_2.length c1_2]] w fun e w'=>e=.returned (.bool r)∧Below w.heap.size w w':=by
 have hu32:=Try.underlying32;have HR0_2:=qaf.mk hr0_2;have HC0_2:=qaf.mk hc0_2;clear hr0_2 hc0_2;have HR1_2:=qaf.mk hr1_2;have HC1_2:=qaf.mk hc1_2;clear hr1_2 hc1_2;have HB:=qaf.mk (Below.refl w.heap.size w);have H:(if a0_0=a1_0 then(if a0_1=a1_1 then((laws_eqIntS.f k l0_2 l1_2).bind fun t1010=>(if t1010=true then(some true) else(some false))) else(some false)) else(some false))=some r:=h;clear h;by_cases c3:a0_0=a1_0
 ·rw[if_pos c3] at H;have c3b0:(a0_0 == a1_0)=true:=beq_iff_eq.mpr c3;have c3b1:(a0_0 != a1_0)=false:=bne_eq_false_iff_eq.mpr c3;clear c3;by_cases c4:a0_1=a1_1
  ·rw[if_pos c4] at H;have c4b0:(a0_1 == a1_1)=true:=beq_iff_eq.mpr c4;have c4b1:(a0_1 != a1_1)=false:=bne_eq_false_iff_eq.mpr c4;clear c4;replace H:=Option.bind_eq_some_iff.mp H;obtain⟨t1010,A50,H⟩:=H;replace H:(if t1010=true then(some true) else(some false))=some r:=H;have A5:=qaf.mk A50;clear A50;by_cases c6:t1010=true
   ·subst c6
    have H1:(some true)=some r:=by rw[if_pos rfl] at H;exact H
    clear H;have H:=H1;clear H1;obtain rfl:=Option.some.inj H;go_enter Try.func35,Try.ntmps35
    go_wp2_with(first|((with_reducible refine qam (N:=2) rfl ?_);refine zX (N:=2) (cs:=#[.int .i64 a0_0,.int .i64 a0_1,.slice A0_2 l0_2.length c0_2]) (t:=32) ?_;intro gb1008 hg w7 hbox hb;have BK1008:=qaf.mk hbox;have GW1008:=zH (w:=w) hg (za2 HB);have GE1008:=GW1008;replace HB:=qaf.mk (qad (za2 HB) hb);clear hb hbox hg)|((with_reducible refine qam (N:=3) rfl ?_);refine zX (N:=3) (cs:=#[.int .i64 a1_0,.int .i64 a1_1,.slice A1_2 l1_2.length c1_2]) (t:=32) ?_;intro gb1009 hg w8 hbox hb;have BK1009:=qaf.mk hbox;have GW1009:=zH (w:=w) hg (za3 HB GE1008);have GE1009:=GW1009;replace HB:=qaf.mk (qad (za3 HB GE1008) hb);have NB1008_1009:=zL BK1008 hg;have NB1009_1008:=zG BK1008 hg;replace BK1008:=zY BK1008 hb;clear hb hbox hg;have hnb9:=NB1008_1009.out;have hnc9:=NB1009_1008.out;obtain⟨hcz10_0,hcz10_1,hcz10_2,hfz10_0,hfz10_1,hfz10_2⟩:=zC3 BK1008;obtain⟨hcz11_0,hcz11_1,hcz11_2,hfz11_0,hfz11_1,hfz11_2⟩:=zC3 BK1009)|((with_reducible refine qag (f:=73) rfl ?_);refine zF (some 19) Try.func73 #[.slice A0_2 l0_2.length c0_2,.slice A1_2 l1_2.length c1_2] ?_;(with_reducible refine(laws_eqIntS.calls k _ _ l0_2 _ _ l1_2 true _ ?side1 ?side2 ?side3 ?side4 A5.out).mono ?_);(case side1=>exact zR HR0_2 HB);(case side2=>exact HC0_2.out);(case side3=>exact zR HR1_2 HB);(case side4=>exact HC1_2.out);rintro e w' ⟨rfl,⟨nd,rfl⟩⟩;refine⟨_,rfl,?_⟩))
    go_ret;exact⟨za12,za4 HB GE1008 GE1009⟩
   ·replace c6:=Bool.eq_false_iff.mpr c6;subst c6
    have H1:(some false)=some r:=by rw[if_neg (show ¬(false=true) by decide)] at H;exact H
    clear H;have H:=H1;clear H1;obtain rfl:=Option.some.inj H;go_enter Try.func35,Try.ntmps35
    go_wp2_with(first|((with_reducible refine qam (N:=2) rfl ?_);refine zX (N:=2) (cs:=#[.int .i64 a0_0,.int .i64 a0_1,.slice A0_2 l0_2.length c0_2]) (t:=32) ?_;intro gb1008 hg w12 hbox hb;have BK1008:=qaf.mk hbox;have GW1008:=zH (w:=w) hg (za2 HB);have GE1008:=GW1008;replace HB:=qaf.mk (qad (za2 HB) hb);clear hb hbox hg)|((with_reducible refine qam (N:=3) rfl ?_);refine zX (N:=3) (cs:=#[.int .i64 a1_0,.int .i64 a1_1,.slice A1_2 l1_2.length c1_2]) (t:=32) ?_;intro gb1009 hg w13 hbox hb;have BK1009:=qaf.mk hbox;have GW1009:=zH (w:=w) hg (za3 HB GE1008);have GE1009:=GW1009;replace HB:=qaf.mk (qad (za3 HB GE1008) hb);have NB1008_1009:=zL BK1008 hg;have NB1009_1008:=zG BK1008 hg;replace BK1008:=zY BK1008 hb;clear hb hbox hg;have hnb14:=NB1008_1009.out;have hnc14:=NB1009_1008.out;obtain⟨hcz15_0,hcz15_1,hcz15_2,hfz15_0,hfz15_1,hfz15_2⟩:=zC3 BK1008;obtain⟨hcz16_0,hcz16_1,hcz16_2,hfz16_0,hfz16_1,hfz16_2⟩:=zC3 BK1009)|((with_reducible refine qag (f:=73) rfl ?_);refine zF (some 19) Try.func73 #[.slice A0_2 l0_2.length c0_2,.slice A1_2 l1_2.length c1_2] ?_;(with_reducible refine(laws_eqIntS.calls k _ _ l0_2 _ _ l1_2 false _ ?side1 ?side2 ?side3 ?side4 A5.out).mono ?_);(case side1=>exact zR HR0_2 HB);(case side2=>exact HC0_2.out);(case side3=>exact zR HR1_2 HB);(case side4=>exact HC1_2.out);rintro e w' ⟨rfl,⟨nd,rfl⟩⟩;refine⟨_,rfl,?_⟩))
    go_ret;exact⟨za12,za4 HB GE1008 GE1009⟩
  ·rw[if_neg c4] at H;have c4b0:(a0_1 == a1_1)=false:=beq_eq_false_iff_ne.mpr c4;have c4b1:(a0_1 != a1_1)=true:=bne_iff_ne.mpr c4;obtain rfl:=Option.some.inj H;go_enter Try.func35,Try.ntmps35
   go_wp2_with(first|((with_reducible refine qam (N:=2) rfl ?_);refine zX (N:=2) (cs:=#[.int .i64 a0_0,.int .i64 a0_1,.slice A0_2 l0_2.length c0_2]) (t:=32) ?_;intro gb1008 hg w17 hbox hb;have BK1008:=qaf.mk hbox;have GW1008:=zH (w:=w) hg (za2 HB);have GE1008:=GW1008;replace HB:=qaf.mk (qad (za2 HB) hb);clear hb hbox hg)|((with_reducible refine qam (N:=3) rfl ?_);refine zX (N:=3) (cs:=#[.int .i64 a1_0,.int .i64 a1_1,.slice A1_2 l1_2.length c1_2]) (t:=32) ?_;intro gb1009 hg w18 hbox hb;have BK1009:=qaf.mk hbox;have GW1009:=zH (w:=w) hg (za3 HB GE1008);have GE1009:=GW1009;replace HB:=qaf.mk (qad (za3 HB GE1008) hb);have NB1008_1009:=zL BK1008 hg;have NB1009_1008:=zG BK1008 hg;replace BK1008:=zY BK1008 hb;clear hb hbox hg;have hnb19:=NB1008_1009.out;have hnc19:=NB1009_1008.out;obtain⟨hcz20_0,hcz20_1,hcz20_2,hfz20_0,hfz20_1,hfz20_2⟩:=zC3 BK1008;obtain⟨hcz21_0,hcz21_1,hcz21_2,hfz21_0,hfz21_1,hfz21_2⟩:=zC3 BK1009))
   go_ret;exact⟨za12,za4 HB GE1008 GE1009⟩
 ·rw[if_neg c3] at H;have c3b0:(a0_0 == a1_0)=false:=beq_eq_false_iff_ne.mpr c3;have c3b1:(a0_0 != a1_0)=true:=bne_iff_ne.mpr c3;obtain rfl:=Option.some.inj H;go_enter Try.func35,Try.ntmps35
  go_wp2_with(first|((with_reducible refine qam (N:=2) rfl ?_);refine zX (N:=2) (cs:=#[.int .i64 a0_0,.int .i64 a0_1,.slice A0_2 l0_2.length c0_2]) (t:=32) ?_;intro gb1008 hg w22 hbox hb;have BK1008:=qaf.mk hbox;have GW1008:=zH (w:=w) hg (za2 HB);have GE1008:=GW1008;replace HB:=qaf.mk (qad (za2 HB) hb);clear hb hbox hg)|((with_reducible refine qam (N:=3) rfl ?_);refine zX (N:=3) (cs:=#[.int .i64 a1_0,.int .i64 a1_1,.slice A1_2 l1_2.length c1_2]) (t:=32) ?_;intro gb1009 hg w23 hbox hb;have BK1009:=qaf.mk hbox;have GW1009:=zH (w:=w) hg (za3 HB GE1008);have GE1009:=GW1009;replace HB:=qaf.mk (qad (za3 HB GE1008) hb);have NB1008_1009:=zL BK1008 hg;have NB1009_1008:=zG BK1008 hg;replace BK1008:=zY BK1008 hb;clear hb hbox hg;have hnb24:=NB1008_1009.out;have hnc24:=NB1009_1008.out;obtain⟨hcz25_0,hcz25_1,hcz25_2,hfz25_0,hfz25_1,hfz25_2⟩:=zC3 BK1008;obtain⟨hcz26_0,hcz26_1,hcz26_2,hfz26_0,hfz26_1,hfz26_2⟩:=zC3 BK1009))
  go_ret;exact⟨za12,za4 HB GE1008 GE1009⟩
def laws_markHoldS.l0:Nat→List (S49)→Int→Int→Option (Int × (List (S49)))
 |0,_,_,_=>none
 |k+1,x0,x1,x5=>if x5<(x0.length:Int) then(if 0≤x5 then((some (x0.set (x5:Int).toNat (⟨x1,(rd_T49 x0 x5).f1⟩:S49):List (S49))).bind fun y1011=>(laws_markHoldS.l0 k (y1011.set (x5:Int).toNat (⟨(rd_T49 y1011 x5).f0,wrap64 (x1+1)⟩:S49)) (wrap64 ((wrap64 (x1+1))+1)) (wrap64 (x5+1)))) else(none)) else(some (x1,x0))
def laws_markHoldS.f (k:Nat) (l0:List (S49)) (a1:Int):Option (Int × (List (S49))):=laws_markHoldS.l0 k l0 a1 0
theorem laws_markHoldS.mono_l:∀k,(∀y0 y1 y2,LeO (laws_markHoldS.l0 k y0 y1 y2) (laws_markHoldS.l0 (k+1) y0 y1 y2))
 |0=>fun _ _ _ r h=>by simp[laws_markHoldS.l0] at h
 |k+1=>by
  have ih0:=laws_markHoldS.mono_l k
  ·intro y0 y1 y2;unfold laws_markHoldS.l0
   repeat' first|(with_reducible exact ih0 _ _ _)|(with_reducible exact LeO.refl _)|(with_reducible exact LeO.none _)|(with_reducible refine LeO.ite ?_ ?_)|(with_reducible refine LeO.bind ?_ (fun _=>?_))|exact ih0 _ _ _|exact LeO.none _|refine LeO.ite ?_ ?_|refine LeO.bind ?_ (fun _=>?_)
theorem laws_markHoldS.mono:∀a0 a1 k,LeO (laws_markHoldS.f k a0 a1) (laws_markHoldS.f (k+1) a0 a1):=by
 intro a0 a1 k;have ih0:=laws_markHoldS.mono_l k;unfold laws_markHoldS.f
 repeat' first|(with_reducible exact ih0 _ _ _)|(with_reducible exact LeO.refl _)|(with_reducible exact LeO.none _)|(with_reducible refine LeO.ite ?_ ?_)|(with_reducible refine LeO.bind ?_ (fun _=>?_))|exact ih0 _ _ _|exact LeO.none _|refine LeO.ite ?_ ?_|refine LeO.bind ?_ (fun _=>?_)
set_option maxHeartbeats 8000000 in
set_option maxRecDepth 100000 in
theorem laws_markHoldS.calls (k:Nat) (P0_:Nat→Prop) (u9000_:Value) (l0:List (S49)) (a1:Int) (r1:Int) (r2:List (S49)) (w0 w:World) (hB:Below w0.heap.size w0 w) (ho0:Kd.R k49 49 w w0.heap.size P0_ u9000_ l0) (h:laws_markHoldS.f k l0 a1=some (r1,r2)) :
  Calls Try.prog 74 #[u9000_,.int .i64 a1] w fun e w'=>e=.returned (.int .i64 r1)∧Kd.R k49 49 w' w0.heap.size (fun k_=>(P0_ k_∨w.heap.size≤k_)) u9000_ r2∧Below w0.heap.size w0 w'∧Kept w w' (fun k_=>P0_ k_):=by
 have HO0:=qaf.mk (show Kd.R k49 49 w w0.heap.size (fun k_=>(P0_ k_∨w.heap.size≤k_)) u9000_ l0 from Kd.R_mono ho0 (fun k_ hk=>(.inl hk)));have HK:=qaf.mk (Kept.refl w (fun k_=>P0_ k_));have HW0:=qaf.mk hB.size;have HB:=qaf.mk hB;clear hB;have H:(laws_markHoldS.l0 k l0 a1 0)=some (r1,r2):=h;clear h;have H':=qaf.mk H;clear H;go_enter Try.func74,Try.ntmps74;go_wp2
 go_loopg [1,5] k (fun kq v1 v5 w'=>∃(x0_1:List (S49)) (x1_1:Int) (x5_1:Int),v1=.int .i64 x1_1∧v5=.int .i64 x5_1∧qaf (laws_markHoldS.l0 kq x0_1 x1_1 x5_1=some (r1,r2))∧qaf (kq≤k)∧qaf (Kd.R k49 49 w' w0.heap.size (fun k_=>(P0_ k_∨w.heap.size≤k_)) u9000_ x0_1)∧qaf (Kept w w' (fun k_=>P0_ k_))∧qaf (Below w0.heap.size w0 w'))
 case atStart=>exact⟨(l0),(a1),(0),(za38),(za38),H',⟨Nat.le_refl _⟩,⟨za1 HO0⟩,⟨za63 HK⟩,⟨za2 HB⟩⟩
 case round=>
  clear H'
  try clear p2
  obtain⟨x0_1,x1_1,x5_1,rfl,rfl,HA,HK1,HO_0,HK,HB⟩:=hrel
  cases gk with
  |zero=>exact absurd HA.out (by simp[laws_markHoldS.l0])
  |succ k1=>
   have H:=HA.out;clear HA;simp only[laws_markHoldS.l0] at H;by_cases c3:x5_1<(x0_1.length:Int)
   ·rw[if_pos c3] at H;have c3b0:decide (x5_1<(x0_1.length:Int))=true:=decide_eq_true c3;clear c3;by_cases c4:0≤x5_1
    ·rw[if_pos c4] at H;have c4b0:decide (0≤x5_1)=true:=decide_eq_true c4;clear c4;obtain⟨y1011,hy1011⟩:∃y_:List (S49),y_=(x0_1.set (x5_1:Int).toNat (⟨x1_1,(rd_T49 x0_1 x5_1).f1⟩:S49)):=⟨_,rfl⟩
     replace H:(laws_markHoldS.l0 k1 (y1011.set (x5_1:Int).toNat (⟨(rd_T49 y1011 x5_1).f0,wrap64 (x1_1+1)⟩:S49)) (wrap64 ((wrap64 (x1_1+1))+1)) (wrap64 (x5_1+1)))=some (r1,r2):=by first|(rw[hy1011];with_reducible exact H)|(have H2_:=(Option.bind_some _ _).symm.trans H;rw[hy1011];with_reducible exact H2_)|(have H2_:=(Option.bind_some _ _).symm.trans H;with_reducible exact H2_)|with_reducible exact H|(rw[hy1011];exact H)|exact H
     have Ny1011:=qaf.mk hy1011;clear hy1011;obtain⟨y1012,hy1012⟩:∃y_:List (S49),y_=(y1011.set (x5_1:Int).toNat (⟨(rd_T49 y1011 x5_1).f0,wrap64 (x1_1+1)⟩:S49)):=⟨_,rfl⟩
     replace H:(laws_markHoldS.l0 k1 y1012 (wrap64 ((wrap64 (x1_1+1))+1)) (wrap64 (x5_1+1)))=some (r1,r2):=by first|(rw[hy1012];with_reducible exact H)|(have H2_:=(Option.bind_some _ _).symm.trans H;rw[hy1012];with_reducible exact H2_)|(have H2_:=(Option.bind_some _ _).symm.trans H;with_reducible exact H2_)|with_reducible exact H|(rw[hy1012];exact H)|exact H
     have Ny1012:=qaf.mk hy1012;clear hy1012;have H':=qaf.mk H;clear H;obtain⟨Ao7,co7,eo7⟩:=Kd.R_slice HO_0.out;subst eo7;have p5:0≤(x5_1:Int):=of_decide_eq_true (za10);have q5:(x5_1:Int)<((x0_1.length:Int):Int):=of_decide_eq_true (za10);obtain⟨go5,co5,eo5,gb5,gl5,cl5,HG5⟩:=Kd.R_form HO_0.out (by omega);(first|cases eo5|(injection eo5 with ea_ en_ ec_;(first|subst ea_|(injection ea_ with ea_;subst ea_));subst ec_;clear en_));have GB5:=qaf.mk gb5;have GG5:=qaf.mk HG5;clear gb5 gl5 HG5;have HMgo5:=qaf.mk (show(P0_ go5∨w.heap.size≤go5) from(HO_0.out.1 _ rfl));obtain⟨ce5,hcl5,hM5,hcc5,hfr5⟩:=Kd.R_elem HO_0.out z49 (x5_1:Int) p5 q5;obtain rfl:=k49_openM hM5;have hx5_0:wr.cell? ⟨go5,(x5_1:Int).toNat*2,none⟩=some (.int .i64 ((rd_T49 x0_1 x5_1).f0)):=hcc5 0 _ rfl;have hx5_1:wr.cell? ⟨go5,(x5_1:Int).toNat*2+1,none⟩=some (.int .i64 ((rd_T49 x0_1 x5_1).f1)):=hcc5 1 _ rfl;have hf5_0:wr.frozen? ⟨go5,(x5_1:Int).toNat*2,none⟩=false:=hfr5 0;have hf5_1:wr.frozen? ⟨go5,(x5_1:Int).toNat*2+1,none⟩=false:=hfr5 1;clear hcl5 hcc5 hfr5 hM5;replace p5:=eq_true p5;replace q5:=eq_true q5;have HX8:=qaf.mk (show Kd.R k49 49 wr w0.heap.size (fun k_=>(P0_ k_∨w.heap.size≤k_)) (.slice (some ⟨go5,0,none⟩) x0_1.length co7) x0_1 from(za1 HO_0));obtain⟨ce8,hcl8,hM8,hcc8,hfr8⟩:=Kd.R_elem HX8.out z49 (x5_1:Int) (of_decide_eq_true (za10)) (by have h_:(x5_1:Int)<((x0_1.length:Int):Int):=of_decide_eq_true (za10);first|exact h_|(have e_:=(Kd.R_reads' HO_0.out).1;omega)|simpa using h_)
     obtain rfl:=k49_openM hM8;have HP8:=Kd.R_seg HX8.out (x5_1:Int) (of_decide_eq_true (za10)) (by have h_:(x5_1:Int)<((x0_1.length:Int):Int):=of_decide_eq_true (za10);first|exact h_|(have e_:=(Kd.R_reads' HO_0.out).1;omega)|simpa using h_) (seg:=[.int .i64 x1_1]) (j:=0) hcl8 hcc8 (show 1≤2 from by decide) (x':=(⟨x1_1,(rd_T49 x0_1 x5_1).f1⟩:S49)) (k49_mkM _ _ _ (⟨x1_1,(rd_T49 x0_1 x5_1).f1⟩:S49) ) (fun _ hk=>hk);have hx8_0:=hcc8 0 _ rfl;(try simp only[show(k49).sz=2 from rfl,Nat.mul_one,Nat.add_zero] at hx8_0);have hf8_0:=hfr8 0;(try simp only[show(k49).sz=2 from rfl,Nat.mul_one,Nat.add_zero] at hf8_0);clear hcl8 hcc8 hfr8 hM8
     go_wp2_with(first|((with_reducible refine gate_store (t:=3) (p:=16) rfl ?_);refine qbe (t:=3) (p:=16) (v:=?vo_w9) (w1:=(wr.setCell ⟨go5,(x5_1:Int).toNat*2,none⟩ (.int .i64 x1_1))) ?hg ?ho ?hn ?hr ?_;(case ho=>rfl);(case hg=>rfl);(case hn=>rfl);(case hr=>first|(go_simp;done)|(go_simp;rfl));intro w9 hw;have hg:wr.grownBy w9 (some go5):=(by rw[hw];exact HP8.2);have hp_:Kd.R k49 49 w9 w0.heap.size (fun k_=>(P0_ k_∨w.heap.size≤k_)) (.slice (some ⟨go5,0,none⟩) x0_1.length co7) y1011:=(by rw[hw,Ny1011.out];exact HP8.1);clear HP8;replace HB:=qaf.mk ((by rw[hw];exact qat (HB.out) GB5.out:Below w0.heap.size w0 w9));replace HK:=qaf.mk (Kept.of_grown (S:=(fun k_=>P0_ k_)) hg (za63 HK) (fun k_ e_=>(HO_0.out.1 k_ e_)));replace HO_0:=qaf.mk hp_;clear hg hw hp_;have p6:0≤(x5_1:Int):=of_decide_eq_true (za10);have q6:(x5_1:Int)<((x0_1.length:Int):Int):=of_decide_eq_true (za10);obtain⟨ce6,hcl6,hM6,hcc6,hfr6⟩:=Kd.R_elem HO_0.out z49 (x5_1:Int) p6 q6;obtain rfl:=k49_openM hM6;have hx6_0:w9.cell? ⟨go5,(x5_1:Int).toNat*2,none⟩=some (.int .i64 ((rd_T49 y1011 x5_1).f0)):=hcc6 0 _ rfl;have hx6_1:w9.cell? ⟨go5,(x5_1:Int).toNat*2+1,none⟩=some (.int .i64 ((rd_T49 y1011 x5_1).f1)):=hcc6 1 _ rfl;have hf6_0:w9.frozen? ⟨go5,(x5_1:Int).toNat*2,none⟩=false:=hfr6 0;have hf6_1:w9.frozen? ⟨go5,(x5_1:Int).toNat*2+1,none⟩=false:=hfr6 1;clear hcl6 hcc6 hfr6 hM6;replace p6:=eq_true p6;replace q6:=eq_true q6;have HX10:=qaf.mk (show Kd.R k49 49 w9 w0.heap.size (fun k_=>(P0_ k_∨w.heap.size≤k_)) (.slice (some ⟨go5,0,none⟩) x0_1.length co7) y1011 from(za1 HO_0));obtain⟨ce10,hcl10,hM10,hcc10,hfr10⟩:=Kd.R_elem HX10.out z49 (x5_1:Int) (of_decide_eq_true (za10)) (by have h_:(x5_1:Int)<((x0_1.length:Int):Int):=of_decide_eq_true (za10);first|exact h_|(have e_:=(Kd.R_reads' HO_0.out).1;omega)|simpa using h_);obtain rfl:=k49_openM hM10;have HP10:=Kd.R_seg HX10.out (x5_1:Int) (of_decide_eq_true (za10)) (by have h_:(x5_1:Int)<((x0_1.length:Int):Int):=of_decide_eq_true (za10);first|exact h_|(have e_:=(Kd.R_reads' HO_0.out).1;omega)|simpa using h_) (seg:=[.int .i64 (wrap64 (x1_1+1))]) (j:=1) hcl10 hcc10 (show 2≤2 from by decide) (x':=(⟨(rd_T49 y1011 x5_1).f0,wrap64 (x1_1+1)⟩:S49)) (k49_mkM _ _ _ (⟨(rd_T49 y1011 x5_1).f0,wrap64 (x1_1+1)⟩:S49) ) (fun _ hk=>hk);have hx10_1:=hcc10 1 _ rfl;(try simp only[show(k49).sz=2 from rfl,Nat.mul_one,Nat.add_zero] at hx10_1);have hf10_1:=hfr10 1;(try simp only[show(k49).sz=2 from rfl,Nat.mul_one,Nat.add_zero] at hf10_1);clear hcl10 hcc10 hfr10 hM10)|((with_reducible refine gate_store (t:=3) (p:=23) rfl ?_);refine qbe (t:=3) (p:=23) (v:=?vo_w11) (w1:=(w9.setCell ⟨go5,(x5_1:Int).toNat*2+1,none⟩ (.int .i64 (wrap64 (x1_1+1))))) ?hg ?ho ?hn ?hr ?_;(case ho=>rfl);(case hg=>rfl);(case hn=>rfl);(case hr=>first|(go_simp;done)|(go_simp;rfl));intro w11 hw;have hg:w9.grownBy w11 (some go5):=(by rw[hw];exact HP10.2);have hp_:Kd.R k49 49 w11 w0.heap.size (fun k_=>(P0_ k_∨w.heap.size≤k_)) (.slice (some ⟨go5,0,none⟩) x0_1.length co7) y1012:=(by rw[hw,Ny1012.out];exact HP10.1);clear HP10;replace HB:=qaf.mk ((by rw[hw];exact qat (HB.out) GB5.out:Below w0.heap.size w0 w11));replace HK:=qaf.mk (Kept.of_grown (S:=(fun k_=>P0_ k_)) hg (za63 HK) (fun k_ e_=>(HO_0.out.1 k_ e_)));replace HO_0:=qaf.mk hp_;clear hg hw hp_))
     go_roundg k1
     case measure=>have:=HK1.out;omega
     case rel=>exact⟨(y1012),(wrap64 ((wrap64 (x1_1+1))+1)),(wrap64 (x5_1+1)),(za38),(za38),H',⟨by have:=HK1.out;omega⟩,⟨za1 HO_0⟩,⟨za63 HK⟩,⟨za2 HB⟩⟩
    ·rw[if_neg c4] at H;exact absurd H (by simp)
   ·rw[if_neg c3] at H;have c3b0:decide (x5_1<(x0_1.length:Int))=false:=decide_eq_false c3;clear c3;simp only[Option.some.injEq,Prod.mk.injEq] at H;obtain⟨rfl,rfl⟩:=H;obtain⟨Ao12,co12,eo12⟩:=Kd.R_slice HO_0.out;subst eo12;go_wp2;go_ret;exact⟨za12,za1 HO_0,za2 HB,za63 HK⟩
def laws_markStock.f (k:Nat) (a0_0:Int) (l0_1:List (S49)) (a1:Int):Option (Int × (List (S49))):=(laws_markHoldS.f k l0_1 a1).bind fun bt1014=>(some (bt1014.1,bt1014.2))
theorem laws_markStock.mono:∀a0 a1 a2 k,LeO (laws_markStock.f k a0 a1 a2) (laws_markStock.f (k+1) a0 a1 a2):=by
 intro a0 a1 a2 k;unfold laws_markStock.f
 repeat' first|(with_reducible exact laws_markHoldS.mono _ _ _)|(with_reducible exact LeO.refl _)|(with_reducible exact LeO.none _)|(with_reducible refine LeO.ite ?_ ?_)|(with_reducible refine LeO.bind ?_ (fun _=>?_))|exact laws_markHoldS.mono _ _ _|exact LeO.none _|refine LeO.ite ?_ ?_|refine LeO.bind ?_ (fun _=>?_)
set_option maxHeartbeats 8000000 in
set_option maxRecDepth 100000 in
theorem laws_markStock.calls (k:Nat) (a0_0:Int) (P0_1_:Nat→Prop) (u9000_:Value) (l0_1:List (S49)) (a1:Int) (r1:Int) (r2:List (S49)) (w0 w:World) (hB:Below w0.heap.size w0 w) (ho0_1:Kd.R k49 49 w w0.heap.size P0_1_ u9000_ l0_1) (h:laws_markStock.f k a0_0 l0_1 a1=some (r1,r2)) :
  Calls Try.prog 36 #[.agg #[.int .i64 a0_0,u9000_],.int .i64 a1] w fun e w'=>e=.returned (.int .i64 r1)∧Kd.R k49 49 w' w0.heap.size (fun k_=>(P0_1_ k_∨w.heap.size≤k_)) u9000_ r2∧Below w0.heap.size w0 w'∧Kept w w' (fun k_=>P0_1_ k_):=by
 have hu38:=Try.underlying38;have HO0_1:=qaf.mk (show Kd.R k49 49 w w0.heap.size (fun k_=>(P0_1_ k_∨w.heap.size≤k_)) u9000_ l0_1 from Kd.R_mono ho0_1 (fun k_ hk=>(.inl hk)));have HK:=qaf.mk (Kept.refl w (fun k_=>P0_1_ k_));have HW0:=qaf.mk hB.size;have HB:=qaf.mk hB;clear hB;have H:((laws_markHoldS.f k l0_1 a1).bind fun bt1014=>(some (bt1014.1,bt1014.2)))=some (r1,r2):=h;clear h;replace H:=Option.bind_eq_some_iff.mp H;obtain⟨⟨t1014,t1015⟩,A30,H⟩:=H;replace H:(some (t1014,t1015))=some (r1,r2):=H;have A3:=qaf.mk A30;clear A30;simp only[Option.some.injEq,Prod.mk.injEq] at H;obtain⟨rfl,rfl⟩:=H;obtain⟨Ao4,co4,eo4⟩:=Kd.R_slice HO0_1.out;subst eo4;go_enter Try.func36,Try.ntmps36
 go_wp2_with(first|((with_reducible refine qam (N:=2) rfl ?_);refine zX (N:=2) (cs:=#[.int .i64 a0_0,.slice Ao4 l0_1.length co4]) (t:=38) ?_;intro gb1013 hg w5 hbox hb;replace HO0_1:=qaf.mk (Kd.R_below (za1 HO0_1) hb);have BK1013:=qaf.mk hbox;have GW1013:=qaf.mk ((by rw[hg];exact(by first|exact HK.out.1|exact(show Kept w _ (fun k_=>P0_1_ k_) from by repeat(first|(with_reducible first|exact HK.out|apply Kept.alloc|apply Kept.drewN|apply Kept.drew)|exact HK.out)).1):w.heap.size≤gb1013));replace HK:=qaf.mk (Kept.below (S:=(fun k_=>P0_1_ k_)) (za63 HK) hb);have GE1013:=zH (w:=w0) hg (za2 HB);replace HB:=qaf.mk (qad (za2 HB) hb);clear hb hbox hg;obtain⟨hcz6_0,hcz6_1,hfz6_0,hfz6_1⟩:=zC2 BK1013)|((with_reducible refine qag (f:=74) rfl ?_);refine zF (some 8) Try.func74 #[.slice Ao4 l0_1.length co4,.int .i64 a1] ?_;(with_reducible refine(laws_markHoldS.calls k (fun k_=>some k_=(.slice Ao4 l0_1.length co4:Value).ownBlock) (.slice Ao4 l0_1.length co4) l0_1 a1 t1014 t1015 w0 _ ?side1 ?side2 A3.out).mono ?_);(case side1=>exact(za3 HB GE1013));(case side2=>exact Kd.R_tight rfl HO0_1.out);rintro e w7 ⟨rfl,hy0,hb,hkp⟩;refine⟨_,rfl,?_⟩;replace BK1013:=qaf.mk (blk_kept (zB BK1013) hkp (fun hs_=>(fun e_=>(Kd.R_ne HO0_1.out BK1013.out (by decide)) e_) hs_));replace HK:=qaf.mk (Kept.then_ (S:=(fun k_=>P0_1_ k_)) (by repeat(first|(with_reducible first|exact HK.out|apply Kept.alloc|apply Kept.drewN|apply Kept.drew|refine Kept.setCell ?_ (.inr GW1013.out) _)|exact HK.out)) hkp (fun k_ hs_=>(fun e_=>(HO0_1.out.1 k_ e_.symm)) hs_));replace HO0_1:=qaf.mk (Kd.R_reok rfl hy0 (fun k_ e_=>HO0_1.out.1 k_ e_));replace HB:=qaf.mk hb;(try clear hb);(try clear hkp);(try clear hy0)))
 go_ret;exact⟨za12,za1 HO0_1,za3 HB GE1013,by repeat(first|(with_reducible first|exact HK.out|apply Kept.alloc|apply Kept.drewN|apply Kept.drew|refine Kept.setCell ?_ (.inr GW1013.out) _)|exact HK.out)⟩
def laws_markIntS.l0:Nat→List Int→Int→Int→Option (Int × List Int)
 |0,_,_,_=>none
 |k+1,x0,x1,x5=>if x5<(x0.length:Int) then(if 0≤x5 then(laws_markIntS.l0 k (x0.set (x5:Int).toNat x1) (wrap64 (x1+1)) (wrap64 (x5+1))) else(none)) else(some (x1,x0))
def laws_markIntS.f (k:Nat) (l0:List Int) (a1:Int):Option (Int × List Int):=laws_markIntS.l0 k l0 a1 0
theorem laws_markIntS.mono_l:∀k,(∀y0 y1 y2,LeO (laws_markIntS.l0 k y0 y1 y2) (laws_markIntS.l0 (k+1) y0 y1 y2))
 |0=>fun _ _ _ r h=>by simp[laws_markIntS.l0] at h
 |k+1=>by
  have ih0:=laws_markIntS.mono_l k
  ·intro y0 y1 y2;unfold laws_markIntS.l0
   repeat' first|(with_reducible exact ih0 _ _ _)|(with_reducible exact LeO.refl _)|(with_reducible exact LeO.none _)|(with_reducible refine LeO.ite ?_ ?_)|(with_reducible refine LeO.bind ?_ (fun _=>?_))|exact ih0 _ _ _|exact LeO.none _|refine LeO.ite ?_ ?_|refine LeO.bind ?_ (fun _=>?_)
theorem laws_markIntS.mono:∀a0 a1 k,LeO (laws_markIntS.f k a0 a1) (laws_markIntS.f (k+1) a0 a1):=by
 intro a0 a1 k;have ih0:=laws_markIntS.mono_l k;unfold laws_markIntS.f
 repeat' first|(with_reducible exact ih0 _ _ _)|(with_reducible exact LeO.refl _)|(with_reducible exact LeO.none _)|(with_reducible refine LeO.ite ?_ ?_)|(with_reducible refine LeO.bind ?_ (fun _=>?_))|exact ih0 _ _ _|exact LeO.none _|refine LeO.ite ?_ ?_|refine LeO.bind ?_ (fun _=>?_)
set_option maxHeartbeats 8000000 in
set_option maxRecDepth 100000 in
theorem laws_markIntS.calls (k:Nat) (P0_:Nat→Prop) (u9000_:Value) (l0:List Int) (a1:Int) (r1:Int) (r2:List Int) (w0 w:World) (hB:Below w0.heap.size w0 w) (ho0:Kd.R (Kd.int .i64) 3 w w0.heap.size P0_ u9000_ l0) (h:laws_markIntS.f k l0 a1=some (r1,r2)) :
  Calls Try.prog 75 #[u9000_,.int .i64 a1] w fun e w'=>e=.returned (.int .i64 r1)∧Kd.R (Kd.int .i64) 3 w' w0.heap.size (fun k_=>(P0_ k_∨w.heap.size≤k_)) u9000_ r2∧Below w0.heap.size w0 w'∧Kept w w' (fun k_=>P0_ k_):=by
 have HO0:=qaf.mk (show Kd.R (Kd.int .i64) 3 w w0.heap.size (fun k_=>(P0_ k_∨w.heap.size≤k_)) u9000_ l0 from Kd.R_mono ho0 (fun k_ hk=>(.inl hk)));have HK:=qaf.mk (Kept.refl w (fun k_=>P0_ k_));have HW0:=qaf.mk hB.size;have HB:=qaf.mk hB;clear hB;have H:(laws_markIntS.l0 k l0 a1 0)=some (r1,r2):=h;clear h;have H':=qaf.mk H;clear H;go_enter Try.func75,Try.ntmps75;go_wp2
 go_loopg [1,5] k (fun kq v1 v5 w'=>∃(x0_1:List Int) (x1_1:Int) (x5_1:Int),v1=.int .i64 x1_1∧v5=.int .i64 x5_1∧qaf (laws_markIntS.l0 kq x0_1 x1_1 x5_1=some (r1,r2))∧qaf (kq≤k)∧qaf (Kd.R (Kd.int .i64) 3 w' w0.heap.size (fun k_=>(P0_ k_∨w.heap.size≤k_)) u9000_ x0_1)∧qaf (Kept w w' (fun k_=>P0_ k_))∧qaf (Below w0.heap.size w0 w'))
 case atStart=>exact⟨(l0),(a1),(0),(za38),(za38),H',⟨Nat.le_refl _⟩,⟨za1 HO0⟩,⟨za63 HK⟩,⟨za2 HB⟩⟩
 case round=>
  clear H'
  try clear p2
  obtain⟨x0_1,x1_1,x5_1,rfl,rfl,HA,HK1,HO_0,HK,HB⟩:=hrel
  cases gk with
  |zero=>exact absurd HA.out (by simp[laws_markIntS.l0])
  |succ k1=>
   have H:=HA.out;clear HA;simp only[laws_markIntS.l0] at H;by_cases c3:x5_1<(x0_1.length:Int)
   ·rw[if_pos c3] at H;have c3b0:decide (x5_1<(x0_1.length:Int))=true:=decide_eq_true c3;clear c3;by_cases c4:0≤x5_1
    ·rw[if_pos c4] at H;have c4b0:decide (0≤x5_1)=true:=decide_eq_true c4;clear c4;obtain⟨y1016,hy1016⟩:∃y_:List Int,y_=(x0_1.set (x5_1:Int).toNat x1_1):=⟨_,rfl⟩
     replace H:(laws_markIntS.l0 k1 y1016 (wrap64 (x1_1+1)) (wrap64 (x5_1+1)))=some (r1,r2):=by first|(rw[hy1016];with_reducible exact H)|(have H2_:=(Option.bind_some _ _).symm.trans H;rw[hy1016];with_reducible exact H2_)|(have H2_:=(Option.bind_some _ _).symm.trans H;with_reducible exact H2_)|with_reducible exact H|(rw[hy1016];exact H)|exact H
     have Ny1016:=qaf.mk hy1016;clear hy1016;have H':=qaf.mk H;clear H;obtain⟨Ao6,co6,eo6⟩:=Kd.R_slice HO_0.out;subst eo6;have p5:0≤(x5_1:Int):=of_decide_eq_true (za10);have q5:(x5_1:Int)<((x0_1.length:Int):Int):=of_decide_eq_true (za10);obtain⟨go5,co5,eo5,gb5,gl5,cl5,HG5⟩:=Kd.R_form HO_0.out (by omega);(first|cases eo5|(injection eo5 with ea_ en_ ec_;(first|subst ea_|(injection ea_ with ea_;subst ea_));subst ec_;clear en_));have GB5:=qaf.mk gb5;have GG5:=qaf.mk HG5;clear gb5 gl5 HG5;have HMgo5:=qaf.mk (show(P0_ go5∨w.heap.size≤go5) from(HO_0.out.1 _ rfl));obtain⟨hx5_0,hf5_0⟩:=Kd.R_celln 0 HO_0.out (x5_1:Int) p5 q5;replace p5:=eq_true p5;replace q5:=eq_true q5;have HP7:=Kd.R_putg HO_0.out (x5_1:Int) x1_1
     go_wp2_with(first|((with_reducible refine gate_store (t:=3) (p:=15) rfl ?_);refine qbe (t:=3) (p:=15) (v:=?vo_w8) (w1:=(wr.setCell ⟨go5,(x5_1:Int).toNat,none⟩ (.int .i64 x1_1))) ?hg ?ho ?hn ?hr ?_;(case ho=>rfl);(case hg=>rfl);(case hn=>rfl);(case hr=>first|(go_simp;done)|(go_simp;rfl));intro w8 hw;have hg:wr.grownBy w8 (some go5):=(by rw[hw];exact HP7.2);have hp_:Kd.R (Kd.int .i64) 3 w8 w0.heap.size (fun k_=>(P0_ k_∨w.heap.size≤k_)) (.slice (some ⟨go5,0,none⟩) x0_1.length co6) y1016:=(by rw[hw,Ny1016.out];exact HP7.1);clear HP7;replace HB:=qaf.mk ((by rw[hw];exact qat (HB.out) GB5.out:Below w0.heap.size w0 w8));replace HK:=qaf.mk (Kept.of_grown (S:=(fun k_=>P0_ k_)) hg (za63 HK) (fun k_ e_=>(HO_0.out.1 k_ e_)));replace HO_0:=qaf.mk hp_;clear hg hw hp_))
     go_roundg k1
     case measure=>have:=HK1.out;omega
     case rel=>exact⟨(y1016),(wrap64 (x1_1+1)),(wrap64 (x5_1+1)),(za38),(za38),H',⟨by have:=HK1.out;omega⟩,⟨za1 HO_0⟩,⟨za63 HK⟩,⟨za2 HB⟩⟩
    ·rw[if_neg c4] at H;exact absurd H (by simp)
   ·rw[if_neg c3] at H;have c3b0:decide (x5_1<(x0_1.length:Int))=false:=decide_eq_false c3;clear c3;simp only[Option.some.injEq,Prod.mk.injEq] at H;obtain⟨rfl,rfl⟩:=H;obtain⟨Ao9,co9,eo9⟩:=Kd.R_slice HO_0.out;subst eo9;go_wp2;go_ret;exact⟨za12,za1 HO_0,za2 HB,za63 HK⟩
end Go.Proofs.Ytmbdphefnalenaa.Print
