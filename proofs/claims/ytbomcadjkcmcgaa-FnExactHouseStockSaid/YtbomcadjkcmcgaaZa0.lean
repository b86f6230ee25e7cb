-- Written by squeeze.py: not trusted, Lean checks it.
import Derived.Test.YtbomcadjkcmcgaaZK
namespace Go.Proofs.Ytbomcadjkcmcgaa.Print
open Go.RowKit Go.Proofs.YtbomcadjkcmcgaaW.PrintWords Go.Proofs.YtbomcadjkcmcgaaW.PrintLast Go.Proofs.YtbomcadjkcmcgaaW.PrintMore
attribute [local go_sem] max2_int min2_int max_two min_two max_three min_three max_four min_four
set_option linter.unusedVariables false
set_option linter.unusedSimpArgs false
def laws_szIntS.f (l0:List Int) (a1:Int):Option (Int):=if(wrap64 (a1 - (l0.length:Int)))<0 then(some (-1)) else(some (wrap64 (a1 - (l0.length:Int))))
set_option maxHeartbeats 8000000 in
set_option maxRecDepth 100000 in
theorem laws_szIntS.calls (A0:Option Addr) (c0:Nat) (l0:List Int) (a1:Int) (r:Int) (w:World) (hr0:Kd.C (Kd.int .i64) w A0 l0.length l0) (hc0:l0.length≤c0) (h:laws_szIntS.f l0 a1=some r) :
  Calls Try.prog 58 #[.slice A0 l0.length c0,.int .i64 a1] w fun e w'=>e=.returned (.int .i64 r)∧Drawn0 w w':=by
 have HR0:=qah.mk hr0;have HC0:=qah.mk hc0;clear hr0 hc0;have H:(if(wrap64 (a1 - (l0.length:Int)))<0 then(some (-1)) else(some (wrap64 (a1 - (l0.length:Int)))))=some r:=h;clear h;by_cases c3:(wrap64 (a1 - (l0.length:Int)))<0
 ·rw[if_pos c3] at H;have c3b0:decide ((wrap64 (a1 - (l0.length:Int)))<0)=true:=decide_eq_true c3;clear c3;obtain rfl:=Option.some.inj H;go_enter Try.func58,Try.ntmps58;go_wp2;go_ret;exact⟨za11,za14⟩
 ·rw[if_neg c3] at H;have c3b0:decide ((wrap64 (a1 - (l0.length:Int)))<0)=false:=decide_eq_false c3;clear c3;obtain rfl:=Option.some.inj H;go_enter Try.func58,Try.ntmps58;go_wp2;go_ret;exact⟨za11,za14⟩
def laws_szRec.f (a0_0:Int) (a0_1:Int) (l0_2:List Int) (a1:Int):Option (Int):=(laws_szIntS.f l0_2 a1).bind fun t102=>(if t102<0 then(some (-1)) else(some t102))
set_option maxHeartbeats 8000000 in
set_option maxRecDepth 100000 in
theorem laws_szRec.calls (a0_0:Int) (a0_1:Int) (A0_2:Option Addr) (c0_2:Nat) (l0_2:List Int) (a1:Int) (r:Int) (w:World) (hr0_2:Kd.C (Kd.int .i64) w A0_2 l0_2.length l0_2) (hc0_2:l0_2.length≤c0_2) (h:laws_szRec.f a0_0 a0_1 l0_2 a1=some r) :
  Calls Try.prog 47 #[.agg #[.int .i64 a0_0,.int .i64 a0_1,.slice A0_2 l0_2.length c0_2],.int .i64 a1] w fun e w'=>e=.returned (.int .i64 r)∧Below w.heap.size w w':=by
 have hu75:=Try.underlying75;have HR0_2:=qah.mk hr0_2;have HC0_2:=qah.mk hc0_2;clear hr0_2 hc0_2;have HB:=qah.mk (Below.refl w.heap.size w);have H:((laws_szIntS.f l0_2 a1).bind fun t102=>(if t102<0 then(some (-1)) else(some t102)))=some r:=h;clear h;replace H:=Option.bind_eq_some_iff.mp H;obtain⟨t102,A30,H⟩:=H;replace H:(if t102<0 then(some (-1)) else(some t102))=some r:=H;have A3:=qah.mk A30;clear A30;by_cases c4:t102<0
 ·rw[if_pos c4] at H;have c4b0:decide (t102<0)=true:=decide_eq_true c4;clear c4;obtain rfl:=Option.some.inj H;go_enter Try.func47,Try.ntmps47
  go_wp2_with(first|((with_reducible refine qag (N:=2) rfl ?_);refine zX (N:=2) (cs:=#[.int .i64 a0_0,.int .i64 a0_1,.slice A0_2 l0_2.length c0_2]) (t:=75) ?_;intro gb101 hg w5 hbox hb;have BK101:=qah.mk hbox;have GW101:=zH (w:=w) hg (za1 HB);have GE101:=GW101;replace HB:=qah.mk (qaa (za1 HB) hb);clear hb hbox hg;obtain⟨hcz6_0,hcz6_1,hcz6_2,hfz6_0,hfz6_1,hfz6_2⟩:=zC3 BK101)|((with_reducible refine qaf (f:=58) rfl ?_);refine zF (some 8) Try.func58 #[.slice A0_2 l0_2.length c0_2,.int .i64 a1] ?_;(with_reducible refine(laws_szIntS.calls _ _ l0_2 a1 t102 _ ?side1 ?side2 A3.out).mono ?_);(case side1=>exact zR HR0_2 HB);(case side2=>exact HC0_2.out);rintro e w' ⟨rfl,⟨nd,rfl⟩⟩;refine⟨_,rfl,?_⟩))
  go_ret;exact⟨za8,za0 HB GE101⟩
 ·rw[if_neg c4] at H;have c4b0:decide (t102<0)=false:=decide_eq_false c4;clear c4;obtain rfl:=Option.some.inj H;go_enter Try.func47,Try.ntmps47
  go_wp2_with(first|((with_reducible refine qag (N:=2) rfl ?_);refine zX (N:=2) (cs:=#[.int .i64 a0_0,.int .i64 a0_1,.slice A0_2 l0_2.length c0_2]) (t:=75) ?_;intro gb101 hg w7 hbox hb;have BK101:=qah.mk hbox;have GW101:=zH (w:=w) hg (za1 HB);have GE101:=GW101;replace HB:=qah.mk (qaa (za1 HB) hb);clear hb hbox hg;obtain⟨hcz8_0,hcz8_1,hcz8_2,hfz8_0,hfz8_1,hfz8_2⟩:=zC3 BK101)|((with_reducible refine qaf (f:=58) rfl ?_);refine zF (some 8) Try.func58 #[.slice A0_2 l0_2.length c0_2,.int .i64 a1] ?_;(with_reducible refine(laws_szIntS.calls _ _ l0_2 a1 t102 _ ?side1 ?side2 A3.out).mono ?_);(case side1=>exact zR HR0_2 HB);(case side2=>exact HC0_2.out);rintro e w' ⟨rfl,⟨nd,rfl⟩⟩;refine⟨_,rfl,?_⟩))
  go_ret;exact⟨za8,za0 HB GE101⟩
def laws_szRecS.l0:Nat→List (S75)→Int→Int→Option (Int)
 |0,_,_,_=>none
 |k+1,x0,x1,x5=>if x5<(x0.length:Int) then(if 0≤x5 then((laws_szRec.f ((rd_T75 x0 x5).f0) ((rd_T75 x0 x5).f1) ((rd_T75 x0 x5).f2) x1).bind fun t104=>(if t104<0 then(some (-1)) else(laws_szRecS.l0 k x0 t104 (wrap64 (x5+1))))) else(none)) else(some x1)
def laws_szRecS.f (k:Nat) (l0:List (S75)) (a1:Int):Option (Int):=if(wrap64 (a1 - (l0.length:Int)))<0 then(some (-1)) else(laws_szRecS.l0 k l0 (wrap64 (a1 - (l0.length:Int))) 0)
theorem laws_szRecS.mono_l:∀k,(∀y0 y1 y2,LeO (laws_szRecS.l0 k y0 y1 y2) (laws_szRecS.l0 (k+1) y0 y1 y2))
 |0=>fun _ _ _ r h=>by simp[laws_szRecS.l0] at h
 |k+1=>by
  have ih0:=laws_szRecS.mono_l k
  ·intro y0 y1 y2;unfold laws_szRecS.l0
   repeat' first|(with_reducible exact ih0 _ _ _)|(with_reducible exact LeO.refl _)|(with_reducible exact LeO.none _)|(with_reducible refine LeO.ite ?_ ?_)|(with_reducible refine LeO.bind ?_ (fun _=>?_))|exact ih0 _ _ _|exact LeO.none _|refine LeO.ite ?_ ?_|refine LeO.bind ?_ (fun _=>?_)
theorem laws_szRecS.mono:∀a0 a1 k,LeO (laws_szRecS.f k a0 a1) (laws_szRecS.f (k+1) a0 a1):=by
 intro a0 a1 k;have ih0:=laws_szRecS.mono_l k;unfold laws_szRecS.f
 repeat' first|(with_reducible exact ih0 _ _ _)|(with_reducible exact LeO.refl _)|(with_reducible exact LeO.none _)|(with_reducible refine LeO.ite ?_ ?_)|(with_reducible refine LeO.bind ?_ (fun _=>?_))|exact ih0 _ _ _|exact LeO.none _|refine LeO.ite ?_ ?_|refine LeO.bind ?_ (fun _=>?_)
set_option maxHeartbeats 8000000 in
set_option maxRecDepth 100000 in
theorem laws_szRecS.calls (k:Nat) (A0:Option Addr) (c0:Nat) (l0:List (S75)) (a1:Int) (r:Int) (w:World) (hr0:Kd.C k75 w A0 l0.length l0) (hc0:l0.length≤c0) (h:laws_szRecS.f k l0 a1=some r) :
  Calls Try.prog 31 #[.slice A0 l0.length c0,.int .i64 a1] w fun e w'=>e=.returned (.int .i64 r)∧Below w.heap.size w w':=by
 have hu75:=Try.underlying75;have HR0:=qah.mk hr0;have HC0:=qah.mk hc0;clear hr0 hc0;have HB:=qah.mk (Below.refl w.heap.size w);have H:(if(wrap64 (a1 - (l0.length:Int)))<0 then(some (-1)) else(laws_szRecS.l0 k l0 (wrap64 (a1 - (l0.length:Int))) 0))=some r:=h;clear h;by_cases c3:(wrap64 (a1 - (l0.length:Int)))<0
 ·rw[if_pos c3] at H;have c3b0:decide ((wrap64 (a1 - (l0.length:Int)))<0)=true:=decide_eq_true c3;clear c3;obtain rfl:=Option.some.inj H;go_enter Try.func31,Try.ntmps31;go_wp2;go_ret;exact⟨za8,za1 HB⟩
 ·rw[if_neg c3] at H;have c3b0:decide ((wrap64 (a1 - (l0.length:Int)))<0)=false:=decide_eq_false c3;clear c3;have H':=qah.mk H;clear H;go_enter Try.func31,Try.ntmps31;go_wp2
  go_loopg [1,5] k (fun kq v1 v5 w'=>∃(x1_1:Int) (x5_1:Int),v1=.int .i64 x1_1∧v5=.int .i64 x5_1∧qah (laws_szRecS.l0 kq l0 x1_1 x5_1=some r)∧qah (kq≤k)∧qah (Below w.heap.size w w'))
  case atStart=>exact⟨(wrap64 (a1 - (l0.length:Int))),(0),(za11),(za11),H',⟨Nat.le_refl _⟩,⟨za1 HB⟩⟩
  case round=>
   clear H'
   try clear p2
   try clear c3
   try clear c3b0
   obtain⟨x1_1,x5_1,rfl,rfl,HA,HK1,HB⟩:=hrel
   cases gk with
   |zero=>exact absurd HA.out (by simp[laws_szRecS.l0])
   |succ k1=>
    have H:=HA.out;clear HA;simp only[laws_szRecS.l0] at H;by_cases c4:x5_1<(l0.length:Int)
    ·rw[if_pos c4] at H;have c4b0:decide (x5_1<(l0.length:Int))=true:=decide_eq_true c4;clear c4;by_cases c5:0≤x5_1
     ·rw[if_pos c5] at H;have c5b0:decide (0≤x5_1)=true:=decide_eq_true c5;clear c5;replace H:=Option.bind_eq_some_iff.mp H;obtain⟨t104,A60,H⟩:=H;replace H:(if t104<0 then(some (-1)) else(laws_szRecS.l0 k1 l0 t104 (wrap64 (x5_1+1))))=some r:=H;have A6:=qah.mk A60;clear A60;by_cases c7:t104<0
      ·rw[if_pos c7] at H;have c7b0:decide (t104<0)=true:=decide_eq_true c7;clear c7;obtain rfl:=Option.some.inj H;have p103:0≤(x5_1:Int):=of_decide_eq_true (za7);have q103:x5_1<(l0.length:Int):=of_decide_eq_true (za7);obtain⟨ad103,A103_2,c103_2,e103,hx103_0,hx103_1,hx103_2,hl103_2,hi103_2⟩:=at_T75 HR0.out x5_1 p103 q103
       cases e103
       have hxo103_2:=qah.mk hx103_2;replace hx103_0:=(HB.out.cell (World.block_lt_of_cell? w _ hx103_0)).trans hx103_0;replace hx103_1:=(HB.out.cell (World.block_lt_of_cell? w _ hx103_1)).trans hx103_1;replace hx103_2:=(HB.out.cell (World.block_lt_of_cell? w _ hx103_2)).trans hx103_2;have HR103_2:=qah.mk hi103_2;have HC103_2:=qah.mk hl103_2;clear hi103_2 hl103_2;replace p103:=eq_true p103;replace q103:=eq_true q103
       go_wp2_with(first|((with_reducible refine qaf (f:=47) rfl ?_);refine zF (some 23) Try.func47 #[.agg #[.int .i64 ((rd_T75 l0 x5_1).f0),.int .i64 ((rd_T75 l0 x5_1).f1),.slice A103_2 ((rd_T75 l0 x5_1).f2).length c103_2],.int .i64 x1_1] ?_;(with_reducible refine(laws_szRec.calls ((rd_T75 l0 x5_1).f0) ((rd_T75 l0 x5_1).f1) _ _ ((rd_T75 l0 x5_1).f2) x1_1 t104 _ ?side1 ?side2 A6.out).mono ?_);(case side1=>exact zR HR103_2 HB);(case side2=>exact HC103_2.out);rintro e w8 ⟨rfl,hb⟩;refine⟨_,rfl,?_⟩;replace HB:=qah.mk (qaa (za1 HB) hb);(try clear hb)))
       go_ret;exact⟨za8,za1 HB⟩
      ·rw[if_neg c7] at H;have c7b0:decide (t104<0)=false:=decide_eq_false c7;clear c7;have H':=qah.mk H;clear H;have p103:0≤(x5_1:Int):=of_decide_eq_true (za7);have q103:x5_1<(l0.length:Int):=of_decide_eq_true (za7);obtain⟨ad103,A103_2,c103_2,e103,hx103_0,hx103_1,hx103_2,hl103_2,hi103_2⟩:=at_T75 HR0.out x5_1 p103 q103
       cases e103
       have hxo103_2:=qah.mk hx103_2;replace hx103_0:=(HB.out.cell (World.block_lt_of_cell? w _ hx103_0)).trans hx103_0;replace hx103_1:=(HB.out.cell (World.block_lt_of_cell? w _ hx103_1)).trans hx103_1;replace hx103_2:=(HB.out.cell (World.block_lt_of_cell? w _ hx103_2)).trans hx103_2;have HR103_2:=qah.mk hi103_2;have HC103_2:=qah.mk hl103_2;clear hi103_2 hl103_2;replace p103:=eq_true p103;replace q103:=eq_true q103
       go_wp2_with(first|((with_reducible refine qaf (f:=47) rfl ?_);refine zF (some 23) Try.func47 #[.agg #[.int .i64 ((rd_T75 l0 x5_1).f0),.int .i64 ((rd_T75 l0 x5_1).f1),.slice A103_2 ((rd_T75 l0 x5_1).f2).length c103_2],.int .i64 x1_1] ?_;(with_reducible refine(laws_szRec.calls ((rd_T75 l0 x5_1).f0) ((rd_T75 l0 x5_1).f1) _ _ ((rd_T75 l0 x5_1).f2) x1_1 t104 _ ?side1 ?side2 A6.out).mono ?_);(case side1=>exact zR HR103_2 HB);(case side2=>exact HC103_2.out);rintro e w9 ⟨rfl,hb⟩;refine⟨_,rfl,?_⟩;replace HB:=qah.mk (qaa (za1 HB) hb);(try clear hb)))
       go_roundg k1
       case measure=>have:=HK1.out;omega
       case rel=>exact⟨(t104),(wrap64 (x5_1+1)),(za11),(za11),H',⟨by have:=HK1.out;omega⟩,⟨za1 HB⟩⟩
     ·rw[if_neg c5] at H;exact absurd H (by simp)
    ·rw[if_neg c4] at H;have c4b0:decide (x5_1<(l0.length:Int))=false:=decide_eq_false c4;clear c4;obtain rfl:=Option.some.inj H;go_wp2;go_ret;exact⟨za8,za1 HB⟩
def laws_szLog.f (k:Nat) (l0_0:List (S75)) (a0_1:Int) (a1:Int):Option (Int):=(laws_szRecS.f k l0_0 a1).bind fun t106=>(if t106<0 then(some (-1)) else(some t106))
theorem laws_szLog.mono:∀a0 a1 a2 k,LeO (laws_szLog.f k a0 a1 a2) (laws_szLog.f (k+1) a0 a1 a2):=by
 intro a0 a1 a2 k;unfold laws_szLog.f
 repeat' first|(with_reducible exact laws_szRecS.mono _ _ _)|(with_reducible exact LeO.refl _)|(with_reducible exact LeO.none _)|(with_reducible refine LeO.ite ?_ ?_)|(with_reducible refine LeO.bind ?_ (fun _=>?_))|exact laws_szRecS.mono _ _ _|exact LeO.none _|refine LeO.ite ?_ ?_|refine LeO.bind ?_ (fun _=>?_)
set_option maxHeartbeats 8000000 in
set_option maxRecDepth 100000 in
theorem laws_szLog.calls (k:Nat) (A0_0:Option Addr) (c0_0:Nat) (l0_0:List (S75)) (a0_1:Int) (a1:Int) (r:Int) (w:World) (hr0_0:Kd.C k75 w A0_0 l0_0.length l0_0) (hc0_0:l0_0.length≤c0_0) (h:laws_szLog.f k l0_0 a0_1 a1=some r) :
  Calls Try.prog 16 #[.agg #[.slice A0_0 l0_0.length c0_0,.int .i64 a0_1],.int .i64 a1] w fun e w'=>e=.returned (.int .i64 r)∧Below w.heap.size w w':=by
 have hu24:=Try.underlying24;have HR0_0:=qah.mk hr0_0;have HC0_0:=qah.mk hc0_0;clear hr0_0 hc0_0;have HB:=qah.mk (Below.refl w.heap.size w);have H:((laws_szRecS.f k l0_0 a1).bind fun t106=>(if t106<0 then(some (-1)) else(some t106)))=some r:=h;clear h;replace H:=Option.bind_eq_some_iff.mp H;obtain⟨t106,A30,H⟩:=H;replace H:(if t106<0 then(some (-1)) else(some t106))=some r:=H;have A3:=qah.mk A30;clear A30;by_cases c4:t106<0
 ·rw[if_pos c4] at H;have c4b0:decide (t106<0)=true:=decide_eq_true c4;clear c4;obtain rfl:=Option.some.inj H;go_enter Try.func16,Try.ntmps16
  go_wp2_with(first|((with_reducible refine qag (N:=2) rfl ?_);refine zX (N:=2) (cs:=#[.slice A0_0 l0_0.length c0_0,.int .i64 a0_1]) (t:=24) ?_;intro gb105 hg w5 hbox hb;have BK105:=qah.mk hbox;have GW105:=zH (w:=w) hg (za1 HB);have GE105:=GW105;replace HB:=qah.mk (qaa (za1 HB) hb);clear hb hbox hg;obtain⟨hcz6_0,hcz6_1,hfz6_0,hfz6_1⟩:=zC2 BK105)|((with_reducible refine qaf (f:=31) rfl ?_);refine zF (some 8) Try.func31 #[.slice A0_0 l0_0.length c0_0,.int .i64 a1] ?_;(with_reducible refine(laws_szRecS.calls k _ _ l0_0 a1 t106 _ ?side1 ?side2 A3.out).mono ?_);(case side1=>exact zR HR0_0 HB);(case side2=>exact HC0_0.out);rintro e w7 ⟨rfl,hb⟩;refine⟨_,rfl,?_⟩;replace BK105:=zY BK105 hb;replace HB:=qah.mk (qaa (za0 HB GE105) hb);(try clear hb)))
  go_ret;exact⟨za8,za0 HB GE105⟩
 ·rw[if_neg c4] at H;have c4b0:decide (t106<0)=false:=decide_eq_false c4;clear c4;obtain rfl:=Option.some.inj H;go_enter Try.func16,Try.ntmps16
  go_wp2_with(first|((with_reducible refine qag (N:=2) rfl ?_);refine zX (N:=2) (cs:=#[.slice A0_0 l0_0.length c0_0,.int .i64 a0_1]) (t:=24) ?_;intro gb105 hg w8 hbox hb;have BK105:=qah.mk hbox;have GW105:=zH (w:=w) hg (za1 HB);have GE105:=GW105;replace HB:=qah.mk (qaa (za1 HB) hb);clear hb hbox hg;obtain⟨hcz9_0,hcz9_1,hfz9_0,hfz9_1⟩:=zC2 BK105)|((with_reducible refine qaf (f:=31) rfl ?_);refine zF (some 8) Try.func31 #[.slice A0_0 l0_0.length c0_0,.int .i64 a1] ?_;(with_reducible refine(laws_szRecS.calls k _ _ l0_0 a1 t106 _ ?side1 ?side2 A3.out).mono ?_);(case side1=>exact zR HR0_0 HB);(case side2=>exact HC0_0.out);rintro e w10 ⟨rfl,hb⟩;refine⟨_,rfl,?_⟩;replace BK105:=zY BK105 hb;replace HB:=qah.mk (qaa (za0 HB GE105) hb);(try clear hb)))
  go_ret;exact⟨za8,za0 HB GE105⟩
def laws_szHouse.f (k:Nat) (a0_0:Int) (a0_1:Bool) (a0_2:Int) (l0_3:List (S75)) (a0_4:Int) (a1:Int):Option (Int):=(laws_szLog.f k l0_3 a0_4 a1).bind fun t108=>(if t108<0 then(some (-1)) else(some t108))
theorem laws_szHouse.mono:∀a0 a1 a2 a3 a4 a5 k,LeO (laws_szHouse.f k a0 a1 a2 a3 a4 a5) (laws_szHouse.f (k+1) a0 a1 a2 a3 a4 a5):=by
 intro a0 a1 a2 a3 a4 a5 k;unfold laws_szHouse.f
 repeat' first|(with_reducible exact laws_szLog.mono _ _ _ _)|(with_reducible exact LeO.refl _)|(with_reducible exact LeO.none _)|(with_reducible refine LeO.ite ?_ ?_)|(with_reducible refine LeO.bind ?_ (fun _=>?_))|exact laws_szLog.mono _ _ _ _|exact LeO.none _|refine LeO.ite ?_ ?_|refine LeO.bind ?_ (fun _=>?_)
set_option maxHeartbeats 8000000 in
set_option maxRecDepth 100000 in
theorem laws_szHouse.calls (k:Nat) (a0_0:Int) (a0_1:Bool) (a0_2:Int) (A0_3:Option Addr) (c0_3:Nat) (l0_3:List (S75)) (a0_4:Int) (a1:Int) (r:Int) (w:World) (hr0_3:Kd.C k75 w A0_3 l0_3.length l0_3) (hc0_3:l0_3.length≤c0_3) (h:laws_szHouse.f k a0_0 a0_1 a0_2 l0_3 a0_4 a1=some r) :
  Calls Try.prog 5 #[.agg #[.int .i64 a0_0,.bool a0_1,.int .i64 a0_2,.slice A0_3 l0_3.length c0_3,.int .i64 a0_4],.int .i64 a1] w fun e w'=>e=.returned (.int .i64 r)∧Below w.heap.size w w':=by
 have hu26:=Try.underlying26;have hu24:=Try.underlying24;have HR0_3:=qah.mk hr0_3;have HC0_3:=qah.mk hc0_3;clear hr0_3 hc0_3;have HB:=qah.mk (Below.refl w.heap.size w);have H:((laws_szLog.f k l0_3 a0_4 a1).bind fun t108=>(if t108<0 then(some (-1)) else(some t108)))=some r:=h;clear h;replace H:=Option.bind_eq_some_iff.mp H;obtain⟨t108,A30,H⟩:=H;replace H:(if t108<0 then(some (-1)) else(some t108))=some r:=H;have A3:=qah.mk A30;clear A30;by_cases c4:t108<0
 ·rw[if_pos c4] at H;have c4b0:decide (t108<0)=true:=decide_eq_true c4;clear c4;obtain rfl:=Option.some.inj H;go_enter Try.func5,Try.ntmps5
  go_wp2_with(first|((with_reducible refine qag (N:=2) rfl ?_);refine zX (N:=2) (cs:=#[.int .i64 a0_0,.bool a0_1,.int .i64 a0_2,.slice A0_3 l0_3.length c0_3,.int .i64 a0_4]) (t:=26) ?_;intro gb107 hg w5 hbox hb;have BK107:=qah.mk hbox;have GW107:=zH (w:=w) hg (za1 HB);have GE107:=GW107;replace HB:=qah.mk (qaa (za1 HB) hb);clear hb hbox hg;obtain⟨hcz6_0,hcz6_1,hcz6_2,hcz6_3,hcz6_4,hfz6_0,hfz6_1,hfz6_2,hfz6_3,hfz6_4⟩:=zC5 BK107)|((with_reducible refine qaf (f:=16) rfl ?_);refine zF (some 8) Try.func16 #[.agg #[.slice A0_3 l0_3.length c0_3,.int .i64 a0_4],.int .i64 a1] ?_;(with_reducible refine(laws_szLog.calls k _ _ l0_3 a0_4 a1 t108 _ ?side1 ?side2 A3.out).mono ?_);(case side1=>exact zR HR0_3 HB);(case side2=>exact HC0_3.out);rintro e w7 ⟨rfl,hb⟩;refine⟨_,rfl,?_⟩;replace BK107:=zY BK107 hb;replace HB:=qah.mk (qaa (za0 HB GE107) hb);(try clear hb)))
  go_ret;exact⟨za8,za0 HB GE107⟩
 ·rw[if_neg c4] at H;have c4b0:decide (t108<0)=false:=decide_eq_false c4;clear c4;obtain rfl:=Option.some.inj H;go_enter Try.func5,Try.ntmps5
  go_wp2_with(first|((with_reducible refine qag (N:=2) rfl ?_);refine zX (N:=2) (cs:=#[.int .i64 a0_0,.bool a0_1,.int .i64 a0_2,.slice A0_3 l0_3.length c0_3,.int .i64 a0_4]) (t:=26) ?_;intro gb107 hg w8 hbox hb;have BK107:=qah.mk hbox;have GW107:=zH (w:=w) hg (za1 HB);have GE107:=GW107;replace HB:=qah.mk (qaa (za1 HB) hb);clear hb hbox hg;obtain⟨hcz9_0,hcz9_1,hcz9_2,hcz9_3,hcz9_4,hfz9_0,hfz9_1,hfz9_2,hfz9_3,hfz9_4⟩:=zC5 BK107)|((with_reducible refine qaf (f:=16) rfl ?_);refine zF (some 8) Try.func16 #[.agg #[.slice A0_3 l0_3.length c0_3,.int .i64 a0_4],.int .i64 a1] ?_;(with_reducible refine(laws_szLog.calls k _ _ l0_3 a0_4 a1 t108 _ ?side1 ?side2 A3.out).mono ?_);(case side1=>exact zR HR0_3 HB);(case side2=>exact HC0_3.out);rintro e w10 ⟨rfl,hb⟩;refine⟨_,rfl,?_⟩;replace BK107:=zY BK107 hb;replace HB:=qah.mk (qaa (za0 HB GE107) hb);(try clear hb)))
  go_ret;exact⟨za8,za0 HB GE107⟩
def spec_l6In.f (a0:Int) (a1:Int) (a2:Int):Option (Bool):=if a0≥a1 then(some (decide (a0≤a2))) else(some false)
set_option maxHeartbeats 8000000 in
set_option maxRecDepth 100000 in
theorem spec_l6In.calls (a0:Int) (a1:Int) (a2:Int) (r:Bool) (w:World) (h:spec_l6In.f a0 a1 a2=some r) :
  Calls Try.prog 18 #[.int .i64 a0,.int .i64 a1,.int .i64 a2] w fun e w'=>e=.returned (.bool r)∧Drawn0 w w':=by
 have H:(if a0≥a1 then(some (decide (a0≤a2))) else(some false))=some r:=h;clear h;by_cases c4:a0≥a1
 ·rw[if_pos c4] at H;have c4b0:decide (a1≤a0)=true:=decide_eq_true c4;clear c4;obtain rfl:=Option.some.inj H;go_enter Try.func18,Try.ntmps18;go_wp2;go_ret;exact⟨za11,za14⟩
 ·rw[if_neg c4] at H;have c4b0:decide (a1≤a0)=false:=decide_eq_false c4;clear c4;obtain rfl:=Option.some.inj H;go_enter Try.func18,Try.ntmps18;go_wp2;go_ret;exact⟨za11,za14⟩
def spec_StockNew.f (a0:Int):Option (Int × (List (S72)) × Bool):=(spec_l6In.f a0 0 9).bind fun t110=>(if t110=true then(if 6≤17592186044416 then(some (a0,(List.replicate 6 z72),true)) else(none)) else(some (0,([]:List (S72)),false)))
set_option maxHeartbeats 8000000 in
set_option maxRecDepth 100000 in
theorem spec_StockNew.calls (a0:Int) (r1:Int) (r2:List (S72)) (r3:Bool) (w:World) (h:spec_StockNew.f a0=some (r1,r2,r3)) :
  Calls Try.prog 32 #[.int .i64 a0] w fun e w'=>∃v1_:Value,e=.returned (.tuple #[.agg #[.int .i64 r1,v1_],.bool r3])∧Kd.R k72 72 w' w.heap.size (fun _=>True) v1_ r2∧Below w.heap.size w w':=by
 have hu39:=Try.underlying39;have HB:=qah.mk (Below.refl w.heap.size w);have H:((spec_l6In.f a0 0 9).bind fun t110=>(if t110=true then(if 6≤17592186044416 then(some (a0,(List.replicate 6 z72),true)) else(none)) else(some (0,([]:List (S72)),false))))=some (r1,r2,r3):=h;clear h;replace H:=Option.bind_eq_some_iff.mp H;obtain⟨t110,A20,H⟩:=H;replace H:(if t110=true then(if 6≤17592186044416 then(some (a0,(List.replicate 6 z72),true)) else(none)) else(some (0,([]:List (S72)),false)))=some (r1,r2,r3):=H;have A2:=qah.mk A20;clear A20;by_cases c3:t110=true
 ·subst c3
  have H1:(if 6≤17592186044416 then(some (a0,(List.replicate 6 z72),true)) else(none))=some (r1,r2,r3):=by rw[if_pos rfl] at H;exact H
  clear H;have H:=H1;clear H1;by_cases c4:6≤17592186044416
  ·rw[if_pos c4] at H;have c4b0:=eq_true c4;have c4b1:decide (6≤17592186044416)=true:=decide_eq_true c4;clear c4;obtain⟨y111,hy111⟩:∃y_:List (S72),y_=(List.replicate 6 z72):=⟨_,rfl⟩
   replace H:(some (a0,y111,true))=some (r1,r2,r3):=by first|(rw[hy111];with_reducible exact H)|(have H2_:=(Option.bind_some _ _).symm.trans H;rw[hy111];with_reducible exact H2_)|(have H2_:=(Option.bind_some _ _).symm.trans H;with_reducible exact H2_)|with_reducible exact H|(rw[hy111];exact H)|exact H
   have Ny111:=qah.mk hy111;clear hy111;simp only[Option.some.injEq,Prod.mk.injEq] at H;obtain⟨rfl,rfl,rfl⟩:=H;go_enter Try.func32,Try.ntmps32
   go_wp2_with(first|((with_reducible refine qag (N:=2) rfl ?_);refine zX (N:=2) (cs:=#[.int .i64 0,.slice none 0 0]) (t:=39) ?_;intro gb109 hg w5 hbox hb;have BK109:=qah.mk hbox;have GW109:=zH (w:=w) hg (za1 HB);have GE109:=GW109;replace HB:=qah.mk (qaa (za1 HB) hb);clear hb hbox hg)|((with_reducible refine qaf (f:=18) rfl ?_);refine zF (some 5) Try.func18 #[.int .i64 a0,.int .i64 0,.int .i64 9] ?_;(with_reducible refine(spec_l6In.calls a0 0 9 true _ A2.out).mono ?_);rintro e w' ⟨rfl,⟨nd,rfl⟩⟩;refine⟨_,rfl,?_⟩;(try(rw[drewN_self w5];generalize hq_:World.drewN w5 _=w5;replace BK109:qah (w5.heap[gb109]?=some (.cells #[.int .i64 0,.slice none 0 0] 39 (0,0))):=⟨by rw[←hq_];exact(zB BK109)⟩;replace HB:qah (Below w.heap.size w w5):=⟨by rw[←hq_];exact(za0 HB GE109)⟩;clear hq_;have hczugb109_0:w5.cell? ⟨gb109,0,none⟩=some _:=(qab BK109.out 0).trans rfl;have hfzugb109_0:=blk_frozen BK109.out 0;have hczugb109_1:w5.cell? ⟨gb109,1,none⟩=some _:=(qab BK109.out 1).trans rfl;have hfzugb109_1:=blk_frozen BK109.out 1)))|((with_reducible refine qag (N:=9) rfl ?_);refine Kd.R_make k72 _ 72 rfl (N:=9) rfl 37 _ _ rfl 6 rfl rfl Try.underlying37 (.agg #[(.int .i64 0),(.int .i64 0)]) 16 info72 rfl (by decide) (by omega) z72 (ok:=fun _=>True) (okp:=fun _=>True) (k72_mkM _ _ _ z72 ) (fun _ hk=>hk) trivial (by omega) (by omega) (Below.refl _ _) (Nat.le_refl _) ?_;intro v112 w6 ho7 hb hg_ hnew_;clear hg_ hnew_;(first|rw[←Ny111.out] at ho7|(simp only[Int.reduceToNat] at ho7;rw[←Ny111.out] at ho7));have HO113:=qah.mk (Kd.R_lower ho7 (qam (za0 HB GE109)));replace BK109:=zY BK109 hb;replace HB:=qah.mk (qaa (za0 HB GE109) hb);clear hb ho7;obtain⟨Ao8,co8,eo8⟩:=Kd.R_slice HO113.out;subst eo8;obtain⟨hcz9_0,hcz9_1,hfz9_0,hfz9_1⟩:=zC2 BK109))
   refine bodyPost_ret (results_ct rfl _ _ gb109 39 #[.int .i64 a0,.slice Ao8 y111.length co8] (0,0) _ rfl (by(with_reducible repeat(first|refine qae ?_ _|refine qac ?_|refine qad ?_ _));refine qai (cs:=#[.int .i64 a0,.slice none 0 0]) ?_ 1 _ rfl;(with_reducible repeat(first|refine qae ?_ _|refine qac ?_|refine qad ?_ _));refine qai (cs:=#[.int .i64 0,.slice none 0 0]) ?_ 0 _ rfl;(with_reducible repeat(first|refine qae ?_ _|refine qac ?_|refine qad ?_ _));exact BK109.out) Try.underlying39 rfl (by kernel_rfl)) rfl ?_;exact⟨_,za8,by(with_reducible repeat(first|apply Kd.R_alloc|apply Kd.R_drewN|apply Kd.R_drew));exact Kd.R_mono (Kd.R_far (p:=⟨gb109,1,none⟩) (Kd.R_far (p:=⟨gb109,0,none⟩) (Kd.R_types HO113.out BK109.out (by decide)) (fun _ hk=>hk.2) (.int .i64 a0)) (fun _ hk=>hk.2) (.slice Ao8 y111.length co8)) (fun _ hk=>trivial),za0 HB GE109⟩
  ·rw[if_neg c4] at H;exact absurd H (by simp)
 ·replace c3:=Bool.eq_false_iff.mpr c3;subst c3
  have H1:(some (0,([]:List (S72)),false))=some (r1,r2,r3):=by rw[if_neg (show ¬(false=true) by decide)] at H;exact H
  clear H;have H:=H1;clear H1;simp only[Option.some.injEq,Prod.mk.injEq] at H;obtain⟨rfl,rfl,rfl⟩:=H;go_enter Try.func32,Try.ntmps32
  go_wp2_with(first|((with_reducible refine qag (N:=2) rfl ?_);refine zX (N:=2) (cs:=#[.int .i64 0,.slice none 0 0]) (t:=39) ?_;intro gb109 hg w10 hbox hb;have BK109:=qah.mk hbox;have GW109:=zH (w:=w) hg (za1 HB);have GE109:=GW109;replace HB:=qah.mk (qaa (za1 HB) hb);clear hb hbox hg)|((with_reducible refine qaf (f:=18) rfl ?_);refine zF (some 5) Try.func18 #[.int .i64 a0,.int .i64 0,.int .i64 9] ?_;(with_reducible refine(spec_l6In.calls a0 0 9 false _ A2.out).mono ?_);rintro e w' ⟨rfl,⟨nd,rfl⟩⟩;refine⟨_,rfl,?_⟩;(try(rw[drewN_self w10];generalize hq_:World.drewN w10 _=w10;replace BK109:qah (w10.heap[gb109]?=some (.cells #[.int .i64 0,.slice none 0 0] 39 (0,0))):=⟨by rw[←hq_];exact(zB BK109)⟩;replace HB:qah (Below w.heap.size w w10):=⟨by rw[←hq_];exact(za0 HB GE109)⟩;clear hq_;have hczugb109_0:w10.cell? ⟨gb109,0,none⟩=some _:=(qab BK109.out 0).trans rfl;have hfzugb109_0:=blk_frozen BK109.out 0;have hczugb109_1:w10.cell? ⟨gb109,1,none⟩=some _:=(qab BK109.out 1).trans rfl;have hfzugb109_1:=blk_frozen BK109.out 1));obtain⟨hcz11_0,hcz11_1,hfz11_0,hfz11_1⟩:=zC2 BK109))
  refine bodyPost_ret (results_ct rfl _ _ gb109 39 #[.int .i64 0,.slice none 0 0] (0,0) _ rfl (by(with_reducible repeat(first|refine qae ?_ _|refine qac ?_|refine qad ?_ _));refine qai (cs:=#[.int .i64 0,.slice none 0 0]) ?_ 1 _ rfl;(with_reducible repeat(first|refine qae ?_ _|refine qac ?_|refine qad ?_ _));refine qai (cs:=#[.int .i64 0,.slice none 0 0]) ?_ 0 _ rfl;(with_reducible repeat(first|refine qae ?_ _|refine qac ?_|refine qad ?_ _));exact BK109.out) Try.underlying39 rfl (by kernel_rfl)) rfl ?_;exact⟨_,za8,za16,za0 HB GE109⟩
def spec_l1Many.l0:Nat→List Int→Int→Int→Option (Bool)
 |0,_,_,_=>none
 |k+1,x0,x3,x4=>if x4<(x0.length:Int) then(if 0≤x4 then((spec_l6In.f (rd x0 x4) 0 3).bind fun t115=>(if t115=true then(spec_l1Many.l0 k x0 (wrap64 (x3+(rd x0 x4))) (wrap64 (x4+1))) else(some false))) else(none)) else(if(x0.length:Int)=3 then(some (decide (x3>0))) else(some false))
def spec_l1Many.f (k:Nat) (l0:List Int):Option (Bool):=spec_l1Many.l0 k l0 0 0
theorem spec_l1Many.mono_l:∀k,(∀y0 y1 y2,LeO (spec_l1Many.l0 k y0 y1 y2) (spec_l1Many.l0 (k+1) y0 y1 y2))
 |0=>fun _ _ _ r h=>by simp[spec_l1Many.l0] at h
 |k+1=>by
  have ih0:=spec_l1Many.mono_l k
  ·intro y0 y1 y2;unfold spec_l1Many.l0
   repeat' first|(with_reducible exact ih0 _ _ _)|(with_reducible exact LeO.refl _)|(with_reducible exact LeO.none _)|(with_reducible refine LeO.ite ?_ ?_)|(with_reducible refine LeO.bind ?_ (fun _=>?_))|exact ih0 _ _ _|exact LeO.none _|refine LeO.ite ?_ ?_|refine LeO.bind ?_ (fun _=>?_)
theorem spec_l1Many.mono:∀a0 k,LeO (spec_l1Many.f k a0) (spec_l1Many.f (k+1) a0):=by
 intro a0 k;have ih0:=spec_l1Many.mono_l k;unfold spec_l1Many.f
 repeat' first|(with_reducible exact ih0 _ _ _)|(with_reducible exact LeO.refl _)|(with_reducible exact LeO.none _)|(with_reducible refine LeO.ite ?_ ?_)|(with_reducible refine LeO.bind ?_ (fun _=>?_))|exact ih0 _ _ _|exact LeO.none _|refine LeO.ite ?_ ?_|refine LeO.bind ?_ (fun _=>?_)
set_option maxHeartbeats 8000000 in
set_option maxRecDepth 100000 in
theorem spec_l1Many.calls (k:Nat) (A0:Option Addr) (c0:Nat) (l0:List Int) (r:Bool) (w:World) (hr0:Kd.C (Kd.int .i64) w A0 l0.length l0) (hc0:l0.length≤c0) (h:spec_l1Many.f k l0=some r) :
  Calls Try.prog 48 #[.slice A0 l0.length c0] w fun e w'=>e=.returned (.bool r)∧Drawn0 w w':=by
 have HR0:=qah.mk hr0;have HC0:=qah.mk hc0;clear hr0 hc0;have H:(spec_l1Many.l0 k l0 0 0)=some r:=h;clear h;have H':=qah.mk H;clear H;go_enter Try.func48,Try.ntmps48;go_wp2
 go_loopg [3,4] k (fun kq v3 v4 w'=>∃(x3_1:Int) (x4_1:Int),v3=.int .i64 x3_1∧v4=.int .i64 x4_1∧qah (spec_l1Many.l0 kq l0 x3_1 x4_1=some r)∧qah (kq≤k)∧Drawn0 w w')
 case atStart=>exact⟨(0),(0),(za11),(za11),H',⟨Nat.le_refl _⟩,za14⟩
 case round=>
  clear H';obtain⟨x3_1,x4_1,rfl,rfl,HA,HK1,⟨m1,rfl⟩⟩:=hrel
  cases gk with
  |zero=>exact absurd HA.out (by simp[spec_l1Many.l0])
  |succ k1=>
   have H:=HA.out;clear HA;simp only[spec_l1Many.l0] at H;by_cases c2:x4_1<(l0.length:Int)
   ·rw[if_pos c2] at H;have c2b0:decide (x4_1<(l0.length:Int))=true:=decide_eq_true c2;clear c2;by_cases c3:0≤x4_1
    ·rw[if_pos c3] at H;have c3b0:decide (0≤x4_1)=true:=decide_eq_true c3;clear c3;replace H:=Option.bind_eq_some_iff.mp H;obtain⟨t115,A40,H⟩:=H;replace H:(if t115=true then(spec_l1Many.l0 k1 l0 (wrap64 (x3_1+(rd l0 x4_1))) (wrap64 (x4_1+1))) else(some false))=some r:=H;have A4:=qah.mk A40;clear A40;by_cases c5:t115=true
     ·subst c5
      have H1:(spec_l1Many.l0 k1 l0 (wrap64 (x3_1+(rd l0 x4_1))) (wrap64 (x4_1+1)))=some r:=by rw[if_pos rfl] at H;exact H
      clear H;have H:=H1;clear H1;have H':=qah.mk H;clear H;have p114:0≤(x4_1:Int):=of_decide_eq_true (za7);have q114:x4_1<(l0.length:Int):=of_decide_eq_true (za7);obtain⟨ad114,e114,hx114_0⟩:=Kd.at_int HR0.out x4_1 p114 q114
      cases e114
      replace p114:=eq_true p114;replace q114:=eq_true q114
      go_wp2_with(first|((with_reducible refine qaf (f:=18) rfl ?_);refine zF (some 15) Try.func18 #[.int .i64 (rd l0 x4_1),.int .i64 0,.int .i64 3] ?_;(with_reducible refine(spec_l6In.calls (rd l0 x4_1) 0 3 true _ A4.out).mono ?_);rintro e w' ⟨rfl,⟨nd,rfl⟩⟩;refine⟨_,rfl,?_⟩;have p116:0≤(x4_1:Int):=of_decide_eq_true (za7);have q116:x4_1<(l0.length:Int):=of_decide_eq_true (za7);obtain⟨ad116,e116,hx116_0⟩:=Kd.at_int HR0.out x4_1 p116 q116;obtain rfl:ad114=ad116:=(by injection e116);replace p116:=eq_true p116;replace q116:=eq_true q116))
      go_roundg k1
      case measure=>have:=HK1.out;omega
      case rel=>exact⟨(wrap64 (x3_1+(rd l0 x4_1))),(wrap64 (x4_1+1)),(za11),(za11),H',⟨by have:=HK1.out;omega⟩,za14⟩
     ·replace c5:=Bool.eq_false_iff.mpr c5;subst c5
      have H1:(some false)=some r:=by rw[if_neg (show ¬(false=true) by decide)] at H;exact H
      clear H;have H:=H1;clear H1;obtain rfl:=Option.some.inj H;have p114:0≤(x4_1:Int):=of_decide_eq_true (za7);have q114:x4_1<(l0.length:Int):=of_decide_eq_true (za7);obtain⟨ad114,e114,hx114_0⟩:=Kd.at_int HR0.out x4_1 p114 q114
      cases e114
      replace p114:=eq_true p114;replace q114:=eq_true q114
      go_wp2_with(first|((with_reducible refine qaf (f:=18) rfl ?_);refine zF (some 15) Try.func18 #[.int .i64 (rd l0 x4_1),.int .i64 0,.int .i64 3] ?_;(with_reducible refine(spec_l6In.calls (rd l0 x4_1) 0 3 false _ A4.out).mono ?_);rintro e w' ⟨rfl,⟨nd,rfl⟩⟩;refine⟨_,rfl,?_⟩))
      go_ret;exact⟨za11,za14⟩
    ·rw[if_neg c3] at H;exact absurd H (by simp)
   ·rw[if_neg c2] at H;have c2b0:decide (x4_1<(l0.length:Int))=false:=decide_eq_false c2;clear c2;by_cases c6:(l0.length:Int)=3
    ·rw[if_pos c6] at H;have c6b0:((l0.length:Int) == 3)=true:=beq_iff_eq.mpr c6;have c6b1:((l0.length:Int) != 3)=false:=bne_eq_false_iff_eq.mpr c6;clear c6;obtain rfl:=Option.some.inj H;go_wp2;go_ret;exact⟨za11,za14⟩
    ·rw[if_neg c6] at H;have c6b0:((l0.length:Int) == 3)=false:=beq_eq_false_iff_ne.mpr c6;have c6b1:((l0.length:Int) != 3)=true:=bne_iff_ne.mpr c6;obtain rfl:=Option.some.inj H;go_wp2;go_ret;exact⟨za11,za14⟩
def spec_RecOk.f (k:Nat) (a0_0:Int) (a0_1:Int) (l0_2:List Int):Option (Bool):=(spec_l6In.f a0_1 1 6).bind fun t118=>(if t118=true then(if a0_0=1 then(if(l0_2.length:Int)=1 then(if 0<(l0_2.length:Int) then((spec_l6In.f (rd l0_2 0) 1 3).bind fun t120=>(some t120)) else(none)) else(some false)) else(if a0_0=4 then((spec_l1Many.f k l0_2).bind fun t121=>(some t121)) else((spec_l6In.f a0_0 2 7).bind fun t122=>(if t122=true then(some ((l0_2.length:Int) == 0)) else(some false))))) else(some false))
theorem spec_RecOk.mono:∀a0 a1 a2 k,LeO (spec_RecOk.f k a0 a1 a2) (spec_RecOk.f (k+1) a0 a1 a2):=by
 intro a0 a1 a2 k;unfold spec_RecOk.f
 repeat' first|(with_reducible exact spec_l1Many.mono _ _)|(with_reducible exact LeO.refl _)|(with_reducible exact LeO.none _)|(with_reducible refine LeO.ite ?_ ?_)|(with_reducible refine LeO.bind ?_ (fun _=>?_))|exact spec_l1Many.mono _ _|exact LeO.none _|refine LeO.ite ?_ ?_|refine LeO.bind ?_ (fun _=>?_)
set_option maxHeartbeats 8000000 in
set_option maxRecDepth 100000 in
theorem spec_RecOk.calls (k:Nat) (a0_0:Int) (a0_1:Int) (A0_2:Option Addr) (c0_2:Nat) (l0_2:List Int) (r:Bool) (w:World) (hr0_2:Kd.C (Kd.int .i64) w A0_2 l0_2.length l0_2) (hc0_2:l0_2.length≤c0_2) (h:spec_RecOk.f k a0_0 a0_1 l0_2=some r) :
  Calls Try.prog 33 #[.agg #[.int .i64 a0_0,.int .i64 a0_1,.slice A0_2 l0_2.length c0_2]] w fun e w'=>e=.returned (.bool r)∧Below w.heap.size w w':=by
 have hu62:=Try.underlying62;have HR0_2:=qah.mk hr0_2;have HC0_2:=qah.mk hc0_2;clear hr0_2 hc0_2;have HB:=qah.mk (Below.refl w.heap.size w);have H:((spec_l6In.f a0_1 1 6).bind fun t118=>(if t118=true then(if a0_0=1 then(if(l0_2.length:Int)=1 then(if 0<(l0_2.length:Int) then((spec_l6In.f (rd l0_2 0) 1 3).bind fun t120=>(some t120)) else(none)) else(some false)) else(if a0_0=4 then((spec_l1Many.f k l0_2).bind fun t121=>(some t121)) else((spec_l6In.f a0_0 2 7).bind fun t122=>(if t122=true then(some ((l0_2.length:Int) == 0)) else(some false))))) else(some false)))=some r:=h;clear h;replace H:=Option.bind_eq_some_iff.mp H;obtain⟨t118,A20,H⟩:=H;replace H:(if t118=true then(if a0_0=1 then(if(l0_2.length:Int)=1 then(if 0<(l0_2.length:Int) then((spec_l6In.f (rd l0_2 0) 1 3).bind fun t120=>(some t120)) else(none)) else(some false)) else(if a0_0=4 then((spec_l1Many.f k l0_2).bind fun t121=>(some t121)) else((spec_l6In.f a0_0 2 7).bind fun t122=>(if t122=true then(some ((l0_2.length:Int) == 0)) else(some false))))) else(some false))=some r:=H;have A2:=qah.mk A20;clear A20;by_cases c3:t118=true
 ·subst c3
  have H1:(if a0_0=1 then(if(l0_2.length:Int)=1 then(if 0<(l0_2.length:Int) then((spec_l6In.f (rd l0_2 0) 1 3).bind fun t120=>(some t120)) else(none)) else(some false)) else(if a0_0=4 then((spec_l1Many.f k l0_2).bind fun t121=>(some t121)) else((spec_l6In.f a0_0 2 7).bind fun t122=>(if t122=true then(some ((l0_2.length:Int) == 0)) else(some false)))))=some r:=by rw[if_pos rfl] at H;exact H
  clear H;have H:=H1;clear H1;by_cases c4:a0_0=1
  ·rw[if_pos c4] at H;have c4b0:(a0_0 == 1)=true:=beq_iff_eq.mpr c4;have c4b1:(a0_0 != 1)=false:=bne_eq_false_iff_eq.mpr c4;clear c4;by_cases c5:(l0_2.length:Int)=1
   ·rw[if_pos c5] at H;have c5b0:((l0_2.length:Int) == 1)=true:=beq_iff_eq.mpr c5;have c5b1:((l0_2.length:Int) != 1)=false:=bne_eq_false_iff_eq.mpr c5;clear c5;by_cases c6:0<(l0_2.length:Int)
    ·rw[if_pos c6] at H;have c6b0:decide (0<(l0_2.length:Int))=true:=decide_eq_true c6;have c6b1:decide (0<l0_2.length)=true:=decide_eq_true (by omega);clear c6;replace H:=Option.bind_eq_some_iff.mp H;obtain⟨t120,A70,H⟩:=H;replace H:(some t120)=some r:=H;have A7:=qah.mk A70;clear A70;obtain rfl:=Option.some.inj H;go_enter Try.func33,Try.ntmps33
     go_wp2_with(first|((with_reducible refine qag (N:=1) rfl ?_);(try(refine gate_guard (by rfl) ?_;dsimp only));refine zX (N:=1) (cs:=#[.int .i64 a0_0,.int .i64 a0_1,.slice A0_2 l0_2.length c0_2]) (t:=62) ?_;intro gb117 hg w8 hbox hb;have BK117:=qah.mk hbox;have GW117:=zH (w:=w) hg (za1 HB);have GE117:=GW117;replace HB:=qah.mk (qaa (za1 HB) hb);clear hb hbox hg;obtain⟨hcz9_0,hcz9_1,hcz9_2,hfz9_0,hfz9_1,hfz9_2⟩:=zC3 BK117)|((with_reducible refine qaf (f:=18) rfl ?_);refine zF (some 5) Try.func18 #[.int .i64 a0_1,.int .i64 1,.int .i64 6] ?_;(with_reducible refine(spec_l6In.calls a0_1 1 6 true _ A2.out).mono ?_);rintro e w' ⟨rfl,⟨nd,rfl⟩⟩;refine⟨_,rfl,?_⟩;have p119:0≤(0:Int):=(by omega);have q119:0<(l0_2.length:Int):=of_decide_eq_true (za7);obtain⟨ad119,e119,hx119_0⟩:=Kd.at_int HR0_2.out 0 p119 q119;cases e119;have qi119:(0<l0_2.length)=True:=eq_true (by omega);(try rw[show((0:Int)).toNat=0 from rfl] at hx119_0);(try rw[Addr.add_zero'] at hx119_0);replace hx119_0:=(HB.out.cell (World.block_lt_of_cell? w _ hx119_0)).trans hx119_0;replace p119:=eq_true p119;replace q119:=eq_true q119)|(go_at_call 18;(with_reducible refine(spec_l6In.calls (rd l0_2 0) 1 3 t120 _ A7.out).mono ?_);rintro e w' ⟨rfl,⟨nd,rfl⟩⟩))
     go_ret;exact⟨za8,za0 HB GE117⟩
    ·rw[if_neg c6] at H;exact absurd H (by simp)
   ·rw[if_neg c5] at H;have c5b0:((l0_2.length:Int) == 1)=false:=beq_eq_false_iff_ne.mpr c5;have c5b1:((l0_2.length:Int) != 1)=true:=bne_iff_ne.mpr c5;obtain rfl:=Option.some.inj H;go_enter Try.func33,Try.ntmps33
    go_wp2_with(first|((with_reducible refine qag (N:=1) rfl ?_);(try(refine gate_guard (by rfl) ?_;dsimp only));refine zX (N:=1) (cs:=#[.int .i64 a0_0,.int .i64 a0_1,.slice A0_2 l0_2.length c0_2]) (t:=62) ?_;intro gb117 hg w10 hbox hb;have BK117:=qah.mk hbox;have GW117:=zH (w:=w) hg (za1 HB);have GE117:=GW117;replace HB:=qah.mk (qaa (za1 HB) hb);clear hb hbox hg;obtain⟨hcz11_0,hcz11_1,hcz11_2,hfz11_0,hfz11_1,hfz11_2⟩:=zC3 BK117)|((with_reducible refine qaf (f:=18) rfl ?_);refine zF (some 5) Try.func18 #[.int .i64 a0_1,.int .i64 1,.int .i64 6] ?_;(with_reducible refine(spec_l6In.calls a0_1 1 6 true _ A2.out).mono ?_);rintro e w' ⟨rfl,⟨nd,rfl⟩⟩;refine⟨_,rfl,?_⟩))
    go_ret;exact⟨za8,za0 HB GE117⟩
  ·rw[if_neg c4] at H;have c4b0:(a0_0 == 1)=false:=beq_eq_false_iff_ne.mpr c4;have c4b1:(a0_0 != 1)=true:=bne_iff_ne.mpr c4;by_cases c12:a0_0=4
   ·rw[if_pos c12] at H;have c12b0:(a0_0 == 4)=true:=beq_iff_eq.mpr c12;have c12b1:(a0_0 != 4)=false:=bne_eq_false_iff_eq.mpr c12;clear c12;replace H:=Option.bind_eq_some_iff.mp H;obtain⟨t121,A130,H⟩:=H;replace H:(some t121)=some r:=H;have A13:=qah.mk A130;clear A130;obtain rfl:=Option.some.inj H;go_enter Try.func33,Try.ntmps33
    go_wp2_with(first|((with_reducible refine qag (N:=1) rfl ?_);(try(refine gate_guard (by rfl) ?_;dsimp only));refine zX (N:=1) (cs:=#[.int .i64 a0_0,.int .i64 a0_1,.slice A0_2 l0_2.length c0_2]) (t:=62) ?_;intro gb117 hg w14 hbox hb;have BK117:=qah.mk hbox;have GW117:=zH (w:=w) hg (za1 HB);have GE117:=GW117;replace HB:=qah.mk (qaa (za1 HB) hb);clear hb hbox hg;obtain⟨hcz15_0,hcz15_1,hcz15_2,hfz15_0,hfz15_1,hfz15_2⟩:=zC3 BK117)|((with_reducible refine qaf (f:=18) rfl ?_);refine zF (some 5) Try.func18 #[.int .i64 a0_1,.int .i64 1,.int .i64 6] ?_;(with_reducible refine(spec_l6In.calls a0_1 1 6 true _ A2.out).mono ?_);rintro e w' ⟨rfl,⟨nd,rfl⟩⟩;refine⟨_,rfl,?_⟩)|((with_reducible refine qaf (f:=48) rfl ?_);refine zF (some 26) Try.func48 #[.slice A0_2 l0_2.length c0_2] ?_;(with_reducible refine(spec_l1Many.calls k _ _ l0_2 t121 _ ?side1 ?side2 A13.out).mono ?_);(case side1=>repeat(first|exact(Kd.C_below HR0_2.out (za0 HB GE117))|(with_reducible refine Kd.C_alloc ?_ _)|(with_reducible refine Kd.C_drewN ?_ _)|(with_reducible refine Kd.C_drew ?_)));(case side2=>exact HC0_2.out);rintro e w' ⟨rfl,⟨nd,rfl⟩⟩;refine⟨_,rfl,?_⟩))
    go_ret;exact⟨za8,za0 HB GE117⟩
   ·rw[if_neg c12] at H;have c12b0:(a0_0 == 4)=false:=beq_eq_false_iff_ne.mpr c12;have c12b1:(a0_0 != 4)=true:=bne_iff_ne.mpr c12;replace H:=Option.bind_eq_some_iff.mp H;obtain⟨t122,A160,H⟩:=H;replace H:(if t122=true then(some ((l0_2.length:Int) == 0)) else(some false))=some r:=H;have A16:=qah.mk A160;clear A160;by_cases c17:t122=true
    ·subst c17
     have H1:(some ((l0_2.length:Int) == 0))=some r:=by rw[if_pos rfl] at H;exact H
     clear H;have H:=H1;clear H1;obtain rfl:=Option.some.inj H;go_enter Try.func33,Try.ntmps33
     go_wp2_with(first|((with_reducible refine qag (N:=1) rfl ?_);(try(refine gate_guard (by rfl) ?_;dsimp only));refine zX (N:=1) (cs:=#[.int .i64 a0_0,.int .i64 a0_1,.slice A0_2 l0_2.length c0_2]) (t:=62) ?_;intro gb117 hg w18 hbox hb;have BK117:=qah.mk hbox;have GW117:=zH (w:=w) hg (za1 HB);have GE117:=GW117;replace HB:=qah.mk (qaa (za1 HB) hb);clear hb hbox hg;obtain⟨hcz19_0,hcz19_1,hcz19_2,hfz19_0,hfz19_1,hfz19_2⟩:=zC3 BK117)|((with_reducible refine qaf (f:=18) rfl ?_);refine zF (some 5) Try.func18 #[.int .i64 a0_1,.int .i64 1,.int .i64 6] ?_;(with_reducible refine(spec_l6In.calls a0_1 1 6 true _ A2.out).mono ?_);rintro e w' ⟨rfl,⟨nd,rfl⟩⟩;refine⟨_,rfl,?_⟩)|((with_reducible refine qaf (f:=18) rfl ?_);refine zF (some 29) Try.func18 #[.int .i64 a0_0,.int .i64 2,.int .i64 7] ?_;(with_reducible refine(spec_l6In.calls a0_0 2 7 true _ A16.out).mono ?_);rintro e w' ⟨rfl,⟨nd,rfl⟩⟩;refine⟨_,rfl,?_⟩))
     go_ret;exact⟨za8,za0 HB GE117⟩
    ·replace c17:=Bool.eq_false_iff.mpr c17;subst c17
     have H1:(some false)=some r:=by rw[if_neg (show ¬(false=true) by decide)] at H;exact H
     clear H;have H:=H1;clear H1;obtain rfl:=Option.some.inj H;go_enter Try.func33,Try.ntmps33
     go_wp2_with(first|((with_reducible refine qag (N:=1) rfl ?_);(try(refine gate_guard (by rfl) ?_;dsimp only));refine zX (N:=1) (cs:=#[.int .i64 a0_0,.int .i64 a0_1,.slice A0_2 l0_2.length c0_2]) (t:=62) ?_;intro gb117 hg w20 hbox hb;have BK117:=qah.mk hbox;have GW117:=zH (w:=w) hg (za1 HB);have GE117:=GW117;replace HB:=qah.mk (qaa (za1 HB) hb);clear hb hbox hg;obtain⟨hcz21_0,hcz21_1,hcz21_2,hfz21_0,hfz21_1,hfz21_2⟩:=zC3 BK117)|((with_reducible refine qaf (f:=18) rfl ?_);refine zF (some 5) Try.func18 #[.int .i64 a0_1,.int .i64 1,.int .i64 6] ?_;(with_reducible refine(spec_l6In.calls a0_1 1 6 true _ A2.out).mono ?_);rintro e w' ⟨rfl,⟨nd,rfl⟩⟩;refine⟨_,rfl,?_⟩)|((with_reducible refine qaf (f:=18) rfl ?_);refine zF (some 29) Try.func18 #[.int .i64 a0_0,.int .i64 2,.int .i64 7] ?_;(with_reducible refine(spec_l6In.calls a0_0 2 7 false _ A16.out).mono ?_);rintro e w' ⟨rfl,⟨nd,rfl⟩⟩;refine⟨_,rfl,?_⟩))
     go_ret;exact⟨za8,za0 HB GE117⟩
 ·replace c3:=Bool.eq_false_iff.mpr c3;subst c3
  have H1:(some false)=some r:=by rw[if_neg (show ¬(false=true) by decide)] at H;exact H
  clear H;have H:=H1;clear H1;obtain rfl:=Option.some.inj H;go_enter Try.func33,Try.ntmps33
  go_wp2_with(first|((with_reducible refine qag (N:=1) rfl ?_);(try(refine gate_guard (by rfl) ?_;dsimp only));refine zX (N:=1) (cs:=#[.int .i64 a0_0,.int .i64 a0_1,.slice A0_2 l0_2.length c0_2]) (t:=62) ?_;intro gb117 hg w22 hbox hb;have BK117:=qah.mk hbox;have GW117:=zH (w:=w) hg (za1 HB);have GE117:=GW117;replace HB:=qah.mk (qaa (za1 HB) hb);clear hb hbox hg;obtain⟨hcz23_0,hcz23_1,hcz23_2,hfz23_0,hfz23_1,hfz23_2⟩:=zC3 BK117)|((with_reducible refine qaf (f:=18) rfl ?_);refine zF (some 5) Try.func18 #[.int .i64 a0_1,.int .i64 1,.int .i64 6] ?_;(with_reducible refine(spec_l6In.calls a0_1 1 6 false _ A2.out).mono ?_);rintro e w' ⟨rfl,⟨nd,rfl⟩⟩;refine⟨_,rfl,?_⟩))
  go_ret;exact⟨za8,za0 HB GE117⟩
end Go.Proofs.Ytbomcadjkcmcgaa.Print
