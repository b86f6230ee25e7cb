-- Written by squeeze.py, a program of this session, out of what print.sh and myprint.py had printed: cut to what is used, narrowed. Not trusted, Lean checks it.
import Derived.Test.YtjccnaklodbbfaaZK
import Derived.Test.YtjccnaklodbbfaaZb0
import Derived.Test.YtjccnaklodbbfaaZs0
namespace Go.Proofs.Ytjccnaklodbbfaa.Print
open Go.RowKit Go.Proofs.YtjccnaklodbbfaaW.PrintWords Go.Proofs.YtjccnaklodbbfaaW.PrintLast Go.Proofs.YtjccnaklodbbfaaW.PrintMore
attribute [local go_sem] max2_int min2_int max_two min_two max_three min_three max_four min_four
set_option linter.unusedVariables false
set_option linter.unusedSimpArgs false
def laws_szTrip.f (l0_0:List Int) (a0_1:Int) (a1:Int):Option (Int):=(laws_szIntS.f l0_0 a1).bind fun t856=>(if t856<0 then(some (-1)) else(some t856))
set_option maxHeartbeats 8000000 in
set_option maxRecDepth 100000 in
theorem laws_szTrip.calls (A0_0:Option Addr) (c0_0:Nat) (l0_0:List Int) (a0_1:Int) (a1:Int) (r:Int) (w:World) (hr0_0:Kd.C (Kd.int .i64) w A0_0 l0_0.length l0_0) (hc0_0:l0_0.length≤c0_0) (h:laws_szTrip.f l0_0 a0_1 a1=some r) :
  Calls Try.prog 92 #[.agg #[.slice A0_0 l0_0.length c0_0,.int .i64 a0_1],.int .i64 a1] w fun e w'=>e=.returned (.int .i64 r)∧Below w.heap.size w w':=by
 have hu113:=Try.underlying113
 have HR0_0:=qal.mk hr0_0
 have HC0_0:=qal.mk hc0_0
 clear hr0_0 hc0_0
 have HB:=qal.mk (Below.refl w.heap.size w)
 have H:((laws_szIntS.f l0_0 a1).bind fun t856=>(if t856<0 then(some (-1)) else(some t856)))=some r:=h
 clear h
 replace H:=Option.bind_eq_some_iff.mp H
 obtain⟨t856,A30,H⟩:=H
 replace H:(if t856<0 then(some (-1)) else(some t856))=some r:=H
 have A3:=qal.mk A30
 clear A30
 by_cases c4:t856<0
 ·rw[if_pos c4] at H
  have c4b0:decide (t856<0)=true:=decide_eq_true c4
  clear c4
  obtain rfl:=Option.some.inj H
  go_enter Try.func92,Try.ntmps92
  go_wp2_with(first|((with_reducible refine qak (N:=2) rfl ?_);refine qaj ?hg (N:=2) ?hd (cs:=#[.slice A0_0 l0_0.length c0_0,.int .i64 a0_1]) (t:=113) ?hr ?_;(case hd=>rfl);(case hg=>rfl);(case hr=>first|(go_simp;done)|(go_simp;rfl));intro gb855 hg w5 hbox hb;have n0_:=qal.mk (qae (za2 HB) hb);have n1_:=qal.mk (hbox);have n2_:=qal.mk ((by rw[hg];exact(qad (za2 HB)):w.heap.size≤gb855));have n3_:=qal.mk ((by rw[hg];exact(qad (za2 HB)):w.heap.size≤gb855));clear HB;have HB:=n0_;have BK855:=n1_;have GW855:=n2_;have GE855:=n3_;clear n0_ n1_ n2_ n3_;clear hb hbox hg;have hcz6_0:w5.cell? ⟨gb855,0,none⟩=some (.slice A0_0 l0_0.length c0_0):=(qab BK855.out 0).trans rfl;have hcz6_1:w5.cell? ⟨gb855,1,none⟩=some (.int .i64 a0_1):=(qab BK855.out 1).trans rfl;have hfz6_0:=qaa BK855.out 0;have hfz6_1:=qaa BK855.out 1)|((with_reducible refine qai (f:=78) rfl ?_);refine qau (some 8) rfl rfl Try.func78 (by kernel_rfl) rfl #[.slice A0_0 l0_0.length c0_0,.int .i64 a1] rfl (by(try simp only[List.map_toArray,List.map_cons,List.map_nil]);first|done|rfl|(simp only[List.length_drop,List.length_take];rfl)) ?_;(with_reducible refine(laws_szIntS.calls _ _ l0_0 a1 t856 _ ?side1 ?side2 A3.out).mono ?_);(case side1=>repeat(first|exact(Kd.C_below HR0_0.out HB.out)|(with_reducible refine Kd.C_alloc ?_ _)|(with_reducible refine Kd.C_drewN ?_ _)|(with_reducible refine Kd.C_drew ?_)));(case side2=>exact HC0_0.out);rintro e w' ⟨rfl,⟨nd,rfl⟩⟩;refine⟨_,rfl,?_⟩))
  go_ret
  exact⟨za9,za1 HB GE855⟩
 ·rw[if_neg c4] at H
  have c4b0:decide (t856<0)=false:=decide_eq_false c4
  clear c4
  obtain rfl:=Option.some.inj H
  go_enter Try.func92,Try.ntmps92
  go_wp2_with(first|((with_reducible refine qak (N:=2) rfl ?_);refine qaj ?hg (N:=2) ?hd (cs:=#[.slice A0_0 l0_0.length c0_0,.int .i64 a0_1]) (t:=113) ?hr ?_;(case hd=>rfl);(case hg=>rfl);(case hr=>first|(go_simp;done)|(go_simp;rfl));intro gb855 hg w7 hbox hb;have n0_:=qal.mk (qae (za2 HB) hb);have n1_:=qal.mk (hbox);have n2_:=qal.mk ((by rw[hg];exact(qad (za2 HB)):w.heap.size≤gb855));have n3_:=qal.mk ((by rw[hg];exact(qad (za2 HB)):w.heap.size≤gb855));clear HB;have HB:=n0_;have BK855:=n1_;have GW855:=n2_;have GE855:=n3_;clear n0_ n1_ n2_ n3_;clear hb hbox hg;have hcz8_0:w7.cell? ⟨gb855,0,none⟩=some (.slice A0_0 l0_0.length c0_0):=(qab BK855.out 0).trans rfl;have hcz8_1:w7.cell? ⟨gb855,1,none⟩=some (.int .i64 a0_1):=(qab BK855.out 1).trans rfl;have hfz8_0:=qaa BK855.out 0;have hfz8_1:=qaa BK855.out 1)|((with_reducible refine qai (f:=78) rfl ?_);refine qau (some 8) rfl rfl Try.func78 (by kernel_rfl) rfl #[.slice A0_0 l0_0.length c0_0,.int .i64 a1] rfl (by(try simp only[List.map_toArray,List.map_cons,List.map_nil]);first|done|rfl|(simp only[List.length_drop,List.length_take];rfl)) ?_;(with_reducible refine(laws_szIntS.calls _ _ l0_0 a1 t856 _ ?side1 ?side2 A3.out).mono ?_);(case side1=>repeat(first|exact(Kd.C_below HR0_0.out HB.out)|(with_reducible refine Kd.C_alloc ?_ _)|(with_reducible refine Kd.C_drewN ?_ _)|(with_reducible refine Kd.C_drew ?_)));(case side2=>exact HC0_0.out);rintro e w' ⟨rfl,⟨nd,rfl⟩⟩;refine⟨_,rfl,?_⟩))
  go_ret
  exact⟨za9,za1 HB GE855⟩
def laws_szTripS.l0:Nat→List (S113)→Int→Int→Option (Int)
 |0,_,_,_=>none
 |k+1,x0,x1,x5=>if x5<(x0.length:Int) then(if 0≤x5 then((laws_szTrip.f ((rd_T113 x0 x5).f0) ((rd_T113 x0 x5).f1) x1).bind fun t858=>(if t858<0 then(some (-1)) else(laws_szTripS.l0 k x0 t858 (wrap64 (x5+1))))) else(none)) else(some x1)
def laws_szTripS.f (k:Nat) (l0:List (S113)) (a1:Int):Option (Int):=if(wrap64 (a1 - (l0.length:Int)))<0 then(some (-1)) else(laws_szTripS.l0 k l0 (wrap64 (a1 - (l0.length:Int))) 0)
theorem laws_szTripS.mono_l:∀k,(∀y0 y1 y2,LeO (laws_szTripS.l0 k y0 y1 y2) (laws_szTripS.l0 (k+1) y0 y1 y2))
 |0=>fun _ _ _ r h=>by simp[laws_szTripS.l0] at h
 |k+1=>by
  have ih0:=laws_szTripS.mono_l k
  ·intro y0 y1 y2
   unfold laws_szTripS.l0
   repeat' first
   |(with_reducible exact ih0 _ _ _)
   |(with_reducible exact LeO.refl _)
   |(with_reducible exact LeO.none _)
   |(with_reducible refine LeO.ite ?_ ?_)
   |(with_reducible refine LeO.bind ?_ (fun _=>?_))
   |exact ih0 _ _ _
   |exact LeO.none _
   |refine LeO.ite ?_ ?_
   |refine LeO.bind ?_ (fun _=>?_)
theorem laws_szTripS.mono:∀a0 a1 k,LeO (laws_szTripS.f k a0 a1) (laws_szTripS.f (k+1) a0 a1):=by
 intro a0 a1 k
 have ih0:=laws_szTripS.mono_l k
 unfold laws_szTripS.f
 repeat' first
   |(with_reducible exact ih0 _ _ _)
   |(with_reducible exact LeO.refl _)
   |(with_reducible exact LeO.none _)
   |(with_reducible refine LeO.ite ?_ ?_)
   |(with_reducible refine LeO.bind ?_ (fun _=>?_))
   |exact ih0 _ _ _
   |exact LeO.none _
   |refine LeO.ite ?_ ?_
   |refine LeO.bind ?_ (fun _=>?_)
set_option maxHeartbeats 8000000 in
set_option maxRecDepth 100000 in
theorem laws_szTripS.calls (k:Nat) (A0:Option Addr) (c0:Nat) (l0:List (S113)) (a1:Int) (r:Int) (w:World) (hr0:Kd.C k113 w A0 l0.length l0) (hc0:l0.length≤c0) (h:laws_szTripS.f k l0 a1=some r) :
  Calls Try.prog 48 #[.slice A0 l0.length c0,.int .i64 a1] w fun e w'=>e=.returned (.int .i64 r)∧Below w.heap.size w w':=by
 have hu113:=Try.underlying113
 have HR0:=qal.mk hr0
 have HC0:=qal.mk hc0
 clear hr0 hc0
 have HB:=qal.mk (Below.refl w.heap.size w)
 have H:(if(wrap64 (a1 - (l0.length:Int)))<0 then(some (-1)) else(laws_szTripS.l0 k l0 (wrap64 (a1 - (l0.length:Int))) 0))=some r:=h
 clear h
 by_cases c3:(wrap64 (a1 - (l0.length:Int)))<0
 ·rw[if_pos c3] at H
  have c3b0:decide ((wrap64 (a1 - (l0.length:Int)))<0)=true:=decide_eq_true c3
  clear c3
  obtain rfl:=Option.some.inj H
  go_enter Try.func48,Try.ntmps48
  go_wp2
  go_ret
  exact⟨za9,za2 HB⟩
 ·rw[if_neg c3] at H
  have c3b0:decide ((wrap64 (a1 - (l0.length:Int)))<0)=false:=decide_eq_false c3
  clear c3
  have H':=qal.mk H
  clear H
  go_enter Try.func48,Try.ntmps48
  go_wp2
  go_loopg [1,5] k (fun kq v1 v5 w'=>∃(x1_1:Int) (x5_1:Int),v1=.int .i64 x1_1∧v5=.int .i64 x5_1∧qal (laws_szTripS.l0 kq l0 x1_1 x5_1=some r)∧qal (kq≤k)∧qal (Below w.heap.size w w'))
  case atStart=>exact⟨(wrap64 (a1 - (l0.length:Int))),(0),(za22),(za22),H',⟨Nat.le_refl _⟩,⟨za2 HB⟩⟩
  case round=>
   clear H'
   try clear p2
   try clear c3
   try clear c3b0
   obtain⟨x1_1,x5_1,rfl,rfl,HA,HK1,HB⟩:=hrel
   cases gk with
   |zero=>exact absurd HA.out (by simp[laws_szTripS.l0])
   |succ k1=>
    have H:=HA.out
    clear HA
    simp only[laws_szTripS.l0] at H
    by_cases c4:x5_1<(l0.length:Int)
    ·rw[if_pos c4] at H
     have c4b0:decide (x5_1<(l0.length:Int))=true:=decide_eq_true c4
     clear c4
     by_cases c5:0≤x5_1
     ·rw[if_pos c5] at H
      have c5b0:decide (0≤x5_1)=true:=decide_eq_true c5
      clear c5
      replace H:=Option.bind_eq_some_iff.mp H
      obtain⟨t858,A60,H⟩:=H
      replace H:(if t858<0 then(some (-1)) else(laws_szTripS.l0 k1 l0 t858 (wrap64 (x5_1+1))))=some r:=H
      have A6:=qal.mk A60
      clear A60
      by_cases c7:t858<0
      ·rw[if_pos c7] at H
       have c7b0:decide (t858<0)=true:=decide_eq_true c7
       clear c7
       obtain rfl:=Option.some.inj H
       have p857:0≤(x5_1:Int):=of_decide_eq_true (za8)
       have q857:x5_1<(l0.length:Int):=of_decide_eq_true (za8)
       obtain⟨ad857,A857_0,c857_0,e857,hx857_0,hx857_1,hl857_0,hi857_0⟩:=at_T113 HR0.out x5_1 p857 q857
       cases e857
       have hxo857_0:=qal.mk hx857_0
       replace hx857_0:=(HB.out.cell (World.block_lt_of_cell? w _ hx857_0)).trans hx857_0
       replace hx857_1:=(HB.out.cell (World.block_lt_of_cell? w _ hx857_1)).trans hx857_1
       have HR857_0:=qal.mk hi857_0
       have HC857_0:=qal.mk hl857_0
       clear hi857_0 hl857_0
       replace p857:=eq_true p857
       replace q857:=eq_true q857
       go_wp2_with(first|((with_reducible refine qai (f:=92) rfl ?_);refine qau (some 23) rfl rfl Try.func92 (by kernel_rfl) rfl #[.agg #[.slice A857_0 ((rd_T113 l0 x5_1).f0).length c857_0,.int .i64 ((rd_T113 l0 x5_1).f1)],.int .i64 x1_1] rfl (by(try simp only[List.map_toArray,List.map_cons,List.map_nil]);first|done|rfl|(simp only[List.length_drop,List.length_take];rfl)) ?_;(with_reducible refine(laws_szTrip.calls _ _ ((rd_T113 l0 x5_1).f0) ((rd_T113 l0 x5_1).f1) x1_1 t858 _ ?side1 ?side2 A6.out).mono ?_);(case side1=>repeat(first|exact(Kd.C_below HR857_0.out HB.out)|(with_reducible refine Kd.C_alloc ?_ _)|(with_reducible refine Kd.C_drewN ?_ _)|(with_reducible refine Kd.C_drew ?_)));(case side2=>exact HC857_0.out);rintro e w8 ⟨rfl,hb⟩;refine⟨_,rfl,?_⟩;have n0_:=qal.mk (qae (za2 HB) hb);clear HB;have HB:=n0_;clear n0_;(try clear hb);(try clear hb2);(try clear hk);(try clear hi)))
       go_ret
       exact⟨za9,za2 HB⟩
      ·rw[if_neg c7] at H
       have c7b0:decide (t858<0)=false:=decide_eq_false c7
       clear c7
       have H':=qal.mk H
       clear H
       have p857:0≤(x5_1:Int):=of_decide_eq_true (za8)
       have q857:x5_1<(l0.length:Int):=of_decide_eq_true (za8)
       obtain⟨ad857,A857_0,c857_0,e857,hx857_0,hx857_1,hl857_0,hi857_0⟩:=at_T113 HR0.out x5_1 p857 q857
       cases e857
       have hxo857_0:=qal.mk hx857_0
       replace hx857_0:=(HB.out.cell (World.block_lt_of_cell? w _ hx857_0)).trans hx857_0
       replace hx857_1:=(HB.out.cell (World.block_lt_of_cell? w _ hx857_1)).trans hx857_1
       have HR857_0:=qal.mk hi857_0
       have HC857_0:=qal.mk hl857_0
       clear hi857_0 hl857_0
       replace p857:=eq_true p857
       replace q857:=eq_true q857
       go_wp2_with(first|((with_reducible refine qai (f:=92) rfl ?_);refine qau (some 23) rfl rfl Try.func92 (by kernel_rfl) rfl #[.agg #[.slice A857_0 ((rd_T113 l0 x5_1).f0).length c857_0,.int .i64 ((rd_T113 l0 x5_1).f1)],.int .i64 x1_1] rfl (by(try simp only[List.map_toArray,List.map_cons,List.map_nil]);first|done|rfl|(simp only[List.length_drop,List.length_take];rfl)) ?_;(with_reducible refine(laws_szTrip.calls _ _ ((rd_T113 l0 x5_1).f0) ((rd_T113 l0 x5_1).f1) x1_1 t858 _ ?side1 ?side2 A6.out).mono ?_);(case side1=>repeat(first|exact(Kd.C_below HR857_0.out HB.out)|(with_reducible refine Kd.C_alloc ?_ _)|(with_reducible refine Kd.C_drewN ?_ _)|(with_reducible refine Kd.C_drew ?_)));(case side2=>exact HC857_0.out);rintro e w9 ⟨rfl,hb⟩;refine⟨_,rfl,?_⟩;have n0_:=qal.mk (qae (za2 HB) hb);clear HB;have HB:=n0_;clear n0_;(try clear hb);(try clear hb2);(try clear hk);(try clear hi)))
       go_roundg k1
       case measure=>have:=HK1.out;omega
       case rel=>exact⟨(t858),(wrap64 (x5_1+1)),(za22),(za22),H',⟨by have:=HK1.out;omega⟩,⟨za2 HB⟩⟩
     ·rw[if_neg c5] at H
      exact absurd H (by simp)
    ·rw[if_neg c4] at H
     have c4b0:decide (x5_1<(l0.length:Int))=false:=decide_eq_false c4
     clear c4
     obtain rfl:=Option.some.inj H
     go_wp2
     go_ret
     exact⟨za9,za2 HB⟩
def laws_toTrip.f (k:Nat) (l0_0:List Int) (a0_1:Int):Option (List Int × Int):=(laws_toIntS.f k l0_0).bind fun t862=>(some (t862,a0_1))
theorem laws_toTrip.mono:∀a0 a1 k,LeO (laws_toTrip.f k a0 a1) (laws_toTrip.f (k+1) a0 a1):=by
 intro a0 a1 k
 unfold laws_toTrip.f
 repeat' first
   |(with_reducible exact laws_toIntS.mono _ _)
   |(with_reducible exact LeO.refl _)
   |(with_reducible exact LeO.none _)
   |(with_reducible refine LeO.ite ?_ ?_)
   |(with_reducible refine LeO.bind ?_ (fun _=>?_))
   |exact laws_toIntS.mono _ _
   |exact LeO.none _
   |refine LeO.ite ?_ ?_
   |refine LeO.bind ?_ (fun _=>?_)
set_option maxHeartbeats 8000000 in
set_option maxRecDepth 100000 in
theorem laws_toTrip.calls (k:Nat) (A0_0:Option Addr) (c0_0:Nat) (l0_0:List Int) (a0_1:Int) (r1:List Int) (r2:Int) (w:World) (hr0_0:Kd.C (Kd.int .i64) w A0_0 l0_0.length l0_0) (hc0_0:l0_0.length≤c0_0) (h:laws_toTrip.f k l0_0 a0_1=some (r1,r2)) :
  Calls Try.prog 94 #[.agg #[.slice A0_0 l0_0.length c0_0,.int .i64 a0_1]] w fun e w'=>∃v0_:Value,e=.returned (.agg #[v0_,.int .i64 r2])∧Kd.R (Kd.int .i64) 3 w' w.heap.size (fun _=>True) v0_ r1∧Below w.heap.size w w':=by
 have hu113:=Try.underlying113
 have hu73:=Try.underlying73
 have HR0_0:=qal.mk hr0_0
 have HC0_0:=qal.mk hc0_0
 clear hr0_0 hc0_0
 have HB:=qal.mk (Below.refl w.heap.size w)
 have H:((laws_toIntS.f k l0_0).bind fun t862=>(some (t862,a0_1)))=some (r1,r2):=h
 clear h
 replace H:=Option.bind_eq_some_iff.mp H
 obtain⟨t862,A20,H⟩:=H
 replace H:(some (t862,a0_1))=some (r1,r2):=H
 have A2:=qal.mk A20
 clear A20
 simp only[Option.some.injEq,Prod.mk.injEq] at H
 obtain⟨rfl,rfl⟩:=H
 go_enter Try.func94,Try.ntmps94
 go_wp2_with(first|((with_reducible refine qak (N:=1) rfl ?_);refine qaj ?hg (N:=1) ?hd (cs:=#[.slice A0_0 l0_0.length c0_0,.int .i64 a0_1]) (t:=113) ?hr ?_;(case hd=>rfl);(case hg=>rfl);(case hr=>first|(go_simp;done)|(go_simp;rfl));intro gb859 hg w3 hbox hb;have n0_:=qal.mk (qae (za2 HB) hb);have n1_:=qal.mk (hbox);have n2_:=qal.mk ((by rw[hg];exact(qad (za2 HB)):w.heap.size≤gb859));have n3_:=qal.mk ((by rw[hg];exact(qad (za2 HB)):w.heap.size≤gb859));clear HB;have HB:=n0_;have BK859:=n1_;have GW859:=n2_;have GE859:=n3_;clear n0_ n1_ n2_ n3_;clear hb hbox hg)|((with_reducible refine qak (N:=2) rfl ?_);refine qaj ?hg (N:=2) ?hd (cs:=#[.slice none 0 0,.int .i64 0]) (t:=73) ?hr ?_;(case hd=>rfl);(case hg=>rfl);(case hr=>first|(go_simp;done)|(go_simp;rfl));intro gb860 hg w4 hbox hb;have n0_:=qal.mk (qac (g:=gb859) (o:=.cells #[.slice A0_0 l0_0.length c0_0,.int .i64 a0_1] 113 (0,0)) (za0 BK859) hb);have n1_:=qal.mk (qae (za1 HB GE859) hb);have n2_:=qal.mk (hbox);have n3_:=qal.mk ((by rw[hg];exact(qad (za1 HB GE859)):w.heap.size≤gb860));have n4_:=qal.mk ((by rw[hg];exact(qad (za1 HB GE859)):w.heap.size≤gb860));have n5_:=qal.mk ((by rw[hg];exact Nat.ne_of_lt (qao (g:=gb859) (o:=.cells #[.slice A0_0 l0_0.length c0_0,.int .i64 a0_1] 113 (0,0)) (za0 BK859)):gb859≠gb860));have n6_:=qal.mk ((by rw[hg];exact Nat.ne_of_gt (qao (g:=gb859) (o:=.cells #[.slice A0_0 l0_0.length c0_0,.int .i64 a0_1] 113 (0,0)) (za0 BK859)):gb860≠gb859));clear BK859;clear HB;have BK859:=n0_;have HB:=n1_;have BK860:=n2_;have GW860:=n3_;have GE860:=n4_;have NB859_860:=n5_;have NB860_859:=n6_;clear n0_ n1_ n2_ n3_ n4_ n5_ n6_;clear hb hbox hg)|((with_reducible refine qak (N:=3) rfl ?_);refine qaj ?hg (N:=3) ?hd (cs:=#[.slice none 0 0,.int .i64 0]) (t:=73) ?hr ?_;(case hd=>rfl);(case hg=>rfl);(case hr=>first|(go_simp;done)|(go_simp;rfl));intro gb861 hg w5 hbox hb;have n0_:=qal.mk (qac (g:=gb859) (o:=.cells #[.slice A0_0 l0_0.length c0_0,.int .i64 a0_1] 113 (0,0)) (za0 BK859) hb);have n1_:=qal.mk (qac (g:=gb860) (o:=.cells #[.slice none 0 0,.int .i64 0] 73 (0,0)) (za0 BK860) hb);have n2_:=qal.mk (qae (za3 HB GE859 GE860) hb);have n3_:=qal.mk (hbox);have n4_:=qal.mk ((by rw[hg];exact(qad (za3 HB GE859 GE860)):w.heap.size≤gb861));have n5_:=qal.mk ((by rw[hg];exact(qad (za3 HB GE859 GE860)):w.heap.size≤gb861));have n6_:=qal.mk ((by rw[hg];exact Nat.ne_of_lt (qao (g:=gb859) (o:=.cells #[.slice A0_0 l0_0.length c0_0,.int .i64 a0_1] 113 (0,0)) (za0 BK859)):gb859≠gb861));have n7_:=qal.mk ((by rw[hg];exact Nat.ne_of_gt (qao (g:=gb859) (o:=.cells #[.slice A0_0 l0_0.length c0_0,.int .i64 a0_1] 113 (0,0)) (za0 BK859)):gb861≠gb859));have n8_:=qal.mk ((by rw[hg];exact Nat.ne_of_lt (qao (g:=gb860) (o:=.cells #[.slice none 0 0,.int .i64 0] 73 (0,0)) (za0 BK860)):gb860≠gb861));have n9_:=qal.mk ((by rw[hg];exact Nat.ne_of_gt (qao (g:=gb860) (o:=.cells #[.slice none 0 0,.int .i64 0] 73 (0,0)) (za0 BK860)):gb861≠gb860));clear BK859;clear BK860;clear HB;have BK859:=n0_;have BK860:=n1_;have HB:=n2_;have BK861:=n3_;have GW861:=n4_;have GE861:=n5_;have NB859_861:=n6_;have NB861_859:=n7_;have NB860_861:=n8_;have NB861_860:=n9_;clear n0_ n1_ n2_ n3_ n4_ n5_ n6_ n7_ n8_ n9_;clear hb hbox hg;have hnb6:=NB859_860.out;have hnc6:=NB860_859.out;have hnb7:=NB859_861.out;have hnc7:=NB861_859.out;have hcz8_0:w5.cell? ⟨gb859,0,none⟩=some (.slice A0_0 l0_0.length c0_0):=(qab BK859.out 0).trans rfl;have hcz8_1:w5.cell? ⟨gb859,1,none⟩=some (.int .i64 a0_1):=(qab BK859.out 1).trans rfl;have hfz8_0:=qaa BK859.out 0;have hfz8_1:=qaa BK859.out 1)|((with_reducible refine qai (f:=81) rfl ?_);refine qau (some 6) rfl rfl Try.func81 (by kernel_rfl) rfl #[.slice A0_0 l0_0.length c0_0] rfl (by(try simp only[List.map_toArray,List.map_cons,List.map_nil]);first|done|rfl|(simp only[List.length_drop,List.length_take];rfl)) ?_;(with_reducible refine(laws_toIntS.calls k _ _ l0_0 t862 _ ?side1 ?side2 A2.out).mono ?_);(case side1=>repeat(first|exact(Kd.C_below HR0_0.out HB.out)|(with_reducible refine Kd.C_alloc ?_ _)|(with_reducible refine Kd.C_drewN ?_ _)|(with_reducible refine Kd.C_drew ?_)));(case side2=>exact HC0_0.out);rintro e w9 ⟨v863,rfl,ho0,hb⟩;refine⟨_,rfl,?_⟩;have n0_:=qal.mk (Kd.R_lower ho0 (qad (za6 HB GE859 GE860 GE861)));have n1_:=qal.mk (qac (g:=gb859) (o:=.cells #[.slice A0_0 l0_0.length c0_0,.int .i64 a0_1] 113 (0,0)) (za0 BK859) hb);have n2_:=qal.mk (qac (g:=gb860) (o:=.cells #[.slice none 0 0,.int .i64 0] 73 (0,0)) (za0 BK860) hb);have n3_:=qal.mk (qac (g:=gb861) (o:=.cells #[.slice none 0 0,.int .i64 0] 73 (0,0)) (za0 BK861) hb);have n4_:=qal.mk (qae (za6 HB GE859 GE860 GE861) hb);clear BK859;clear BK860;clear BK861;clear HB;have HO864:=n0_;have BK859:=n1_;have BK860:=n2_;have BK861:=n3_;have HB:=n4_;clear n0_ n1_ n2_ n3_ n4_;(try clear hb);(try clear hb2);(try clear hk);(try clear hi);(try clear ho0);obtain⟨Ao10,co10,eo10⟩:=Kd.R_slice HO864.out;subst eo10;have hnb11:=NB861_860.out;have hnc11:=NB860_861.out;have hcz12_0:w9.cell? ⟨gb861,0,none⟩=some (.slice none 0 0):=(qab BK861.out 0).trans rfl;have hcz12_1:w9.cell? ⟨gb861,1,none⟩=some (.int .i64 0):=(qab BK861.out 1).trans rfl;have hfz12_0:=qaa BK861.out 0;have hfz12_1:=qaa BK861.out 1;have hcz13_0:w9.cell? ⟨gb859,0,none⟩=some (.slice A0_0 l0_0.length c0_0):=(qab BK859.out 0).trans rfl;have hcz13_1:w9.cell? ⟨gb859,1,none⟩=some (.int .i64 a0_1):=(qab BK859.out 1).trans rfl;have hfz13_0:=qaa BK859.out 0;have hfz13_1:=qaa BK859.out 1;have hcz14_0:w9.cell? ⟨gb860,0,none⟩=some (.slice none 0 0):=(qab BK860.out 0).trans rfl;have hcz14_1:w9.cell? ⟨gb860,1,none⟩=some (.int .i64 0):=(qab BK860.out 1).trans rfl;have hfz14_0:=qaa BK860.out 0;have hfz14_1:=qaa BK860.out 1))
 refine bodyPost_ret (results_cell_row rfl _ _ gb860 73 #[.slice Ao10 t862.length co10,.int .i64 a0_1] (0,0) _ rfl (by(with_reducible repeat(first|refine qag ?_ _|refine qah ?_|refine qaf ?_ _));refine qan (cs:=#[.slice Ao10 t862.length co10,.int .i64 0]) ?_ 1 _ rfl;(with_reducible repeat(first|refine qag ?_ _|refine qah ?_|refine qaf ?_ _));refine qan (cs:=#[.slice none 0 0,.int .i64 0]) ?_ 0 _ rfl;(with_reducible repeat(first|refine qag ?_ _|refine qah ?_|refine qaf ?_ _));refine blk_far ?_ NB860_861.out _;(with_reducible repeat(first|refine qag ?_ _|refine qah ?_|refine qaf ?_ _));refine blk_far ?_ NB860_861.out _;(with_reducible repeat(first|refine qag ?_ _|refine qah ?_|refine qaf ?_ _));exact BK860.out) Try.underlying73 rfl (by kernel_rfl)) rfl ?_
 exact⟨_,za9,by(with_reducible repeat(first|apply Kd.R_alloc|apply Kd.R_drewN|apply Kd.R_drew));exact Kd.R_mono (Kd.R_far (p:=⟨gb860,1,none⟩) (Kd.R_far (p:=⟨gb860,0,none⟩) (Kd.R_far (p:=⟨gb861,1,none⟩) (Kd.R_far (p:=⟨gb861,0,none⟩) (Kd.R_types (Kd.R_types HO864.out BK861.out (by decide)) BK860.out (by decide)) (fun _ hk=>hk.1.2) (.slice Ao10 t862.length co10)) (fun _ hk=>hk.1.2) (.int .i64 a0_1)) (fun _ hk=>hk.2) (.slice Ao10 t862.length co10)) (fun _ hk=>hk.2) (.int .i64 a0_1)) (fun _ hk=>trivial),za6 HB GE859 GE860 GE861⟩
def laws_toTripS.l0:Nat→List (S113)→List (S73)→Int→Option ((List (S73)))
 |0,_,_,_=>none
 |k+1,x0,x3,x4=>if x4<(x0.length:Int) then(if 0≤x4 then((laws_toTrip.f k ((rd_T113 x0 x4).f0) ((rd_T113 x0 x4).f1)).bind fun bt869=>(if x4<(x3.length:Int) then(laws_toTripS.l0 k x0 (x3.set (x4:Int).toNat (⟨bt869.1,bt869.2⟩:S73)) (wrap64 (x4+1))) else(none))) else(none)) else(some x3)
def laws_toTripS.f (k:Nat) (l0:List (S113)):Option ((List (S73))):=if 0≤(l0.length:Int) then(if((l0.length:Int):Int).toNat≤8796093022208 then(laws_toTripS.l0 k l0 (List.replicate ((l0.length:Int):Int).toNat z73) 0) else(none)) else(none)
theorem laws_toTripS.mono_l:∀k,(∀y0 y1 y2,LeO (laws_toTripS.l0 k y0 y1 y2) (laws_toTripS.l0 (k+1) y0 y1 y2))
 |0=>fun _ _ _ r h=>by simp[laws_toTripS.l0] at h
 |k+1=>by
  have ih0:=laws_toTripS.mono_l k
  ·intro y0 y1 y2
   unfold laws_toTripS.l0
   repeat' first
   |(with_reducible exact ih0 _ _ _)
   |(with_reducible exact laws_toTrip.mono _ _ _)
   |(with_reducible exact LeO.refl _)
   |(with_reducible exact LeO.none _)
   |(with_reducible refine LeO.ite ?_ ?_)
   |(with_reducible refine LeO.bind ?_ (fun _=>?_))
   |exact ih0 _ _ _
   |exact laws_toTrip.mono _ _ _
   |exact LeO.none _
   |refine LeO.ite ?_ ?_
   |refine LeO.bind ?_ (fun _=>?_)
theorem laws_toTripS.mono:∀a0 k,LeO (laws_toTripS.f k a0) (laws_toTripS.f (k+1) a0):=by
 intro a0 k
 have ih0:=laws_toTripS.mono_l k
 unfold laws_toTripS.f
 repeat' first
   |(with_reducible exact ih0 _ _ _)
   |(with_reducible exact laws_toTrip.mono _ _ _)
   |(with_reducible exact LeO.refl _)
   |(with_reducible exact LeO.none _)
   |(with_reducible refine LeO.ite ?_ ?_)
   |(with_reducible refine LeO.bind ?_ (fun _=>?_))
   |exact ih0 _ _ _
   |exact laws_toTrip.mono _ _ _
   |exact LeO.none _
   |refine LeO.ite ?_ ?_
   |refine LeO.bind ?_ (fun _=>?_)
set_option maxHeartbeats 8000000 in
set_option maxRecDepth 100000 in
theorem laws_toTripS.calls (k:Nat) (A0:Option Addr) (c0:Nat) (l0:List (S113)) (r:List (S73)) (w:World) (hr0:Kd.C k113 w A0 l0.length l0) (hc0:l0.length≤c0) (h:laws_toTripS.f k l0=some r) :
  Calls Try.prog 50 #[.slice A0 l0.length c0] w fun e w'=>∃v0_:Value,e=.returned (v0_)∧Kd.S k73 73 w' w.heap.size (fun _=>True) v0_ r∧Below w.heap.size w w':=by
 have hu113:=Try.underlying113
 have hu73:=Try.underlying73
 have HR0:=qal.mk hr0
 have HC0:=qal.mk hc0
 clear hr0 hc0
 have HB:=qal.mk (Below.refl w.heap.size w)
 have H:(if 0≤(l0.length:Int) then(if((l0.length:Int):Int).toNat≤8796093022208 then(laws_toTripS.l0 k l0 (List.replicate ((l0.length:Int):Int).toNat z73) 0) else(none)) else(none))=some r:=h
 clear h
 by_cases c2:0≤(l0.length:Int)
 ·rw[if_pos c2] at H
  have c2b0:=eq_true c2
  have c2b1:decide (0≤(l0.length:Int))=true:=decide_eq_true c2
  clear c2
  by_cases c3:((l0.length:Int):Int).toNat≤8796093022208
  ·rw[if_pos c3] at H
   have c3b0:=eq_true c3
   have c3b1:decide (((l0.length:Int):Int).toNat≤8796093022208)=true:=decide_eq_true c3
   clear c3
   obtain⟨y865,hy865⟩:∃y_:List (S73),y_=(List.replicate ((l0.length:Int):Int).toNat z73):=⟨_,rfl⟩
   replace H:(laws_toTripS.l0 k l0 y865 0)=some r:=by first|(rw[hy865];with_reducible exact H)|(have H2_:=(Option.bind_some _ _).symm.trans H;rw[hy865];with_reducible exact H2_)|(have H2_:=(Option.bind_some _ _).symm.trans H;with_reducible exact H2_)|with_reducible exact H|(rw[hy865];exact H)|exact H
   have Ny865:=qal.mk hy865
   clear hy865
   have H':=qal.mk H
   clear H
   go_enter Try.func50,Try.ntmps50
   go_wp2_with(first|((with_reducible refine qak (N:=7) rfl ?_);refine Kd.S_make k73 _ 73 rfl (N:=7) rfl 69 _ _ rfl (l0.length:Int) rfl rfl Try.underlying69 (.agg #[(.slice none 0 0),(.int .i64 0)]) 32 info73 rfl (by decide) (by omega) z73 (ok:=fun _=>True) (okp:=fun _=>True) (k73_mkM _ _ _ z73 (Kd.R_nil _ _ _ _ _)) (fun _ hk=>hk) trivial (of_decide_eq_true (za8)) (Nat.le_trans (Nat.mul_le_mul_right _ (of_decide_eq_true (za8):(l0.length:Int).toNat≤8796093022208)) (by omega)) (Below.refl _ _) (Nat.le_refl _) ?_;intro v866 w4 ho5 hb hg_ hnew_;clear hg_ hnew_;(first|rw[←Ny865.out] at ho5|(simp only[Int.reduceToNat] at ho5;rw[←Ny865.out] at ho5));have n0_:=qal.mk (Kd.S_lower ho5 (qad (za2 HB)));have n1_:=qal.mk (qae (za2 HB) hb);clear HB;have HO867:=n0_;have HB:=n1_;clear n0_ n1_;clear hb ho5))
   go_loopg [4] k (fun kq v4 w'=>∃(x3_1:List (S73)) (x4_1:Int),v4=.int .i64 x4_1∧qal (laws_toTripS.l0 kq l0 x3_1 x4_1=some r)∧qal (kq≤k)∧qal (Kd.S k73 73 w' w.heap.size (fun _=>True) v866 x3_1)∧qal (Below w.heap.size w w'))
   case atStart=>exact⟨(y865),(0),(za22),H',⟨Nat.le_refl _⟩,⟨za10 HO867⟩,⟨za2 HB⟩⟩
   case round=>
    clear H'
    try clear c2
    try clear c2b0
    try clear c2b1
    try clear p2
    try clear c3
    try clear c3b0
    try clear c3b1
    try clear c5
    obtain⟨x3_1,x4_1,rfl,HA,HK1,HO_3,HB⟩:=hrel
    cases gk with
    |zero=>exact absurd HA.out (by simp[laws_toTripS.l0])
    |succ k1=>
     have H:=HA.out
     clear HA
     simp only[laws_toTripS.l0] at H
     by_cases c6:x4_1<(l0.length:Int)
     ·rw[if_pos c6] at H
      have c6b0:decide (x4_1<(l0.length:Int))=true:=decide_eq_true c6
      clear c6
      by_cases c7:0≤x4_1
      ·rw[if_pos c7] at H
       have c7b0:decide (0≤x4_1)=true:=decide_eq_true c7
       clear c7
       replace H:=Option.bind_eq_some_iff.mp H
       obtain⟨⟨t869,t872⟩,A80,H⟩:=H
       replace H:(if x4_1<(x3_1.length:Int) then(laws_toTripS.l0 k1 l0 (x3_1.set (x4_1:Int).toNat (⟨t869,t872⟩:S73)) (wrap64 (x4_1+1))) else(none))=some r:=H
       have A8:=qal.mk A80
       clear A80
       by_cases c9:x4_1<(x3_1.length:Int)
       ·rw[if_pos c9] at H
        have c9b0:decide (x4_1<(x3_1.length:Int))=true:=decide_eq_true c9
        clear c9
        obtain⟨y873,hy873⟩:∃y_:List (S73),y_=(x3_1.set (x4_1:Int).toNat (⟨t869,t872⟩:S73)):=⟨_,rfl⟩
        replace H:(laws_toTripS.l0 k1 l0 y873 (wrap64 (x4_1+1)))=some r:=by first|(rw[hy873];with_reducible exact H)|(have H2_:=(Option.bind_some _ _).symm.trans H;rw[hy873];with_reducible exact H2_)|(have H2_:=(Option.bind_some _ _).symm.trans H;with_reducible exact H2_)|with_reducible exact H|(rw[hy873];exact H)|exact H
        have Ny873:=qal.mk hy873
        clear hy873
        have H':=qal.mk H
        clear H
        have p868:0≤(x4_1:Int):=of_decide_eq_true (za8)
        have q868:x4_1<(l0.length:Int):=of_decide_eq_true (za8)
        obtain⟨ad868,A868_0,c868_0,e868,hx868_0,hx868_1,hl868_0,hi868_0⟩:=at_T113 HR0.out x4_1 p868 q868
        cases e868
        have hxo868_0:=qal.mk hx868_0
        replace hx868_0:=(HB.out.cell (World.block_lt_of_cell? w _ hx868_0)).trans hx868_0
        replace hx868_1:=(HB.out.cell (World.block_lt_of_cell? w _ hx868_1)).trans hx868_1
        have HR868_0:=qal.mk hi868_0
        have HC868_0:=qal.mk hl868_0
        clear hi868_0 hl868_0
        replace p868:=eq_true p868
        replace q868:=eq_true q868
        go_wp2_with(first|((with_reducible refine qai (f:=94) rfl ?_);refine qau (some 20) rfl rfl Try.func94 (by kernel_rfl) rfl #[.agg #[.slice A868_0 ((rd_T113 l0 x4_1).f0).length c868_0,.int .i64 ((rd_T113 l0 x4_1).f1)]] rfl (by(try simp only[List.map_toArray,List.map_cons,List.map_nil]);first|done|rfl|(simp only[List.length_drop,List.length_take];rfl)) ?_;(with_reducible refine(laws_toTrip.calls k1 _ _ ((rd_T113 l0 x4_1).f0) ((rd_T113 l0 x4_1).f1) t869 t872 _ ?side1 ?side2 A8.out).mono ?_);(case side1=>repeat(first|exact(Kd.C_below HR868_0.out HB.out)|(with_reducible refine Kd.C_alloc ?_ _)|(with_reducible refine Kd.C_drewN ?_ _)|(with_reducible refine Kd.C_drew ?_)));(case side2=>exact HC868_0.out);rintro e w11 ⟨v870,rfl,ho0,hb⟩;refine⟨_,rfl,?_⟩;have hst_v870:∀(W_:World) (a_:Addr) (m_:Mode),(store a_ v870 m_).run Try.prog W_=stored Try.prog W_ a_ v870 m_:=fun W_ a_ m_=>run_store _ _ _ _ _ (Kd.R_val ho0).2;have n0_:=qal.mk (Kd.S_elder' (za10 HO_3) (Kd.R_base ho0) hb);have n1_:=qal.mk (Kd.R_lower ho0 (qad (za2 HB)));have n2_:=qal.mk (qae (za2 HB) hb);clear HO_3;clear HB;have HO_3:=n0_;have HO871:=n1_;have HB:=n2_;clear n0_ n1_ n2_;(try clear hb);(try clear hb2);(try clear hk);(try clear hi);(try clear ho0);have p10:0≤(x4_1:Int):=of_decide_eq_true (za8);have q10:(x4_1:Int)<((x3_1.length:Int):Int):=of_decide_eq_true (za8);obtain⟨go10,co10,eo10,gb10,gl10,cl10,HG10⟩:=Kd.S_form HO_3.out (by omega);(first|cases eo10|(injection eo10 with ea_ en_ ec_;(first|subst ea_|(injection ea_ with ea_;subst ea_));subst ec_;clear en_));have GB10:=qal.mk gb10;have GG10:=qal.mk HG10;clear gb10 gl10 HG10;obtain⟨_,ce10,hcl10,hM10,hcc10,hfr10,_,_⟩:=Kd.S_elem HO_3.out z73 (x4_1:Int) p10 q10;obtain⟨ve10_0,rfl,ge10_0⟩:=k73_openM hM10;have hx10_0:w11.cell? ⟨go10,(x4_1:Int).toNat*2,none⟩=some (ve10_0):=hcc10 0 _ rfl;have hx10_1:w11.cell? ⟨go10,(x4_1:Int).toNat*2+1,none⟩=some (.int .i64 ((rd_T73 x3_1 x4_1).f1)):=hcc10 1 _ rfl;have hf10_0:w11.frozen? ⟨go10,(x4_1:Int).toNat*2,none⟩=false:=hfr10 0;have hf10_1:w11.frozen? ⟨go10,(x4_1:Int).toNat*2+1,none⟩=false:=hfr10 1;clear hcl10 hcc10 hfr10 hM10;replace p10:=eq_true p10;replace q10:=eq_true q10;have n_:=qal.mk (Kd.S_mono (ok':=(fun k_=>some k_≠(v870:Value).ownBlock)) HO_3.out (fun k_ hk=>hk.2));clear HO_3;have HO_3:=n_;clear n_;have HX12:=qal.mk (show Kd.S k73 73 w11 w.heap.size (fun k_=>((fun _=>True)) k_∧¬((fun k_=>some k_=(v870:Value).ownBlock)) k_) (.slice (some ⟨go10,0,none⟩) x3_1.length co10) x3_1 from(by(with_reducible repeat(first|apply Kd.S_alloc|apply Kd.S_drewN|apply Kd.S_drew));exact Kd.S_mono HO_3.out (fun k_ hk=>⟨trivial,fun e_=>hk e_⟩)));obtain⟨oki12,ce12,hcl12,hM12,hcc12,hfr12,hoki12,hH12⟩:=Kd.S_elem HX12.out z73 (x4_1:Int) (of_decide_eq_true (za8)) (by have h_:(x4_1:Int)<((x3_1.length:Int):Int):=of_decide_eq_true (za8);first|exact h_|(have e_:=(Kd.S_reads' HO_3.out).1;omega)|simpa using h_);obtain⟨ve12_0,rfl,ge12_0⟩:=k73_openM hM12;have HP12:=Kd.S_seg hH12 (of_decide_eq_true (za8)) (by have h_:(x4_1:Int)<((x3_1.length:Int):Int):=of_decide_eq_true (za8);first|exact h_|(have e_:=(Kd.S_reads' HO_3.out).1;omega)|simpa using h_) (seg:=[v870,.int .i64 t872]) (j:=0) (show 2≤2 from by decide) (x':=(⟨t869,t872⟩:S73)) (k73_mkM _ _ _ (⟨t869,t872⟩:S73) (Kd.R_mono (Kd.R_tight rfl (Kd.R_mono (ok':=fun k_=>((fun _=>True)) k_∧k_≠go10) (Kd.R_apart' (HO871.out) (Kd.S_typed HO_3.out) (by decide)) (fun k_ hk=>⟨trivial,fun e_=>(hk.2) (by rw[e_];rfl)⟩))) (fun _ h_=>Or.inr (h_)))) (fun _ hk=>hk) (fun k_ hk_=>((Kd.R_mono (ok':=fun k_=>((fun _=>True)) k_∧k_≠go10) (Kd.R_apart' (HO871.out) (Kd.S_typed HO_3.out) (by decide)) (fun k_ hk=>⟨trivial,fun e_=>(hk.2) (by rw[e_];rfl)⟩))).1 k_ hk_.symm);have hx12_0:=hcc12 0 _ rfl;(try simp only[show(k73).sz=2 from rfl,Nat.mul_one,Nat.add_zero] at hx12_0);have hf12_0:=hfr12 0;(try simp only[show(k73).sz=2 from rfl,Nat.mul_one,Nat.add_zero] at hf12_0);have hx12_1:=hcc12 1 _ rfl;(try simp only[show(k73).sz=2 from rfl,Nat.mul_one,Nat.add_zero] at hx12_1);have hf12_1:=hfr12 1;(try simp only[show(k73).sz=2 from rfl,Nat.mul_one,Nat.add_zero] at hf12_1);clear hcl12 hcc12 hfr12 hM12 hoki12 hH12)|((with_reducible refine gate_store (t:=73) (p:=21) rfl ?_);refine store_event (t:=73) (p:=21) (v:=?vo_w13) (w1:=((w11.setCell ⟨go10,(x4_1:Int).toNat*2,none⟩ (v870)).setCell ⟨go10,(x4_1:Int).toNat*2+1,none⟩ (.int .i64 t872))) ?hg ?ho ?hn ?hr ?_;(case ho=>rfl);(case hg=>rfl);(case hn=>rfl);(case hr=>first|(go_simp;done)|(go_simp;rfl));intro w13 hw;have hg:w11.grownBy w13 (some go10):=(by rw[hw];exact HP12.2);have hp_:Kd.S k73 73 w13 w.heap.size (fun _=>True) (.slice (some ⟨go10,0,none⟩) x3_1.length co10) y873:=(by rw[hw,Ny873.out];exact HP12.1);clear HP12;have n0_:=qal.mk (hp_);have n1_:=qal.mk ((by rw[hw];exact qam (qam (HB.out) GB10.out) GB10.out:Below w.heap.size w w13));clear HO_3;clear HB;clear HO871;have HO_3:=n0_;have HB:=n1_;clear n0_ n1_;clear hg hw hp_))
        go_roundg k1
        case measure=>have:=HK1.out;omega
        case rel=>exact⟨(y873),(wrap64 (x4_1+1)),(za22),H',⟨by have:=HK1.out;omega⟩,⟨za10 HO_3⟩,⟨za2 HB⟩⟩
       ·rw[if_neg c9] at H
        exact absurd H (by simp)
      ·rw[if_neg c7] at H
       exact absurd H (by simp)
     ·rw[if_neg c6] at H
      have c6b0:decide (x4_1<(l0.length:Int))=false:=decide_eq_false c6
      clear c6
      obtain rfl:=Option.some.inj H
      go_wp2
      go_ret
      exact⟨_,za9,za10 HO_3,za2 HB⟩
  ·rw[if_neg c3] at H
   exact absurd H (by simp)
 ·rw[if_neg c2] at H
  exact absurd H (by simp)
def impl_stateOf.f (l0:List (S73)) (a1:Int):Option (Int):=(impl_in.f a1 1 (l0.length:Int)).bind fun t874=>(if t874=true then(if 0≤(wrap64 (a1 - 1)) then(if(wrap64 (a1 - 1))<(l0.length:Int) then(some ((rd_T73 l0 (wrap64 (a1 - 1))).f1)) else(none)) else(none)) else(some 0))
set_option maxHeartbeats 8000000 in
set_option maxRecDepth 100000 in
theorem impl_stateOf.calls (A0:Option Addr) (c0:Nat) (l0:List (S73)) (a1:Int) (r:Int) (w:World) (hr0:Kd.C k73 w A0 l0.length l0) (hc0:l0.length≤c0) (h:impl_stateOf.f l0 a1=some r) :
  Calls Try.prog 95 #[.slice A0 l0.length c0,.int .i64 a1] w fun e w'=>e=.returned (.int .i64 r)∧Drawn0 w w':=by
 have HR0:=qal.mk hr0
 have HC0:=qal.mk hc0
 clear hr0 hc0
 have H:((impl_in.f a1 1 (l0.length:Int)).bind fun t874=>(if t874=true then(if 0≤(wrap64 (a1 - 1)) then(if(wrap64 (a1 - 1))<(l0.length:Int) then(some ((rd_T73 l0 (wrap64 (a1 - 1))).f1)) else(none)) else(none)) else(some 0)))=some r:=h
 clear h
 replace H:=Option.bind_eq_some_iff.mp H
 obtain⟨t874,A30,H⟩:=H
 replace H:(if t874=true then(if 0≤(wrap64 (a1 - 1)) then(if(wrap64 (a1 - 1))<(l0.length:Int) then(some ((rd_T73 l0 (wrap64 (a1 - 1))).f1)) else(none)) else(none)) else(some 0))=some r:=H
 have A3:=qal.mk A30
 clear A30
 by_cases c4:t874=true
 ·subst c4
  have H1:(if 0≤(wrap64 (a1 - 1)) then(if(wrap64 (a1 - 1))<(l0.length:Int) then(some ((rd_T73 l0 (wrap64 (a1 - 1))).f1)) else(none)) else(none))=some r:=by rw[if_pos rfl] at H;exact H
  clear H
  have H:=H1
  clear H1
  obtain⟨ji5,hji5⟩:∃j_:Int,(wrap64 (a1 - 1))=j_:=⟨_,rfl⟩
  replace H:(if 0≤(ji5) then(if(ji5)<(l0.length:Int) then(some ((rd_T73 l0 (ji5)).f1)) else(none)) else(none))=some r:=by first|(rw[hji5] at H;exact H)|(simp only[hji5] at H ⊢;exact H)
  (try rw[hji5] at A3)
  have hji5w:(IntKind.i64.wrap (a1 - 1))=ji5:=(qas _).trans hji5
  by_cases c6:0≤(ji5)
  ·rw[if_pos c6] at H
   have c6b0:decide (0≤(ji5))=true:=decide_eq_true c6
   clear c6
   by_cases c7:(ji5)<(l0.length:Int)
   ·rw[if_pos c7] at H
    have c7b0:decide ((ji5)<(l0.length:Int))=true:=decide_eq_true c7
    clear c7
    obtain rfl:=Option.some.inj H
    go_enter Try.func95,Try.ntmps95
    go_wp2_with(first|((with_reducible refine qai (f:=60) rfl ?_);refine qau (some 8) rfl rfl Try.func60 (by kernel_rfl) rfl #[.int .i64 a1,.int .i64 1,.int .i64 (l0.length:Int)] rfl (by(try simp only[List.map_toArray,List.map_cons,List.map_nil]);first|done|rfl|(simp only[List.length_drop,List.length_take];rfl)) ?_;(with_reducible refine(impl_in.calls a1 1 (l0.length:Int) true _ A3.out).mono ?_);rintro e w' ⟨rfl,⟨nd,rfl⟩⟩;refine⟨_,rfl,?_⟩;have p875:0≤((ji5):Int):=of_decide_eq_true (za8);have q875:(ji5)<(l0.length:Int):=of_decide_eq_true (za8);obtain⟨ad875,A875_0,c875_0,e875,hx875_0,hx875_1,hl875_0,hi875_0⟩:=at_T73 HR0.out (ji5) p875 q875;cases e875;have hxo875_0:=qal.mk hx875_0;have HR875_0:=qal.mk hi875_0;have HC875_0:=qal.mk hl875_0;clear hi875_0 hl875_0;replace p875:=eq_true p875;replace q875:=eq_true q875))
    go_ret
    exact⟨by first|rfl|(simp;done)|(simp only[←hji5]<;>(first|rfl|simp))|(simp[*];done),za44⟩
   ·rw[if_neg c7] at H
    exact absurd H (by simp)
  ·rw[if_neg c6] at H
   exact absurd H (by simp)
 ·replace c4:=Bool.eq_false_iff.mpr c4
  subst c4
  have H1:(some 0)=some r:=by rw[if_neg (show ¬(false=true) by decide)] at H;exact H
  clear H
  have H:=H1
  clear H1
  obtain rfl:=Option.some.inj H
  go_enter Try.func95,Try.ntmps95
  go_wp2_with(first|((with_reducible refine qai (f:=60) rfl ?_);refine qau (some 8) rfl rfl Try.func60 (by kernel_rfl) rfl #[.int .i64 a1,.int .i64 1,.int .i64 (l0.length:Int)] rfl (by(try simp only[List.map_toArray,List.map_cons,List.map_nil]);first|done|rfl|(simp only[List.length_drop,List.length_take];rfl)) ?_;(with_reducible refine(impl_in.calls a1 1 (l0.length:Int) false _ A3.out).mono ?_);rintro e w' ⟨rfl,⟨nd,rfl⟩⟩;refine⟨_,rfl,?_⟩))
  go_ret
  exact⟨za22,za44⟩
end Go.Proofs.Ytjccnaklodbbfaa.Print
