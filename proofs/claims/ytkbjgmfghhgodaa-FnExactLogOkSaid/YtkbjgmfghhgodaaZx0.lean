-- Written by squeeze.py, a program of this session, out of what print.sh and myprint.py had printed: cut to what is used, narrowed. Not trusted, Lean checks it.
import Derived.Test.YtkbjgmfghhgodaaZK
import Derived.Test.YtkbjgmfghhgodaaZj0
namespace Go.Proofs.Ytkbjgmfghhgodaa.Print
open Go.RowKit Go.Proofs.YtkbjgmfghhgodaaW.PrintWords Go.Proofs.YtkbjgmfghhgodaaW.PrintLast Go.Proofs.YtkbjgmfghhgodaaW.PrintMore
attribute [local go_sem] max2_int min2_int max_two min_two max_three min_three max_four min_four
set_option linter.unusedVariables false
set_option linter.unusedSimpArgs false
def laws_szRecS.l0:Nat→List (S42)→Int→Int→Option (Int)
 |0,_,_,_=>none
 |k+1,x0,x1,x5=>if x5<(x0.length:Int) then(if 0≤x5 then((laws_szRec.f ((rd_T42 x0 x5).f0) ((rd_T42 x0 x5).f1) ((rd_T42 x0 x5).f2) x1).bind fun t620=>(if t620<0 then(some (-1)) else(laws_szRecS.l0 k x0 t620 (wrap64 (x5+1))))) else(none)) else(some x1)
def laws_szRecS.f (k:Nat) (l0:List (S42)) (a1:Int):Option (Int):=if(wrap64 (a1 - (l0.length:Int)))<0 then(some (-1)) else(laws_szRecS.l0 k l0 (wrap64 (a1 - (l0.length:Int))) 0)
theorem laws_szRecS.mono_l:∀k,(∀y0 y1 y2,LeO (laws_szRecS.l0 k y0 y1 y2) (laws_szRecS.l0 (k+1) y0 y1 y2))
 |0=>fun _ _ _ r h=>by simp[laws_szRecS.l0] at h
 |k+1=>by
  have ih0:=laws_szRecS.mono_l k
  ·intro y0 y1 y2
   unfold laws_szRecS.l0
   repeat' first
   |(with_reducible exact ih0 _ _ _)
   |(with_reducible exact LeO.refl _)
   |(with_reducible exact LeO.none _)
   |(with_reducible refine LeO.ite ?_ ?_)
   |(with_reducible refine LeO.bind ?_ (fun _=>?_))
   |exact ih0 _ _ _
   |exact LeO.none _
   |refine LeO.ite ?_ ?_
   |refine LeO.bind ?_ (fun _=>?_)
theorem laws_szRecS.mono:∀a0 a1 k,LeO (laws_szRecS.f k a0 a1) (laws_szRecS.f (k+1) a0 a1):=by
 intro a0 a1 k
 have ih0:=laws_szRecS.mono_l k
 unfold laws_szRecS.f
 repeat' first
   |(with_reducible exact ih0 _ _ _)
   |(with_reducible exact LeO.refl _)
   |(with_reducible exact LeO.none _)
   |(with_reducible refine LeO.ite ?_ ?_)
   |(with_reducible refine LeO.bind ?_ (fun _=>?_))
   |exact ih0 _ _ _
   |exact LeO.none _
   |refine LeO.ite ?_ ?_
   |refine LeO.bind ?_ (fun _=>?_)
set_option maxHeartbeats 8000000 in
set_option maxRecDepth 100000 in
theorem laws_szRecS.calls (k:Nat) (A0:Option Addr) (c0:Nat) (l0:List (S42)) (a1:Int) (r:Int) (w:World) (hr0:Kd.C k42 w A0 l0.length l0) (hc0:l0.length≤c0) (h:laws_szRecS.f k l0 a1=some r) :
  Calls Try.prog 79 #[.slice A0 l0.length c0,.int .i64 a1] w fun e w'=>e=.returned (.int .i64 r)∧Below w.heap.size w w':=by
 have hu42:=Try.underlying42
 have HR0:=qbb.mk hr0
 have HC0:=qbb.mk hc0
 clear hr0 hc0
 have HB:=qbb.mk (Below.refl w.heap.size w)
 have H:(if(wrap64 (a1 - (l0.length:Int)))<0 then(some (-1)) else(laws_szRecS.l0 k l0 (wrap64 (a1 - (l0.length:Int))) 0))=some r:=h
 clear h
 by_cases c3:(wrap64 (a1 - (l0.length:Int)))<0
 ·rw[if_pos c3] at H
  have c3b0:decide ((wrap64 (a1 - (l0.length:Int)))<0)=true:=decide_eq_true c3
  clear c3
  obtain rfl:=Option.some.inj H
  go_enter Try.func79,Try.ntmps79
  go_wp2
  go_ret
  exact⟨by first|rfl|(simp[qan,qam]<;>rfl)|(simp[*,qan,qam]<;>rfl),by repeat(first|(with_reducible first|exact HB.out|apply qac|apply qaa|apply qab)|exact HB.out)⟩
 ·rw[if_neg c3] at H
  have c3b0:decide ((wrap64 (a1 - (l0.length:Int)))<0)=false:=decide_eq_false c3
  clear c3
  have H':=qbb.mk H
  clear H
  go_enter Try.func79,Try.ntmps79
  go_wp2
  go_loopg [1,5] k (fun kq v1 v5 w'=>∃(x1_1:Int) (x5_1:Int),v1=.int .i64 x1_1∧v5=.int .i64 x5_1∧qbb (laws_szRecS.l0 kq l0 x1_1 x5_1=some r)∧qbb (kq≤k)∧qbb (Below w.heap.size w w'))
  case atStart=>exact⟨(wrap64 (a1 - (l0.length:Int))),(0),(by first|rfl|(simp;done)|(simp[*];done)),(by first|rfl|(simp;done)|(simp[*];done)),H',⟨Nat.le_refl _⟩,⟨by repeat(first|(with_reducible first|exact HB.out|apply qac|apply qaa|apply qab)|exact HB.out)⟩⟩
  case round=>
   clear H'
   try clear p2
   try clear c3
   try clear c3b0
   obtain⟨x1_1,x5_1,rfl,rfl,HA,HK1,HB⟩:=hrel
   cases gk with
   |zero=>exact absurd HA.out (by simp[laws_szRecS.l0])
   |succ k1=>
    have H:=HA.out
    clear HA
    simp only[laws_szRecS.l0] at H
    by_cases c4:x5_1<(l0.length:Int)
    ·rw[if_pos c4] at H
     have c4b0:decide (x5_1<(l0.length:Int))=true:=decide_eq_true c4
     clear c4
     by_cases c5:0≤x5_1
     ·rw[if_pos c5] at H
      have c5b0:decide (0≤x5_1)=true:=decide_eq_true c5
      clear c5
      replace H:=Option.bind_eq_some_iff.mp H
      obtain⟨t620,A60,H⟩:=H
      replace H:(if t620<0 then(some (-1)) else(laws_szRecS.l0 k1 l0 t620 (wrap64 (x5_1+1))))=some r:=H
      have A6:=qbb.mk A60
      clear A60
      by_cases c7:t620<0
      ·rw[if_pos c7] at H
       have c7b0:decide (t620<0)=true:=decide_eq_true c7
       clear c7
       obtain rfl:=Option.some.inj H
       have p619:0≤(x5_1:Int):=of_decide_eq_true (by first|(with_reducible assumption)|assumption)
       have q619:x5_1<(l0.length:Int):=of_decide_eq_true (by first|(with_reducible assumption)|assumption)
       obtain⟨ad619,A619_2,c619_2,e619,hx619_0,hx619_1,hx619_2,hl619_2,hi619_2⟩:=at_T42 HR0.out x5_1 p619 q619
       cases e619
       have hxo619_2:=qbb.mk hx619_2
       replace hx619_0:=(HB.out.cell (World.block_lt_of_cell? w _ hx619_0)).trans hx619_0
       replace hx619_1:=(HB.out.cell (World.block_lt_of_cell? w _ hx619_1)).trans hx619_1
       replace hx619_2:=(HB.out.cell (World.block_lt_of_cell? w _ hx619_2)).trans hx619_2
       have HR619_2:=qbb.mk hi619_2
       have HC619_2:=qbb.mk hl619_2
       clear hi619_2 hl619_2
       replace p619:=eq_true p619
       replace q619:=eq_true q619
       go_wp2_with(first|((with_reducible refine qao (f:=24) rfl ?_);refine qax (some 23) rfl rfl Try.func24 (by kernel_rfl) rfl #[.agg #[.int .i64 ((rd_T42 l0 x5_1).f0),.int .i64 ((rd_T42 l0 x5_1).f1),.slice A619_2 ((rd_T42 l0 x5_1).f2).length c619_2],.int .i64 x1_1] rfl (by(try simp only[List.map_toArray,List.map_cons,List.map_nil]);first|done|rfl|(simp only[List.length_drop,List.length_take];rfl)) ?_;(with_reducible refine(laws_szRec.calls ((rd_T42 l0 x5_1).f0) ((rd_T42 l0 x5_1).f1) _ _ ((rd_T42 l0 x5_1).f2) x1_1 t620 _ ?side1 ?side2 A6.out).mono ?_);(case side1=>repeat(first|exact(Kd.C_below HR619_2.out HB.out)|(with_reducible refine Kd.C_alloc ?_ _)|(with_reducible refine Kd.C_drewN ?_ _)|(with_reducible refine Kd.C_drew ?_)));(case side2=>exact HC619_2.out);rintro e w8 ⟨rfl,hb⟩;refine⟨_,rfl,?_⟩;have n0_:=qbb.mk (qak (by repeat(first|(with_reducible first|exact HB.out|apply qac|apply qaa|apply qab)|exact HB.out)) hb);clear HB;have HB:=n0_;clear n0_;(try clear hb);(try clear hb2);(try clear hk);(try clear hi)))
       go_ret
       exact⟨by first|rfl|(simp[qan,qam]<;>rfl)|(simp[*,qan,qam]<;>rfl),by repeat(first|(with_reducible first|exact HB.out|apply qac|apply qaa|apply qab)|exact HB.out)⟩
      ·rw[if_neg c7] at H
       have c7b0:decide (t620<0)=false:=decide_eq_false c7
       clear c7
       have H':=qbb.mk H
       clear H
       have p619:0≤(x5_1:Int):=of_decide_eq_true (by first|(with_reducible assumption)|assumption)
       have q619:x5_1<(l0.length:Int):=of_decide_eq_true (by first|(with_reducible assumption)|assumption)
       obtain⟨ad619,A619_2,c619_2,e619,hx619_0,hx619_1,hx619_2,hl619_2,hi619_2⟩:=at_T42 HR0.out x5_1 p619 q619
       cases e619
       have hxo619_2:=qbb.mk hx619_2
       replace hx619_0:=(HB.out.cell (World.block_lt_of_cell? w _ hx619_0)).trans hx619_0
       replace hx619_1:=(HB.out.cell (World.block_lt_of_cell? w _ hx619_1)).trans hx619_1
       replace hx619_2:=(HB.out.cell (World.block_lt_of_cell? w _ hx619_2)).trans hx619_2
       have HR619_2:=qbb.mk hi619_2
       have HC619_2:=qbb.mk hl619_2
       clear hi619_2 hl619_2
       replace p619:=eq_true p619
       replace q619:=eq_true q619
       go_wp2_with(first|((with_reducible refine qao (f:=24) rfl ?_);refine qax (some 23) rfl rfl Try.func24 (by kernel_rfl) rfl #[.agg #[.int .i64 ((rd_T42 l0 x5_1).f0),.int .i64 ((rd_T42 l0 x5_1).f1),.slice A619_2 ((rd_T42 l0 x5_1).f2).length c619_2],.int .i64 x1_1] rfl (by(try simp only[List.map_toArray,List.map_cons,List.map_nil]);first|done|rfl|(simp only[List.length_drop,List.length_take];rfl)) ?_;(with_reducible refine(laws_szRec.calls ((rd_T42 l0 x5_1).f0) ((rd_T42 l0 x5_1).f1) _ _ ((rd_T42 l0 x5_1).f2) x1_1 t620 _ ?side1 ?side2 A6.out).mono ?_);(case side1=>repeat(first|exact(Kd.C_below HR619_2.out HB.out)|(with_reducible refine Kd.C_alloc ?_ _)|(with_reducible refine Kd.C_drewN ?_ _)|(with_reducible refine Kd.C_drew ?_)));(case side2=>exact HC619_2.out);rintro e w9 ⟨rfl,hb⟩;refine⟨_,rfl,?_⟩;have n0_:=qbb.mk (qak (by repeat(first|(with_reducible first|exact HB.out|apply qac|apply qaa|apply qab)|exact HB.out)) hb);clear HB;have HB:=n0_;clear n0_;(try clear hb);(try clear hb2);(try clear hk);(try clear hi)))
       go_roundg k1
       case measure=>have:=HK1.out;omega
       case rel=>exact⟨(t620),(wrap64 (x5_1+1)),(by first|rfl|(simp;done)|(simp[*];done)),(by first|rfl|(simp;done)|(simp[*];done)),H',⟨by have:=HK1.out;omega⟩,⟨by repeat(first|(with_reducible first|exact HB.out|apply qac|apply qaa|apply qab)|exact HB.out)⟩⟩
     ·rw[if_neg c5] at H
      exact absurd H (by simp)
    ·rw[if_neg c4] at H
     have c4b0:decide (x5_1<(l0.length:Int))=false:=decide_eq_false c4
     clear c4
     obtain rfl:=Option.some.inj H
     go_wp2
     go_ret
     exact⟨by first|rfl|(simp[qan,qam]<;>rfl)|(simp[*,qan,qam]<;>rfl),by repeat(first|(with_reducible first|exact HB.out|apply qac|apply qaa|apply qab)|exact HB.out)⟩
def laws_szLog.f (k:Nat) (l0_0:List (S42)) (a0_1:Int) (a1:Int):Option (Int):=(laws_szRecS.f k l0_0 a1).bind fun t622=>(if t622<0 then(some (-1)) else(some t622))
theorem laws_szLog.mono:∀a0 a1 a2 k,LeO (laws_szLog.f k a0 a1 a2) (laws_szLog.f (k+1) a0 a1 a2):=by
 intro a0 a1 a2 k
 unfold laws_szLog.f
 repeat' first
   |(with_reducible exact laws_szRecS.mono _ _ _)
   |(with_reducible exact LeO.refl _)
   |(with_reducible exact LeO.none _)
   |(with_reducible refine LeO.ite ?_ ?_)
   |(with_reducible refine LeO.bind ?_ (fun _=>?_))
   |exact laws_szRecS.mono _ _ _
   |exact LeO.none _
   |refine LeO.ite ?_ ?_
   |refine LeO.bind ?_ (fun _=>?_)
set_option maxHeartbeats 8000000 in
set_option maxRecDepth 100000 in
theorem laws_szLog.calls (k:Nat) (A0_0:Option Addr) (c0_0:Nat) (l0_0:List (S42)) (a0_1:Int) (a1:Int) (r:Int) (w:World) (hr0_0:Kd.C k42 w A0_0 l0_0.length l0_0) (hc0_0:l0_0.length≤c0_0) (h:laws_szLog.f k l0_0 a0_1 a1=some r) :
  Calls Try.prog 44 #[.agg #[.slice A0_0 l0_0.length c0_0,.int .i64 a0_1],.int .i64 a1] w fun e w'=>e=.returned (.int .i64 r)∧Below w.heap.size w w':=by
 have hu73:=Try.underlying73
 have HR0_0:=qbb.mk hr0_0
 have HC0_0:=qbb.mk hc0_0
 clear hr0_0 hc0_0
 have HB:=qbb.mk (Below.refl w.heap.size w)
 have H:((laws_szRecS.f k l0_0 a1).bind fun t622=>(if t622<0 then(some (-1)) else(some t622)))=some r:=h
 clear h
 replace H:=Option.bind_eq_some_iff.mp H
 obtain⟨t622,A30,H⟩:=H
 replace H:(if t622<0 then(some (-1)) else(some t622))=some r:=H
 have A3:=qbb.mk A30
 clear A30
 by_cases c4:t622<0
 ·rw[if_pos c4] at H
  have c4b0:decide (t622<0)=true:=decide_eq_true c4
  clear c4
  obtain rfl:=Option.some.inj H
  go_enter Try.func44,Try.ntmps44
  go_wp2_with(first|((with_reducible refine qav (N:=2) rfl ?_);refine qat ?hg (N:=2) ?hd (cs:=#[.slice A0_0 l0_0.length c0_0,.int .i64 a0_1]) (t:=73) ?hr ?_;(case hd=>rfl);(case hg=>rfl);(case hr=>first|(go_simp;done)|(go_simp;rfl));intro gb621 hg w5 hbox hb;have n0_:=qbb.mk (qak (by repeat(first|(with_reducible first|exact HB.out|apply qac|apply qaa|apply qab)|exact HB.out)) hb);have n1_:=qbb.mk (hbox);have n2_:=qbb.mk ((by rw[hg];exact(qaj (by repeat(first|(with_reducible first|exact HB.out|apply qac|apply qaa|apply qab)|exact HB.out))):w.heap.size≤gb621));have n3_:=qbb.mk ((by rw[hg];exact(qaj (by repeat(first|(with_reducible first|exact HB.out|apply qac|apply qaa|apply qab)|exact HB.out))):w.heap.size≤gb621));clear HB;have HB:=n0_;have BK621:=n1_;have GW621:=n2_;have GE621:=n3_;clear n0_ n1_ n2_ n3_;clear hb hbox hg;have hcz6_0:w5.cell? ⟨gb621,0,none⟩=some (.slice A0_0 l0_0.length c0_0):=(qai BK621.out 0).trans rfl;have hcz6_1:w5.cell? ⟨gb621,1,none⟩=some (.int .i64 a0_1):=(qai BK621.out 1).trans rfl;have hfz6_0:=qah BK621.out 0;have hfz6_1:=qah BK621.out 1)|((with_reducible refine qao (f:=79) rfl ?_);refine qax (some 8) rfl rfl Try.func79 (by kernel_rfl) rfl #[.slice A0_0 l0_0.length c0_0,.int .i64 a1] rfl (by(try simp only[List.map_toArray,List.map_cons,List.map_nil]);first|done|rfl|(simp only[List.length_drop,List.length_take];rfl)) ?_;(with_reducible refine(laws_szRecS.calls k _ _ l0_0 a1 t622 _ ?side1 ?side2 A3.out).mono ?_);(case side1=>repeat(first|exact(Kd.C_below HR0_0.out HB.out)|(with_reducible refine Kd.C_alloc ?_ _)|(with_reducible refine Kd.C_drewN ?_ _)|(with_reducible refine Kd.C_drew ?_)));(case side2=>exact HC0_0.out);rintro e w7 ⟨rfl,hb⟩;refine⟨_,rfl,?_⟩;have n0_:=qbb.mk (qal (g:=gb621) (o:=.cells #[.slice A0_0 l0_0.length c0_0,.int .i64 a0_1] 73 (0,0)) (by(with_reducible repeat(first|refine qae ?_ _|refine qaf ?_|refine qad ?_ _));exact BK621.out) hb);have n1_:=qbb.mk (qak (by repeat(first|(with_reducible first|exact HB.out|apply qac|apply qaa|apply qab|refine qag ?_ GE621.out)|exact HB.out)) hb);clear BK621;clear HB;have BK621:=n0_;have HB:=n1_;clear n0_ n1_;(try clear hb);(try clear hb2);(try clear hk);(try clear hi)))
  go_ret
  exact⟨by first|rfl|(simp[qan,qam]<;>rfl)|(simp[*,qan,qam]<;>rfl),by repeat(first|(with_reducible first|exact HB.out|apply qac|apply qaa|apply qab|refine qag ?_ GE621.out)|exact HB.out)⟩
 ·rw[if_neg c4] at H
  have c4b0:decide (t622<0)=false:=decide_eq_false c4
  clear c4
  obtain rfl:=Option.some.inj H
  go_enter Try.func44,Try.ntmps44
  go_wp2_with(first|((with_reducible refine qav (N:=2) rfl ?_);refine qat ?hg (N:=2) ?hd (cs:=#[.slice A0_0 l0_0.length c0_0,.int .i64 a0_1]) (t:=73) ?hr ?_;(case hd=>rfl);(case hg=>rfl);(case hr=>first|(go_simp;done)|(go_simp;rfl));intro gb621 hg w8 hbox hb;have n0_:=qbb.mk (qak (by repeat(first|(with_reducible first|exact HB.out|apply qac|apply qaa|apply qab)|exact HB.out)) hb);have n1_:=qbb.mk (hbox);have n2_:=qbb.mk ((by rw[hg];exact(qaj (by repeat(first|(with_reducible first|exact HB.out|apply qac|apply qaa|apply qab)|exact HB.out))):w.heap.size≤gb621));have n3_:=qbb.mk ((by rw[hg];exact(qaj (by repeat(first|(with_reducible first|exact HB.out|apply qac|apply qaa|apply qab)|exact HB.out))):w.heap.size≤gb621));clear HB;have HB:=n0_;have BK621:=n1_;have GW621:=n2_;have GE621:=n3_;clear n0_ n1_ n2_ n3_;clear hb hbox hg;have hcz9_0:w8.cell? ⟨gb621,0,none⟩=some (.slice A0_0 l0_0.length c0_0):=(qai BK621.out 0).trans rfl;have hcz9_1:w8.cell? ⟨gb621,1,none⟩=some (.int .i64 a0_1):=(qai BK621.out 1).trans rfl;have hfz9_0:=qah BK621.out 0;have hfz9_1:=qah BK621.out 1)|((with_reducible refine qao (f:=79) rfl ?_);refine qax (some 8) rfl rfl Try.func79 (by kernel_rfl) rfl #[.slice A0_0 l0_0.length c0_0,.int .i64 a1] rfl (by(try simp only[List.map_toArray,List.map_cons,List.map_nil]);first|done|rfl|(simp only[List.length_drop,List.length_take];rfl)) ?_;(with_reducible refine(laws_szRecS.calls k _ _ l0_0 a1 t622 _ ?side1 ?side2 A3.out).mono ?_);(case side1=>repeat(first|exact(Kd.C_below HR0_0.out HB.out)|(with_reducible refine Kd.C_alloc ?_ _)|(with_reducible refine Kd.C_drewN ?_ _)|(with_reducible refine Kd.C_drew ?_)));(case side2=>exact HC0_0.out);rintro e w10 ⟨rfl,hb⟩;refine⟨_,rfl,?_⟩;have n0_:=qbb.mk (qal (g:=gb621) (o:=.cells #[.slice A0_0 l0_0.length c0_0,.int .i64 a0_1] 73 (0,0)) (by(with_reducible repeat(first|refine qae ?_ _|refine qaf ?_|refine qad ?_ _));exact BK621.out) hb);have n1_:=qbb.mk (qak (by repeat(first|(with_reducible first|exact HB.out|apply qac|apply qaa|apply qab|refine qag ?_ GE621.out)|exact HB.out)) hb);clear BK621;clear HB;have BK621:=n0_;have HB:=n1_;clear n0_ n1_;(try clear hb);(try clear hb2);(try clear hk);(try clear hi)))
  go_ret
  exact⟨by first|rfl|(simp[qan,qam]<;>rfl)|(simp[*,qan,qam]<;>rfl),by repeat(first|(with_reducible first|exact HB.out|apply qac|apply qaa|apply qab|refine qag ?_ GE621.out)|exact HB.out)⟩
def laws_toRecS.l0:Nat→List (S42)→List (S45)→Int→Option ((List (S45)))
 |0,_,_,_=>none
 |k+1,x0,x3,x4=>if x4<(x0.length:Int) then(if 0≤x4 then((laws_toRec.f k ((rd_T42 x0 x4).f0) ((rd_T42 x0 x4).f1) ((rd_T42 x0 x4).f2)).bind fun bt627=>(if x4<(x3.length:Int) then(laws_toRecS.l0 k x0 (x3.set (x4:Int).toNat (⟨bt627.1,bt627.2.1,bt627.2.2⟩:S45)) (wrap64 (x4+1))) else(none))) else(none)) else(some x3)
def laws_toRecS.f (k:Nat) (l0:List (S42)):Option ((List (S45))):=if 0≤(l0.length:Int) then(if((l0.length:Int):Int).toNat≤7036874417766 then(laws_toRecS.l0 k l0 (List.replicate ((l0.length:Int):Int).toNat z45) 0) else(none)) else(none)
theorem laws_toRecS.mono_l:∀k,(∀y0 y1 y2,LeO (laws_toRecS.l0 k y0 y1 y2) (laws_toRecS.l0 (k+1) y0 y1 y2))
 |0=>fun _ _ _ r h=>by simp[laws_toRecS.l0] at h
 |k+1=>by
  have ih0:=laws_toRecS.mono_l k
  ·intro y0 y1 y2
   unfold laws_toRecS.l0
   repeat' first
   |(with_reducible exact ih0 _ _ _)
   |(with_reducible exact laws_toRec.mono _ _ _ _)
   |(with_reducible exact LeO.refl _)
   |(with_reducible exact LeO.none _)
   |(with_reducible refine LeO.ite ?_ ?_)
   |(with_reducible refine LeO.bind ?_ (fun _=>?_))
   |exact ih0 _ _ _
   |exact laws_toRec.mono _ _ _ _
   |exact LeO.none _
   |refine LeO.ite ?_ ?_
   |refine LeO.bind ?_ (fun _=>?_)
theorem laws_toRecS.mono:∀a0 k,LeO (laws_toRecS.f k a0) (laws_toRecS.f (k+1) a0):=by
 intro a0 k
 have ih0:=laws_toRecS.mono_l k
 unfold laws_toRecS.f
 repeat' first
   |(with_reducible exact ih0 _ _ _)
   |(with_reducible exact laws_toRec.mono _ _ _ _)
   |(with_reducible exact LeO.refl _)
   |(with_reducible exact LeO.none _)
   |(with_reducible refine LeO.ite ?_ ?_)
   |(with_reducible refine LeO.bind ?_ (fun _=>?_))
   |exact ih0 _ _ _
   |exact laws_toRec.mono _ _ _ _
   |exact LeO.none _
   |refine LeO.ite ?_ ?_
   |refine LeO.bind ?_ (fun _=>?_)
set_option maxHeartbeats 8000000 in
set_option maxRecDepth 100000 in
theorem laws_toRecS.calls (k:Nat) (A0:Option Addr) (c0:Nat) (l0:List (S42)) (r:List (S45)) (w:World) (hr0:Kd.C k42 w A0 l0.length l0) (hc0:l0.length≤c0) (h:laws_toRecS.f k l0=some r) :
  Calls Try.prog 80 #[.slice A0 l0.length c0] w fun e w'=>∃v0_:Value,e=.returned (v0_)∧Kd.S k45 45 w' w.heap.size (fun _=>True) v0_ r∧Below w.heap.size w w':=by
 have hu42:=Try.underlying42
 have hu45:=Try.underlying45
 have HR0:=qbb.mk hr0
 have HC0:=qbb.mk hc0
 clear hr0 hc0
 have HB:=qbb.mk (Below.refl w.heap.size w)
 have H:(if 0≤(l0.length:Int) then(if((l0.length:Int):Int).toNat≤7036874417766 then(laws_toRecS.l0 k l0 (List.replicate ((l0.length:Int):Int).toNat z45) 0) else(none)) else(none))=some r:=h
 clear h
 by_cases c2:0≤(l0.length:Int)
 ·rw[if_pos c2] at H
  have c2b0:=eq_true c2
  have c2b1:decide (0≤(l0.length:Int))=true:=decide_eq_true c2
  clear c2
  by_cases c3:((l0.length:Int):Int).toNat≤7036874417766
  ·rw[if_pos c3] at H
   have c3b0:=eq_true c3
   have c3b1:decide (((l0.length:Int):Int).toNat≤7036874417766)=true:=decide_eq_true c3
   clear c3
   obtain⟨y623,hy623⟩:∃y_:List (S45),y_=(List.replicate ((l0.length:Int):Int).toNat z45):=⟨_,rfl⟩
   replace H:(laws_toRecS.l0 k l0 y623 0)=some r:=by first|(rw[hy623];with_reducible exact H)|(have H2_:=(Option.bind_some _ _).symm.trans H;rw[hy623];with_reducible exact H2_)|(have H2_:=(Option.bind_some _ _).symm.trans H;with_reducible exact H2_)|with_reducible exact H|(rw[hy623];exact H)|exact H
   have Ny623:=qbb.mk hy623
   clear hy623
   have H':=qbb.mk H
   clear H
   go_enter Try.func80,Try.ntmps80
   go_wp2_with(first|((with_reducible refine qav (N:=7) rfl ?_);refine Kd.S_make k45 _ 45 rfl (N:=7) rfl 66 _ _ rfl (l0.length:Int) rfl rfl Try.underlying66 (.agg #[(.int .i64 0),(.int .i64 0),(.slice none 0 0)]) 40 info45 rfl (by decide) (by omega) z45 (ok:=fun _=>True) (okp:=fun _=>True) (k45_mkM _ _ _ z45 (Kd.R_nil _ _ _ _ _)) (fun _ hk=>hk) trivial (of_decide_eq_true (by first|(with_reducible assumption)|assumption)) (Nat.le_trans (Nat.mul_le_mul_right _ (of_decide_eq_true (by first|(with_reducible assumption)|assumption):(l0.length:Int).toNat≤7036874417766)) (by omega)) (Below.refl _ _) (Nat.le_refl _) ?_;intro v624 w4 ho5 hb hg_ hnew_;clear hg_ hnew_;(first|rw[←Ny623.out] at ho5|(simp only[Int.reduceToNat] at ho5;rw[←Ny623.out] at ho5));have n0_:=qbb.mk (Kd.S_lower ho5 (qaj (by repeat(first|(with_reducible first|exact HB.out|apply qac|apply qaa|apply qab)|exact HB.out))));have n1_:=qbb.mk (qak (by repeat(first|(with_reducible first|exact HB.out|apply qac|apply qaa|apply qab)|exact HB.out)) hb);clear HB;have HO625:=n0_;have HB:=n1_;clear n0_ n1_;clear hb ho5))
   go_loopg [4] k (fun kq v4 w'=>∃(x3_1:List (S45)) (x4_1:Int),v4=.int .i64 x4_1∧qbb (laws_toRecS.l0 kq l0 x3_1 x4_1=some r)∧qbb (kq≤k)∧qbb (Kd.S k45 45 w' w.heap.size (fun _=>True) v624 x3_1)∧qbb (Below w.heap.size w w'))
   case atStart=>exact⟨(y623),(0),(by first|rfl|(simp;done)|(simp[*];done)),H',⟨Nat.le_refl _⟩,⟨by(with_reducible repeat(first|apply Kd.S_alloc|apply Kd.S_drewN|apply Kd.S_drew));exact HO625.out⟩,⟨by repeat(first|(with_reducible first|exact HB.out|apply qac|apply qaa|apply qab)|exact HB.out)⟩⟩
   case round=>
    clear H'
    try clear c2
    try clear c2b0
    try clear c2b1
    try clear p2
    try clear c3
    try clear c3b0
    try clear c3b1
    obtain⟨x3_1,x4_1,rfl,HA,HK1,HO_3,HB⟩:=hrel
    cases gk with
    |zero=>exact absurd HA.out (by simp[laws_toRecS.l0])
    |succ k1=>
     have H:=HA.out
     clear HA
     simp only[laws_toRecS.l0] at H
     by_cases c6:x4_1<(l0.length:Int)
     ·rw[if_pos c6] at H
      have c6b0:decide (x4_1<(l0.length:Int))=true:=decide_eq_true c6
      clear c6
      by_cases c7:0≤x4_1
      ·rw[if_pos c7] at H
       have c7b0:decide (0≤x4_1)=true:=decide_eq_true c7
       clear c7
       replace H:=Option.bind_eq_some_iff.mp H
       obtain⟨⟨t627,t628,t629⟩,A80,H⟩:=H
       replace H:(if x4_1<(x3_1.length:Int) then(laws_toRecS.l0 k1 l0 (x3_1.set (x4_1:Int).toNat (⟨t627,t628,t629⟩:S45)) (wrap64 (x4_1+1))) else(none))=some r:=H
       have A8:=qbb.mk A80
       clear A80
       by_cases c9:x4_1<(x3_1.length:Int)
       ·rw[if_pos c9] at H
        have c9b0:decide (x4_1<(x3_1.length:Int))=true:=decide_eq_true c9
        clear c9
        obtain⟨y632,hy632⟩:∃y_:List (S45),y_=(x3_1.set (x4_1:Int).toNat (⟨t627,t628,t629⟩:S45)):=⟨_,rfl⟩
        replace H:(laws_toRecS.l0 k1 l0 y632 (wrap64 (x4_1+1)))=some r:=by first|(rw[hy632];with_reducible exact H)|(have H2_:=(Option.bind_some _ _).symm.trans H;rw[hy632];with_reducible exact H2_)|(have H2_:=(Option.bind_some _ _).symm.trans H;with_reducible exact H2_)|with_reducible exact H|(rw[hy632];exact H)|exact H
        have Ny632:=qbb.mk hy632
        clear hy632
        have H':=qbb.mk H
        clear H
        have p626:0≤(x4_1:Int):=of_decide_eq_true (by first|(with_reducible assumption)|assumption)
        have q626:x4_1<(l0.length:Int):=of_decide_eq_true (by first|(with_reducible assumption)|assumption)
        obtain⟨ad626,A626_2,c626_2,e626,hx626_0,hx626_1,hx626_2,hl626_2,hi626_2⟩:=at_T42 HR0.out x4_1 p626 q626
        cases e626
        have hxo626_2:=qbb.mk hx626_2
        replace hx626_0:=(HB.out.cell (World.block_lt_of_cell? w _ hx626_0)).trans hx626_0
        replace hx626_1:=(HB.out.cell (World.block_lt_of_cell? w _ hx626_1)).trans hx626_1
        replace hx626_2:=(HB.out.cell (World.block_lt_of_cell? w _ hx626_2)).trans hx626_2
        have HR626_2:=qbb.mk hi626_2
        have HC626_2:=qbb.mk hl626_2
        clear hi626_2 hl626_2
        replace p626:=eq_true p626
        replace q626:=eq_true q626
        go_wp2_with(first|((with_reducible refine qao (f:=26) rfl ?_);refine qax (some 20) rfl rfl Try.func26 (by kernel_rfl) rfl #[.agg #[.int .i64 ((rd_T42 l0 x4_1).f0),.int .i64 ((rd_T42 l0 x4_1).f1),.slice A626_2 ((rd_T42 l0 x4_1).f2).length c626_2]] rfl (by(try simp only[List.map_toArray,List.map_cons,List.map_nil]);first|done|rfl|(simp only[List.length_drop,List.length_take];rfl)) ?_;(with_reducible refine(laws_toRec.calls k1 ((rd_T42 l0 x4_1).f0) ((rd_T42 l0 x4_1).f1) _ _ ((rd_T42 l0 x4_1).f2) t627 t628 t629 _ ?side1 ?side2 A8.out).mono ?_);(case side1=>repeat(first|exact(Kd.C_below HR626_2.out HB.out)|(with_reducible refine Kd.C_alloc ?_ _)|(with_reducible refine Kd.C_drewN ?_ _)|(with_reducible refine Kd.C_drew ?_)));(case side2=>exact HC626_2.out);rintro e w11 ⟨v630,rfl,ho0,hb⟩;refine⟨_,rfl,?_⟩;have hst_v630:∀(W_:World) (a_:Addr) (m_:Mode),(store a_ v630 m_).run Try.prog W_=stored Try.prog W_ a_ v630 m_:=fun W_ a_ m_=>run_store _ _ _ _ _ (Kd.R_val ho0).2;have n0_:=qbb.mk (Kd.S_elder' (by(with_reducible repeat(first|apply Kd.S_alloc|apply Kd.S_drewN|apply Kd.S_drew));exact HO_3.out) (Kd.R_base ho0) hb);have n1_:=qbb.mk (Kd.R_lower ho0 (qaj (by repeat(first|(with_reducible first|exact HB.out|apply qac|apply qaa|apply qab)|exact HB.out))));have n2_:=qbb.mk (qak (by repeat(first|(with_reducible first|exact HB.out|apply qac|apply qaa|apply qab)|exact HB.out)) hb);clear HO_3;clear HB;have HO_3:=n0_;have HO631:=n1_;have HB:=n2_;clear n0_ n1_ n2_;(try clear hb);(try clear hb2);(try clear hk);(try clear hi);(try clear ho0);have p10:0≤(x4_1:Int):=of_decide_eq_true (by first|(with_reducible assumption)|assumption);have q10:(x4_1:Int)<((x3_1.length:Int):Int):=of_decide_eq_true (by first|(with_reducible assumption)|assumption);obtain⟨go10,co10,eo10,gb10,gl10,cl10,HG10⟩:=Kd.S_form HO_3.out (by omega);(first|cases eo10|(injection eo10 with ea_ en_ ec_;(first|subst ea_|(injection ea_ with ea_;subst ea_));subst ec_;clear en_));have GB10:=qbb.mk gb10;have GG10:=qbb.mk HG10;clear gb10 gl10 HG10;obtain⟨_,ce10,hcl10,hM10,hcc10,hfr10,_,_⟩:=Kd.S_elem HO_3.out z45 (x4_1:Int) p10 q10;obtain⟨ve10_2,rfl,ge10_2⟩:=k45_openM hM10;have hx10_0:w11.cell? ⟨go10,(x4_1:Int).toNat*3,none⟩=some (.int .i64 ((rd_T45 x3_1 x4_1).f0)):=hcc10 0 _ rfl;have hx10_1:w11.cell? ⟨go10,(x4_1:Int).toNat*3+1,none⟩=some (.int .i64 ((rd_T45 x3_1 x4_1).f1)):=hcc10 1 _ rfl;have hx10_2:w11.cell? ⟨go10,(x4_1:Int).toNat*3+2,none⟩=some (ve10_2):=hcc10 2 _ rfl;have hf10_0:w11.frozen? ⟨go10,(x4_1:Int).toNat*3,none⟩=false:=hfr10 0;have hf10_1:w11.frozen? ⟨go10,(x4_1:Int).toNat*3+1,none⟩=false:=hfr10 1;have hf10_2:w11.frozen? ⟨go10,(x4_1:Int).toNat*3+2,none⟩=false:=hfr10 2;clear hcl10 hcc10 hfr10 hM10;replace p10:=eq_true p10;replace q10:=eq_true q10;have n_:=qbb.mk (Kd.S_mono (ok':=(fun k_=>some k_≠(v630:Value).ownBlock)) HO_3.out (fun k_ hk=>hk.2));clear HO_3;have HO_3:=n_;clear n_;have HX12:=qbb.mk (show Kd.S k45 45 w11 w.heap.size (fun k_=>((fun _=>True)) k_∧¬((fun k_=>some k_=(v630:Value).ownBlock)) k_) (.slice (some ⟨go10,0,none⟩) x3_1.length co10) x3_1 from(by(with_reducible repeat(first|apply Kd.S_alloc|apply Kd.S_drewN|apply Kd.S_drew));exact Kd.S_mono HO_3.out (fun k_ hk=>⟨trivial,fun e_=>hk e_⟩)));obtain⟨oki12,ce12,hcl12,hM12,hcc12,hfr12,hoki12,hH12⟩:=Kd.S_elem HX12.out z45 (x4_1:Int) (of_decide_eq_true (by first|(with_reducible assumption)|assumption)) (by have h_:(x4_1:Int)<((x3_1.length:Int):Int):=of_decide_eq_true (by first|(with_reducible assumption)|assumption);first|exact h_|(have e_:=(Kd.S_reads' HO_3.out).1;omega)|simpa using h_);obtain⟨ve12_2,rfl,ge12_2⟩:=k45_openM hM12;have HP12:=Kd.S_seg hH12 (of_decide_eq_true (by first|(with_reducible assumption)|assumption)) (by have h_:(x4_1:Int)<((x3_1.length:Int):Int):=of_decide_eq_true (by first|(with_reducible assumption)|assumption);first|exact h_|(have e_:=(Kd.S_reads' HO_3.out).1;omega)|simpa using h_) (seg:=[.int .i64 t627,.int .i64 t628,v630]) (j:=0) (show 3≤3 from by decide) (x':=(⟨t627,t628,t629⟩:S45)) (k45_mkM _ _ _ (⟨t627,t628,t629⟩:S45) (Kd.R_mono (Kd.R_tight rfl (Kd.R_mono (ok':=fun k_=>((fun _=>True)) k_∧k_≠go10) (Kd.R_apart' (HO631.out) (Kd.S_typed HO_3.out) (by decide)) (fun k_ hk=>⟨trivial,fun e_=>(hk.2) (by rw[e_];rfl)⟩))) (fun _ h_=>Or.inr (h_)))) (fun _ hk=>hk) (fun k_ hk_=>((Kd.R_mono (ok':=fun k_=>((fun _=>True)) k_∧k_≠go10) (Kd.R_apart' (HO631.out) (Kd.S_typed HO_3.out) (by decide)) (fun k_ hk=>⟨trivial,fun e_=>(hk.2) (by rw[e_];rfl)⟩))).1 k_ hk_.symm);have hx12_0:=hcc12 0 _ rfl;(try simp only[show(k45).sz=3 from rfl,Nat.mul_one,Nat.add_zero] at hx12_0);have hf12_0:=hfr12 0;(try simp only[show(k45).sz=3 from rfl,Nat.mul_one,Nat.add_zero] at hf12_0);have hx12_1:=hcc12 1 _ rfl;(try simp only[show(k45).sz=3 from rfl,Nat.mul_one,Nat.add_zero] at hx12_1);have hf12_1:=hfr12 1;(try simp only[show(k45).sz=3 from rfl,Nat.mul_one,Nat.add_zero] at hf12_1);have hx12_2:=hcc12 2 _ rfl;(try simp only[show(k45).sz=3 from rfl,Nat.mul_one,Nat.add_zero] at hx12_2);have hf12_2:=hfr12 2;(try simp only[show(k45).sz=3 from rfl,Nat.mul_one,Nat.add_zero] at hf12_2);clear hcl12 hcc12 hfr12 hM12 hoki12 hH12)|((with_reducible refine gate_store (t:=45) (p:=21) rfl ?_);refine store_event (t:=45) (p:=21) (v:=?vo_w13) (w1:=(((w11.setCell ⟨go10,(x4_1:Int).toNat*3,none⟩ (.int .i64 t627)).setCell ⟨go10,(x4_1:Int).toNat*3+1,none⟩ (.int .i64 t628)).setCell ⟨go10,(x4_1:Int).toNat*3+2,none⟩ (v630))) ?hg ?ho ?hn ?hr ?_;(case ho=>rfl);(case hg=>rfl);(case hn=>rfl);(case hr=>first|(go_simp;done)|(go_simp;rfl));intro w13 hw;have hg:w11.grownBy w13 (some go10):=(by rw[hw];exact HP12.2);have hp_:Kd.S k45 45 w13 w.heap.size (fun _=>True) (.slice (some ⟨go10,0,none⟩) x3_1.length co10) y632:=(by rw[hw,Ny632.out];exact HP12.1);clear HP12;have n0_:=qbb.mk (hp_);have n1_:=qbb.mk ((by rw[hw];exact qag (qag (qag (HB.out) GB10.out) GB10.out) GB10.out:Below w.heap.size w w13));clear HO_3;clear HB;clear HO631;have HO_3:=n0_;have HB:=n1_;clear n0_ n1_;clear hg hw hp_))
        go_roundg k1
        case measure=>have:=HK1.out;omega
        case rel=>exact⟨(y632),(wrap64 (x4_1+1)),(by first|rfl|(simp;done)|(simp[*];done)),H',⟨by have:=HK1.out;omega⟩,⟨by(with_reducible repeat(first|apply Kd.S_alloc|apply Kd.S_drewN|apply Kd.S_drew));exact HO_3.out⟩,⟨by repeat(first|(with_reducible first|exact HB.out|apply qac|apply qaa|apply qab)|exact HB.out)⟩⟩
       ·rw[if_neg c9] at H
        exact absurd H (by simp)
      ·rw[if_neg c7] at H
       exact absurd H (by simp)
     ·rw[if_neg c6] at H
      have c6b0:decide (x4_1<(l0.length:Int))=false:=decide_eq_false c6
      clear c6
      obtain rfl:=Option.some.inj H
      go_wp2
      go_ret
      exact⟨_,by first|rfl|(simp[qan,qam]<;>rfl)|(simp[*,qan,qam]<;>rfl),by(with_reducible repeat(first|apply Kd.S_alloc|apply Kd.S_drewN|apply Kd.S_drew));exact HO_3.out,by repeat(first|(with_reducible first|exact HB.out|apply qac|apply qaa|apply qab)|exact HB.out)⟩
  ·rw[if_neg c3] at H
   exact absurd H (by simp)
 ·rw[if_neg c2] at H
  exact absurd H (by simp)
def laws_toLog.f (k:Nat) (l0_0:List (S42)) (a0_1:Int):Option ((List (S45)) × Int):=(laws_toRecS.f k l0_0).bind fun t636=>(some (t636,a0_1))
theorem laws_toLog.mono:∀a0 a1 k,LeO (laws_toLog.f k a0 a1) (laws_toLog.f (k+1) a0 a1):=by
 intro a0 a1 k
 unfold laws_toLog.f
 repeat' first
   |(with_reducible exact laws_toRecS.mono _ _)
   |(with_reducible exact LeO.refl _)
   |(with_reducible exact LeO.none _)
   |(with_reducible refine LeO.ite ?_ ?_)
   |(with_reducible refine LeO.bind ?_ (fun _=>?_))
   |exact laws_toRecS.mono _ _
   |exact LeO.none _
   |refine LeO.ite ?_ ?_
   |refine LeO.bind ?_ (fun _=>?_)
set_option maxHeartbeats 8000000 in
set_option maxRecDepth 100000 in
theorem laws_toLog.calls (k:Nat) (A0_0:Option Addr) (c0_0:Nat) (l0_0:List (S42)) (a0_1:Int) (r1:List (S45)) (r2:Int) (w:World) (hr0_0:Kd.C k42 w A0_0 l0_0.length l0_0) (hc0_0:l0_0.length≤c0_0) (h:laws_toLog.f k l0_0 a0_1=some (r1,r2)) :
  Calls Try.prog 45 #[.agg #[.slice A0_0 l0_0.length c0_0,.int .i64 a0_1]] w fun e w'=>∃v0_:Value,e=.returned (.agg #[v0_,.int .i64 r2])∧Kd.S k45 45 w' w.heap.size (fun _=>True) v0_ r1∧Below w.heap.size w w':=by
 have hu73:=Try.underlying73
 have hu68:=Try.underlying68
 have HR0_0:=qbb.mk hr0_0
 have HC0_0:=qbb.mk hc0_0
 clear hr0_0 hc0_0
 have HB:=qbb.mk (Below.refl w.heap.size w)
 have H:((laws_toRecS.f k l0_0).bind fun t636=>(some (t636,a0_1)))=some (r1,r2):=h
 clear h
 replace H:=Option.bind_eq_some_iff.mp H
 obtain⟨t636,A20,H⟩:=H
 replace H:(some (t636,a0_1))=some (r1,r2):=H
 have A2:=qbb.mk A20
 clear A20
 simp only[Option.some.injEq,Prod.mk.injEq] at H
 obtain⟨rfl,rfl⟩:=H
 go_enter Try.func45,Try.ntmps45
 go_wp2_with(first|((with_reducible refine qav (N:=1) rfl ?_);refine qat ?hg (N:=1) ?hd (cs:=#[.slice A0_0 l0_0.length c0_0,.int .i64 a0_1]) (t:=73) ?hr ?_;(case hd=>rfl);(case hg=>rfl);(case hr=>first|(go_simp;done)|(go_simp;rfl));intro gb633 hg w3 hbox hb;have n0_:=qbb.mk (qak (by repeat(first|(with_reducible first|exact HB.out|apply qac|apply qaa|apply qab)|exact HB.out)) hb);have n1_:=qbb.mk (hbox);have n2_:=qbb.mk ((by rw[hg];exact(qaj (by repeat(first|(with_reducible first|exact HB.out|apply qac|apply qaa|apply qab)|exact HB.out))):w.heap.size≤gb633));have n3_:=qbb.mk ((by rw[hg];exact(qaj (by repeat(first|(with_reducible first|exact HB.out|apply qac|apply qaa|apply qab)|exact HB.out))):w.heap.size≤gb633));clear HB;have HB:=n0_;have BK633:=n1_;have GW633:=n2_;have GE633:=n3_;clear n0_ n1_ n2_ n3_;clear hb hbox hg)|((with_reducible refine qav (N:=2) rfl ?_);refine qat ?hg (N:=2) ?hd (cs:=#[.slice none 0 0,.int .i64 0]) (t:=68) ?hr ?_;(case hd=>rfl);(case hg=>rfl);(case hr=>first|(go_simp;done)|(go_simp;rfl));intro gb634 hg w4 hbox hb;have n0_:=qbb.mk (qal (g:=gb633) (o:=.cells #[.slice A0_0 l0_0.length c0_0,.int .i64 a0_1] 73 (0,0)) (by(with_reducible repeat(first|refine qae ?_ _|refine qaf ?_|refine qad ?_ _));exact BK633.out) hb);have n1_:=qbb.mk (qak (by repeat(first|(with_reducible first|exact HB.out|apply qac|apply qaa|apply qab|refine qag ?_ GE633.out)|exact HB.out)) hb);have n2_:=qbb.mk (hbox);have n3_:=qbb.mk ((by rw[hg];exact(qaj (by repeat(first|(with_reducible first|exact HB.out|apply qac|apply qaa|apply qab|refine qag ?_ GE633.out)|exact HB.out))):w.heap.size≤gb634));have n4_:=qbb.mk ((by rw[hg];exact(qaj (by repeat(first|(with_reducible first|exact HB.out|apply qac|apply qaa|apply qab|refine qag ?_ GE633.out)|exact HB.out))):w.heap.size≤gb634));have n5_:=qbb.mk ((by rw[hg];exact Nat.ne_of_lt (qbc (g:=gb633) (o:=.cells #[.slice A0_0 l0_0.length c0_0,.int .i64 a0_1] 73 (0,0)) (by(with_reducible repeat(first|refine qae ?_ _|refine qaf ?_|refine qad ?_ _));exact BK633.out)):gb633≠gb634));have n6_:=qbb.mk ((by rw[hg];exact Nat.ne_of_gt (qbc (g:=gb633) (o:=.cells #[.slice A0_0 l0_0.length c0_0,.int .i64 a0_1] 73 (0,0)) (by(with_reducible repeat(first|refine qae ?_ _|refine qaf ?_|refine qad ?_ _));exact BK633.out)):gb634≠gb633));clear BK633;clear HB;have BK633:=n0_;have HB:=n1_;have BK634:=n2_;have GW634:=n3_;have GE634:=n4_;have NB633_634:=n5_;have NB634_633:=n6_;clear n0_ n1_ n2_ n3_ n4_ n5_ n6_;clear hb hbox hg)|((with_reducible refine qav (N:=3) rfl ?_);refine qat ?hg (N:=3) ?hd (cs:=#[.slice none 0 0,.int .i64 0]) (t:=68) ?hr ?_;(case hd=>rfl);(case hg=>rfl);(case hr=>first|(go_simp;done)|(go_simp;rfl));intro gb635 hg w5 hbox hb;have n0_:=qbb.mk (qal (g:=gb633) (o:=.cells #[.slice A0_0 l0_0.length c0_0,.int .i64 a0_1] 73 (0,0)) (by(with_reducible repeat(first|refine qae ?_ _|refine qaf ?_|refine qad ?_ _));exact BK633.out) hb);have n1_:=qbb.mk (qal (g:=gb634) (o:=.cells #[.slice none 0 0,.int .i64 0] 68 (0,0)) (by(with_reducible repeat(first|refine qae ?_ _|refine qaf ?_|refine qad ?_ _));exact BK634.out) hb);have n2_:=qbb.mk (qak (by repeat(first|(with_reducible first|exact HB.out|apply qac|apply qaa|apply qab|refine qag ?_ GE633.out|refine qag ?_ GE634.out)|exact HB.out)) hb);have n3_:=qbb.mk (hbox);have n4_:=qbb.mk ((by rw[hg];exact(qaj (by repeat(first|(with_reducible first|exact HB.out|apply qac|apply qaa|apply qab|refine qag ?_ GE633.out|refine qag ?_ GE634.out)|exact HB.out))):w.heap.size≤gb635));have n5_:=qbb.mk ((by rw[hg];exact(qaj (by repeat(first|(with_reducible first|exact HB.out|apply qac|apply qaa|apply qab|refine qag ?_ GE633.out|refine qag ?_ GE634.out)|exact HB.out))):w.heap.size≤gb635));have n6_:=qbb.mk ((by rw[hg];exact Nat.ne_of_lt (qbc (g:=gb633) (o:=.cells #[.slice A0_0 l0_0.length c0_0,.int .i64 a0_1] 73 (0,0)) (by(with_reducible repeat(first|refine qae ?_ _|refine qaf ?_|refine qad ?_ _));exact BK633.out)):gb633≠gb635));have n7_:=qbb.mk ((by rw[hg];exact Nat.ne_of_gt (qbc (g:=gb633) (o:=.cells #[.slice A0_0 l0_0.length c0_0,.int .i64 a0_1] 73 (0,0)) (by(with_reducible repeat(first|refine qae ?_ _|refine qaf ?_|refine qad ?_ _));exact BK633.out)):gb635≠gb633));have n8_:=qbb.mk ((by rw[hg];exact Nat.ne_of_lt (qbc (g:=gb634) (o:=.cells #[.slice none 0 0,.int .i64 0] 68 (0,0)) (by(with_reducible repeat(first|refine qae ?_ _|refine qaf ?_|refine qad ?_ _));exact BK634.out)):gb634≠gb635));have n9_:=qbb.mk ((by rw[hg];exact Nat.ne_of_gt (qbc (g:=gb634) (o:=.cells #[.slice none 0 0,.int .i64 0] 68 (0,0)) (by(with_reducible repeat(first|refine qae ?_ _|refine qaf ?_|refine qad ?_ _));exact BK634.out)):gb635≠gb634));clear BK633;clear BK634;clear HB;have BK633:=n0_;have BK634:=n1_;have HB:=n2_;have BK635:=n3_;have GW635:=n4_;have GE635:=n5_;have NB633_635:=n6_;have NB635_633:=n7_;have NB634_635:=n8_;have NB635_634:=n9_;clear n0_ n1_ n2_ n3_ n4_ n5_ n6_ n7_ n8_ n9_;clear hb hbox hg;have hnb6:=NB633_634.out;have hnc6:=NB634_633.out;have hnb7:=NB633_635.out;have hnc7:=NB635_633.out;have hcz8_0:w5.cell? ⟨gb633,0,none⟩=some (.slice A0_0 l0_0.length c0_0):=(qai BK633.out 0).trans rfl;have hcz8_1:w5.cell? ⟨gb633,1,none⟩=some (.int .i64 a0_1):=(qai BK633.out 1).trans rfl;have hfz8_0:=qah BK633.out 0;have hfz8_1:=qah BK633.out 1)|((with_reducible refine qao (f:=80) rfl ?_);refine qax (some 6) rfl rfl Try.func80 (by kernel_rfl) rfl #[.slice A0_0 l0_0.length c0_0] rfl (by(try simp only[List.map_toArray,List.map_cons,List.map_nil]);first|done|rfl|(simp only[List.length_drop,List.length_take];rfl)) ?_;(with_reducible refine(laws_toRecS.calls k _ _ l0_0 t636 _ ?side1 ?side2 A2.out).mono ?_);(case side1=>repeat(first|exact(Kd.C_below HR0_0.out HB.out)|(with_reducible refine Kd.C_alloc ?_ _)|(with_reducible refine Kd.C_drewN ?_ _)|(with_reducible refine Kd.C_drew ?_)));(case side2=>exact HC0_0.out);rintro e w9 ⟨v637,rfl,ho0,hb⟩;refine⟨_,rfl,?_⟩;have n0_:=qbb.mk (Kd.S_lower ho0 (qaj (by repeat(first|(with_reducible first|exact HB.out|apply qac|apply qaa|apply qab|refine qag ?_ GE633.out|refine qag ?_ GE634.out|refine qag ?_ GE635.out)|exact HB.out))));have n1_:=qbb.mk (qal (g:=gb633) (o:=.cells #[.slice A0_0 l0_0.length c0_0,.int .i64 a0_1] 73 (0,0)) (by(with_reducible repeat(first|refine qae ?_ _|refine qaf ?_|refine qad ?_ _));exact BK633.out) hb);have n2_:=qbb.mk (qal (g:=gb634) (o:=.cells #[.slice none 0 0,.int .i64 0] 68 (0,0)) (by(with_reducible repeat(first|refine qae ?_ _|refine qaf ?_|refine qad ?_ _));exact BK634.out) hb);have n3_:=qbb.mk (qal (g:=gb635) (o:=.cells #[.slice none 0 0,.int .i64 0] 68 (0,0)) (by(with_reducible repeat(first|refine qae ?_ _|refine qaf ?_|refine qad ?_ _));exact BK635.out) hb);have n4_:=qbb.mk (qak (by repeat(first|(with_reducible first|exact HB.out|apply qac|apply qaa|apply qab|refine qag ?_ GE633.out|refine qag ?_ GE634.out|refine qag ?_ GE635.out)|exact HB.out)) hb);clear BK633;clear BK634;clear BK635;clear HB;have HO638:=n0_;have BK633:=n1_;have BK634:=n2_;have BK635:=n3_;have HB:=n4_;clear n0_ n1_ n2_ n3_ n4_;(try clear hb);(try clear hb2);(try clear hk);(try clear hi);(try clear ho0);obtain⟨Ao10,co10,eo10⟩:=Kd.S_slice HO638.out;subst eo10;have hnb11:=NB635_634.out;have hnc11:=NB634_635.out;have hcz12_0:w9.cell? ⟨gb635,0,none⟩=some (.slice none 0 0):=(qai BK635.out 0).trans rfl;have hcz12_1:w9.cell? ⟨gb635,1,none⟩=some (.int .i64 0):=(qai BK635.out 1).trans rfl;have hfz12_0:=qah BK635.out 0;have hfz12_1:=qah BK635.out 1;have hcz13_0:w9.cell? ⟨gb633,0,none⟩=some (.slice A0_0 l0_0.length c0_0):=(qai BK633.out 0).trans rfl;have hcz13_1:w9.cell? ⟨gb633,1,none⟩=some (.int .i64 a0_1):=(qai BK633.out 1).trans rfl;have hfz13_0:=qah BK633.out 0;have hfz13_1:=qah BK633.out 1;have hcz14_0:w9.cell? ⟨gb634,0,none⟩=some (.slice none 0 0):=(qai BK634.out 0).trans rfl;have hcz14_1:w9.cell? ⟨gb634,1,none⟩=some (.int .i64 0):=(qai BK634.out 1).trans rfl;have hfz14_0:=qah BK634.out 0;have hfz14_1:=qah BK634.out 1))
 refine bodyPost_ret (results_cell_row rfl _ _ gb634 68 #[.slice Ao10 t636.length co10,.int .i64 a0_1] (0,0) _ rfl (by(with_reducible repeat(first|refine qae ?_ _|refine qaf ?_|refine qad ?_ _));refine qaq (cs:=#[.slice Ao10 t636.length co10,.int .i64 0]) ?_ 1 _ rfl;(with_reducible repeat(first|refine qae ?_ _|refine qaf ?_|refine qad ?_ _));refine qaq (cs:=#[.slice none 0 0,.int .i64 0]) ?_ 0 _ rfl;(with_reducible repeat(first|refine qae ?_ _|refine qaf ?_|refine qad ?_ _));refine qap ?_ NB634_635.out _;(with_reducible repeat(first|refine qae ?_ _|refine qaf ?_|refine qad ?_ _));refine qap ?_ NB634_635.out _;(with_reducible repeat(first|refine qae ?_ _|refine qaf ?_|refine qad ?_ _));exact BK634.out) Try.underlying68 rfl (by kernel_rfl)) rfl ?_
 exact⟨_,by first|rfl|(simp[qan,qam]<;>rfl)|(simp[*,qan,qam]<;>rfl),by(with_reducible repeat(first|apply Kd.S_alloc|apply Kd.S_drewN|apply Kd.S_drew));exact Kd.S_mono (Kd.S_far (p:=⟨gb634,1,none⟩) (Kd.S_far (p:=⟨gb634,0,none⟩) (Kd.S_far (p:=⟨gb635,1,none⟩) (Kd.S_far (p:=⟨gb635,0,none⟩) (Kd.S_types (Kd.S_types HO638.out BK635.out (by decide)) BK634.out (by decide)) (fun _ hk=>hk.1.2) (.slice Ao10 t636.length co10)) (fun _ hk=>hk.1.2) (.int .i64 a0_1)) (fun _ hk=>hk.2) (.slice Ao10 t636.length co10)) (fun _ hk=>hk.2) (.int .i64 a0_1)) (fun _ hk=>trivial),by repeat(first|(with_reducible first|exact HB.out|apply qac|apply qaa|apply qab|refine qag ?_ GE633.out|refine qag ?_ GE634.out|refine qag ?_ GE635.out)|exact HB.out)⟩
end Go.Proofs.Ytkbjgmfghhgodaa.Print
