-- Written by squeeze.py, a program of this session, out of what print.sh and myprint.py had printed: cut to what is used, narrowed. Not trusted, Lean checks it.
import Derived.Test.YtjccnaklodbbfaaZK
import Derived.Test.YtjccnaklodbbfaaZf1
namespace Go.Proofs.Ytjccnaklodbbfaa.Print
open Go.RowKit Go.Proofs.YtjccnaklodbbfaaW.PrintWords Go.Proofs.YtjccnaklodbbfaaW.PrintLast Go.Proofs.YtjccnaklodbbfaaW.PrintMore
attribute [local go_sem] max2_int min2_int max_two min_two max_three min_three max_four min_four
set_option linter.unusedVariables false
set_option linter.unusedSimpArgs false
def laws_heldRecS.l0:Nat→List (S62)→Int→Int→Option (Int)
 |0,_,_,_=>none
 |k+1,x0,x1,x5=>if x5<(x0.length:Int) then(if 0≤x5 then(if((rd_T62 x0 x5).f0)=x1 then(if((rd_T62 x0 x5).f1)=(wrap64 (x1+1)) then((laws_heldIntS.f k ((rd_T62 x0 x5).f2) (wrap64 ((wrap64 (x1+1))+1))).bind fun t144=>(if t144<0 then(some (-1)) else(laws_heldRecS.l0 k x0 t144 (wrap64 (x5+1))))) else(some (-1))) else(some (-1))) else(none)) else(some x1)
def laws_heldRecS.f (k:Nat) (l0:List (S62)) (a1:Int):Option (Int):=laws_heldRecS.l0 k l0 a1 0
theorem laws_heldRecS.mono_l:∀k,(∀y0 y1 y2,LeO (laws_heldRecS.l0 k y0 y1 y2) (laws_heldRecS.l0 (k+1) y0 y1 y2))
 |0=>fun _ _ _ r h=>by simp[laws_heldRecS.l0] at h
 |k+1=>by
  have ih0:=laws_heldRecS.mono_l k
  ·intro y0 y1 y2
   unfold laws_heldRecS.l0
   repeat' first
   |(with_reducible exact ih0 _ _ _)
   |(with_reducible exact laws_heldIntS.mono _ _ _)
   |(with_reducible exact LeO.refl _)
   |(with_reducible exact LeO.none _)
   |(with_reducible refine LeO.ite ?_ ?_)
   |(with_reducible refine LeO.bind ?_ (fun _=>?_))
   |exact ih0 _ _ _
   |exact laws_heldIntS.mono _ _ _
   |exact LeO.none _
   |refine LeO.ite ?_ ?_
   |refine LeO.bind ?_ (fun _=>?_)
theorem laws_heldRecS.mono:∀a0 a1 k,LeO (laws_heldRecS.f k a0 a1) (laws_heldRecS.f (k+1) a0 a1):=by
 intro a0 a1 k
 have ih0:=laws_heldRecS.mono_l k
 unfold laws_heldRecS.f
 repeat' first
   |(with_reducible exact ih0 _ _ _)
   |(with_reducible exact laws_heldIntS.mono _ _ _)
   |(with_reducible exact LeO.refl _)
   |(with_reducible exact LeO.none _)
   |(with_reducible refine LeO.ite ?_ ?_)
   |(with_reducible refine LeO.bind ?_ (fun _=>?_))
   |exact ih0 _ _ _
   |exact laws_heldIntS.mono _ _ _
   |exact LeO.none _
   |refine LeO.ite ?_ ?_
   |refine LeO.bind ?_ (fun _=>?_)
set_option maxHeartbeats 8000000 in
set_option maxRecDepth 100000 in
theorem laws_heldRecS.calls (k:Nat) (A0:Option Addr) (c0:Nat) (l0:List (S62)) (a1:Int) (r:Int) (w:World) (hr0:Kd.C k62 w A0 l0.length l0) (hc0:l0.length≤c0) (h:laws_heldRecS.f k l0 a1=some r) :
  Calls Try.prog 103 #[.slice A0 l0.length c0,.int .i64 a1] w fun e w'=>e=.returned (.int .i64 r)∧Drawn0 w w':=by
 have HR0:=qal.mk hr0
 have HC0:=qal.mk hc0
 clear hr0 hc0
 have H:(laws_heldRecS.l0 k l0 a1 0)=some r:=h
 clear h
 have H':=qal.mk H
 clear H
 go_enter Try.func103,Try.ntmps103
 go_wp2
 go_loopg [1,5] k (fun kq v1 v5 w'=>∃(x1_1:Int) (x5_1:Int),v1=.int .i64 x1_1∧v5=.int .i64 x5_1∧qal (laws_heldRecS.l0 kq l0 x1_1 x5_1=some r)∧qal (kq≤k)∧Drawn0 w w')
 case atStart=>exact⟨(a1),(0),(za22),(za22),H',⟨Nat.le_refl _⟩,za44⟩
 case round=>
  clear H'
  try clear c1
  try clear p2
  obtain⟨x1_1,x5_1,rfl,rfl,HA,HK1,⟨m1,rfl⟩⟩:=hrel
  cases gk with
  |zero=>exact absurd HA.out (by simp[laws_heldRecS.l0])
  |succ k1=>
   have H:=HA.out
   clear HA
   simp only[laws_heldRecS.l0] at H
   by_cases c3:x5_1<(l0.length:Int)
   ·rw[if_pos c3] at H
    have c3b0:decide (x5_1<(l0.length:Int))=true:=decide_eq_true c3
    clear c3
    by_cases c4:0≤x5_1
    ·rw[if_pos c4] at H
     have c4b0:decide (0≤x5_1)=true:=decide_eq_true c4
     clear c4
     by_cases c5:((rd_T62 l0 x5_1).f0)=x1_1
     ·rw[if_pos c5] at H
      have c5b0:(((rd_T62 l0 x5_1).f0) == x1_1)=true:=beq_iff_eq.mpr c5
      have c5b1:(((rd_T62 l0 x5_1).f0) != x1_1)=false:=bne_eq_false_iff_eq.mpr c5
      clear c5
      by_cases c6:((rd_T62 l0 x5_1).f1)=(wrap64 (x1_1+1))
      ·rw[if_pos c6] at H
       have c6b0:(((rd_T62 l0 x5_1).f1) == (wrap64 (x1_1+1)))=true:=beq_iff_eq.mpr c6
       have c6b1:(((rd_T62 l0 x5_1).f1) != (wrap64 (x1_1+1)))=false:=bne_eq_false_iff_eq.mpr c6
       clear c6
       replace H:=Option.bind_eq_some_iff.mp H
       obtain⟨t144,A70,H⟩:=H
       replace H:(if t144<0 then(some (-1)) else(laws_heldRecS.l0 k1 l0 t144 (wrap64 (x5_1+1))))=some r:=H
       have A7:=qal.mk A70
       clear A70
       by_cases c8:t144<0
       ·rw[if_pos c8] at H
        have c8b0:decide (t144<0)=true:=decide_eq_true c8
        clear c8
        obtain rfl:=Option.some.inj H
        have p141:0≤(x5_1:Int):=of_decide_eq_true (za8)
        have q141:x5_1<(l0.length:Int):=of_decide_eq_true (za8)
        obtain⟨ad141,A141_2,c141_2,e141,hx141_0,hx141_1,hx141_2,hl141_2,hi141_2⟩:=at_T62 HR0.out x5_1 p141 q141
        cases e141
        have hxo141_2:=qal.mk hx141_2
        have HR141_2:=qal.mk hi141_2
        have HC141_2:=qal.mk hl141_2
        clear hi141_2 hl141_2
        replace p141:=eq_true p141
        replace q141:=eq_true q141
        have p142:0≤(x5_1:Int):=of_decide_eq_true (za8)
        have q142:x5_1<(l0.length:Int):=of_decide_eq_true (za8)
        obtain⟨ad142,A142_2,c142_2,e142,hx142_0,hx142_1,hx142_2,hl142_2,hi142_2⟩:=at_T62 HR0.out x5_1 p142 q142
        obtain rfl:ad141=ad142:=(by injection e142)
        have ea_:=Option.some.inj (hxo141_2.out.symm.trans hx142_2)
        injection ea_ with ea_ en_ ec_
        subst ea_
        subst ec_
        clear en_
        have HR142_2:=qal.mk hi142_2
        have HC142_2:=qal.mk hl142_2
        clear hi142_2 hl142_2
        replace p142:=eq_true p142
        replace q142:=eq_true q142
        have p143:0≤(x5_1:Int):=of_decide_eq_true (za8)
        have q143:x5_1<(l0.length:Int):=of_decide_eq_true (za8)
        obtain⟨ad143,A143_2,c143_2,e143,hx143_0,hx143_1,hx143_2,hl143_2,hi143_2⟩:=at_T62 HR0.out x5_1 p143 q143
        obtain rfl:ad141=ad143:=(by injection e143)
        have ea_:=Option.some.inj (hxo141_2.out.symm.trans hx143_2)
        injection ea_ with ea_ en_ ec_
        subst ea_
        subst ec_
        clear en_
        have HR143_2:=qal.mk hi143_2
        have HC143_2:=qal.mk hl143_2
        clear hi143_2 hl143_2
        replace p143:=eq_true p143
        replace q143:=eq_true q143
        go_wp2_with(first|((with_reducible refine qai (f:=123) rfl ?_);refine qau (some 36) rfl rfl Try.func123 (by kernel_rfl) rfl #[.slice A141_2 ((rd_T62 l0 x5_1).f2).length c141_2,.int .i64 (wrap64 ((wrap64 (x1_1+1))+1))] rfl (by(try simp only[List.map_toArray,List.map_cons,List.map_nil]);first|done|rfl|(simp only[List.length_drop,List.length_take];rfl)) ?_;(with_reducible refine(laws_heldIntS.calls k1 _ _ ((rd_T62 l0 x5_1).f2) (wrap64 ((wrap64 (x1_1+1))+1)) t144 _ ?side1 ?side2 A7.out).mono ?_);(case side1=>repeat(first|exact HR143_2.out|(with_reducible refine Kd.C_alloc ?_ _)|(with_reducible refine Kd.C_drewN ?_ _)|(with_reducible refine Kd.C_drew ?_)));(case side2=>exact HC143_2.out);rintro e w' ⟨rfl,⟨nd,rfl⟩⟩;refine⟨_,rfl,?_⟩))
        go_ret
        exact⟨za22,za44⟩
       ·rw[if_neg c8] at H
        have c8b0:decide (t144<0)=false:=decide_eq_false c8
        clear c8
        have H':=qal.mk H
        clear H
        have p141:0≤(x5_1:Int):=of_decide_eq_true (za8)
        have q141:x5_1<(l0.length:Int):=of_decide_eq_true (za8)
        obtain⟨ad141,A141_2,c141_2,e141,hx141_0,hx141_1,hx141_2,hl141_2,hi141_2⟩:=at_T62 HR0.out x5_1 p141 q141
        cases e141
        have hxo141_2:=qal.mk hx141_2
        have HR141_2:=qal.mk hi141_2
        have HC141_2:=qal.mk hl141_2
        clear hi141_2 hl141_2
        replace p141:=eq_true p141
        replace q141:=eq_true q141
        have p142:0≤(x5_1:Int):=of_decide_eq_true (za8)
        have q142:x5_1<(l0.length:Int):=of_decide_eq_true (za8)
        obtain⟨ad142,A142_2,c142_2,e142,hx142_0,hx142_1,hx142_2,hl142_2,hi142_2⟩:=at_T62 HR0.out x5_1 p142 q142
        obtain rfl:ad141=ad142:=(by injection e142)
        have ea_:=Option.some.inj (hxo141_2.out.symm.trans hx142_2)
        injection ea_ with ea_ en_ ec_
        subst ea_
        subst ec_
        clear en_
        have HR142_2:=qal.mk hi142_2
        have HC142_2:=qal.mk hl142_2
        clear hi142_2 hl142_2
        replace p142:=eq_true p142
        replace q142:=eq_true q142
        have p143:0≤(x5_1:Int):=of_decide_eq_true (za8)
        have q143:x5_1<(l0.length:Int):=of_decide_eq_true (za8)
        obtain⟨ad143,A143_2,c143_2,e143,hx143_0,hx143_1,hx143_2,hl143_2,hi143_2⟩:=at_T62 HR0.out x5_1 p143 q143
        obtain rfl:ad141=ad143:=(by injection e143)
        have ea_:=Option.some.inj (hxo141_2.out.symm.trans hx143_2)
        injection ea_ with ea_ en_ ec_
        subst ea_
        subst ec_
        clear en_
        have HR143_2:=qal.mk hi143_2
        have HC143_2:=qal.mk hl143_2
        clear hi143_2 hl143_2
        replace p143:=eq_true p143
        replace q143:=eq_true q143
        go_wp2_with(first|((with_reducible refine qai (f:=123) rfl ?_);refine qau (some 36) rfl rfl Try.func123 (by kernel_rfl) rfl #[.slice A141_2 ((rd_T62 l0 x5_1).f2).length c141_2,.int .i64 (wrap64 ((wrap64 (x1_1+1))+1))] rfl (by(try simp only[List.map_toArray,List.map_cons,List.map_nil]);first|done|rfl|(simp only[List.length_drop,List.length_take];rfl)) ?_;(with_reducible refine(laws_heldIntS.calls k1 _ _ ((rd_T62 l0 x5_1).f2) (wrap64 ((wrap64 (x1_1+1))+1)) t144 _ ?side1 ?side2 A7.out).mono ?_);(case side1=>repeat(first|exact HR143_2.out|(with_reducible refine Kd.C_alloc ?_ _)|(with_reducible refine Kd.C_drewN ?_ _)|(with_reducible refine Kd.C_drew ?_)));(case side2=>exact HC143_2.out);rintro e w' ⟨rfl,⟨nd,rfl⟩⟩;refine⟨_,rfl,?_⟩))
        go_roundg k1
        case measure=>have:=HK1.out;omega
        case rel=>exact⟨(t144),(wrap64 (x5_1+1)),(za22),(za22),H',⟨by have:=HK1.out;omega⟩,za44⟩
      ·rw[if_neg c6] at H
       have c6b0:(((rd_T62 l0 x5_1).f1) == (wrap64 (x1_1+1)))=false:=beq_eq_false_iff_ne.mpr c6
       have c6b1:(((rd_T62 l0 x5_1).f1) != (wrap64 (x1_1+1)))=true:=bne_iff_ne.mpr c6
       obtain rfl:=Option.some.inj H
       have p141:0≤(x5_1:Int):=of_decide_eq_true (za8)
       have q141:x5_1<(l0.length:Int):=of_decide_eq_true (za8)
       obtain⟨ad141,A141_2,c141_2,e141,hx141_0,hx141_1,hx141_2,hl141_2,hi141_2⟩:=at_T62 HR0.out x5_1 p141 q141
       cases e141
       have hxo141_2:=qal.mk hx141_2
       have HR141_2:=qal.mk hi141_2
       have HC141_2:=qal.mk hl141_2
       clear hi141_2 hl141_2
       replace p141:=eq_true p141
       replace q141:=eq_true q141
       have p142:0≤(x5_1:Int):=of_decide_eq_true (za8)
       have q142:x5_1<(l0.length:Int):=of_decide_eq_true (za8)
       obtain⟨ad142,A142_2,c142_2,e142,hx142_0,hx142_1,hx142_2,hl142_2,hi142_2⟩:=at_T62 HR0.out x5_1 p142 q142
       obtain rfl:ad141=ad142:=(by injection e142)
       have ea_:=Option.some.inj (hxo141_2.out.symm.trans hx142_2)
       injection ea_ with ea_ en_ ec_
       subst ea_
       subst ec_
       clear en_
       have HR142_2:=qal.mk hi142_2
       have HC142_2:=qal.mk hl142_2
       clear hi142_2 hl142_2
       replace p142:=eq_true p142
       replace q142:=eq_true q142
       go_wp2
       go_ret
       exact⟨za22,za44⟩
     ·rw[if_neg c5] at H
      have c5b0:(((rd_T62 l0 x5_1).f0) == x1_1)=false:=beq_eq_false_iff_ne.mpr c5
      have c5b1:(((rd_T62 l0 x5_1).f0) != x1_1)=true:=bne_iff_ne.mpr c5
      obtain rfl:=Option.some.inj H
      have p141:0≤(x5_1:Int):=of_decide_eq_true (za8)
      have q141:x5_1<(l0.length:Int):=of_decide_eq_true (za8)
      obtain⟨ad141,A141_2,c141_2,e141,hx141_0,hx141_1,hx141_2,hl141_2,hi141_2⟩:=at_T62 HR0.out x5_1 p141 q141
      cases e141
      have hxo141_2:=qal.mk hx141_2
      have HR141_2:=qal.mk hi141_2
      have HC141_2:=qal.mk hl141_2
      clear hi141_2 hl141_2
      replace p141:=eq_true p141
      replace q141:=eq_true q141
      go_wp2
      go_ret
      exact⟨za22,za44⟩
    ·rw[if_neg c4] at H
     exact absurd H (by simp)
   ·rw[if_neg c3] at H
    have c3b0:decide (x5_1<(l0.length:Int))=false:=decide_eq_false c3
    clear c3
    obtain rfl:=Option.some.inj H
    go_wp2
    go_ret
    exact⟨za22,za44⟩
def laws_heldLog.f (k:Nat) (l0_0:List (S62)) (a0_1:Int) (a1:Int):Option (Int):=(laws_heldRecS.f k l0_0 a1).bind fun t146=>(if t146<0 then(some (-1)) else(some t146))
theorem laws_heldLog.mono:∀a0 a1 a2 k,LeO (laws_heldLog.f k a0 a1 a2) (laws_heldLog.f (k+1) a0 a1 a2):=by
 intro a0 a1 a2 k
 unfold laws_heldLog.f
 repeat' first
   |(with_reducible exact laws_heldRecS.mono _ _ _)
   |(with_reducible exact LeO.refl _)
   |(with_reducible exact LeO.none _)
   |(with_reducible refine LeO.ite ?_ ?_)
   |(with_reducible refine LeO.bind ?_ (fun _=>?_))
   |exact laws_heldRecS.mono _ _ _
   |exact LeO.none _
   |refine LeO.ite ?_ ?_
   |refine LeO.bind ?_ (fun _=>?_)
set_option maxHeartbeats 8000000 in
set_option maxRecDepth 100000 in
theorem laws_heldLog.calls (k:Nat) (A0_0:Option Addr) (c0_0:Nat) (l0_0:List (S62)) (a0_1:Int) (a1:Int) (r:Int) (w:World) (hr0_0:Kd.C k62 w A0_0 l0_0.length l0_0) (hc0_0:l0_0.length≤c0_0) (h:laws_heldLog.f k l0_0 a0_1 a1=some r) :
  Calls Try.prog 63 #[.agg #[.slice A0_0 l0_0.length c0_0,.int .i64 a0_1],.int .i64 a1] w fun e w'=>e=.returned (.int .i64 r)∧Below w.heap.size w w':=by
 have hu24:=Try.underlying24
 have HR0_0:=qal.mk hr0_0
 have HC0_0:=qal.mk hc0_0
 clear hr0_0 hc0_0
 have HB:=qal.mk (Below.refl w.heap.size w)
 have H:((laws_heldRecS.f k l0_0 a1).bind fun t146=>(if t146<0 then(some (-1)) else(some t146)))=some r:=h
 clear h
 replace H:=Option.bind_eq_some_iff.mp H
 obtain⟨t146,A30,H⟩:=H
 replace H:(if t146<0 then(some (-1)) else(some t146))=some r:=H
 have A3:=qal.mk A30
 clear A30
 by_cases c4:t146<0
 ·rw[if_pos c4] at H
  have c4b0:decide (t146<0)=true:=decide_eq_true c4
  clear c4
  obtain rfl:=Option.some.inj H
  go_enter Try.func63,Try.ntmps63
  go_wp2_with(first|((with_reducible refine qak (N:=2) rfl ?_);refine qaj ?hg (N:=2) ?hd (cs:=#[.slice A0_0 l0_0.length c0_0,.int .i64 a0_1]) (t:=24) ?hr ?_;(case hd=>rfl);(case hg=>rfl);(case hr=>first|(go_simp;done)|(go_simp;rfl));intro gb145 hg w5 hbox hb;have n0_:=qal.mk (qae (za2 HB) hb);have n1_:=qal.mk (hbox);have n2_:=qal.mk ((by rw[hg];exact(qad (za2 HB)):w.heap.size≤gb145));have n3_:=qal.mk ((by rw[hg];exact(qad (za2 HB)):w.heap.size≤gb145));clear HB;have HB:=n0_;have BK145:=n1_;have GW145:=n2_;have GE145:=n3_;clear n0_ n1_ n2_ n3_;clear hb hbox hg;have hcz6_0:w5.cell? ⟨gb145,0,none⟩=some (.slice A0_0 l0_0.length c0_0):=(qab BK145.out 0).trans rfl;have hcz6_1:w5.cell? ⟨gb145,1,none⟩=some (.int .i64 a0_1):=(qab BK145.out 1).trans rfl;have hfz6_0:=qaa BK145.out 0;have hfz6_1:=qaa BK145.out 1)|((with_reducible refine qai (f:=103) rfl ?_);refine qau (some 8) rfl rfl Try.func103 (by kernel_rfl) rfl #[.slice A0_0 l0_0.length c0_0,.int .i64 a1] rfl (by(try simp only[List.map_toArray,List.map_cons,List.map_nil]);first|done|rfl|(simp only[List.length_drop,List.length_take];rfl)) ?_;(with_reducible refine(laws_heldRecS.calls k _ _ l0_0 a1 t146 _ ?side1 ?side2 A3.out).mono ?_);(case side1=>repeat(first|exact(Kd.C_below HR0_0.out HB.out)|(with_reducible refine Kd.C_alloc ?_ _)|(with_reducible refine Kd.C_drewN ?_ _)|(with_reducible refine Kd.C_drew ?_)));(case side2=>exact HC0_0.out);rintro e w' ⟨rfl,⟨nd,rfl⟩⟩;refine⟨_,rfl,?_⟩))
  go_ret
  exact⟨za9,za1 HB GE145⟩
 ·rw[if_neg c4] at H
  have c4b0:decide (t146<0)=false:=decide_eq_false c4
  clear c4
  obtain rfl:=Option.some.inj H
  go_enter Try.func63,Try.ntmps63
  go_wp2_with(first|((with_reducible refine qak (N:=2) rfl ?_);refine qaj ?hg (N:=2) ?hd (cs:=#[.slice A0_0 l0_0.length c0_0,.int .i64 a0_1]) (t:=24) ?hr ?_;(case hd=>rfl);(case hg=>rfl);(case hr=>first|(go_simp;done)|(go_simp;rfl));intro gb145 hg w7 hbox hb;have n0_:=qal.mk (qae (za2 HB) hb);have n1_:=qal.mk (hbox);have n2_:=qal.mk ((by rw[hg];exact(qad (za2 HB)):w.heap.size≤gb145));have n3_:=qal.mk ((by rw[hg];exact(qad (za2 HB)):w.heap.size≤gb145));clear HB;have HB:=n0_;have BK145:=n1_;have GW145:=n2_;have GE145:=n3_;clear n0_ n1_ n2_ n3_;clear hb hbox hg;have hcz8_0:w7.cell? ⟨gb145,0,none⟩=some (.slice A0_0 l0_0.length c0_0):=(qab BK145.out 0).trans rfl;have hcz8_1:w7.cell? ⟨gb145,1,none⟩=some (.int .i64 a0_1):=(qab BK145.out 1).trans rfl;have hfz8_0:=qaa BK145.out 0;have hfz8_1:=qaa BK145.out 1)|((with_reducible refine qai (f:=103) rfl ?_);refine qau (some 8) rfl rfl Try.func103 (by kernel_rfl) rfl #[.slice A0_0 l0_0.length c0_0,.int .i64 a1] rfl (by(try simp only[List.map_toArray,List.map_cons,List.map_nil]);first|done|rfl|(simp only[List.length_drop,List.length_take];rfl)) ?_;(with_reducible refine(laws_heldRecS.calls k _ _ l0_0 a1 t146 _ ?side1 ?side2 A3.out).mono ?_);(case side1=>repeat(first|exact(Kd.C_below HR0_0.out HB.out)|(with_reducible refine Kd.C_alloc ?_ _)|(with_reducible refine Kd.C_drewN ?_ _)|(with_reducible refine Kd.C_drew ?_)));(case side2=>exact HC0_0.out);rintro e w' ⟨rfl,⟨nd,rfl⟩⟩;refine⟨_,rfl,?_⟩))
  go_ret
  exact⟨za9,za1 HB GE145⟩
def laws_heldHouse.f (k:Nat) (a0_0:Int) (a0_1:Bool) (a0_2:Int) (l0_3:List (S62)) (a0_4:Int) (a1:Int):Option (Int):=(laws_heldLog.f k l0_3 a0_4 a1).bind fun t148=>(if t148<0 then(some (-1)) else(some t148))
theorem laws_heldHouse.mono:∀a0 a1 a2 a3 a4 a5 k,LeO (laws_heldHouse.f k a0 a1 a2 a3 a4 a5) (laws_heldHouse.f (k+1) a0 a1 a2 a3 a4 a5):=by
 intro a0 a1 a2 a3 a4 a5 k
 unfold laws_heldHouse.f
 repeat' first
   |(with_reducible exact laws_heldLog.mono _ _ _ _)
   |(with_reducible exact LeO.refl _)
   |(with_reducible exact LeO.none _)
   |(with_reducible refine LeO.ite ?_ ?_)
   |(with_reducible refine LeO.bind ?_ (fun _=>?_))
   |exact laws_heldLog.mono _ _ _ _
   |exact LeO.none _
   |refine LeO.ite ?_ ?_
   |refine LeO.bind ?_ (fun _=>?_)
set_option maxHeartbeats 8000000 in
set_option maxRecDepth 100000 in
theorem laws_heldHouse.calls (k:Nat) (a0_0:Int) (a0_1:Bool) (a0_2:Int) (A0_3:Option Addr) (c0_3:Nat) (l0_3:List (S62)) (a0_4:Int) (a1:Int) (r:Int) (w:World) (hr0_3:Kd.C k62 w A0_3 l0_3.length l0_3) (hc0_3:l0_3.length≤c0_3) (h:laws_heldHouse.f k a0_0 a0_1 a0_2 l0_3 a0_4 a1=some r) :
  Calls Try.prog 19 #[.agg #[.int .i64 a0_0,.bool a0_1,.int .i64 a0_2,.slice A0_3 l0_3.length c0_3,.int .i64 a0_4],.int .i64 a1] w fun e w'=>e=.returned (.int .i64 r)∧Below w.heap.size w w':=by
 have hu26:=Try.underlying26
 have hu24:=Try.underlying24
 have HR0_3:=qal.mk hr0_3
 have HC0_3:=qal.mk hc0_3
 clear hr0_3 hc0_3
 have HB:=qal.mk (Below.refl w.heap.size w)
 have H:((laws_heldLog.f k l0_3 a0_4 a1).bind fun t148=>(if t148<0 then(some (-1)) else(some t148)))=some r:=h
 clear h
 replace H:=Option.bind_eq_some_iff.mp H
 obtain⟨t148,A30,H⟩:=H
 replace H:(if t148<0 then(some (-1)) else(some t148))=some r:=H
 have A3:=qal.mk A30
 clear A30
 by_cases c4:t148<0
 ·rw[if_pos c4] at H
  have c4b0:decide (t148<0)=true:=decide_eq_true c4
  clear c4
  obtain rfl:=Option.some.inj H
  go_enter Try.func19,Try.ntmps19
  go_wp2_with(first|((with_reducible refine qak (N:=2) rfl ?_);refine qaj ?hg (N:=2) ?hd (cs:=#[.int .i64 a0_0,.bool a0_1,.int .i64 a0_2,.slice A0_3 l0_3.length c0_3,.int .i64 a0_4]) (t:=26) ?hr ?_;(case hd=>rfl);(case hg=>rfl);(case hr=>first|(go_simp;done)|(go_simp;rfl));intro gb147 hg w5 hbox hb;have n0_:=qal.mk (qae (za2 HB) hb);have n1_:=qal.mk (hbox);have n2_:=qal.mk ((by rw[hg];exact(qad (za2 HB)):w.heap.size≤gb147));have n3_:=qal.mk ((by rw[hg];exact(qad (za2 HB)):w.heap.size≤gb147));clear HB;have HB:=n0_;have BK147:=n1_;have GW147:=n2_;have GE147:=n3_;clear n0_ n1_ n2_ n3_;clear hb hbox hg;have hcz6_0:w5.cell? ⟨gb147,0,none⟩=some (.int .i64 a0_0):=(qab BK147.out 0).trans rfl;have hcz6_1:w5.cell? ⟨gb147,1,none⟩=some (.bool a0_1):=(qab BK147.out 1).trans rfl;have hcz6_2:w5.cell? ⟨gb147,2,none⟩=some (.int .i64 a0_2):=(qab BK147.out 2).trans rfl;have hcz6_3:w5.cell? ⟨gb147,3,none⟩=some (.slice A0_3 l0_3.length c0_3):=(qab BK147.out 3).trans rfl;have hcz6_4:w5.cell? ⟨gb147,4,none⟩=some (.int .i64 a0_4):=(qab BK147.out 4).trans rfl;have hfz6_0:=qaa BK147.out 0;have hfz6_1:=qaa BK147.out 1;have hfz6_2:=qaa BK147.out 2;have hfz6_3:=qaa BK147.out 3;have hfz6_4:=qaa BK147.out 4)|((with_reducible refine qai (f:=63) rfl ?_);refine qau (some 8) rfl rfl Try.func63 (by kernel_rfl) rfl #[.agg #[.slice A0_3 l0_3.length c0_3,.int .i64 a0_4],.int .i64 a1] rfl (by(try simp only[List.map_toArray,List.map_cons,List.map_nil]);first|done|rfl|(simp only[List.length_drop,List.length_take];rfl)) ?_;(with_reducible refine(laws_heldLog.calls k _ _ l0_3 a0_4 a1 t148 _ ?side1 ?side2 A3.out).mono ?_);(case side1=>repeat(first|exact(Kd.C_below HR0_3.out HB.out)|(with_reducible refine Kd.C_alloc ?_ _)|(with_reducible refine Kd.C_drewN ?_ _)|(with_reducible refine Kd.C_drew ?_)));(case side2=>exact HC0_3.out);rintro e w7 ⟨rfl,hb⟩;refine⟨_,rfl,?_⟩;have n0_:=qal.mk (qac (g:=gb147) (o:=.cells #[.int .i64 a0_0,.bool a0_1,.int .i64 a0_2,.slice A0_3 l0_3.length c0_3,.int .i64 a0_4] 26 (0,0)) (za0 BK147) hb);have n1_:=qal.mk (qae (za1 HB GE147) hb);clear BK147;clear HB;have BK147:=n0_;have HB:=n1_;clear n0_ n1_;(try clear hb);(try clear hb2);(try clear hk);(try clear hi)))
  go_ret
  exact⟨za9,za1 HB GE147⟩
 ·rw[if_neg c4] at H
  have c4b0:decide (t148<0)=false:=decide_eq_false c4
  clear c4
  obtain rfl:=Option.some.inj H
  go_enter Try.func19,Try.ntmps19
  go_wp2_with(first|((with_reducible refine qak (N:=2) rfl ?_);refine qaj ?hg (N:=2) ?hd (cs:=#[.int .i64 a0_0,.bool a0_1,.int .i64 a0_2,.slice A0_3 l0_3.length c0_3,.int .i64 a0_4]) (t:=26) ?hr ?_;(case hd=>rfl);(case hg=>rfl);(case hr=>first|(go_simp;done)|(go_simp;rfl));intro gb147 hg w8 hbox hb;have n0_:=qal.mk (qae (za2 HB) hb);have n1_:=qal.mk (hbox);have n2_:=qal.mk ((by rw[hg];exact(qad (za2 HB)):w.heap.size≤gb147));have n3_:=qal.mk ((by rw[hg];exact(qad (za2 HB)):w.heap.size≤gb147));clear HB;have HB:=n0_;have BK147:=n1_;have GW147:=n2_;have GE147:=n3_;clear n0_ n1_ n2_ n3_;clear hb hbox hg;have hcz9_0:w8.cell? ⟨gb147,0,none⟩=some (.int .i64 a0_0):=(qab BK147.out 0).trans rfl;have hcz9_1:w8.cell? ⟨gb147,1,none⟩=some (.bool a0_1):=(qab BK147.out 1).trans rfl;have hcz9_2:w8.cell? ⟨gb147,2,none⟩=some (.int .i64 a0_2):=(qab BK147.out 2).trans rfl;have hcz9_3:w8.cell? ⟨gb147,3,none⟩=some (.slice A0_3 l0_3.length c0_3):=(qab BK147.out 3).trans rfl;have hcz9_4:w8.cell? ⟨gb147,4,none⟩=some (.int .i64 a0_4):=(qab BK147.out 4).trans rfl;have hfz9_0:=qaa BK147.out 0;have hfz9_1:=qaa BK147.out 1;have hfz9_2:=qaa BK147.out 2;have hfz9_3:=qaa BK147.out 3;have hfz9_4:=qaa BK147.out 4)|((with_reducible refine qai (f:=63) rfl ?_);refine qau (some 8) rfl rfl Try.func63 (by kernel_rfl) rfl #[.agg #[.slice A0_3 l0_3.length c0_3,.int .i64 a0_4],.int .i64 a1] rfl (by(try simp only[List.map_toArray,List.map_cons,List.map_nil]);first|done|rfl|(simp only[List.length_drop,List.length_take];rfl)) ?_;(with_reducible refine(laws_heldLog.calls k _ _ l0_3 a0_4 a1 t148 _ ?side1 ?side2 A3.out).mono ?_);(case side1=>repeat(first|exact(Kd.C_below HR0_3.out HB.out)|(with_reducible refine Kd.C_alloc ?_ _)|(with_reducible refine Kd.C_drewN ?_ _)|(with_reducible refine Kd.C_drew ?_)));(case side2=>exact HC0_3.out);rintro e w10 ⟨rfl,hb⟩;refine⟨_,rfl,?_⟩;have n0_:=qal.mk (qac (g:=gb147) (o:=.cells #[.int .i64 a0_0,.bool a0_1,.int .i64 a0_2,.slice A0_3 l0_3.length c0_3,.int .i64 a0_4] 26 (0,0)) (za0 BK147) hb);have n1_:=qal.mk (qae (za1 HB GE147) hb);clear BK147;clear HB;have BK147:=n0_;have HB:=n1_;clear n0_ n1_;(try clear hb);(try clear hb2);(try clear hk);(try clear hi)))
  go_ret
  exact⟨za9,za1 HB GE147⟩
end Go.Proofs.Ytjccnaklodbbfaa.Print
