-- Written by squeeze.py: not trusted, Lean checks it.
import Derived.Test.YtjccnaklodbbfaaZK
namespace Go.Proofs.Ytjccnaklodbbfaa.Print
open Go.RowKit Go.Proofs.YtjccnaklodbbfaaW.PrintWords Go.Proofs.YtjccnaklodbbfaaW.PrintLast Go.Proofs.YtjccnaklodbbfaaW.PrintMore
attribute [local go_sem] max2_int min2_int max_two min_two max_three min_three max_four min_four
set_option linter.unusedVariables false
set_option linter.unusedSimpArgs false
def laws_heldIntS.l0:Nat→List Int→Int→Int→Option (Int)
 |0,_,_,_=>none
 |k+1,x0,x1,x5=>if x5<(x0.length:Int) then(if 0≤x5 then(if(rd x0 x5)=x1 then(laws_heldIntS.l0 k x0 (wrap64 (x1+1)) (wrap64 (x5+1))) else(some (-1))) else(none)) else(some x1)
def laws_heldIntS.f (k:Nat) (l0:List Int) (a1:Int):Option (Int):=laws_heldIntS.l0 k l0 a1 0
theorem laws_heldIntS.mono_l:∀k,(∀y0 y1 y2,LeO (laws_heldIntS.l0 k y0 y1 y2) (laws_heldIntS.l0 (k+1) y0 y1 y2))
 |0=>fun _ _ _ r h=>by simp[laws_heldIntS.l0] at h
 |k+1=>by
  have ih0:=laws_heldIntS.mono_l k
  ·intro y0 y1 y2
   unfold laws_heldIntS.l0
   repeat' first
   |(with_reducible exact ih0 _ _ _)
   |(with_reducible exact LeO.refl _)
   |(with_reducible exact LeO.none _)
   |(with_reducible refine LeO.ite ?_ ?_)
   |(with_reducible refine LeO.bind ?_ (fun _=>?_))
   |exact ih0 _ _ _
   |exact LeO.none _
   |refine LeO.ite ?_ ?_
   |refine LeO.bind ?_ (fun _=>?_)
theorem laws_heldIntS.mono:∀a0 a1 k,LeO (laws_heldIntS.f k a0 a1) (laws_heldIntS.f (k+1) a0 a1):=by
 intro a0 a1 k
 have ih0:=laws_heldIntS.mono_l k
 unfold laws_heldIntS.f
 repeat' first
   |(with_reducible exact ih0 _ _ _)
   |(with_reducible exact LeO.refl _)
   |(with_reducible exact LeO.none _)
   |(with_reducible refine LeO.ite ?_ ?_)
   |(with_reducible refine LeO.bind ?_ (fun _=>?_))
   |exact ih0 _ _ _
   |exact LeO.none _
   |refine LeO.ite ?_ ?_
   |refine LeO.bind ?_ (fun _=>?_)
set_option maxHeartbeats 8000000 in
set_option maxRecDepth 100000 in
theorem laws_heldIntS.calls (k:Nat) (A0:Option Addr) (c0:Nat) (l0:List Int) (a1:Int) (r:Int) (w:World) (hr0:Kd.C (Kd.int .i64) w A0 l0.length l0) (hc0:l0.length≤c0) (h:laws_heldIntS.f k l0 a1=some r) :
  Calls Try.prog 123 #[.slice A0 l0.length c0,.int .i64 a1] w fun e w'=>e=.returned (.int .i64 r)∧Drawn0 w w':=by
 have HR0:=Aside0.mk hr0
 have HC0:=Aside0.mk hc0
 clear hr0 hc0
 have H:(laws_heldIntS.l0 k l0 a1 0)=some r:=h
 clear h
 have H':=Aside0.mk H
 clear H
 go_enter Try.func123,Try.ntmps123
 go_wp2
 go_loopg [1,5] k (fun kq v1 v5 w'=>∃(x1_1:Int) (x5_1:Int),v1=.int .i64 x1_1∧v5=.int .i64 x5_1∧Aside0 (laws_heldIntS.l0 kq l0 x1_1 x5_1=some r)∧Aside0 (kq≤k)∧Drawn0 w w')
 case atStart=>exact⟨(a1),(0),(za17),(za17),H',⟨Nat.le_refl _⟩,za20⟩
 case round=>
  clear H'
  try clear c1
  try clear p2
  obtain⟨x1_1,x5_1,rfl,rfl,HA,HK1,⟨m1,rfl⟩⟩:=hrel
  cases gk with
  |zero=>exact absurd HA.out (by simp[laws_heldIntS.l0])
  |succ k1=>
   have H:=HA.out
   clear HA
   simp only[laws_heldIntS.l0] at H
   by_cases c3:x5_1<(l0.length:Int)
   ·rw[if_pos c3] at H
    have c3b0:decide (x5_1<(l0.length:Int))=true:=decide_eq_true c3
    clear c3
    by_cases c4:0≤x5_1
    ·rw[if_pos c4] at H
     have c4b0:decide (0≤x5_1)=true:=decide_eq_true c4
     clear c4
     by_cases c5:(rd l0 x5_1)=x1_1
     ·rw[if_pos c5] at H
      have c5b0:((rd l0 x5_1) == x1_1)=true:=beq_iff_eq.mpr c5
      have c5b1:((rd l0 x5_1) != x1_1)=false:=bne_eq_false_iff_eq.mpr c5
      clear c5
      have H':=Aside0.mk H
      clear H
      have p138:0≤(x5_1:Int):=of_decide_eq_true (za5)
      have q138:x5_1<(l0.length:Int):=of_decide_eq_true (za5)
      obtain⟨ad138,e138,hx138_0⟩:=Kd.at_int HR0.out x5_1 p138 q138
      cases e138
      replace p138:=eq_true p138
      replace q138:=eq_true q138
      go_wp2
      go_roundg k1
      case measure=>have:=HK1.out;omega
      case rel=>exact⟨(wrap64 (x1_1+1)),(wrap64 (x5_1+1)),(za17),(za17),H',⟨by have:=HK1.out;omega⟩,za20⟩
     ·rw[if_neg c5] at H
      have c5b0:((rd l0 x5_1) == x1_1)=false:=beq_eq_false_iff_ne.mpr c5
      have c5b1:((rd l0 x5_1) != x1_1)=true:=bne_iff_ne.mpr c5
      obtain rfl:=Option.some.inj H
      have p138:0≤(x5_1:Int):=of_decide_eq_true (za5)
      have q138:x5_1<(l0.length:Int):=of_decide_eq_true (za5)
      obtain⟨ad138,e138,hx138_0⟩:=Kd.at_int HR0.out x5_1 p138 q138
      cases e138
      replace p138:=eq_true p138
      replace q138:=eq_true q138
      go_wp2
      go_ret
      exact⟨za17,za20⟩
    ·rw[if_neg c4] at H
     exact absurd H (by simp)
   ·rw[if_neg c3] at H
    have c3b0:decide (x5_1<(l0.length:Int))=false:=decide_eq_false c3
    clear c3
    obtain rfl:=Option.some.inj H
    go_wp2
    go_ret
    exact⟨za17,za20⟩
def laws_heldRecS.l0:Nat→List (S62)→Int→Int→Option (Int)
 |0,_,_,_=>none
 |k+1,x0,x1,x5=>if x5<(x0.length:Int) then(if 0≤x5 then(if((rd_T62 x0 x5).f0)=x1 then(if((rd_T62 x0 x5).f1)=(wrap64 (x1+1)) then((laws_heldIntS.f k ((rd_T62 x0 x5).f2) (wrap64 ((wrap64 (x1+1))+1))).bind fun t142=>(if t142<0 then(some (-1)) else(laws_heldRecS.l0 k x0 t142 (wrap64 (x5+1))))) else(some (-1))) else(some (-1))) else(none)) else(some x1)
def laws_heldRecS.f (k:Nat) (l0:List (S62)) (a1:Int):Option (Int):=laws_heldRecS.l0 k l0 a1 0
theorem laws_heldRecS.mono_l:∀k,(∀y0 y1 y2,LeO (laws_heldRecS.l0 k y0 y1 y2) (laws_heldRecS.l0 (k+1) y0 y1 y2))
 |0=>fun _ _ _ r h=>by simp[laws_heldRecS.l0] at h
 |k+1=>by
  have ih0:=laws_heldRecS.mono_l k
  ·intro y0 y1 y2
   unfold laws_heldRecS.l0
   repeat' first
   |(with_reducible exact ih0 _ _ _)
   |(with_reducible exact laws_heldIntS.mono _ _ _)
   |(with_reducible exact LeO.refl _)
   |(with_reducible exact LeO.none _)
   |(with_reducible refine LeO.ite ?_ ?_)
   |(with_reducible refine LeO.bind ?_ (fun _=>?_))
   |exact ih0 _ _ _
   |exact laws_heldIntS.mono _ _ _
   |exact LeO.none _
   |refine LeO.ite ?_ ?_
   |refine LeO.bind ?_ (fun _=>?_)
theorem laws_heldRecS.mono:∀a0 a1 k,LeO (laws_heldRecS.f k a0 a1) (laws_heldRecS.f (k+1) a0 a1):=by
 intro a0 a1 k
 have ih0:=laws_heldRecS.mono_l k
 unfold laws_heldRecS.f
 repeat' first
   |(with_reducible exact ih0 _ _ _)
   |(with_reducible exact laws_heldIntS.mono _ _ _)
   |(with_reducible exact LeO.refl _)
   |(with_reducible exact LeO.none _)
   |(with_reducible refine LeO.ite ?_ ?_)
   |(with_reducible refine LeO.bind ?_ (fun _=>?_))
   |exact ih0 _ _ _
   |exact laws_heldIntS.mono _ _ _
   |exact LeO.none _
   |refine LeO.ite ?_ ?_
   |refine LeO.bind ?_ (fun _=>?_)
set_option maxHeartbeats 8000000 in
set_option maxRecDepth 100000 in
theorem laws_heldRecS.calls (k:Nat) (A0:Option Addr) (c0:Nat) (l0:List (S62)) (a1:Int) (r:Int) (w:World) (hr0:Kd.C k62 w A0 l0.length l0) (hc0:l0.length≤c0) (h:laws_heldRecS.f k l0 a1=some r) :
  Calls Try.prog 103 #[.slice A0 l0.length c0,.int .i64 a1] w fun e w'=>e=.returned (.int .i64 r)∧Drawn0 w w':=by
 have HR0:=Aside0.mk hr0
 have HC0:=Aside0.mk hc0
 clear hr0 hc0
 have H:(laws_heldRecS.l0 k l0 a1 0)=some r:=h
 clear h
 have H':=Aside0.mk H
 clear H
 go_enter Try.func103,Try.ntmps103
 go_wp2
 go_loopg [1,5] k (fun kq v1 v5 w'=>∃(x1_1:Int) (x5_1:Int),v1=.int .i64 x1_1∧v5=.int .i64 x5_1∧Aside0 (laws_heldRecS.l0 kq l0 x1_1 x5_1=some r)∧Aside0 (kq≤k)∧Drawn0 w w')
 case atStart=>exact⟨(a1),(0),(za17),(za17),H',⟨Nat.le_refl _⟩,za20⟩
 case round=>
  clear H'
  try clear c1
  try clear p2
  obtain⟨x1_1,x5_1,rfl,rfl,HA,HK1,⟨m1,rfl⟩⟩:=hrel
  cases gk with
  |zero=>exact absurd HA.out (by simp[laws_heldRecS.l0])
  |succ k1=>
   have H:=HA.out
   clear HA
   simp only[laws_heldRecS.l0] at H
   by_cases c3:x5_1<(l0.length:Int)
   ·rw[if_pos c3] at H
    have c3b0:decide (x5_1<(l0.length:Int))=true:=decide_eq_true c3
    clear c3
    by_cases c4:0≤x5_1
    ·rw[if_pos c4] at H
     have c4b0:decide (0≤x5_1)=true:=decide_eq_true c4
     clear c4
     by_cases c5:((rd_T62 l0 x5_1).f0)=x1_1
     ·rw[if_pos c5] at H
      have c5b0:(((rd_T62 l0 x5_1).f0) == x1_1)=true:=beq_iff_eq.mpr c5
      have c5b1:(((rd_T62 l0 x5_1).f0) != x1_1)=false:=bne_eq_false_iff_eq.mpr c5
      clear c5
      by_cases c6:((rd_T62 l0 x5_1).f1)=(wrap64 (x1_1+1))
      ·rw[if_pos c6] at H
       have c6b0:(((rd_T62 l0 x5_1).f1) == (wrap64 (x1_1+1)))=true:=beq_iff_eq.mpr c6
       have c6b1:(((rd_T62 l0 x5_1).f1) != (wrap64 (x1_1+1)))=false:=bne_eq_false_iff_eq.mpr c6
       clear c6
       replace H:=Option.bind_eq_some_iff.mp H
       obtain⟨t142,A70,H⟩:=H
       replace H:(if t142<0 then(some (-1)) else(laws_heldRecS.l0 k1 l0 t142 (wrap64 (x5_1+1))))=some r:=H
       have A7:=Aside0.mk A70
       clear A70
       by_cases c8:t142<0
       ·rw[if_pos c8] at H
        have c8b0:decide (t142<0)=true:=decide_eq_true c8
        clear c8
        obtain rfl:=Option.some.inj H
        have p139:0≤(x5_1:Int):=of_decide_eq_true (za5)
        have q139:x5_1<(l0.length:Int):=of_decide_eq_true (za5)
        obtain⟨ad139,A139_2,c139_2,e139,hx139_0,hx139_1,hx139_2,hl139_2,hi139_2⟩:=at_T62 HR0.out x5_1 p139 q139
        cases e139
        have hxo139_2:=Aside0.mk hx139_2
        have HR139_2:=Aside0.mk hi139_2
        have HC139_2:=Aside0.mk hl139_2
        clear hi139_2 hl139_2
        replace p139:=eq_true p139
        replace q139:=eq_true q139
        have p140:0≤(x5_1:Int):=of_decide_eq_true (za5)
        have q140:x5_1<(l0.length:Int):=of_decide_eq_true (za5)
        obtain⟨ad140,A140_2,c140_2,e140,hx140_0,hx140_1,hx140_2,hl140_2,hi140_2⟩:=at_T62 HR0.out x5_1 p140 q140
        obtain rfl:ad139=ad140:=(by injection e140)
        have ea_:=Option.some.inj (hxo139_2.out.symm.trans hx140_2)
        injection ea_ with ea_ en_ ec_
        subst ea_
        subst ec_
        clear en_
        have HR140_2:=Aside0.mk hi140_2
        have HC140_2:=Aside0.mk hl140_2
        clear hi140_2 hl140_2
        replace p140:=eq_true p140
        replace q140:=eq_true q140
        have p141:0≤(x5_1:Int):=of_decide_eq_true (za5)
        have q141:x5_1<(l0.length:Int):=of_decide_eq_true (za5)
        obtain⟨ad141,A141_2,c141_2,e141,hx141_0,hx141_1,hx141_2,hl141_2,hi141_2⟩:=at_T62 HR0.out x5_1 p141 q141
        obtain rfl:ad139=ad141:=(by injection e141)
        have ea_:=Option.some.inj (hxo139_2.out.symm.trans hx141_2)
        injection ea_ with ea_ en_ ec_
        subst ea_
        subst ec_
        clear en_
        have HR141_2:=Aside0.mk hi141_2
        have HC141_2:=Aside0.mk hl141_2
        clear hi141_2 hl141_2
        replace p141:=eq_true p141
        replace q141:=eq_true q141
        go_wp2_with(first|((with_reducible refine qaf (f:=123) rfl ?_);refine zF (some 36) Try.func123 #[.slice A139_2 ((rd_T62 l0 x5_1).f2).length c139_2,.int .i64 (wrap64 ((wrap64 (x1_1+1))+1))] ?_;(with_reducible refine(laws_heldIntS.calls k1 _ _ ((rd_T62 l0 x5_1).f2) (wrap64 ((wrap64 (x1_1+1))+1)) t142 _ ?side1 ?side2 A7.out).mono ?_);(case side1=>repeat(first|exact HR141_2.out|(with_reducible refine Kd.C_alloc ?_ _)|(with_reducible refine Kd.C_drewN ?_ _)|(with_reducible refine Kd.C_drew ?_)));(case side2=>exact HC141_2.out);rintro e w' ⟨rfl,⟨nd,rfl⟩⟩;refine⟨_,rfl,?_⟩))
        go_ret
        exact⟨za17,za20⟩
       ·rw[if_neg c8] at H
        have c8b0:decide (t142<0)=false:=decide_eq_false c8
        clear c8
        have H':=Aside0.mk H
        clear H
        have p139:0≤(x5_1:Int):=of_decide_eq_true (za5)
        have q139:x5_1<(l0.length:Int):=of_decide_eq_true (za5)
        obtain⟨ad139,A139_2,c139_2,e139,hx139_0,hx139_1,hx139_2,hl139_2,hi139_2⟩:=at_T62 HR0.out x5_1 p139 q139
        cases e139
        have hxo139_2:=Aside0.mk hx139_2
        have HR139_2:=Aside0.mk hi139_2
        have HC139_2:=Aside0.mk hl139_2
        clear hi139_2 hl139_2
        replace p139:=eq_true p139
        replace q139:=eq_true q139
        have p140:0≤(x5_1:Int):=of_decide_eq_true (za5)
        have q140:x5_1<(l0.length:Int):=of_decide_eq_true (za5)
        obtain⟨ad140,A140_2,c140_2,e140,hx140_0,hx140_1,hx140_2,hl140_2,hi140_2⟩:=at_T62 HR0.out x5_1 p140 q140
        obtain rfl:ad139=ad140:=(by injection e140)
        have ea_:=Option.some.inj (hxo139_2.out.symm.trans hx140_2)
        injection ea_ with ea_ en_ ec_
        subst ea_
        subst ec_
        clear en_
        have HR140_2:=Aside0.mk hi140_2
        have HC140_2:=Aside0.mk hl140_2
        clear hi140_2 hl140_2
        replace p140:=eq_true p140
        replace q140:=eq_true q140
        have p141:0≤(x5_1:Int):=of_decide_eq_true (za5)
        have q141:x5_1<(l0.length:Int):=of_decide_eq_true (za5)
        obtain⟨ad141,A141_2,c141_2,e141,hx141_0,hx141_1,hx141_2,hl141_2,hi141_2⟩:=at_T62 HR0.out x5_1 p141 q141
        obtain rfl:ad139=ad141:=(by injection e141)
        have ea_:=Option.some.inj (hxo139_2.out.symm.trans hx141_2)
        injection ea_ with ea_ en_ ec_
        subst ea_
        subst ec_
        clear en_
        have HR141_2:=Aside0.mk hi141_2
        have HC141_2:=Aside0.mk hl141_2
        clear hi141_2 hl141_2
        replace p141:=eq_true p141
        replace q141:=eq_true q141
        go_wp2_with(first|((with_reducible refine qaf (f:=123) rfl ?_);refine zF (some 36) Try.func123 #[.slice A139_2 ((rd_T62 l0 x5_1).f2).length c139_2,.int .i64 (wrap64 ((wrap64 (x1_1+1))+1))] ?_;(with_reducible refine(laws_heldIntS.calls k1 _ _ ((rd_T62 l0 x5_1).f2) (wrap64 ((wrap64 (x1_1+1))+1)) t142 _ ?side1 ?side2 A7.out).mono ?_);(case side1=>repeat(first|exact HR141_2.out|(with_reducible refine Kd.C_alloc ?_ _)|(with_reducible refine Kd.C_drewN ?_ _)|(with_reducible refine Kd.C_drew ?_)));(case side2=>exact HC141_2.out);rintro e w' ⟨rfl,⟨nd,rfl⟩⟩;refine⟨_,rfl,?_⟩))
        go_roundg k1
        case measure=>have:=HK1.out;omega
        case rel=>exact⟨(t142),(wrap64 (x5_1+1)),(za17),(za17),H',⟨by have:=HK1.out;omega⟩,za20⟩
      ·rw[if_neg c6] at H
       have c6b0:(((rd_T62 l0 x5_1).f1) == (wrap64 (x1_1+1)))=false:=beq_eq_false_iff_ne.mpr c6
       have c6b1:(((rd_T62 l0 x5_1).f1) != (wrap64 (x1_1+1)))=true:=bne_iff_ne.mpr c6
       obtain rfl:=Option.some.inj H
       have p139:0≤(x5_1:Int):=of_decide_eq_true (za5)
       have q139:x5_1<(l0.length:Int):=of_decide_eq_true (za5)
       obtain⟨ad139,A139_2,c139_2,e139,hx139_0,hx139_1,hx139_2,hl139_2,hi139_2⟩:=at_T62 HR0.out x5_1 p139 q139
       cases e139
       have hxo139_2:=Aside0.mk hx139_2
       have HR139_2:=Aside0.mk hi139_2
       have HC139_2:=Aside0.mk hl139_2
       clear hi139_2 hl139_2
       replace p139:=eq_true p139
       replace q139:=eq_true q139
       have p140:0≤(x5_1:Int):=of_decide_eq_true (za5)
       have q140:x5_1<(l0.length:Int):=of_decide_eq_true (za5)
       obtain⟨ad140,A140_2,c140_2,e140,hx140_0,hx140_1,hx140_2,hl140_2,hi140_2⟩:=at_T62 HR0.out x5_1 p140 q140
       obtain rfl:ad139=ad140:=(by injection e140)
       have ea_:=Option.some.inj (hxo139_2.out.symm.trans hx140_2)
       injection ea_ with ea_ en_ ec_
       subst ea_
       subst ec_
       clear en_
       have HR140_2:=Aside0.mk hi140_2
       have HC140_2:=Aside0.mk hl140_2
       clear hi140_2 hl140_2
       replace p140:=eq_true p140
       replace q140:=eq_true q140
       go_wp2
       go_ret
       exact⟨za17,za20⟩
     ·rw[if_neg c5] at H
      have c5b0:(((rd_T62 l0 x5_1).f0) == x1_1)=false:=beq_eq_false_iff_ne.mpr c5
      have c5b1:(((rd_T62 l0 x5_1).f0) != x1_1)=true:=bne_iff_ne.mpr c5
      obtain rfl:=Option.some.inj H
      have p139:0≤(x5_1:Int):=of_decide_eq_true (za5)
      have q139:x5_1<(l0.length:Int):=of_decide_eq_true (za5)
      obtain⟨ad139,A139_2,c139_2,e139,hx139_0,hx139_1,hx139_2,hl139_2,hi139_2⟩:=at_T62 HR0.out x5_1 p139 q139
      cases e139
      have hxo139_2:=Aside0.mk hx139_2
      have HR139_2:=Aside0.mk hi139_2
      have HC139_2:=Aside0.mk hl139_2
      clear hi139_2 hl139_2
      replace p139:=eq_true p139
      replace q139:=eq_true q139
      go_wp2
      go_ret
      exact⟨za17,za20⟩
    ·rw[if_neg c4] at H
     exact absurd H (by simp)
   ·rw[if_neg c3] at H
    have c3b0:decide (x5_1<(l0.length:Int))=false:=decide_eq_false c3
    clear c3
    obtain rfl:=Option.some.inj H
    go_wp2
    go_ret
    exact⟨za17,za20⟩
def laws_heldLog.f (k:Nat) (l0_0:List (S62)) (a0_1:Int) (a1:Int):Option (Int):=(laws_heldRecS.f k l0_0 a1).bind fun t144=>(if t144<0 then(some (-1)) else(some t144))
theorem laws_heldLog.mono:∀a0 a1 a2 k,LeO (laws_heldLog.f k a0 a1 a2) (laws_heldLog.f (k+1) a0 a1 a2):=by
 intro a0 a1 a2 k
 unfold laws_heldLog.f
 repeat' first
   |(with_reducible exact laws_heldRecS.mono _ _ _)
   |(with_reducible exact LeO.refl _)
   |(with_reducible exact LeO.none _)
   |(with_reducible refine LeO.ite ?_ ?_)
   |(with_reducible refine LeO.bind ?_ (fun _=>?_))
   |exact laws_heldRecS.mono _ _ _
   |exact LeO.none _
   |refine LeO.ite ?_ ?_
   |refine LeO.bind ?_ (fun _=>?_)
set_option maxHeartbeats 8000000 in
set_option maxRecDepth 100000 in
theorem laws_heldLog.calls (k:Nat) (A0_0:Option Addr) (c0_0:Nat) (l0_0:List (S62)) (a0_1:Int) (a1:Int) (r:Int) (w:World) (hr0_0:Kd.C k62 w A0_0 l0_0.length l0_0) (hc0_0:l0_0.length≤c0_0) (h:laws_heldLog.f k l0_0 a0_1 a1=some r) :
  Calls Try.prog 63 #[.agg #[.slice A0_0 l0_0.length c0_0,.int .i64 a0_1],.int .i64 a1] w fun e w'=>e=.returned (.int .i64 r)∧Below w.heap.size w w':=by
 have hu24:=Try.underlying24
 have HR0_0:=Aside0.mk hr0_0
 have HC0_0:=Aside0.mk hc0_0
 clear hr0_0 hc0_0
 have HB:=Aside0.mk (Below.refl w.heap.size w)
 have H:((laws_heldRecS.f k l0_0 a1).bind fun t144=>(if t144<0 then(some (-1)) else(some t144)))=some r:=h
 clear h
 replace H:=Option.bind_eq_some_iff.mp H
 obtain⟨t144,A30,H⟩:=H
 replace H:(if t144<0 then(some (-1)) else(some t144))=some r:=H
 have A3:=Aside0.mk A30
 clear A30
 by_cases c4:t144<0
 ·rw[if_pos c4] at H
  have c4b0:decide (t144<0)=true:=decide_eq_true c4
  clear c4
  obtain rfl:=Option.some.inj H
  go_enter Try.func63,Try.ntmps63
  go_wp2_with(first|((with_reducible refine qah (N:=2) rfl ?_);refine zX (N:=2) (cs:=#[.slice A0_0 l0_0.length c0_0,.int .i64 a0_1]) (t:=24) ?_;intro gb143 hg w5 hbox hb;have BK143:=Aside0.mk hbox;have GW143:=zH (w:=w) hg (za1 HB);have GE143:=GW143;replace HB:=Aside0.mk (qab (za1 HB) hb);clear hb hbox hg;obtain⟨hcz6_0,hcz6_1,hfz6_0,hfz6_1⟩:=zC2 BK143)|((with_reducible refine qaf (f:=103) rfl ?_);refine zF (some 8) Try.func103 #[.slice A0_0 l0_0.length c0_0,.int .i64 a1] ?_;(with_reducible refine(laws_heldRecS.calls k _ _ l0_0 a1 t144 _ ?side1 ?side2 A3.out).mono ?_);(case side1=>exact zR HR0_0 HB);(case side2=>exact HC0_0.out);rintro e w' ⟨rfl,⟨nd,rfl⟩⟩;refine⟨_,rfl,?_⟩))
  go_ret
  exact⟨za9,za0 HB GE143⟩
 ·rw[if_neg c4] at H
  have c4b0:decide (t144<0)=false:=decide_eq_false c4
  clear c4
  obtain rfl:=Option.some.inj H
  go_enter Try.func63,Try.ntmps63
  go_wp2_with(first|((with_reducible refine qah (N:=2) rfl ?_);refine zX (N:=2) (cs:=#[.slice A0_0 l0_0.length c0_0,.int .i64 a0_1]) (t:=24) ?_;intro gb143 hg w7 hbox hb;have BK143:=Aside0.mk hbox;have GW143:=zH (w:=w) hg (za1 HB);have GE143:=GW143;replace HB:=Aside0.mk (qab (za1 HB) hb);clear hb hbox hg;obtain⟨hcz8_0,hcz8_1,hfz8_0,hfz8_1⟩:=zC2 BK143)|((with_reducible refine qaf (f:=103) rfl ?_);refine zF (some 8) Try.func103 #[.slice A0_0 l0_0.length c0_0,.int .i64 a1] ?_;(with_reducible refine(laws_heldRecS.calls k _ _ l0_0 a1 t144 _ ?side1 ?side2 A3.out).mono ?_);(case side1=>exact zR HR0_0 HB);(case side2=>exact HC0_0.out);rintro e w' ⟨rfl,⟨nd,rfl⟩⟩;refine⟨_,rfl,?_⟩))
  go_ret
  exact⟨za9,za0 HB GE143⟩
def laws_heldHouse.f (k:Nat) (a0_0:Int) (a0_1:Bool) (a0_2:Int) (l0_3:List (S62)) (a0_4:Int) (a1:Int):Option (Int):=(laws_heldLog.f k l0_3 a0_4 a1).bind fun t146=>(if t146<0 then(some (-1)) else(some t146))
theorem laws_heldHouse.mono:∀a0 a1 a2 a3 a4 a5 k,LeO (laws_heldHouse.f k a0 a1 a2 a3 a4 a5) (laws_heldHouse.f (k+1) a0 a1 a2 a3 a4 a5):=by
 intro a0 a1 a2 a3 a4 a5 k
 unfold laws_heldHouse.f
 repeat' first
   |(with_reducible exact laws_heldLog.mono _ _ _ _)
   |(with_reducible exact LeO.refl _)
   |(with_reducible exact LeO.none _)
   |(with_reducible refine LeO.ite ?_ ?_)
   |(with_reducible refine LeO.bind ?_ (fun _=>?_))
   |exact laws_heldLog.mono _ _ _ _
   |exact LeO.none _
   |refine LeO.ite ?_ ?_
   |refine LeO.bind ?_ (fun _=>?_)
set_option maxHeartbeats 8000000 in
set_option maxRecDepth 100000 in
theorem laws_heldHouse.calls (k:Nat) (a0_0:Int) (a0_1:Bool) (a0_2:Int) (A0_3:Option Addr) (c0_3:Nat) (l0_3:List (S62)) (a0_4:Int) (a1:Int) (r:Int) (w:World) (hr0_3:Kd.C k62 w A0_3 l0_3.length l0_3) (hc0_3:l0_3.length≤c0_3) (h:laws_heldHouse.f k a0_0 a0_1 a0_2 l0_3 a0_4 a1=some r) :
  Calls Try.prog 19 #[.agg #[.int .i64 a0_0,.bool a0_1,.int .i64 a0_2,.slice A0_3 l0_3.length c0_3,.int .i64 a0_4],.int .i64 a1] w fun e w'=>e=.returned (.int .i64 r)∧Below w.heap.size w w':=by
 have hu26:=Try.underlying26
 have hu24:=Try.underlying24
 have HR0_3:=Aside0.mk hr0_3
 have HC0_3:=Aside0.mk hc0_3
 clear hr0_3 hc0_3
 have HB:=Aside0.mk (Below.refl w.heap.size w)
 have H:((laws_heldLog.f k l0_3 a0_4 a1).bind fun t146=>(if t146<0 then(some (-1)) else(some t146)))=some r:=h
 clear h
 replace H:=Option.bind_eq_some_iff.mp H
 obtain⟨t146,A30,H⟩:=H
 replace H:(if t146<0 then(some (-1)) else(some t146))=some r:=H
 have A3:=Aside0.mk A30
 clear A30
 by_cases c4:t146<0
 ·rw[if_pos c4] at H
  have c4b0:decide (t146<0)=true:=decide_eq_true c4
  clear c4
  obtain rfl:=Option.some.inj H
  go_enter Try.func19,Try.ntmps19
  go_wp2_with(first|((with_reducible refine qah (N:=2) rfl ?_);refine zX (N:=2) (cs:=#[.int .i64 a0_0,.bool a0_1,.int .i64 a0_2,.slice A0_3 l0_3.length c0_3,.int .i64 a0_4]) (t:=26) ?_;intro gb145 hg w5 hbox hb;have BK145:=Aside0.mk hbox;have GW145:=zH (w:=w) hg (za1 HB);have GE145:=GW145;replace HB:=Aside0.mk (qab (za1 HB) hb);clear hb hbox hg;obtain⟨hcz6_0,hcz6_1,hcz6_2,hcz6_3,hcz6_4,hfz6_0,hfz6_1,hfz6_2,hfz6_3,hfz6_4⟩:=zC5 BK145)|((with_reducible refine qaf (f:=63) rfl ?_);refine zF (some 8) Try.func63 #[.agg #[.slice A0_3 l0_3.length c0_3,.int .i64 a0_4],.int .i64 a1] ?_;(with_reducible refine(laws_heldLog.calls k _ _ l0_3 a0_4 a1 t146 _ ?side1 ?side2 A3.out).mono ?_);(case side1=>exact zR HR0_3 HB);(case side2=>exact HC0_3.out);rintro e w7 ⟨rfl,hb⟩;refine⟨_,rfl,?_⟩;replace BK145:=Aside0.mk (qaa (zB BK145) hb);replace HB:=Aside0.mk (qab (za0 HB GE145) hb);(try clear hb)))
  go_ret
  exact⟨za9,za0 HB GE145⟩
 ·rw[if_neg c4] at H
  have c4b0:decide (t146<0)=false:=decide_eq_false c4
  clear c4
  obtain rfl:=Option.some.inj H
  go_enter Try.func19,Try.ntmps19
  go_wp2_with(first|((with_reducible refine qah (N:=2) rfl ?_);refine zX (N:=2) (cs:=#[.int .i64 a0_0,.bool a0_1,.int .i64 a0_2,.slice A0_3 l0_3.length c0_3,.int .i64 a0_4]) (t:=26) ?_;intro gb145 hg w8 hbox hb;have BK145:=Aside0.mk hbox;have GW145:=zH (w:=w) hg (za1 HB);have GE145:=GW145;replace HB:=Aside0.mk (qab (za1 HB) hb);clear hb hbox hg;obtain⟨hcz9_0,hcz9_1,hcz9_2,hcz9_3,hcz9_4,hfz9_0,hfz9_1,hfz9_2,hfz9_3,hfz9_4⟩:=zC5 BK145)|((with_reducible refine qaf (f:=63) rfl ?_);refine zF (some 8) Try.func63 #[.agg #[.slice A0_3 l0_3.length c0_3,.int .i64 a0_4],.int .i64 a1] ?_;(with_reducible refine(laws_heldLog.calls k _ _ l0_3 a0_4 a1 t146 _ ?side1 ?side2 A3.out).mono ?_);(case side1=>exact zR HR0_3 HB);(case side2=>exact HC0_3.out);rintro e w10 ⟨rfl,hb⟩;refine⟨_,rfl,?_⟩;replace BK145:=Aside0.mk (qaa (zB BK145) hb);replace HB:=Aside0.mk (qab (za0 HB GE145) hb);(try clear hb)))
  go_ret
  exact⟨za9,za0 HB GE145⟩
def IsS122 (w0 W:World) (g:Nat) (f0:List Int) (f1:Int):Prop:=∃A0 c0,W.heap[g]?=some (.cells #[.slice A0 f0.length c0,.int .i64 f1] 122 (0,0))∧w0.heap.size≤g∧Kd.C (Kd.int .u8) w0 A0 f0.length f0
theorem IsS122.grown {w0 W:World} {g:Nat} {f0:List Int} {f1:Int} {W1:World} {row:Option Nat} (h:IsS122 w0 W g f0 f1) (hw:W.grownBy W1 row) (hne:some g≠row):IsS122 w0 W1 g f0 f1:=by
 obtain⟨A0,c0,hb,hg,hr0⟩:=h
 exact⟨A0,c0,qas hb hw hne,hg,hr0⟩
theorem IsS122.own_neN {w0 W:World} {g:Nat} {f0:List Int} {f1:Int} {α:Type} {d:Kd α} {e:Nat} {base:Nat} {ok:Nat→Prop} {v:Value} {xs:List α} (h:IsS122 w0 W g f0 f1) (ho:Kd.N d e W base ok v xs) (ht:e≠122):some g≠v.ownBlock:=by
 obtain⟨A0,c0,hb,hg,hr0⟩:=h
 exact Kd.N_ne ho hb ht
theorem IsS122.fresh {w0 W:World} {g:Nat} {f0:List Int} {f1:Int} (h:IsS122 w0 W g f0 f1):∀k,W.heap.size≤k→k≠g:=by
 obtain⟨A0,c0,hb,hg,hr0⟩:=h
 exact Kd.freshB hb
theorem IsS122.kept {w0 W:World} {g:Nat} {f0:List Int} {f1:Int} {W1:World} {S:Nat→Prop} (h:IsS122 w0 W g f0 f1) (hk:Kept W W1 S) (hne:¬S g):IsS122 w0 W1 g f0 f1:=by
 obtain⟨A0,c0,hb,hg,hr0⟩:=h
 exact⟨A0,c0,blk_kept hb hk hne,hg,hr0⟩
theorem IsS122.below {w0 W:World} {g:Nat} {f0:List Int} {f1:Int} {W1:World} (h:IsS122 w0 W g f0 f1) (hw:Below W.heap.size W W1):IsS122 w0 W1 g f0 f1:=h.grown (grown_of_below hw none) (by simp)
theorem IsS122.alloc {w0 W:World} {g:Nat} {f0:List Int} {f1:Int} (h:IsS122 w0 W g f0 f1) (o:Obj):IsS122 w0 (W.alloc o) g f0 f1:=h.below (qag (Below.refl _ _) o)
theorem IsS122.drewN {w0 W:World} {g:Nat} {f0:List Int} {f1:Int} (h:IsS122 w0 W g f0 f1) (m:Nat):IsS122 w0 (W.drewN m) g f0 f1:=h
theorem IsS122.drew {w0 W:World} {g:Nat} {f0:List Int} {f1:Int} (h:IsS122 w0 W g f0 f1):IsS122 w0 W.drew g f0 f1:=h
theorem IsS122.at_ {w0 W:World} {g:Nat} {f0:List Int} {f1:Int} {w':World} {m:Nat} (hq:W.drewN m=w') (h:IsS122 w0 W g f0 f1):IsS122 w0 w' g f0 f1:=by subst hq;exact IsS122.drewN h m
theorem IsS122.apart {w0 W:World} {g:Nat} {f0:List Int} {f1:Int} {α:Type} {d:Kd α} {e:Nat} {base:Nat} {ok:Nat→Prop} {v:Value} {xs:List α} (h:IsS122 w0 W g f0 f1) (ho:d.R e W base ok v xs) (ht:∀q,q ∈ e :: d.E→q≠122):d.R e W base (fun k=>ok k∧k≠g) v xs:=by
 obtain⟨A0,c0,hb,hg,hr0⟩:=h
 exact Kd.R_types ho hb ht
theorem IsS122.own_ne {w0 W:World} {g:Nat} {f0:List Int} {f1:Int} {α:Type} {d:Kd α} {e:Nat} {base:Nat} {ok:Nat→Prop} {v:Value} {xs:List α} (h:IsS122 w0 W g f0 f1) (ho:d.R e W base ok v xs) (ht:e≠122):some g≠v.ownBlock:=by
 obtain⟨A0,c0,hb,hg,hr0⟩:=h
 exact Kd.R_ne ho hb ht
theorem IsS122.apartQ {w0 W:World} {g:Nat} {f0:List Int} {f1:Int} {α:Type} {d:Kd α} {e:Nat} {base:Nat} {ok:Nat→Prop} {v:Value} {xs:List α} (h:IsS122 w0 W g f0 f1) (ho:d.Q e W base ok v xs) (ht:∀q,q ∈ e :: d.E→q≠122):d.Q e W base (fun k=>ok k∧k≠g) v xs:=by
 obtain⟨A0,c0,hb,hg,hr0⟩:=h
 exact Kd.Q_types ho hb ht
theorem IsS122.own_neQ {w0 W:World} {g:Nat} {f0:List Int} {f1:Int} {α:Type} {d:Kd α} {e:Nat} {base:Nat} {ok:Nat→Prop} {v:Value} {xs:List α} (h:IsS122 w0 W g f0 f1) (ho:d.Q e W base ok v xs) (ht:e≠122):some g≠v.ownBlock:=by
 obtain⟨A0,c0,hb,hg,hr0⟩:=h
 exact Kd.Q_ne ho hb ht
theorem IsS122.apartS {w0 W:World} {g:Nat} {f0:List Int} {f1:Int} {α:Type} {d:Kd α} {e:Nat} {base:Nat} {ok:Nat→Prop} {v:Value} {xs:List α} (h:IsS122 w0 W g f0 f1) (ho:d.S e W base ok v xs) (ht:∀q,q ∈ e :: d.E→q≠122):d.S e W base (fun k=>ok k∧k≠g) v xs:=by
 obtain⟨A0,c0,hb,hg,hr0⟩:=h
 exact Kd.S_types ho hb ht
theorem IsS122.own_neS {w0 W:World} {g:Nat} {f0:List Int} {f1:Int} {α:Type} {d:Kd α} {e:Nat} {base:Nat} {ok:Nat→Prop} {v:Value} {xs:List α} (h:IsS122 w0 W g f0 f1) (ho:d.S e W base ok v xs) (ht:e≠122):some g≠v.ownBlock:=by
 obtain⟨A0,c0,hb,hg,hr0⟩:=h
 exact Kd.S_ne ho hb ht
theorem IsS122.lt {w0 W:World} {g:Nat} {f0:List Int} {f1:Int} (h:IsS122 w0 W g f0 f1):g<W.heap.size:=by
 obtain⟨A0,c0,hb,hg,hr0⟩:=h
 exact blk_lt hb
theorem IsS122.ge {w0 W:World} {g:Nat} {f0:List Int} {f1:Int} (h:IsS122 w0 W g f0 f1):w0.heap.size≤g:=by
 obtain⟨A0,c0,hb,hg,hr0⟩:=h
 exact hg
theorem IsS122.ne_blk {w0 W:World} {g:Nat} {f0:List Int} {f1:Int} {a:Nat} {cs:Array Value} {t:TypeId} {fr:Nat × Nat} (h:IsS122 w0 W g f0 f1) (hb2:W.heap[a]?=some (.cells cs t fr)) (ht:t≠122):g≠a:=by
 obtain⟨A0,c0,hb,hg,hr0⟩:=h
 rintro rfl
 rw[hb] at hb2
 injection hb2 with hb2
 injection hb2 with _ ht2
 exact ht ht2.symm
theorem IsS122.far {w0 W:World} {g:Nat} {f0:List Int} {f1:Int} {p:Addr} (h:IsS122 w0 W g f0 f1) (hne:g≠p.block) (u:Value):IsS122 w0 (W.setCell p u) g f0 f1:=by
 obtain⟨A0,c0,hb,hg,hr0⟩:=h
 exact⟨A0,c0,blk_far hb hne u,hg,hr0⟩
theorem cellS122_0 {W:World} {g:Nat} {A0:Option Addr} {c0:Nat} {f0:List Int} {f1:Int} (h:W.heap[g]?=some (.cells #[.slice A0 f0.length c0,.int .i64 f1] 122 (0,0))):W.cell? ⟨g,0,none⟩=some (.slice A0 f0.length c0):=(blk_cell h 0).trans rfl
theorem cellS122_1 {W:World} {g:Nat} {A0:Option Addr} {c0:Nat} {f0:List Int} {f1:Int} (h:W.heap[g]?=some (.cells #[.slice A0 f0.length c0,.int .i64 f1] 122 (0,0))):W.cell? ⟨g,1,none⟩=some (.int .i64 f1):=(blk_cell h 1).trans rfl
theorem IsS122.set_1 {w0 W:World} {g:Nat} {f0:List Int} {f1:Int} (h:IsS122 w0 W g f0 f1) (x:Int):IsS122 w0 (W.setCell ⟨g,1,none⟩ (.int .i64 x)) g f0 x:=by
 obtain⟨A0,c0,hb,hg,hr0⟩:=h
 exact⟨A0,c0,by simpa using blk_set hb 1 (.int .i64 x),hg,hr0⟩
theorem IsS122.new (w0 W:World) (A0:Option Addr) (c0:Nat) (f0:List Int) (f1:Int) (hB:Below w0.heap.size w0 W) (hr0:Kd.C (Kd.int .u8) w0 A0 f0.length f0):IsS122 w0 (W.alloc (.cells #[.slice A0 f0.length c0,.int .i64 f1] 122)) W.heap.size f0 f1:=⟨A0,c0,by simpa using heap_alloc_new W _,hB.size,hr0⟩
def spec_l6Open.f (l0:List Int):Option (List Int × Int):=if(l0.length:Int)>2000 then(if 2000≤(l0.length:Int) then(some (l0.take 2000,0)) else(none)) else(some (l0,0))
set_option maxHeartbeats 8000000 in
set_option maxRecDepth 100000 in
theorem spec_l6Open.calls (A0:Option Addr) (c0:Nat) (l0:List Int) (r1:List Int) (r2:Int) (w0 w:World) (hB:Below w0.heap.size w0 w) (hr0:Kd.C (Kd.int .u8) w0 A0 l0.length l0) (hc0:l0.length≤c0) (h:spec_l6Open.f l0=some (r1,r2)) :
  Calls Try.prog 64 #[.slice A0 l0.length c0] w fun e w'=>∃g_:Nat,e=.returned (.pointer (some ⟨g_,0,none⟩))∧IsS122 w0 w' g_ r1 r2∧Below w0.heap.size w0 w'∧Below w.heap.size w w':=by
 have hu122:=Try.underlying122
 have HR0:=Aside0.mk hr0
 have HC0:=Aside0.mk hc0
 clear hr0 hc0
 have HBW:=Aside0.mk (Below.refl w.heap.size w)
 have HW0:=Aside0.mk hB.size
 have HB:=Aside0.mk hB
 clear hB
 have H:(if(l0.length:Int)>2000 then(if 2000≤(l0.length:Int) then(some (l0.take 2000,0)) else(none)) else(some (l0,0)))=some (r1,r2):=h
 clear h
 by_cases c2:(l0.length:Int)>2000
 ·rw[if_pos c2] at H
  have c2b0:decide (2000<(l0.length:Int))=true:=decide_eq_true c2
  have c2b1:decide (2000<l0.length)=true:=decide_eq_true (by omega)
  clear c2
  by_cases c3:2000≤(l0.length:Int)
  ·rw[if_pos c3] at H
   have c3b0:=eq_true c3
   have c3b1:decide (2000≤(l0.length:Int))=true:=decide_eq_true c3
   clear c3
   simp only[Option.some.injEq,Prod.mk.injEq] at H
   obtain⟨rfl,rfl⟩:=H
   obtain⟨i04,hi04,_,hsz4,_⟩:=info_parts info5
   obtain⟨hcut4,hA4,hC4⟩:=print_take_of (P:=Try.prog) (Value.int .u8) 0 32 5 .i64 Try.underlying32 hi04 hsz4 A0 c0 l0 2000 (by omega) (of_decide_eq_true (za5)) HC0.out
   have HR166:=Aside0.mk (Kd.C_of_reads (h1:=fun _=>rfl) (hA4 _ (Kd.reads_of_C HR0.out)))
   have HC166:=Aside0.mk hC4
   clear hA4 hC4 hi04 hsz4
   go_enter Try.func64,Try.ntmps64
   go_wp2_with(first|((with_reducible refine qah (N:=10) rfl ?_);refine zX (N:=10) (cs:=#[.slice A0 (l0.take 2000).length c0,.int .i64 0]) (t:=122) ?_;intro gb167 hg w5 hbox hb;replace HB:=Aside0.mk (qab (za1 HB) hb);have BK167:=Aside0.mk hbox;have GW167:=zH (w:=w) hg (za1 HBW);have GE167:=Aside0.mk ((Nat.le_trans HW0.out (by rw[hg];exact(below_size (za1 HBW)):w.heap.size≤gb167):w0.heap.size≤gb167));replace HBW:=Aside0.mk (qab HBW.out hb);clear hb hbox hg))
   go_ret
   exact⟨_,rfl,(show IsS122 w0 _ gb167 (l0.take 2000) 0 from⟨_,_,za16 BK167,GE167.out,HR166.out⟩),za0 HB GE167,za0 HBW GW167⟩
  ·rw[if_neg c3] at H
   exact absurd H (by simp)
 ·rw[if_neg c2] at H
  have c2b0:decide (2000<(l0.length:Int))=false:=decide_eq_false c2
  have c2b1:decide (2000<l0.length)=false:=decide_eq_false (by omega)
  clear c2
  simp only[Option.some.injEq,Prod.mk.injEq] at H
  obtain⟨rfl,rfl⟩:=H
  go_enter Try.func64,Try.ntmps64
  go_wp2_with(first|((with_reducible refine qah (N:=10) rfl ?_);refine zX (N:=10) (cs:=#[.slice A0 l0.length c0,.int .i64 0]) (t:=122) ?_;intro gb168 hg w6 hbox hb;replace HB:=Aside0.mk (qab (za1 HB) hb);have BK168:=Aside0.mk hbox;have GW168:=zH (w:=w) hg (za1 HBW);have GE168:=Aside0.mk ((Nat.le_trans HW0.out (by rw[hg];exact(below_size (za1 HBW)):w.heap.size≤gb168):w0.heap.size≤gb168));replace HBW:=Aside0.mk (qab HBW.out hb);clear hb hbox hg))
  go_ret
  exact⟨_,rfl,(show IsS122 w0 _ gb168 l0 0 from⟨_,_,za16 BK168,GE168.out,HR0.out⟩),za0 HB GE168,za0 HBW GW168⟩
end Go.Proofs.Ytjccnaklodbbfaa.Print
