-- Written by squeeze.py, a program of this session, out of what print.sh and myprint.py had printed: cut to what is used, narrowed. Not trusted, Lean checks it.
import Derived.Test.YtjccnaklodbbfaaZK
namespace Go.Proofs.Ytjccnaklodbbfaa.Print
open Go.RowKit Go.Proofs.YtjccnaklodbbfaaW.PrintWords Go.Proofs.YtjccnaklodbbfaaW.PrintLast Go.Proofs.YtjccnaklodbbfaaW.PrintMore
attribute [local go_sem] max2_int min2_int max_two min_two max_three min_three max_four min_four
set_option linter.unusedVariables false
set_option linter.unusedSimpArgs false
def laws_szIntS.f (l0:List Int) (a1:Int):Option (Int):=if(wrap64 (a1 - (l0.length:Int)))<0 then(some (-1)) else(some (wrap64 (a1 - (l0.length:Int))))
set_option maxHeartbeats 8000000 in
set_option maxRecDepth 100000 in
theorem laws_szIntS.calls (A0:Option Addr) (c0:Nat) (l0:List Int) (a1:Int) (r:Int) (w:World) (hr0:Kd.C (Kd.int .i64) w A0 l0.length l0) (hc0:l0.length≤c0) (h:laws_szIntS.f l0 a1=some r) :
  Calls Try.prog 78 #[.slice A0 l0.length c0,.int .i64 a1] w fun e w'=>e=.returned (.int .i64 r)∧Drawn0 w w':=by
 have HR0:=qal.mk hr0
 have HC0:=qal.mk hc0
 clear hr0 hc0
 have H:(if(wrap64 (a1 - (l0.length:Int)))<0 then(some (-1)) else(some (wrap64 (a1 - (l0.length:Int)))))=some r:=h
 clear h
 by_cases c3:(wrap64 (a1 - (l0.length:Int)))<0
 ·rw[if_pos c3] at H
  have c3b0:decide ((wrap64 (a1 - (l0.length:Int)))<0)=true:=decide_eq_true c3
  clear c3
  obtain rfl:=Option.some.inj H
  go_enter Try.func78,Try.ntmps78
  go_wp2
  go_ret
  exact⟨za22,za44⟩
 ·rw[if_neg c3] at H
  have c3b0:decide ((wrap64 (a1 - (l0.length:Int)))<0)=false:=decide_eq_false c3
  clear c3
  obtain rfl:=Option.some.inj H
  go_enter Try.func78,Try.ntmps78
  go_wp2
  go_ret
  exact⟨za22,za44⟩
def laws_szRec.f (a0_0:Int) (a0_1:Int) (l0_2:List Int) (a1:Int):Option (Int):=(laws_szIntS.f l0_2 a1).bind fun t584=>(if t584<0 then(some (-1)) else(some t584))
set_option maxHeartbeats 8000000 in
set_option maxRecDepth 100000 in
theorem laws_szRec.calls (a0_0:Int) (a0_1:Int) (A0_2:Option Addr) (c0_2:Nat) (l0_2:List Int) (a1:Int) (r:Int) (w:World) (hr0_2:Kd.C (Kd.int .i64) w A0_2 l0_2.length l0_2) (hc0_2:l0_2.length≤c0_2) (h:laws_szRec.f a0_0 a0_1 l0_2 a1=some r) :
  Calls Try.prog 36 #[.agg #[.int .i64 a0_0,.int .i64 a0_1,.slice A0_2 l0_2.length c0_2],.int .i64 a1] w fun e w'=>e=.returned (.int .i64 r)∧Below w.heap.size w w':=by
 have hu57:=Try.underlying57
 have HR0_2:=qal.mk hr0_2
 have HC0_2:=qal.mk hc0_2
 clear hr0_2 hc0_2
 have HB:=qal.mk (Below.refl w.heap.size w)
 have H:((laws_szIntS.f l0_2 a1).bind fun t584=>(if t584<0 then(some (-1)) else(some t584)))=some r:=h
 clear h
 replace H:=Option.bind_eq_some_iff.mp H
 obtain⟨t584,A30,H⟩:=H
 replace H:(if t584<0 then(some (-1)) else(some t584))=some r:=H
 have A3:=qal.mk A30
 clear A30
 by_cases c4:t584<0
 ·rw[if_pos c4] at H
  have c4b0:decide (t584<0)=true:=decide_eq_true c4
  clear c4
  obtain rfl:=Option.some.inj H
  go_enter Try.func36,Try.ntmps36
  go_wp2_with(first|((with_reducible refine qak (N:=2) rfl ?_);refine qaj ?hg (N:=2) ?hd (cs:=#[.int .i64 a0_0,.int .i64 a0_1,.slice A0_2 l0_2.length c0_2]) (t:=57) ?hr ?_;(case hd=>rfl);(case hg=>rfl);(case hr=>first|(go_simp;done)|(go_simp;rfl));intro gb583 hg w5 hbox hb;have n0_:=qal.mk (qae (za2 HB) hb);have n1_:=qal.mk (hbox);have n2_:=qal.mk ((by rw[hg];exact(qad (za2 HB)):w.heap.size≤gb583));have n3_:=qal.mk ((by rw[hg];exact(qad (za2 HB)):w.heap.size≤gb583));clear HB;have HB:=n0_;have BK583:=n1_;have GW583:=n2_;have GE583:=n3_;clear n0_ n1_ n2_ n3_;clear hb hbox hg;have hcz6_0:w5.cell? ⟨gb583,0,none⟩=some (.int .i64 a0_0):=(qab BK583.out 0).trans rfl;have hcz6_1:w5.cell? ⟨gb583,1,none⟩=some (.int .i64 a0_1):=(qab BK583.out 1).trans rfl;have hcz6_2:w5.cell? ⟨gb583,2,none⟩=some (.slice A0_2 l0_2.length c0_2):=(qab BK583.out 2).trans rfl;have hfz6_0:=qaa BK583.out 0;have hfz6_1:=qaa BK583.out 1;have hfz6_2:=qaa BK583.out 2)|((with_reducible refine qai (f:=78) rfl ?_);refine qau (some 8) rfl rfl Try.func78 (by kernel_rfl) rfl #[.slice A0_2 l0_2.length c0_2,.int .i64 a1] rfl (by(try simp only[List.map_toArray,List.map_cons,List.map_nil]);first|done|rfl|(simp only[List.length_drop,List.length_take];rfl)) ?_;(with_reducible refine(laws_szIntS.calls _ _ l0_2 a1 t584 _ ?side1 ?side2 A3.out).mono ?_);(case side1=>repeat(first|exact(Kd.C_below HR0_2.out HB.out)|(with_reducible refine Kd.C_alloc ?_ _)|(with_reducible refine Kd.C_drewN ?_ _)|(with_reducible refine Kd.C_drew ?_)));(case side2=>exact HC0_2.out);rintro e w' ⟨rfl,⟨nd,rfl⟩⟩;refine⟨_,rfl,?_⟩))
  go_ret
  exact⟨za9,za1 HB GE583⟩
 ·rw[if_neg c4] at H
  have c4b0:decide (t584<0)=false:=decide_eq_false c4
  clear c4
  obtain rfl:=Option.some.inj H
  go_enter Try.func36,Try.ntmps36
  go_wp2_with(first|((with_reducible refine qak (N:=2) rfl ?_);refine qaj ?hg (N:=2) ?hd (cs:=#[.int .i64 a0_0,.int .i64 a0_1,.slice A0_2 l0_2.length c0_2]) (t:=57) ?hr ?_;(case hd=>rfl);(case hg=>rfl);(case hr=>first|(go_simp;done)|(go_simp;rfl));intro gb583 hg w7 hbox hb;have n0_:=qal.mk (qae (za2 HB) hb);have n1_:=qal.mk (hbox);have n2_:=qal.mk ((by rw[hg];exact(qad (za2 HB)):w.heap.size≤gb583));have n3_:=qal.mk ((by rw[hg];exact(qad (za2 HB)):w.heap.size≤gb583));clear HB;have HB:=n0_;have BK583:=n1_;have GW583:=n2_;have GE583:=n3_;clear n0_ n1_ n2_ n3_;clear hb hbox hg;have hcz8_0:w7.cell? ⟨gb583,0,none⟩=some (.int .i64 a0_0):=(qab BK583.out 0).trans rfl;have hcz8_1:w7.cell? ⟨gb583,1,none⟩=some (.int .i64 a0_1):=(qab BK583.out 1).trans rfl;have hcz8_2:w7.cell? ⟨gb583,2,none⟩=some (.slice A0_2 l0_2.length c0_2):=(qab BK583.out 2).trans rfl;have hfz8_0:=qaa BK583.out 0;have hfz8_1:=qaa BK583.out 1;have hfz8_2:=qaa BK583.out 2)|((with_reducible refine qai (f:=78) rfl ?_);refine qau (some 8) rfl rfl Try.func78 (by kernel_rfl) rfl #[.slice A0_2 l0_2.length c0_2,.int .i64 a1] rfl (by(try simp only[List.map_toArray,List.map_cons,List.map_nil]);first|done|rfl|(simp only[List.length_drop,List.length_take];rfl)) ?_;(with_reducible refine(laws_szIntS.calls _ _ l0_2 a1 t584 _ ?side1 ?side2 A3.out).mono ?_);(case side1=>repeat(first|exact(Kd.C_below HR0_2.out HB.out)|(with_reducible refine Kd.C_alloc ?_ _)|(with_reducible refine Kd.C_drewN ?_ _)|(with_reducible refine Kd.C_drew ?_)));(case side2=>exact HC0_2.out);rintro e w' ⟨rfl,⟨nd,rfl⟩⟩;refine⟨_,rfl,?_⟩))
  go_ret
  exact⟨za9,za1 HB GE583⟩
def laws_toIntS.l0:Nat→List Int→List Int→Int→Option (List Int)
 |0,_,_,_=>none
 |k+1,x0,x3,x4=>if x4<(x0.length:Int) then(if 0≤x4 then(if x4<(x3.length:Int) then(laws_toIntS.l0 k x0 (x3.set (x4:Int).toNat (rd x0 x4)) (wrap64 (x4+1))) else(none)) else(none)) else(some x3)
def laws_toIntS.f (k:Nat) (l0:List Int):Option (List Int):=if 0≤(l0.length:Int) then(if((l0.length:Int):Int).toNat≤35184372088832 then(laws_toIntS.l0 k l0 (List.replicate ((l0.length:Int):Int).toNat 0) 0) else(none)) else(none)
theorem laws_toIntS.mono_l:∀k,(∀y0 y1 y2,LeO (laws_toIntS.l0 k y0 y1 y2) (laws_toIntS.l0 (k+1) y0 y1 y2))
 |0=>fun _ _ _ r h=>by simp[laws_toIntS.l0] at h
 |k+1=>by
  have ih0:=laws_toIntS.mono_l k
  ·intro y0 y1 y2
   unfold laws_toIntS.l0
   repeat' first
   |(with_reducible exact ih0 _ _ _)
   |(with_reducible exact LeO.refl _)
   |(with_reducible exact LeO.none _)
   |(with_reducible refine LeO.ite ?_ ?_)
   |(with_reducible refine LeO.bind ?_ (fun _=>?_))
   |exact ih0 _ _ _
   |exact LeO.none _
   |refine LeO.ite ?_ ?_
   |refine LeO.bind ?_ (fun _=>?_)
theorem laws_toIntS.mono:∀a0 k,LeO (laws_toIntS.f k a0) (laws_toIntS.f (k+1) a0):=by
 intro a0 k
 have ih0:=laws_toIntS.mono_l k
 unfold laws_toIntS.f
 repeat' first
   |(with_reducible exact ih0 _ _ _)
   |(with_reducible exact LeO.refl _)
   |(with_reducible exact LeO.none _)
   |(with_reducible refine LeO.ite ?_ ?_)
   |(with_reducible refine LeO.bind ?_ (fun _=>?_))
   |exact ih0 _ _ _
   |exact LeO.none _
   |refine LeO.ite ?_ ?_
   |refine LeO.bind ?_ (fun _=>?_)
set_option maxHeartbeats 8000000 in
set_option maxRecDepth 100000 in
theorem laws_toIntS.calls (k:Nat) (A0:Option Addr) (c0:Nat) (l0:List Int) (r:List Int) (w:World) (hr0:Kd.C (Kd.int .i64) w A0 l0.length l0) (hc0:l0.length≤c0) (h:laws_toIntS.f k l0=some r) :
  Calls Try.prog 81 #[.slice A0 l0.length c0] w fun e w'=>∃v0_:Value,e=.returned (v0_)∧Kd.R (Kd.int .i64) 3 w' w.heap.size (fun _=>True) v0_ r∧Below w.heap.size w w':=by
 have HR0:=qal.mk hr0
 have HC0:=qal.mk hc0
 clear hr0 hc0
 have HB:=qal.mk (Below.refl w.heap.size w)
 have H:(if 0≤(l0.length:Int) then(if((l0.length:Int):Int).toNat≤35184372088832 then(laws_toIntS.l0 k l0 (List.replicate ((l0.length:Int):Int).toNat 0) 0) else(none)) else(none))=some r:=h
 clear h
 by_cases c2:0≤(l0.length:Int)
 ·rw[if_pos c2] at H
  have c2b0:=eq_true c2
  have c2b1:decide (0≤(l0.length:Int))=true:=decide_eq_true c2
  clear c2
  by_cases c3:((l0.length:Int):Int).toNat≤35184372088832
  ·rw[if_pos c3] at H
   have c3b0:=eq_true c3
   have c3b1:decide (((l0.length:Int):Int).toNat≤35184372088832)=true:=decide_eq_true c3
   clear c3
   obtain⟨y601,hy601⟩:∃y_:List Int,y_=(List.replicate ((l0.length:Int):Int).toNat 0):=⟨_,rfl⟩
   replace H:(laws_toIntS.l0 k l0 y601 0)=some r:=by first|(rw[hy601];with_reducible exact H)|(have H2_:=(Option.bind_some _ _).symm.trans H;rw[hy601];with_reducible exact H2_)|(have H2_:=(Option.bind_some _ _).symm.trans H;with_reducible exact H2_)|with_reducible exact H|(rw[hy601];exact H)|exact H
   have Ny601:=qal.mk hy601
   clear hy601
   have H':=qal.mk H
   clear H
   go_enter Try.func81,Try.ntmps81
   go_wp2_with(first|((with_reducible refine qak (N:=7) rfl ?_);refine Kd.R_make (Kd.int .i64) _ 3 rfl (N:=7) rfl 55 _ _ rfl (l0.length:Int) rfl rfl Try.underlying55 (.int .i64 0) 8 info3 rfl (by decide) (by omega) 0 (ok:=fun _=>True) (okp:=fun _=>True) rfl (fun _ hk=>hk) trivial (of_decide_eq_true (za8)) (Nat.le_trans (Nat.mul_le_mul_right _ (of_decide_eq_true (za8):(l0.length:Int).toNat≤35184372088832)) (by omega)) (Below.refl _ _) (Nat.le_refl _) ?_;intro v602 w4 ho5 hb hg_ hnew_;clear hg_ hnew_;(first|rw[←Ny601.out] at ho5|(simp only[Int.reduceToNat] at ho5;rw[←Ny601.out] at ho5));have n0_:=qal.mk (Kd.R_lower ho5 (qad (za2 HB)));have n1_:=qal.mk (qae (za2 HB) hb);clear HB;have HO603:=n0_;have HB:=n1_;clear n0_ n1_;clear hb ho5))
   go_loopg [4] k (fun kq v4 w'=>∃(x3_1:List Int) (x4_1:Int),v4=.int .i64 x4_1∧qal (laws_toIntS.l0 kq l0 x3_1 x4_1=some r)∧qal (kq≤k)∧qal (Kd.R (Kd.int .i64) 3 w' w.heap.size (fun _=>True) v602 x3_1)∧qal (Below w.heap.size w w'))
   case atStart=>exact⟨(y601),(0),(za22),H',⟨Nat.le_refl _⟩,⟨za4 HO603⟩,⟨za2 HB⟩⟩
   case round=>
    clear H'
    try clear c2
    try clear c2b0
    try clear c2b1
    try clear p2
    try clear c3
    try clear c3b0
    try clear c3b1
    obtain⟨x3_1,x4_1,rfl,HA,HK1,HO_3,HB⟩:=hrel
    cases gk with
    |zero=>exact absurd HA.out (by simp[laws_toIntS.l0])
    |succ k1=>
     have H:=HA.out
     clear HA
     simp only[laws_toIntS.l0] at H
     by_cases c6:x4_1<(l0.length:Int)
     ·rw[if_pos c6] at H
      have c6b0:decide (x4_1<(l0.length:Int))=true:=decide_eq_true c6
      clear c6
      by_cases c7:0≤x4_1
      ·rw[if_pos c7] at H
       have c7b0:decide (0≤x4_1)=true:=decide_eq_true c7
       clear c7
       by_cases c8:x4_1<(x3_1.length:Int)
       ·rw[if_pos c8] at H
        have c8b0:decide (x4_1<(x3_1.length:Int))=true:=decide_eq_true c8
        clear c8
        obtain⟨y605,hy605⟩:∃y_:List Int,y_=(x3_1.set (x4_1:Int).toNat (rd l0 x4_1)):=⟨_,rfl⟩
        replace H:(laws_toIntS.l0 k1 l0 y605 (wrap64 (x4_1+1)))=some r:=by first|(rw[hy605];with_reducible exact H)|(have H2_:=(Option.bind_some _ _).symm.trans H;rw[hy605];with_reducible exact H2_)|(have H2_:=(Option.bind_some _ _).symm.trans H;with_reducible exact H2_)|with_reducible exact H|(rw[hy605];exact H)|exact H
        have Ny605:=qal.mk hy605
        clear hy605
        have H':=qal.mk H
        clear H
        have p604:0≤(x4_1:Int):=of_decide_eq_true (za8)
        have q604:x4_1<(l0.length:Int):=of_decide_eq_true (za8)
        obtain⟨ad604,e604,hx604_0⟩:=Kd.at_int HR0.out x4_1 p604 q604
        cases e604
        replace hx604_0:=(HB.out.cell (World.block_lt_of_cell? w _ hx604_0)).trans hx604_0
        replace p604:=eq_true p604
        replace q604:=eq_true q604
        have p9:0≤(x4_1:Int):=of_decide_eq_true (za8)
        have q9:(x4_1:Int)<((x3_1.length:Int):Int):=of_decide_eq_true (za8)
        obtain⟨go9,co9,eo9,gb9,gl9,cl9,HG9⟩:=Kd.R_form HO_3.out (by omega)
        (first|cases eo9|(injection eo9 with ea_ en_ ec_;(first|subst ea_|(injection ea_ with ea_;subst ea_));subst ec_;clear en_))
        have GB9:=qal.mk gb9
        have GG9:=qal.mk HG9
        clear gb9 gl9 HG9
        obtain⟨hx9_0,hf9_0⟩:=Kd.R_celln 0 HO_3.out (x4_1:Int) p9 q9
        replace p9:=eq_true p9
        replace q9:=eq_true q9
        have HP10:=Kd.R_putg HO_3.out (x4_1:Int) (rd l0 x4_1)
        go_wp2_with(first|((with_reducible refine gate_store (t:=3) (p:=20) rfl ?_);refine store_event (t:=3) (p:=20) (v:=?vo_w11) (w1:=(wr.setCell ⟨go9,(x4_1:Int).toNat,none⟩ (.int .i64 (rd l0 x4_1)))) ?hg ?ho ?hn ?hr ?_;(case ho=>rfl);(case hg=>rfl);(case hn=>rfl);(case hr=>first|(go_simp;done)|(go_simp;rfl));intro w11 hw;have hg:wr.grownBy w11 (some go9):=(by rw[hw];exact HP10.2);have hp_:Kd.R (Kd.int .i64) 3 w11 w.heap.size (fun _=>True) (.slice (some ⟨go9,0,none⟩) x3_1.length co9) y605:=(by rw[hw,Ny605.out];exact HP10.1);clear HP10;have n0_:=qal.mk (hp_);have n1_:=qal.mk ((by rw[hw];exact qam (HB.out) GB9.out:Below w.heap.size w w11));clear HO_3;clear HB;have HO_3:=n0_;have HB:=n1_;clear n0_ n1_;clear hg hw hp_))
        go_roundg k1
        case measure=>have:=HK1.out;omega
        case rel=>exact⟨(y605),(wrap64 (x4_1+1)),(za22),H',⟨by have:=HK1.out;omega⟩,⟨za4 HO_3⟩,⟨za2 HB⟩⟩
       ·rw[if_neg c8] at H
        exact absurd H (by simp)
      ·rw[if_neg c7] at H
       exact absurd H (by simp)
     ·rw[if_neg c6] at H
      have c6b0:decide (x4_1<(l0.length:Int))=false:=decide_eq_false c6
      clear c6
      obtain rfl:=Option.some.inj H
      go_wp2
      go_ret
      exact⟨_,za9,za4 HO_3,za2 HB⟩
  ·rw[if_neg c3] at H
   exact absurd H (by simp)
 ·rw[if_neg c2] at H
  exact absurd H (by simp)
def laws_toRec.f (k:Nat) (a0_0:Int) (a0_1:Int) (l0_2:List Int):Option (Int × Int × List Int):=(laws_toIntS.f k l0_2).bind fun t609=>(some (a0_0,a0_1,t609))
theorem laws_toRec.mono:∀a0 a1 a2 k,LeO (laws_toRec.f k a0 a1 a2) (laws_toRec.f (k+1) a0 a1 a2):=by
 intro a0 a1 a2 k
 unfold laws_toRec.f
 repeat' first
   |(with_reducible exact laws_toIntS.mono _ _)
   |(with_reducible exact LeO.refl _)
   |(with_reducible exact LeO.none _)
   |(with_reducible refine LeO.ite ?_ ?_)
   |(with_reducible refine LeO.bind ?_ (fun _=>?_))
   |exact laws_toIntS.mono _ _
   |exact LeO.none _
   |refine LeO.ite ?_ ?_
   |refine LeO.bind ?_ (fun _=>?_)
set_option maxHeartbeats 8000000 in
set_option maxRecDepth 100000 in
theorem laws_toRec.calls (k:Nat) (a0_0:Int) (a0_1:Int) (A0_2:Option Addr) (c0_2:Nat) (l0_2:List Int) (r1:Int) (r2:Int) (r3:List Int) (w:World) (hr0_2:Kd.C (Kd.int .i64) w A0_2 l0_2.length l0_2) (hc0_2:l0_2.length≤c0_2) (h:laws_toRec.f k a0_0 a0_1 l0_2=some (r1,r2,r3)) :
  Calls Try.prog 39 #[.agg #[.int .i64 a0_0,.int .i64 a0_1,.slice A0_2 l0_2.length c0_2]] w fun e w'=>∃v2_:Value,e=.returned (.agg #[.int .i64 r1,.int .i64 r2,v2_])∧Kd.R (Kd.int .i64) 3 w' w.heap.size (fun _=>True) v2_ r3∧Below w.heap.size w w':=by
 have hu57:=Try.underlying57
 have hu62:=Try.underlying62
 have HR0_2:=qal.mk hr0_2
 have HC0_2:=qal.mk hc0_2
 clear hr0_2 hc0_2
 have HB:=qal.mk (Below.refl w.heap.size w)
 have H:((laws_toIntS.f k l0_2).bind fun t609=>(some (a0_0,a0_1,t609)))=some (r1,r2,r3):=h
 clear h
 replace H:=Option.bind_eq_some_iff.mp H
 obtain⟨t609,A20,H⟩:=H
 replace H:(some (a0_0,a0_1,t609))=some (r1,r2,r3):=H
 have A2:=qal.mk A20
 clear A20
 simp only[Option.some.injEq,Prod.mk.injEq] at H
 obtain⟨rfl,rfl,rfl⟩:=H
 go_enter Try.func39,Try.ntmps39
 go_wp2_with(first|((with_reducible refine qak (N:=1) rfl ?_);refine qaj ?hg (N:=1) ?hd (cs:=#[.int .i64 a0_0,.int .i64 a0_1,.slice A0_2 l0_2.length c0_2]) (t:=57) ?hr ?_;(case hd=>rfl);(case hg=>rfl);(case hr=>first|(go_simp;done)|(go_simp;rfl));intro gb606 hg w3 hbox hb;have n0_:=qal.mk (qae (za2 HB) hb);have n1_:=qal.mk (hbox);have n2_:=qal.mk ((by rw[hg];exact(qad (za2 HB)):w.heap.size≤gb606));have n3_:=qal.mk ((by rw[hg];exact(qad (za2 HB)):w.heap.size≤gb606));clear HB;have HB:=n0_;have BK606:=n1_;have GW606:=n2_;have GE606:=n3_;clear n0_ n1_ n2_ n3_;clear hb hbox hg)|((with_reducible refine qak (N:=2) rfl ?_);refine qaj ?hg (N:=2) ?hd (cs:=#[.int .i64 0,.int .i64 0,.slice none 0 0]) (t:=62) ?hr ?_;(case hd=>rfl);(case hg=>rfl);(case hr=>first|(go_simp;done)|(go_simp;rfl));intro gb607 hg w4 hbox hb;have n0_:=qal.mk (qac (g:=gb606) (o:=.cells #[.int .i64 a0_0,.int .i64 a0_1,.slice A0_2 l0_2.length c0_2] 57 (0,0)) (za0 BK606) hb);have n1_:=qal.mk (qae (za1 HB GE606) hb);have n2_:=qal.mk (hbox);have n3_:=qal.mk ((by rw[hg];exact(qad (za1 HB GE606)):w.heap.size≤gb607));have n4_:=qal.mk ((by rw[hg];exact(qad (za1 HB GE606)):w.heap.size≤gb607));have n5_:=qal.mk ((by rw[hg];exact Nat.ne_of_lt (qao (g:=gb606) (o:=.cells #[.int .i64 a0_0,.int .i64 a0_1,.slice A0_2 l0_2.length c0_2] 57 (0,0)) (za0 BK606)):gb606≠gb607));have n6_:=qal.mk ((by rw[hg];exact Nat.ne_of_gt (qao (g:=gb606) (o:=.cells #[.int .i64 a0_0,.int .i64 a0_1,.slice A0_2 l0_2.length c0_2] 57 (0,0)) (za0 BK606)):gb607≠gb606));clear BK606;clear HB;have BK606:=n0_;have HB:=n1_;have BK607:=n2_;have GW607:=n3_;have GE607:=n4_;have NB606_607:=n5_;have NB607_606:=n6_;clear n0_ n1_ n2_ n3_ n4_ n5_ n6_;clear hb hbox hg)|((with_reducible refine qak (N:=3) rfl ?_);refine qaj ?hg (N:=3) ?hd (cs:=#[.int .i64 0,.int .i64 0,.slice none 0 0]) (t:=62) ?hr ?_;(case hd=>rfl);(case hg=>rfl);(case hr=>first|(go_simp;done)|(go_simp;rfl));intro gb608 hg w5 hbox hb;have n0_:=qal.mk (qac (g:=gb606) (o:=.cells #[.int .i64 a0_0,.int .i64 a0_1,.slice A0_2 l0_2.length c0_2] 57 (0,0)) (za0 BK606) hb);have n1_:=qal.mk (qac (g:=gb607) (o:=.cells #[.int .i64 0,.int .i64 0,.slice none 0 0] 62 (0,0)) (za0 BK607) hb);have n2_:=qal.mk (qae (za3 HB GE606 GE607) hb);have n3_:=qal.mk (hbox);have n4_:=qal.mk ((by rw[hg];exact(qad (za3 HB GE606 GE607)):w.heap.size≤gb608));have n5_:=qal.mk ((by rw[hg];exact(qad (za3 HB GE606 GE607)):w.heap.size≤gb608));have n6_:=qal.mk ((by rw[hg];exact Nat.ne_of_lt (qao (g:=gb606) (o:=.cells #[.int .i64 a0_0,.int .i64 a0_1,.slice A0_2 l0_2.length c0_2] 57 (0,0)) (za0 BK606)):gb606≠gb608));have n7_:=qal.mk ((by rw[hg];exact Nat.ne_of_gt (qao (g:=gb606) (o:=.cells #[.int .i64 a0_0,.int .i64 a0_1,.slice A0_2 l0_2.length c0_2] 57 (0,0)) (za0 BK606)):gb608≠gb606));have n8_:=qal.mk ((by rw[hg];exact Nat.ne_of_lt (qao (g:=gb607) (o:=.cells #[.int .i64 0,.int .i64 0,.slice none 0 0] 62 (0,0)) (za0 BK607)):gb607≠gb608));have n9_:=qal.mk ((by rw[hg];exact Nat.ne_of_gt (qao (g:=gb607) (o:=.cells #[.int .i64 0,.int .i64 0,.slice none 0 0] 62 (0,0)) (za0 BK607)):gb608≠gb607));clear BK606;clear BK607;clear HB;have BK606:=n0_;have BK607:=n1_;have HB:=n2_;have BK608:=n3_;have GW608:=n4_;have GE608:=n5_;have NB606_608:=n6_;have NB608_606:=n7_;have NB607_608:=n8_;have NB608_607:=n9_;clear n0_ n1_ n2_ n3_ n4_ n5_ n6_ n7_ n8_ n9_;clear hb hbox hg;have hnb6:=NB606_607.out;have hnc6:=NB607_606.out;have hnb7:=NB606_608.out;have hnc7:=NB608_606.out;have hcz8_0:w5.cell? ⟨gb606,0,none⟩=some (.int .i64 a0_0):=(qab BK606.out 0).trans rfl;have hcz8_1:w5.cell? ⟨gb606,1,none⟩=some (.int .i64 a0_1):=(qab BK606.out 1).trans rfl;have hcz8_2:w5.cell? ⟨gb606,2,none⟩=some (.slice A0_2 l0_2.length c0_2):=(qab BK606.out 2).trans rfl;have hfz8_0:=qaa BK606.out 0;have hfz8_1:=qaa BK606.out 1;have hfz8_2:=qaa BK606.out 2;have hnb9:=NB608_607.out;have hnc9:=NB607_608.out;have hcz10_0:w5.cell? ⟨gb608,0,none⟩=some (.int .i64 0):=(qab BK608.out 0).trans rfl;have hcz10_1:w5.cell? ⟨gb608,1,none⟩=some (.int .i64 0):=(qab BK608.out 1).trans rfl;have hcz10_2:w5.cell? ⟨gb608,2,none⟩=some (.slice none 0 0):=(qab BK608.out 2).trans rfl;have hfz10_0:=qaa BK608.out 0;have hfz10_1:=qaa BK608.out 1;have hfz10_2:=qaa BK608.out 2)|((with_reducible refine qai (f:=81) rfl ?_);refine qau (some 12) rfl rfl Try.func81 (by kernel_rfl) rfl #[.slice A0_2 l0_2.length c0_2] rfl (by(try simp only[List.map_toArray,List.map_cons,List.map_nil]);first|done|rfl|(simp only[List.length_drop,List.length_take];rfl)) ?_;(with_reducible refine(laws_toIntS.calls k _ _ l0_2 t609 _ ?side1 ?side2 A2.out).mono ?_);(case side1=>exact Kd.C_below HR0_2.out (za6 HB GE606 GE607 GE608));(case side2=>exact HC0_2.out);rintro e w11 ⟨v610,rfl,ho0,hb⟩;refine⟨_,rfl,?_⟩;have n0_:=qal.mk (Kd.R_lower ho0 (qad (za6 HB GE606 GE607 GE608)));have n1_:=qal.mk (qac (g:=gb606) (o:=.cells #[.int .i64 a0_0,.int .i64 a0_1,.slice A0_2 l0_2.length c0_2] 57 (0,0)) (za5 NB606_608 BK606) hb);have n2_:=qal.mk (qac (g:=gb607) (o:=.cells #[.int .i64 0,.int .i64 0,.slice none 0 0] 62 (0,0)) (za5 NB607_608 BK607) hb);have n3_:=qal.mk (qac (g:=gb608) (o:=.cells #[.int .i64 a0_0,.int .i64 a0_1,.slice none 0 0] 62 (0,0)) (by(with_reducible repeat(first|refine qag ?_ _|refine qah ?_|refine qaf ?_ _));refine qan (cs:=#[.int .i64 a0_0,.int .i64 0,.slice none 0 0]) ?_ 1 _ rfl;(with_reducible repeat(first|refine qag ?_ _|refine qah ?_|refine qaf ?_ _));refine qan (cs:=#[.int .i64 0,.int .i64 0,.slice none 0 0]) ?_ 0 _ rfl;(with_reducible repeat(first|refine qag ?_ _|refine qah ?_|refine qaf ?_ _));exact BK608.out) hb);have n4_:=qal.mk (qae (za6 HB GE606 GE607 GE608) hb);clear BK606;clear BK607;clear BK608;clear HB;have HO611:=n0_;have BK606:=n1_;have BK607:=n2_;have BK608:=n3_;have HB:=n4_;clear n0_ n1_ n2_ n3_ n4_;(try clear hb);(try clear hb2);(try clear hk);(try clear hi);(try clear ho0);obtain⟨Ao12,co12,eo12⟩:=Kd.R_slice HO611.out;subst eo12;have hcz13_0:w11.cell? ⟨gb608,0,none⟩=some (.int .i64 a0_0):=(qab BK608.out 0).trans rfl;have hcz13_1:w11.cell? ⟨gb608,1,none⟩=some (.int .i64 a0_1):=(qab BK608.out 1).trans rfl;have hcz13_2:w11.cell? ⟨gb608,2,none⟩=some (.slice none 0 0):=(qab BK608.out 2).trans rfl;have hfz13_0:=qaa BK608.out 0;have hfz13_1:=qaa BK608.out 1;have hfz13_2:=qaa BK608.out 2;have hcz14_0:w11.cell? ⟨gb607,0,none⟩=some (.int .i64 0):=(qab BK607.out 0).trans rfl;have hcz14_1:w11.cell? ⟨gb607,1,none⟩=some (.int .i64 0):=(qab BK607.out 1).trans rfl;have hcz14_2:w11.cell? ⟨gb607,2,none⟩=some (.slice none 0 0):=(qab BK607.out 2).trans rfl;have hfz14_0:=qaa BK607.out 0;have hfz14_1:=qaa BK607.out 1;have hfz14_2:=qaa BK607.out 2))
 refine bodyPost_ret (results_cell_row rfl _ _ gb607 62 #[.int .i64 a0_0,.int .i64 a0_1,.slice Ao12 t609.length co12] (0,0) _ rfl (by(with_reducible repeat(first|refine qag ?_ _|refine qah ?_|refine qaf ?_ _));refine qan (cs:=#[.int .i64 a0_0,.int .i64 a0_1,.slice none 0 0]) ?_ 2 _ rfl;(with_reducible repeat(first|refine qag ?_ _|refine qah ?_|refine qaf ?_ _));refine qan (cs:=#[.int .i64 a0_0,.int .i64 0,.slice none 0 0]) ?_ 1 _ rfl;(with_reducible repeat(first|refine qag ?_ _|refine qah ?_|refine qaf ?_ _));refine qan (cs:=#[.int .i64 0,.int .i64 0,.slice none 0 0]) ?_ 0 _ rfl;(with_reducible repeat(first|refine qag ?_ _|refine qah ?_|refine qaf ?_ _));refine blk_far ?_ NB607_608.out _;(with_reducible repeat(first|refine qag ?_ _|refine qah ?_|refine qaf ?_ _));exact BK607.out) Try.underlying62 rfl (by kernel_rfl)) rfl ?_
 exact⟨_,za9,by(with_reducible repeat(first|apply Kd.R_alloc|apply Kd.R_drewN|apply Kd.R_drew));exact Kd.R_mono (Kd.R_far (p:=⟨gb607,2,none⟩) (Kd.R_far (p:=⟨gb607,1,none⟩) (Kd.R_far (p:=⟨gb607,0,none⟩) (Kd.R_far (p:=⟨gb608,2,none⟩) (Kd.R_types (Kd.R_types HO611.out BK608.out (by decide)) BK607.out (by decide)) (fun _ hk=>hk.1.2) (.slice Ao12 t609.length co12)) (fun _ hk=>hk.2) (.int .i64 a0_0)) (fun _ hk=>hk.2) (.int .i64 a0_1)) (fun _ hk=>hk.2) (.slice Ao12 t609.length co12)) (fun _ hk=>trivial),za6 HB GE606 GE607 GE608⟩
end Go.Proofs.Ytjccnaklodbbfaa.Print
