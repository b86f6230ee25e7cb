-- Written by squeeze.py: not trusted, Lean checks it.
import Derived.Test.YtmbdphefnalenaaZK
namespace Go.Proofs.Ytmbdphefnalenaa.Print
open Go.RowKit Go.Proofs.YtmbdphefnalenaaW.PrintWords Go.Proofs.YtmbdphefnalenaaW.PrintLast Go.Proofs.YtmbdphefnalenaaW.PrintMore
attribute [local go_sem] max2_int min2_int max_two min_two max_three min_three max_four min_four
set_option linter.unusedVariables false
set_option linter.unusedSimpArgs false
def laws_szIntS.f (l0:List Int) (a1:Int):Option (Int):=if(wrap64 (a1 - (l0.length:Int)))<0 then(some (-1)) else(some (wrap64 (a1 - (l0.length:Int))))
set_option maxHeartbeats 8000000 in
set_option maxRecDepth 100000 in
theorem laws_szIntS.calls (A0:Option Addr) (c0:Nat) (l0:List Int) (a1:Int) (r:Int) (w:World) (hr0:Kd.C (Kd.int .i64) w A0 l0.length l0) (hc0:l0.length≤c0) (h:laws_szIntS.f l0 a1=some r) :
  Calls Try.prog 69 #[.slice A0 l0.length c0,.int .i64 a1] w fun e w'=>e=.returned (.int .i64 r)∧Drawn0 w w':=by
 have HR0:=qaf.mk hr0;have HC0:=qaf.mk hc0;clear hr0 hc0;have H:(if(wrap64 (a1 - (l0.length:Int)))<0 then(some (-1)) else(some (wrap64 (a1 - (l0.length:Int)))))=some r:=h;clear h;by_cases c3:(wrap64 (a1 - (l0.length:Int)))<0
 ·rw[if_pos c3] at H;have c3b0:decide ((wrap64 (a1 - (l0.length:Int)))<0)=true:=decide_eq_true c3;clear c3;obtain rfl:=Option.some.inj H;go_enter Try.func69,Try.ntmps69;go_wp2;go_ret;exact⟨za38,za62⟩
 ·rw[if_neg c3] at H;have c3b0:decide ((wrap64 (a1 - (l0.length:Int)))<0)=false:=decide_eq_false c3;clear c3;obtain rfl:=Option.some.inj H;go_enter Try.func69,Try.ntmps69;go_wp2;go_ret;exact⟨za38,za62⟩
def laws_szRec.f (a0_0:Int) (a0_1:Int) (l0_2:List Int) (a1:Int):Option (Int):=(laws_szIntS.f l0_2 a1).bind fun t970=>(if t970<0 then(some (-1)) else(some t970))
set_option maxHeartbeats 8000000 in
set_option maxRecDepth 100000 in
theorem laws_szRec.calls (a0_0:Int) (a0_1:Int) (A0_2:Option Addr) (c0_2:Nat) (l0_2:List Int) (a1:Int) (r:Int) (w:World) (hr0_2:Kd.C (Kd.int .i64) w A0_2 l0_2.length l0_2) (hc0_2:l0_2.length≤c0_2) (h:laws_szRec.f a0_0 a0_1 l0_2 a1=some r) :
  Calls Try.prog 31 #[.agg #[.int .i64 a0_0,.int .i64 a0_1,.slice A0_2 l0_2.length c0_2],.int .i64 a1] w fun e w'=>e=.returned (.int .i64 r)∧Below w.heap.size w w':=by
 have hu54:=Try.underlying54;have HR0_2:=qaf.mk hr0_2;have HC0_2:=qaf.mk hc0_2;clear hr0_2 hc0_2;have HB:=qaf.mk (Below.refl w.heap.size w);have H:((laws_szIntS.f l0_2 a1).bind fun t970=>(if t970<0 then(some (-1)) else(some t970)))=some r:=h;clear h;replace H:=Option.bind_eq_some_iff.mp H;obtain⟨t970,A30,H⟩:=H;replace H:(if t970<0 then(some (-1)) else(some t970))=some r:=H;have A3:=qaf.mk A30;clear A30;by_cases c4:t970<0
 ·rw[if_pos c4] at H;have c4b0:decide (t970<0)=true:=decide_eq_true c4;clear c4;obtain rfl:=Option.some.inj H;go_enter Try.func31,Try.ntmps31
  go_wp2_with(first|((with_reducible refine qam (N:=2) rfl ?_);refine zX (N:=2) (cs:=#[.int .i64 a0_0,.int .i64 a0_1,.slice A0_2 l0_2.length c0_2]) (t:=54) ?_;intro gb969 hg w5 hbox hb;have BK969:=qaf.mk hbox;have GW969:=zH (w:=w) hg (za2 HB);have GE969:=GW969;replace HB:=qaf.mk (qad (za2 HB) hb);clear hb hbox hg;obtain⟨hcz6_0,hcz6_1,hcz6_2,hfz6_0,hfz6_1,hfz6_2⟩:=zC3 BK969)|((with_reducible refine qag (f:=69) rfl ?_);refine zF (some 8) Try.func69 #[.slice A0_2 l0_2.length c0_2,.int .i64 a1] ?_;(with_reducible refine(laws_szIntS.calls _ _ l0_2 a1 t970 _ ?side1 ?side2 A3.out).mono ?_);(case side1=>exact zR HR0_2 HB);(case side2=>exact HC0_2.out);rintro e w' ⟨rfl,⟨nd,rfl⟩⟩;refine⟨_,rfl,?_⟩))
  go_ret;exact⟨za12,za3 HB GE969⟩
 ·rw[if_neg c4] at H;have c4b0:decide (t970<0)=false:=decide_eq_false c4;clear c4;obtain rfl:=Option.some.inj H;go_enter Try.func31,Try.ntmps31
  go_wp2_with(first|((with_reducible refine qam (N:=2) rfl ?_);refine zX (N:=2) (cs:=#[.int .i64 a0_0,.int .i64 a0_1,.slice A0_2 l0_2.length c0_2]) (t:=54) ?_;intro gb969 hg w7 hbox hb;have BK969:=qaf.mk hbox;have GW969:=zH (w:=w) hg (za2 HB);have GE969:=GW969;replace HB:=qaf.mk (qad (za2 HB) hb);clear hb hbox hg;obtain⟨hcz8_0,hcz8_1,hcz8_2,hfz8_0,hfz8_1,hfz8_2⟩:=zC3 BK969)|((with_reducible refine qag (f:=69) rfl ?_);refine zF (some 8) Try.func69 #[.slice A0_2 l0_2.length c0_2,.int .i64 a1] ?_;(with_reducible refine(laws_szIntS.calls _ _ l0_2 a1 t970 _ ?side1 ?side2 A3.out).mono ?_);(case side1=>exact zR HR0_2 HB);(case side2=>exact HC0_2.out);rintro e w' ⟨rfl,⟨nd,rfl⟩⟩;refine⟨_,rfl,?_⟩))
  go_ret;exact⟨za12,za3 HB GE969⟩
def laws_toIntS.l0:Nat→List Int→List Int→Int→Option (List Int)
 |0,_,_,_=>none
 |k+1,x0,x3,x4=>if x4<(x0.length:Int) then(if 0≤x4 then(if x4<(x3.length:Int) then(laws_toIntS.l0 k x0 (x3.set (x4:Int).toNat (rd x0 x4)) (wrap64 (x4+1))) else(none)) else(none)) else(some x3)
def laws_toIntS.f (k:Nat) (l0:List Int):Option (List Int):=if 0≤(l0.length:Int) then(if((l0.length:Int):Int).toNat≤35184372088832 then(laws_toIntS.l0 k l0 (List.replicate ((l0.length:Int):Int).toNat 0) 0) else(none)) else(none)
theorem laws_toIntS.mono_l:∀k,(∀y0 y1 y2,LeO (laws_toIntS.l0 k y0 y1 y2) (laws_toIntS.l0 (k+1) y0 y1 y2))
 |0=>fun _ _ _ r h=>by simp[laws_toIntS.l0] at h
 |k+1=>by
  have ih0:=laws_toIntS.mono_l k
  ·intro y0 y1 y2;unfold laws_toIntS.l0
   repeat' first|(with_reducible exact ih0 _ _ _)|(with_reducible exact LeO.refl _)|(with_reducible exact LeO.none _)|(with_reducible refine LeO.ite ?_ ?_)|(with_reducible refine LeO.bind ?_ (fun _=>?_))|exact ih0 _ _ _|exact LeO.none _|refine LeO.ite ?_ ?_|refine LeO.bind ?_ (fun _=>?_)
theorem laws_toIntS.mono:∀a0 k,LeO (laws_toIntS.f k a0) (laws_toIntS.f (k+1) a0):=by
 intro a0 k;have ih0:=laws_toIntS.mono_l k;unfold laws_toIntS.f
 repeat' first|(with_reducible exact ih0 _ _ _)|(with_reducible exact LeO.refl _)|(with_reducible exact LeO.none _)|(with_reducible refine LeO.ite ?_ ?_)|(with_reducible refine LeO.bind ?_ (fun _=>?_))|exact ih0 _ _ _|exact LeO.none _|refine LeO.ite ?_ ?_|refine LeO.bind ?_ (fun _=>?_)
set_option maxHeartbeats 8000000 in
set_option maxRecDepth 100000 in
theorem laws_toIntS.calls (k:Nat) (A0:Option Addr) (c0:Nat) (l0:List Int) (r:List Int) (w:World) (hr0:Kd.C (Kd.int .i64) w A0 l0.length l0) (hc0:l0.length≤c0) (h:laws_toIntS.f k l0=some r) :
  Calls Try.prog 71 #[.slice A0 l0.length c0] w fun e w'=>∃v0_:Value,e=.returned (v0_)∧Kd.R (Kd.int .i64) 3 w' w.heap.size (fun _=>True) v0_ r∧Below w.heap.size w w':=by
 have HR0:=qaf.mk hr0;have HC0:=qaf.mk hc0;clear hr0 hc0;have HB:=qaf.mk (Below.refl w.heap.size w);have H:(if 0≤(l0.length:Int) then(if((l0.length:Int):Int).toNat≤35184372088832 then(laws_toIntS.l0 k l0 (List.replicate ((l0.length:Int):Int).toNat 0) 0) else(none)) else(none))=some r:=h;clear h;by_cases c2:0≤(l0.length:Int)
 ·rw[if_pos c2] at H;have c2b0:=eq_true c2;have c2b1:decide (0≤(l0.length:Int))=true:=decide_eq_true c2;clear c2;by_cases c3:((l0.length:Int):Int).toNat≤35184372088832
  ·rw[if_pos c3] at H;have c3b0:=eq_true c3;have c3b1:decide (((l0.length:Int):Int).toNat≤35184372088832)=true:=decide_eq_true c3;clear c3;obtain⟨y987,hy987⟩:∃y_:List Int,y_=(List.replicate ((l0.length:Int):Int).toNat 0):=⟨_,rfl⟩
   replace H:(laws_toIntS.l0 k l0 y987 0)=some r:=by first|(rw[hy987];with_reducible exact H)|(have H2_:=(Option.bind_some _ _).symm.trans H;rw[hy987];with_reducible exact H2_)|(have H2_:=(Option.bind_some _ _).symm.trans H;with_reducible exact H2_)|with_reducible exact H|(rw[hy987];exact H)|exact H
   have Ny987:=qaf.mk hy987;clear hy987;have H':=qaf.mk H;clear H;go_enter Try.func71,Try.ntmps71
   go_wp2_with(first|((with_reducible refine qam (N:=7) rfl ?_);refine Kd.R_make (Kd.int .i64) _ 3 rfl (N:=7) rfl 30 _ _ rfl (l0.length:Int) rfl rfl Try.underlying30 (.int .i64 0) 8 info3 rfl (by decide) (by omega) 0 (ok:=fun _=>True) (okp:=fun _=>True) rfl (fun _ hk=>hk) trivial (of_decide_eq_true (za10)) (Nat.le_trans (Nat.mul_le_mul_right _ (of_decide_eq_true (za10):(l0.length:Int).toNat≤35184372088832)) (by omega)) (Below.refl _ _) (Nat.le_refl _) ?_;intro v988 w4 ho5 hb hg_ hnew_;clear hg_ hnew_;(first|rw[←Ny987.out] at ho5|(simp only[Int.reduceToNat] at ho5;rw[←Ny987.out] at ho5));have HO989:=qaf.mk (Kd.R_lower ho5 (qan (za2 HB)));replace HB:=qaf.mk (qad (za2 HB) hb);clear hb ho5))
   go_loopg [4] k (fun kq v4 w'=>∃(x3_1:List Int) (x4_1:Int),v4=.int .i64 x4_1∧qaf (laws_toIntS.l0 kq l0 x3_1 x4_1=some r)∧qaf (kq≤k)∧qaf (Kd.R (Kd.int .i64) 3 w' w.heap.size (fun _=>True) v988 x3_1)∧qaf (Below w.heap.size w w'))
   case atStart=>exact⟨(y987),(0),(za38),H',⟨Nat.le_refl _⟩,⟨za1 HO989⟩,⟨za2 HB⟩⟩
   case round=>
    clear H'
    try clear c2
    try clear c2b0
    try clear c2b1
    try clear p2
    try clear c3
    try clear c3b0
    try clear c3b1
    obtain⟨x3_1,x4_1,rfl,HA,HK1,HO_3,HB⟩:=hrel
    cases gk with
    |zero=>exact absurd HA.out (by simp[laws_toIntS.l0])
    |succ k1=>
     have H:=HA.out;clear HA;simp only[laws_toIntS.l0] at H;by_cases c6:x4_1<(l0.length:Int)
     ·rw[if_pos c6] at H;have c6b0:decide (x4_1<(l0.length:Int))=true:=decide_eq_true c6;clear c6;by_cases c7:0≤x4_1
      ·rw[if_pos c7] at H;have c7b0:decide (0≤x4_1)=true:=decide_eq_true c7;clear c7;by_cases c8:x4_1<(x3_1.length:Int)
       ·rw[if_pos c8] at H;have c8b0:decide (x4_1<(x3_1.length:Int))=true:=decide_eq_true c8;clear c8;obtain⟨y991,hy991⟩:∃y_:List Int,y_=(x3_1.set (x4_1:Int).toNat (rd l0 x4_1)):=⟨_,rfl⟩
        replace H:(laws_toIntS.l0 k1 l0 y991 (wrap64 (x4_1+1)))=some r:=by first|(rw[hy991];with_reducible exact H)|(have H2_:=(Option.bind_some _ _).symm.trans H;rw[hy991];with_reducible exact H2_)|(have H2_:=(Option.bind_some _ _).symm.trans H;with_reducible exact H2_)|with_reducible exact H|(rw[hy991];exact H)|exact H
        have Ny991:=qaf.mk hy991;clear hy991;have H':=qaf.mk H;clear H;have p990:0≤(x4_1:Int):=of_decide_eq_true (za10);have q990:x4_1<(l0.length:Int):=of_decide_eq_true (za10);obtain⟨ad990,e990,hx990_0⟩:=Kd.at_int HR0.out x4_1 p990 q990
        cases e990
        replace hx990_0:=(HB.out.cell (World.block_lt_of_cell? w _ hx990_0)).trans hx990_0;replace p990:=eq_true p990;replace q990:=eq_true q990;have p9:0≤(x4_1:Int):=of_decide_eq_true (za10);have q9:(x4_1:Int)<((x3_1.length:Int):Int):=of_decide_eq_true (za10);obtain⟨go9,co9,eo9,gb9,gl9,cl9,HG9⟩:=Kd.R_form HO_3.out (by omega);(first|cases eo9|(injection eo9 with ea_ en_ ec_;(first|subst ea_|(injection ea_ with ea_;subst ea_));subst ec_;clear en_));have GB9:=qaf.mk gb9;have GG9:=qaf.mk HG9;clear gb9 gl9 HG9;obtain⟨hx9_0,hf9_0⟩:=Kd.R_celln 0 HO_3.out (x4_1:Int) p9 q9;replace p9:=eq_true p9;replace q9:=eq_true q9;have HP10:=Kd.R_putg HO_3.out (x4_1:Int) (rd l0 x4_1)
        go_wp2_with(first|((with_reducible refine gate_store (t:=3) (p:=20) rfl ?_);refine qbe (t:=3) (p:=20) (v:=?vo_w11) (w1:=(wr.setCell ⟨go9,(x4_1:Int).toNat,none⟩ (.int .i64 (rd l0 x4_1)))) ?hg ?ho ?hn ?hr ?_;(case ho=>rfl);(case hg=>rfl);(case hn=>rfl);(case hr=>first|(go_simp;done)|(go_simp;rfl));intro w11 hw;have hg:wr.grownBy w11 (some go9):=(by rw[hw];exact HP10.2);have hp_:Kd.R (Kd.int .i64) 3 w11 w.heap.size (fun _=>True) (.slice (some ⟨go9,0,none⟩) x3_1.length co9) y991:=(by rw[hw,Ny991.out];exact HP10.1);clear HP10;replace HO_3:=qaf.mk hp_;replace HB:=qaf.mk ((by rw[hw];exact qat (HB.out) GB9.out:Below w.heap.size w w11));clear hg hw hp_))
        go_roundg k1
        case measure=>have:=HK1.out;omega
        case rel=>exact⟨(y991),(wrap64 (x4_1+1)),(za38),H',⟨by have:=HK1.out;omega⟩,⟨za1 HO_3⟩,⟨za2 HB⟩⟩
       ·rw[if_neg c8] at H;exact absurd H (by simp)
      ·rw[if_neg c7] at H;exact absurd H (by simp)
     ·rw[if_neg c6] at H;have c6b0:decide (x4_1<(l0.length:Int))=false:=decide_eq_false c6;clear c6;obtain rfl:=Option.some.inj H;go_wp2;go_ret;exact⟨_,za12,za1 HO_3,za2 HB⟩
  ·rw[if_neg c3] at H;exact absurd H (by simp)
 ·rw[if_neg c2] at H;exact absurd H (by simp)
def laws_toRec.f (k:Nat) (a0_0:Int) (a0_1:Int) (l0_2:List Int):Option (Int × Int × List Int):=(laws_toIntS.f k l0_2).bind fun t995=>(some (a0_0,a0_1,t995))
theorem laws_toRec.mono:∀a0 a1 a2 k,LeO (laws_toRec.f k a0 a1 a2) (laws_toRec.f (k+1) a0 a1 a2):=by
 intro a0 a1 a2 k;unfold laws_toRec.f
 repeat' first|(with_reducible exact laws_toIntS.mono _ _)|(with_reducible exact LeO.refl _)|(with_reducible exact LeO.none _)|(with_reducible refine LeO.ite ?_ ?_)|(with_reducible refine LeO.bind ?_ (fun _=>?_))|exact laws_toIntS.mono _ _|exact LeO.none _|refine LeO.ite ?_ ?_|refine LeO.bind ?_ (fun _=>?_)
set_option maxHeartbeats 8000000 in
set_option maxRecDepth 100000 in
theorem laws_toRec.calls (k:Nat) (a0_0:Int) (a0_1:Int) (A0_2:Option Addr) (c0_2:Nat) (l0_2:List Int) (r1:Int) (r2:Int) (r3:List Int) (w:World) (hr0_2:Kd.C (Kd.int .i64) w A0_2 l0_2.length l0_2) (hc0_2:l0_2.length≤c0_2) (h:laws_toRec.f k a0_0 a0_1 l0_2=some (r1,r2,r3)) :
  Calls Try.prog 33 #[.agg #[.int .i64 a0_0,.int .i64 a0_1,.slice A0_2 l0_2.length c0_2]] w fun e w'=>∃v2_:Value,e=.returned (.agg #[.int .i64 r1,.int .i64 r2,v2_])∧Kd.R (Kd.int .i64) 3 w' w.heap.size (fun _=>True) v2_ r3∧Below w.heap.size w w':=by
 have hu54:=Try.underlying54;have hu32:=Try.underlying32;have HR0_2:=qaf.mk hr0_2;have HC0_2:=qaf.mk hc0_2;clear hr0_2 hc0_2;have HB:=qaf.mk (Below.refl w.heap.size w);have H:((laws_toIntS.f k l0_2).bind fun t995=>(some (a0_0,a0_1,t995)))=some (r1,r2,r3):=h;clear h;replace H:=Option.bind_eq_some_iff.mp H;obtain⟨t995,A20,H⟩:=H;replace H:(some (a0_0,a0_1,t995))=some (r1,r2,r3):=H;have A2:=qaf.mk A20;clear A20;simp only[Option.some.injEq,Prod.mk.injEq] at H;obtain⟨rfl,rfl,rfl⟩:=H;go_enter Try.func33,Try.ntmps33
 go_wp2_with(first|((with_reducible refine qam (N:=1) rfl ?_);refine zX (N:=1) (cs:=#[.int .i64 a0_0,.int .i64 a0_1,.slice A0_2 l0_2.length c0_2]) (t:=54) ?_;intro gb992 hg w3 hbox hb;have BK992:=qaf.mk hbox;have GW992:=zH (w:=w) hg (za2 HB);have GE992:=GW992;replace HB:=qaf.mk (qad (za2 HB) hb);clear hb hbox hg)|((with_reducible refine qam (N:=2) rfl ?_);refine zX (N:=2) (cs:=#[.int .i64 0,.int .i64 0,.slice none 0 0]) (t:=32) ?_;intro gb993 hg w4 hbox hb;have BK993:=qaf.mk hbox;have GW993:=zH (w:=w) hg (za3 HB GE992);have GE993:=GW993;replace HB:=qaf.mk (qad (za3 HB GE992) hb);have NB992_993:=zL BK992 hg;have NB993_992:=zG BK992 hg;replace BK992:=zY BK992 hb;clear hb hbox hg)|((with_reducible refine qam (N:=3) rfl ?_);refine zX (N:=3) (cs:=#[.int .i64 0,.int .i64 0,.slice none 0 0]) (t:=32) ?_;intro gb994 hg w5 hbox hb;have BK994:=qaf.mk hbox;have GW994:=zH (w:=w) hg (za4 HB GE992 GE993);have GE994:=GW994;replace HB:=qaf.mk (qad (za4 HB GE992 GE993) hb);have NB992_994:=zL BK992 hg;have NB994_992:=zG BK992 hg;replace BK992:=zY BK992 hb;have NB993_994:=zL BK993 hg;have NB994_993:=zG BK993 hg;replace BK993:=zY BK993 hb;clear hb hbox hg;have hnb6:=NB992_993.out;have hnc6:=NB993_992.out;have hnb7:=NB992_994.out;have hnc7:=NB994_992.out;obtain⟨hcz8_0,hcz8_1,hcz8_2,hfz8_0,hfz8_1,hfz8_2⟩:=zC3 BK992;have hnb9:=NB994_993.out;have hnc9:=NB993_994.out;obtain⟨hcz10_0,hcz10_1,hcz10_2,hfz10_0,hfz10_1,hfz10_2⟩:=zC3 BK994)|((with_reducible refine qag (f:=71) rfl ?_);refine zF (some 12) Try.func71 #[.slice A0_2 l0_2.length c0_2] ?_;(with_reducible refine(laws_toIntS.calls k _ _ l0_2 t995 _ ?side1 ?side2 A2.out).mono ?_);(case side1=>exact Kd.C_below HR0_2.out (za9 HB GE992 GE993 GE994));(case side2=>exact HC0_2.out);rintro e w11 ⟨v996,rfl,ho0,hb⟩;refine⟨_,rfl,?_⟩;have HO997:=qaf.mk (Kd.R_lower ho0 (qan (za9 HB GE992 GE993 GE994)));replace BK992:=qaf.mk (qal (g:=gb992) (o:=.cells #[.int .i64 a0_0,.int .i64 a0_1,.slice A0_2 l0_2.length c0_2] 54 (0,0)) (za0 NB992_994 BK992) hb);replace BK993:=qaf.mk (qal (g:=gb993) (o:=.cells #[.int .i64 0,.int .i64 0,.slice none 0 0] 32 (0,0)) (za0 NB993_994 BK993) hb);replace BK994:=qaf.mk (qal (g:=gb994) (o:=.cells #[.int .i64 a0_0,.int .i64 a0_1,.slice none 0 0] 32 (0,0)) (by(with_reducible repeat(first|refine qac ?_ _|refine qaa ?_|refine qab ?_ _));refine qah (cs:=#[.int .i64 a0_0,.int .i64 0,.slice none 0 0]) ?_ 1 _ rfl;(with_reducible repeat(first|refine qac ?_ _|refine qaa ?_|refine qab ?_ _));refine qah (cs:=#[.int .i64 0,.int .i64 0,.slice none 0 0]) ?_ 0 _ rfl;(with_reducible repeat(first|refine qac ?_ _|refine qaa ?_|refine qab ?_ _));exact BK994.out) hb);replace HB:=qaf.mk (qad (za9 HB GE992 GE993 GE994) hb);(try clear hb);(try clear ho0);obtain⟨Ao12,co12,eo12⟩:=Kd.R_slice HO997.out;subst eo12;obtain⟨hcz13_0,hcz13_1,hcz13_2,hfz13_0,hfz13_1,hfz13_2⟩:=zC3 BK994;obtain⟨hcz14_0,hcz14_1,hcz14_2,hfz14_0,hfz14_1,hfz14_2⟩:=zC3 BK993))
 refine bodyPost_ret (results_cell_row rfl _ _ gb993 32 #[.int .i64 a0_0,.int .i64 a0_1,.slice Ao12 t995.length co12] (0,0) _ rfl (by(with_reducible repeat(first|refine qac ?_ _|refine qaa ?_|refine qab ?_ _));refine qah (cs:=#[.int .i64 a0_0,.int .i64 a0_1,.slice none 0 0]) ?_ 2 _ rfl;(with_reducible repeat(first|refine qac ?_ _|refine qaa ?_|refine qab ?_ _));refine qah (cs:=#[.int .i64 a0_0,.int .i64 0,.slice none 0 0]) ?_ 1 _ rfl;(with_reducible repeat(first|refine qac ?_ _|refine qaa ?_|refine qab ?_ _));refine qah (cs:=#[.int .i64 0,.int .i64 0,.slice none 0 0]) ?_ 0 _ rfl;(with_reducible repeat(first|refine qac ?_ _|refine qaa ?_|refine qab ?_ _));refine blk_far ?_ NB993_994.out _;(with_reducible repeat(first|refine qac ?_ _|refine qaa ?_|refine qab ?_ _));exact BK993.out) Try.underlying32 rfl (by kernel_rfl)) rfl ?_
 exact⟨_,za12,by(with_reducible repeat(first|apply Kd.R_alloc|apply Kd.R_drewN|apply Kd.R_drew));exact Kd.R_mono (Kd.R_far (p:=⟨gb993,2,none⟩) (Kd.R_far (p:=⟨gb993,1,none⟩) (Kd.R_far (p:=⟨gb993,0,none⟩) (Kd.R_far (p:=⟨gb994,2,none⟩) (Kd.R_types (Kd.R_types HO997.out BK994.out (by decide)) BK993.out (by decide)) (fun _ hk=>hk.1.2) (.slice Ao12 t995.length co12)) (fun _ hk=>hk.2) (.int .i64 a0_0)) (fun _ hk=>hk.2) (.int .i64 a0_1)) (fun _ hk=>hk.2) (.slice Ao12 t995.length co12)) (fun _ hk=>trivial),za9 HB GE992 GE993 GE994⟩
def laws_eqHold.f (a0_0:Int) (a0_1:Int) (a1_0:Int) (a1_1:Int):Option (Bool):=if a0_0=a1_0 then(if a0_1=a1_1 then(some true) else(some false)) else(some false)
set_option maxHeartbeats 8000000 in
set_option maxRecDepth 100000 in
theorem laws_eqHold.calls (a0_0:Int) (a0_1:Int) (a1_0:Int) (a1_1:Int) (r:Bool) (w:World) (h:laws_eqHold.f a0_0 a0_1 a1_0 a1_1=some r) :
  Calls Try.prog 97 #[.agg #[.int .i64 a0_0,.int .i64 a0_1],.agg #[.int .i64 a1_0,.int .i64 a1_1]] w fun e w'=>e=.returned (.bool r)∧Below w.heap.size w w':=by
 have hu49:=Try.underlying49;have HB:=qaf.mk (Below.refl w.heap.size w);have H:(if a0_0=a1_0 then(if a0_1=a1_1 then(some true) else(some false)) else(some false))=some r:=h;clear h;by_cases c3:a0_0=a1_0
 ·rw[if_pos c3] at H;have c3b0:(a0_0 == a1_0)=true:=beq_iff_eq.mpr c3;have c3b1:(a0_0 != a1_0)=false:=bne_eq_false_iff_eq.mpr c3;clear c3;by_cases c4:a0_1=a1_1
  ·rw[if_pos c4] at H;have c4b0:(a0_1 == a1_1)=true:=beq_iff_eq.mpr c4;have c4b1:(a0_1 != a1_1)=false:=bne_eq_false_iff_eq.mpr c4;clear c4;obtain rfl:=Option.some.inj H;go_enter Try.func97,Try.ntmps97
   go_wp2_with(first|((with_reducible refine qam (N:=2) rfl ?_);refine zX (N:=2) (cs:=#[.int .i64 a0_0,.int .i64 a0_1]) (t:=49) ?_;intro gb998 hg w5 hbox hb;have BK998:=qaf.mk hbox;have GW998:=zH (w:=w) hg (za2 HB);have GE998:=GW998;replace HB:=qaf.mk (qad (za2 HB) hb);clear hb hbox hg)|((with_reducible refine qam (N:=3) rfl ?_);refine zX (N:=3) (cs:=#[.int .i64 a1_0,.int .i64 a1_1]) (t:=49) ?_;intro gb999 hg w6 hbox hb;have BK999:=qaf.mk hbox;have GW999:=zH (w:=w) hg (za3 HB GE998);have GE999:=GW999;replace HB:=qaf.mk (qad (za3 HB GE998) hb);have NB998_999:=zL BK998 hg;have NB999_998:=zG BK998 hg;replace BK998:=zY BK998 hb;clear hb hbox hg;have hnb7:=NB998_999.out;have hnc7:=NB999_998.out;obtain⟨hcz8_0,hcz8_1,hfz8_0,hfz8_1⟩:=zC2 BK998;obtain⟨hcz9_0,hcz9_1,hfz9_0,hfz9_1⟩:=zC2 BK999))
   go_ret;exact⟨za12,za4 HB GE998 GE999⟩
  ·rw[if_neg c4] at H;have c4b0:(a0_1 == a1_1)=false:=beq_eq_false_iff_ne.mpr c4;have c4b1:(a0_1 != a1_1)=true:=bne_iff_ne.mpr c4;obtain rfl:=Option.some.inj H;go_enter Try.func97,Try.ntmps97
   go_wp2_with(first|((with_reducible refine qam (N:=2) rfl ?_);refine zX (N:=2) (cs:=#[.int .i64 a0_0,.int .i64 a0_1]) (t:=49) ?_;intro gb998 hg w10 hbox hb;have BK998:=qaf.mk hbox;have GW998:=zH (w:=w) hg (za2 HB);have GE998:=GW998;replace HB:=qaf.mk (qad (za2 HB) hb);clear hb hbox hg)|((with_reducible refine qam (N:=3) rfl ?_);refine zX (N:=3) (cs:=#[.int .i64 a1_0,.int .i64 a1_1]) (t:=49) ?_;intro gb999 hg w11 hbox hb;have BK999:=qaf.mk hbox;have GW999:=zH (w:=w) hg (za3 HB GE998);have GE999:=GW999;replace HB:=qaf.mk (qad (za3 HB GE998) hb);have NB998_999:=zL BK998 hg;have NB999_998:=zG BK998 hg;replace BK998:=zY BK998 hb;clear hb hbox hg;have hnb12:=NB998_999.out;have hnc12:=NB999_998.out;obtain⟨hcz13_0,hcz13_1,hfz13_0,hfz13_1⟩:=zC2 BK998;obtain⟨hcz14_0,hcz14_1,hfz14_0,hfz14_1⟩:=zC2 BK999))
   go_ret;exact⟨za12,za4 HB GE998 GE999⟩
 ·rw[if_neg c3] at H;have c3b0:(a0_0 == a1_0)=false:=beq_eq_false_iff_ne.mpr c3;have c3b1:(a0_0 != a1_0)=true:=bne_iff_ne.mpr c3;obtain rfl:=Option.some.inj H;go_enter Try.func97,Try.ntmps97
  go_wp2_with(first|((with_reducible refine qam (N:=2) rfl ?_);refine zX (N:=2) (cs:=#[.int .i64 a0_0,.int .i64 a0_1]) (t:=49) ?_;intro gb998 hg w15 hbox hb;have BK998:=qaf.mk hbox;have GW998:=zH (w:=w) hg (za2 HB);have GE998:=GW998;replace HB:=qaf.mk (qad (za2 HB) hb);clear hb hbox hg)|((with_reducible refine qam (N:=3) rfl ?_);refine zX (N:=3) (cs:=#[.int .i64 a1_0,.int .i64 a1_1]) (t:=49) ?_;intro gb999 hg w16 hbox hb;have BK999:=qaf.mk hbox;have GW999:=zH (w:=w) hg (za3 HB GE998);have GE999:=GW999;replace HB:=qaf.mk (qad (za3 HB GE998) hb);have NB998_999:=zL BK998 hg;have NB999_998:=zG BK998 hg;replace BK998:=zY BK998 hb;clear hb hbox hg;have hnb17:=NB998_999.out;have hnc17:=NB999_998.out;obtain⟨hcz18_0,hcz18_1,hfz18_0,hfz18_1⟩:=zC2 BK998;obtain⟨hcz19_0,hcz19_1,hfz19_0,hfz19_1⟩:=zC2 BK999))
  go_ret;exact⟨za12,za4 HB GE998 GE999⟩
def laws_eqHoldS.l0:Nat→List (S49)→List (S49)→Int→Option (Bool)
 |0,_,_,_=>none
 |k+1,x0,x1,x5=>if x5<(x0.length:Int) then(if 0≤x5 then(if x5<(x1.length:Int) then((laws_eqHold.f ((rd_T49 x0 x5).f0) ((rd_T49 x0 x5).f1) ((rd_T49 x1 x5).f0) ((rd_T49 x1 x5).f1)).bind fun t1002=>(if t1002=true then(laws_eqHoldS.l0 k x0 x1 (wrap64 (x5+1))) else(some false))) else(none)) else(none)) else(some true)
def laws_eqHoldS.f (k:Nat) (l0:List (S49)) (l1:List (S49)):Option (Bool):=if(l0.length:Int)=(l1.length:Int) then(laws_eqHoldS.l0 k l0 l1 0) else(some false)
theorem laws_eqHoldS.mono_l:∀k,(∀y0 y1 y2,LeO (laws_eqHoldS.l0 k y0 y1 y2) (laws_eqHoldS.l0 (k+1) y0 y1 y2))
 |0=>fun _ _ _ r h=>by simp[laws_eqHoldS.l0] at h
 |k+1=>by
  have ih0:=laws_eqHoldS.mono_l k
  ·intro y0 y1 y2;unfold laws_eqHoldS.l0
   repeat' first|(with_reducible exact ih0 _ _ _)|(with_reducible exact LeO.refl _)|(with_reducible exact LeO.none _)|(with_reducible refine LeO.ite ?_ ?_)|(with_reducible refine LeO.bind ?_ (fun _=>?_))|exact ih0 _ _ _|exact LeO.none _|refine LeO.ite ?_ ?_|refine LeO.bind ?_ (fun _=>?_)
theorem laws_eqHoldS.mono:∀a0 a1 k,LeO (laws_eqHoldS.f k a0 a1) (laws_eqHoldS.f (k+1) a0 a1):=by
 intro a0 a1 k;have ih0:=laws_eqHoldS.mono_l k;unfold laws_eqHoldS.f
 repeat' first|(with_reducible exact ih0 _ _ _)|(with_reducible exact LeO.refl _)|(with_reducible exact LeO.none _)|(with_reducible refine LeO.ite ?_ ?_)|(with_reducible refine LeO.bind ?_ (fun _=>?_))|exact ih0 _ _ _|exact LeO.none _|refine LeO.ite ?_ ?_|refine LeO.bind ?_ (fun _=>?_)
def laws_eqHoldS.T6:Bool × List (List Nat × List Nat):=(true,[([],[]),([],[]),([0,1],[0,1]),([2],[2]),([],[]),([],[]),([4,5],[4,5]),([6],[6]),([3,7],[3,7]),([8],[8])])
def laws_eqHoldS.B6:List Nat:=[0,0,3,7,0,0,48,112,255,511]
theorem laws_eqHoldS.tab6:rtab .any (opsOf Try.f72 6)=laws_eqHoldS.T6:=by kernel_rfl
theorem laws_eqHoldS.bits6:waitsOk laws_eqHoldS.T6.2 laws_eqHoldS.B6=true:=by kernel_rfl
set_option maxHeartbeats 8000000 in
set_option maxRecDepth 100000 in
theorem laws_eqHoldS.calls (k:Nat) (A0:Option Addr) (c0:Nat) (l0:List (S49)) (A1:Option Addr) (c1:Nat) (l1:List (S49)) (r:Bool) (w:World) (hr0:Kd.C k49 w A0 l0.length l0) (hc0:l0.length≤c0) (hr1:Kd.C k49 w A1 l1.length l1) (hc1:l1.length≤c1) (h:laws_eqHoldS.f k l0 l1=some r) :
  Calls Try.prog 72 #[.slice A0 l0.length c0,.slice A1 l1.length c1] w fun e w'=>e=.returned (.bool r)∧Below w.heap.size w w':=by
 have hu49:=Try.underlying49;have HR0:=qaf.mk hr0;have HC0:=qaf.mk hc0;clear hr0 hc0;have HR1:=qaf.mk hr1;have HC1:=qaf.mk hc1;clear hr1 hc1;have HB:=qaf.mk (Below.refl w.heap.size w);have H:(if(l0.length:Int)=(l1.length:Int) then(laws_eqHoldS.l0 k l0 l1 0) else(some false))=some r:=h;clear h;by_cases c3:(l0.length:Int)=(l1.length:Int)
 ·rw[if_pos c3] at H;have c3b0:((l0.length:Int) == (l1.length:Int))=true:=beq_iff_eq.mpr c3;have c3b1:((l0.length:Int) != (l1.length:Int))=false:=bne_eq_false_iff_eq.mpr c3
  have c3b2:(l0.length == l1.length)=true:=by first|simpa using c3|(simp at c3 ⊢;omega)
  clear c3;have H':=qaf.mk H;clear H;go_enter Try.func72,Try.ntmps72;go_wp2
  go_loopg [5] k (fun kq v5 w'=>∃(x5_1:Int),v5=.int .i64 x5_1∧qaf (laws_eqHoldS.l0 kq l0 l1 x5_1=some r)∧qaf (kq≤k)∧qaf (Below w.heap.size w w'))
  case atStart=>exact⟨(0),(za38),H',⟨Nat.le_refl _⟩,⟨za2 HB⟩⟩
  case round=>
   clear H'
   try clear c1
   try clear p2
   try clear c3
   try clear c3b0
   try clear c3b1
   try clear c3b2
   obtain⟨x5_1,rfl,HA,HK1,HB⟩:=hrel
   cases gk with
   |zero=>exact absurd HA.out (by simp[laws_eqHoldS.l0])
   |succ k1=>
    have H:=HA.out;clear HA;simp only[laws_eqHoldS.l0] at H;by_cases c4:x5_1<(l0.length:Int)
    ·rw[if_pos c4] at H;have c4b0:decide (x5_1<(l0.length:Int))=true:=decide_eq_true c4;clear c4;by_cases c5:0≤x5_1
     ·rw[if_pos c5] at H;have c5b0:decide (0≤x5_1)=true:=decide_eq_true c5;clear c5;by_cases c6:x5_1<(l1.length:Int)
      ·rw[if_pos c6] at H;have c6b0:decide (x5_1<(l1.length:Int))=true:=decide_eq_true c6;clear c6;replace H:=Option.bind_eq_some_iff.mp H;obtain⟨t1002,A70,H⟩:=H;replace H:(if t1002=true then(laws_eqHoldS.l0 k1 l0 l1 (wrap64 (x5_1+1))) else(some false))=some r:=H;have A7:=qaf.mk A70;clear A70;by_cases c8:t1002=true
       ·subst c8
        have H1:(laws_eqHoldS.l0 k1 l0 l1 (wrap64 (x5_1+1)))=some r:=by rw[if_pos rfl] at H;exact H
        clear H;have H:=H1;clear H1;have H':=qaf.mk H;clear H
        try go_wp2
        replace HB:=qaf.mk (qas HB.out);have p1000:0≤(x5_1:Int):=of_decide_eq_true (za10);have q1000:x5_1<(l0.length:Int):=of_decide_eq_true (za10);obtain⟨ad1000,e1000,hx1000_0,hx1000_1⟩:=at_T49 HR0.out x5_1 p1000 q1000;have hw1000_1:=hx1000_1;have hw1000_0:=hx1000_0
        cases e1000
        replace hx1000_0:=(HB.out.cell (World.block_lt_of_cell? w _ hx1000_0)).trans hx1000_0;replace hx1000_1:=(HB.out.cell (World.block_lt_of_cell? w _ hx1000_1)).trans hx1000_1;replace p1000:=eq_true p1000;replace q1000:=eq_true q1000;have p1001:0≤(x5_1:Int):=of_decide_eq_true (za10);have q1001:x5_1<(l1.length:Int):=of_decide_eq_true (za10);obtain⟨ad1001,e1001,hx1001_0,hx1001_1⟩:=at_T49 HR1.out x5_1 p1001 q1001;have hw1001_1:=hx1001_1;have hw1001_0:=hx1001_0
        cases e1001
        replace hx1001_0:=(HB.out.cell (World.block_lt_of_cell? w _ hx1001_0)).trans hx1001_0;replace hx1001_1:=(HB.out.cell (World.block_lt_of_cell? w _ hx1001_1)).trans hx1001_1;replace p1001:=eq_true p1001;replace q1001:=eq_true q1001
        refine start_ (n:=10) (S:=fun w'=>w'.cell? (ad1000.add ((x5_1).toNat*2))=some (.int .i64 ((rd_T49 l0 x5_1).f0))∧w'.cell? ⟨(ad1000.add ((x5_1).toNat*2)).block,(ad1000.add ((x5_1).toNat*2)).off+1,none⟩=some (.int .i64 ((rd_T49 l0 x5_1).f1))∧w'.cell? (ad1001.add ((x5_1).toNat*2))=some (.int .i64 ((rd_T49 l1 x5_1).f0))∧w'.cell? ⟨(ad1001.add ((x5_1).toNat*2)).block,(ad1001.add ((x5_1).toNat*2)).off+1,none⟩=some (.int .i64 ((rd_T49 l1 x5_1).f1))) (ds:=[]) #[false,false,false,false,false,false,false,false,false,false] (by kernel_rfl) rfl rfl ⟨((HB.out.cell (World.block_lt_of_cell? w _ hw1000_0)).trans hw1000_0),((HB.out.cell (World.block_lt_of_cell? w _ hw1000_1)).trans hw1000_1),((HB.out.cell (World.block_lt_of_cell? w _ hw1001_0)).trans hw1001_0),((HB.out.cell (World.block_lt_of_cell? w _ hw1001_1)).trans hw1001_1)⟩ (fun hHeld=>?_);refine qbc laws_eqHoldS.tab6 laws_eqHoldS.bits6 (fun HT_ HW_=>?_)
        generalize wr.drew=w9 at HB hx1000_0 hx1000_1 hx1001_0 hx1001_1 hHeld ⊢;refine qao (i:=0) (N:=some 17) (v:=?_) (a':=?_) #[true,false,false,false,false,false,false,false,false,false] rfl rfl (qak HT_.out (by kernel_rfl)) (fun _ _ _ h=>h) (Or.inl ⟨by rfl,?_⟩) ?_ ?_;rotate_left
        ·intro w';go_simp
         with_reducible rfl
        rotate_left
        ·simp only[Act.put,List.setIfInBounds_toArray,List.set_cons_zero,List.set_cons_succ,qai,qaj];rfl
        refine qao (i:=1) (N:=some 18) (v:=?_) (a':=?_) #[true,true,false,false,false,false,false,false,false,false] rfl rfl (qak HT_.out (by kernel_rfl)) (fun _ _ _ h=>h) (Or.inl ⟨by rfl,?_⟩) ?_ ?_;rotate_left
        ·intro w';go_simp
         with_reducible rfl
        rotate_left
        ·simp only[Act.put,List.setIfInBounds_toArray,List.set_cons_zero,List.set_cons_succ,qai,qaj];rfl
        refine qao (i:=2) (N:=some 19) (v:=?_) (a':=?_) #[true,true,true,false,false,false,false,false,false,false] rfl rfl (qak HT_.out (by kernel_rfl)) (fun _ _ _ h=>h) (Or.inl ⟨by rfl,?_⟩) ?_ ?_;rotate_left
        ·intro w';go_simp
         with_reducible rfl
        rotate_left
        ·simp only[Act.put,List.setIfInBounds_toArray,List.set_cons_zero,List.set_cons_succ,qai,qaj];rfl
        refine qao (i:=4) (N:=some 21) (v:=?_) (a':=?_) #[true,true,true,false,true,false,false,false,false,false] rfl rfl (qak HT_.out (by kernel_rfl)) (fun _ _ _ h=>h) (Or.inl ⟨by rfl,?_⟩) ?_ ?_;rotate_left
        ·intro w';go_simp
         with_reducible rfl
        rotate_left
        ·simp only[Act.put,List.setIfInBounds_toArray,List.set_cons_zero,List.set_cons_succ,qai,qaj];rfl
        refine qao (i:=5) (N:=some 22) (v:=?_) (a':=?_) #[true,true,true,false,true,true,false,false,false,false] rfl rfl (qak HT_.out (by kernel_rfl)) (fun _ _ _ h=>h) (Or.inl ⟨by rfl,?_⟩) ?_ ?_;rotate_left
        ·intro w';go_simp
         with_reducible rfl
        rotate_left
        ·simp only[Act.put,List.setIfInBounds_toArray,List.set_cons_zero,List.set_cons_succ,qai,qaj];rfl
        refine qao (i:=6) (N:=some 23) (v:=?_) (a':=?_) #[true,true,true,false,true,true,true,false,false,false] rfl rfl (qak HT_.out (by kernel_rfl)) (fun _ _ _ h=>h) (Or.inl ⟨by rfl,?_⟩) ?_ ?_;rotate_left
        ·intro w';go_simp
         with_reducible rfl
        rotate_left
        ·simp only[Act.put,List.setIfInBounds_toArray,List.set_cons_zero,List.set_cons_succ,qai,qaj];rfl
        refine take_ (i:=3) (N:=some 20) (v:=?_) (a':=?_) #[true,true,true,true,true,true,true,false,false,false] rfl rfl (qav HT_.out HW_.out (by kernel_rfl)) (fun _ _ _ h=>h) (Or.inl ⟨by rfl,?_⟩) hHeld ?_ ?_;rotate_left
        ·rintro w' ⟨s0,s1,s2,s3⟩;go_simp
         with_reducible rfl
        rotate_left
        ·simp only[Act.put,List.setIfInBounds_toArray,List.set_cons_zero,List.set_cons_succ,qai,qaj];rfl
        refine take_ (i:=7) (N:=some 24) (v:=?_) (a':=?_) #[true,true,true,true,true,true,true,true,false,false] rfl rfl (qav HT_.out HW_.out (by kernel_rfl)) (fun _ _ _ h=>h) (Or.inl ⟨by rfl,?_⟩) hHeld ?_ ?_;rotate_left
        ·rintro w' ⟨s0,s1,s2,s3⟩;go_simp
         with_reducible rfl
        rotate_left
        ·simp only[Act.put,List.setIfInBounds_toArray,List.set_cons_zero,List.set_cons_succ,qai,qaj];rfl
        refine one_ (i:=8) (N:=some 25) #[true,true,true,true,true,true,true,true,true,false] rfl rfl (one_of HT_.out (by kernel_rfl)) (by decide) (fun K hK=>?_);refine goes_ Try.func97 (by kernel_rfl) rfl #[.agg #[.int .i64 ((rd_T49 l0 x5_1).f0),.int .i64 ((rd_T49 l0 x5_1).f1)],.agg #[.int .i64 ((rd_T49 l1 x5_1).f0),.int .i64 ((rd_T49 l1 x5_1).f1)]] (by rfl) rfl rfl (by(try simp only[List.map_toArray,List.map_cons,List.map_nil]);first|done|rfl|(simp only[List.length_drop,List.length_take];rfl)) ?_
        with_reducible refine(laws_eqHold.calls ((rd_T49 l0 x5_1).f0) ((rd_T49 l0 x5_1).f1) ((rd_T49 l1 x5_1).f0) ((rd_T49 l1 x5_1).f1) true _ A7.out).mono ?_
        rintro e w10 ⟨rfl,hb⟩;refine⟨_,rfl,?_⟩;replace HB:=qaf.mk (qad (za2 HB) hb);(try clear hb);(try clear hb2);(try clear hk);(try clear hi);refine hK.out _ _ ⟨((HB.out.cell (World.block_lt_of_cell? w _ hw1000_0)).trans hw1000_0),((HB.out.cell (World.block_lt_of_cell? w _ hw1000_1)).trans hw1000_1),((HB.out.cell (World.block_lt_of_cell? w _ hw1001_0)).trans hw1001_0),((HB.out.cell (World.block_lt_of_cell? w _ hw1001_1)).trans hw1001_1)⟩ (fun hHeld=>?_);clear hK K;refine qbb (a':=?_) ?_ ?_;rotate_left
        ·show Act.put _ (some 25) _=_;simp only[Act.put,List.setIfInBounds_toArray,List.set_cons_zero,List.set_cons_succ,qai,qaj];rfl
        refine qao (i:=9) (N:=some 26) (v:=?_) (a':=?_) #[true,true,true,true,true,true,true,true,true,true] rfl rfl (qak HT_.out (by kernel_rfl)) (fun _ _ _ h=>h) (Or.inl ⟨by rfl,?_⟩) ?_ ?_;rotate_left
        ·intro w';go_simp
         with_reducible rfl
        rotate_left
        ·simp only[Act.put,List.setIfInBounds_toArray,List.set_cons_zero,List.set_cons_succ,qai,qaj];rfl
        refine done_ (done_of HT_.out (by kernel_rfl)) ?_
        try go_wp2
        go_roundg k1
        case measure=>have:=HK1.out;omega
        case rel=>exact⟨(wrap64 (x5_1+1)),(za38),H',⟨by have:=HK1.out;omega⟩,⟨za2 HB⟩⟩
       ·replace c8:=Bool.eq_false_iff.mpr c8;subst c8
        have H1:(some false)=some r:=by rw[if_neg (show ¬(false=true) by decide)] at H;exact H
        clear H;have H:=H1;clear H1;obtain rfl:=Option.some.inj H
        try go_wp2
        replace HB:=qaf.mk (qas HB.out);have p1000:0≤(x5_1:Int):=of_decide_eq_true (za10);have q1000:x5_1<(l0.length:Int):=of_decide_eq_true (za10);obtain⟨ad1000,e1000,hx1000_0,hx1000_1⟩:=at_T49 HR0.out x5_1 p1000 q1000;have hw1000_1:=hx1000_1;have hw1000_0:=hx1000_0
        cases e1000
        replace hx1000_0:=(HB.out.cell (World.block_lt_of_cell? w _ hx1000_0)).trans hx1000_0;replace hx1000_1:=(HB.out.cell (World.block_lt_of_cell? w _ hx1000_1)).trans hx1000_1;replace p1000:=eq_true p1000;replace q1000:=eq_true q1000;have p1001:0≤(x5_1:Int):=of_decide_eq_true (za10);have q1001:x5_1<(l1.length:Int):=of_decide_eq_true (za10);obtain⟨ad1001,e1001,hx1001_0,hx1001_1⟩:=at_T49 HR1.out x5_1 p1001 q1001;have hw1001_1:=hx1001_1;have hw1001_0:=hx1001_0
        cases e1001
        replace hx1001_0:=(HB.out.cell (World.block_lt_of_cell? w _ hx1001_0)).trans hx1001_0;replace hx1001_1:=(HB.out.cell (World.block_lt_of_cell? w _ hx1001_1)).trans hx1001_1;replace p1001:=eq_true p1001;replace q1001:=eq_true q1001
        refine start_ (n:=10) (S:=fun w'=>w'.cell? (ad1000.add ((x5_1).toNat*2))=some (.int .i64 ((rd_T49 l0 x5_1).f0))∧w'.cell? ⟨(ad1000.add ((x5_1).toNat*2)).block,(ad1000.add ((x5_1).toNat*2)).off+1,none⟩=some (.int .i64 ((rd_T49 l0 x5_1).f1))∧w'.cell? (ad1001.add ((x5_1).toNat*2))=some (.int .i64 ((rd_T49 l1 x5_1).f0))∧w'.cell? ⟨(ad1001.add ((x5_1).toNat*2)).block,(ad1001.add ((x5_1).toNat*2)).off+1,none⟩=some (.int .i64 ((rd_T49 l1 x5_1).f1))) (ds:=[]) #[false,false,false,false,false,false,false,false,false,false] (by kernel_rfl) rfl rfl ⟨((HB.out.cell (World.block_lt_of_cell? w _ hw1000_0)).trans hw1000_0),((HB.out.cell (World.block_lt_of_cell? w _ hw1000_1)).trans hw1000_1),((HB.out.cell (World.block_lt_of_cell? w _ hw1001_0)).trans hw1001_0),((HB.out.cell (World.block_lt_of_cell? w _ hw1001_1)).trans hw1001_1)⟩ (fun hHeld=>?_);refine qbc laws_eqHoldS.tab6 laws_eqHoldS.bits6 (fun HT_ HW_=>?_)
        generalize wr.drew=w11 at HB hx1000_0 hx1000_1 hx1001_0 hx1001_1 hHeld ⊢;refine qao (i:=0) (N:=some 17) (v:=?_) (a':=?_) #[true,false,false,false,false,false,false,false,false,false] rfl rfl (qak HT_.out (by kernel_rfl)) (fun _ _ _ h=>h) (Or.inl ⟨by rfl,?_⟩) ?_ ?_;rotate_left
        ·intro w';go_simp
         with_reducible rfl
        rotate_left
        ·simp only[Act.put,List.setIfInBounds_toArray,List.set_cons_zero,List.set_cons_succ,qai,qaj];rfl
        refine qao (i:=1) (N:=some 18) (v:=?_) (a':=?_) #[true,true,false,false,false,false,false,false,false,false] rfl rfl (qak HT_.out (by kernel_rfl)) (fun _ _ _ h=>h) (Or.inl ⟨by rfl,?_⟩) ?_ ?_;rotate_left
        ·intro w';go_simp
         with_reducible rfl
        rotate_left
        ·simp only[Act.put,List.setIfInBounds_toArray,List.set_cons_zero,List.set_cons_succ,qai,qaj];rfl
        refine qao (i:=2) (N:=some 19) (v:=?_) (a':=?_) #[true,true,true,false,false,false,false,false,false,false] rfl rfl (qak HT_.out (by kernel_rfl)) (fun _ _ _ h=>h) (Or.inl ⟨by rfl,?_⟩) ?_ ?_;rotate_left
        ·intro w';go_simp
         with_reducible rfl
        rotate_left
        ·simp only[Act.put,List.setIfInBounds_toArray,List.set_cons_zero,List.set_cons_succ,qai,qaj];rfl
        refine qao (i:=4) (N:=some 21) (v:=?_) (a':=?_) #[true,true,true,false,true,false,false,false,false,false] rfl rfl (qak HT_.out (by kernel_rfl)) (fun _ _ _ h=>h) (Or.inl ⟨by rfl,?_⟩) ?_ ?_;rotate_left
        ·intro w';go_simp
         with_reducible rfl
        rotate_left
        ·simp only[Act.put,List.setIfInBounds_toArray,List.set_cons_zero,List.set_cons_succ,qai,qaj];rfl
        refine qao (i:=5) (N:=some 22) (v:=?_) (a':=?_) #[true,true,true,false,true,true,false,false,false,false] rfl rfl (qak HT_.out (by kernel_rfl)) (fun _ _ _ h=>h) (Or.inl ⟨by rfl,?_⟩) ?_ ?_;rotate_left
        ·intro w';go_simp
         with_reducible rfl
        rotate_left
        ·simp only[Act.put,List.setIfInBounds_toArray,List.set_cons_zero,List.set_cons_succ,qai,qaj];rfl
        refine qao (i:=6) (N:=some 23) (v:=?_) (a':=?_) #[true,true,true,false,true,true,true,false,false,false] rfl rfl (qak HT_.out (by kernel_rfl)) (fun _ _ _ h=>h) (Or.inl ⟨by rfl,?_⟩) ?_ ?_;rotate_left
        ·intro w';go_simp
         with_reducible rfl
        rotate_left
        ·simp only[Act.put,List.setIfInBounds_toArray,List.set_cons_zero,List.set_cons_succ,qai,qaj];rfl
        refine take_ (i:=3) (N:=some 20) (v:=?_) (a':=?_) #[true,true,true,true,true,true,true,false,false,false] rfl rfl (qav HT_.out HW_.out (by kernel_rfl)) (fun _ _ _ h=>h) (Or.inl ⟨by rfl,?_⟩) hHeld ?_ ?_;rotate_left
        ·rintro w' ⟨s0,s1,s2,s3⟩;go_simp
         with_reducible rfl
        rotate_left
        ·simp only[Act.put,List.setIfInBounds_toArray,List.set_cons_zero,List.set_cons_succ,qai,qaj];rfl
        refine take_ (i:=7) (N:=some 24) (v:=?_) (a':=?_) #[true,true,true,true,true,true,true,true,false,false] rfl rfl (qav HT_.out HW_.out (by kernel_rfl)) (fun _ _ _ h=>h) (Or.inl ⟨by rfl,?_⟩) hHeld ?_ ?_;rotate_left
        ·rintro w' ⟨s0,s1,s2,s3⟩;go_simp
         with_reducible rfl
        rotate_left
        ·simp only[Act.put,List.setIfInBounds_toArray,List.set_cons_zero,List.set_cons_succ,qai,qaj];rfl
        refine one_ (i:=8) (N:=some 25) #[true,true,true,true,true,true,true,true,true,false] rfl rfl (one_of HT_.out (by kernel_rfl)) (by decide) (fun K hK=>?_);refine goes_ Try.func97 (by kernel_rfl) rfl #[.agg #[.int .i64 ((rd_T49 l0 x5_1).f0),.int .i64 ((rd_T49 l0 x5_1).f1)],.agg #[.int .i64 ((rd_T49 l1 x5_1).f0),.int .i64 ((rd_T49 l1 x5_1).f1)]] (by rfl) rfl rfl (by(try simp only[List.map_toArray,List.map_cons,List.map_nil]);first|done|rfl|(simp only[List.length_drop,List.length_take];rfl)) ?_
        with_reducible refine(laws_eqHold.calls ((rd_T49 l0 x5_1).f0) ((rd_T49 l0 x5_1).f1) ((rd_T49 l1 x5_1).f0) ((rd_T49 l1 x5_1).f1) false _ A7.out).mono ?_
        rintro e w12 ⟨rfl,hb⟩;refine⟨_,rfl,?_⟩;replace HB:=qaf.mk (qad (za2 HB) hb);(try clear hb);(try clear hb2);(try clear hk);(try clear hi);refine hK.out _ _ ⟨((HB.out.cell (World.block_lt_of_cell? w _ hw1000_0)).trans hw1000_0),((HB.out.cell (World.block_lt_of_cell? w _ hw1000_1)).trans hw1000_1),((HB.out.cell (World.block_lt_of_cell? w _ hw1001_0)).trans hw1001_0),((HB.out.cell (World.block_lt_of_cell? w _ hw1001_1)).trans hw1001_1)⟩ (fun hHeld=>?_);clear hK K;refine qbb (a':=?_) ?_ ?_;rotate_left
        ·show Act.put _ (some 25) _=_;simp only[Act.put,List.setIfInBounds_toArray,List.set_cons_zero,List.set_cons_succ,qai,qaj];rfl
        refine qao (i:=9) (N:=some 26) (v:=?_) (a':=?_) #[true,true,true,true,true,true,true,true,true,true] rfl rfl (qak HT_.out (by kernel_rfl)) (fun _ _ _ h=>h) (Or.inl ⟨by rfl,?_⟩) ?_ ?_;rotate_left
        ·intro w';go_simp
         with_reducible rfl
        rotate_left
        ·simp only[Act.put,List.setIfInBounds_toArray,List.set_cons_zero,List.set_cons_succ,qai,qaj];rfl
        refine done_ (done_of HT_.out (by kernel_rfl)) ?_
        try go_wp2
        go_ret;exact⟨za12,za2 HB⟩
      ·rw[if_neg c6] at H;exact absurd H (by simp)
     ·rw[if_neg c5] at H;exact absurd H (by simp)
    ·rw[if_neg c4] at H;have c4b0:decide (x5_1<(l0.length:Int))=false:=decide_eq_false c4;clear c4;obtain rfl:=Option.some.inj H;go_wp2;go_ret;exact⟨za12,za2 HB⟩
 ·rw[if_neg c3] at H;have c3b0:((l0.length:Int) == (l1.length:Int))=false:=beq_eq_false_iff_ne.mpr c3;have c3b1:((l0.length:Int) != (l1.length:Int))=true:=bne_iff_ne.mpr c3
  have c3b2:(l0.length == l1.length)=false:=by first|simpa using c3|(simp at c3 ⊢;omega)
  obtain rfl:=Option.some.inj H;go_enter Try.func72,Try.ntmps72;go_wp2;go_ret;exact⟨za12,za2 HB⟩
end Go.Proofs.Ytmbdphefnalenaa.Print
