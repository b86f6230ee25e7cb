-- Written by squeeze.py: not trusted, Lean checks it.
import Derived.Test.YtbcepmkifomifaaDoorZK
namespace Go.Proofs.YtbcepmkifomifaaDoor.Print
open Go.RowKit Go.Proofs.YtbcepmkifomifaaDoorW.PrintWords Go.Proofs.YtbcepmkifomifaaDoorW.PrintLast Go.Proofs.YtbcepmkifomifaaDoorW.PrintMore
attribute [local go_sem] max2_int min2_int max_two min_two max_three min_three max_four min_four
set_option linter.unusedVariables false
set_option linter.unusedSimpArgs false
def laws_szIntS.f (l0:List Int) (a1:Int):Option (Int):=if(wrap64 (a1 - (l0.length:Int)))<0 then(some (-1)) else(some (wrap64 (a1 - (l0.length:Int))))
set_option maxHeartbeats 8000000 in
set_option maxRecDepth 100000 in
theorem laws_szIntS.calls (A0:Option Addr) (c0:Nat) (l0:List Int) (a1:Int) (r:Int) (w:World) (hr0:Kd.C (Kd.int .i64) w A0 l0.length l0) (hc0:l0.length≤c0) (h:laws_szIntS.f l0 a1=some r) :
  Calls Tryd.prog 61 #[.slice A0 l0.length c0,.int .i64 a1] w fun e w'=>e=.returned (.int .i64 r)∧Drawn0 w w':=by
 have HR0:=qaj.mk hr0;have HC0:=qaj.mk hc0;clear hr0 hc0;have H:(if(wrap64 (a1 - (l0.length:Int)))<0 then(some (-1)) else(some (wrap64 (a1 - (l0.length:Int)))))=some r:=h;clear h;by_cases c3:(wrap64 (a1 - (l0.length:Int)))<0
 ·rw[if_pos c3] at H;have c3b0:decide ((wrap64 (a1 - (l0.length:Int)))<0)=true:=decide_eq_true c3;clear c3;obtain rfl:=Option.some.inj H;go_enter Tryd.func61,Tryd.ntmps61;go_wp2;go_ret;exact⟨za23,za32⟩
 ·rw[if_neg c3] at H;have c3b0:decide ((wrap64 (a1 - (l0.length:Int)))<0)=false:=decide_eq_false c3;clear c3;obtain rfl:=Option.some.inj H;go_enter Tryd.func61,Tryd.ntmps61;go_wp2;go_ret;exact⟨za23,za32⟩
def laws_szRec.f (a0_0:Int) (a0_1:Int) (l0_2:List Int) (a1:Int):Option (Int):=(laws_szIntS.f l0_2 a1).bind fun t475=>(if t475<0 then(some (-1)) else(some t475))
set_option maxHeartbeats 8000000 in
set_option maxRecDepth 100000 in
theorem laws_szRec.calls (a0_0:Int) (a0_1:Int) (A0_2:Option Addr) (c0_2:Nat) (l0_2:List Int) (a1:Int) (r:Int) (w:World) (hr0_2:Kd.C (Kd.int .i64) w A0_2 l0_2.length l0_2) (hc0_2:l0_2.length≤c0_2) (h:laws_szRec.f a0_0 a0_1 l0_2 a1=some r) :
  Calls Tryd.prog 30 #[.agg #[.int .i64 a0_0,.int .i64 a0_1,.slice A0_2 l0_2.length c0_2],.int .i64 a1] w fun e w'=>e=.returned (.int .i64 r)∧Below w.heap.size w w':=by
 have hu44:=Tryd.underlying44;have HR0_2:=qaj.mk hr0_2;have HC0_2:=qaj.mk hc0_2;clear hr0_2 hc0_2;have HB:=qaj.mk (Below.refl w.heap.size w);have H:((laws_szIntS.f l0_2 a1).bind fun t475=>(if t475<0 then(some (-1)) else(some t475)))=some r:=h;clear h;replace H:=Option.bind_eq_some_iff.mp H;obtain⟨t475,A30,H⟩:=H;replace H:(if t475<0 then(some (-1)) else(some t475))=some r:=H;have A3:=qaj.mk A30;clear A30;by_cases c4:t475<0
 ·rw[if_pos c4] at H;have c4b0:decide (t475<0)=true:=decide_eq_true c4;clear c4;obtain rfl:=Option.some.inj H;go_enter Tryd.func30,Tryd.ntmps30
  go_wp2_with(first|((with_reducible refine qai (N:=2) rfl ?_);refine zX (N:=2) (cs:=#[.int .i64 a0_0,.int .i64 a0_1,.slice A0_2 l0_2.length c0_2]) (t:=44) ?_;intro gb474 hg w5 hbox hb;have BK474:=qaj.mk hbox;have GW474:=zH (w:=w) hg (za2 HB);have GE474:=GW474;replace HB:=qaj.mk (qaa (za2 HB) hb);clear hb hbox hg;obtain⟨hcz6_0,hcz6_1,hcz6_2,hfz6_0,hfz6_1,hfz6_2⟩:=zC3 BK474)|((with_reducible refine qae (f:=61) rfl ?_);refine zF (some 8) Tryd.func61 #[.slice A0_2 l0_2.length c0_2,.int .i64 a1] ?_;(with_reducible refine(laws_szIntS.calls _ _ l0_2 a1 t475 _ ?side1 ?side2 A3.out).mono ?_);(case side1=>exact zR HR0_2 HB);(case side2=>exact HC0_2.out);rintro e w' ⟨rfl,⟨nd,rfl⟩⟩;refine⟨_,rfl,?_⟩))
  go_ret;exact⟨za10,za0 HB GE474⟩
 ·rw[if_neg c4] at H;have c4b0:decide (t475<0)=false:=decide_eq_false c4;clear c4;obtain rfl:=Option.some.inj H;go_enter Tryd.func30,Tryd.ntmps30
  go_wp2_with(first|((with_reducible refine qai (N:=2) rfl ?_);refine zX (N:=2) (cs:=#[.int .i64 a0_0,.int .i64 a0_1,.slice A0_2 l0_2.length c0_2]) (t:=44) ?_;intro gb474 hg w7 hbox hb;have BK474:=qaj.mk hbox;have GW474:=zH (w:=w) hg (za2 HB);have GE474:=GW474;replace HB:=qaj.mk (qaa (za2 HB) hb);clear hb hbox hg;obtain⟨hcz8_0,hcz8_1,hcz8_2,hfz8_0,hfz8_1,hfz8_2⟩:=zC3 BK474)|((with_reducible refine qae (f:=61) rfl ?_);refine zF (some 8) Tryd.func61 #[.slice A0_2 l0_2.length c0_2,.int .i64 a1] ?_;(with_reducible refine(laws_szIntS.calls _ _ l0_2 a1 t475 _ ?side1 ?side2 A3.out).mono ?_);(case side1=>exact zR HR0_2 HB);(case side2=>exact HC0_2.out);rintro e w' ⟨rfl,⟨nd,rfl⟩⟩;refine⟨_,rfl,?_⟩))
  go_ret;exact⟨za10,za0 HB GE474⟩
def laws_toIntS.l0:Nat→List Int→List Int→Int→Option (List Int)
 |0,_,_,_=>none
 |k+1,x0,x3,x4=>if x4<(x0.length:Int) then(if 0≤x4 then(if x4<(x3.length:Int) then(laws_toIntS.l0 k x0 (x3.set (x4:Int).toNat (rd x0 x4)) (wrap64 (x4+1))) else(none)) else(none)) else(some x3)
def laws_toIntS.f (k:Nat) (l0:List Int):Option (List Int):=if 0≤(l0.length:Int) then(if((l0.length:Int):Int).toNat≤35184372088832 then(laws_toIntS.l0 k l0 (List.replicate ((l0.length:Int):Int).toNat 0) 0) else(none)) else(none)
theorem laws_toIntS.mono_l:∀k,(∀y0 y1 y2,LeO (laws_toIntS.l0 k y0 y1 y2) (laws_toIntS.l0 (k+1) y0 y1 y2))
 |0=>fun _ _ _ r h=>by simp[laws_toIntS.l0] at h
 |k+1=>by
  have ih0:=laws_toIntS.mono_l k
  ·intro y0 y1 y2;unfold laws_toIntS.l0
   repeat' first|(with_reducible exact ih0 _ _ _)|(with_reducible exact LeO.refl _)|(with_reducible exact LeO.none _)|(with_reducible refine LeO.ite ?_ ?_)|(with_reducible refine LeO.bind ?_ (fun _=>?_))|exact ih0 _ _ _|exact LeO.none _|refine LeO.ite ?_ ?_|refine LeO.bind ?_ (fun _=>?_)
theorem laws_toIntS.mono:∀a0 k,LeO (laws_toIntS.f k a0) (laws_toIntS.f (k+1) a0):=by
 intro a0 k;have ih0:=laws_toIntS.mono_l k;unfold laws_toIntS.f
 repeat' first|(with_reducible exact ih0 _ _ _)|(with_reducible exact LeO.refl _)|(with_reducible exact LeO.none _)|(with_reducible refine LeO.ite ?_ ?_)|(with_reducible refine LeO.bind ?_ (fun _=>?_))|exact ih0 _ _ _|exact LeO.none _|refine LeO.ite ?_ ?_|refine LeO.bind ?_ (fun _=>?_)
set_option maxHeartbeats 8000000 in
set_option maxRecDepth 100000 in
theorem laws_toIntS.calls (k:Nat) (A0:Option Addr) (c0:Nat) (l0:List Int) (r:List Int) (w:World) (hr0:Kd.C (Kd.int .i64) w A0 l0.length l0) (hc0:l0.length≤c0) (h:laws_toIntS.f k l0=some r) :
  Calls Tryd.prog 62 #[.slice A0 l0.length c0] w fun e w'=>∃v0_:Value,e=.returned (v0_)∧Kd.R (Kd.int .i64) 3 w' w.heap.size (fun _=>True) v0_ r∧Below w.heap.size w w':=by
 have HR0:=qaj.mk hr0;have HC0:=qaj.mk hc0;clear hr0 hc0;have HB:=qaj.mk (Below.refl w.heap.size w);have H:(if 0≤(l0.length:Int) then(if((l0.length:Int):Int).toNat≤35184372088832 then(laws_toIntS.l0 k l0 (List.replicate ((l0.length:Int):Int).toNat 0) 0) else(none)) else(none))=some r:=h;clear h;by_cases c2:0≤(l0.length:Int)
 ·rw[if_pos c2] at H;have c2b0:=eq_true c2;have c2b1:decide (0≤(l0.length:Int))=true:=decide_eq_true c2;clear c2;by_cases c3:((l0.length:Int):Int).toNat≤35184372088832
  ·rw[if_pos c3] at H;have c3b0:=eq_true c3;have c3b1:decide (((l0.length:Int):Int).toNat≤35184372088832)=true:=decide_eq_true c3;clear c3;obtain⟨y476,hy476⟩:∃y_:List Int,y_=(List.replicate ((l0.length:Int):Int).toNat 0):=⟨_,rfl⟩
   replace H:(laws_toIntS.l0 k l0 y476 0)=some r:=by first|(rw[hy476];with_reducible exact H)|(have H2_:=(Option.bind_some _ _).symm.trans H;rw[hy476];with_reducible exact H2_)|(have H2_:=(Option.bind_some _ _).symm.trans H;with_reducible exact H2_)|with_reducible exact H|(rw[hy476];exact H)|exact H
   have Ny476:=qaj.mk hy476;clear hy476;have H':=qaj.mk H;clear H;go_enter Tryd.func62,Tryd.ntmps62
   go_wp2_with(first|((with_reducible refine qai (N:=7) rfl ?_);refine Kd.R_make (Kd.int .i64) _ 3 rfl (N:=7) rfl 23 _ _ rfl (l0.length:Int) rfl rfl Tryd.underlying23 (.int .i64 0) 8 info3 rfl (by decide) (by omega) 0 (ok:=fun _=>True) (okp:=fun _=>True) rfl (fun _ hk=>hk) trivial (of_decide_eq_true (za13)) (Nat.le_trans (Nat.mul_le_mul_right _ (of_decide_eq_true (za13):(l0.length:Int).toNat≤35184372088832)) (by omega)) (Below.refl _ _) (Nat.le_refl _) ?_;intro v477 w4 ho5 hb hg_ hnew_;clear hg_ hnew_;(first|rw[←Ny476.out] at ho5|(simp only[Int.reduceToNat] at ho5;rw[←Ny476.out] at ho5));have HO478:=qaj.mk (Kd.R_lower ho5 (qam (za2 HB)));replace HB:=qaj.mk (qaa (za2 HB) hb);clear hb ho5))
   go_loopg [4] k (fun kq v4 w'=>∃(x3_1:List Int) (x4_1:Int),v4=.int .i64 x4_1∧qaj (laws_toIntS.l0 kq l0 x3_1 x4_1=some r)∧qaj (kq≤k)∧qaj (Kd.R (Kd.int .i64) 3 w' w.heap.size (fun _=>True) v477 x3_1)∧qaj (Below w.heap.size w w'))
   case atStart=>exact⟨(y476),(0),(za23),H',⟨Nat.le_refl _⟩,⟨za3 HO478⟩,⟨za2 HB⟩⟩
   case round=>
    clear H'
    try clear c2
    try clear c2b0
    try clear c2b1
    try clear p2
    try clear c3
    try clear c3b0
    try clear c3b1
    obtain⟨x3_1,x4_1,rfl,HA,HK1,HO_3,HB⟩:=hrel
    cases gk with
    |zero=>exact absurd HA.out (by simp[laws_toIntS.l0])
    |succ k1=>
     have H:=HA.out;clear HA;simp only[laws_toIntS.l0] at H;by_cases c6:x4_1<(l0.length:Int)
     ·rw[if_pos c6] at H;have c6b0:decide (x4_1<(l0.length:Int))=true:=decide_eq_true c6;clear c6;by_cases c7:0≤x4_1
      ·rw[if_pos c7] at H;have c7b0:decide (0≤x4_1)=true:=decide_eq_true c7;clear c7;by_cases c8:x4_1<(x3_1.length:Int)
       ·rw[if_pos c8] at H;have c8b0:decide (x4_1<(x3_1.length:Int))=true:=decide_eq_true c8;clear c8;obtain⟨y480,hy480⟩:∃y_:List Int,y_=(x3_1.set (x4_1:Int).toNat (rd l0 x4_1)):=⟨_,rfl⟩
        replace H:(laws_toIntS.l0 k1 l0 y480 (wrap64 (x4_1+1)))=some r:=by first|(rw[hy480];with_reducible exact H)|(have H2_:=(Option.bind_some _ _).symm.trans H;rw[hy480];with_reducible exact H2_)|(have H2_:=(Option.bind_some _ _).symm.trans H;with_reducible exact H2_)|with_reducible exact H|(rw[hy480];exact H)|exact H
        have Ny480:=qaj.mk hy480;clear hy480;have H':=qaj.mk H;clear H;have p479:0≤(x4_1:Int):=of_decide_eq_true (za13);have q479:x4_1<(l0.length:Int):=of_decide_eq_true (za13);obtain⟨ad479,e479,hx479_0⟩:=Kd.at_int HR0.out x4_1 p479 q479
        cases e479
        replace hx479_0:=(HB.out.cell (World.block_lt_of_cell? w _ hx479_0)).trans hx479_0;replace p479:=eq_true p479;replace q479:=eq_true q479;have p9:0≤(x4_1:Int):=of_decide_eq_true (za13);have q9:(x4_1:Int)<((x3_1.length:Int):Int):=of_decide_eq_true (za13);obtain⟨go9,co9,eo9,gb9,gl9,cl9,HG9⟩:=Kd.R_form HO_3.out (by omega);(first|cases eo9|(injection eo9 with ea_ en_ ec_;(first|subst ea_|(injection ea_ with ea_;subst ea_));subst ec_;clear en_));have GB9:=qaj.mk gb9;have GG9:=qaj.mk HG9;clear gb9 gl9 HG9;obtain⟨hx9_0,hf9_0⟩:=Kd.R_celln 0 HO_3.out (x4_1:Int) p9 q9;replace p9:=eq_true p9;replace q9:=eq_true q9;have HP10:=Kd.R_putg HO_3.out (x4_1:Int) (rd l0 x4_1)
        go_wp2_with(first|((with_reducible refine gate_store (t:=3) (p:=20) rfl ?_);refine store_event (t:=3) (p:=20) (v:=?vo_w11) (w1:=(wr.setCell ⟨go9,(x4_1:Int).toNat,none⟩ (.int .i64 (rd l0 x4_1)))) ?hg ?ho ?hn ?hr ?_;(case ho=>rfl);(case hg=>rfl);(case hn=>rfl);(case hr=>first|(go_simp;done)|(go_simp;rfl));intro w11 hw;have hg:wr.grownBy w11 (some go9):=(by rw[hw];exact HP10.2);have hp_:Kd.R (Kd.int .i64) 3 w11 w.heap.size (fun _=>True) (.slice (some ⟨go9,0,none⟩) x3_1.length co9) y480:=(by rw[hw,Ny480.out];exact HP10.1);clear HP10;replace HO_3:=qaj.mk hp_;replace HB:=qaj.mk ((by rw[hw];exact below_set (HB.out) GB9.out:Below w.heap.size w w11));clear hg hw hp_))
        go_roundg k1
        case measure=>have:=HK1.out;omega
        case rel=>exact⟨(y480),(wrap64 (x4_1+1)),(za23),H',⟨by have:=HK1.out;omega⟩,⟨za3 HO_3⟩,⟨za2 HB⟩⟩
       ·rw[if_neg c8] at H;exact absurd H (by simp)
      ·rw[if_neg c7] at H;exact absurd H (by simp)
     ·rw[if_neg c6] at H;have c6b0:decide (x4_1<(l0.length:Int))=false:=decide_eq_false c6;clear c6;obtain rfl:=Option.some.inj H;go_wp2;go_ret;exact⟨_,za10,za3 HO_3,za2 HB⟩
  ·rw[if_neg c3] at H;exact absurd H (by simp)
 ·rw[if_neg c2] at H;exact absurd H (by simp)
def laws_toRec.f (k:Nat) (a0_0:Int) (a0_1:Int) (l0_2:List Int):Option (Int × Int × List Int):=(laws_toIntS.f k l0_2).bind fun t484=>(some (a0_0,a0_1,t484))
theorem laws_toRec.mono:∀a0 a1 a2 k,LeO (laws_toRec.f k a0 a1 a2) (laws_toRec.f (k+1) a0 a1 a2):=by
 intro a0 a1 a2 k;unfold laws_toRec.f
 repeat' first|(with_reducible exact laws_toIntS.mono _ _)|(with_reducible exact LeO.refl _)|(with_reducible exact LeO.none _)|(with_reducible refine LeO.ite ?_ ?_)|(with_reducible refine LeO.bind ?_ (fun _=>?_))|exact laws_toIntS.mono _ _|exact LeO.none _|refine LeO.ite ?_ ?_|refine LeO.bind ?_ (fun _=>?_)
set_option maxHeartbeats 8000000 in
set_option maxRecDepth 100000 in
theorem laws_toRec.calls (k:Nat) (a0_0:Int) (a0_1:Int) (A0_2:Option Addr) (c0_2:Nat) (l0_2:List Int) (r1:Int) (r2:Int) (r3:List Int) (w:World) (hr0_2:Kd.C (Kd.int .i64) w A0_2 l0_2.length l0_2) (hc0_2:l0_2.length≤c0_2) (h:laws_toRec.f k a0_0 a0_1 l0_2=some (r1,r2,r3)) :
  Calls Tryd.prog 31 #[.agg #[.int .i64 a0_0,.int .i64 a0_1,.slice A0_2 l0_2.length c0_2]] w fun e w'=>∃v2_:Value,e=.returned (.agg #[.int .i64 r1,.int .i64 r2,v2_])∧Kd.R (Kd.int .i64) 3 w' w.heap.size (fun _=>True) v2_ r3∧Below w.heap.size w w':=by
 have hu44:=Tryd.underlying44;have hu25:=Tryd.underlying25;have HR0_2:=qaj.mk hr0_2;have HC0_2:=qaj.mk hc0_2;clear hr0_2 hc0_2;have HB:=qaj.mk (Below.refl w.heap.size w);have H:((laws_toIntS.f k l0_2).bind fun t484=>(some (a0_0,a0_1,t484)))=some (r1,r2,r3):=h;clear h;replace H:=Option.bind_eq_some_iff.mp H;obtain⟨t484,A20,H⟩:=H;replace H:(some (a0_0,a0_1,t484))=some (r1,r2,r3):=H;have A2:=qaj.mk A20;clear A20;simp only[Option.some.injEq,Prod.mk.injEq] at H;obtain⟨rfl,rfl,rfl⟩:=H;go_enter Tryd.func31,Tryd.ntmps31
 go_wp2_with(first|((with_reducible refine qai (N:=1) rfl ?_);refine zX (N:=1) (cs:=#[.int .i64 a0_0,.int .i64 a0_1,.slice A0_2 l0_2.length c0_2]) (t:=44) ?_;intro gb481 hg w3 hbox hb;have BK481:=qaj.mk hbox;have GW481:=zH (w:=w) hg (za2 HB);have GE481:=GW481;replace HB:=qaj.mk (qaa (za2 HB) hb);clear hb hbox hg)|((with_reducible refine qai (N:=2) rfl ?_);refine zX (N:=2) (cs:=#[.int .i64 0,.int .i64 0,.slice none 0 0]) (t:=25) ?_;intro gb482 hg w4 hbox hb;have BK482:=qaj.mk hbox;have GW482:=zH (w:=w) hg (za0 HB GE481);have GE482:=GW482;replace HB:=qaj.mk (qaa (za0 HB GE481) hb);have NB481_482:=zL BK481 hg;have NB482_481:=zG BK481 hg;replace BK481:=zY BK481 hb;clear hb hbox hg)|((with_reducible refine qai (N:=3) rfl ?_);refine zX (N:=3) (cs:=#[.int .i64 0,.int .i64 0,.slice none 0 0]) (t:=25) ?_;intro gb483 hg w5 hbox hb;have BK483:=qaj.mk hbox;have GW483:=zH (w:=w) hg (za1 HB GE481 GE482);have GE483:=GW483;replace HB:=qaj.mk (qaa (za1 HB GE481 GE482) hb);have NB481_483:=zL BK481 hg;have NB483_481:=zG BK481 hg;replace BK481:=zY BK481 hb;have NB482_483:=zL BK482 hg;have NB483_482:=zG BK482 hg;replace BK482:=zY BK482 hb;clear hb hbox hg;have hnb6:=NB481_482.out;have hnc6:=NB482_481.out;have hnb7:=NB481_483.out;have hnc7:=NB483_481.out;obtain⟨hcz8_0,hcz8_1,hcz8_2,hfz8_0,hfz8_1,hfz8_2⟩:=zC3 BK481;have hnb9:=NB483_482.out;have hnc9:=NB482_483.out;obtain⟨hcz10_0,hcz10_1,hcz10_2,hfz10_0,hfz10_1,hfz10_2⟩:=zC3 BK483)|((with_reducible refine qae (f:=62) rfl ?_);refine zF (some 12) Tryd.func62 #[.slice A0_2 l0_2.length c0_2] ?_;(with_reducible refine(laws_toIntS.calls k _ _ l0_2 t484 _ ?side1 ?side2 A2.out).mono ?_);(case side1=>exact Kd.C_below HR0_2.out (za11 HB GE481 GE482 GE483));(case side2=>exact HC0_2.out);rintro e w11 ⟨v485,rfl,ho0,hb⟩;refine⟨_,rfl,?_⟩;have HO486:=qaj.mk (Kd.R_lower ho0 (qam (za11 HB GE481 GE482 GE483)));replace BK481:=qaj.mk (qah (g:=gb481) (o:=.cells #[.int .i64 a0_0,.int .i64 a0_1,.slice A0_2 l0_2.length c0_2] 44 (0,0)) (za37 NB481_483 BK481) hb);replace BK482:=qaj.mk (qah (g:=gb482) (o:=.cells #[.int .i64 0,.int .i64 0,.slice none 0 0] 25 (0,0)) (za37 NB482_483 BK482) hb);replace BK483:=qaj.mk (qah (g:=gb483) (o:=.cells #[.int .i64 a0_0,.int .i64 a0_1,.slice none 0 0] 25 (0,0)) (by(with_reducible repeat(first|refine qac ?_ _|refine qad ?_|refine qab ?_ _));refine qaf (cs:=#[.int .i64 a0_0,.int .i64 0,.slice none 0 0]) ?_ 1 _ rfl;(with_reducible repeat(first|refine qac ?_ _|refine qad ?_|refine qab ?_ _));refine qaf (cs:=#[.int .i64 0,.int .i64 0,.slice none 0 0]) ?_ 0 _ rfl;(with_reducible repeat(first|refine qac ?_ _|refine qad ?_|refine qab ?_ _));exact BK483.out) hb);replace HB:=qaj.mk (qaa (za11 HB GE481 GE482 GE483) hb);(try clear hb);(try clear ho0);obtain⟨Ao12,co12,eo12⟩:=Kd.R_slice HO486.out;subst eo12;obtain⟨hcz13_0,hcz13_1,hcz13_2,hfz13_0,hfz13_1,hfz13_2⟩:=zC3 BK483;obtain⟨hcz14_0,hcz14_1,hcz14_2,hfz14_0,hfz14_1,hfz14_2⟩:=zC3 BK482))
 refine bodyPost_ret (results_cell_row rfl _ _ gb482 25 #[.int .i64 a0_0,.int .i64 a0_1,.slice Ao12 t484.length co12] (0,0) _ rfl (by(with_reducible repeat(first|refine qac ?_ _|refine qad ?_|refine qab ?_ _));refine qaf (cs:=#[.int .i64 a0_0,.int .i64 a0_1,.slice none 0 0]) ?_ 2 _ rfl;(with_reducible repeat(first|refine qac ?_ _|refine qad ?_|refine qab ?_ _));refine qaf (cs:=#[.int .i64 a0_0,.int .i64 0,.slice none 0 0]) ?_ 1 _ rfl;(with_reducible repeat(first|refine qac ?_ _|refine qad ?_|refine qab ?_ _));refine qaf (cs:=#[.int .i64 0,.int .i64 0,.slice none 0 0]) ?_ 0 _ rfl;(with_reducible repeat(first|refine qac ?_ _|refine qad ?_|refine qab ?_ _));refine blk_far ?_ NB482_483.out _;(with_reducible repeat(first|refine qac ?_ _|refine qad ?_|refine qab ?_ _));exact BK482.out) Tryd.underlying25 rfl (by kernel_rfl)) rfl ?_
 exact⟨_,za10,by(with_reducible repeat(first|apply Kd.R_alloc|apply Kd.R_drewN|apply Kd.R_drew));exact Kd.R_mono (Kd.R_far (p:=⟨gb482,2,none⟩) (Kd.R_far (p:=⟨gb482,1,none⟩) (Kd.R_far (p:=⟨gb482,0,none⟩) (Kd.R_far (p:=⟨gb483,2,none⟩) (Kd.R_types (Kd.R_types HO486.out BK483.out (by decide)) BK482.out (by decide)) (fun _ hk=>hk.1.2) (.slice Ao12 t484.length co12)) (fun _ hk=>hk.2) (.int .i64 a0_0)) (fun _ hk=>hk.2) (.int .i64 a0_1)) (fun _ hk=>hk.2) (.slice Ao12 t484.length co12)) (fun _ hk=>trivial),za11 HB GE481 GE482 GE483⟩
end Go.Proofs.YtbcepmkifomifaaDoor.Print
