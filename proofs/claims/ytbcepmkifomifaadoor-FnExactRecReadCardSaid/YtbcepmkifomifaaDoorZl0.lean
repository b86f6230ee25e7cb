-- Written by squeeze.py: not trusted, Lean checks it.
import Derived.Test.YtbcepmkifomifaaDoorZK
namespace Go.Proofs.YtbcepmkifomifaaDoor.Print
open Go.RowKit Go.Proofs.YtbcepmkifomifaaDoorW.PrintWords Go.Proofs.YtbcepmkifomifaaDoorW.PrintLast Go.Proofs.YtbcepmkifomifaaDoorW.PrintMore
attribute [local go_sem] max2_int min2_int max_two min_two max_three min_three max_four min_four
set_option linter.unusedVariables false
set_option linter.unusedSimpArgs false
def laws_eqIntS.l0:Nat→List Int→List Int→Int→Option (Bool)
 |0,_,_,_=>none
 |k+1,x0,x1,x5=>if x5<(x0.length:Int) then(if 0≤x5 then(if x5<(x1.length:Int) then(if(rd x0 x5)=(rd x1 x5) then(laws_eqIntS.l0 k x0 x1 (wrap64 (x5+1))) else(some false)) else(none)) else(none)) else(some true)
def laws_eqIntS.f (k:Nat) (l0:List Int) (l1:List Int):Option (Bool):=if(l0.length:Int)=(l1.length:Int) then(laws_eqIntS.l0 k l0 l1 0) else(some false)
theorem laws_eqIntS.mono_l:∀k,(∀y0 y1 y2,LeO (laws_eqIntS.l0 k y0 y1 y2) (laws_eqIntS.l0 (k+1) y0 y1 y2))
 |0=>fun _ _ _ r h=>by simp[laws_eqIntS.l0] at h
 |k+1=>by
  have ih0:=laws_eqIntS.mono_l k
  ·intro y0 y1 y2;unfold laws_eqIntS.l0
   repeat' first|(with_reducible exact ih0 _ _ _)|(with_reducible exact LeO.refl _)|(with_reducible exact LeO.none _)|(with_reducible refine LeO.ite ?_ ?_)|(with_reducible refine LeO.bind ?_ (fun _=>?_))|exact ih0 _ _ _|exact LeO.none _|refine LeO.ite ?_ ?_|refine LeO.bind ?_ (fun _=>?_)
theorem laws_eqIntS.mono:∀a0 a1 k,LeO (laws_eqIntS.f k a0 a1) (laws_eqIntS.f (k+1) a0 a1):=by
 intro a0 a1 k;have ih0:=laws_eqIntS.mono_l k;unfold laws_eqIntS.f
 repeat' first|(with_reducible exact ih0 _ _ _)|(with_reducible exact LeO.refl _)|(with_reducible exact LeO.none _)|(with_reducible refine LeO.ite ?_ ?_)|(with_reducible refine LeO.bind ?_ (fun _=>?_))|exact ih0 _ _ _|exact LeO.none _|refine LeO.ite ?_ ?_|refine LeO.bind ?_ (fun _=>?_)
set_option maxHeartbeats 8000000 in
set_option maxRecDepth 100000 in
theorem laws_eqIntS.calls (k:Nat) (A0:Option Addr) (c0:Nat) (l0:List Int) (A1:Option Addr) (c1:Nat) (l1:List Int) (r:Bool) (w:World) (hr0:Kd.C (Kd.int .i64) w A0 l0.length l0) (hc0:l0.length≤c0) (hr1:Kd.C (Kd.int .i64) w A1 l1.length l1) (hc1:l1.length≤c1) (h:laws_eqIntS.f k l0 l1=some r) :
  Calls Tryd.prog 49 #[.slice A0 l0.length c0,.slice A1 l1.length c1] w fun e w'=>e=.returned (.bool r)∧Drawn0 w w':=by
 have HR0:=qaj.mk hr0;have HC0:=qaj.mk hc0;clear hr0 hc0;have HR1:=qaj.mk hr1;have HC1:=qaj.mk hc1;clear hr1 hc1;have H:(if(l0.length:Int)=(l1.length:Int) then(laws_eqIntS.l0 k l0 l1 0) else(some false))=some r:=h;clear h;by_cases c3:(l0.length:Int)=(l1.length:Int)
 ·rw[if_pos c3] at H;have c3b0:((l0.length:Int) == (l1.length:Int))=true:=beq_iff_eq.mpr c3;have c3b1:((l0.length:Int) != (l1.length:Int))=false:=bne_eq_false_iff_eq.mpr c3
  have c3b2:(l0.length == l1.length)=true:=by first|simpa using c3|(simp at c3 ⊢;omega)
  clear c3;have H':=qaj.mk H;clear H;go_enter Tryd.func49,Tryd.ntmps49;go_wp2
  repeat(go_quiet(fail);try go_wp2)
  go_loopg [5] k (fun kq v5 w'=>∃(x5_1:Int),v5=.int .i64 x5_1∧qaj (laws_eqIntS.l0 kq l0 l1 x5_1=some r)∧qaj (kq≤k)∧Drawn0 w w')
  case atStart=>exact⟨(0),(za23),H',⟨Nat.le_refl _⟩,za32⟩
  case round=>
   clear H'
   try clear c1
   try clear p2
   try clear c3
   try clear c3b0
   try clear c3b1
   try clear c3b2
   obtain⟨x5_1,rfl,HA,HK1,⟨m1,rfl⟩⟩:=hrel
   cases gk with
   |zero=>exact absurd HA.out (by simp[laws_eqIntS.l0])
   |succ k1=>
    have H:=HA.out;clear HA;simp only[laws_eqIntS.l0] at H;by_cases c4:x5_1<(l0.length:Int)
    ·rw[if_pos c4] at H;have c4b0:decide (x5_1<(l0.length:Int))=true:=decide_eq_true c4;clear c4;by_cases c5:0≤x5_1
     ·rw[if_pos c5] at H;have c5b0:decide (0≤x5_1)=true:=decide_eq_true c5;clear c5;by_cases c6:x5_1<(l1.length:Int)
      ·rw[if_pos c6] at H;have c6b0:decide (x5_1<(l1.length:Int))=true:=decide_eq_true c6;clear c6;by_cases c7:(rd l0 x5_1)=(rd l1 x5_1)
       ·rw[if_pos c7] at H;have c7b0:((rd l0 x5_1) == (rd l1 x5_1))=true:=beq_iff_eq.mpr c7;have c7b1:((rd l0 x5_1) != (rd l1 x5_1))=false:=bne_eq_false_iff_eq.mpr c7;clear c7;have H':=qaj.mk H;clear H;have p306:0≤(x5_1:Int):=of_decide_eq_true (za13);have q306:x5_1<(l0.length:Int):=of_decide_eq_true (za13);obtain⟨ad306,e306,hx306_0⟩:=Kd.at_int HR0.out x5_1 p306 q306
        cases e306
        replace p306:=eq_true p306;replace q306:=eq_true q306;have p307:0≤(x5_1:Int):=of_decide_eq_true (za13);have q307:x5_1<(l1.length:Int):=of_decide_eq_true (za13);obtain⟨ad307,e307,hx307_0⟩:=Kd.at_int HR1.out x5_1 p307 q307
        cases e307
        replace p307:=eq_true p307;replace q307:=eq_true q307;go_wp2
        repeat(go_quiet(fail);try go_wp2)
        go_roundg k1
        case measure=>have:=HK1.out;omega
        case rel=>exact⟨(wrap64 (x5_1+1)),(za23),H',⟨by have:=HK1.out;omega⟩,za32⟩
       ·rw[if_neg c7] at H;have c7b0:((rd l0 x5_1) == (rd l1 x5_1))=false:=beq_eq_false_iff_ne.mpr c7;have c7b1:((rd l0 x5_1) != (rd l1 x5_1))=true:=bne_iff_ne.mpr c7;obtain rfl:=Option.some.inj H;have p306:0≤(x5_1:Int):=of_decide_eq_true (za13);have q306:x5_1<(l0.length:Int):=of_decide_eq_true (za13);obtain⟨ad306,e306,hx306_0⟩:=Kd.at_int HR0.out x5_1 p306 q306
        cases e306
        replace p306:=eq_true p306;replace q306:=eq_true q306;have p307:0≤(x5_1:Int):=of_decide_eq_true (za13);have q307:x5_1<(l1.length:Int):=of_decide_eq_true (za13);obtain⟨ad307,e307,hx307_0⟩:=Kd.at_int HR1.out x5_1 p307 q307
        cases e307
        replace p307:=eq_true p307;replace q307:=eq_true q307;go_wp2
        repeat(go_quiet(fail);try go_wp2)
        go_ret;exact⟨za23,za32⟩
      ·rw[if_neg c6] at H;exact absurd H (by simp)
     ·rw[if_neg c5] at H;exact absurd H (by simp)
    ·rw[if_neg c4] at H;have c4b0:decide (x5_1<(l0.length:Int))=false:=decide_eq_false c4;clear c4;obtain rfl:=Option.some.inj H;go_wp2
     repeat(go_quiet(fail);try go_wp2)
     go_ret;exact⟨za23,za32⟩
 ·rw[if_neg c3] at H;have c3b0:((l0.length:Int) == (l1.length:Int))=false:=beq_eq_false_iff_ne.mpr c3;have c3b1:((l0.length:Int) != (l1.length:Int))=true:=bne_iff_ne.mpr c3
  have c3b2:(l0.length == l1.length)=false:=by first|simpa using c3|(simp at c3 ⊢;omega)
  obtain rfl:=Option.some.inj H;go_enter Tryd.func49,Tryd.ntmps49;go_wp2
  repeat(go_quiet(fail);try go_wp2)
  go_ret;exact⟨za23,za32⟩
def laws_eqRec.f (k:Nat) (a0_0:Int) (a0_1:Int) (l0_2:List Int) (a1_0:Int) (a1_1:Int) (l1_2:List Int):Option (Bool):=if a0_0=a1_0 then(if a0_1=a1_1 then((laws_eqIntS.f k l0_2 l1_2).bind fun t310=>(if t310=true then(some true) else(some false))) else(some false)) else(some false)
theorem laws_eqRec.mono:∀a0 a1 a2 a3 a4 a5 k,LeO (laws_eqRec.f k a0 a1 a2 a3 a4 a5) (laws_eqRec.f (k+1) a0 a1 a2 a3 a4 a5):=by
 intro a0 a1 a2 a3 a4 a5 k;unfold laws_eqRec.f
 repeat' first|(with_reducible exact laws_eqIntS.mono _ _ _)|(with_reducible exact LeO.refl _)|(with_reducible exact LeO.none _)|(with_reducible refine LeO.ite ?_ ?_)|(with_reducible refine LeO.bind ?_ (fun _=>?_))|exact laws_eqIntS.mono _ _ _|exact LeO.none _|refine LeO.ite ?_ ?_|refine LeO.bind ?_ (fun _=>?_)
set_option maxHeartbeats 8000000 in
set_option maxRecDepth 100000 in
theorem laws_eqRec.calls (k:Nat) (a0_0:Int) (a0_1:Int) (A0_2:Option Addr) (c0_2:Nat) (l0_2:List Int) (a1_0:Int) (a1_1:Int) (A1_2:Option Addr) (c1_2:Nat) (l1_2:List Int) (r:Bool) (w:World) (hr0_2:Kd.C (Kd.int .i64) w A0_2 l0_2.length l0_2) (hc0_2:l0_2.length≤c0_2) (hr1_2:Kd.C (Kd.int .i64) w A1_2 l1_2.length l1_2) (hc1_2:l1_2.length≤c1_2) (h:laws_eqRec.f k a0_0 a0_1 l0_2 a1_0 a1_1 l1_2=some r) :
  Calls Tryd.prog 21 #[.agg #[.int .i64 a0_0,.int .i64 a0_1,.slice A0_2 l0_2.length c0_2],.agg #[.int .i64 a1_0,.int .i64 a1_1,.slice A1_2 l1_2.length c1_2]] w fun e w'=>e=.returned (.bool r)∧Below w.heap.size w w':=by
 have hu25:=Tryd.underlying25;have HR0_2:=qaj.mk hr0_2;have HC0_2:=qaj.mk hc0_2;clear hr0_2 hc0_2;have HR1_2:=qaj.mk hr1_2;have HC1_2:=qaj.mk hc1_2;clear hr1_2 hc1_2;have HB:=qaj.mk (Below.refl w.heap.size w);have H:(if a0_0=a1_0 then(if a0_1=a1_1 then((laws_eqIntS.f k l0_2 l1_2).bind fun t310=>(if t310=true then(some true) else(some false))) else(some false)) else(some false))=some r:=h;clear h;by_cases c3:a0_0=a1_0
 ·rw[if_pos c3] at H;have c3b0:(a0_0 == a1_0)=true:=beq_iff_eq.mpr c3;have c3b1:(a0_0 != a1_0)=false:=bne_eq_false_iff_eq.mpr c3;clear c3;by_cases c4:a0_1=a1_1
  ·rw[if_pos c4] at H;have c4b0:(a0_1 == a1_1)=true:=beq_iff_eq.mpr c4;have c4b1:(a0_1 != a1_1)=false:=bne_eq_false_iff_eq.mpr c4;clear c4;replace H:=Option.bind_eq_some_iff.mp H;obtain⟨t310,A50,H⟩:=H;replace H:(if t310=true then(some true) else(some false))=some r:=H;have A5:=qaj.mk A50;clear A50;by_cases c6:t310=true
   ·subst c6
    have H1:(some true)=some r:=by rw[if_pos rfl] at H;exact H
    clear H;have H:=H1;clear H1;obtain rfl:=Option.some.inj H;go_enter Tryd.func21,Tryd.ntmps21
    go_wp2_with(first|((with_reducible refine qai (N:=2) rfl ?_);refine zX (N:=2) (cs:=#[.int .i64 a0_0,.int .i64 a0_1,.slice A0_2 l0_2.length c0_2]) (t:=25) ?_;intro gb308 hg w7 hbox hb;have BK308:=qaj.mk hbox;have GW308:=zH (w:=w) hg (za2 HB);have GE308:=GW308;replace HB:=qaj.mk (qaa (za2 HB) hb);clear hb hbox hg)|((with_reducible refine qai (N:=3) rfl ?_);refine zX (N:=3) (cs:=#[.int .i64 a1_0,.int .i64 a1_1,.slice A1_2 l1_2.length c1_2]) (t:=25) ?_;intro gb309 hg w8 hbox hb;have BK309:=qaj.mk hbox;have GW309:=zH (w:=w) hg (za0 HB GE308);have GE309:=GW309;replace HB:=qaj.mk (qaa (za0 HB GE308) hb);have NB308_309:=zL BK308 hg;have NB309_308:=zG BK308 hg;replace BK308:=zY BK308 hb;clear hb hbox hg;have hnb9:=NB308_309.out;have hnc9:=NB309_308.out;obtain⟨hcz10_0,hcz10_1,hcz10_2,hfz10_0,hfz10_1,hfz10_2⟩:=zC3 BK308;obtain⟨hcz11_0,hcz11_1,hcz11_2,hfz11_0,hfz11_1,hfz11_2⟩:=zC3 BK309)|((with_reducible refine qae (f:=49) rfl ?_);refine zF (some 19) Tryd.func49 #[.slice A0_2 l0_2.length c0_2,.slice A1_2 l1_2.length c1_2] ?_;(with_reducible refine(laws_eqIntS.calls k _ _ l0_2 _ _ l1_2 true _ ?side1 ?side2 ?side3 ?side4 A5.out).mono ?_);(case side1=>exact zR HR0_2 HB);(case side2=>exact HC0_2.out);(case side3=>exact zR HR1_2 HB);(case side4=>exact HC1_2.out);rintro e w' ⟨rfl,⟨nd,rfl⟩⟩;refine⟨_,rfl,?_⟩))
    go_ret;exact⟨za10,za1 HB GE308 GE309⟩
   ·replace c6:=Bool.eq_false_iff.mpr c6;subst c6
    have H1:(some false)=some r:=by rw[if_neg (show ¬(false=true) by decide)] at H;exact H
    clear H;have H:=H1;clear H1;obtain rfl:=Option.some.inj H;go_enter Tryd.func21,Tryd.ntmps21
    go_wp2_with(first|((with_reducible refine qai (N:=2) rfl ?_);refine zX (N:=2) (cs:=#[.int .i64 a0_0,.int .i64 a0_1,.slice A0_2 l0_2.length c0_2]) (t:=25) ?_;intro gb308 hg w12 hbox hb;have BK308:=qaj.mk hbox;have GW308:=zH (w:=w) hg (za2 HB);have GE308:=GW308;replace HB:=qaj.mk (qaa (za2 HB) hb);clear hb hbox hg)|((with_reducible refine qai (N:=3) rfl ?_);refine zX (N:=3) (cs:=#[.int .i64 a1_0,.int .i64 a1_1,.slice A1_2 l1_2.length c1_2]) (t:=25) ?_;intro gb309 hg w13 hbox hb;have BK309:=qaj.mk hbox;have GW309:=zH (w:=w) hg (za0 HB GE308);have GE309:=GW309;replace HB:=qaj.mk (qaa (za0 HB GE308) hb);have NB308_309:=zL BK308 hg;have NB309_308:=zG BK308 hg;replace BK308:=zY BK308 hb;clear hb hbox hg;have hnb14:=NB308_309.out;have hnc14:=NB309_308.out;obtain⟨hcz15_0,hcz15_1,hcz15_2,hfz15_0,hfz15_1,hfz15_2⟩:=zC3 BK308;obtain⟨hcz16_0,hcz16_1,hcz16_2,hfz16_0,hfz16_1,hfz16_2⟩:=zC3 BK309)|((with_reducible refine qae (f:=49) rfl ?_);refine zF (some 19) Tryd.func49 #[.slice A0_2 l0_2.length c0_2,.slice A1_2 l1_2.length c1_2] ?_;(with_reducible refine(laws_eqIntS.calls k _ _ l0_2 _ _ l1_2 false _ ?side1 ?side2 ?side3 ?side4 A5.out).mono ?_);(case side1=>exact zR HR0_2 HB);(case side2=>exact HC0_2.out);(case side3=>exact zR HR1_2 HB);(case side4=>exact HC1_2.out);rintro e w' ⟨rfl,⟨nd,rfl⟩⟩;refine⟨_,rfl,?_⟩))
    go_ret;exact⟨za10,za1 HB GE308 GE309⟩
  ·rw[if_neg c4] at H;have c4b0:(a0_1 == a1_1)=false:=beq_eq_false_iff_ne.mpr c4;have c4b1:(a0_1 != a1_1)=true:=bne_iff_ne.mpr c4;obtain rfl:=Option.some.inj H;go_enter Tryd.func21,Tryd.ntmps21
   go_wp2_with(first|((with_reducible refine qai (N:=2) rfl ?_);refine zX (N:=2) (cs:=#[.int .i64 a0_0,.int .i64 a0_1,.slice A0_2 l0_2.length c0_2]) (t:=25) ?_;intro gb308 hg w17 hbox hb;have BK308:=qaj.mk hbox;have GW308:=zH (w:=w) hg (za2 HB);have GE308:=GW308;replace HB:=qaj.mk (qaa (za2 HB) hb);clear hb hbox hg)|((with_reducible refine qai (N:=3) rfl ?_);refine zX (N:=3) (cs:=#[.int .i64 a1_0,.int .i64 a1_1,.slice A1_2 l1_2.length c1_2]) (t:=25) ?_;intro gb309 hg w18 hbox hb;have BK309:=qaj.mk hbox;have GW309:=zH (w:=w) hg (za0 HB GE308);have GE309:=GW309;replace HB:=qaj.mk (qaa (za0 HB GE308) hb);have NB308_309:=zL BK308 hg;have NB309_308:=zG BK308 hg;replace BK308:=zY BK308 hb;clear hb hbox hg;have hnb19:=NB308_309.out;have hnc19:=NB309_308.out;obtain⟨hcz20_0,hcz20_1,hcz20_2,hfz20_0,hfz20_1,hfz20_2⟩:=zC3 BK308;obtain⟨hcz21_0,hcz21_1,hcz21_2,hfz21_0,hfz21_1,hfz21_2⟩:=zC3 BK309))
   go_ret;exact⟨za10,za1 HB GE308 GE309⟩
 ·rw[if_neg c3] at H;have c3b0:(a0_0 == a1_0)=false:=beq_eq_false_iff_ne.mpr c3;have c3b1:(a0_0 != a1_0)=true:=bne_iff_ne.mpr c3;obtain rfl:=Option.some.inj H;go_enter Tryd.func21,Tryd.ntmps21
  go_wp2_with(first|((with_reducible refine qai (N:=2) rfl ?_);refine zX (N:=2) (cs:=#[.int .i64 a0_0,.int .i64 a0_1,.slice A0_2 l0_2.length c0_2]) (t:=25) ?_;intro gb308 hg w22 hbox hb;have BK308:=qaj.mk hbox;have GW308:=zH (w:=w) hg (za2 HB);have GE308:=GW308;replace HB:=qaj.mk (qaa (za2 HB) hb);clear hb hbox hg)|((with_reducible refine qai (N:=3) rfl ?_);refine zX (N:=3) (cs:=#[.int .i64 a1_0,.int .i64 a1_1,.slice A1_2 l1_2.length c1_2]) (t:=25) ?_;intro gb309 hg w23 hbox hb;have BK309:=qaj.mk hbox;have GW309:=zH (w:=w) hg (za0 HB GE308);have GE309:=GW309;replace HB:=qaj.mk (qaa (za0 HB GE308) hb);have NB308_309:=zL BK308 hg;have NB309_308:=zG BK308 hg;replace BK308:=zY BK308 hb;clear hb hbox hg;have hnb24:=NB308_309.out;have hnc24:=NB309_308.out;obtain⟨hcz25_0,hcz25_1,hcz25_2,hfz25_0,hfz25_1,hfz25_2⟩:=zC3 BK308;obtain⟨hcz26_0,hcz26_1,hcz26_2,hfz26_0,hfz26_1,hfz26_2⟩:=zC3 BK309))
  go_ret;exact⟨za10,za1 HB GE308 GE309⟩
end Go.Proofs.YtbcepmkifomifaaDoor.Print
