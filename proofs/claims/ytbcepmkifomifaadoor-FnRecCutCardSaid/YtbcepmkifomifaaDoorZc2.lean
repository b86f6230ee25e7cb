-- Written by squeeze.py: not trusted, Lean checks it.
import Derived.Test.YtbcepmkifomifaaDoorZK
namespace Go.Proofs.YtbcepmkifomifaaDoor.Print
open Go.RowKit Go.Proofs.YtbcepmkifomifaaDoorW.PrintWords Go.Proofs.YtbcepmkifomifaaDoorW.PrintLast Go.Proofs.YtbcepmkifomifaaDoorW.PrintMore
attribute [local go_sem] max2_int min2_int max_two min_two max_three min_three max_four min_four
set_option linter.unusedVariables false
set_option linter.unusedSimpArgs false
def laws_lnInts.l0:Nat→List Int→List Int→Int→Option (Bool)
 |0,_,_,_=>none
 |k+1,x0,x1,x5=>if x5<(x0.length:Int) then(if 0≤x5 then(if x5<(x1.length:Int) then(if(rd x0 x5)=(rd x1 x5) then(laws_lnInts.l0 k x0 x1 (wrap64 (x5+1))) else(some false)) else(none)) else(none)) else(some true)
def laws_lnInts.f (k:Nat) (l0:List Int) (l1:List Int):Option (Bool):=if(l0.length:Int)=(l1.length:Int) then(laws_lnInts.l0 k l0 l1 0) else(some false)
theorem laws_lnInts.mono_l:∀k,(∀y0 y1 y2,LeO (laws_lnInts.l0 k y0 y1 y2) (laws_lnInts.l0 (k+1) y0 y1 y2))
 |0=>fun _ _ _ r h=>by simp[laws_lnInts.l0] at h
 |k+1=>by
  have ih0:=laws_lnInts.mono_l k
  ·intro y0 y1 y2;unfold laws_lnInts.l0
   repeat' first|(with_reducible exact ih0 _ _ _)|(with_reducible exact LeO.refl _)|(with_reducible exact LeO.none _)|(with_reducible refine LeO.ite ?_ ?_)|(with_reducible refine LeO.bind ?_ (fun _=>?_))|exact ih0 _ _ _|exact LeO.none _|refine LeO.ite ?_ ?_|refine LeO.bind ?_ (fun _=>?_)
theorem laws_lnInts.mono:∀a0 a1 k,LeO (laws_lnInts.f k a0 a1) (laws_lnInts.f (k+1) a0 a1):=by
 intro a0 a1 k;have ih0:=laws_lnInts.mono_l k;unfold laws_lnInts.f
 repeat' first|(with_reducible exact ih0 _ _ _)|(with_reducible exact LeO.refl _)|(with_reducible exact LeO.none _)|(with_reducible refine LeO.ite ?_ ?_)|(with_reducible refine LeO.bind ?_ (fun _=>?_))|exact ih0 _ _ _|exact LeO.none _|refine LeO.ite ?_ ?_|refine LeO.bind ?_ (fun _=>?_)
set_option maxHeartbeats 8000000 in
set_option maxRecDepth 100000 in
theorem laws_lnInts.calls (k:Nat) (A0:Option Addr) (c0:Nat) (l0:List Int) (A1:Option Addr) (c1:Nat) (l1:List Int) (r:Bool) (w:World) (hr0:Kd.C (Kd.int .i64) w A0 l0.length l0) (hc0:l0.length≤c0) (hr1:Kd.C (Kd.int .i64) w A1 l1.length l1) (hc1:l1.length≤c1) (h:laws_lnInts.f k l0 l1=some r) :
  Calls Tryd.prog 46 #[.slice A0 l0.length c0,.slice A1 l1.length c1] w fun e w'=>e=.returned (.bool r)∧Drawn0 w w':=by
 have HR0:=qaj.mk hr0;have HC0:=qaj.mk hc0;clear hr0 hc0;have HR1:=qaj.mk hr1;have HC1:=qaj.mk hc1;clear hr1 hc1;have H:(if(l0.length:Int)=(l1.length:Int) then(laws_lnInts.l0 k l0 l1 0) else(some false))=some r:=h;clear h;by_cases c3:(l0.length:Int)=(l1.length:Int)
 ·rw[if_pos c3] at H;have c3b0:((l0.length:Int) == (l1.length:Int))=true:=beq_iff_eq.mpr c3;have c3b1:((l0.length:Int) != (l1.length:Int))=false:=bne_eq_false_iff_eq.mpr c3
  have c3b2:(l0.length == l1.length)=true:=by first|simpa using c3|(simp at c3 ⊢;omega)
  clear c3;have H':=qaj.mk H;clear H;go_enter Tryd.func46,Tryd.ntmps46;go_wp2
  repeat(go_quiet(fail);try go_wp2)
  go_loopg [5] k (fun kq v5 w'=>∃(x5_1:Int),v5=.int .i64 x5_1∧qaj (laws_lnInts.l0 kq l0 l1 x5_1=some r)∧qaj (kq≤k)∧Drawn0 w w')
  case atStart=>exact⟨(0),(za23),H',⟨Nat.le_refl _⟩,za32⟩
  case round=>
   clear H'
   try clear c1
   try clear p2
   try clear c3
   try clear c3b0
   try clear c3b1
   try clear c3b2
   obtain⟨x5_1,rfl,HA,HK1,⟨m1,rfl⟩⟩:=hrel
   cases gk with
   |zero=>exact absurd HA.out (by simp[laws_lnInts.l0])
   |succ k1=>
    have H:=HA.out;clear HA;simp only[laws_lnInts.l0] at H;by_cases c4:x5_1<(l0.length:Int)
    ·rw[if_pos c4] at H;have c4b0:decide (x5_1<(l0.length:Int))=true:=decide_eq_true c4;clear c4;by_cases c5:0≤x5_1
     ·rw[if_pos c5] at H;have c5b0:decide (0≤x5_1)=true:=decide_eq_true c5;clear c5;by_cases c6:x5_1<(l1.length:Int)
      ·rw[if_pos c6] at H;have c6b0:decide (x5_1<(l1.length:Int))=true:=decide_eq_true c6;clear c6;by_cases c7:(rd l0 x5_1)=(rd l1 x5_1)
       ·rw[if_pos c7] at H;have c7b0:((rd l0 x5_1) == (rd l1 x5_1))=true:=beq_iff_eq.mpr c7;have c7b1:((rd l0 x5_1) != (rd l1 x5_1))=false:=bne_eq_false_iff_eq.mpr c7;clear c7;have H':=qaj.mk H;clear H;have p247:0≤(x5_1:Int):=of_decide_eq_true (za13);have q247:x5_1<(l0.length:Int):=of_decide_eq_true (za13);obtain⟨ad247,e247,hx247_0⟩:=Kd.at_int HR0.out x5_1 p247 q247
        cases e247
        replace p247:=eq_true p247;replace q247:=eq_true q247;have p248:0≤(x5_1:Int):=of_decide_eq_true (za13);have q248:x5_1<(l1.length:Int):=of_decide_eq_true (za13);obtain⟨ad248,e248,hx248_0⟩:=Kd.at_int HR1.out x5_1 p248 q248
        cases e248
        replace p248:=eq_true p248;replace q248:=eq_true q248;go_wp2
        repeat(go_quiet(fail);try go_wp2)
        go_roundg k1
        case measure=>have:=HK1.out;omega
        case rel=>exact⟨(wrap64 (x5_1+1)),(za23),H',⟨by have:=HK1.out;omega⟩,za32⟩
       ·rw[if_neg c7] at H;have c7b0:((rd l0 x5_1) == (rd l1 x5_1))=false:=beq_eq_false_iff_ne.mpr c7;have c7b1:((rd l0 x5_1) != (rd l1 x5_1))=true:=bne_iff_ne.mpr c7;obtain rfl:=Option.some.inj H;have p247:0≤(x5_1:Int):=of_decide_eq_true (za13);have q247:x5_1<(l0.length:Int):=of_decide_eq_true (za13);obtain⟨ad247,e247,hx247_0⟩:=Kd.at_int HR0.out x5_1 p247 q247
        cases e247
        replace p247:=eq_true p247;replace q247:=eq_true q247;have p248:0≤(x5_1:Int):=of_decide_eq_true (za13);have q248:x5_1<(l1.length:Int):=of_decide_eq_true (za13);obtain⟨ad248,e248,hx248_0⟩:=Kd.at_int HR1.out x5_1 p248 q248
        cases e248
        replace p248:=eq_true p248;replace q248:=eq_true q248;go_wp2
        repeat(go_quiet(fail);try go_wp2)
        go_ret;exact⟨za23,za32⟩
      ·rw[if_neg c6] at H;exact absurd H (by simp)
     ·rw[if_neg c5] at H;exact absurd H (by simp)
    ·rw[if_neg c4] at H;have c4b0:decide (x5_1<(l0.length:Int))=false:=decide_eq_false c4;clear c4;obtain rfl:=Option.some.inj H;go_wp2
     repeat(go_quiet(fail);try go_wp2)
     go_ret;exact⟨za23,za32⟩
 ·rw[if_neg c3] at H;have c3b0:((l0.length:Int) == (l1.length:Int))=false:=beq_eq_false_iff_ne.mpr c3;have c3b1:((l0.length:Int) != (l1.length:Int))=true:=bne_iff_ne.mpr c3
  have c3b2:(l0.length == l1.length)=false:=by first|simpa using c3|(simp at c3 ⊢;omega)
  obtain rfl:=Option.some.inj H;go_enter Tryd.func46,Tryd.ntmps46;go_wp2
  repeat(go_quiet(fail);try go_wp2)
  go_ret;exact⟨za23,za32⟩
def laws_lnRec.f (k:Nat) (a0_0:Int) (a0_1:Int) (l0_2:List Int) (a1_0:Int) (a1_1:Int) (l1_2:List Int):Option (Bool):=if a0_0=a1_0 then(if a0_1=a1_1 then((laws_lnInts.f k l0_2 l1_2).bind fun t251=>(some t251)) else(some false)) else(some false)
theorem laws_lnRec.mono:∀a0 a1 a2 a3 a4 a5 k,LeO (laws_lnRec.f k a0 a1 a2 a3 a4 a5) (laws_lnRec.f (k+1) a0 a1 a2 a3 a4 a5):=by
 intro a0 a1 a2 a3 a4 a5 k;unfold laws_lnRec.f
 repeat' first|(with_reducible exact laws_lnInts.mono _ _ _)|(with_reducible exact LeO.refl _)|(with_reducible exact LeO.none _)|(with_reducible refine LeO.ite ?_ ?_)|(with_reducible refine LeO.bind ?_ (fun _=>?_))|exact laws_lnInts.mono _ _ _|exact LeO.none _|refine LeO.ite ?_ ?_|refine LeO.bind ?_ (fun _=>?_)
set_option maxHeartbeats 8000000 in
set_option maxRecDepth 100000 in
theorem laws_lnRec.calls (k:Nat) (a0_0:Int) (a0_1:Int) (A0_2:Option Addr) (c0_2:Nat) (l0_2:List Int) (a1_0:Int) (a1_1:Int) (A1_2:Option Addr) (c1_2:Nat) (l1_2:List Int) (r:Bool) (w:World) (hr0_2:Kd.C (Kd.int .i64) w A0_2 l0_2.length l0_2) (hc0_2:l0_2.length≤c0_2) (hr1_2:Kd.C (Kd.int .i64) w A1_2 l1_2.length l1_2) (hc1_2:l1_2.length≤c1_2) (h:laws_lnRec.f k a0_0 a0_1 l0_2 a1_0 a1_1 l1_2=some r) :
  Calls Tryd.prog 19 #[.agg #[.int .i64 a0_0,.int .i64 a0_1,.slice A0_2 l0_2.length c0_2],.agg #[.int .i64 a1_0,.int .i64 a1_1,.slice A1_2 l1_2.length c1_2]] w fun e w'=>e=.returned (.bool r)∧Below w.heap.size w w':=by
 have hu25:=Tryd.underlying25;have HR0_2:=qaj.mk hr0_2;have HC0_2:=qaj.mk hc0_2;clear hr0_2 hc0_2;have HR1_2:=qaj.mk hr1_2;have HC1_2:=qaj.mk hc1_2;clear hr1_2 hc1_2;have HB:=qaj.mk (Below.refl w.heap.size w);have H:(if a0_0=a1_0 then(if a0_1=a1_1 then((laws_lnInts.f k l0_2 l1_2).bind fun t251=>(some t251)) else(some false)) else(some false))=some r:=h;clear h;by_cases c3:a0_0=a1_0
 ·rw[if_pos c3] at H;have c3b0:(a0_0 == a1_0)=true:=beq_iff_eq.mpr c3;have c3b1:(a0_0 != a1_0)=false:=bne_eq_false_iff_eq.mpr c3;clear c3;by_cases c4:a0_1=a1_1
  ·rw[if_pos c4] at H;have c4b0:(a0_1 == a1_1)=true:=beq_iff_eq.mpr c4;have c4b1:(a0_1 != a1_1)=false:=bne_eq_false_iff_eq.mpr c4;clear c4;replace H:=Option.bind_eq_some_iff.mp H;obtain⟨t251,A50,H⟩:=H;replace H:(some t251)=some r:=H;have A5:=qaj.mk A50;clear A50;obtain rfl:=Option.some.inj H;go_enter Tryd.func19,Tryd.ntmps19
   go_wp2_with(first|((with_reducible refine qai (N:=2) rfl ?_);refine zX (N:=2) (cs:=#[.int .i64 a0_0,.int .i64 a0_1,.slice A0_2 l0_2.length c0_2]) (t:=25) ?_;intro gb249 hg w6 hbox hb;have BK249:=qaj.mk hbox;have GW249:=zH (w:=w) hg (za2 HB);have GE249:=GW249;replace HB:=qaj.mk (qaa (za2 HB) hb);clear hb hbox hg)|((with_reducible refine qai (N:=3) rfl ?_);refine zX (N:=3) (cs:=#[.int .i64 a1_0,.int .i64 a1_1,.slice A1_2 l1_2.length c1_2]) (t:=25) ?_;intro gb250 hg w7 hbox hb;have BK250:=qaj.mk hbox;have GW250:=zH (w:=w) hg (za0 HB GE249);have GE250:=GW250;replace HB:=qaj.mk (qaa (za0 HB GE249) hb);have NB249_250:=zL BK249 hg;have NB250_249:=zG BK249 hg;replace BK249:=zY BK249 hb;clear hb hbox hg;have hnb8:=NB249_250.out;have hnc8:=NB250_249.out;obtain⟨hcz9_0,hcz9_1,hcz9_2,hfz9_0,hfz9_1,hfz9_2⟩:=zC3 BK249;obtain⟨hcz10_0,hcz10_1,hcz10_2,hfz10_0,hfz10_1,hfz10_2⟩:=zC3 BK250)|(go_at_call 46;(with_reducible refine(laws_lnInts.calls k _ _ l0_2 _ _ l1_2 t251 _ ?side1 ?side2 ?side3 ?side4 A5.out).mono ?_);(case side1=>exact zR HR0_2 HB);(case side2=>exact HC0_2.out);(case side3=>exact zR HR1_2 HB);(case side4=>exact HC1_2.out);rintro e w' ⟨rfl,⟨nd,rfl⟩⟩))
   go_ret;exact⟨za10,za1 HB GE249 GE250⟩
  ·rw[if_neg c4] at H;have c4b0:(a0_1 == a1_1)=false:=beq_eq_false_iff_ne.mpr c4;have c4b1:(a0_1 != a1_1)=true:=bne_iff_ne.mpr c4;obtain rfl:=Option.some.inj H;go_enter Tryd.func19,Tryd.ntmps19
   go_wp2_with(first|((with_reducible refine qai (N:=2) rfl ?_);refine zX (N:=2) (cs:=#[.int .i64 a0_0,.int .i64 a0_1,.slice A0_2 l0_2.length c0_2]) (t:=25) ?_;intro gb249 hg w11 hbox hb;have BK249:=qaj.mk hbox;have GW249:=zH (w:=w) hg (za2 HB);have GE249:=GW249;replace HB:=qaj.mk (qaa (za2 HB) hb);clear hb hbox hg)|((with_reducible refine qai (N:=3) rfl ?_);refine zX (N:=3) (cs:=#[.int .i64 a1_0,.int .i64 a1_1,.slice A1_2 l1_2.length c1_2]) (t:=25) ?_;intro gb250 hg w12 hbox hb;have BK250:=qaj.mk hbox;have GW250:=zH (w:=w) hg (za0 HB GE249);have GE250:=GW250;replace HB:=qaj.mk (qaa (za0 HB GE249) hb);have NB249_250:=zL BK249 hg;have NB250_249:=zG BK249 hg;replace BK249:=zY BK249 hb;clear hb hbox hg;have hnb13:=NB249_250.out;have hnc13:=NB250_249.out;obtain⟨hcz14_0,hcz14_1,hcz14_2,hfz14_0,hfz14_1,hfz14_2⟩:=zC3 BK249;obtain⟨hcz15_0,hcz15_1,hcz15_2,hfz15_0,hfz15_1,hfz15_2⟩:=zC3 BK250))
   go_ret;exact⟨za10,za1 HB GE249 GE250⟩
 ·rw[if_neg c3] at H;have c3b0:(a0_0 == a1_0)=false:=beq_eq_false_iff_ne.mpr c3;have c3b1:(a0_0 != a1_0)=true:=bne_iff_ne.mpr c3;obtain rfl:=Option.some.inj H;go_enter Tryd.func19,Tryd.ntmps19
  go_wp2_with(first|((with_reducible refine qai (N:=2) rfl ?_);refine zX (N:=2) (cs:=#[.int .i64 a0_0,.int .i64 a0_1,.slice A0_2 l0_2.length c0_2]) (t:=25) ?_;intro gb249 hg w16 hbox hb;have BK249:=qaj.mk hbox;have GW249:=zH (w:=w) hg (za2 HB);have GE249:=GW249;replace HB:=qaj.mk (qaa (za2 HB) hb);clear hb hbox hg)|((with_reducible refine qai (N:=3) rfl ?_);refine zX (N:=3) (cs:=#[.int .i64 a1_0,.int .i64 a1_1,.slice A1_2 l1_2.length c1_2]) (t:=25) ?_;intro gb250 hg w17 hbox hb;have BK250:=qaj.mk hbox;have GW250:=zH (w:=w) hg (za0 HB GE249);have GE250:=GW250;replace HB:=qaj.mk (qaa (za0 HB GE249) hb);have NB249_250:=zL BK249 hg;have NB250_249:=zG BK249 hg;replace BK249:=zY BK249 hb;clear hb hbox hg;have hnb18:=NB249_250.out;have hnc18:=NB250_249.out;obtain⟨hcz19_0,hcz19_1,hcz19_2,hfz19_0,hfz19_1,hfz19_2⟩:=zC3 BK249;obtain⟨hcz20_0,hcz20_1,hcz20_2,hfz20_0,hfz20_1,hfz20_2⟩:=zC3 BK250))
  go_ret;exact⟨za10,za1 HB GE249 GE250⟩
end Go.Proofs.YtbcepmkifomifaaDoor.Print
