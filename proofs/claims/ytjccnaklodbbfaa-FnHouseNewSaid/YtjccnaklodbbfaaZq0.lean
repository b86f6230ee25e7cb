-- Written by squeeze.py, a program of this session, out of what print.sh and myprint.py had printed: cut to what is used, narrowed. Not trusted, Lean checks it.
import Derived.Test.YtjccnaklodbbfaaZK
import Derived.Test.YtjccnaklodbbfaaZg0
namespace Go.Proofs.Ytjccnaklodbbfaa.Print
open Go.RowKit Go.Proofs.YtjccnaklodbbfaaW.PrintWords Go.Proofs.YtjccnaklodbbfaaW.PrintLast Go.Proofs.YtjccnaklodbbfaaW.PrintMore
attribute [local go_sem] max2_int min2_int max_two min_two max_three min_three max_four min_four
set_option linter.unusedVariables false
set_option linter.unusedSimpArgs false
def spec_DrawHouseNew.f (k:Nat) (l0:List Int):Option (Int × Int):=(spec_l6Open.f l0).bind fun bt497=>((spec_l6Rd_pick.f k bt497.1 bt497.2 5).bind fun bt500=>((spec_l6Rd_pick.f k bt497.1 bt500.2 12).bind fun bt502=>(some (bt500.1,wrap64 (bt502.1 - 1)))))
theorem spec_DrawHouseNew.mono:∀a0 k,LeO (spec_DrawHouseNew.f k a0) (spec_DrawHouseNew.f (k+1) a0):=by
 intro a0 k
 unfold spec_DrawHouseNew.f
 repeat' first
   |(with_reducible exact spec_l6Rd_pick.mono _ _ _ _)
   |(with_reducible exact LeO.refl _)
   |(with_reducible exact LeO.none _)
   |(with_reducible refine LeO.ite ?_ ?_)
   |(with_reducible refine LeO.bind ?_ (fun _=>?_))
   |exact spec_l6Rd_pick.mono _ _ _ _
   |exact LeO.none _
   |refine LeO.ite ?_ ?_
   |refine LeO.bind ?_ (fun _=>?_)
set_option maxHeartbeats 8000000 in
set_option maxRecDepth 100000 in
theorem spec_DrawHouseNew.calls (k:Nat) (A0:Option Addr) (c0:Nat) (l0:List Int) (r1:Int) (r2:Int) (w:World) (hr0:Kd.C (Kd.int .u8) w A0 l0.length l0) (hc0:l0.length≤c0) (h:spec_DrawHouseNew.f k l0=some (r1,r2)) :
  Calls Try.prog 31 #[.slice A0 l0.length c0] w fun e w'=>e=.returned (.tuple #[.int .i64 r1,.int .i64 r2])∧Below w.heap.size w w':=by
 have HR0:=qal.mk hr0
 have HC0:=qal.mk hc0
 clear hr0 hc0
 have HB:=qal.mk (Below.refl w.heap.size w)
 have H:((spec_l6Open.f l0).bind fun bt497=>((spec_l6Rd_pick.f k bt497.1 bt497.2 5).bind fun bt500=>((spec_l6Rd_pick.f k bt497.1 bt500.2 12).bind fun bt502=>(some (bt500.1,wrap64 (bt502.1 - 1))))))=some (r1,r2):=h
 clear h
 replace H:=Option.bind_eq_some_iff.mp H
 obtain⟨⟨t497,t498⟩,A20,H⟩:=H
 replace H:((spec_l6Rd_pick.f k t497 t498 5).bind fun bt500=>((spec_l6Rd_pick.f k t497 bt500.2 12).bind fun bt502=>(some (bt500.1,wrap64 (bt502.1 - 1)))))=some (r1,r2):=H
 have A2:=qal.mk A20
 clear A20
 replace H:=Option.bind_eq_some_iff.mp H
 obtain⟨⟨t500,t501⟩,A30,H⟩:=H
 replace H:((spec_l6Rd_pick.f k t497 t501 12).bind fun bt502=>(some (t500,wrap64 (bt502.1 - 1))))=some (r1,r2):=H
 have A3:=qal.mk A30
 clear A30
 replace H:=Option.bind_eq_some_iff.mp H
 obtain⟨⟨t502,t503⟩,A40,H⟩:=H
 replace H:(some (t500,wrap64 (t502 - 1)))=some (r1,r2):=H
 have A4:=qal.mk A40
 clear A40
 simp only[Option.some.injEq,Prod.mk.injEq] at H
 obtain⟨rfl,rfl⟩:=H
 go_enter Try.func31,Try.ntmps31
 go_wp2_with(first|((with_reducible refine qai (f:=64) rfl ?_);refine qau (some 6) rfl rfl Try.func64 (by kernel_rfl) rfl #[.slice A0 l0.length c0] rfl (by(try simp only[List.map_toArray,List.map_cons,List.map_nil]);first|done|rfl|(simp only[List.length_drop,List.length_take];rfl)) ?_;(with_reducible refine(spec_l6Open.calls _ _ l0 t497 t498 w _ ?side1 ?side2 ?side3 A2.out).mono ?_);(case side1=>repeat(first|(with_reducible first|exact HB.out|apply qar|apply qap|apply qaq)|exact HB.out));(case side2=>exact HR0.out);(case side3=>exact HC0.out);rintro e w5 ⟨g499,rfl,hi,hb,hb2⟩;refine⟨_,rfl,?_⟩;have n0_:=qal.mk (hb);have n1_:=qal.mk (hi);clear HB;have HB:=n0_;have HI499:=n1_;clear n0_ n1_;(try clear hb);(try clear hb2);(try clear hk);(try clear hi))|((with_reducible refine qai (f:=65) rfl ?_);refine qau (some 8) rfl rfl Try.func65 (by kernel_rfl) rfl #[.pointer (some ⟨g499,0,none⟩),.int .i64 5] rfl (by(try simp only[List.map_toArray,List.map_cons,List.map_nil]);first|done|rfl|(simp only[List.length_drop,List.length_take];rfl)) ?_;(with_reducible refine(spec_l6Rd_pick.calls k g499 t497 t498 5 t500 t501 w _ ?side1 ?side2 A3.out).mono ?_);(case side1=>repeat(first|(with_reducible first|exact HI499.out|apply IsS122.alloc|apply IsS122.drewN|apply IsS122.drew|apply IsS122.set_1)|exact HI499.out));(case side2=>repeat(first|(with_reducible first|exact HB.out|apply qar|apply qap|apply qaq|refine qam ?_ (IsS122.ge HI499.out))|exact HB.out));rintro e w6 ⟨rfl,hi,hb,hk⟩;refine⟨_,rfl,?_⟩;have n0_:=qal.mk (hb);have n1_:=qal.mk (hi);clear HB;clear HI499;have HB:=n0_;have HI499:=n1_;clear n0_ n1_;(try clear hb);(try clear hb2);(try clear hk);(try clear hi))|((with_reducible refine qai (f:=65) rfl ?_);refine qau (some 10) rfl rfl Try.func65 (by kernel_rfl) rfl #[.pointer (some ⟨g499,0,none⟩),.int .i64 12] rfl (by(try simp only[List.map_toArray,List.map_cons,List.map_nil]);first|done|rfl|(simp only[List.length_drop,List.length_take];rfl)) ?_;(with_reducible refine(spec_l6Rd_pick.calls k g499 t497 t501 12 t502 t503 w _ ?side1 ?side2 A4.out).mono ?_);(case side1=>repeat(first|(with_reducible first|exact HI499.out|apply IsS122.alloc|apply IsS122.drewN|apply IsS122.drew|apply IsS122.set_1)|exact HI499.out));(case side2=>repeat(first|(with_reducible first|exact HB.out|apply qar|apply qap|apply qaq|refine qam ?_ (IsS122.ge HI499.out))|exact HB.out));rintro e w7 ⟨rfl,hi,hb,hk⟩;refine⟨_,rfl,?_⟩;have n0_:=qal.mk (hb);have n1_:=qal.mk (hi);clear HB;clear HI499;have HB:=n0_;have HI499:=n1_;clear n0_ n1_;(try clear hb);(try clear hb2);(try clear hk);(try clear hi)))
 go_ret2
 exact⟨za9,by repeat(first|(with_reducible first|exact HB.out|apply qar|apply qap|apply qaq|refine qam ?_ (IsS122.ge HI499.out))|exact HB.out)⟩
def laws_lnInts.l0:Nat→List Int→List Int→Int→Option (Bool)
 |0,_,_,_=>none
 |k+1,x0,x1,x5=>if x5<(x0.length:Int) then(if 0≤x5 then(if x5<(x1.length:Int) then(if(rd x0 x5)=(rd x1 x5) then(laws_lnInts.l0 k x0 x1 (wrap64 (x5+1))) else(some false)) else(none)) else(none)) else(some true)
def laws_lnInts.f (k:Nat) (l0:List Int) (l1:List Int):Option (Bool):=if(l0.length:Int)=(l1.length:Int) then(laws_lnInts.l0 k l0 l1 0) else(some false)
theorem laws_lnInts.mono_l:∀k,(∀y0 y1 y2,LeO (laws_lnInts.l0 k y0 y1 y2) (laws_lnInts.l0 (k+1) y0 y1 y2))
 |0=>fun _ _ _ r h=>by simp[laws_lnInts.l0] at h
 |k+1=>by
  have ih0:=laws_lnInts.mono_l k
  ·intro y0 y1 y2
   unfold laws_lnInts.l0
   repeat' first
   |(with_reducible exact ih0 _ _ _)
   |(with_reducible exact LeO.refl _)
   |(with_reducible exact LeO.none _)
   |(with_reducible refine LeO.ite ?_ ?_)
   |(with_reducible refine LeO.bind ?_ (fun _=>?_))
   |exact ih0 _ _ _
   |exact LeO.none _
   |refine LeO.ite ?_ ?_
   |refine LeO.bind ?_ (fun _=>?_)
theorem laws_lnInts.mono:∀a0 a1 k,LeO (laws_lnInts.f k a0 a1) (laws_lnInts.f (k+1) a0 a1):=by
 intro a0 a1 k
 have ih0:=laws_lnInts.mono_l k
 unfold laws_lnInts.f
 repeat' first
   |(with_reducible exact ih0 _ _ _)
   |(with_reducible exact LeO.refl _)
   |(with_reducible exact LeO.none _)
   |(with_reducible refine LeO.ite ?_ ?_)
   |(with_reducible refine LeO.bind ?_ (fun _=>?_))
   |exact ih0 _ _ _
   |exact LeO.none _
   |refine LeO.ite ?_ ?_
   |refine LeO.bind ?_ (fun _=>?_)
set_option maxHeartbeats 8000000 in
set_option maxRecDepth 100000 in
theorem laws_lnInts.calls (k:Nat) (A0:Option Addr) (c0:Nat) (l0:List Int) (A1:Option Addr) (c1:Nat) (l1:List Int) (r:Bool) (w:World) (hr0:Kd.C (Kd.int .i64) w A0 l0.length l0) (hc0:l0.length≤c0) (hr1:Kd.C (Kd.int .i64) w A1 l1.length l1) (hc1:l1.length≤c1) (h:laws_lnInts.f k l0 l1=some r) :
  Calls Try.prog 100 #[.slice A0 l0.length c0,.slice A1 l1.length c1] w fun e w'=>e=.returned (.bool r)∧Drawn0 w w':=by
 have HR0:=qal.mk hr0
 have HC0:=qal.mk hc0
 clear hr0 hc0
 have HR1:=qal.mk hr1
 have HC1:=qal.mk hc1
 clear hr1 hc1
 have H:(if(l0.length:Int)=(l1.length:Int) then(laws_lnInts.l0 k l0 l1 0) else(some false))=some r:=h
 clear h
 by_cases c3:(l0.length:Int)=(l1.length:Int)
 ·rw[if_pos c3] at H
  have c3b0:((l0.length:Int) == (l1.length:Int))=true:=beq_iff_eq.mpr c3
  have c3b1:((l0.length:Int) != (l1.length:Int))=false:=bne_eq_false_iff_eq.mpr c3
  have c3b2:(l0.length == l1.length)=true:=by first|simpa using c3|(simp at c3 ⊢;omega)
  clear c3
  have H':=qal.mk H
  clear H
  go_enter Try.func100,Try.ntmps100
  go_wp2
  repeat(go_quiet(fail);try go_wp2)
  go_loopg [5] k (fun kq v5 w'=>∃(x5_1:Int),v5=.int .i64 x5_1∧qal (laws_lnInts.l0 kq l0 l1 x5_1=some r)∧qal (kq≤k)∧Drawn0 w w')
  case atStart=>exact⟨(0),(za22),H',⟨Nat.le_refl _⟩,za44⟩
  case round=>
   clear H'
   try clear c1
   try clear p2
   try clear c3
   try clear c3b0
   try clear c3b1
   try clear c3b2
   obtain⟨x5_1,rfl,HA,HK1,⟨m1,rfl⟩⟩:=hrel
   cases gk with
   |zero=>exact absurd HA.out (by simp[laws_lnInts.l0])
   |succ k1=>
    have H:=HA.out
    clear HA
    simp only[laws_lnInts.l0] at H
    by_cases c4:x5_1<(l0.length:Int)
    ·rw[if_pos c4] at H
     have c4b0:decide (x5_1<(l0.length:Int))=true:=decide_eq_true c4
     clear c4
     by_cases c5:0≤x5_1
     ·rw[if_pos c5] at H
      have c5b0:decide (0≤x5_1)=true:=decide_eq_true c5
      clear c5
      by_cases c6:x5_1<(l1.length:Int)
      ·rw[if_pos c6] at H
       have c6b0:decide (x5_1<(l1.length:Int))=true:=decide_eq_true c6
       clear c6
       by_cases c7:(rd l0 x5_1)=(rd l1 x5_1)
       ·rw[if_pos c7] at H
        have c7b0:((rd l0 x5_1) == (rd l1 x5_1))=true:=beq_iff_eq.mpr c7
        have c7b1:((rd l0 x5_1) != (rd l1 x5_1))=false:=bne_eq_false_iff_eq.mpr c7
        clear c7
        have H':=qal.mk H
        clear H
        have p504:0≤(x5_1:Int):=of_decide_eq_true (za8)
        have q504:x5_1<(l0.length:Int):=of_decide_eq_true (za8)
        obtain⟨ad504,e504,hx504_0⟩:=Kd.at_int HR0.out x5_1 p504 q504
        cases e504
        replace p504:=eq_true p504
        replace q504:=eq_true q504
        have p505:0≤(x5_1:Int):=of_decide_eq_true (za8)
        have q505:x5_1<(l1.length:Int):=of_decide_eq_true (za8)
        obtain⟨ad505,e505,hx505_0⟩:=Kd.at_int HR1.out x5_1 p505 q505
        cases e505
        replace p505:=eq_true p505
        replace q505:=eq_true q505
        go_wp2
        repeat(go_quiet(fail);try go_wp2)
        go_roundg k1
        case measure=>have:=HK1.out;omega
        case rel=>exact⟨(wrap64 (x5_1+1)),(za22),H',⟨by have:=HK1.out;omega⟩,za44⟩
       ·rw[if_neg c7] at H
        have c7b0:((rd l0 x5_1) == (rd l1 x5_1))=false:=beq_eq_false_iff_ne.mpr c7
        have c7b1:((rd l0 x5_1) != (rd l1 x5_1))=true:=bne_iff_ne.mpr c7
        obtain rfl:=Option.some.inj H
        have p504:0≤(x5_1:Int):=of_decide_eq_true (za8)
        have q504:x5_1<(l0.length:Int):=of_decide_eq_true (za8)
        obtain⟨ad504,e504,hx504_0⟩:=Kd.at_int HR0.out x5_1 p504 q504
        cases e504
        replace p504:=eq_true p504
        replace q504:=eq_true q504
        have p505:0≤(x5_1:Int):=of_decide_eq_true (za8)
        have q505:x5_1<(l1.length:Int):=of_decide_eq_true (za8)
        obtain⟨ad505,e505,hx505_0⟩:=Kd.at_int HR1.out x5_1 p505 q505
        cases e505
        replace p505:=eq_true p505
        replace q505:=eq_true q505
        go_wp2
        repeat(go_quiet(fail);try go_wp2)
        go_ret
        exact⟨za22,za44⟩
      ·rw[if_neg c6] at H
       exact absurd H (by simp)
     ·rw[if_neg c5] at H
      exact absurd H (by simp)
    ·rw[if_neg c4] at H
     have c4b0:decide (x5_1<(l0.length:Int))=false:=decide_eq_false c4
     clear c4
     obtain rfl:=Option.some.inj H
     go_wp2
     repeat(go_quiet(fail);try go_wp2)
     go_ret
     exact⟨za22,za44⟩
 ·rw[if_neg c3] at H
  have c3b0:((l0.length:Int) == (l1.length:Int))=false:=beq_eq_false_iff_ne.mpr c3
  have c3b1:((l0.length:Int) != (l1.length:Int))=true:=bne_iff_ne.mpr c3
  have c3b2:(l0.length == l1.length)=false:=by first|simpa using c3|(simp at c3 ⊢;omega)
  obtain rfl:=Option.some.inj H
  go_enter Try.func100,Try.ntmps100
  go_wp2
  repeat(go_quiet(fail);try go_wp2)
  go_ret
  exact⟨za22,za44⟩
def laws_lnRec.f (k:Nat) (a0_0:Int) (a0_1:Int) (l0_2:List Int) (a1_0:Int) (a1_1:Int) (l1_2:List Int):Option (Bool):=if a0_0=a1_0 then(if a0_1=a1_1 then((laws_lnInts.f k l0_2 l1_2).bind fun t508=>(some t508)) else(some false)) else(some false)
theorem laws_lnRec.mono:∀a0 a1 a2 a3 a4 a5 k,LeO (laws_lnRec.f k a0 a1 a2 a3 a4 a5) (laws_lnRec.f (k+1) a0 a1 a2 a3 a4 a5):=by
 intro a0 a1 a2 a3 a4 a5 k
 unfold laws_lnRec.f
 repeat' first
   |(with_reducible exact laws_lnInts.mono _ _ _)
   |(with_reducible exact LeO.refl _)
   |(with_reducible exact LeO.none _)
   |(with_reducible refine LeO.ite ?_ ?_)
   |(with_reducible refine LeO.bind ?_ (fun _=>?_))
   |exact laws_lnInts.mono _ _ _
   |exact LeO.none _
   |refine LeO.ite ?_ ?_
   |refine LeO.bind ?_ (fun _=>?_)
set_option maxHeartbeats 8000000 in
set_option maxRecDepth 100000 in
theorem laws_lnRec.calls (k:Nat) (a0_0:Int) (a0_1:Int) (A0_2:Option Addr) (c0_2:Nat) (l0_2:List Int) (a1_0:Int) (a1_1:Int) (A1_2:Option Addr) (c1_2:Nat) (l1_2:List Int) (r:Bool) (w:World) (hr0_2:Kd.C (Kd.int .i64) w A0_2 l0_2.length l0_2) (hc0_2:l0_2.length≤c0_2) (hr1_2:Kd.C (Kd.int .i64) w A1_2 l1_2.length l1_2) (hc1_2:l1_2.length≤c1_2) (h:laws_lnRec.f k a0_0 a0_1 l0_2 a1_0 a1_1 l1_2=some r) :
  Calls Try.prog 126 #[.agg #[.int .i64 a0_0,.int .i64 a0_1,.slice A0_2 l0_2.length c0_2],.agg #[.int .i64 a1_0,.int .i64 a1_1,.slice A1_2 l1_2.length c1_2]] w fun e w'=>e=.returned (.bool r)∧Below w.heap.size w w':=by
 have hu62:=Try.underlying62
 have HR0_2:=qal.mk hr0_2
 have HC0_2:=qal.mk hc0_2
 clear hr0_2 hc0_2
 have HR1_2:=qal.mk hr1_2
 have HC1_2:=qal.mk hc1_2
 clear hr1_2 hc1_2
 have HB:=qal.mk (Below.refl w.heap.size w)
 have H:(if a0_0=a1_0 then(if a0_1=a1_1 then((laws_lnInts.f k l0_2 l1_2).bind fun t508=>(some t508)) else(some false)) else(some false))=some r:=h
 clear h
 by_cases c3:a0_0=a1_0
 ·rw[if_pos c3] at H
  have c3b0:(a0_0 == a1_0)=true:=beq_iff_eq.mpr c3
  have c3b1:(a0_0 != a1_0)=false:=bne_eq_false_iff_eq.mpr c3
  clear c3
  by_cases c4:a0_1=a1_1
  ·rw[if_pos c4] at H
   have c4b0:(a0_1 == a1_1)=true:=beq_iff_eq.mpr c4
   have c4b1:(a0_1 != a1_1)=false:=bne_eq_false_iff_eq.mpr c4
   clear c4
   replace H:=Option.bind_eq_some_iff.mp H
   obtain⟨t508,A50,H⟩:=H
   replace H:(some t508)=some r:=H
   have A5:=qal.mk A50
   clear A50
   obtain rfl:=Option.some.inj H
   go_enter Try.func126,Try.ntmps126
   go_wp2_with(first|((with_reducible refine qak (N:=2) rfl ?_);refine qaj ?hg (N:=2) ?hd (cs:=#[.int .i64 a0_0,.int .i64 a0_1,.slice A0_2 l0_2.length c0_2]) (t:=62) ?hr ?_;(case hd=>rfl);(case hg=>rfl);(case hr=>first|(go_simp;done)|(go_simp;rfl));intro gb506 hg w6 hbox hb;have n0_:=qal.mk (qae (za2 HB) hb);have n1_:=qal.mk (hbox);have n2_:=qal.mk ((by rw[hg];exact(qad (za2 HB)):w.heap.size≤gb506));have n3_:=qal.mk ((by rw[hg];exact(qad (za2 HB)):w.heap.size≤gb506));clear HB;have HB:=n0_;have BK506:=n1_;have GW506:=n2_;have GE506:=n3_;clear n0_ n1_ n2_ n3_;clear hb hbox hg)|((with_reducible refine qak (N:=3) rfl ?_);refine qaj ?hg (N:=3) ?hd (cs:=#[.int .i64 a1_0,.int .i64 a1_1,.slice A1_2 l1_2.length c1_2]) (t:=62) ?hr ?_;(case hd=>rfl);(case hg=>rfl);(case hr=>first|(go_simp;done)|(go_simp;rfl));intro gb507 hg w7 hbox hb;have n0_:=qal.mk (qac (g:=gb506) (o:=.cells #[.int .i64 a0_0,.int .i64 a0_1,.slice A0_2 l0_2.length c0_2] 62 (0,0)) (za0 BK506) hb);have n1_:=qal.mk (qae (za1 HB GE506) hb);have n2_:=qal.mk (hbox);have n3_:=qal.mk ((by rw[hg];exact(qad (za1 HB GE506)):w.heap.size≤gb507));have n4_:=qal.mk ((by rw[hg];exact(qad (za1 HB GE506)):w.heap.size≤gb507));have n5_:=qal.mk ((by rw[hg];exact Nat.ne_of_lt (qao (g:=gb506) (o:=.cells #[.int .i64 a0_0,.int .i64 a0_1,.slice A0_2 l0_2.length c0_2] 62 (0,0)) (za0 BK506)):gb506≠gb507));have n6_:=qal.mk ((by rw[hg];exact Nat.ne_of_gt (qao (g:=gb506) (o:=.cells #[.int .i64 a0_0,.int .i64 a0_1,.slice A0_2 l0_2.length c0_2] 62 (0,0)) (za0 BK506)):gb507≠gb506));clear BK506;clear HB;have BK506:=n0_;have HB:=n1_;have BK507:=n2_;have GW507:=n3_;have GE507:=n4_;have NB506_507:=n5_;have NB507_506:=n6_;clear n0_ n1_ n2_ n3_ n4_ n5_ n6_;clear hb hbox hg;have hnb8:=NB506_507.out;have hnc8:=NB507_506.out;have hcz9_0:w7.cell? ⟨gb506,0,none⟩=some (.int .i64 a0_0):=(qab BK506.out 0).trans rfl;have hcz9_1:w7.cell? ⟨gb506,1,none⟩=some (.int .i64 a0_1):=(qab BK506.out 1).trans rfl;have hcz9_2:w7.cell? ⟨gb506,2,none⟩=some (.slice A0_2 l0_2.length c0_2):=(qab BK506.out 2).trans rfl;have hfz9_0:=qaa BK506.out 0;have hfz9_1:=qaa BK506.out 1;have hfz9_2:=qaa BK506.out 2;have hcz10_0:w7.cell? ⟨gb507,0,none⟩=some (.int .i64 a1_0):=(qab BK507.out 0).trans rfl;have hcz10_1:w7.cell? ⟨gb507,1,none⟩=some (.int .i64 a1_1):=(qab BK507.out 1).trans rfl;have hcz10_2:w7.cell? ⟨gb507,2,none⟩=some (.slice A1_2 l1_2.length c1_2):=(qab BK507.out 2).trans rfl;have hfz10_0:=qaa BK507.out 0;have hfz10_1:=qaa BK507.out 1;have hfz10_2:=qaa BK507.out 2)|(go_at_call 100;(with_reducible refine(laws_lnInts.calls k _ _ l0_2 _ _ l1_2 t508 _ ?side1 ?side2 ?side3 ?side4 A5.out).mono ?_);(case side1=>repeat(first|exact(Kd.C_below HR0_2.out HB.out)|(with_reducible refine Kd.C_alloc ?_ _)|(with_reducible refine Kd.C_drewN ?_ _)|(with_reducible refine Kd.C_drew ?_)));(case side2=>exact HC0_2.out);(case side3=>repeat(first|exact(Kd.C_below HR1_2.out HB.out)|(with_reducible refine Kd.C_alloc ?_ _)|(with_reducible refine Kd.C_drewN ?_ _)|(with_reducible refine Kd.C_drew ?_)));(case side4=>exact HC1_2.out);rintro e w' ⟨rfl,⟨nd,rfl⟩⟩))
   go_ret
   exact⟨za9,za3 HB GE506 GE507⟩
  ·rw[if_neg c4] at H
   have c4b0:(a0_1 == a1_1)=false:=beq_eq_false_iff_ne.mpr c4
   have c4b1:(a0_1 != a1_1)=true:=bne_iff_ne.mpr c4
   obtain rfl:=Option.some.inj H
   go_enter Try.func126,Try.ntmps126
   go_wp2_with(first|((with_reducible refine qak (N:=2) rfl ?_);refine qaj ?hg (N:=2) ?hd (cs:=#[.int .i64 a0_0,.int .i64 a0_1,.slice A0_2 l0_2.length c0_2]) (t:=62) ?hr ?_;(case hd=>rfl);(case hg=>rfl);(case hr=>first|(go_simp;done)|(go_simp;rfl));intro gb506 hg w11 hbox hb;have n0_:=qal.mk (qae (za2 HB) hb);have n1_:=qal.mk (hbox);have n2_:=qal.mk ((by rw[hg];exact(qad (za2 HB)):w.heap.size≤gb506));have n3_:=qal.mk ((by rw[hg];exact(qad (za2 HB)):w.heap.size≤gb506));clear HB;have HB:=n0_;have BK506:=n1_;have GW506:=n2_;have GE506:=n3_;clear n0_ n1_ n2_ n3_;clear hb hbox hg)|((with_reducible refine qak (N:=3) rfl ?_);refine qaj ?hg (N:=3) ?hd (cs:=#[.int .i64 a1_0,.int .i64 a1_1,.slice A1_2 l1_2.length c1_2]) (t:=62) ?hr ?_;(case hd=>rfl);(case hg=>rfl);(case hr=>first|(go_simp;done)|(go_simp;rfl));intro gb507 hg w12 hbox hb;have n0_:=qal.mk (qac (g:=gb506) (o:=.cells #[.int .i64 a0_0,.int .i64 a0_1,.slice A0_2 l0_2.length c0_2] 62 (0,0)) (za0 BK506) hb);have n1_:=qal.mk (qae (za1 HB GE506) hb);have n2_:=qal.mk (hbox);have n3_:=qal.mk ((by rw[hg];exact(qad (za1 HB GE506)):w.heap.size≤gb507));have n4_:=qal.mk ((by rw[hg];exact(qad (za1 HB GE506)):w.heap.size≤gb507));have n5_:=qal.mk ((by rw[hg];exact Nat.ne_of_lt (qao (g:=gb506) (o:=.cells #[.int .i64 a0_0,.int .i64 a0_1,.slice A0_2 l0_2.length c0_2] 62 (0,0)) (za0 BK506)):gb506≠gb507));have n6_:=qal.mk ((by rw[hg];exact Nat.ne_of_gt (qao (g:=gb506) (o:=.cells #[.int .i64 a0_0,.int .i64 a0_1,.slice A0_2 l0_2.length c0_2] 62 (0,0)) (za0 BK506)):gb507≠gb506));clear BK506;clear HB;have BK506:=n0_;have HB:=n1_;have BK507:=n2_;have GW507:=n3_;have GE507:=n4_;have NB506_507:=n5_;have NB507_506:=n6_;clear n0_ n1_ n2_ n3_ n4_ n5_ n6_;clear hb hbox hg;have hnb13:=NB506_507.out;have hnc13:=NB507_506.out;have hcz14_0:w12.cell? ⟨gb506,0,none⟩=some (.int .i64 a0_0):=(qab BK506.out 0).trans rfl;have hcz14_1:w12.cell? ⟨gb506,1,none⟩=some (.int .i64 a0_1):=(qab BK506.out 1).trans rfl;have hcz14_2:w12.cell? ⟨gb506,2,none⟩=some (.slice A0_2 l0_2.length c0_2):=(qab BK506.out 2).trans rfl;have hfz14_0:=qaa BK506.out 0;have hfz14_1:=qaa BK506.out 1;have hfz14_2:=qaa BK506.out 2;have hcz15_0:w12.cell? ⟨gb507,0,none⟩=some (.int .i64 a1_0):=(qab BK507.out 0).trans rfl;have hcz15_1:w12.cell? ⟨gb507,1,none⟩=some (.int .i64 a1_1):=(qab BK507.out 1).trans rfl;have hcz15_2:w12.cell? ⟨gb507,2,none⟩=some (.slice A1_2 l1_2.length c1_2):=(qab BK507.out 2).trans rfl;have hfz15_0:=qaa BK507.out 0;have hfz15_1:=qaa BK507.out 1;have hfz15_2:=qaa BK507.out 2))
   go_ret
   exact⟨za9,za3 HB GE506 GE507⟩
 ·rw[if_neg c3] at H
  have c3b0:(a0_0 == a1_0)=false:=beq_eq_false_iff_ne.mpr c3
  have c3b1:(a0_0 != a1_0)=true:=bne_iff_ne.mpr c3
  obtain rfl:=Option.some.inj H
  go_enter Try.func126,Try.ntmps126
  go_wp2_with(first|((with_reducible refine qak (N:=2) rfl ?_);refine qaj ?hg (N:=2) ?hd (cs:=#[.int .i64 a0_0,.int .i64 a0_1,.slice A0_2 l0_2.length c0_2]) (t:=62) ?hr ?_;(case hd=>rfl);(case hg=>rfl);(case hr=>first|(go_simp;done)|(go_simp;rfl));intro gb506 hg w16 hbox hb;have n0_:=qal.mk (qae (za2 HB) hb);have n1_:=qal.mk (hbox);have n2_:=qal.mk ((by rw[hg];exact(qad (za2 HB)):w.heap.size≤gb506));have n3_:=qal.mk ((by rw[hg];exact(qad (za2 HB)):w.heap.size≤gb506));clear HB;have HB:=n0_;have BK506:=n1_;have GW506:=n2_;have GE506:=n3_;clear n0_ n1_ n2_ n3_;clear hb hbox hg)|((with_reducible refine qak (N:=3) rfl ?_);refine qaj ?hg (N:=3) ?hd (cs:=#[.int .i64 a1_0,.int .i64 a1_1,.slice A1_2 l1_2.length c1_2]) (t:=62) ?hr ?_;(case hd=>rfl);(case hg=>rfl);(case hr=>first|(go_simp;done)|(go_simp;rfl));intro gb507 hg w17 hbox hb;have n0_:=qal.mk (qac (g:=gb506) (o:=.cells #[.int .i64 a0_0,.int .i64 a0_1,.slice A0_2 l0_2.length c0_2] 62 (0,0)) (za0 BK506) hb);have n1_:=qal.mk (qae (za1 HB GE506) hb);have n2_:=qal.mk (hbox);have n3_:=qal.mk ((by rw[hg];exact(qad (za1 HB GE506)):w.heap.size≤gb507));have n4_:=qal.mk ((by rw[hg];exact(qad (za1 HB GE506)):w.heap.size≤gb507));have n5_:=qal.mk ((by rw[hg];exact Nat.ne_of_lt (qao (g:=gb506) (o:=.cells #[.int .i64 a0_0,.int .i64 a0_1,.slice A0_2 l0_2.length c0_2] 62 (0,0)) (za0 BK506)):gb506≠gb507));have n6_:=qal.mk ((by rw[hg];exact Nat.ne_of_gt (qao (g:=gb506) (o:=.cells #[.int .i64 a0_0,.int .i64 a0_1,.slice A0_2 l0_2.length c0_2] 62 (0,0)) (za0 BK506)):gb507≠gb506));clear BK506;clear HB;have BK506:=n0_;have HB:=n1_;have BK507:=n2_;have GW507:=n3_;have GE507:=n4_;have NB506_507:=n5_;have NB507_506:=n6_;clear n0_ n1_ n2_ n3_ n4_ n5_ n6_;clear hb hbox hg;have hnb18:=NB506_507.out;have hnc18:=NB507_506.out;have hcz19_0:w17.cell? ⟨gb506,0,none⟩=some (.int .i64 a0_0):=(qab BK506.out 0).trans rfl;have hcz19_1:w17.cell? ⟨gb506,1,none⟩=some (.int .i64 a0_1):=(qab BK506.out 1).trans rfl;have hcz19_2:w17.cell? ⟨gb506,2,none⟩=some (.slice A0_2 l0_2.length c0_2):=(qab BK506.out 2).trans rfl;have hfz19_0:=qaa BK506.out 0;have hfz19_1:=qaa BK506.out 1;have hfz19_2:=qaa BK506.out 2;have hcz20_0:w17.cell? ⟨gb507,0,none⟩=some (.int .i64 a1_0):=(qab BK507.out 0).trans rfl;have hcz20_1:w17.cell? ⟨gb507,1,none⟩=some (.int .i64 a1_1):=(qab BK507.out 1).trans rfl;have hcz20_2:w17.cell? ⟨gb507,2,none⟩=some (.slice A1_2 l1_2.length c1_2):=(qab BK507.out 2).trans rfl;have hfz20_0:=qaa BK507.out 0;have hfz20_1:=qaa BK507.out 1;have hfz20_2:=qaa BK507.out 2))
  go_ret
  exact⟨za9,za3 HB GE506 GE507⟩
end Go.Proofs.Ytjccnaklodbbfaa.Print
