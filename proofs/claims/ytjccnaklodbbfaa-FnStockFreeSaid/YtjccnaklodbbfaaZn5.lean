-- Written by squeeze.py, a program of this session, out of what print.sh and myprint.py had printed: cut to what is used, narrowed. Not trusted, Lean checks it.
import Derived.Test.YtjccnaklodbbfaaZK
import Derived.Test.YtjccnaklodbbfaaZg0
import Derived.Test.YtjccnaklodbbfaaZn2
import Derived.Test.YtjccnaklodbbfaaZn4
namespace Go.Proofs.Ytjccnaklodbbfaa.Print
open Go.RowKit Go.Proofs.YtjccnaklodbbfaaW.PrintWords Go.Proofs.YtjccnaklodbbfaaW.PrintLast Go.Proofs.YtjccnaklodbbfaaW.PrintMore
attribute [local go_sem] max2_int min2_int max_two min_two max_three min_three max_four min_four
set_option linter.unusedVariables false
set_option linter.unusedSimpArgs false
theorem zb19_1Stock {p_ q0_ q1_ q2_ q3_ : Prop} (h0_ : qal q0_) (h1_ : qal q1_) (h2_ : qal q2_) (h3_ : qal q3_) (r_ : q0_ → q1_ → q2_ → q3_ → p_ := by intro h0_ h1_ h2_ h3_; repeat(first|(with_reducible first|exact h0_|apply qar|apply qap|apply qaq|refine qam ?_ (IsS122.ge h1_)|refine qam ?_ h2_|refine qam ?_ h3_)|exact h0_)) : p_ := r_ h0_.out h1_.out h2_.out h3_.out
theorem zb25_1Stock {p_ q0_ q1_ : Prop} (h0_ : qal q0_) (h1_ : qal q1_) (r_ : q0_ → q1_ → p_ := by intro h0_ h1_; repeat(first|(with_reducible first|exact h0_|apply qar|apply qap|apply qaq|refine qam ?_ (IsS122.ge h1_))|exact h0_)) : p_ := r_ h0_.out h1_.out
theorem zb29_1Stock {p_ q0_ : Prop} (h0_ : qal q0_) (r_ : q0_ → p_ := by intro h0_; repeat(first|(with_reducible first|exact h0_|apply IsS122.alloc|apply IsS122.drewN|apply IsS122.drew|apply IsS122.set_1)|exact h0_)) : p_ := r_ h0_.out
theorem zb32_1Stock {p_ q0_ q1_ q2_ : Prop} (h0_ : qal q0_) (h1_ : qal q1_) (h2_ : qal q2_) (r_ : q0_ → q1_ → q2_ → p_ := by intro h0_ h1_ h2_; repeat(first|(with_reducible first|exact h0_|apply qar|apply qap|apply qaq|refine qam ?_ (IsS122.ge h1_)|refine qam ?_ h2_)|exact h0_)) : p_ := r_ h0_.out h1_.out h2_.out
theorem zb35_1Stock {p_ q0_ q1_ q2_ : Prop} (h0_ : qal q0_) (h1_ : qal q1_) (h2_ : qal q2_) (r_ : q0_ → q1_ → q2_ → p_ := by intro h0_ h1_ h2_; repeat(first|(with_reducible first|exact h0_|apply IsS122.alloc|apply IsS122.drewN|apply IsS122.drew|apply IsS122.set_1|refine IsS122.far ?_ h1_ _|refine IsS122.far ?_ h2_ _)|exact h0_)) : p_ := r_ h0_.out h1_.out h2_.out
theorem zb40_1Stock {p_ q0_ q1_ : Prop} (h0_ : qal q0_) (h1_ : qal q1_) (r_ : q0_ → q1_ → p_ := by intro h0_ h1_; repeat(first|(with_reducible first|exact h0_|apply IsS122.alloc|apply IsS122.drewN|apply IsS122.drew|apply IsS122.set_1|refine IsS122.far ?_ h1_ _)|exact h0_)) : p_ := r_ h0_.out h1_.out
def spec_l71Stock.f (k:Nat) (s0_0:List Int) (s0_1:Int):Option (Int × (List (S46)) × Int):=(spec_l71Recs.f k s0_0 s0_1).bind fun bt411=>((spec_StockOf.f k bt411.1 bt411.2.1).bind fun bt416=>((spec_l6Rd_pick.f k s0_0 bt411.2.2 20).bind fun bt422=>(if bt422.1=0 then((some (([(-1),0,10]:List Int):List Int)).bind fun y424=>((spec_l6Rd_pick.f k s0_0 bt422.2 3).bind fun bt427=>(if 0≤bt427.1 then(if bt427.1<(y424.length:Int) then(some (rd y424 bt427.1,bt416.2.1,bt427.2)) else(none)) else(none)))) else(if bt422.1=1 then((spec_l6Rd_pick.f k s0_0 bt422.2 (bt416.2.1.length:Int)).bind fun bt430=>((spec_l6Rd_pick.f k s0_0 bt430.2 5).bind fun bt432=>((spec_l6Rd_pick.f k s0_0 bt432.2 5).bind fun bt434=>(if 0≤bt430.1 then(if bt430.1<(bt416.2.1.length:Int) then(some (bt416.1,(bt416.2.1.set (bt430.1:Int).toNat (⟨bt432.1,bt434.1⟩:S46)),bt434.2)) else(none)) else(none))))) else(if bt422.1=2 then(if 1≤(bt416.2.1.length:Int) then(some (bt416.1,(bt416.2.1.drop (1:Int).toNat),bt422.2)) else(none)) else(some (bt416.1,bt416.2.1,bt422.2)))))))
theorem spec_l71Stock.mono:∀a0 a1 k,LeO (spec_l71Stock.f k a0 a1) (spec_l71Stock.f (k+1) a0 a1):=by
 intro a0 a1 k
 unfold spec_l71Stock.f
 repeat' first
   |(with_reducible exact spec_StockOf.mono _ _ _)
   |(with_reducible exact spec_l6Rd_pick.mono _ _ _ _)
   |(with_reducible exact spec_l71Recs.mono _ _ _)
   |(with_reducible exact LeO.refl _)
   |(with_reducible exact LeO.none _)
   |(with_reducible refine LeO.ite ?_ ?_)
   |(with_reducible refine LeO.bind ?_ (fun _=>?_))
   |exact spec_StockOf.mono _ _ _
   |exact spec_l6Rd_pick.mono _ _ _ _
   |exact spec_l71Recs.mono _ _ _
   |exact LeO.none _
   |refine LeO.ite ?_ ?_
   |refine LeO.bind ?_ (fun _=>?_)
def spec_l71Stock.T7:Bool × List (List Nat × List Nat):=(true,[([],[]),([0],[0]),([],[]),([],[]),([3],[3]),([4],[4]),([2,5],[2,5]),([],[]),([7,6],[7]),([],[]),([9,8],[9]),([8,10],[8,10]),([1,6,0,1,2,3,4,5,6,7,8,9,10,11],[1,6]),([12,11,10,0,1,2,3,4,5,6,7,8,9,10,11],[11,12])])
def spec_l71Stock.B7:List Nat:=[0,1,0,0,8,24,60,0,252,0,1020,2044,4095,8191]
theorem spec_l71Stock.tab7:rtab .any (opsOf Try.f71 7)=spec_l71Stock.T7:=by kernel_rfl
theorem spec_l71Stock.bits7:waitsOk spec_l71Stock.T7.2 spec_l71Stock.B7=true:=by kernel_rfl
set_option maxHeartbeats 8000000 in
set_option maxRecDepth 100000 in
theorem spec_l71Stock.calls (k:Nat) (g:Nat) (s0_0:List Int) (s0_1:Int) (r1:Int) (r2:List (S46)) (r3:Int) (w0 w:World) (hI:IsS122 w0 w g s0_0 s0_1) (hB:Below w0.heap.size w0 w) (h:spec_l71Stock.f k s0_0 s0_1=some (r1,r2,r3)) :
  Calls Try.prog 71 #[.pointer (some ⟨g,0,none⟩)] w fun e w'=>∃v1_:Value,e=.returned (.agg #[.int .i64 r1,v1_])∧Kd.Q k46 46 w' w.heap.size (fun _=>True) v1_ r2∧IsS122 w0 w' g s0_0 r3∧Below w0.heap.size w0 w'∧KeepBut w w' g none:=by
 have hu36:=Try.underlying36
 have hu46:=Try.underlying46
 have HI0:=qal.mk hI
 have HK:=qal.mk (KeepBut.refl w g none)
 have HL:=qal.mk hB.size
 clear hI
 have HW0:=qal.mk hB.size
 have HB:=qal.mk hB
 clear hB
 have H:((spec_l71Recs.f k s0_0 s0_1).bind fun bt411=>((spec_StockOf.f k bt411.1 bt411.2.1).bind fun bt416=>((spec_l6Rd_pick.f k s0_0 bt411.2.2 20).bind fun bt422=>(if bt422.1=0 then((some (([(-1),0,10]:List Int):List Int)).bind fun y424=>((spec_l6Rd_pick.f k s0_0 bt422.2 3).bind fun bt427=>(if 0≤bt427.1 then(if bt427.1<(y424.length:Int) then(some (rd y424 bt427.1,bt416.2.1,bt427.2)) else(none)) else(none)))) else(if bt422.1=1 then((spec_l6Rd_pick.f k s0_0 bt422.2 (bt416.2.1.length:Int)).bind fun bt430=>((spec_l6Rd_pick.f k s0_0 bt430.2 5).bind fun bt432=>((spec_l6Rd_pick.f k s0_0 bt432.2 5).bind fun bt434=>(if 0≤bt430.1 then(if bt430.1<(bt416.2.1.length:Int) then(some (bt416.1,(bt416.2.1.set (bt430.1:Int).toNat (⟨bt432.1,bt434.1⟩:S46)),bt434.2)) else(none)) else(none))))) else(if bt422.1=2 then(if 1≤(bt416.2.1.length:Int) then(some (bt416.1,(bt416.2.1.drop (1:Int).toNat),bt422.2)) else(none)) else(some (bt416.1,bt416.2.1,bt422.2))))))))=some (r1,r2,r3):=h
 clear h
 replace H:=Option.bind_eq_some_iff.mp H
 obtain⟨⟨t411,t412,t415⟩,A20,H⟩:=H
 replace H:((spec_StockOf.f k t411 t412).bind fun bt416=>((spec_l6Rd_pick.f k s0_0 t415 20).bind fun bt422=>(if bt422.1=0 then((some (([(-1),0,10]:List Int):List Int)).bind fun y424=>((spec_l6Rd_pick.f k s0_0 bt422.2 3).bind fun bt427=>(if 0≤bt427.1 then(if bt427.1<(y424.length:Int) then(some (rd y424 bt427.1,bt416.2.1,bt427.2)) else(none)) else(none)))) else(if bt422.1=1 then((spec_l6Rd_pick.f k s0_0 bt422.2 (bt416.2.1.length:Int)).bind fun bt430=>((spec_l6Rd_pick.f k s0_0 bt430.2 5).bind fun bt432=>((spec_l6Rd_pick.f k s0_0 bt432.2 5).bind fun bt434=>(if 0≤bt430.1 then(if bt430.1<(bt416.2.1.length:Int) then(some (bt416.1,(bt416.2.1.set (bt430.1:Int).toNat (⟨bt432.1,bt434.1⟩:S46)),bt434.2)) else(none)) else(none))))) else(if bt422.1=2 then(if 1≤(bt416.2.1.length:Int) then(some (bt416.1,(bt416.2.1.drop (1:Int).toNat),bt422.2)) else(none)) else(some (bt416.1,bt416.2.1,bt422.2)))))))=some (r1,r2,r3):=H
 have A2:=qal.mk A20
 clear A20
 replace H:=Option.bind_eq_some_iff.mp H
 obtain⟨⟨t416,t417,t420⟩,A30,H⟩:=H
 replace H:((spec_l6Rd_pick.f k s0_0 t415 20).bind fun bt422=>(if bt422.1=0 then((some (([(-1),0,10]:List Int):List Int)).bind fun y424=>((spec_l6Rd_pick.f k s0_0 bt422.2 3).bind fun bt427=>(if 0≤bt427.1 then(if bt427.1<(y424.length:Int) then(some (rd y424 bt427.1,t417,bt427.2)) else(none)) else(none)))) else(if bt422.1=1 then((spec_l6Rd_pick.f k s0_0 bt422.2 (t417.length:Int)).bind fun bt430=>((spec_l6Rd_pick.f k s0_0 bt430.2 5).bind fun bt432=>((spec_l6Rd_pick.f k s0_0 bt432.2 5).bind fun bt434=>(if 0≤bt430.1 then(if bt430.1<(t417.length:Int) then(some (t416,(t417.set (bt430.1:Int).toNat (⟨bt432.1,bt434.1⟩:S46)),bt434.2)) else(none)) else(none))))) else(if bt422.1=2 then(if 1≤(t417.length:Int) then(some (t416,(t417.drop (1:Int).toNat),bt422.2)) else(none)) else(some (t416,t417,bt422.2))))))=some (r1,r2,r3):=H
 have A3:=qal.mk A30
 clear A30
 replace H:=Option.bind_eq_some_iff.mp H
 obtain⟨⟨t422,t423⟩,A40,H⟩:=H
 replace H:(if t422=0 then((some (([(-1),0,10]:List Int):List Int)).bind fun y424=>((spec_l6Rd_pick.f k s0_0 t423 3).bind fun bt427=>(if 0≤bt427.1 then(if bt427.1<(y424.length:Int) then(some (rd y424 bt427.1,t417,bt427.2)) else(none)) else(none)))) else(if t422=1 then((spec_l6Rd_pick.f k s0_0 t423 (t417.length:Int)).bind fun bt430=>((spec_l6Rd_pick.f k s0_0 bt430.2 5).bind fun bt432=>((spec_l6Rd_pick.f k s0_0 bt432.2 5).bind fun bt434=>(if 0≤bt430.1 then(if bt430.1<(t417.length:Int) then(some (t416,(t417.set (bt430.1:Int).toNat (⟨bt432.1,bt434.1⟩:S46)),bt434.2)) else(none)) else(none))))) else(if t422=2 then(if 1≤(t417.length:Int) then(some (t416,(t417.drop (1:Int).toNat),t423)) else(none)) else(some (t416,t417,t423)))))=some (r1,r2,r3):=H
 have A4:=qal.mk A40
 clear A40
 by_cases c5:t422=0
 ·rw[if_pos c5] at H
  have c5b0:(t422 == 0)=true:=beq_iff_eq.mpr c5
  have c5b1:(t422 != 0)=false:=bne_eq_false_iff_eq.mpr c5
  clear c5
  obtain⟨y424,hy424⟩:∃y_:List Int,y_=(([(-1),0,10]:List Int)):=⟨_,rfl⟩
  replace H:((spec_l6Rd_pick.f k s0_0 t423 3).bind fun bt427=>(if 0≤bt427.1 then(if bt427.1<(y424.length:Int) then(some (rd y424 bt427.1,t417,bt427.2)) else(none)) else(none)))=some (r1,r2,r3):=by first|(rw[hy424];with_reducible exact H)|(have H2_:=(Option.bind_some _ _).symm.trans H;rw[hy424];with_reducible exact H2_)|(have H2_:=(Option.bind_some _ _).symm.trans H;with_reducible exact H2_)|with_reducible exact H|(rw[hy424];exact H)|exact H
  have Ny424:=qal.mk hy424
  clear hy424
  replace H:=Option.bind_eq_some_iff.mp H
  obtain⟨⟨t427,t428⟩,A60,H⟩:=H
  replace H:(if 0≤t427 then(if t427<(y424.length:Int) then(some (rd y424 t427,t417,t428)) else(none)) else(none))=some (r1,r2,r3):=H
  have A6:=qal.mk A60
  clear A60
  by_cases c7:0≤t427
  ·rw[if_pos c7] at H
   have c7b0:decide (0≤t427)=true:=decide_eq_true c7
   clear c7
   by_cases c8:t427<(y424.length:Int)
   ·rw[if_pos c8] at H
    have c8b0:decide (t427<(y424.length:Int))=true:=decide_eq_true c8
    clear c8
    simp only[Option.some.injEq,Prod.mk.injEq] at H
    obtain⟨rfl,rfl,rfl⟩:=H
    go_enter Try.func71,Try.ntmps71
    go_wp2_with(first|((with_reducible refine qak (N:=2) rfl ?_);refine qaj ?hg (N:=2) ?hd (cs:=#[.int .i64 0,.slice none 0 0]) (t:=36) ?hr ?_;(case hd=>rfl);(case hg=>rfl);(case hr=>first|(go_simp;done)|(go_simp;rfl));intro gb410 hg w9 hbox hb;have n0_:=qal.mk (IsS122.below (zb29_1Stock HI0) hb);have n1_:=qal.mk (KeepBut.trans (za12 HK) (KeepBut.of_below hb g none) (.inl rfl));have n2_:=qal.mk (qae (zb25_1Stock HB HI0) hb);have n3_:=qal.mk (hbox);have n4_:=qal.mk ((by rw[hg];exact(qba (w:=w) (g:=g) (row:=none) (za12 HK)):w.heap.size≤gb410));have n5_:=qal.mk ((Nat.le_trans HW0.out (by rw[hg];exact(qba (w:=w) (g:=g) (row:=none) (za12 HK)):w.heap.size≤gb410):w0.heap.size≤gb410));have n6_:=qal.mk ((by rw[hg];exact Nat.ne_of_lt (IsS122.lt (show IsS122 w0 _ g s0_0 s0_1 from by repeat(first|(with_reducible first|exact HI0.out|apply IsS122.alloc|apply IsS122.drewN|apply IsS122.drew|apply IsS122.set_1)|exact HI0.out))):g≠gb410));have n7_:=qal.mk ((by rw[hg];exact Nat.ne_of_gt (IsS122.lt (show IsS122 w0 _ g s0_0 s0_1 from by repeat(first|(with_reducible first|exact HI0.out|apply IsS122.alloc|apply IsS122.drewN|apply IsS122.drew|apply IsS122.set_1)|exact HI0.out))):gb410≠g));clear HI0;clear HK;clear HB;have HI0:=n0_;have HK:=n1_;have HB:=n2_;have BK410:=n3_;have GW410:=n4_;have GE410:=n5_;have NB0_410:=n6_;have NB410_0:=n7_;clear n0_ n1_ n2_ n3_ n4_ n5_ n6_ n7_;clear hb hbox hg)|((with_reducible refine qai (f:=106) rfl ?_);refine qau (some 9) rfl rfl Try.func106 (by kernel_rfl) rfl #[.pointer (some ⟨g,0,none⟩)] rfl (by(try simp only[List.map_toArray,List.map_cons,List.map_nil]);first|done|rfl|(simp only[List.length_drop,List.length_take];rfl)) ?_;(with_reducible refine(spec_l71Recs.calls k g s0_0 s0_1 t411 t412 t415 w0 _ ?side1 ?side2 A2.out).mono ?_);(case side1=>repeat(first|(with_reducible first|exact HI0.out|apply IsS122.alloc|apply IsS122.drewN|apply IsS122.drew|apply IsS122.set_1|refine IsS122.far ?_ NB0_410.out _)|exact HI0.out));(case side2=>repeat(first|(with_reducible first|exact HB.out|apply qar|apply qap|apply qaq|refine qam ?_ (IsS122.ge HI0.out)|refine qam ?_ GE410.out)|exact HB.out));rintro e w10 ⟨v413,rfl,ho0,hi,hb,hk⟩;refine⟨_,rfl,?_⟩;have n0_:=qal.mk (KeepBut.blk hk (g':=gb410) (o:=.cells #[.int .i64 0,.slice none 0 0] 36 (0,0)) (za0 BK410) NB410_0.out (by simp));have n1_:=qal.mk (Kd.S_lower ho0 (qba (w:=w) (g:=g) (row:=none) (za15 HK GW410)));have n2_:=qal.mk (KeepBut.trans (za15 HK GW410) hk (.inl rfl));have n3_:=qal.mk (hb);have n4_:=qal.mk (hi);clear BK410;clear HK;clear HB;clear HI0;have BK410:=n0_;have HO414:=n1_;have HK:=n2_;have HB:=n3_;have HI0:=n4_;clear n0_ n1_ n2_ n3_ n4_;(try clear hb);(try clear hb2);(try clear hk);(try clear hi);(try clear ho0);obtain⟨Ao11,co11,eo11⟩:=Kd.S_slice HO414.out;subst eo11)|((with_reducible refine qai (f:=107) rfl ?_);refine qau (some 15) rfl rfl Try.func107 (by kernel_rfl) rfl #[.int .i64 t411,.slice Ao11 t412.length co11] rfl (by(try simp only[List.map_toArray,List.map_cons,List.map_nil]);first|done|rfl|(simp only[List.length_drop,List.length_take];rfl)) ?_;(with_reducible refine(spec_StockOf.calls k t411 _ _ t412 t416 t417 t420 _ ?side1 ?side2 A3.out).mono ?_);(case side1=>repeat(first|exact(Kd.S_reads' HO414.out).2.2|(with_reducible refine Kd.C_alloc ?_ _)|(with_reducible refine Kd.C_drewN ?_ _)|(with_reducible refine Kd.C_drew ?_)));(case side2=>exact(Kd.S_reads' HO414.out).2.1);rintro e w12 ⟨v418,rfl,ho0,hb⟩;refine⟨_,rfl,?_⟩;have n0_:=qal.mk (Kd.S_below (za10 HO414) hb);have n1_:=qal.mk (Kd.R_lower ho0 (qba (w:=w) (g:=g) (row:=none) (za15 HK GW410)));have n2_:=qal.mk (IsS122.below (zb40_1Stock HI0 NB0_410) hb);have n3_:=qal.mk (qac (g:=gb410) (o:=.cells #[.int .i64 0,.slice none 0 0] 36 (0,0)) (za0 BK410) hb);have n4_:=qal.mk (KeepBut.trans (za15 HK GW410) (KeepBut.of_below hb g none) (.inl rfl));have n5_:=qal.mk (qae (zb32_1Stock HB HI0 GE410) hb);clear HO414;clear HI0;clear BK410;clear HK;clear HB;have HO414:=n0_;have HO419:=n1_;have HI0:=n2_;have BK410:=n3_;have HK:=n4_;have HB:=n5_;clear n0_ n1_ n2_ n3_ n4_ n5_;(try clear hb);(try clear hb2);(try clear hk);(try clear hi);(try clear ho0))|((with_reducible refine qak (N:=5) rfl ?_);refine qaj ?hg (N:=5) ?hd (cs:=#[.int .i64 0,.slice none 0 0]) (t:=36) ?hr ?_;(case hd=>rfl);(case hg=>rfl);(case hr=>first|(go_simp;done)|(go_simp;rfl));intro gb421 hg w13 hbox hb;have n0_:=qal.mk (Kd.S_below (za10 HO414) hb);have n1_:=qal.mk (Kd.R_below (za4 HO419) hb);have n2_:=qal.mk (IsS122.below (zb40_1Stock HI0 NB0_410) hb);have n3_:=qal.mk (qac (g:=gb410) (o:=.cells #[.int .i64 0,.slice none 0 0] 36 (0,0)) (za0 BK410) hb);have n4_:=qal.mk (KeepBut.trans (za15 HK GW410) (KeepBut.of_below hb g none) (.inl rfl));have n5_:=qal.mk (qae (zb32_1Stock HB HI0 GE410) hb);have n6_:=qal.mk (hbox);have n7_:=qal.mk ((by rw[hg];exact(qba (w:=w) (g:=g) (row:=none) (za15 HK GW410)):w.heap.size≤gb421));have n8_:=qal.mk ((Nat.le_trans HW0.out (by rw[hg];exact(qba (w:=w) (g:=g) (row:=none) (za15 HK GW410)):w.heap.size≤gb421):w0.heap.size≤gb421));have n9_:=qal.mk ((by rw[hg];exact Nat.ne_of_lt (qao (g:=gb410) (o:=.cells #[.int .i64 0,.slice none 0 0] 36 (0,0)) (za0 BK410)):gb410≠gb421));have n10_:=qal.mk ((by rw[hg];exact Nat.ne_of_gt (qao (g:=gb410) (o:=.cells #[.int .i64 0,.slice none 0 0] 36 (0,0)) (za0 BK410)):gb421≠gb410));have n11_:=qal.mk ((by rw[hg];exact Nat.ne_of_lt (IsS122.lt (show IsS122 w0 _ g s0_0 t415 from by repeat(first|(with_reducible first|exact HI0.out|apply IsS122.alloc|apply IsS122.drewN|apply IsS122.drew|apply IsS122.set_1|refine IsS122.far ?_ NB0_410.out _)|exact HI0.out))):g≠gb421));have n12_:=qal.mk ((by rw[hg];exact Nat.ne_of_gt (IsS122.lt (show IsS122 w0 _ g s0_0 t415 from by repeat(first|(with_reducible first|exact HI0.out|apply IsS122.alloc|apply IsS122.drewN|apply IsS122.drew|apply IsS122.set_1|refine IsS122.far ?_ NB0_410.out _)|exact HI0.out))):gb421≠g));clear HO414;clear HO419;clear HI0;clear BK410;clear HK;clear HB;have HO414:=n0_;have HO419:=n1_;have HI0:=n2_;have BK410:=n3_;have HK:=n4_;have HB:=n5_;have BK421:=n6_;have GW421:=n7_;have GE421:=n8_;have NB410_421:=n9_;have NB421_410:=n10_;have NB0_421:=n11_;have NB421_0:=n12_;clear n0_ n1_ n2_ n3_ n4_ n5_ n6_ n7_ n8_ n9_ n10_ n11_ n12_;clear hb hbox hg;have hnb14:=NB421_410.out;have hnc14:=NB410_421.out;have hnb15:=NB421_0.out;have hnc15:=NB0_421.out;have hcz16_0:w13.cell? ⟨gb421,0,none⟩=some (.int .i64 0):=(qab BK421.out 0).trans rfl;have hcz16_1:w13.cell? ⟨gb421,1,none⟩=some (.slice none 0 0):=(qab BK421.out 1).trans rfl;have hfz16_0:=qaa BK421.out 0;have hfz16_1:=qaa BK421.out 1;obtain⟨Ao17,co17,eo17⟩:=Kd.R_slice HO419.out;subst eo17)|((with_reducible refine qai (f:=65) rfl ?_);refine qau (some 19) rfl rfl Try.func65 (by kernel_rfl) rfl #[.pointer (some ⟨g,0,none⟩),.int .i64 20] rfl (by(try simp only[List.map_toArray,List.map_cons,List.map_nil]);first|done|rfl|(simp only[List.length_drop,List.length_take];rfl)) ?_;(with_reducible refine(spec_l6Rd_pick.calls k g s0_0 t415 20 t422 t423 w0 _ ?side1 ?side2 A4.out).mono ?_);(case side1=>repeat(first|(with_reducible first|exact HI0.out|apply IsS122.alloc|apply IsS122.drewN|apply IsS122.drew|apply IsS122.set_1|refine IsS122.far ?_ NB0_410.out _|refine IsS122.far ?_ NB0_421.out _)|exact HI0.out));(case side2=>repeat(first|(with_reducible first|exact HB.out|apply qar|apply qap|apply qaq|refine qam ?_ (IsS122.ge HI0.out)|refine qam ?_ GE410.out|refine qam ?_ GE421.out)|exact HB.out));rintro e w18 ⟨rfl,hi,hb,hk⟩;refine⟨_,rfl,?_⟩;have n0_:=qal.mk (KeepBut.blk hk (g':=gb410) (o:=.cells #[.int .i64 0,.slice none 0 0] 36 (0,0)) (za5 NB410_421 BK410) NB410_0.out (by simp));have n1_:=qal.mk (Kd.S_mono (Kd.S_keep (IsS122.apartS (show IsS122 w0 _ g s0_0 t415 from by repeat(first|(with_reducible first|exact HI0.out|apply IsS122.alloc|apply IsS122.drewN|apply IsS122.drew|apply IsS122.set_1|refine IsS122.far ?_ NB0_410.out _|refine IsS122.far ?_ NB0_421.out _)|exact HI0.out)) (by(with_reducible repeat(first|apply Kd.S_alloc|apply Kd.S_drewN|apply Kd.S_drew));exact(Kd.S_mono (Kd.S_far (p:=⟨gb421,1,none⟩) (Kd.S_far (p:=⟨gb421,0,none⟩) (Kd.S_types HO414.out BK421.out (by decide)) (fun _ hk=>hk.2) (.int .i64 t416)) (fun _ hk=>hk.2) (.slice Ao17 t417.length co17)) (fun _ h_=>h_.1))) (by decide)) hk (fun _ h=>h.2)) (fun _ h=>h.1));have n2_:=qal.mk (Kd.R_mono (Kd.R_keep (IsS122.apart (show IsS122 w0 _ g s0_0 t415 from by repeat(first|(with_reducible first|exact HI0.out|apply IsS122.alloc|apply IsS122.drewN|apply IsS122.drew|apply IsS122.set_1|refine IsS122.far ?_ NB0_410.out _|refine IsS122.far ?_ NB0_421.out _)|exact HI0.out)) (by(with_reducible repeat(first|apply Kd.R_alloc|apply Kd.R_drewN|apply Kd.R_drew));exact(Kd.R_mono (Kd.R_far (p:=⟨gb421,1,none⟩) (Kd.R_far (p:=⟨gb421,0,none⟩) (Kd.R_types HO419.out BK421.out (by decide)) (fun _ hk=>hk.2) (.int .i64 t416)) (fun _ hk=>hk.2) (.slice Ao17 t417.length co17)) (fun _ h_=>h_.1))) (by decide)) hk (fun _ h=>h.2)) (fun _ h=>h.1));have n3_:=qal.mk (KeepBut.blk hk (g':=gb421) (o:=.cells #[.int .i64 t416,.slice Ao17 t417.length co17] 36 (0,0)) (by(with_reducible repeat(first|refine qag ?_ _|refine qah ?_|refine qaf ?_ _));refine qan (cs:=#[.int .i64 t416,.slice none 0 0]) ?_ 1 _ rfl;(with_reducible repeat(first|refine qag ?_ _|refine qah ?_|refine qaf ?_ _));refine qan (cs:=#[.int .i64 0,.slice none 0 0]) ?_ 0 _ rfl;(with_reducible repeat(first|refine qag ?_ _|refine qah ?_|refine qaf ?_ _));exact BK421.out) NB421_0.out (by simp));have n4_:=qal.mk (KeepBut.trans (za13 HK GW410 GW421) hk (.inl rfl));have n5_:=qal.mk (hb);have n6_:=qal.mk (hi);clear BK410;clear HO414;clear HO419;clear BK421;clear HK;clear HB;clear HI0;have BK410:=n0_;have HO414:=n1_;have HO419:=n2_;have BK421:=n3_;have HK:=n4_;have HB:=n5_;have HI0:=n6_;clear n0_ n1_ n2_ n3_ n4_ n5_ n6_;(try clear hb);(try clear hb2);(try clear hk);(try clear hi))|((with_reducible refine qak (N:=22) rfl ?_);refine Kd.R_lit (Kd.int .i64) _ 3 ?hg (N:=22) ?hd (xs:=([(-1),0,10]:List Int)) (inner:=[.int .i64 (-1),.int .i64 0,.int .i64 10]) (ok:=fun _=>True) (okp:=fun _=>True) ?hr ?hp (fun _ hk=>hk) trivial (Below.refl _ _) (Nat.le_refl _) (by simp) ?_;(case hd=>rfl);(case hg=>rfl);(case hr=>first|(go_simp;done)|(go_simp;rfl));(case hp=>exact(Reps.one (show Kd.M (Kd.int .i64) _ _ _ (-1) [.int .i64 (-1)] from rfl) (Reps.one (show Kd.M (Kd.int .i64) _ _ _ 0 [.int .i64 0] from rfl) (Reps.one (show Kd.M (Kd.int .i64) _ _ _ 10 [.int .i64 10] from rfl) (Reps.none _ _)))));intro v425 w19 ho20 hb hg_ hnew_;clear hg_ hnew_;(first|rw[←Ny424.out] at ho20|(simp only[Int.reduceToNat] at ho20;rw[←Ny424.out] at ho20));have n0_:=qal.mk (Kd.S_elder' (za10 HO414) (Kd.R_base ho20) hb);have n1_:=qal.mk (Kd.R_below (za4 HO419) hb);have n2_:=qal.mk (Kd.R_lower ho20 (qba (w:=w) (g:=g) (row:=none) (za13 HK GW410 GW421)));have n3_:=qal.mk (IsS122.below (zb35_1Stock HI0 NB0_410 NB0_421) hb);have n4_:=qal.mk (qac (g:=gb410) (o:=.cells #[.int .i64 0,.slice none 0 0] 36 (0,0)) (za0 BK410) hb);have n5_:=qal.mk (qac (g:=gb421) (o:=.cells #[.int .i64 t416,.slice Ao17 t417.length co17] 36 (0,0)) (za0 BK421) hb);have n6_:=qal.mk (KeepBut.trans (za13 HK GW410 GW421) (KeepBut.of_below hb g none) (.inl rfl));have n7_:=qal.mk (qae (zb19_1Stock HB HI0 GE410 GE421) hb);clear HO414;clear HO419;clear HI0;clear BK410;clear BK421;clear HK;clear HB;have HO414:=n0_;have HO419:=n1_;have HO426:=n2_;have HI0:=n3_;have BK410:=n4_;have BK421:=n5_;have HK:=n6_;have HB:=n7_;clear n0_ n1_ n2_ n3_ n4_ n5_ n6_ n7_;clear hb ho20)|((with_reducible refine qai (f:=65) rfl ?_);refine qau (some 24) rfl rfl Try.func65 (by kernel_rfl) rfl #[.pointer (some ⟨g,0,none⟩),.int .i64 3] rfl (by(try simp only[List.map_toArray,List.map_cons,List.map_nil]);first|done|rfl|(simp only[List.length_drop,List.length_take];rfl)) ?_;(with_reducible refine(spec_l6Rd_pick.calls k g s0_0 t423 3 t427 t428 w0 _ ?side1 ?side2 A6.out).mono ?_);(case side1=>repeat(first|(with_reducible first|exact HI0.out|apply IsS122.alloc|apply IsS122.drewN|apply IsS122.drew|apply IsS122.set_1|refine IsS122.far ?_ NB0_410.out _|refine IsS122.far ?_ NB0_421.out _)|exact HI0.out));(case side2=>repeat(first|(with_reducible first|exact HB.out|apply qar|apply qap|apply qaq|refine qam ?_ (IsS122.ge HI0.out)|refine qam ?_ GE410.out|refine qam ?_ GE421.out)|exact HB.out));rintro e w21 ⟨rfl,hi,hb,hk⟩;refine⟨_,rfl,?_⟩;have n0_:=qal.mk (KeepBut.blk hk (g':=gb410) (o:=.cells #[.int .i64 0,.slice none 0 0] 36 (0,0)) (za0 BK410) NB410_0.out (by simp));have n1_:=qal.mk (Kd.S_mono (Kd.S_keep (IsS122.apartS (show IsS122 w0 _ g s0_0 t423 from by repeat(first|(with_reducible first|exact HI0.out|apply IsS122.alloc|apply IsS122.drewN|apply IsS122.drew|apply IsS122.set_1|refine IsS122.far ?_ NB0_410.out _|refine IsS122.far ?_ NB0_421.out _)|exact HI0.out)) (za10 HO414) (by decide)) hk (fun _ h=>h.2)) (fun _ h=>h.1));have n2_:=qal.mk (Kd.R_mono (Kd.R_keep (IsS122.apart (show IsS122 w0 _ g s0_0 t423 from by repeat(first|(with_reducible first|exact HI0.out|apply IsS122.alloc|apply IsS122.drewN|apply IsS122.drew|apply IsS122.set_1|refine IsS122.far ?_ NB0_410.out _|refine IsS122.far ?_ NB0_421.out _)|exact HI0.out)) (za4 HO419) (by decide)) hk (fun _ h=>h.2)) (fun _ h=>h.1));have n3_:=qal.mk (KeepBut.blk hk (g':=gb421) (o:=.cells #[.int .i64 t416,.slice Ao17 t417.length co17] 36 (0,0)) (za0 BK421) NB421_0.out (by simp));have n4_:=qal.mk (Kd.R_mono (Kd.R_keep (IsS122.apart (show IsS122 w0 _ g s0_0 t423 from by repeat(first|(with_reducible first|exact HI0.out|apply IsS122.alloc|apply IsS122.drewN|apply IsS122.drew|apply IsS122.set_1|refine IsS122.far ?_ NB0_410.out _|refine IsS122.far ?_ NB0_421.out _)|exact HI0.out)) (za4 HO426) (by decide)) hk (fun _ h=>h.2)) (fun _ h=>h.1));have n5_:=qal.mk (KeepBut.trans (za13 HK GW410 GW421) hk (.inl rfl));have n6_:=qal.mk (hb);have n7_:=qal.mk (hi);clear BK410;clear HO414;clear HO419;clear BK421;clear HO426;clear HK;clear HB;clear HI0;have BK410:=n0_;have HO414:=n1_;have HO419:=n2_;have BK421:=n3_;have HO426:=n4_;have HK:=n5_;have HB:=n6_;have HI0:=n7_;clear n0_ n1_ n2_ n3_ n4_ n5_ n6_ n7_;(try clear hb);(try clear hb2);(try clear hk);(try clear hi);obtain⟨Ao22,co22,eo22⟩:=Kd.R_slice HO426.out;subst eo22;have p429:0≤(t427:Int):=of_decide_eq_true (za8);have q429:t427<(y424.length:Int):=of_decide_eq_true (za8);obtain⟨ad429,e429,hx429_0⟩:=Kd.at_int (Kd.R_reads' HO426.out).2.2 t427 p429 q429;cases e429;replace p429:=eq_true p429;replace q429:=eq_true q429;have hcz23_0:w21.cell? ⟨gb421,0,none⟩=some (.int .i64 t416):=(qab BK421.out 0).trans rfl;have hcz23_1:w21.cell? ⟨gb421,1,none⟩=some (.slice Ao17 t417.length co17):=(qab BK421.out 1).trans rfl;have hfz23_0:=qaa BK421.out 0;have hfz23_1:=qaa BK421.out 1;have hnb24:=NB410_0.out;have hnc24:=NB0_410.out;have hcz25_0:w21.cell? ⟨gb410,0,none⟩=some (.int .i64 0):=(qab BK410.out 0).trans rfl;have hcz25_1:w21.cell? ⟨gb410,1,none⟩=some (.slice none 0 0):=(qab BK410.out 1).trans rfl;have hfz25_0:=qaa BK410.out 0;have hfz25_1:=qaa BK410.out 1))
    refine bodyPost_ret (results_cell_row rfl _ _ gb410 36 #[.int .i64 (rd y424 t427),.slice Ao17 t417.length co17] (0,0) _ rfl (by(with_reducible repeat(first|refine qag ?_ _|refine qah ?_|refine qaf ?_ _));refine qan (cs:=#[.int .i64 (rd y424 t427),.slice none 0 0]) ?_ 1 _ rfl;(with_reducible repeat(first|refine qag ?_ _|refine qah ?_|refine qaf ?_ _));refine qan (cs:=#[.int .i64 0,.slice none 0 0]) ?_ 0 _ rfl;(with_reducible repeat(first|refine qag ?_ _|refine qah ?_|refine qaf ?_ _));refine blk_far ?_ NB410_421.out _;(with_reducible repeat(first|refine qag ?_ _|refine qah ?_|refine qaf ?_ _));exact BK410.out) Try.underlying36 rfl (by kernel_rfl)) rfl ?_
    exact⟨_,za9,Kd.Q_of_R (by(with_reducible repeat(first|apply Kd.R_alloc|apply Kd.R_drewN|apply Kd.R_drew));exact Kd.R_mono (Kd.R_far (p:=⟨gb410,1,none⟩) (Kd.R_far (p:=⟨gb410,0,none⟩) (Kd.R_far (p:=⟨gb421,0,none⟩) (Kd.R_types (Kd.R_types HO419.out BK421.out (by decide)) BK410.out (by decide)) (fun _ hk=>hk.1.2) (.int .i64 (rd y424 t427))) (fun _ hk=>hk.2) (.int .i64 (rd y424 t427))) (fun _ hk=>hk.2) (.slice Ao17 t417.length co17)) (fun _ hk=>trivial)),zb35_1Stock HI0 NB0_410 NB0_421,zb19_1Stock HB HI0 GE410 GE421,za13 HK GW410 GW421⟩
   ·rw[if_neg c8] at H
    exact absurd H (by simp)
  ·rw[if_neg c7] at H
   exact absurd H (by simp)
 ·rw[if_neg c5] at H
  have c5b0:(t422 == 0)=false:=beq_eq_false_iff_ne.mpr c5
  have c5b1:(t422 != 0)=true:=bne_iff_ne.mpr c5
  by_cases c26:t422=1
  ·rw[if_pos c26] at H
   have c26b0:(t422 == 1)=true:=beq_iff_eq.mpr c26
   have c26b1:(t422 != 1)=false:=bne_eq_false_iff_eq.mpr c26
   clear c26
   replace H:=Option.bind_eq_some_iff.mp H
   obtain⟨⟨t430,t431⟩,A270,H⟩:=H
   replace H:((spec_l6Rd_pick.f k s0_0 t431 5).bind fun bt432=>((spec_l6Rd_pick.f k s0_0 bt432.2 5).bind fun bt434=>(if 0≤t430 then(if t430<(t417.length:Int) then(some (t416,(t417.set (t430:Int).toNat (⟨bt432.1,bt434.1⟩:S46)),bt434.2)) else(none)) else(none))))=some (r1,r2,r3):=H
   have A27:=qal.mk A270
   clear A270
   replace H:=Option.bind_eq_some_iff.mp H
   obtain⟨⟨t432,t433⟩,A280,H⟩:=H
   replace H:((spec_l6Rd_pick.f k s0_0 t433 5).bind fun bt434=>(if 0≤t430 then(if t430<(t417.length:Int) then(some (t416,(t417.set (t430:Int).toNat (⟨t432,bt434.1⟩:S46)),bt434.2)) else(none)) else(none)))=some (r1,r2,r3):=H
   have A28:=qal.mk A280
   clear A280
   replace H:=Option.bind_eq_some_iff.mp H
   obtain⟨⟨t434,t435⟩,A290,H⟩:=H
   replace H:(if 0≤t430 then(if t430<(t417.length:Int) then(some (t416,(t417.set (t430:Int).toNat (⟨t432,t434⟩:S46)),t435)) else(none)) else(none))=some (r1,r2,r3):=H
   have A29:=qal.mk A290
   clear A290
   by_cases c30:0≤t430
   ·rw[if_pos c30] at H
    have c30b0:decide (0≤t430)=true:=decide_eq_true c30
    clear c30
    by_cases c31:t430<(t417.length:Int)
    ·rw[if_pos c31] at H
     have c31b0:decide (t430<(t417.length:Int))=true:=decide_eq_true c31
     clear c31
     obtain⟨y436,hy436⟩:∃y_:List (S46),y_=(t417.set (t430:Int).toNat (⟨t432,t434⟩:S46)):=⟨_,rfl⟩
     replace H:(some (t416,y436,t435))=some (r1,r2,r3):=by first|(rw[hy436];with_reducible exact H)|(have H2_:=(Option.bind_some _ _).symm.trans H;rw[hy436];with_reducible exact H2_)|(have H2_:=(Option.bind_some _ _).symm.trans H;with_reducible exact H2_)|with_reducible exact H|(rw[hy436];exact H)|exact H
     have Ny436:=qal.mk hy436
     clear hy436
     simp only[Option.some.injEq,Prod.mk.injEq] at H
     obtain⟨rfl,rfl,rfl⟩:=H
     go_enter Try.func71,Try.ntmps71
     try go_wp2_with(first|((with_reducible refine qak (N:=2) rfl ?_);refine qaj ?hg (N:=2) ?hd (cs:=#[.int .i64 0,.slice none 0 0]) (t:=36) ?hr ?_;(case hd=>rfl);(case hg=>rfl);(case hr=>first|(go_simp;done)|(go_simp;rfl));intro gb410 hg w33 hbox hb;have n0_:=qal.mk (IsS122.below (zb29_1Stock HI0) hb);have n1_:=qal.mk (KeepBut.trans (za12 HK) (KeepBut.of_below hb g none) (.inl rfl));have n2_:=qal.mk (qae (zb25_1Stock HB HI0) hb);have n3_:=qal.mk (hbox);have n4_:=qal.mk ((by rw[hg];exact(qba (w:=w) (g:=g) (row:=none) (za12 HK)):w.heap.size≤gb410));have n5_:=qal.mk ((Nat.le_trans HW0.out (by rw[hg];exact(qba (w:=w) (g:=g) (row:=none) (za12 HK)):w.heap.size≤gb410):w0.heap.size≤gb410));have n6_:=qal.mk ((by rw[hg];exact Nat.ne_of_lt (IsS122.lt (show IsS122 w0 _ g s0_0 s0_1 from by repeat(first|(with_reducible first|exact HI0.out|apply IsS122.alloc|apply IsS122.drewN|apply IsS122.drew|apply IsS122.set_1)|exact HI0.out))):g≠gb410));have n7_:=qal.mk ((by rw[hg];exact Nat.ne_of_gt (IsS122.lt (show IsS122 w0 _ g s0_0 s0_1 from by repeat(first|(with_reducible first|exact HI0.out|apply IsS122.alloc|apply IsS122.drewN|apply IsS122.drew|apply IsS122.set_1)|exact HI0.out))):gb410≠g));clear HI0;clear HK;clear HB;have HI0:=n0_;have HK:=n1_;have HB:=n2_;have BK410:=n3_;have GW410:=n4_;have GE410:=n5_;have NB0_410:=n6_;have NB410_0:=n7_;clear n0_ n1_ n2_ n3_ n4_ n5_ n6_ n7_;clear hb hbox hg)|((with_reducible refine qai (f:=106) rfl ?_);refine qau (some 9) rfl rfl Try.func106 (by kernel_rfl) rfl #[.pointer (some ⟨g,0,none⟩)] rfl (by(try simp only[List.map_toArray,List.map_cons,List.map_nil]);first|done|rfl|(simp only[List.length_drop,List.length_take];rfl)) ?_;(with_reducible refine(spec_l71Recs.calls k g s0_0 s0_1 t411 t412 t415 w0 _ ?side1 ?side2 A2.out).mono ?_);(case side1=>repeat(first|(with_reducible first|exact HI0.out|apply IsS122.alloc|apply IsS122.drewN|apply IsS122.drew|apply IsS122.set_1|refine IsS122.far ?_ NB0_410.out _)|exact HI0.out));(case side2=>repeat(first|(with_reducible first|exact HB.out|apply qar|apply qap|apply qaq|refine qam ?_ (IsS122.ge HI0.out)|refine qam ?_ GE410.out)|exact HB.out));rintro e w34 ⟨v413,rfl,ho0,hi,hb,hk⟩;refine⟨_,rfl,?_⟩;have n0_:=qal.mk (KeepBut.blk hk (g':=gb410) (o:=.cells #[.int .i64 0,.slice none 0 0] 36 (0,0)) (za0 BK410) NB410_0.out (by simp));have n1_:=qal.mk (Kd.S_lower ho0 (qba (w:=w) (g:=g) (row:=none) (za15 HK GW410)));have n2_:=qal.mk (KeepBut.trans (za15 HK GW410) hk (.inl rfl));have n3_:=qal.mk (hb);have n4_:=qal.mk (hi);clear BK410;clear HK;clear HB;clear HI0;have BK410:=n0_;have HO414:=n1_;have HK:=n2_;have HB:=n3_;have HI0:=n4_;clear n0_ n1_ n2_ n3_ n4_;(try clear hb);(try clear hb2);(try clear hk);(try clear hi);(try clear ho0);obtain⟨Ao35,co35,eo35⟩:=Kd.S_slice HO414.out;subst eo35)|((with_reducible refine qai (f:=107) rfl ?_);refine qau (some 15) rfl rfl Try.func107 (by kernel_rfl) rfl #[.int .i64 t411,.slice Ao35 t412.length co35] rfl (by(try simp only[List.map_toArray,List.map_cons,List.map_nil]);first|done|rfl|(simp only[List.length_drop,List.length_take];rfl)) ?_;(with_reducible refine(spec_StockOf.calls k t411 _ _ t412 t416 t417 t420 _ ?side1 ?side2 A3.out).mono ?_);(case side1=>repeat(first|exact(Kd.S_reads' HO414.out).2.2|(with_reducible refine Kd.C_alloc ?_ _)|(with_reducible refine Kd.C_drewN ?_ _)|(with_reducible refine Kd.C_drew ?_)));(case side2=>exact(Kd.S_reads' HO414.out).2.1);rintro e w36 ⟨v418,rfl,ho0,hb⟩;refine⟨_,rfl,?_⟩;have n0_:=qal.mk (Kd.S_below (za10 HO414) hb);have n1_:=qal.mk (Kd.R_lower ho0 (qba (w:=w) (g:=g) (row:=none) (za15 HK GW410)));have n2_:=qal.mk (IsS122.below (zb40_1Stock HI0 NB0_410) hb);have n3_:=qal.mk (qac (g:=gb410) (o:=.cells #[.int .i64 0,.slice none 0 0] 36 (0,0)) (za0 BK410) hb);have n4_:=qal.mk (KeepBut.trans (za15 HK GW410) (KeepBut.of_below hb g none) (.inl rfl));have n5_:=qal.mk (qae (zb32_1Stock HB HI0 GE410) hb);clear HO414;clear HI0;clear BK410;clear HK;clear HB;have HO414:=n0_;have HO419:=n1_;have HI0:=n2_;have BK410:=n3_;have HK:=n4_;have HB:=n5_;clear n0_ n1_ n2_ n3_ n4_ n5_;(try clear hb);(try clear hb2);(try clear hk);(try clear hi);(try clear ho0))|((with_reducible refine qak (N:=5) rfl ?_);refine qaj ?hg (N:=5) ?hd (cs:=#[.int .i64 0,.slice none 0 0]) (t:=36) ?hr ?_;(case hd=>rfl);(case hg=>rfl);(case hr=>first|(go_simp;done)|(go_simp;rfl));intro gb421 hg w37 hbox hb;have n0_:=qal.mk (Kd.S_below (za10 HO414) hb);have n1_:=qal.mk (Kd.R_below (za4 HO419) hb);have n2_:=qal.mk (IsS122.below (zb40_1Stock HI0 NB0_410) hb);have n3_:=qal.mk (qac (g:=gb410) (o:=.cells #[.int .i64 0,.slice none 0 0] 36 (0,0)) (za0 BK410) hb);have n4_:=qal.mk (KeepBut.trans (za15 HK GW410) (KeepBut.of_below hb g none) (.inl rfl));have n5_:=qal.mk (qae (zb32_1Stock HB HI0 GE410) hb);have n6_:=qal.mk (hbox);have n7_:=qal.mk ((by rw[hg];exact(qba (w:=w) (g:=g) (row:=none) (za15 HK GW410)):w.heap.size≤gb421));have n8_:=qal.mk ((Nat.le_trans HW0.out (by rw[hg];exact(qba (w:=w) (g:=g) (row:=none) (za15 HK GW410)):w.heap.size≤gb421):w0.heap.size≤gb421));have n9_:=qal.mk ((by rw[hg];exact Nat.ne_of_lt (qao (g:=gb410) (o:=.cells #[.int .i64 0,.slice none 0 0] 36 (0,0)) (za0 BK410)):gb410≠gb421));have n10_:=qal.mk ((by rw[hg];exact Nat.ne_of_gt (qao (g:=gb410) (o:=.cells #[.int .i64 0,.slice none 0 0] 36 (0,0)) (za0 BK410)):gb421≠gb410));have n11_:=qal.mk ((by rw[hg];exact Nat.ne_of_lt (IsS122.lt (show IsS122 w0 _ g s0_0 t415 from by repeat(first|(with_reducible first|exact HI0.out|apply IsS122.alloc|apply IsS122.drewN|apply IsS122.drew|apply IsS122.set_1|refine IsS122.far ?_ NB0_410.out _)|exact HI0.out))):g≠gb421));have n12_:=qal.mk ((by rw[hg];exact Nat.ne_of_gt (IsS122.lt (show IsS122 w0 _ g s0_0 t415 from by repeat(first|(with_reducible first|exact HI0.out|apply IsS122.alloc|apply IsS122.drewN|apply IsS122.drew|apply IsS122.set_1|refine IsS122.far ?_ NB0_410.out _)|exact HI0.out))):gb421≠g));clear HO414;clear HO419;clear HI0;clear BK410;clear HK;clear HB;have HO414:=n0_;have HO419:=n1_;have HI0:=n2_;have BK410:=n3_;have HK:=n4_;have HB:=n5_;have BK421:=n6_;have GW421:=n7_;have GE421:=n8_;have NB410_421:=n9_;have NB421_410:=n10_;have NB0_421:=n11_;have NB421_0:=n12_;clear n0_ n1_ n2_ n3_ n4_ n5_ n6_ n7_ n8_ n9_ n10_ n11_ n12_;clear hb hbox hg;have hnb38:=NB421_410.out;have hnc38:=NB410_421.out;have hnb39:=NB421_0.out;have hnc39:=NB0_421.out;have hcz40_0:w37.cell? ⟨gb421,0,none⟩=some (.int .i64 0):=(qab BK421.out 0).trans rfl;have hcz40_1:w37.cell? ⟨gb421,1,none⟩=some (.slice none 0 0):=(qab BK421.out 1).trans rfl;have hfz40_0:=qaa BK421.out 0;have hfz40_1:=qaa BK421.out 1;obtain⟨Ao41,co41,eo41⟩:=Kd.R_slice HO419.out;subst eo41)|((with_reducible refine qai (f:=65) rfl ?_);refine qau (some 19) rfl rfl Try.func65 (by kernel_rfl) rfl #[.pointer (some ⟨g,0,none⟩),.int .i64 20] rfl (by(try simp only[List.map_toArray,List.map_cons,List.map_nil]);first|done|rfl|(simp only[List.length_drop,List.length_take];rfl)) ?_;(with_reducible refine(spec_l6Rd_pick.calls k g s0_0 t415 20 t422 t423 w0 _ ?side1 ?side2 A4.out).mono ?_);(case side1=>repeat(first|(with_reducible first|exact HI0.out|apply IsS122.alloc|apply IsS122.drewN|apply IsS122.drew|apply IsS122.set_1|refine IsS122.far ?_ NB0_410.out _|refine IsS122.far ?_ NB0_421.out _)|exact HI0.out));(case side2=>repeat(first|(with_reducible first|exact HB.out|apply qar|apply qap|apply qaq|refine qam ?_ (IsS122.ge HI0.out)|refine qam ?_ GE410.out|refine qam ?_ GE421.out)|exact HB.out));rintro e w42 ⟨rfl,hi,hb,hk⟩;refine⟨_,rfl,?_⟩;have n0_:=qal.mk (KeepBut.blk hk (g':=gb410) (o:=.cells #[.int .i64 0,.slice none 0 0] 36 (0,0)) (za5 NB410_421 BK410) NB410_0.out (by simp));have n1_:=qal.mk (Kd.S_mono (Kd.S_keep (IsS122.apartS (show IsS122 w0 _ g s0_0 t415 from by repeat(first|(with_reducible first|exact HI0.out|apply IsS122.alloc|apply IsS122.drewN|apply IsS122.drew|apply IsS122.set_1|refine IsS122.far ?_ NB0_410.out _|refine IsS122.far ?_ NB0_421.out _)|exact HI0.out)) (by(with_reducible repeat(first|apply Kd.S_alloc|apply Kd.S_drewN|apply Kd.S_drew));exact(Kd.S_mono (Kd.S_far (p:=⟨gb421,1,none⟩) (Kd.S_far (p:=⟨gb421,0,none⟩) (Kd.S_types HO414.out BK421.out (by decide)) (fun _ hk=>hk.2) (.int .i64 t416)) (fun _ hk=>hk.2) (.slice Ao41 t417.length co41)) (fun _ h_=>h_.1))) (by decide)) hk (fun _ h=>h.2)) (fun _ h=>h.1));have n2_:=qal.mk (Kd.R_mono (Kd.R_keep (IsS122.apart (show IsS122 w0 _ g s0_0 t415 from by repeat(first|(with_reducible first|exact HI0.out|apply IsS122.alloc|apply IsS122.drewN|apply IsS122.drew|apply IsS122.set_1|refine IsS122.far ?_ NB0_410.out _|refine IsS122.far ?_ NB0_421.out _)|exact HI0.out)) (by(with_reducible repeat(first|apply Kd.R_alloc|apply Kd.R_drewN|apply Kd.R_drew));exact(Kd.R_mono (Kd.R_far (p:=⟨gb421,1,none⟩) (Kd.R_far (p:=⟨gb421,0,none⟩) (Kd.R_types HO419.out BK421.out (by decide)) (fun _ hk=>hk.2) (.int .i64 t416)) (fun _ hk=>hk.2) (.slice Ao41 t417.length co41)) (fun _ h_=>h_.1))) (by decide)) hk (fun _ h=>h.2)) (fun _ h=>h.1));have n3_:=qal.mk (KeepBut.blk hk (g':=gb421) (o:=.cells #[.int .i64 t416,.slice Ao41 t417.length co41] 36 (0,0)) (by(with_reducible repeat(first|refine qag ?_ _|refine qah ?_|refine qaf ?_ _));refine qan (cs:=#[.int .i64 t416,.slice none 0 0]) ?_ 1 _ rfl;(with_reducible repeat(first|refine qag ?_ _|refine qah ?_|refine qaf ?_ _));refine qan (cs:=#[.int .i64 0,.slice none 0 0]) ?_ 0 _ rfl;(with_reducible repeat(first|refine qag ?_ _|refine qah ?_|refine qaf ?_ _));exact BK421.out) NB421_0.out (by simp));have n4_:=qal.mk (KeepBut.trans (za13 HK GW410 GW421) hk (.inl rfl));have n5_:=qal.mk (hb);have n6_:=qal.mk (hi);clear BK410;clear HO414;clear HO419;clear BK421;clear HK;clear HB;clear HI0;have BK410:=n0_;have HO414:=n1_;have HO419:=n2_;have BK421:=n3_;have HK:=n4_;have HB:=n5_;have HI0:=n6_;clear n0_ n1_ n2_ n3_ n4_ n5_ n6_;(try clear hb);(try clear hb2);(try clear hk);(try clear hi)))
     have n0_:=qal.mk (Kd.S_drew HO414.out)
     have n1_:=qal.mk (Kd.R_drew HO419.out)
     have n2_:=qal.mk (qah BK410.out)
     have n3_:=qal.mk (qah BK421.out)
     have n4_:=qal.mk (IsS122.drew HI0.out)
     have n5_:=qal.mk (keep_drew HK.out)
     have n6_:=qal.mk (qaq HB.out)
     clear HO414
     clear HO419
     clear BK410
     clear BK421
     clear HI0
     clear HK
     clear HB
     have HO414:=n0_
     have HO419:=n1_
     have BK410:=n2_
     have BK421:=n3_
     have HI0:=n4_
     have HK:=n5_
     have HB:=n6_
     clear n0_ n1_ n2_ n3_ n4_ n5_ n6_
     refine start_ (n:=14) (S:=fun w'=>w'.cell? ⟨gb421,0,none⟩=some (.int .i64 t416)∧w'.cell? ⟨gb421,1,none⟩=some (.slice Ao41 t417.length co41)) (ds:=[13]) #[false,false,false,false,false,false,false,false,false,false,false,false,false,false] (by kernel_rfl) rfl rfl ⟨(qab BK421.out 0).trans rfl,(qab BK421.out 1).trans rfl⟩ (fun hHeld=>?_);refine with_tabW spec_l71Stock.tab7 spec_l71Stock.bits7 (fun HT_ HW_=>?_)
     generalize w42.drew=w43 at HO414 HO419 BK410 BK421 HI0 HK HB hHeld ⊢
     refine qaz (i:=0) (N:=some 30) (v:=?_) (a':=?_) #[true,false,false,false,false,false,false,false,false,false,false,false,false,false] rfl rfl (qax HT_.out (by kernel_rfl)) (fun _ _ _ h=>h) (Or.inl ⟨by rfl,?_⟩) ?_ ?_
     rotate_left
     ·intro w'
      go_simp
      with_reducible rfl
     rotate_left
     ·simp only[Act.put,List.setIfInBounds_toArray,List.set_cons_zero,List.set_cons_succ,qas,qat]
      rfl
     refine qaz (i:=2) (N:=some 32) (v:=?_) (a':=?_) #[true,false,true,false,false,false,false,false,false,false,false,false,false,false] rfl rfl (qax HT_.out (by kernel_rfl)) (fun _ _ _ h=>h) (Or.inl ⟨by rfl,?_⟩) ?_ ?_
     rotate_left
     ·intro w'
      go_simp
      with_reducible rfl
     rotate_left
     ·simp only[Act.put,List.setIfInBounds_toArray,List.set_cons_zero,List.set_cons_succ,qas,qat]
      rfl
     refine qaz (i:=3) (N:=some 33) (v:=?_) (a':=?_) #[true,false,true,true,false,false,false,false,false,false,false,false,false,false] rfl rfl (qax HT_.out (by kernel_rfl)) (fun _ _ _ h=>h) (Or.inl ⟨by rfl,?_⟩) ?_ ?_
     rotate_left
     ·intro w'
      go_simp
      with_reducible rfl
     rotate_left
     ·simp only[Act.put,List.setIfInBounds_toArray,List.set_cons_zero,List.set_cons_succ,qas,qat]
      rfl
     refine qaz (i:=7) (N:=some 37) (v:=?_) (a':=?_) #[true,false,true,true,false,false,false,true,false,false,false,false,false,false] rfl rfl (qax HT_.out (by kernel_rfl)) (fun _ _ _ h=>h) (Or.inl ⟨by rfl,?_⟩) ?_ ?_
     rotate_left
     ·intro w'
      go_simp
      with_reducible rfl
     rotate_left
     ·simp only[Act.put,List.setIfInBounds_toArray,List.set_cons_zero,List.set_cons_succ,qas,qat]
      rfl
     refine qaz (i:=9) (N:=some 39) (v:=?_) (a':=?_) #[true,false,true,true,false,false,false,true,false,true,false,false,false,false] rfl rfl (qax HT_.out (by kernel_rfl)) (fun _ _ _ h=>h) (Or.inl ⟨by rfl,?_⟩) ?_ ?_
     rotate_left
     ·intro w'
      go_simp
      with_reducible rfl
     rotate_left
     ·simp only[Act.put,List.setIfInBounds_toArray,List.set_cons_zero,List.set_cons_succ,qas,qat]
      rfl
     refine take_ (i:=1) (N:=some 31) (v:=?_) (a':=?_) #[true,true,true,true,false,false,false,true,false,true,false,false,false,false] rfl rfl (take_ofW HT_.out HW_.out (by kernel_rfl)) (fun _ _ _ h=>h) (Or.inl ⟨by rfl,?_⟩) hHeld ?_ ?_
     rotate_left
     ·rintro w' ⟨s0,s1⟩
      go_simp
      with_reducible rfl
     rotate_left
     ·simp only[Act.put,List.setIfInBounds_toArray,List.set_cons_zero,List.set_cons_succ,qas,qat]
      rfl
     refine take_ (i:=4) (N:=some 34) (v:=?_) (a':=?_) #[true,true,true,true,true,false,false,true,false,true,false,false,false,false] rfl rfl (take_ofW HT_.out HW_.out (by kernel_rfl)) (fun _ _ _ h=>h) (Or.inl ⟨by rfl,?_⟩) hHeld ?_ ?_
     rotate_left
     ·rintro w' ⟨s0,s1⟩
      go_simp
      with_reducible rfl
     rotate_left
     ·simp only[Act.put,List.setIfInBounds_toArray,List.set_cons_zero,List.set_cons_succ,qas,qat]
      rfl
     refine qaz (i:=5) (N:=some 35) (v:=?_) (a':=?_) #[true,true,true,true,true,true,false,true,false,true,false,false,false,false] rfl rfl (qax HT_.out (by kernel_rfl)) (fun _ _ _ h=>h) (Or.inl ⟨by rfl,?_⟩) ?_ ?_
     rotate_left
     ·intro w'
      go_simp
      with_reducible rfl
     rotate_left
     ·simp only[Act.put,List.setIfInBounds_toArray,List.set_cons_zero,List.set_cons_succ,qas,qat]
      rfl
     refine one_ (i:=6) (N:=some 36) #[true,true,true,true,true,true,true,true,false,true,false,false,false,false] rfl rfl (one_of HT_.out (by kernel_rfl)) (by decide) (fun K hK=>?_)
     refine goes_ Try.func65 (by kernel_rfl) rfl #[.pointer (some ⟨g,0,none⟩),.int .i64 (t417.length:Int)] (by rfl) rfl rfl (by(try simp only[List.map_toArray,List.map_cons,List.map_nil]);first|done|rfl|(simp only[List.length_drop,List.length_take];rfl)) ?_
     with_reducible refine(spec_l6Rd_pick.calls k g s0_0 t423 (t417.length:Int) t430 t431 w0 _ ?side1 ?side2 A27.out).mono ?_
     (case side1=>repeat(first|(with_reducible first|exact HI0.out|apply IsS122.alloc|apply IsS122.drewN|apply IsS122.drew|apply IsS122.set_1|refine IsS122.far ?_ NB0_410.out _|refine IsS122.far ?_ NB0_421.out _)|exact HI0.out))
     (case side2=>repeat(first|(with_reducible first|exact HB.out|apply qar|apply qap|apply qaq|refine qam ?_ (IsS122.ge HI0.out)|refine qam ?_ GE410.out|refine qam ?_ GE421.out)|exact HB.out))
     rintro e w44 ⟨rfl,hi,hb,hk⟩
     refine⟨_,rfl,?_⟩
     have n0_:=qal.mk (KeepBut.blk hk (g':=gb410) (o:=.cells #[.int .i64 0,.slice none 0 0] 36 (0,0)) (za0 BK410) NB410_0.out (by simp))
     have n1_:=qal.mk (Kd.S_mono (Kd.S_keep (IsS122.apartS (show IsS122 w0 _ g s0_0 t423 from by repeat(first|(with_reducible first|exact HI0.out|apply IsS122.alloc|apply IsS122.drewN|apply IsS122.drew|apply IsS122.set_1|refine IsS122.far ?_ NB0_410.out _|refine IsS122.far ?_ NB0_421.out _)|exact HI0.out)) (za10 HO414) (by decide)) hk (fun _ h=>h.2)) (fun _ h=>h.1))
     have n2_:=qal.mk (Kd.R_mono (Kd.R_keep (IsS122.apart (show IsS122 w0 _ g s0_0 t423 from by repeat(first|(with_reducible first|exact HI0.out|apply IsS122.alloc|apply IsS122.drewN|apply IsS122.drew|apply IsS122.set_1|refine IsS122.far ?_ NB0_410.out _|refine IsS122.far ?_ NB0_421.out _)|exact HI0.out)) (za4 HO419) (by decide)) hk (fun _ h=>h.2)) (fun _ h=>h.1))
     have n3_:=qal.mk (KeepBut.blk hk (g':=gb421) (o:=.cells #[.int .i64 t416,.slice Ao41 t417.length co41] 36 (0,0)) (za0 BK421) NB421_0.out (by simp))
     have n4_:=qal.mk (KeepBut.trans (za13 HK GW410 GW421) hk (.inl rfl))
     have n5_:=qal.mk (hb)
     have n6_:=qal.mk (hi)
     clear BK410
     clear HO414
     clear HO419
     clear BK421
     clear HK
     clear HB
     clear HI0
     have BK410:=n0_
     have HO414:=n1_
     have HO419:=n2_
     have BK421:=n3_
     have HK:=n4_
     have HB:=n5_
     have HI0:=n6_
     clear n0_ n1_ n2_ n3_ n4_ n5_ n6_
     (try clear hb)
     (try clear hb2)
     (try clear hk)
     (try clear hi)
     refine hK.out _ _ ⟨(qab BK421.out 0).trans rfl,(qab BK421.out 1).trans rfl⟩ (fun hHeld=>?_)
     clear hK K
     refine norm_ (a':=?_) ?_ ?_
     rotate_left
     ·show Act.put _ (some 36) _=_
      simp only[Act.put,List.setIfInBounds_toArray,List.set_cons_zero,List.set_cons_succ,qas,qat]
      rfl
     refine one_ (i:=8) (N:=some 38) #[true,true,true,true,true,true,true,true,true,true,false,false,false,false] rfl rfl (one_of HT_.out (by kernel_rfl)) (by decide) (fun K hK=>?_)
     refine goes_ Try.func65 (by kernel_rfl) rfl #[.pointer (some ⟨g,0,none⟩),.int .i64 5] (by rfl) rfl rfl (by(try simp only[List.map_toArray,List.map_cons,List.map_nil]);first|done|rfl|(simp only[List.length_drop,List.length_take];rfl)) ?_
     with_reducible refine(spec_l6Rd_pick.calls k g s0_0 t431 5 t432 t433 w0 _ ?side1 ?side2 A28.out).mono ?_
     (case side1=>repeat(first|(with_reducible first|exact HI0.out|apply IsS122.alloc|apply IsS122.drewN|apply IsS122.drew|apply IsS122.set_1|refine IsS122.far ?_ NB0_410.out _|refine IsS122.far ?_ NB0_421.out _)|exact HI0.out))
     (case side2=>repeat(first|(with_reducible first|exact HB.out|apply qar|apply qap|apply qaq|refine qam ?_ (IsS122.ge HI0.out)|refine qam ?_ GE410.out|refine qam ?_ GE421.out)|exact HB.out))
     rintro e w45 ⟨rfl,hi,hb,hk⟩
     refine⟨_,rfl,?_⟩
     have n0_:=qal.mk (KeepBut.blk hk (g':=gb410) (o:=.cells #[.int .i64 0,.slice none 0 0] 36 (0,0)) (za0 BK410) NB410_0.out (by simp))
     have n1_:=qal.mk (Kd.S_mono (Kd.S_keep (IsS122.apartS (show IsS122 w0 _ g s0_0 t431 from by repeat(first|(with_reducible first|exact HI0.out|apply IsS122.alloc|apply IsS122.drewN|apply IsS122.drew|apply IsS122.set_1|refine IsS122.far ?_ NB0_410.out _|refine IsS122.far ?_ NB0_421.out _)|exact HI0.out)) (za10 HO414) (by decide)) hk (fun _ h=>h.2)) (fun _ h=>h.1))
     have n2_:=qal.mk (Kd.R_mono (Kd.R_keep (IsS122.apart (show IsS122 w0 _ g s0_0 t431 from by repeat(first|(with_reducible first|exact HI0.out|apply IsS122.alloc|apply IsS122.drewN|apply IsS122.drew|apply IsS122.set_1|refine IsS122.far ?_ NB0_410.out _|refine IsS122.far ?_ NB0_421.out _)|exact HI0.out)) (za4 HO419) (by decide)) hk (fun _ h=>h.2)) (fun _ h=>h.1))
     have n3_:=qal.mk (KeepBut.blk hk (g':=gb421) (o:=.cells #[.int .i64 t416,.slice Ao41 t417.length co41] 36 (0,0)) (za0 BK421) NB421_0.out (by simp))
     have n4_:=qal.mk (KeepBut.trans (za13 HK GW410 GW421) hk (.inl rfl))
     have n5_:=qal.mk (hb)
     have n6_:=qal.mk (hi)
     clear BK410
     clear HO414
     clear HO419
     clear BK421
     clear HK
     clear HB
     clear HI0
     have BK410:=n0_
     have HO414:=n1_
     have HO419:=n2_
     have BK421:=n3_
     have HK:=n4_
     have HB:=n5_
     have HI0:=n6_
     clear n0_ n1_ n2_ n3_ n4_ n5_ n6_
     (try clear hb)
     (try clear hb2)
     (try clear hk)
     (try clear hi)
     refine hK.out _ _ ⟨(qab BK421.out 0).trans rfl,(qab BK421.out 1).trans rfl⟩ (fun hHeld=>?_)
     clear hK K
     refine norm_ (a':=?_) ?_ ?_
     rotate_left
     ·show Act.put _ (some 38) _=_
      simp only[Act.put,List.setIfInBounds_toArray,List.set_cons_zero,List.set_cons_succ,qas,qat]
      rfl
     refine one_ (i:=10) (N:=some 40) #[true,true,true,true,true,true,true,true,true,true,true,false,false,false] rfl rfl (one_of HT_.out (by kernel_rfl)) (by decide) (fun K hK=>?_)
     refine goes_ Try.func65 (by kernel_rfl) rfl #[.pointer (some ⟨g,0,none⟩),.int .i64 5] (by rfl) rfl rfl (by(try simp only[List.map_toArray,List.map_cons,List.map_nil]);first|done|rfl|(simp only[List.length_drop,List.length_take];rfl)) ?_
     with_reducible refine(spec_l6Rd_pick.calls k g s0_0 t433 5 t434 t435 w0 _ ?side1 ?side2 A29.out).mono ?_
     (case side1=>repeat(first|(with_reducible first|exact HI0.out|apply IsS122.alloc|apply IsS122.drewN|apply IsS122.drew|apply IsS122.set_1|refine IsS122.far ?_ NB0_410.out _|refine IsS122.far ?_ NB0_421.out _)|exact HI0.out))
     (case side2=>repeat(first|(with_reducible first|exact HB.out|apply qar|apply qap|apply qaq|refine qam ?_ (IsS122.ge HI0.out)|refine qam ?_ GE410.out|refine qam ?_ GE421.out)|exact HB.out))
     rintro e w46 ⟨rfl,hi,hb,hk⟩
     refine⟨_,rfl,?_⟩
     have n0_:=qal.mk (KeepBut.blk hk (g':=gb410) (o:=.cells #[.int .i64 0,.slice none 0 0] 36 (0,0)) (za0 BK410) NB410_0.out (by simp))
     have n1_:=qal.mk (Kd.S_mono (Kd.S_keep (IsS122.apartS (show IsS122 w0 _ g s0_0 t433 from by repeat(first|(with_reducible first|exact HI0.out|apply IsS122.alloc|apply IsS122.drewN|apply IsS122.drew|apply IsS122.set_1|refine IsS122.far ?_ NB0_410.out _|refine IsS122.far ?_ NB0_421.out _)|exact HI0.out)) (za10 HO414) (by decide)) hk (fun _ h=>h.2)) (fun _ h=>h.1))
     have n2_:=qal.mk (Kd.R_mono (Kd.R_keep (IsS122.apart (show IsS122 w0 _ g s0_0 t433 from by repeat(first|(with_reducible first|exact HI0.out|apply IsS122.alloc|apply IsS122.drewN|apply IsS122.drew|apply IsS122.set_1|refine IsS122.far ?_ NB0_410.out _|refine IsS122.far ?_ NB0_421.out _)|exact HI0.out)) (za4 HO419) (by decide)) hk (fun _ h=>h.2)) (fun _ h=>h.1))
     have n3_:=qal.mk (KeepBut.blk hk (g':=gb421) (o:=.cells #[.int .i64 t416,.slice Ao41 t417.length co41] 36 (0,0)) (za0 BK421) NB421_0.out (by simp))
     have n4_:=qal.mk (KeepBut.trans (za13 HK GW410 GW421) hk (.inl rfl))
     have n5_:=qal.mk (hb)
     have n6_:=qal.mk (hi)
     clear BK410
     clear HO414
     clear HO419
     clear BK421
     clear HK
     clear HB
     clear HI0
     have BK410:=n0_
     have HO414:=n1_
     have HO419:=n2_
     have BK421:=n3_
     have HK:=n4_
     have HB:=n5_
     have HI0:=n6_
     clear n0_ n1_ n2_ n3_ n4_ n5_ n6_
     (try clear hb)
     (try clear hb2)
     (try clear hk)
     (try clear hi)
     have p32:0≤(t430:Int):=of_decide_eq_true (za8)
     have q32:(t430:Int)<((t417.length:Int):Int):=of_decide_eq_true (za8)
     obtain⟨go32,co32,eo32,gb32,gl32,cl32,HG32⟩:=Kd.R_form HO419.out (by omega)
     (first|cases eo32|(injection eo32 with ea_ en_ ec_;(first|subst ea_|(injection ea_ with ea_;subst ea_));subst ec_;clear en_))
     have GB32:=qal.mk gb32
     have GG32:=qal.mk HG32
     clear gb32 gl32 HG32
     obtain⟨ce32,hcl32,hM32,hcc32,hfr32⟩:=Kd.R_elem HO419.out z46 (t430:Int) p32 q32
     obtain rfl:=k46_openM hM32
     have hx32_0:World.cell? _ ⟨go32,(t430:Int).toNat*2,none⟩=some (.int .i64 ((rd_T46 t417 t430).f0)):=hcc32 0 _ rfl
     have hx32_1:World.cell? _ ⟨go32,(t430:Int).toNat*2+1,none⟩=some (.int .i64 ((rd_T46 t417 t430).f1)):=hcc32 1 _ rfl
     have hf32_0:World.frozen? _ ⟨go32,(t430:Int).toNat*2,none⟩=false:=hfr32 0
     have hf32_1:World.frozen? _ ⟨go32,(t430:Int).toNat*2+1,none⟩=false:=hfr32 1
     clear hcl32 hcc32 hfr32 hM32
     replace p32:=eq_true p32
     replace q32:=eq_true q32
     have HN0_go32:=qal.mk (show g≠go32 from by have h_:=IsS122.own_ne HI0.out HO419.out (by decide);intro e_;exact h_ (by rw[e_];rfl))
     obtain⟨ce47,hcl47,hM47,hcc47,hfr47⟩:=Kd.R_elem HO419.out z46 (t430:Int) (of_decide_eq_true (za8)) (by have h_:(t430:Int)<((t417.length:Int):Int):=of_decide_eq_true (za8);first|exact h_|(have e_:=(Kd.R_reads' HO419.out).1;omega)|simpa using h_)
     obtain rfl:=k46_openM hM47
     have HP47:=(Kd.R_seg HO419.out (t430:Int) (of_decide_eq_true (za8)) (by have h_:(t430:Int)<((t417.length:Int):Int):=of_decide_eq_true (za8);first|exact h_|(have e_:=(Kd.R_reads' HO419.out).1;omega)|simpa using h_) (seg:=[.int .i64 t432,.int .i64 t434]) (j:=0) hcl47 hcc47 (show 2≤2 from by decide) (x':=(⟨t432,t434⟩:S46)) (k46_mkM _ _ _ (⟨t432,t434⟩:S46) ) (fun _ hk=>hk)).1
     rw[←Ny436.out] at HP47
     have HQ47:=qal.mk HP47
     clear hcl47 hcc47 hfr47 hM47 HP47
     refine hK.out _ _ ⟨(qab BK421.out 0).trans rfl,(qab BK421.out 1).trans rfl⟩ (fun hHeld=>?_)
     clear hK K
     refine norm_ (a':=?_) ?_ ?_
     rotate_left
     ·show Act.put _ (some 40) _=_
      simp only[Act.put,List.setIfInBounds_toArray,List.set_cons_zero,List.set_cons_succ,qas,qat]
      rfl
     refine qaz (i:=11) (N:=some 41) (v:=?_) (a':=?_) #[true,true,true,true,true,true,true,true,true,true,true,true,false,false] rfl rfl (qax HT_.out (by kernel_rfl)) (fun _ _ _ h=>h) (Or.inl ⟨by rfl,?_⟩) ?_ ?_
     rotate_left
     ·intro w'
      go_simp
      with_reducible rfl
     rotate_left
     ·simp only[Act.put,List.setIfInBounds_toArray,List.set_cons_zero,List.set_cons_succ,qas,qat]
      rfl
     refine qaz (i:=12) (N:=some 42) (v:=?_) (a':=?_) #[true,true,true,true,true,true,true,true,true,true,true,true,true,false] rfl rfl (qax HT_.out (by kernel_rfl)) (fun _ _ _ h=>h) (Or.inl ⟨by rfl,?_⟩) ?_ ?_
     rotate_left
     ·intro w'
      go_simp
      with_reducible rfl
     rotate_left
     ·simp only[Act.put,List.setIfInBounds_toArray,List.set_cons_zero,List.set_cons_succ,qas,qat]
      rfl
     refine last_ (i:=13) (N:=none) #[true,true,true,true,true,true,true,true,true,true,true,true,true,true] rfl rfl (one_of HT_.out (by kernel_rfl)) (by decide) (fun K hK=>?_)
     refine skip_ (w1:=?_) (by rfl) rfl ?_ ?_
     rotate_left
     ·go_simp
      rfl
     refine hK.out _ _ ?_
     clear hK K
     refine done_ (done_of HT_.out (by kernel_rfl)) ?_
     have n0_:qal (Kd.S k62 62 ((w46.setCell ⟨go32,(t430:Int).toNat*2,none⟩ (.int .i64 t432)).setCell ⟨go32,(t430:Int).toNat*2+1,none⟩ (.int .i64 t434)) w.heap.size (fun _=>True) (.slice Ao35 t412.length co35) t412):=⟨by(with_reducible repeat(first|apply Kd.S_alloc|apply Kd.S_drewN|apply Kd.S_drew));exact Kd.S_mono (Kd.S_far (p:=⟨go32,(t430:Int).toNat*2+1,none⟩) (Kd.S_far (p:=⟨go32,(t430:Int).toNat*2,none⟩) (Kd.S_types HO414.out GG32.out (by decide)) (fun _ hk=>hk.2) (.int .i64 t432)) (fun _ hk=>hk.2) (.int .i64 t434)) (fun _ hk=>trivial)⟩
     have n1_:qal (Kd.R k46 46 ((w46.setCell ⟨go32,(t430:Int).toNat*2,none⟩ (.int .i64 t432)).setCell ⟨go32,(t430:Int).toNat*2+1,none⟩ (.int .i64 t434)) w.heap.size (fun _=>True) (.slice (some ⟨go32,0,none⟩) t417.length co41) y436):=⟨za4 HQ47⟩
     have n2_:qal (((w46.setCell ⟨go32,(t430:Int).toNat*2,none⟩ (.int .i64 t432)).setCell ⟨go32,(t430:Int).toNat*2+1,none⟩ (.int .i64 t434)).heap[gb410]?=some (.cells #[.int .i64 0,.slice none 0 0] 36 (0,0))):=⟨by(with_reducible repeat(first|refine qag ?_ _|refine qah ?_|refine qaf ?_ _));refine blk_far ?_ (by have h_:=Kd.R_ne HO419.out BK410.out (by decide);intro e_;exact h_ (by rw[e_];rfl)) _;(with_reducible repeat(first|refine qag ?_ _|refine qah ?_|refine qaf ?_ _));refine blk_far ?_ (by have h_:=Kd.R_ne HO419.out BK410.out (by decide);intro e_;exact h_ (by rw[e_];rfl)) _;(with_reducible repeat(first|refine qag ?_ _|refine qah ?_|refine qaf ?_ _));exact BK410.out⟩
     have n3_:qal (((w46.setCell ⟨go32,(t430:Int).toNat*2,none⟩ (.int .i64 t432)).setCell ⟨go32,(t430:Int).toNat*2+1,none⟩ (.int .i64 t434)).heap[gb421]?=some (.cells #[.int .i64 t416,.slice (some ⟨go32,0,none⟩) t417.length co41] 36 (0,0))):=⟨by(with_reducible repeat(first|refine qag ?_ _|refine qah ?_|refine qaf ?_ _));refine blk_far ?_ (by have h_:=Kd.R_ne HO419.out BK421.out (by decide);intro e_;exact h_ (by rw[e_];rfl)) _;(with_reducible repeat(first|refine qag ?_ _|refine qah ?_|refine qaf ?_ _));refine blk_far ?_ (by have h_:=Kd.R_ne HO419.out BK421.out (by decide);intro e_;exact h_ (by rw[e_];rfl)) _;(with_reducible repeat(first|refine qag ?_ _|refine qah ?_|refine qaf ?_ _));exact BK421.out⟩
     have n4_:qal (IsS122 w0 ((w46.setCell ⟨go32,(t430:Int).toNat*2,none⟩ (.int .i64 t432)).setCell ⟨go32,(t430:Int).toNat*2+1,none⟩ (.int .i64 t434)) g s0_0 t435):=⟨by repeat(first|(with_reducible first|exact HI0.out|apply IsS122.alloc|apply IsS122.drewN|apply IsS122.drew|apply IsS122.set_1|refine IsS122.far ?_ HN0_go32.out _|refine IsS122.far ?_ HN0_go32.out _|refine IsS122.far ?_ NB0_410.out _|refine IsS122.far ?_ NB0_421.out _)|exact HI0.out)⟩
     have n5_:qal (KeepBut w ((w46.setCell ⟨go32,(t430:Int).toNat*2,none⟩ (.int .i64 t432)).setCell ⟨go32,(t430:Int).toNat*2+1,none⟩ (.int .i64 t434)) g none):=⟨by repeat(first|(with_reducible first|exact HK.out|apply KeepBut.set_|apply keep_drewN|apply keep_drew|apply keep_alloc|refine keep_far ?_ GB32.out _|refine keep_far ?_ GB32.out _|refine keep_far ?_ GW410.out _|refine keep_far ?_ GW421.out _)|exact HK.out)⟩
     have n6_:qal (Below w0.heap.size w0 ((w46.setCell ⟨go32,(t430:Int).toNat*2,none⟩ (.int .i64 t432)).setCell ⟨go32,(t430:Int).toNat*2+1,none⟩ (.int .i64 t434))):=⟨by repeat(first|(with_reducible first|exact HB.out|apply qar|apply qap|apply qaq|refine qam ?_ (Nat.le_trans HL.out GB32.out)|refine qam ?_ (Nat.le_trans HL.out GB32.out)|refine qam ?_ (IsS122.ge HI0.out)|refine qam ?_ GE410.out|refine qam ?_ GE421.out)|exact HB.out)⟩
     (try clear HO414)
     (try clear HO419)
     (try clear BK410)
     (try clear BK421)
     (try clear HI0)
     (try clear HK)
     (try clear HB)
     generalize ((w46.setCell ⟨go32,(t430:Int).toNat*2,none⟩ (.int .i64 t432)).setCell ⟨go32,(t430:Int).toNat*2+1,none⟩ (.int .i64 t434))=w48 at n0_ n1_ n2_ n3_ n4_ n5_ n6_ ⊢
     have HO414:=n0_
     have HO419:=n1_
     have BK410:=n2_
     have BK421:=n3_
     have HI0:=n4_
     have HK:=n5_
     have HB:=n6_
     clear n0_ n1_ n2_ n3_ n4_ n5_ n6_
     have hcz49_0:w48.cell? ⟨gb421,0,none⟩=some (.int .i64 t416):=(qab BK421.out 0).trans rfl
     have hcz49_1:w48.cell? ⟨gb421,1,none⟩=some (.slice (some ⟨go32,0,none⟩) t417.length co41):=(qab BK421.out 1).trans rfl
     have hfz49_0:=qaa BK421.out 0
     have hfz49_1:=qaa BK421.out 1
     have hnb50:=NB410_0.out
     have hnc50:=NB0_410.out
     have hcz51_0:w48.cell? ⟨gb410,0,none⟩=some (.int .i64 0):=(qab BK410.out 0).trans rfl
     have hcz51_1:w48.cell? ⟨gb410,1,none⟩=some (.slice none 0 0):=(qab BK410.out 1).trans rfl
     have hfz51_0:=qaa BK410.out 0
     have hfz51_1:=qaa BK410.out 1
     try go_wp2
     refine bodyPost_ret (results_cell_row rfl _ _ gb410 36 #[.int .i64 t416,.slice (some ⟨go32,0,none⟩) t417.length co41] (0,0) _ rfl (by(with_reducible repeat(first|refine qag ?_ _|refine qah ?_|refine qaf ?_ _));refine qan (cs:=#[.int .i64 t416,.slice none 0 0]) ?_ 1 _ rfl;(with_reducible repeat(first|refine qag ?_ _|refine qah ?_|refine qaf ?_ _));refine qan (cs:=#[.int .i64 0,.slice none 0 0]) ?_ 0 _ rfl;(with_reducible repeat(first|refine qag ?_ _|refine qah ?_|refine qaf ?_ _));exact BK410.out) Try.underlying36 rfl (by kernel_rfl)) rfl ?_
     exact⟨_,za9,Kd.Q_of_R (by(with_reducible repeat(first|apply Kd.R_alloc|apply Kd.R_drewN|apply Kd.R_drew));exact Kd.R_mono (Kd.R_far (p:=⟨gb410,1,none⟩) (Kd.R_far (p:=⟨gb410,0,none⟩) (Kd.R_types HO419.out BK410.out (by decide)) (fun _ hk=>hk.2) (.int .i64 t416)) (fun _ hk=>hk.2) (.slice (some ⟨go32,0,none⟩) t417.length co41)) (fun _ hk=>trivial)),zb35_1Stock HI0 NB0_410 NB0_421,zb19_1Stock HB HI0 GE410 GE421,za13 HK GW410 GW421⟩
    ·rw[if_neg c31] at H
     exact absurd H (by simp)
   ·rw[if_neg c30] at H
    exact absurd H (by simp)
  ·rw[if_neg c26] at H
   have c26b0:(t422 == 1)=false:=beq_eq_false_iff_ne.mpr c26
   have c26b1:(t422 != 1)=true:=bne_iff_ne.mpr c26
   by_cases c52:t422=2
   ·rw[if_pos c52] at H
    have c52b0:(t422 == 2)=true:=beq_iff_eq.mpr c52
    have c52b1:(t422 != 2)=false:=bne_eq_false_iff_eq.mpr c52
    clear c52
    by_cases c53:1≤(t417.length:Int)
    ·rw[if_pos c53] at H
     have c53b0:=eq_true c53
     have c53b1:decide (1≤(t417.length:Int))=true:=decide_eq_true c53
     clear c53
     obtain⟨y437,hy437⟩:∃y_:List (S46),y_=(t417.drop (1:Int).toNat):=⟨_,rfl⟩
     replace H:(some (t416,y437,t423))=some (r1,r2,r3):=by first|(rw[hy437];with_reducible exact H)|(have H2_:=(Option.bind_some _ _).symm.trans H;rw[hy437];with_reducible exact H2_)|(have H2_:=(Option.bind_some _ _).symm.trans H;with_reducible exact H2_)|with_reducible exact H|(rw[hy437];exact H)|exact H
     have Ny437:=qal.mk hy437
     clear hy437
     simp only[Option.some.injEq,Prod.mk.injEq] at H
     obtain⟨rfl,rfl,rfl⟩:=H
     go_enter Try.func71,Try.ntmps71
     go_wp2_with(first|((with_reducible refine qak (N:=2) rfl ?_);refine qaj ?hg (N:=2) ?hd (cs:=#[.int .i64 0,.slice none 0 0]) (t:=36) ?hr ?_;(case hd=>rfl);(case hg=>rfl);(case hr=>first|(go_simp;done)|(go_simp;rfl));intro gb410 hg w54 hbox hb;have n0_:=qal.mk (IsS122.below (zb29_1Stock HI0) hb);have n1_:=qal.mk (KeepBut.trans (za12 HK) (KeepBut.of_below hb g none) (.inl rfl));have n2_:=qal.mk (qae (zb25_1Stock HB HI0) hb);have n3_:=qal.mk (hbox);have n4_:=qal.mk ((by rw[hg];exact(qba (w:=w) (g:=g) (row:=none) (za12 HK)):w.heap.size≤gb410));have n5_:=qal.mk ((Nat.le_trans HW0.out (by rw[hg];exact(qba (w:=w) (g:=g) (row:=none) (za12 HK)):w.heap.size≤gb410):w0.heap.size≤gb410));have n6_:=qal.mk ((by rw[hg];exact Nat.ne_of_lt (IsS122.lt (show IsS122 w0 _ g s0_0 s0_1 from by repeat(first|(with_reducible first|exact HI0.out|apply IsS122.alloc|apply IsS122.drewN|apply IsS122.drew|apply IsS122.set_1)|exact HI0.out))):g≠gb410));have n7_:=qal.mk ((by rw[hg];exact Nat.ne_of_gt (IsS122.lt (show IsS122 w0 _ g s0_0 s0_1 from by repeat(first|(with_reducible first|exact HI0.out|apply IsS122.alloc|apply IsS122.drewN|apply IsS122.drew|apply IsS122.set_1)|exact HI0.out))):gb410≠g));clear HI0;clear HK;clear HB;have HI0:=n0_;have HK:=n1_;have HB:=n2_;have BK410:=n3_;have GW410:=n4_;have GE410:=n5_;have NB0_410:=n6_;have NB410_0:=n7_;clear n0_ n1_ n2_ n3_ n4_ n5_ n6_ n7_;clear hb hbox hg)|((with_reducible refine qai (f:=106) rfl ?_);refine qau (some 9) rfl rfl Try.func106 (by kernel_rfl) rfl #[.pointer (some ⟨g,0,none⟩)] rfl (by(try simp only[List.map_toArray,List.map_cons,List.map_nil]);first|done|rfl|(simp only[List.length_drop,List.length_take];rfl)) ?_;(with_reducible refine(spec_l71Recs.calls k g s0_0 s0_1 t411 t412 t415 w0 _ ?side1 ?side2 A2.out).mono ?_);(case side1=>repeat(first|(with_reducible first|exact HI0.out|apply IsS122.alloc|apply IsS122.drewN|apply IsS122.drew|apply IsS122.set_1|refine IsS122.far ?_ NB0_410.out _)|exact HI0.out));(case side2=>repeat(first|(with_reducible first|exact HB.out|apply qar|apply qap|apply qaq|refine qam ?_ (IsS122.ge HI0.out)|refine qam ?_ GE410.out)|exact HB.out));rintro e w55 ⟨v413,rfl,ho0,hi,hb,hk⟩;refine⟨_,rfl,?_⟩;have n0_:=qal.mk (KeepBut.blk hk (g':=gb410) (o:=.cells #[.int .i64 0,.slice none 0 0] 36 (0,0)) (za0 BK410) NB410_0.out (by simp));have n1_:=qal.mk (Kd.S_lower ho0 (qba (w:=w) (g:=g) (row:=none) (za15 HK GW410)));have n2_:=qal.mk (KeepBut.trans (za15 HK GW410) hk (.inl rfl));have n3_:=qal.mk (hb);have n4_:=qal.mk (hi);clear BK410;clear HK;clear HB;clear HI0;have BK410:=n0_;have HO414:=n1_;have HK:=n2_;have HB:=n3_;have HI0:=n4_;clear n0_ n1_ n2_ n3_ n4_;(try clear hb);(try clear hb2);(try clear hk);(try clear hi);(try clear ho0);obtain⟨Ao56,co56,eo56⟩:=Kd.S_slice HO414.out;subst eo56)|((with_reducible refine qai (f:=107) rfl ?_);refine qau (some 15) rfl rfl Try.func107 (by kernel_rfl) rfl #[.int .i64 t411,.slice Ao56 t412.length co56] rfl (by(try simp only[List.map_toArray,List.map_cons,List.map_nil]);first|done|rfl|(simp only[List.length_drop,List.length_take];rfl)) ?_;(with_reducible refine(spec_StockOf.calls k t411 _ _ t412 t416 t417 t420 _ ?side1 ?side2 A3.out).mono ?_);(case side1=>repeat(first|exact(Kd.S_reads' HO414.out).2.2|(with_reducible refine Kd.C_alloc ?_ _)|(with_reducible refine Kd.C_drewN ?_ _)|(with_reducible refine Kd.C_drew ?_)));(case side2=>exact(Kd.S_reads' HO414.out).2.1);rintro e w57 ⟨v418,rfl,ho0,hb⟩;refine⟨_,rfl,?_⟩;have n0_:=qal.mk (Kd.S_below (za10 HO414) hb);have n1_:=qal.mk (Kd.R_lower ho0 (qba (w:=w) (g:=g) (row:=none) (za15 HK GW410)));have n2_:=qal.mk (IsS122.below (zb40_1Stock HI0 NB0_410) hb);have n3_:=qal.mk (qac (g:=gb410) (o:=.cells #[.int .i64 0,.slice none 0 0] 36 (0,0)) (za0 BK410) hb);have n4_:=qal.mk (KeepBut.trans (za15 HK GW410) (KeepBut.of_below hb g none) (.inl rfl));have n5_:=qal.mk (qae (zb32_1Stock HB HI0 GE410) hb);clear HO414;clear HI0;clear BK410;clear HK;clear HB;have HO414:=n0_;have HO419:=n1_;have HI0:=n2_;have BK410:=n3_;have HK:=n4_;have HB:=n5_;clear n0_ n1_ n2_ n3_ n4_ n5_;(try clear hb);(try clear hb2);(try clear hk);(try clear hi);(try clear ho0))|((with_reducible refine qak (N:=5) rfl ?_);refine qaj ?hg (N:=5) ?hd (cs:=#[.int .i64 0,.slice none 0 0]) (t:=36) ?hr ?_;(case hd=>rfl);(case hg=>rfl);(case hr=>first|(go_simp;done)|(go_simp;rfl));intro gb421 hg w58 hbox hb;have n0_:=qal.mk (Kd.S_below (za10 HO414) hb);have n1_:=qal.mk (Kd.R_below (za4 HO419) hb);have n2_:=qal.mk (IsS122.below (zb40_1Stock HI0 NB0_410) hb);have n3_:=qal.mk (qac (g:=gb410) (o:=.cells #[.int .i64 0,.slice none 0 0] 36 (0,0)) (za0 BK410) hb);have n4_:=qal.mk (KeepBut.trans (za15 HK GW410) (KeepBut.of_below hb g none) (.inl rfl));have n5_:=qal.mk (qae (zb32_1Stock HB HI0 GE410) hb);have n6_:=qal.mk (hbox);have n7_:=qal.mk ((by rw[hg];exact(qba (w:=w) (g:=g) (row:=none) (za15 HK GW410)):w.heap.size≤gb421));have n8_:=qal.mk ((Nat.le_trans HW0.out (by rw[hg];exact(qba (w:=w) (g:=g) (row:=none) (za15 HK GW410)):w.heap.size≤gb421):w0.heap.size≤gb421));have n9_:=qal.mk ((by rw[hg];exact Nat.ne_of_lt (qao (g:=gb410) (o:=.cells #[.int .i64 0,.slice none 0 0] 36 (0,0)) (za0 BK410)):gb410≠gb421));have n10_:=qal.mk ((by rw[hg];exact Nat.ne_of_gt (qao (g:=gb410) (o:=.cells #[.int .i64 0,.slice none 0 0] 36 (0,0)) (za0 BK410)):gb421≠gb410));have n11_:=qal.mk ((by rw[hg];exact Nat.ne_of_lt (IsS122.lt (show IsS122 w0 _ g s0_0 t415 from by repeat(first|(with_reducible first|exact HI0.out|apply IsS122.alloc|apply IsS122.drewN|apply IsS122.drew|apply IsS122.set_1|refine IsS122.far ?_ NB0_410.out _)|exact HI0.out))):g≠gb421));have n12_:=qal.mk ((by rw[hg];exact Nat.ne_of_gt (IsS122.lt (show IsS122 w0 _ g s0_0 t415 from by repeat(first|(with_reducible first|exact HI0.out|apply IsS122.alloc|apply IsS122.drewN|apply IsS122.drew|apply IsS122.set_1|refine IsS122.far ?_ NB0_410.out _)|exact HI0.out))):gb421≠g));clear HO414;clear HO419;clear HI0;clear BK410;clear HK;clear HB;have HO414:=n0_;have HO419:=n1_;have HI0:=n2_;have BK410:=n3_;have HK:=n4_;have HB:=n5_;have BK421:=n6_;have GW421:=n7_;have GE421:=n8_;have NB410_421:=n9_;have NB421_410:=n10_;have NB0_421:=n11_;have NB421_0:=n12_;clear n0_ n1_ n2_ n3_ n4_ n5_ n6_ n7_ n8_ n9_ n10_ n11_ n12_;clear hb hbox hg;have hnb59:=NB421_410.out;have hnc59:=NB410_421.out;have hnb60:=NB421_0.out;have hnc60:=NB0_421.out;have hcz61_0:w58.cell? ⟨gb421,0,none⟩=some (.int .i64 0):=(qab BK421.out 0).trans rfl;have hcz61_1:w58.cell? ⟨gb421,1,none⟩=some (.slice none 0 0):=(qab BK421.out 1).trans rfl;have hfz61_0:=qaa BK421.out 0;have hfz61_1:=qaa BK421.out 1;obtain⟨Ao62,co62,eo62⟩:=Kd.R_slice HO419.out;subst eo62)|((with_reducible refine qai (f:=65) rfl ?_);refine qau (some 19) rfl rfl Try.func65 (by kernel_rfl) rfl #[.pointer (some ⟨g,0,none⟩),.int .i64 20] rfl (by(try simp only[List.map_toArray,List.map_cons,List.map_nil]);first|done|rfl|(simp only[List.length_drop,List.length_take];rfl)) ?_;(with_reducible refine(spec_l6Rd_pick.calls k g s0_0 t415 20 t422 t423 w0 _ ?side1 ?side2 A4.out).mono ?_);(case side1=>repeat(first|(with_reducible first|exact HI0.out|apply IsS122.alloc|apply IsS122.drewN|apply IsS122.drew|apply IsS122.set_1|refine IsS122.far ?_ NB0_410.out _|refine IsS122.far ?_ NB0_421.out _)|exact HI0.out));(case side2=>repeat(first|(with_reducible first|exact HB.out|apply qar|apply qap|apply qaq|refine qam ?_ (IsS122.ge HI0.out)|refine qam ?_ GE410.out|refine qam ?_ GE421.out)|exact HB.out));rintro e w63 ⟨rfl,hi,hb,hk⟩;refine⟨_,rfl,?_⟩;have n0_:=qal.mk (KeepBut.blk hk (g':=gb410) (o:=.cells #[.int .i64 0,.slice none 0 0] 36 (0,0)) (za5 NB410_421 BK410) NB410_0.out (by simp));have n1_:=qal.mk (Kd.S_mono (Kd.S_keep (IsS122.apartS (show IsS122 w0 _ g s0_0 t415 from by repeat(first|(with_reducible first|exact HI0.out|apply IsS122.alloc|apply IsS122.drewN|apply IsS122.drew|apply IsS122.set_1|refine IsS122.far ?_ NB0_410.out _|refine IsS122.far ?_ NB0_421.out _)|exact HI0.out)) (by(with_reducible repeat(first|apply Kd.S_alloc|apply Kd.S_drewN|apply Kd.S_drew));exact(Kd.S_mono (Kd.S_far (p:=⟨gb421,1,none⟩) (Kd.S_far (p:=⟨gb421,0,none⟩) (Kd.S_types HO414.out BK421.out (by decide)) (fun _ hk=>hk.2) (.int .i64 t416)) (fun _ hk=>hk.2) (.slice Ao62 t417.length co62)) (fun _ h_=>h_.1))) (by decide)) hk (fun _ h=>h.2)) (fun _ h=>h.1));have n2_:=qal.mk (Kd.R_mono (Kd.R_keep (IsS122.apart (show IsS122 w0 _ g s0_0 t415 from by repeat(first|(with_reducible first|exact HI0.out|apply IsS122.alloc|apply IsS122.drewN|apply IsS122.drew|apply IsS122.set_1|refine IsS122.far ?_ NB0_410.out _|refine IsS122.far ?_ NB0_421.out _)|exact HI0.out)) (by(with_reducible repeat(first|apply Kd.R_alloc|apply Kd.R_drewN|apply Kd.R_drew));exact(Kd.R_mono (Kd.R_far (p:=⟨gb421,1,none⟩) (Kd.R_far (p:=⟨gb421,0,none⟩) (Kd.R_types HO419.out BK421.out (by decide)) (fun _ hk=>hk.2) (.int .i64 t416)) (fun _ hk=>hk.2) (.slice Ao62 t417.length co62)) (fun _ h_=>h_.1))) (by decide)) hk (fun _ h=>h.2)) (fun _ h=>h.1));have n3_:=qal.mk (KeepBut.blk hk (g':=gb421) (o:=.cells #[.int .i64 t416,.slice Ao62 t417.length co62] 36 (0,0)) (by(with_reducible repeat(first|refine qag ?_ _|refine qah ?_|refine qaf ?_ _));refine qan (cs:=#[.int .i64 t416,.slice none 0 0]) ?_ 1 _ rfl;(with_reducible repeat(first|refine qag ?_ _|refine qah ?_|refine qaf ?_ _));refine qan (cs:=#[.int .i64 0,.slice none 0 0]) ?_ 0 _ rfl;(with_reducible repeat(first|refine qag ?_ _|refine qah ?_|refine qaf ?_ _));exact BK421.out) NB421_0.out (by simp));have n4_:=qal.mk (KeepBut.trans (za13 HK GW410 GW421) hk (.inl rfl));have n5_:=qal.mk (hb);have n6_:=qal.mk (hi);clear BK410;clear HO414;clear HO419;clear BK421;clear HK;clear HB;clear HI0;have BK410:=n0_;have HO414:=n1_;have HO419:=n2_;have BK421:=n3_;have HK:=n4_;have HB:=n5_;have HI0:=n6_;clear n0_ n1_ n2_ n3_ n4_ n5_ n6_;(try clear hb);(try clear hb2);(try clear hk);(try clear hi);have hcz64_0:w63.cell? ⟨gb421,0,none⟩=some (.int .i64 t416):=(qab BK421.out 0).trans rfl;have hcz64_1:w63.cell? ⟨gb421,1,none⟩=some (.slice Ao62 t417.length co62):=(qab BK421.out 1).trans rfl;have hfz64_0:=qaa BK421.out 0;have hfz64_1:=qaa BK421.out 1;have q65:(1:Int)≤((t417.length:Int):Int):=of_decide_eq_true (za8);obtain⟨i065,hi065,_,hsz65,_⟩:=info_parts info46;have hcut65:=cut_from (P:=Try.prog) 34 46 .i64 Try.underlying34 hi065 2 hsz65 Ao62 t417.length co62 1 (by omega) q65;have hr65:=Kd.Q_drop (k:=(1:Int).toNat) (Kd.Q_of_R HO419.out) (by omega);obtain⟨A65,hA65⟩:∃A1,A1=(if co62=(1:Int).toNat then Ao62 else(Ao62:Option Addr).map (·.add ((1:Int).toNat*2))):=⟨_,rfl⟩;obtain⟨c65,hc65⟩:∃c1,c1=co62 - (1:Int).toNat:=⟨_,rfl⟩;have hy65:y437.length=t417.length - (1:Int).toNat:=(by rw[Ny437.out,List.length_drop]);rw[←Ny437.out] at hr65;rw[←hy65,←hA65,←hc65] at hcut65;replace hr65:Kd.Q k46 46 w63 w.heap.size (fun _=>True) (.slice A65 y437.length c65) y437:=(by rw[hA65,hc65,hy65];exact hr65);have HE65:qal ((Value.slice A65 y437.length c65).ownBlock=(.slice Ao62 t417.length co62:Value).ownBlock):=⟨by rw[hA65];split<;>(cases (Ao62:Option Addr)<;>rfl)⟩;clear hy65 hi065 hsz65 HO419 hA65 hc65;have HO439:=qal.mk hr65;clear hr65;replace q65:=eq_true q65;have hnb66:=NB410_0.out;have hnc66:=NB0_410.out;have hcz67_0:w63.cell? ⟨gb410,0,none⟩=some (.int .i64 0):=(qab BK410.out 0).trans rfl;have hcz67_1:w63.cell? ⟨gb410,1,none⟩=some (.slice none 0 0):=(qab BK410.out 1).trans rfl;have hfz67_0:=qaa BK410.out 0;have hfz67_1:=qaa BK410.out 1))
     refine bodyPost_ret (results_cell_row rfl _ _ gb410 36 #[.int .i64 t416,.slice A65 y437.length c65] (0,0) _ rfl (by(with_reducible repeat(first|refine qag ?_ _|refine qah ?_|refine qaf ?_ _));refine qan (cs:=#[.int .i64 t416,.slice none 0 0]) ?_ 1 _ rfl;(with_reducible repeat(first|refine qag ?_ _|refine qah ?_|refine qaf ?_ _));refine qan (cs:=#[.int .i64 0,.slice none 0 0]) ?_ 0 _ rfl;(with_reducible repeat(first|refine qag ?_ _|refine qah ?_|refine qaf ?_ _));refine blk_far ?_ NB410_421.out _;(with_reducible repeat(first|refine qag ?_ _|refine qah ?_|refine qaf ?_ _));exact BK410.out) Try.underlying36 rfl (by kernel_rfl)) rfl ?_
     exact⟨_,za9,by(with_reducible repeat(first|apply Kd.Q_alloc|apply Kd.Q_drewN|apply Kd.Q_drew));exact Kd.Q_mono (Kd.Q_far (p:=⟨gb410,1,none⟩) (Kd.Q_far (p:=⟨gb410,0,none⟩) (Kd.Q_far (p:=⟨gb421,1,none⟩) (Kd.Q_types (Kd.Q_types HO439.out BK421.out (by decide)) BK410.out (by decide)) (fun _ hk=>hk.1.2) (.slice A65 y437.length c65)) (fun _ hk=>hk.2) (.int .i64 t416)) (fun _ hk=>hk.2) (.slice A65 y437.length c65)) (fun _ hk=>trivial),zb35_1Stock HI0 NB0_410 NB0_421,zb19_1Stock HB HI0 GE410 GE421,za13 HK GW410 GW421⟩
    ·rw[if_neg c53] at H
     exact absurd H (by simp)
   ·rw[if_neg c52] at H
    have c52b0:(t422 == 2)=false:=beq_eq_false_iff_ne.mpr c52
    have c52b1:(t422 != 2)=true:=bne_iff_ne.mpr c52
    simp only[Option.some.injEq,Prod.mk.injEq] at H
    obtain⟨rfl,rfl,rfl⟩:=H
    go_enter Try.func71,Try.ntmps71
    go_wp2_with(first|((with_reducible refine qak (N:=2) rfl ?_);refine qaj ?hg (N:=2) ?hd (cs:=#[.int .i64 0,.slice none 0 0]) (t:=36) ?hr ?_;(case hd=>rfl);(case hg=>rfl);(case hr=>first|(go_simp;done)|(go_simp;rfl));intro gb410 hg w68 hbox hb;have n0_:=qal.mk (IsS122.below (zb29_1Stock HI0) hb);have n1_:=qal.mk (KeepBut.trans (za12 HK) (KeepBut.of_below hb g none) (.inl rfl));have n2_:=qal.mk (qae (zb25_1Stock HB HI0) hb);have n3_:=qal.mk (hbox);have n4_:=qal.mk ((by rw[hg];exact(qba (w:=w) (g:=g) (row:=none) (za12 HK)):w.heap.size≤gb410));have n5_:=qal.mk ((Nat.le_trans HW0.out (by rw[hg];exact(qba (w:=w) (g:=g) (row:=none) (za12 HK)):w.heap.size≤gb410):w0.heap.size≤gb410));have n6_:=qal.mk ((by rw[hg];exact Nat.ne_of_lt (IsS122.lt (show IsS122 w0 _ g s0_0 s0_1 from by repeat(first|(with_reducible first|exact HI0.out|apply IsS122.alloc|apply IsS122.drewN|apply IsS122.drew|apply IsS122.set_1)|exact HI0.out))):g≠gb410));have n7_:=qal.mk ((by rw[hg];exact Nat.ne_of_gt (IsS122.lt (show IsS122 w0 _ g s0_0 s0_1 from by repeat(first|(with_reducible first|exact HI0.out|apply IsS122.alloc|apply IsS122.drewN|apply IsS122.drew|apply IsS122.set_1)|exact HI0.out))):gb410≠g));clear HI0;clear HK;clear HB;have HI0:=n0_;have HK:=n1_;have HB:=n2_;have BK410:=n3_;have GW410:=n4_;have GE410:=n5_;have NB0_410:=n6_;have NB410_0:=n7_;clear n0_ n1_ n2_ n3_ n4_ n5_ n6_ n7_;clear hb hbox hg)|((with_reducible refine qai (f:=106) rfl ?_);refine qau (some 9) rfl rfl Try.func106 (by kernel_rfl) rfl #[.pointer (some ⟨g,0,none⟩)] rfl (by(try simp only[List.map_toArray,List.map_cons,List.map_nil]);first|done|rfl|(simp only[List.length_drop,List.length_take];rfl)) ?_;(with_reducible refine(spec_l71Recs.calls k g s0_0 s0_1 t411 t412 t415 w0 _ ?side1 ?side2 A2.out).mono ?_);(case side1=>repeat(first|(with_reducible first|exact HI0.out|apply IsS122.alloc|apply IsS122.drewN|apply IsS122.drew|apply IsS122.set_1|refine IsS122.far ?_ NB0_410.out _)|exact HI0.out));(case side2=>repeat(first|(with_reducible first|exact HB.out|apply qar|apply qap|apply qaq|refine qam ?_ (IsS122.ge HI0.out)|refine qam ?_ GE410.out)|exact HB.out));rintro e w69 ⟨v413,rfl,ho0,hi,hb,hk⟩;refine⟨_,rfl,?_⟩;have n0_:=qal.mk (KeepBut.blk hk (g':=gb410) (o:=.cells #[.int .i64 0,.slice none 0 0] 36 (0,0)) (za0 BK410) NB410_0.out (by simp));have n1_:=qal.mk (Kd.S_lower ho0 (qba (w:=w) (g:=g) (row:=none) (za15 HK GW410)));have n2_:=qal.mk (KeepBut.trans (za15 HK GW410) hk (.inl rfl));have n3_:=qal.mk (hb);have n4_:=qal.mk (hi);clear BK410;clear HK;clear HB;clear HI0;have BK410:=n0_;have HO414:=n1_;have HK:=n2_;have HB:=n3_;have HI0:=n4_;clear n0_ n1_ n2_ n3_ n4_;(try clear hb);(try clear hb2);(try clear hk);(try clear hi);(try clear ho0);obtain⟨Ao70,co70,eo70⟩:=Kd.S_slice HO414.out;subst eo70)|((with_reducible refine qai (f:=107) rfl ?_);refine qau (some 15) rfl rfl Try.func107 (by kernel_rfl) rfl #[.int .i64 t411,.slice Ao70 t412.length co70] rfl (by(try simp only[List.map_toArray,List.map_cons,List.map_nil]);first|done|rfl|(simp only[List.length_drop,List.length_take];rfl)) ?_;(with_reducible refine(spec_StockOf.calls k t411 _ _ t412 t416 t417 t420 _ ?side1 ?side2 A3.out).mono ?_);(case side1=>repeat(first|exact(Kd.S_reads' HO414.out).2.2|(with_reducible refine Kd.C_alloc ?_ _)|(with_reducible refine Kd.C_drewN ?_ _)|(with_reducible refine Kd.C_drew ?_)));(case side2=>exact(Kd.S_reads' HO414.out).2.1);rintro e w71 ⟨v418,rfl,ho0,hb⟩;refine⟨_,rfl,?_⟩;have n0_:=qal.mk (Kd.S_below (za10 HO414) hb);have n1_:=qal.mk (Kd.R_lower ho0 (qba (w:=w) (g:=g) (row:=none) (za15 HK GW410)));have n2_:=qal.mk (IsS122.below (zb40_1Stock HI0 NB0_410) hb);have n3_:=qal.mk (qac (g:=gb410) (o:=.cells #[.int .i64 0,.slice none 0 0] 36 (0,0)) (za0 BK410) hb);have n4_:=qal.mk (KeepBut.trans (za15 HK GW410) (KeepBut.of_below hb g none) (.inl rfl));have n5_:=qal.mk (qae (zb32_1Stock HB HI0 GE410) hb);clear HO414;clear HI0;clear BK410;clear HK;clear HB;have HO414:=n0_;have HO419:=n1_;have HI0:=n2_;have BK410:=n3_;have HK:=n4_;have HB:=n5_;clear n0_ n1_ n2_ n3_ n4_ n5_;(try clear hb);(try clear hb2);(try clear hk);(try clear hi);(try clear ho0))|((with_reducible refine qak (N:=5) rfl ?_);refine qaj ?hg (N:=5) ?hd (cs:=#[.int .i64 0,.slice none 0 0]) (t:=36) ?hr ?_;(case hd=>rfl);(case hg=>rfl);(case hr=>first|(go_simp;done)|(go_simp;rfl));intro gb421 hg w72 hbox hb;have n0_:=qal.mk (Kd.S_below (za10 HO414) hb);have n1_:=qal.mk (Kd.R_below (za4 HO419) hb);have n2_:=qal.mk (IsS122.below (zb40_1Stock HI0 NB0_410) hb);have n3_:=qal.mk (qac (g:=gb410) (o:=.cells #[.int .i64 0,.slice none 0 0] 36 (0,0)) (za0 BK410) hb);have n4_:=qal.mk (KeepBut.trans (za15 HK GW410) (KeepBut.of_below hb g none) (.inl rfl));have n5_:=qal.mk (qae (zb32_1Stock HB HI0 GE410) hb);have n6_:=qal.mk (hbox);have n7_:=qal.mk ((by rw[hg];exact(qba (w:=w) (g:=g) (row:=none) (za15 HK GW410)):w.heap.size≤gb421));have n8_:=qal.mk ((Nat.le_trans HW0.out (by rw[hg];exact(qba (w:=w) (g:=g) (row:=none) (za15 HK GW410)):w.heap.size≤gb421):w0.heap.size≤gb421));have n9_:=qal.mk ((by rw[hg];exact Nat.ne_of_lt (qao (g:=gb410) (o:=.cells #[.int .i64 0,.slice none 0 0] 36 (0,0)) (za0 BK410)):gb410≠gb421));have n10_:=qal.mk ((by rw[hg];exact Nat.ne_of_gt (qao (g:=gb410) (o:=.cells #[.int .i64 0,.slice none 0 0] 36 (0,0)) (za0 BK410)):gb421≠gb410));have n11_:=qal.mk ((by rw[hg];exact Nat.ne_of_lt (IsS122.lt (show IsS122 w0 _ g s0_0 t415 from by repeat(first|(with_reducible first|exact HI0.out|apply IsS122.alloc|apply IsS122.drewN|apply IsS122.drew|apply IsS122.set_1|refine IsS122.far ?_ NB0_410.out _)|exact HI0.out))):g≠gb421));have n12_:=qal.mk ((by rw[hg];exact Nat.ne_of_gt (IsS122.lt (show IsS122 w0 _ g s0_0 t415 from by repeat(first|(with_reducible first|exact HI0.out|apply IsS122.alloc|apply IsS122.drewN|apply IsS122.drew|apply IsS122.set_1|refine IsS122.far ?_ NB0_410.out _)|exact HI0.out))):gb421≠g));clear HO414;clear HO419;clear HI0;clear BK410;clear HK;clear HB;have HO414:=n0_;have HO419:=n1_;have HI0:=n2_;have BK410:=n3_;have HK:=n4_;have HB:=n5_;have BK421:=n6_;have GW421:=n7_;have GE421:=n8_;have NB410_421:=n9_;have NB421_410:=n10_;have NB0_421:=n11_;have NB421_0:=n12_;clear n0_ n1_ n2_ n3_ n4_ n5_ n6_ n7_ n8_ n9_ n10_ n11_ n12_;clear hb hbox hg;have hnb73:=NB421_410.out;have hnc73:=NB410_421.out;have hnb74:=NB421_0.out;have hnc74:=NB0_421.out;have hcz75_0:w72.cell? ⟨gb421,0,none⟩=some (.int .i64 0):=(qab BK421.out 0).trans rfl;have hcz75_1:w72.cell? ⟨gb421,1,none⟩=some (.slice none 0 0):=(qab BK421.out 1).trans rfl;have hfz75_0:=qaa BK421.out 0;have hfz75_1:=qaa BK421.out 1;obtain⟨Ao76,co76,eo76⟩:=Kd.R_slice HO419.out;subst eo76)|((with_reducible refine qai (f:=65) rfl ?_);refine qau (some 19) rfl rfl Try.func65 (by kernel_rfl) rfl #[.pointer (some ⟨g,0,none⟩),.int .i64 20] rfl (by(try simp only[List.map_toArray,List.map_cons,List.map_nil]);first|done|rfl|(simp only[List.length_drop,List.length_take];rfl)) ?_;(with_reducible refine(spec_l6Rd_pick.calls k g s0_0 t415 20 t422 t423 w0 _ ?side1 ?side2 A4.out).mono ?_);(case side1=>repeat(first|(with_reducible first|exact HI0.out|apply IsS122.alloc|apply IsS122.drewN|apply IsS122.drew|apply IsS122.set_1|refine IsS122.far ?_ NB0_410.out _|refine IsS122.far ?_ NB0_421.out _)|exact HI0.out));(case side2=>repeat(first|(with_reducible first|exact HB.out|apply qar|apply qap|apply qaq|refine qam ?_ (IsS122.ge HI0.out)|refine qam ?_ GE410.out|refine qam ?_ GE421.out)|exact HB.out));rintro e w77 ⟨rfl,hi,hb,hk⟩;refine⟨_,rfl,?_⟩;have n0_:=qal.mk (KeepBut.blk hk (g':=gb410) (o:=.cells #[.int .i64 0,.slice none 0 0] 36 (0,0)) (za5 NB410_421 BK410) NB410_0.out (by simp));have n1_:=qal.mk (Kd.S_mono (Kd.S_keep (IsS122.apartS (show IsS122 w0 _ g s0_0 t415 from by repeat(first|(with_reducible first|exact HI0.out|apply IsS122.alloc|apply IsS122.drewN|apply IsS122.drew|apply IsS122.set_1|refine IsS122.far ?_ NB0_410.out _|refine IsS122.far ?_ NB0_421.out _)|exact HI0.out)) (by(with_reducible repeat(first|apply Kd.S_alloc|apply Kd.S_drewN|apply Kd.S_drew));exact(Kd.S_mono (Kd.S_far (p:=⟨gb421,1,none⟩) (Kd.S_far (p:=⟨gb421,0,none⟩) (Kd.S_types HO414.out BK421.out (by decide)) (fun _ hk=>hk.2) (.int .i64 t416)) (fun _ hk=>hk.2) (.slice Ao76 t417.length co76)) (fun _ h_=>h_.1))) (by decide)) hk (fun _ h=>h.2)) (fun _ h=>h.1));have n2_:=qal.mk (Kd.R_mono (Kd.R_keep (IsS122.apart (show IsS122 w0 _ g s0_0 t415 from by repeat(first|(with_reducible first|exact HI0.out|apply IsS122.alloc|apply IsS122.drewN|apply IsS122.drew|apply IsS122.set_1|refine IsS122.far ?_ NB0_410.out _|refine IsS122.far ?_ NB0_421.out _)|exact HI0.out)) (by(with_reducible repeat(first|apply Kd.R_alloc|apply Kd.R_drewN|apply Kd.R_drew));exact(Kd.R_mono (Kd.R_far (p:=⟨gb421,1,none⟩) (Kd.R_far (p:=⟨gb421,0,none⟩) (Kd.R_types HO419.out BK421.out (by decide)) (fun _ hk=>hk.2) (.int .i64 t416)) (fun _ hk=>hk.2) (.slice Ao76 t417.length co76)) (fun _ h_=>h_.1))) (by decide)) hk (fun _ h=>h.2)) (fun _ h=>h.1));have n3_:=qal.mk (KeepBut.blk hk (g':=gb421) (o:=.cells #[.int .i64 t416,.slice Ao76 t417.length co76] 36 (0,0)) (by(with_reducible repeat(first|refine qag ?_ _|refine qah ?_|refine qaf ?_ _));refine qan (cs:=#[.int .i64 t416,.slice none 0 0]) ?_ 1 _ rfl;(with_reducible repeat(first|refine qag ?_ _|refine qah ?_|refine qaf ?_ _));refine qan (cs:=#[.int .i64 0,.slice none 0 0]) ?_ 0 _ rfl;(with_reducible repeat(first|refine qag ?_ _|refine qah ?_|refine qaf ?_ _));exact BK421.out) NB421_0.out (by simp));have n4_:=qal.mk (KeepBut.trans (za13 HK GW410 GW421) hk (.inl rfl));have n5_:=qal.mk (hb);have n6_:=qal.mk (hi);clear BK410;clear HO414;clear HO419;clear BK421;clear HK;clear HB;clear HI0;have BK410:=n0_;have HO414:=n1_;have HO419:=n2_;have BK421:=n3_;have HK:=n4_;have HB:=n5_;have HI0:=n6_;clear n0_ n1_ n2_ n3_ n4_ n5_ n6_;(try clear hb);(try clear hb2);(try clear hk);(try clear hi);have hcz78_0:w77.cell? ⟨gb421,0,none⟩=some (.int .i64 t416):=(qab BK421.out 0).trans rfl;have hcz78_1:w77.cell? ⟨gb421,1,none⟩=some (.slice Ao76 t417.length co76):=(qab BK421.out 1).trans rfl;have hfz78_0:=qaa BK421.out 0;have hfz78_1:=qaa BK421.out 1;have hnb79:=NB410_0.out;have hnc79:=NB0_410.out;have hcz80_0:w77.cell? ⟨gb410,0,none⟩=some (.int .i64 0):=(qab BK410.out 0).trans rfl;have hcz80_1:w77.cell? ⟨gb410,1,none⟩=some (.slice none 0 0):=(qab BK410.out 1).trans rfl;have hfz80_0:=qaa BK410.out 0;have hfz80_1:=qaa BK410.out 1))
    refine bodyPost_ret (results_cell_row rfl _ _ gb410 36 #[.int .i64 t416,.slice Ao76 t417.length co76] (0,0) _ rfl (by(with_reducible repeat(first|refine qag ?_ _|refine qah ?_|refine qaf ?_ _));refine qan (cs:=#[.int .i64 t416,.slice none 0 0]) ?_ 1 _ rfl;(with_reducible repeat(first|refine qag ?_ _|refine qah ?_|refine qaf ?_ _));refine qan (cs:=#[.int .i64 0,.slice none 0 0]) ?_ 0 _ rfl;(with_reducible repeat(first|refine qag ?_ _|refine qah ?_|refine qaf ?_ _));exact BK410.out) Try.underlying36 rfl (by kernel_rfl)) rfl ?_
    exact⟨_,za9,Kd.Q_of_R (by(with_reducible repeat(first|apply Kd.R_alloc|apply Kd.R_drewN|apply Kd.R_drew));exact Kd.R_mono (Kd.R_far (p:=⟨gb410,1,none⟩) (Kd.R_far (p:=⟨gb410,0,none⟩) (Kd.R_types HO419.out BK410.out (by decide)) (fun _ hk=>hk.2) (.int .i64 t416)) (fun _ hk=>hk.2) (.slice Ao76 t417.length co76)) (fun _ hk=>trivial)),zb35_1Stock HI0 NB0_410 NB0_421,zb19_1Stock HB HI0 GE410 GE421,za13 HK GW410 GW421⟩
end Go.Proofs.Ytjccnaklodbbfaa.Print
