-- Written by squeeze.py: not trusted, Lean checks it.
import Derived.Test.YtmbdphefnalenaaZK
import Derived.Test.YtmbdphefnalenaaZb0
import Derived.Test.YtmbdphefnalenaaZb5
import Derived.Test.YtmbdphefnalenaaZe0
namespace Go.Proofs.Ytmbdphefnalenaa.Print
open Go.RowKit Go.Proofs.YtmbdphefnalenaaW.PrintWords Go.Proofs.YtmbdphefnalenaaW.PrintLast Go.Proofs.YtmbdphefnalenaaW.PrintMore
attribute [local go_sem] max2_int min2_int max_two min_two max_three min_three max_four min_four
set_option linter.unusedVariables false
set_option linter.unusedSimpArgs false
theorem zb13_1Stock {p_ q0_ q1_ q2_ q3_ : Prop} (h0_ : Aside0 q0_) (h1_ : Aside0 q1_) (h2_ : Aside0 q2_) (h3_ : Aside0 q3_) (r_ : q0_ → q1_ → q2_ → q3_ → p_ := by intro h0_ h1_ h2_ h3_; repeat(first|(with_reducible first|exact h0_|apply below_alloc|apply qaq|apply qao|refine qak ?_ (IsS107.ge h1_)|refine qak ?_ h2_|refine qak ?_ h3_)|exact h0_)) : p_ := r_ h0_.out h1_.out h2_.out h3_.out
theorem zb21_1Stock {p_ q0_ q1_ : Prop} (h0_ : Aside0 q0_) (h1_ : Aside0 q1_) (r_ : q0_ → q1_ → p_ := by intro h0_ h1_; repeat(first|(with_reducible first|exact h0_|apply below_alloc|apply qaq|apply qao|refine qak ?_ (IsS107.ge h1_))|exact h0_)) : p_ := r_ h0_.out h1_.out
theorem zb27_1Stock {p_ q0_ q1_ q2_ : Prop} (h0_ : Aside0 q0_) (h1_ : Aside0 q1_) (h2_ : Aside0 q2_) (r_ : q0_ → q1_ → q2_ → p_ := by intro h0_ h1_ h2_; repeat(first|(with_reducible first|exact h0_|apply below_alloc|apply qaq|apply qao|refine qak ?_ (IsS107.ge h1_)|refine qak ?_ h2_)|exact h0_)) : p_ := r_ h0_.out h1_.out h2_.out
theorem zb34_1Stock {p_ q0_ q1_ q2_ : Prop} (h0_ : Aside0 q0_) (h1_ : Aside0 q1_) (h2_ : Aside0 q2_) (r_ : q0_ → q1_ → q2_ → p_ := by intro h0_ h1_ h2_; repeat(first|(with_reducible first|exact h0_|apply IsS107.alloc|apply IsS107.drewN|apply IsS107.drew|apply IsS107.set_1|refine IsS107.far ?_ h1_ _|refine IsS107.far ?_ h2_ _)|exact h0_)) : p_ := r_ h0_.out h1_.out h2_.out
theorem zb41_1Stock {p_ q0_ : Prop} (h0_ : Aside0 q0_) (r_ : q0_ → p_ := by intro h0_; repeat(first|(with_reducible first|exact h0_|apply IsS107.alloc|apply IsS107.drewN|apply IsS107.drew|apply IsS107.set_1)|exact h0_)) : p_ := r_ h0_.out
theorem zb50_1Stock {p_ q0_ q1_ : Prop} (h0_ : Aside0 q0_) (h1_ : Aside0 q1_) (r_ : q0_ → q1_ → p_ := by intro h0_ h1_; repeat(first|(with_reducible first|exact h0_|apply IsS107.alloc|apply IsS107.drewN|apply IsS107.drew|apply IsS107.set_1|refine IsS107.far ?_ h1_ _)|exact h0_)) : p_ := r_ h0_.out h1_.out
def spec_l71Stock.f (k:Nat) (s0_0:List Int) (s0_1:Int):Option (Int × (List (S49)) × Int):=(spec_l71Recs.f k s0_0 s0_1).bind fun bt592=>((spec_StockOf.f k bt592.1 bt592.2.1).bind fun bt597=>((spec_l6Rd_pick.f k s0_0 bt592.2.2 20).bind fun bt603=>(if bt603.1=0 then((some (([(-1),0,10]:List Int):List Int)).bind fun y605=>((spec_l6Rd_pick.f k s0_0 bt603.2 3).bind fun bt608=>(if 0≤bt608.1 then(if bt608.1<(y605.length:Int) then(some (rd y605 bt608.1,bt597.2.1,bt608.2)) else(none)) else(none)))) else(if bt603.1=1 then((spec_l6Rd_pick.f k s0_0 bt603.2 (bt597.2.1.length:Int)).bind fun bt611=>((spec_l6Rd_pick.f k s0_0 bt611.2 5).bind fun bt613=>((spec_l6Rd_pick.f k s0_0 bt613.2 5).bind fun bt615=>(if 0≤bt611.1 then(if bt611.1<(bt597.2.1.length:Int) then(some (bt597.1,(bt597.2.1.set (bt611.1:Int).toNat (⟨bt613.1,bt615.1⟩:S49)),bt615.2)) else(none)) else(none))))) else(if bt603.1=2 then(if 1≤(bt597.2.1.length:Int) then(some (bt597.1,(bt597.2.1.drop (1:Int).toNat),bt603.2)) else(none)) else(some (bt597.1,bt597.2.1,bt603.2)))))))
theorem spec_l71Stock.mono:∀a0 a1 k,LeO (spec_l71Stock.f k a0 a1) (spec_l71Stock.f (k+1) a0 a1):=by
 intro a0 a1 k
 unfold spec_l71Stock.f
 repeat' first
   |(with_reducible exact spec_StockOf.mono _ _ _)
   |(with_reducible exact spec_l6Rd_pick.mono _ _ _ _)
   |(with_reducible exact spec_l71Recs.mono _ _ _)
   |(with_reducible exact LeO.refl _)
   |(with_reducible exact LeO.none _)
   |(with_reducible refine LeO.ite ?_ ?_)
   |(with_reducible refine LeO.bind ?_ (fun _=>?_))
   |exact spec_StockOf.mono _ _ _
   |exact spec_l6Rd_pick.mono _ _ _ _
   |exact spec_l71Recs.mono _ _ _
   |exact LeO.none _
   |refine LeO.ite ?_ ?_
   |refine LeO.bind ?_ (fun _=>?_)
def spec_l71Stock.T7:Bool × List (List Nat × List Nat):=(true,[([],[]),([0],[0]),([],[]),([],[]),([3],[3]),([4],[4]),([2,5],[2,5]),([],[]),([7,6],[7]),([],[]),([9,8],[9]),([8,10],[8,10]),([1,6,0,1,2,3,4,5,6,7,8,9,10,11],[1,6]),([12,11,10,0,1,2,3,4,5,6,7,8,9,10,11],[11,12])])
def spec_l71Stock.B7:List Nat:=[0,1,0,0,8,24,60,0,252,0,1020,2044,4095,8191]
theorem spec_l71Stock.tab7:rtab .any (opsOf Try.f91 7)=spec_l71Stock.T7:=by kernel_rfl
theorem spec_l71Stock.bits7:waitsOk spec_l71Stock.T7.2 spec_l71Stock.B7=true:=by kernel_rfl
set_option maxHeartbeats 8000000 in
set_option maxRecDepth 100000 in
theorem spec_l71Stock.calls (k:Nat) (g:Nat) (s0_0:List Int) (s0_1:Int) (r1:Int) (r2:List (S49)) (r3:Int) (w0 w:World) (hI:IsS107 w0 w g s0_0 s0_1) (hB:Below w0.heap.size w0 w) (h:spec_l71Stock.f k s0_0 s0_1=some (r1,r2,r3)) :
  Calls Try.prog 91 #[.pointer (some ⟨g,0,none⟩)] w fun e w'=>∃v1_:Value,e=.returned (.agg #[.int .i64 r1,v1_])∧Kd.Q k49 49 w' w.heap.size (fun _=>True) v1_ r2∧IsS107 w0 w' g s0_0 r3∧Below w0.heap.size w0 w'∧KeepBut w w' g none:=by
 have hu38:=Try.underlying38
 have hu49:=Try.underlying49
 have HI0:=Aside0.mk hI
 have HK:=Aside0.mk (KeepBut.refl w g none)
 have HL:=Aside0.mk hB.size
 clear hI
 have HW0:=Aside0.mk hB.size
 have HB:=Aside0.mk hB
 clear hB
 have H:((spec_l71Recs.f k s0_0 s0_1).bind fun bt592=>((spec_StockOf.f k bt592.1 bt592.2.1).bind fun bt597=>((spec_l6Rd_pick.f k s0_0 bt592.2.2 20).bind fun bt603=>(if bt603.1=0 then((some (([(-1),0,10]:List Int):List Int)).bind fun y605=>((spec_l6Rd_pick.f k s0_0 bt603.2 3).bind fun bt608=>(if 0≤bt608.1 then(if bt608.1<(y605.length:Int) then(some (rd y605 bt608.1,bt597.2.1,bt608.2)) else(none)) else(none)))) else(if bt603.1=1 then((spec_l6Rd_pick.f k s0_0 bt603.2 (bt597.2.1.length:Int)).bind fun bt611=>((spec_l6Rd_pick.f k s0_0 bt611.2 5).bind fun bt613=>((spec_l6Rd_pick.f k s0_0 bt613.2 5).bind fun bt615=>(if 0≤bt611.1 then(if bt611.1<(bt597.2.1.length:Int) then(some (bt597.1,(bt597.2.1.set (bt611.1:Int).toNat (⟨bt613.1,bt615.1⟩:S49)),bt615.2)) else(none)) else(none))))) else(if bt603.1=2 then(if 1≤(bt597.2.1.length:Int) then(some (bt597.1,(bt597.2.1.drop (1:Int).toNat),bt603.2)) else(none)) else(some (bt597.1,bt597.2.1,bt603.2))))))))=some (r1,r2,r3):=h
 clear h
 replace H:=Option.bind_eq_some_iff.mp H
 obtain⟨⟨t592,t593,t596⟩,A20,H⟩:=H
 replace H:((spec_StockOf.f k t592 t593).bind fun bt597=>((spec_l6Rd_pick.f k s0_0 t596 20).bind fun bt603=>(if bt603.1=0 then((some (([(-1),0,10]:List Int):List Int)).bind fun y605=>((spec_l6Rd_pick.f k s0_0 bt603.2 3).bind fun bt608=>(if 0≤bt608.1 then(if bt608.1<(y605.length:Int) then(some (rd y605 bt608.1,bt597.2.1,bt608.2)) else(none)) else(none)))) else(if bt603.1=1 then((spec_l6Rd_pick.f k s0_0 bt603.2 (bt597.2.1.length:Int)).bind fun bt611=>((spec_l6Rd_pick.f k s0_0 bt611.2 5).bind fun bt613=>((spec_l6Rd_pick.f k s0_0 bt613.2 5).bind fun bt615=>(if 0≤bt611.1 then(if bt611.1<(bt597.2.1.length:Int) then(some (bt597.1,(bt597.2.1.set (bt611.1:Int).toNat (⟨bt613.1,bt615.1⟩:S49)),bt615.2)) else(none)) else(none))))) else(if bt603.1=2 then(if 1≤(bt597.2.1.length:Int) then(some (bt597.1,(bt597.2.1.drop (1:Int).toNat),bt603.2)) else(none)) else(some (bt597.1,bt597.2.1,bt603.2)))))))=some (r1,r2,r3):=H
 have A2:=Aside0.mk A20
 clear A20
 replace H:=Option.bind_eq_some_iff.mp H
 obtain⟨⟨t597,t598,t601⟩,A30,H⟩:=H
 replace H:((spec_l6Rd_pick.f k s0_0 t596 20).bind fun bt603=>(if bt603.1=0 then((some (([(-1),0,10]:List Int):List Int)).bind fun y605=>((spec_l6Rd_pick.f k s0_0 bt603.2 3).bind fun bt608=>(if 0≤bt608.1 then(if bt608.1<(y605.length:Int) then(some (rd y605 bt608.1,t598,bt608.2)) else(none)) else(none)))) else(if bt603.1=1 then((spec_l6Rd_pick.f k s0_0 bt603.2 (t598.length:Int)).bind fun bt611=>((spec_l6Rd_pick.f k s0_0 bt611.2 5).bind fun bt613=>((spec_l6Rd_pick.f k s0_0 bt613.2 5).bind fun bt615=>(if 0≤bt611.1 then(if bt611.1<(t598.length:Int) then(some (t597,(t598.set (bt611.1:Int).toNat (⟨bt613.1,bt615.1⟩:S49)),bt615.2)) else(none)) else(none))))) else(if bt603.1=2 then(if 1≤(t598.length:Int) then(some (t597,(t598.drop (1:Int).toNat),bt603.2)) else(none)) else(some (t597,t598,bt603.2))))))=some (r1,r2,r3):=H
 have A3:=Aside0.mk A30
 clear A30
 replace H:=Option.bind_eq_some_iff.mp H
 obtain⟨⟨t603,t604⟩,A40,H⟩:=H
 replace H:(if t603=0 then((some (([(-1),0,10]:List Int):List Int)).bind fun y605=>((spec_l6Rd_pick.f k s0_0 t604 3).bind fun bt608=>(if 0≤bt608.1 then(if bt608.1<(y605.length:Int) then(some (rd y605 bt608.1,t598,bt608.2)) else(none)) else(none)))) else(if t603=1 then((spec_l6Rd_pick.f k s0_0 t604 (t598.length:Int)).bind fun bt611=>((spec_l6Rd_pick.f k s0_0 bt611.2 5).bind fun bt613=>((spec_l6Rd_pick.f k s0_0 bt613.2 5).bind fun bt615=>(if 0≤bt611.1 then(if bt611.1<(t598.length:Int) then(some (t597,(t598.set (bt611.1:Int).toNat (⟨bt613.1,bt615.1⟩:S49)),bt615.2)) else(none)) else(none))))) else(if t603=2 then(if 1≤(t598.length:Int) then(some (t597,(t598.drop (1:Int).toNat),t604)) else(none)) else(some (t597,t598,t604)))))=some (r1,r2,r3):=H
 have A4:=Aside0.mk A40
 clear A40
 by_cases c5:t603=0
 ·rw[if_pos c5] at H
  have c5b0:(t603 == 0)=true:=beq_iff_eq.mpr c5
  have c5b1:(t603 != 0)=false:=bne_eq_false_iff_eq.mpr c5
  clear c5
  obtain⟨y605,hy605⟩:∃y_:List Int,y_=(([(-1),0,10]:List Int)):=⟨_,rfl⟩
  replace H:((spec_l6Rd_pick.f k s0_0 t604 3).bind fun bt608=>(if 0≤bt608.1 then(if bt608.1<(y605.length:Int) then(some (rd y605 bt608.1,t598,bt608.2)) else(none)) else(none)))=some (r1,r2,r3):=by first|(rw[hy605];with_reducible exact H)|(have H2_:=(Option.bind_some _ _).symm.trans H;rw[hy605];with_reducible exact H2_)|(have H2_:=(Option.bind_some _ _).symm.trans H;with_reducible exact H2_)|with_reducible exact H|(rw[hy605];exact H)|exact H
  have Ny605:=Aside0.mk hy605
  clear hy605
  replace H:=Option.bind_eq_some_iff.mp H
  obtain⟨⟨t608,t609⟩,A60,H⟩:=H
  replace H:(if 0≤t608 then(if t608<(y605.length:Int) then(some (rd y605 t608,t598,t609)) else(none)) else(none))=some (r1,r2,r3):=H
  have A6:=Aside0.mk A60
  clear A60
  by_cases c7:0≤t608
  ·rw[if_pos c7] at H
   have c7b0:decide (0≤t608)=true:=decide_eq_true c7
   clear c7
   by_cases c8:t608<(y605.length:Int)
   ·rw[if_pos c8] at H
    have c8b0:decide (t608<(y605.length:Int))=true:=decide_eq_true c8
    clear c8
    simp only[Option.some.injEq,Prod.mk.injEq] at H
    obtain⟨rfl,rfl,rfl⟩:=H
    go_enter Try.func91,Try.ntmps91
    go_wp2_with(first|((with_reducible refine qae (N:=2) rfl ?_);refine zX (N:=2) (cs:=#[.int .i64 0,.slice none 0 0]) (t:=38) ?_;intro gb591 hg w9 hbox hb;replace HB:=Aside0.mk (qab (zb21_1Stock HB HI0) hb);have BK591:=Aside0.mk hbox;have GW591:=Aside0.mk ((by rw[hg];exact(qan (w:=w) (g:=g) (row:=none) (za22 HK)):w.heap.size≤gb591));have GE591:=Aside0.mk ((Nat.le_trans HW0.out (by rw[hg];exact(qan (w:=w) (g:=g) (row:=none) (za22 HK)):w.heap.size≤gb591):w0.heap.size≤gb591));replace HK:=Aside0.mk (KeepBut.trans (za22 HK) (KeepBut.of_below hb g none) (.inl rfl));have NB0_591:=Aside0.mk ((by rw[hg];exact Nat.ne_of_lt (IsS107.lt (show IsS107 w0 _ g s0_0 s0_1 from by repeat(first|(with_reducible first|exact HI0.out|apply IsS107.alloc|apply IsS107.drewN|apply IsS107.drew|apply IsS107.set_1)|exact HI0.out))):g≠gb591));have NB591_0:=Aside0.mk ((by rw[hg];exact Nat.ne_of_gt (IsS107.lt (show IsS107 w0 _ g s0_0 s0_1 from by repeat(first|(with_reducible first|exact HI0.out|apply IsS107.alloc|apply IsS107.drewN|apply IsS107.drew|apply IsS107.set_1)|exact HI0.out))):gb591≠g));replace HI0:=Aside0.mk (IsS107.below (zb41_1Stock HI0) hb);clear hb hbox hg)|((with_reducible refine qac (f:=54) rfl ?_);refine zF (some 9) Try.func54 #[.pointer (some ⟨g,0,none⟩)] ?_;(with_reducible refine(spec_l71Recs.calls k g s0_0 s0_1 t592 t593 t596 w0 _ ?side1 ?side2 A2.out).mono ?_);(case side1=>repeat(first|(with_reducible first|exact HI0.out|apply IsS107.alloc|apply IsS107.drewN|apply IsS107.drew|apply IsS107.set_1|refine IsS107.far ?_ NB0_591.out _)|exact HI0.out));(case side2=>exact(zb27_1Stock HB HI0 GE591));rintro e w10 ⟨v594,rfl,ho0,hi,hb,hk⟩;refine⟨_,rfl,?_⟩;replace BK591:=Aside0.mk (KeepBut.blk hk (zB BK591) NB591_0.out (by simp));have HO595:=Aside0.mk (Kd.S_lower ho0 (qan (w:=w) (g:=g) (row:=none) (za23 HK GW591)));replace HK:=Aside0.mk (KeepBut.trans (za23 HK GW591) hk (.inl rfl));replace HB:=Aside0.mk hb;replace HI0:=Aside0.mk hi;(try clear hb);(try clear hk);(try clear hi);(try clear ho0);obtain⟨Ao11,co11,eo11⟩:=Kd.S_slice HO595.out;subst eo11)|((with_reducible refine qac (f:=21) rfl ?_);refine zF (some 15) Try.func21 #[.int .i64 t592,.slice Ao11 t593.length co11] ?_;(with_reducible refine(spec_StockOf.calls k t592 _ _ t593 t597 t598 t601 _ ?side1 ?side2 A3.out).mono ?_);(case side1=>repeat(first|exact(Kd.S_reads' HO595.out).2.2|(with_reducible refine Kd.C_alloc ?_ _)|(with_reducible refine Kd.C_drewN ?_ _)|(with_reducible refine Kd.C_drew ?_)));(case side2=>exact(Kd.S_reads' HO595.out).2.1);rintro e w12 ⟨v599,rfl,ho0,hb⟩;refine⟨_,rfl,?_⟩;replace HO595:=Aside0.mk (Kd.S_below (za30 HO595) hb);have HO600:=Aside0.mk (Kd.R_lower ho0 (qan (w:=w) (g:=g) (row:=none) (za23 HK GW591)));replace BK591:=Aside0.mk (qaa (zB BK591) hb);replace HK:=Aside0.mk (KeepBut.trans (za23 HK GW591) (KeepBut.of_below hb g none) (.inl rfl));replace HB:=Aside0.mk (qab (zb27_1Stock HB HI0 GE591) hb);replace HI0:=Aside0.mk (IsS107.below (zb50_1Stock HI0 NB0_591) hb);(try clear hb);(try clear ho0))|((with_reducible refine qae (N:=5) rfl ?_);refine zX (N:=5) (cs:=#[.int .i64 0,.slice none 0 0]) (t:=38) ?_;intro gb602 hg w13 hbox hb;replace HO595:=Aside0.mk (Kd.S_below (za30 HO595) hb);replace HO600:=Aside0.mk (Kd.R_below (za5 HO600) hb);replace HB:=Aside0.mk (qab (zb27_1Stock HB HI0 GE591) hb);have BK602:=Aside0.mk hbox;have GW602:=Aside0.mk ((by rw[hg];exact(qan (w:=w) (g:=g) (row:=none) (za23 HK GW591)):w.heap.size≤gb602));have GE602:=Aside0.mk ((Nat.le_trans HW0.out (by rw[hg];exact(qan (w:=w) (g:=g) (row:=none) (za23 HK GW591)):w.heap.size≤gb602):w0.heap.size≤gb602));replace HK:=Aside0.mk (KeepBut.trans (za23 HK GW591) (KeepBut.of_below hb g none) (.inl rfl));have NB591_602:=zL BK591 hg;have NB602_591:=zG BK591 hg;replace BK591:=Aside0.mk (qaa (zB BK591) hb);have NB0_602:=Aside0.mk ((by rw[hg];exact Nat.ne_of_lt (IsS107.lt (show IsS107 w0 _ g s0_0 t596 from by repeat(first|(with_reducible first|exact HI0.out|apply IsS107.alloc|apply IsS107.drewN|apply IsS107.drew|apply IsS107.set_1|refine IsS107.far ?_ NB0_591.out _)|exact HI0.out))):g≠gb602));have NB602_0:=Aside0.mk ((by rw[hg];exact Nat.ne_of_gt (IsS107.lt (show IsS107 w0 _ g s0_0 t596 from by repeat(first|(with_reducible first|exact HI0.out|apply IsS107.alloc|apply IsS107.drewN|apply IsS107.drew|apply IsS107.set_1|refine IsS107.far ?_ NB0_591.out _)|exact HI0.out))):gb602≠g));replace HI0:=Aside0.mk (IsS107.below (zb50_1Stock HI0 NB0_591) hb);clear hb hbox hg;have hnb14:=NB602_591.out;have hnc14:=NB591_602.out;have hnb15:=NB602_0.out;have hnc15:=NB0_602.out;obtain⟨hcz16_0,hcz16_1,hfz16_0,hfz16_1⟩:=zC2 BK602;obtain⟨Ao17,co17,eo17⟩:=Kd.R_slice HO600.out;subst eo17)|((with_reducible refine qac (f:=48) rfl ?_);refine zF (some 19) Try.func48 #[.pointer (some ⟨g,0,none⟩),.int .i64 20] ?_;(with_reducible refine(spec_l6Rd_pick.calls k g s0_0 t596 20 t603 t604 w0 _ ?side1 ?side2 A4.out).mono ?_);(case side1=>repeat(first|(with_reducible first|exact HI0.out|apply IsS107.alloc|apply IsS107.drewN|apply IsS107.drew|apply IsS107.set_1|refine IsS107.far ?_ NB0_591.out _|refine IsS107.far ?_ NB0_602.out _)|exact HI0.out));(case side2=>exact(zb13_1Stock HB HI0 GE591 GE602));rintro e w18 ⟨rfl,hi,hb,hk⟩;refine⟨_,rfl,?_⟩;replace BK591:=Aside0.mk (KeepBut.blk hk (g':=gb591) (o:=.cells #[.int .i64 0,.slice none 0 0] 38 (0,0)) (za0 NB591_602 BK591) NB591_0.out (by simp));replace HO595:=Aside0.mk (Kd.S_mono (Kd.S_keep (IsS107.apartS (show IsS107 w0 _ g s0_0 t596 from by repeat(first|(with_reducible first|exact HI0.out|apply IsS107.alloc|apply IsS107.drewN|apply IsS107.drew|apply IsS107.set_1|refine IsS107.far ?_ NB0_591.out _|refine IsS107.far ?_ NB0_602.out _)|exact HI0.out)) (by(with_reducible repeat(first|apply Kd.S_alloc|apply Kd.S_drewN|apply Kd.S_drew));exact(Kd.S_mono (Kd.S_far (p:=⟨gb602,1,none⟩) (Kd.S_far (p:=⟨gb602,0,none⟩) (Kd.S_types HO595.out BK602.out (by decide)) (fun _ hk=>hk.2) (.int .i64 t597)) (fun _ hk=>hk.2) (.slice Ao17 t598.length co17)) (fun _ h_=>h_.1))) (by decide)) hk (fun _ h=>h.2)) (fun _ h=>h.1));replace HO600:=Aside0.mk (Kd.R_mono (Kd.R_keep (IsS107.apart (show IsS107 w0 _ g s0_0 t596 from by repeat(first|(with_reducible first|exact HI0.out|apply IsS107.alloc|apply IsS107.drewN|apply IsS107.drew|apply IsS107.set_1|refine IsS107.far ?_ NB0_591.out _|refine IsS107.far ?_ NB0_602.out _)|exact HI0.out)) (by(with_reducible repeat(first|apply Kd.R_alloc|apply Kd.R_drewN|apply Kd.R_drew));exact(Kd.R_mono (Kd.R_far (p:=⟨gb602,1,none⟩) (Kd.R_far (p:=⟨gb602,0,none⟩) (Kd.R_types HO600.out BK602.out (by decide)) (fun _ hk=>hk.2) (.int .i64 t597)) (fun _ hk=>hk.2) (.slice Ao17 t598.length co17)) (fun _ h_=>h_.1))) (by decide)) hk (fun _ h=>h.2)) (fun _ h=>h.1));replace BK602:=Aside0.mk (KeepBut.blk hk (g':=gb602) (o:=.cells #[.int .i64 t597,.slice Ao17 t598.length co17] 38 (0,0)) (by(with_reducible repeat(first|refine blk_drewN ?_ _|refine blk_drew ?_|refine blk_alloc ?_ _));refine qad (cs:=#[.int .i64 t597,.slice none 0 0]) ?_ 1 _ rfl;(with_reducible repeat(first|refine blk_drewN ?_ _|refine blk_drew ?_|refine blk_alloc ?_ _));refine qad (cs:=#[.int .i64 0,.slice none 0 0]) ?_ 0 _ rfl;(with_reducible repeat(first|refine blk_drewN ?_ _|refine blk_drew ?_|refine blk_alloc ?_ _));exact BK602.out) NB602_0.out (by simp));replace HK:=Aside0.mk (KeepBut.trans (za8 HK GW591 GW602) hk (.inl rfl));replace HB:=Aside0.mk hb;replace HI0:=Aside0.mk hi;(try clear hb);(try clear hk);(try clear hi))|((with_reducible refine qae (N:=22) rfl ?_);refine Kd.R_lit (Kd.int .i64) _ 3 (by rfl) (N:=22) (by rfl) (xs:=([(-1),0,10]:List Int)) (inner:=[.int .i64 (-1),.int .i64 0,.int .i64 10]) (ok:=fun _=>True) (okp:=fun _=>True) (by first|(go_simp;done)|(go_simp;rfl)) ?hp (fun _ hk=>hk) trivial (Below.refl _ _) (Nat.le_refl _) (by simp) ?_;(case hp=>exact(Reps.one (show Kd.M (Kd.int .i64) _ _ _ (-1) [.int .i64 (-1)] from rfl) (Reps.one (show Kd.M (Kd.int .i64) _ _ _ 0 [.int .i64 0] from rfl) (Reps.one (show Kd.M (Kd.int .i64) _ _ _ 10 [.int .i64 10] from rfl) (Reps.none _ _)))));intro v606 w19 ho20 hb hg_ hnew_;clear hg_ hnew_;(first|rw[←Ny605.out] at ho20|(simp only[Int.reduceToNat] at ho20;rw[←Ny605.out] at ho20));replace HO595:=Aside0.mk (Kd.S_elder' (za30 HO595) (Kd.R_base ho20) hb);replace HO600:=Aside0.mk (Kd.R_below (za5 HO600) hb);have HO607:=Aside0.mk (Kd.R_lower ho20 (qan (w:=w) (g:=g) (row:=none) (za8 HK GW591 GW602)));replace BK591:=Aside0.mk (qaa (zB BK591) hb);replace BK602:=Aside0.mk (qaa (zB BK602) hb);replace HK:=Aside0.mk (KeepBut.trans (za8 HK GW591 GW602) (KeepBut.of_below hb g none) (.inl rfl));replace HB:=Aside0.mk (qab (zb13_1Stock HB HI0 GE591 GE602) hb);replace HI0:=Aside0.mk (IsS107.below (zb34_1Stock HI0 NB0_591 NB0_602) hb);clear hb ho20)|((with_reducible refine qac (f:=48) rfl ?_);refine zF (some 24) Try.func48 #[.pointer (some ⟨g,0,none⟩),.int .i64 3] ?_;(with_reducible refine(spec_l6Rd_pick.calls k g s0_0 t604 3 t608 t609 w0 _ ?side1 ?side2 A6.out).mono ?_);(case side1=>repeat(first|(with_reducible first|exact HI0.out|apply IsS107.alloc|apply IsS107.drewN|apply IsS107.drew|apply IsS107.set_1|refine IsS107.far ?_ NB0_591.out _|refine IsS107.far ?_ NB0_602.out _)|exact HI0.out));(case side2=>exact(zb13_1Stock HB HI0 GE591 GE602));rintro e w21 ⟨rfl,hi,hb,hk⟩;refine⟨_,rfl,?_⟩;replace BK591:=Aside0.mk (KeepBut.blk hk (zB BK591) NB591_0.out (by simp));replace HO595:=Aside0.mk (Kd.S_mono (Kd.S_keep (IsS107.apartS (show IsS107 w0 _ g s0_0 t604 from by repeat(first|(with_reducible first|exact HI0.out|apply IsS107.alloc|apply IsS107.drewN|apply IsS107.drew|apply IsS107.set_1|refine IsS107.far ?_ NB0_591.out _|refine IsS107.far ?_ NB0_602.out _)|exact HI0.out)) (za30 HO595) (by decide)) hk (fun _ h=>h.2)) (fun _ h=>h.1));replace HO600:=Aside0.mk (Kd.R_mono (Kd.R_keep (IsS107.apart (show IsS107 w0 _ g s0_0 t604 from by repeat(first|(with_reducible first|exact HI0.out|apply IsS107.alloc|apply IsS107.drewN|apply IsS107.drew|apply IsS107.set_1|refine IsS107.far ?_ NB0_591.out _|refine IsS107.far ?_ NB0_602.out _)|exact HI0.out)) (za5 HO600) (by decide)) hk (fun _ h=>h.2)) (fun _ h=>h.1));replace BK602:=Aside0.mk (KeepBut.blk hk (zB BK602) NB602_0.out (by simp));replace HO607:=Aside0.mk (Kd.R_mono (Kd.R_keep (IsS107.apart (show IsS107 w0 _ g s0_0 t604 from by repeat(first|(with_reducible first|exact HI0.out|apply IsS107.alloc|apply IsS107.drewN|apply IsS107.drew|apply IsS107.set_1|refine IsS107.far ?_ NB0_591.out _|refine IsS107.far ?_ NB0_602.out _)|exact HI0.out)) (za5 HO607) (by decide)) hk (fun _ h=>h.2)) (fun _ h=>h.1));replace HK:=Aside0.mk (KeepBut.trans (za8 HK GW591 GW602) hk (.inl rfl));replace HB:=Aside0.mk hb;replace HI0:=Aside0.mk hi;(try clear hb);(try clear hk);(try clear hi);obtain⟨Ao22,co22,eo22⟩:=Kd.R_slice HO607.out;subst eo22;have p610:0≤(t608:Int):=of_decide_eq_true (za9);have q610:t608<(y605.length:Int):=of_decide_eq_true (za9);obtain⟨ad610,e610,hx610_0⟩:=Kd.at_int (Kd.R_reads' HO607.out).2.2 t608 p610 q610;cases e610;replace p610:=eq_true p610;replace q610:=eq_true q610;obtain⟨hcz23_0,hcz23_1,hfz23_0,hfz23_1⟩:=zC2 BK602;have hnb24:=NB591_0.out;have hnc24:=NB0_591.out;obtain⟨hcz25_0,hcz25_1,hfz25_0,hfz25_1⟩:=zC2 BK591))
    refine bodyPost_ret (results_cell_row rfl _ _ gb591 38 #[.int .i64 (rd y605 t608),.slice Ao17 t598.length co17] (0,0) _ rfl (by(with_reducible repeat(first|refine blk_drewN ?_ _|refine blk_drew ?_|refine blk_alloc ?_ _));refine qad (cs:=#[.int .i64 (rd y605 t608),.slice none 0 0]) ?_ 1 _ rfl;(with_reducible repeat(first|refine blk_drewN ?_ _|refine blk_drew ?_|refine blk_alloc ?_ _));refine qad (cs:=#[.int .i64 0,.slice none 0 0]) ?_ 0 _ rfl;(with_reducible repeat(first|refine blk_drewN ?_ _|refine blk_drew ?_|refine blk_alloc ?_ _));refine blk_far ?_ NB591_602.out _;(with_reducible repeat(first|refine blk_drewN ?_ _|refine blk_drew ?_|refine blk_alloc ?_ _));exact BK591.out) Try.underlying38 rfl (by kernel_rfl)) rfl ?_
    exact⟨_,za16,Kd.Q_of_R (by(with_reducible repeat(first|apply Kd.R_alloc|apply Kd.R_drewN|apply Kd.R_drew));exact Kd.R_mono (Kd.R_far (p:=⟨gb591,1,none⟩) (Kd.R_far (p:=⟨gb591,0,none⟩) (Kd.R_far (p:=⟨gb602,0,none⟩) (Kd.R_types (Kd.R_types HO600.out BK602.out (by decide)) BK591.out (by decide)) (fun _ hk=>hk.1.2) (.int .i64 (rd y605 t608))) (fun _ hk=>hk.2) (.int .i64 (rd y605 t608))) (fun _ hk=>hk.2) (.slice Ao17 t598.length co17)) (fun _ hk=>trivial)),zb34_1Stock HI0 NB0_591 NB0_602,zb13_1Stock HB HI0 GE591 GE602,za8 HK GW591 GW602⟩
   ·rw[if_neg c8] at H
    exact absurd H (by simp)
  ·rw[if_neg c7] at H
   exact absurd H (by simp)
 ·rw[if_neg c5] at H
  have c5b0:(t603 == 0)=false:=beq_eq_false_iff_ne.mpr c5
  have c5b1:(t603 != 0)=true:=bne_iff_ne.mpr c5
  by_cases c26:t603=1
  ·rw[if_pos c26] at H
   have c26b0:(t603 == 1)=true:=beq_iff_eq.mpr c26
   have c26b1:(t603 != 1)=false:=bne_eq_false_iff_eq.mpr c26
   clear c26
   replace H:=Option.bind_eq_some_iff.mp H
   obtain⟨⟨t611,t612⟩,A270,H⟩:=H
   replace H:((spec_l6Rd_pick.f k s0_0 t612 5).bind fun bt613=>((spec_l6Rd_pick.f k s0_0 bt613.2 5).bind fun bt615=>(if 0≤t611 then(if t611<(t598.length:Int) then(some (t597,(t598.set (t611:Int).toNat (⟨bt613.1,bt615.1⟩:S49)),bt615.2)) else(none)) else(none))))=some (r1,r2,r3):=H
   have A27:=Aside0.mk A270
   clear A270
   replace H:=Option.bind_eq_some_iff.mp H
   obtain⟨⟨t613,t614⟩,A280,H⟩:=H
   replace H:((spec_l6Rd_pick.f k s0_0 t614 5).bind fun bt615=>(if 0≤t611 then(if t611<(t598.length:Int) then(some (t597,(t598.set (t611:Int).toNat (⟨t613,bt615.1⟩:S49)),bt615.2)) else(none)) else(none)))=some (r1,r2,r3):=H
   have A28:=Aside0.mk A280
   clear A280
   replace H:=Option.bind_eq_some_iff.mp H
   obtain⟨⟨t615,t616⟩,A290,H⟩:=H
   replace H:(if 0≤t611 then(if t611<(t598.length:Int) then(some (t597,(t598.set (t611:Int).toNat (⟨t613,t615⟩:S49)),t616)) else(none)) else(none))=some (r1,r2,r3):=H
   have A29:=Aside0.mk A290
   clear A290
   by_cases c30:0≤t611
   ·rw[if_pos c30] at H
    have c30b0:decide (0≤t611)=true:=decide_eq_true c30
    clear c30
    by_cases c31:t611<(t598.length:Int)
    ·rw[if_pos c31] at H
     have c31b0:decide (t611<(t598.length:Int))=true:=decide_eq_true c31
     clear c31
     obtain⟨y617,hy617⟩:∃y_:List (S49),y_=(t598.set (t611:Int).toNat (⟨t613,t615⟩:S49)):=⟨_,rfl⟩
     replace H:(some (t597,y617,t616))=some (r1,r2,r3):=by first|(rw[hy617];with_reducible exact H)|(have H2_:=(Option.bind_some _ _).symm.trans H;rw[hy617];with_reducible exact H2_)|(have H2_:=(Option.bind_some _ _).symm.trans H;with_reducible exact H2_)|with_reducible exact H|(rw[hy617];exact H)|exact H
     have Ny617:=Aside0.mk hy617
     clear hy617
     simp only[Option.some.injEq,Prod.mk.injEq] at H
     obtain⟨rfl,rfl,rfl⟩:=H
     go_enter Try.func91,Try.ntmps91
     try go_wp2_with(first|((with_reducible refine qae (N:=2) rfl ?_);refine zX (N:=2) (cs:=#[.int .i64 0,.slice none 0 0]) (t:=38) ?_;intro gb591 hg w33 hbox hb;replace HB:=Aside0.mk (qab (zb21_1Stock HB HI0) hb);have BK591:=Aside0.mk hbox;have GW591:=Aside0.mk ((by rw[hg];exact(qan (w:=w) (g:=g) (row:=none) (za22 HK)):w.heap.size≤gb591));have GE591:=Aside0.mk ((Nat.le_trans HW0.out (by rw[hg];exact(qan (w:=w) (g:=g) (row:=none) (za22 HK)):w.heap.size≤gb591):w0.heap.size≤gb591));replace HK:=Aside0.mk (KeepBut.trans (za22 HK) (KeepBut.of_below hb g none) (.inl rfl));have NB0_591:=Aside0.mk ((by rw[hg];exact Nat.ne_of_lt (IsS107.lt (show IsS107 w0 _ g s0_0 s0_1 from by repeat(first|(with_reducible first|exact HI0.out|apply IsS107.alloc|apply IsS107.drewN|apply IsS107.drew|apply IsS107.set_1)|exact HI0.out))):g≠gb591));have NB591_0:=Aside0.mk ((by rw[hg];exact Nat.ne_of_gt (IsS107.lt (show IsS107 w0 _ g s0_0 s0_1 from by repeat(first|(with_reducible first|exact HI0.out|apply IsS107.alloc|apply IsS107.drewN|apply IsS107.drew|apply IsS107.set_1)|exact HI0.out))):gb591≠g));replace HI0:=Aside0.mk (IsS107.below (zb41_1Stock HI0) hb);clear hb hbox hg)|((with_reducible refine qac (f:=54) rfl ?_);refine zF (some 9) Try.func54 #[.pointer (some ⟨g,0,none⟩)] ?_;(with_reducible refine(spec_l71Recs.calls k g s0_0 s0_1 t592 t593 t596 w0 _ ?side1 ?side2 A2.out).mono ?_);(case side1=>repeat(first|(with_reducible first|exact HI0.out|apply IsS107.alloc|apply IsS107.drewN|apply IsS107.drew|apply IsS107.set_1|refine IsS107.far ?_ NB0_591.out _)|exact HI0.out));(case side2=>exact(zb27_1Stock HB HI0 GE591));rintro e w34 ⟨v594,rfl,ho0,hi,hb,hk⟩;refine⟨_,rfl,?_⟩;replace BK591:=Aside0.mk (KeepBut.blk hk (zB BK591) NB591_0.out (by simp));have HO595:=Aside0.mk (Kd.S_lower ho0 (qan (w:=w) (g:=g) (row:=none) (za23 HK GW591)));replace HK:=Aside0.mk (KeepBut.trans (za23 HK GW591) hk (.inl rfl));replace HB:=Aside0.mk hb;replace HI0:=Aside0.mk hi;(try clear hb);(try clear hk);(try clear hi);(try clear ho0);obtain⟨Ao35,co35,eo35⟩:=Kd.S_slice HO595.out;subst eo35)|((with_reducible refine qac (f:=21) rfl ?_);refine zF (some 15) Try.func21 #[.int .i64 t592,.slice Ao35 t593.length co35] ?_;(with_reducible refine(spec_StockOf.calls k t592 _ _ t593 t597 t598 t601 _ ?side1 ?side2 A3.out).mono ?_);(case side1=>repeat(first|exact(Kd.S_reads' HO595.out).2.2|(with_reducible refine Kd.C_alloc ?_ _)|(with_reducible refine Kd.C_drewN ?_ _)|(with_reducible refine Kd.C_drew ?_)));(case side2=>exact(Kd.S_reads' HO595.out).2.1);rintro e w36 ⟨v599,rfl,ho0,hb⟩;refine⟨_,rfl,?_⟩;replace HO595:=Aside0.mk (Kd.S_below (za30 HO595) hb);have HO600:=Aside0.mk (Kd.R_lower ho0 (qan (w:=w) (g:=g) (row:=none) (za23 HK GW591)));replace BK591:=Aside0.mk (qaa (zB BK591) hb);replace HK:=Aside0.mk (KeepBut.trans (za23 HK GW591) (KeepBut.of_below hb g none) (.inl rfl));replace HB:=Aside0.mk (qab (zb27_1Stock HB HI0 GE591) hb);replace HI0:=Aside0.mk (IsS107.below (zb50_1Stock HI0 NB0_591) hb);(try clear hb);(try clear ho0))|((with_reducible refine qae (N:=5) rfl ?_);refine zX (N:=5) (cs:=#[.int .i64 0,.slice none 0 0]) (t:=38) ?_;intro gb602 hg w37 hbox hb;replace HO595:=Aside0.mk (Kd.S_below (za30 HO595) hb);replace HO600:=Aside0.mk (Kd.R_below (za5 HO600) hb);replace HB:=Aside0.mk (qab (zb27_1Stock HB HI0 GE591) hb);have BK602:=Aside0.mk hbox;have GW602:=Aside0.mk ((by rw[hg];exact(qan (w:=w) (g:=g) (row:=none) (za23 HK GW591)):w.heap.size≤gb602));have GE602:=Aside0.mk ((Nat.le_trans HW0.out (by rw[hg];exact(qan (w:=w) (g:=g) (row:=none) (za23 HK GW591)):w.heap.size≤gb602):w0.heap.size≤gb602));replace HK:=Aside0.mk (KeepBut.trans (za23 HK GW591) (KeepBut.of_below hb g none) (.inl rfl));have NB591_602:=zL BK591 hg;have NB602_591:=zG BK591 hg;replace BK591:=Aside0.mk (qaa (zB BK591) hb);have NB0_602:=Aside0.mk ((by rw[hg];exact Nat.ne_of_lt (IsS107.lt (show IsS107 w0 _ g s0_0 t596 from by repeat(first|(with_reducible first|exact HI0.out|apply IsS107.alloc|apply IsS107.drewN|apply IsS107.drew|apply IsS107.set_1|refine IsS107.far ?_ NB0_591.out _)|exact HI0.out))):g≠gb602));have NB602_0:=Aside0.mk ((by rw[hg];exact Nat.ne_of_gt (IsS107.lt (show IsS107 w0 _ g s0_0 t596 from by repeat(first|(with_reducible first|exact HI0.out|apply IsS107.alloc|apply IsS107.drewN|apply IsS107.drew|apply IsS107.set_1|refine IsS107.far ?_ NB0_591.out _)|exact HI0.out))):gb602≠g));replace HI0:=Aside0.mk (IsS107.below (zb50_1Stock HI0 NB0_591) hb);clear hb hbox hg;have hnb38:=NB602_591.out;have hnc38:=NB591_602.out;have hnb39:=NB602_0.out;have hnc39:=NB0_602.out;obtain⟨hcz40_0,hcz40_1,hfz40_0,hfz40_1⟩:=zC2 BK602;obtain⟨Ao41,co41,eo41⟩:=Kd.R_slice HO600.out;subst eo41)|((with_reducible refine qac (f:=48) rfl ?_);refine zF (some 19) Try.func48 #[.pointer (some ⟨g,0,none⟩),.int .i64 20] ?_;(with_reducible refine(spec_l6Rd_pick.calls k g s0_0 t596 20 t603 t604 w0 _ ?side1 ?side2 A4.out).mono ?_);(case side1=>repeat(first|(with_reducible first|exact HI0.out|apply IsS107.alloc|apply IsS107.drewN|apply IsS107.drew|apply IsS107.set_1|refine IsS107.far ?_ NB0_591.out _|refine IsS107.far ?_ NB0_602.out _)|exact HI0.out));(case side2=>exact(zb13_1Stock HB HI0 GE591 GE602));rintro e w42 ⟨rfl,hi,hb,hk⟩;refine⟨_,rfl,?_⟩;replace BK591:=Aside0.mk (KeepBut.blk hk (g':=gb591) (o:=.cells #[.int .i64 0,.slice none 0 0] 38 (0,0)) (za0 NB591_602 BK591) NB591_0.out (by simp));replace HO595:=Aside0.mk (Kd.S_mono (Kd.S_keep (IsS107.apartS (show IsS107 w0 _ g s0_0 t596 from by repeat(first|(with_reducible first|exact HI0.out|apply IsS107.alloc|apply IsS107.drewN|apply IsS107.drew|apply IsS107.set_1|refine IsS107.far ?_ NB0_591.out _|refine IsS107.far ?_ NB0_602.out _)|exact HI0.out)) (by(with_reducible repeat(first|apply Kd.S_alloc|apply Kd.S_drewN|apply Kd.S_drew));exact(Kd.S_mono (Kd.S_far (p:=⟨gb602,1,none⟩) (Kd.S_far (p:=⟨gb602,0,none⟩) (Kd.S_types HO595.out BK602.out (by decide)) (fun _ hk=>hk.2) (.int .i64 t597)) (fun _ hk=>hk.2) (.slice Ao41 t598.length co41)) (fun _ h_=>h_.1))) (by decide)) hk (fun _ h=>h.2)) (fun _ h=>h.1));replace HO600:=Aside0.mk (Kd.R_mono (Kd.R_keep (IsS107.apart (show IsS107 w0 _ g s0_0 t596 from by repeat(first|(with_reducible first|exact HI0.out|apply IsS107.alloc|apply IsS107.drewN|apply IsS107.drew|apply IsS107.set_1|refine IsS107.far ?_ NB0_591.out _|refine IsS107.far ?_ NB0_602.out _)|exact HI0.out)) (by(with_reducible repeat(first|apply Kd.R_alloc|apply Kd.R_drewN|apply Kd.R_drew));exact(Kd.R_mono (Kd.R_far (p:=⟨gb602,1,none⟩) (Kd.R_far (p:=⟨gb602,0,none⟩) (Kd.R_types HO600.out BK602.out (by decide)) (fun _ hk=>hk.2) (.int .i64 t597)) (fun _ hk=>hk.2) (.slice Ao41 t598.length co41)) (fun _ h_=>h_.1))) (by decide)) hk (fun _ h=>h.2)) (fun _ h=>h.1));replace BK602:=Aside0.mk (KeepBut.blk hk (g':=gb602) (o:=.cells #[.int .i64 t597,.slice Ao41 t598.length co41] 38 (0,0)) (by(with_reducible repeat(first|refine blk_drewN ?_ _|refine blk_drew ?_|refine blk_alloc ?_ _));refine qad (cs:=#[.int .i64 t597,.slice none 0 0]) ?_ 1 _ rfl;(with_reducible repeat(first|refine blk_drewN ?_ _|refine blk_drew ?_|refine blk_alloc ?_ _));refine qad (cs:=#[.int .i64 0,.slice none 0 0]) ?_ 0 _ rfl;(with_reducible repeat(first|refine blk_drewN ?_ _|refine blk_drew ?_|refine blk_alloc ?_ _));exact BK602.out) NB602_0.out (by simp));replace HK:=Aside0.mk (KeepBut.trans (za8 HK GW591 GW602) hk (.inl rfl));replace HB:=Aside0.mk hb;replace HI0:=Aside0.mk hi;(try clear hb);(try clear hk);(try clear hi)))
     replace HO595:=Aside0.mk (Kd.S_drew HO595.out)
     replace HO600:=Aside0.mk (Kd.R_drew HO600.out)
     replace BK591:=Aside0.mk (blk_drew BK591.out)
     replace BK602:=Aside0.mk (blk_drew BK602.out)
     replace HI0:=Aside0.mk (IsS107.drew HI0.out)
     replace HK:=Aside0.mk (keep_drew HK.out)
     replace HB:=Aside0.mk (qao HB.out)
     refine start_ (n:=14) (S:=fun w'=>w'.cell? ⟨gb602,0,none⟩=some (.int .i64 t597)∧w'.cell? ⟨gb602,1,none⟩=some (.slice Ao41 t598.length co41)) (ds:=[13]) #[false,false,false,false,false,false,false,false,false,false,false,false,false,false] (by kernel_rfl) rfl rfl ⟨(blk_cell BK602.out 0).trans rfl,(blk_cell BK602.out 1).trans rfl⟩ (fun hHeld=>?_);refine with_tabW spec_l71Stock.tab7 spec_l71Stock.bits7 (fun HT_ HW_=>?_)
     generalize w42.drew=w43 at HO595 HO600 BK591 BK602 HI0 HK HB hHeld ⊢
     refine qaj (i:=0) (N:=some 30) (v:=?_) (a':=?_) #[true,false,false,false,false,false,false,false,false,false,false,false,false,false] rfl rfl (qah HT_.out (by kernel_rfl)) (fun _ _ _ h=>h) (Or.inl ⟨by rfl,?_⟩) ?_ ?_
     rotate_left
     ·intro w'
      go_simp
      with_reducible rfl
     rotate_left
     ·simp only[Act.put,List.setIfInBounds_toArray,List.set_cons_zero,List.set_cons_succ,qaf,qag]
      rfl
     refine qaj (i:=2) (N:=some 32) (v:=?_) (a':=?_) #[true,false,true,false,false,false,false,false,false,false,false,false,false,false] rfl rfl (qah HT_.out (by kernel_rfl)) (fun _ _ _ h=>h) (Or.inl ⟨by rfl,?_⟩) ?_ ?_
     rotate_left
     ·intro w'
      go_simp
      with_reducible rfl
     rotate_left
     ·simp only[Act.put,List.setIfInBounds_toArray,List.set_cons_zero,List.set_cons_succ,qaf,qag]
      rfl
     refine qaj (i:=3) (N:=some 33) (v:=?_) (a':=?_) #[true,false,true,true,false,false,false,false,false,false,false,false,false,false] rfl rfl (qah HT_.out (by kernel_rfl)) (fun _ _ _ h=>h) (Or.inl ⟨by rfl,?_⟩) ?_ ?_
     rotate_left
     ·intro w'
      go_simp
      with_reducible rfl
     rotate_left
     ·simp only[Act.put,List.setIfInBounds_toArray,List.set_cons_zero,List.set_cons_succ,qaf,qag]
      rfl
     refine qaj (i:=7) (N:=some 37) (v:=?_) (a':=?_) #[true,false,true,true,false,false,false,true,false,false,false,false,false,false] rfl rfl (qah HT_.out (by kernel_rfl)) (fun _ _ _ h=>h) (Or.inl ⟨by rfl,?_⟩) ?_ ?_
     rotate_left
     ·intro w'
      go_simp
      with_reducible rfl
     rotate_left
     ·simp only[Act.put,List.setIfInBounds_toArray,List.set_cons_zero,List.set_cons_succ,qaf,qag]
      rfl
     refine qaj (i:=9) (N:=some 39) (v:=?_) (a':=?_) #[true,false,true,true,false,false,false,true,false,true,false,false,false,false] rfl rfl (qah HT_.out (by kernel_rfl)) (fun _ _ _ h=>h) (Or.inl ⟨by rfl,?_⟩) ?_ ?_
     rotate_left
     ·intro w'
      go_simp
      with_reducible rfl
     rotate_left
     ·simp only[Act.put,List.setIfInBounds_toArray,List.set_cons_zero,List.set_cons_succ,qaf,qag]
      rfl
     refine take_ (i:=1) (N:=some 31) (v:=?_) (a':=?_) #[true,true,true,true,false,false,false,true,false,true,false,false,false,false] rfl rfl (qap HT_.out HW_.out (by kernel_rfl)) (fun _ _ _ h=>h) (Or.inl ⟨by rfl,?_⟩) hHeld ?_ ?_
     rotate_left
     ·rintro w' ⟨s0,s1⟩
      go_simp
      with_reducible rfl
     rotate_left
     ·simp only[Act.put,List.setIfInBounds_toArray,List.set_cons_zero,List.set_cons_succ,qaf,qag]
      rfl
     refine take_ (i:=4) (N:=some 34) (v:=?_) (a':=?_) #[true,true,true,true,true,false,false,true,false,true,false,false,false,false] rfl rfl (qap HT_.out HW_.out (by kernel_rfl)) (fun _ _ _ h=>h) (Or.inl ⟨by rfl,?_⟩) hHeld ?_ ?_
     rotate_left
     ·rintro w' ⟨s0,s1⟩
      go_simp
      with_reducible rfl
     rotate_left
     ·simp only[Act.put,List.setIfInBounds_toArray,List.set_cons_zero,List.set_cons_succ,qaf,qag]
      rfl
     refine qaj (i:=5) (N:=some 35) (v:=?_) (a':=?_) #[true,true,true,true,true,true,false,true,false,true,false,false,false,false] rfl rfl (qah HT_.out (by kernel_rfl)) (fun _ _ _ h=>h) (Or.inl ⟨by rfl,?_⟩) ?_ ?_
     rotate_left
     ·intro w'
      go_simp
      with_reducible rfl
     rotate_left
     ·simp only[Act.put,List.setIfInBounds_toArray,List.set_cons_zero,List.set_cons_succ,qaf,qag]
      rfl
     refine one_ (i:=6) (N:=some 36) #[true,true,true,true,true,true,true,true,false,true,false,false,false,false] rfl rfl (one_of HT_.out (by kernel_rfl)) (by decide) (fun K hK=>?_)
     refine goes_ Try.func48 (by kernel_rfl) rfl #[.pointer (some ⟨g,0,none⟩),.int .i64 (t598.length:Int)] (by rfl) rfl rfl (by(try simp only[List.map_toArray,List.map_cons,List.map_nil]);first|done|rfl|(simp only[List.length_drop,List.length_take];rfl)) ?_
     with_reducible refine(spec_l6Rd_pick.calls k g s0_0 t604 (t598.length:Int) t611 t612 w0 _ ?side1 ?side2 A27.out).mono ?_
     (case side1=>repeat(first|(with_reducible first|exact HI0.out|apply IsS107.alloc|apply IsS107.drewN|apply IsS107.drew|apply IsS107.set_1|refine IsS107.far ?_ NB0_591.out _|refine IsS107.far ?_ NB0_602.out _)|exact HI0.out))
     (case side2=>exact(zb13_1Stock HB HI0 GE591 GE602))
     rintro e w44 ⟨rfl,hi,hb,hk⟩
     refine⟨_,rfl,?_⟩
     replace BK591:=Aside0.mk (KeepBut.blk hk (zB BK591) NB591_0.out (by simp))
     replace HO595:=Aside0.mk (Kd.S_mono (Kd.S_keep (IsS107.apartS (show IsS107 w0 _ g s0_0 t604 from by repeat(first|(with_reducible first|exact HI0.out|apply IsS107.alloc|apply IsS107.drewN|apply IsS107.drew|apply IsS107.set_1|refine IsS107.far ?_ NB0_591.out _|refine IsS107.far ?_ NB0_602.out _)|exact HI0.out)) (za30 HO595) (by decide)) hk (fun _ h=>h.2)) (fun _ h=>h.1))
     replace HO600:=Aside0.mk (Kd.R_mono (Kd.R_keep (IsS107.apart (show IsS107 w0 _ g s0_0 t604 from by repeat(first|(with_reducible first|exact HI0.out|apply IsS107.alloc|apply IsS107.drewN|apply IsS107.drew|apply IsS107.set_1|refine IsS107.far ?_ NB0_591.out _|refine IsS107.far ?_ NB0_602.out _)|exact HI0.out)) (za5 HO600) (by decide)) hk (fun _ h=>h.2)) (fun _ h=>h.1))
     replace BK602:=Aside0.mk (KeepBut.blk hk (zB BK602) NB602_0.out (by simp))
     replace HK:=Aside0.mk (KeepBut.trans (za8 HK GW591 GW602) hk (.inl rfl))
     replace HB:=Aside0.mk hb
     replace HI0:=Aside0.mk hi
     (try clear hb)
     (try clear hb2)
     (try clear hk)
     (try clear hi)
     refine hK.out _ _ ⟨(blk_cell BK602.out 0).trans rfl,(blk_cell BK602.out 1).trans rfl⟩ (fun hHeld=>?_)
     clear hK K
     refine norm_ (a':=?_) ?_ ?_
     rotate_left
     ·show Act.put _ (some 36) _=_
      simp only[Act.put,List.setIfInBounds_toArray,List.set_cons_zero,List.set_cons_succ,qaf,qag]
      rfl
     refine one_ (i:=8) (N:=some 38) #[true,true,true,true,true,true,true,true,true,true,false,false,false,false] rfl rfl (one_of HT_.out (by kernel_rfl)) (by decide) (fun K hK=>?_)
     refine goes_ Try.func48 (by kernel_rfl) rfl #[.pointer (some ⟨g,0,none⟩),.int .i64 5] (by rfl) rfl rfl (by(try simp only[List.map_toArray,List.map_cons,List.map_nil]);first|done|rfl|(simp only[List.length_drop,List.length_take];rfl)) ?_
     with_reducible refine(spec_l6Rd_pick.calls k g s0_0 t612 5 t613 t614 w0 _ ?side1 ?side2 A28.out).mono ?_
     (case side1=>repeat(first|(with_reducible first|exact HI0.out|apply IsS107.alloc|apply IsS107.drewN|apply IsS107.drew|apply IsS107.set_1|refine IsS107.far ?_ NB0_591.out _|refine IsS107.far ?_ NB0_602.out _)|exact HI0.out))
     (case side2=>exact(zb13_1Stock HB HI0 GE591 GE602))
     rintro e w45 ⟨rfl,hi,hb,hk⟩
     refine⟨_,rfl,?_⟩
     replace BK591:=Aside0.mk (KeepBut.blk hk (zB BK591) NB591_0.out (by simp))
     replace HO595:=Aside0.mk (Kd.S_mono (Kd.S_keep (IsS107.apartS (show IsS107 w0 _ g s0_0 t612 from by repeat(first|(with_reducible first|exact HI0.out|apply IsS107.alloc|apply IsS107.drewN|apply IsS107.drew|apply IsS107.set_1|refine IsS107.far ?_ NB0_591.out _|refine IsS107.far ?_ NB0_602.out _)|exact HI0.out)) (za30 HO595) (by decide)) hk (fun _ h=>h.2)) (fun _ h=>h.1))
     replace HO600:=Aside0.mk (Kd.R_mono (Kd.R_keep (IsS107.apart (show IsS107 w0 _ g s0_0 t612 from by repeat(first|(with_reducible first|exact HI0.out|apply IsS107.alloc|apply IsS107.drewN|apply IsS107.drew|apply IsS107.set_1|refine IsS107.far ?_ NB0_591.out _|refine IsS107.far ?_ NB0_602.out _)|exact HI0.out)) (za5 HO600) (by decide)) hk (fun _ h=>h.2)) (fun _ h=>h.1))
     replace BK602:=Aside0.mk (KeepBut.blk hk (zB BK602) NB602_0.out (by simp))
     replace HK:=Aside0.mk (KeepBut.trans (za8 HK GW591 GW602) hk (.inl rfl))
     replace HB:=Aside0.mk hb
     replace HI0:=Aside0.mk hi
     (try clear hb)
     (try clear hb2)
     (try clear hk)
     (try clear hi)
     refine hK.out _ _ ⟨(blk_cell BK602.out 0).trans rfl,(blk_cell BK602.out 1).trans rfl⟩ (fun hHeld=>?_)
     clear hK K
     refine norm_ (a':=?_) ?_ ?_
     rotate_left
     ·show Act.put _ (some 38) _=_
      simp only[Act.put,List.setIfInBounds_toArray,List.set_cons_zero,List.set_cons_succ,qaf,qag]
      rfl
     refine one_ (i:=10) (N:=some 40) #[true,true,true,true,true,true,true,true,true,true,true,false,false,false] rfl rfl (one_of HT_.out (by kernel_rfl)) (by decide) (fun K hK=>?_)
     refine goes_ Try.func48 (by kernel_rfl) rfl #[.pointer (some ⟨g,0,none⟩),.int .i64 5] (by rfl) rfl rfl (by(try simp only[List.map_toArray,List.map_cons,List.map_nil]);first|done|rfl|(simp only[List.length_drop,List.length_take];rfl)) ?_
     with_reducible refine(spec_l6Rd_pick.calls k g s0_0 t614 5 t615 t616 w0 _ ?side1 ?side2 A29.out).mono ?_
     (case side1=>repeat(first|(with_reducible first|exact HI0.out|apply IsS107.alloc|apply IsS107.drewN|apply IsS107.drew|apply IsS107.set_1|refine IsS107.far ?_ NB0_591.out _|refine IsS107.far ?_ NB0_602.out _)|exact HI0.out))
     (case side2=>exact(zb13_1Stock HB HI0 GE591 GE602))
     rintro e w46 ⟨rfl,hi,hb,hk⟩
     refine⟨_,rfl,?_⟩
     replace BK591:=Aside0.mk (KeepBut.blk hk (zB BK591) NB591_0.out (by simp))
     replace HO595:=Aside0.mk (Kd.S_mono (Kd.S_keep (IsS107.apartS (show IsS107 w0 _ g s0_0 t614 from by repeat(first|(with_reducible first|exact HI0.out|apply IsS107.alloc|apply IsS107.drewN|apply IsS107.drew|apply IsS107.set_1|refine IsS107.far ?_ NB0_591.out _|refine IsS107.far ?_ NB0_602.out _)|exact HI0.out)) (za30 HO595) (by decide)) hk (fun _ h=>h.2)) (fun _ h=>h.1))
     replace HO600:=Aside0.mk (Kd.R_mono (Kd.R_keep (IsS107.apart (show IsS107 w0 _ g s0_0 t614 from by repeat(first|(with_reducible first|exact HI0.out|apply IsS107.alloc|apply IsS107.drewN|apply IsS107.drew|apply IsS107.set_1|refine IsS107.far ?_ NB0_591.out _|refine IsS107.far ?_ NB0_602.out _)|exact HI0.out)) (za5 HO600) (by decide)) hk (fun _ h=>h.2)) (fun _ h=>h.1))
     replace BK602:=Aside0.mk (KeepBut.blk hk (zB BK602) NB602_0.out (by simp))
     replace HK:=Aside0.mk (KeepBut.trans (za8 HK GW591 GW602) hk (.inl rfl))
     replace HB:=Aside0.mk hb
     replace HI0:=Aside0.mk hi
     (try clear hb)
     (try clear hb2)
     (try clear hk)
     (try clear hi)
     have p32:0≤(t611:Int):=of_decide_eq_true (za9)
     have q32:(t611:Int)<((t598.length:Int):Int):=of_decide_eq_true (za9)
     obtain⟨go32,co32,eo32,gb32,gl32,cl32,HG32⟩:=Kd.R_form HO600.out (by omega)
     (first|cases eo32|(injection eo32 with ea_ en_ ec_;(first|subst ea_|(injection ea_ with ea_;subst ea_));subst ec_;clear en_))
     have GB32:=Aside0.mk gb32
     have GG32:=Aside0.mk HG32
     clear gb32 gl32 HG32
     obtain⟨ce32,hcl32,hM32,hcc32,hfr32⟩:=Kd.R_elem HO600.out z49 (t611:Int) p32 q32
     obtain rfl:=k49_openM hM32
     have hx32_0:World.cell? _ ⟨go32,(t611:Int).toNat*2,none⟩=some (.int .i64 ((rd_T49 t598 t611).f0)):=hcc32 0 _ rfl
     have hx32_1:World.cell? _ ⟨go32,(t611:Int).toNat*2+1,none⟩=some (.int .i64 ((rd_T49 t598 t611).f1)):=hcc32 1 _ rfl
     have hf32_0:World.frozen? _ ⟨go32,(t611:Int).toNat*2,none⟩=false:=hfr32 0
     have hf32_1:World.frozen? _ ⟨go32,(t611:Int).toNat*2+1,none⟩=false:=hfr32 1
     clear hcl32 hcc32 hfr32 hM32
     replace p32:=eq_true p32
     replace q32:=eq_true q32
     have HN0_go32:=Aside0.mk (show g≠go32 from by have h_:=IsS107.own_ne HI0.out HO600.out (by decide);intro e_;exact h_ (by rw[e_];rfl))
     obtain⟨ce47,hcl47,hM47,hcc47,hfr47⟩:=Kd.R_elem HO600.out z49 (t611:Int) (of_decide_eq_true (za9)) (by have h_:(t611:Int)<((t598.length:Int):Int):=of_decide_eq_true (za9);first|exact h_|(have e_:=(Kd.R_reads' HO600.out).1;omega)|simpa using h_)
     obtain rfl:=k49_openM hM47
     have HP47:=(Kd.R_seg HO600.out (t611:Int) (of_decide_eq_true (za9)) (by have h_:(t611:Int)<((t598.length:Int):Int):=of_decide_eq_true (za9);first|exact h_|(have e_:=(Kd.R_reads' HO600.out).1;omega)|simpa using h_) (seg:=[.int .i64 t613,.int .i64 t615]) (j:=0) hcl47 hcc47 (show 2≤2 from by decide) (x':=(⟨t613,t615⟩:S49)) (k49_mkM _ _ _ (⟨t613,t615⟩:S49) ) (fun _ hk=>hk)).1
     rw[←Ny617.out] at HP47
     have HQ47:=Aside0.mk HP47
     clear hcl47 hcc47 hfr47 hM47 HP47
     refine hK.out _ _ ⟨(blk_cell BK602.out 0).trans rfl,(blk_cell BK602.out 1).trans rfl⟩ (fun hHeld=>?_)
     clear hK K
     refine norm_ (a':=?_) ?_ ?_
     rotate_left
     ·show Act.put _ (some 40) _=_
      simp only[Act.put,List.setIfInBounds_toArray,List.set_cons_zero,List.set_cons_succ,qaf,qag]
      rfl
     refine qaj (i:=11) (N:=some 41) (v:=?_) (a':=?_) #[true,true,true,true,true,true,true,true,true,true,true,true,false,false] rfl rfl (qah HT_.out (by kernel_rfl)) (fun _ _ _ h=>h) (Or.inl ⟨by rfl,?_⟩) ?_ ?_
     rotate_left
     ·intro w'
      go_simp
      with_reducible rfl
     rotate_left
     ·simp only[Act.put,List.setIfInBounds_toArray,List.set_cons_zero,List.set_cons_succ,qaf,qag]
      rfl
     refine qaj (i:=12) (N:=some 42) (v:=?_) (a':=?_) #[true,true,true,true,true,true,true,true,true,true,true,true,true,false] rfl rfl (qah HT_.out (by kernel_rfl)) (fun _ _ _ h=>h) (Or.inl ⟨by rfl,?_⟩) ?_ ?_
     rotate_left
     ·intro w'
      go_simp
      with_reducible rfl
     rotate_left
     ·simp only[Act.put,List.setIfInBounds_toArray,List.set_cons_zero,List.set_cons_succ,qaf,qag]
      rfl
     refine last_ (i:=13) (N:=none) #[true,true,true,true,true,true,true,true,true,true,true,true,true,true] rfl rfl (one_of HT_.out (by kernel_rfl)) (by decide) (fun K hK=>?_)
     refine skip_ (w1:=?_) (by rfl) rfl ?_ ?_
     rotate_left
     ·go_simp
      rfl
     refine hK.out _ _ ?_
     clear hK K
     refine done_ (done_of HT_.out (by kernel_rfl)) ?_
     have n0_:Aside0 (Kd.S k32 32 ((w46.setCell ⟨go32,(t611:Int).toNat*2,none⟩ (.int .i64 t613)).setCell ⟨go32,(t611:Int).toNat*2+1,none⟩ (.int .i64 t615)) w.heap.size (fun _=>True) (.slice Ao35 t593.length co35) t593):=⟨by(with_reducible repeat(first|apply Kd.S_alloc|apply Kd.S_drewN|apply Kd.S_drew));exact Kd.S_mono (Kd.S_far (p:=⟨go32,(t611:Int).toNat*2+1,none⟩) (Kd.S_far (p:=⟨go32,(t611:Int).toNat*2,none⟩) (Kd.S_types HO595.out GG32.out (by decide)) (fun _ hk=>hk.2) (.int .i64 t613)) (fun _ hk=>hk.2) (.int .i64 t615)) (fun _ hk=>trivial)⟩
     have n1_:Aside0 (Kd.R k49 49 ((w46.setCell ⟨go32,(t611:Int).toNat*2,none⟩ (.int .i64 t613)).setCell ⟨go32,(t611:Int).toNat*2+1,none⟩ (.int .i64 t615)) w.heap.size (fun _=>True) (.slice (some ⟨go32,0,none⟩) t598.length co41) y617):=⟨za5 HQ47⟩
     have n2_:Aside0 (((w46.setCell ⟨go32,(t611:Int).toNat*2,none⟩ (.int .i64 t613)).setCell ⟨go32,(t611:Int).toNat*2+1,none⟩ (.int .i64 t615)).heap[gb591]?=some (.cells #[.int .i64 0,.slice none 0 0] 38 (0,0))):=⟨by(with_reducible repeat(first|refine blk_drewN ?_ _|refine blk_drew ?_|refine blk_alloc ?_ _));refine blk_far ?_ (by have h_:=Kd.R_ne HO600.out BK591.out (by decide);intro e_;exact h_ (by rw[e_];rfl)) _;(with_reducible repeat(first|refine blk_drewN ?_ _|refine blk_drew ?_|refine blk_alloc ?_ _));refine blk_far ?_ (by have h_:=Kd.R_ne HO600.out BK591.out (by decide);intro e_;exact h_ (by rw[e_];rfl)) _;(with_reducible repeat(first|refine blk_drewN ?_ _|refine blk_drew ?_|refine blk_alloc ?_ _));exact BK591.out⟩
     have n3_:Aside0 (((w46.setCell ⟨go32,(t611:Int).toNat*2,none⟩ (.int .i64 t613)).setCell ⟨go32,(t611:Int).toNat*2+1,none⟩ (.int .i64 t615)).heap[gb602]?=some (.cells #[.int .i64 t597,.slice (some ⟨go32,0,none⟩) t598.length co41] 38 (0,0))):=⟨by(with_reducible repeat(first|refine blk_drewN ?_ _|refine blk_drew ?_|refine blk_alloc ?_ _));refine blk_far ?_ (by have h_:=Kd.R_ne HO600.out BK602.out (by decide);intro e_;exact h_ (by rw[e_];rfl)) _;(with_reducible repeat(first|refine blk_drewN ?_ _|refine blk_drew ?_|refine blk_alloc ?_ _));refine blk_far ?_ (by have h_:=Kd.R_ne HO600.out BK602.out (by decide);intro e_;exact h_ (by rw[e_];rfl)) _;(with_reducible repeat(first|refine blk_drewN ?_ _|refine blk_drew ?_|refine blk_alloc ?_ _));exact BK602.out⟩
     have n4_:Aside0 (IsS107 w0 ((w46.setCell ⟨go32,(t611:Int).toNat*2,none⟩ (.int .i64 t613)).setCell ⟨go32,(t611:Int).toNat*2+1,none⟩ (.int .i64 t615)) g s0_0 t616):=⟨by repeat(first|(with_reducible first|exact HI0.out|apply IsS107.alloc|apply IsS107.drewN|apply IsS107.drew|apply IsS107.set_1|refine IsS107.far ?_ HN0_go32.out _|refine IsS107.far ?_ HN0_go32.out _|refine IsS107.far ?_ NB0_591.out _|refine IsS107.far ?_ NB0_602.out _)|exact HI0.out)⟩
     have n5_:Aside0 (KeepBut w ((w46.setCell ⟨go32,(t611:Int).toNat*2,none⟩ (.int .i64 t613)).setCell ⟨go32,(t611:Int).toNat*2+1,none⟩ (.int .i64 t615)) g none):=⟨by repeat(first|(with_reducible first|exact HK.out|apply KeepBut.set_|apply keep_drewN|apply keep_drew|apply keep_alloc|refine keep_far ?_ GB32.out _|refine keep_far ?_ GB32.out _|refine keep_far ?_ GW591.out _|refine keep_far ?_ GW602.out _)|exact HK.out)⟩
     have n6_:Aside0 (Below w0.heap.size w0 ((w46.setCell ⟨go32,(t611:Int).toNat*2,none⟩ (.int .i64 t613)).setCell ⟨go32,(t611:Int).toNat*2+1,none⟩ (.int .i64 t615))):=⟨by repeat(first|(with_reducible first|exact HB.out|apply below_alloc|apply qaq|apply qao|refine qak ?_ (Nat.le_trans HL.out GB32.out)|refine qak ?_ (Nat.le_trans HL.out GB32.out)|refine qak ?_ (IsS107.ge HI0.out)|refine qak ?_ GE591.out|refine qak ?_ GE602.out)|exact HB.out)⟩
     (try clear HO595)
     (try clear HO600)
     (try clear BK591)
     (try clear BK602)
     (try clear HI0)
     (try clear HK)
     (try clear HB)
     generalize ((w46.setCell ⟨go32,(t611:Int).toNat*2,none⟩ (.int .i64 t613)).setCell ⟨go32,(t611:Int).toNat*2+1,none⟩ (.int .i64 t615))=w48 at n0_ n1_ n2_ n3_ n4_ n5_ n6_ ⊢
     have HO595:=n0_
     have HO600:=n1_
     have BK591:=n2_
     have BK602:=n3_
     have HI0:=n4_
     have HK:=n5_
     have HB:=n6_
     clear n0_ n1_ n2_ n3_ n4_ n5_ n6_
     obtain⟨hcz49_0,hcz49_1,hfz49_0,hfz49_1⟩:=zC2 BK602
     have hnb50:=NB591_0.out
     have hnc50:=NB0_591.out
     obtain⟨hcz51_0,hcz51_1,hfz51_0,hfz51_1⟩:=zC2 BK591
     try go_wp2
     refine bodyPost_ret (results_cell_row rfl _ _ gb591 38 #[.int .i64 t597,.slice (some ⟨go32,0,none⟩) t598.length co41] (0,0) _ rfl (by(with_reducible repeat(first|refine blk_drewN ?_ _|refine blk_drew ?_|refine blk_alloc ?_ _));refine qad (cs:=#[.int .i64 t597,.slice none 0 0]) ?_ 1 _ rfl;(with_reducible repeat(first|refine blk_drewN ?_ _|refine blk_drew ?_|refine blk_alloc ?_ _));refine qad (cs:=#[.int .i64 0,.slice none 0 0]) ?_ 0 _ rfl;(with_reducible repeat(first|refine blk_drewN ?_ _|refine blk_drew ?_|refine blk_alloc ?_ _));exact BK591.out) Try.underlying38 rfl (by kernel_rfl)) rfl ?_
     exact⟨_,za16,Kd.Q_of_R (by(with_reducible repeat(first|apply Kd.R_alloc|apply Kd.R_drewN|apply Kd.R_drew));exact Kd.R_mono (Kd.R_far (p:=⟨gb591,1,none⟩) (Kd.R_far (p:=⟨gb591,0,none⟩) (Kd.R_types HO600.out BK591.out (by decide)) (fun _ hk=>hk.2) (.int .i64 t597)) (fun _ hk=>hk.2) (.slice (some ⟨go32,0,none⟩) t598.length co41)) (fun _ hk=>trivial)),zb34_1Stock HI0 NB0_591 NB0_602,zb13_1Stock HB HI0 GE591 GE602,za8 HK GW591 GW602⟩
    ·rw[if_neg c31] at H
     exact absurd H (by simp)
   ·rw[if_neg c30] at H
    exact absurd H (by simp)
  ·rw[if_neg c26] at H
   have c26b0:(t603 == 1)=false:=beq_eq_false_iff_ne.mpr c26
   have c26b1:(t603 != 1)=true:=bne_iff_ne.mpr c26
   by_cases c52:t603=2
   ·rw[if_pos c52] at H
    have c52b0:(t603 == 2)=true:=beq_iff_eq.mpr c52
    have c52b1:(t603 != 2)=false:=bne_eq_false_iff_eq.mpr c52
    clear c52
    by_cases c53:1≤(t598.length:Int)
    ·rw[if_pos c53] at H
     have c53b0:=eq_true c53
     have c53b1:decide (1≤(t598.length:Int))=true:=decide_eq_true c53
     clear c53
     obtain⟨y618,hy618⟩:∃y_:List (S49),y_=(t598.drop (1:Int).toNat):=⟨_,rfl⟩
     replace H:(some (t597,y618,t604))=some (r1,r2,r3):=by first|(rw[hy618];with_reducible exact H)|(have H2_:=(Option.bind_some _ _).symm.trans H;rw[hy618];with_reducible exact H2_)|(have H2_:=(Option.bind_some _ _).symm.trans H;with_reducible exact H2_)|with_reducible exact H|(rw[hy618];exact H)|exact H
     have Ny618:=Aside0.mk hy618
     clear hy618
     simp only[Option.some.injEq,Prod.mk.injEq] at H
     obtain⟨rfl,rfl,rfl⟩:=H
     go_enter Try.func91,Try.ntmps91
     go_wp2_with(first|((with_reducible refine qae (N:=2) rfl ?_);refine zX (N:=2) (cs:=#[.int .i64 0,.slice none 0 0]) (t:=38) ?_;intro gb591 hg w54 hbox hb;replace HB:=Aside0.mk (qab (zb21_1Stock HB HI0) hb);have BK591:=Aside0.mk hbox;have GW591:=Aside0.mk ((by rw[hg];exact(qan (w:=w) (g:=g) (row:=none) (za22 HK)):w.heap.size≤gb591));have GE591:=Aside0.mk ((Nat.le_trans HW0.out (by rw[hg];exact(qan (w:=w) (g:=g) (row:=none) (za22 HK)):w.heap.size≤gb591):w0.heap.size≤gb591));replace HK:=Aside0.mk (KeepBut.trans (za22 HK) (KeepBut.of_below hb g none) (.inl rfl));have NB0_591:=Aside0.mk ((by rw[hg];exact Nat.ne_of_lt (IsS107.lt (show IsS107 w0 _ g s0_0 s0_1 from by repeat(first|(with_reducible first|exact HI0.out|apply IsS107.alloc|apply IsS107.drewN|apply IsS107.drew|apply IsS107.set_1)|exact HI0.out))):g≠gb591));have NB591_0:=Aside0.mk ((by rw[hg];exact Nat.ne_of_gt (IsS107.lt (show IsS107 w0 _ g s0_0 s0_1 from by repeat(first|(with_reducible first|exact HI0.out|apply IsS107.alloc|apply IsS107.drewN|apply IsS107.drew|apply IsS107.set_1)|exact HI0.out))):gb591≠g));replace HI0:=Aside0.mk (IsS107.below (zb41_1Stock HI0) hb);clear hb hbox hg)|((with_reducible refine qac (f:=54) rfl ?_);refine zF (some 9) Try.func54 #[.pointer (some ⟨g,0,none⟩)] ?_;(with_reducible refine(spec_l71Recs.calls k g s0_0 s0_1 t592 t593 t596 w0 _ ?side1 ?side2 A2.out).mono ?_);(case side1=>repeat(first|(with_reducible first|exact HI0.out|apply IsS107.alloc|apply IsS107.drewN|apply IsS107.drew|apply IsS107.set_1|refine IsS107.far ?_ NB0_591.out _)|exact HI0.out));(case side2=>exact(zb27_1Stock HB HI0 GE591));rintro e w55 ⟨v594,rfl,ho0,hi,hb,hk⟩;refine⟨_,rfl,?_⟩;replace BK591:=Aside0.mk (KeepBut.blk hk (zB BK591) NB591_0.out (by simp));have HO595:=Aside0.mk (Kd.S_lower ho0 (qan (w:=w) (g:=g) (row:=none) (za23 HK GW591)));replace HK:=Aside0.mk (KeepBut.trans (za23 HK GW591) hk (.inl rfl));replace HB:=Aside0.mk hb;replace HI0:=Aside0.mk hi;(try clear hb);(try clear hk);(try clear hi);(try clear ho0);obtain⟨Ao56,co56,eo56⟩:=Kd.S_slice HO595.out;subst eo56)|((with_reducible refine qac (f:=21) rfl ?_);refine zF (some 15) Try.func21 #[.int .i64 t592,.slice Ao56 t593.length co56] ?_;(with_reducible refine(spec_StockOf.calls k t592 _ _ t593 t597 t598 t601 _ ?side1 ?side2 A3.out).mono ?_);(case side1=>repeat(first|exact(Kd.S_reads' HO595.out).2.2|(with_reducible refine Kd.C_alloc ?_ _)|(with_reducible refine Kd.C_drewN ?_ _)|(with_reducible refine Kd.C_drew ?_)));(case side2=>exact(Kd.S_reads' HO595.out).2.1);rintro e w57 ⟨v599,rfl,ho0,hb⟩;refine⟨_,rfl,?_⟩;replace HO595:=Aside0.mk (Kd.S_below (za30 HO595) hb);have HO600:=Aside0.mk (Kd.R_lower ho0 (qan (w:=w) (g:=g) (row:=none) (za23 HK GW591)));replace BK591:=Aside0.mk (qaa (zB BK591) hb);replace HK:=Aside0.mk (KeepBut.trans (za23 HK GW591) (KeepBut.of_below hb g none) (.inl rfl));replace HB:=Aside0.mk (qab (zb27_1Stock HB HI0 GE591) hb);replace HI0:=Aside0.mk (IsS107.below (zb50_1Stock HI0 NB0_591) hb);(try clear hb);(try clear ho0))|((with_reducible refine qae (N:=5) rfl ?_);refine zX (N:=5) (cs:=#[.int .i64 0,.slice none 0 0]) (t:=38) ?_;intro gb602 hg w58 hbox hb;replace HO595:=Aside0.mk (Kd.S_below (za30 HO595) hb);replace HO600:=Aside0.mk (Kd.R_below (za5 HO600) hb);replace HB:=Aside0.mk (qab (zb27_1Stock HB HI0 GE591) hb);have BK602:=Aside0.mk hbox;have GW602:=Aside0.mk ((by rw[hg];exact(qan (w:=w) (g:=g) (row:=none) (za23 HK GW591)):w.heap.size≤gb602));have GE602:=Aside0.mk ((Nat.le_trans HW0.out (by rw[hg];exact(qan (w:=w) (g:=g) (row:=none) (za23 HK GW591)):w.heap.size≤gb602):w0.heap.size≤gb602));replace HK:=Aside0.mk (KeepBut.trans (za23 HK GW591) (KeepBut.of_below hb g none) (.inl rfl));have NB591_602:=zL BK591 hg;have NB602_591:=zG BK591 hg;replace BK591:=Aside0.mk (qaa (zB BK591) hb);have NB0_602:=Aside0.mk ((by rw[hg];exact Nat.ne_of_lt (IsS107.lt (show IsS107 w0 _ g s0_0 t596 from by repeat(first|(with_reducible first|exact HI0.out|apply IsS107.alloc|apply IsS107.drewN|apply IsS107.drew|apply IsS107.set_1|refine IsS107.far ?_ NB0_591.out _)|exact HI0.out))):g≠gb602));have NB602_0:=Aside0.mk ((by rw[hg];exact Nat.ne_of_gt (IsS107.lt (show IsS107 w0 _ g s0_0 t596 from by repeat(first|(with_reducible first|exact HI0.out|apply IsS107.alloc|apply IsS107.drewN|apply IsS107.drew|apply IsS107.set_1|refine IsS107.far ?_ NB0_591.out _)|exact HI0.out))):gb602≠g));replace HI0:=Aside0.mk (IsS107.below (zb50_1Stock HI0 NB0_591) hb);clear hb hbox hg;have hnb59:=NB602_591.out;have hnc59:=NB591_602.out;have hnb60:=NB602_0.out;have hnc60:=NB0_602.out;obtain⟨hcz61_0,hcz61_1,hfz61_0,hfz61_1⟩:=zC2 BK602;obtain⟨Ao62,co62,eo62⟩:=Kd.R_slice HO600.out;subst eo62)|((with_reducible refine qac (f:=48) rfl ?_);refine zF (some 19) Try.func48 #[.pointer (some ⟨g,0,none⟩),.int .i64 20] ?_;(with_reducible refine(spec_l6Rd_pick.calls k g s0_0 t596 20 t603 t604 w0 _ ?side1 ?side2 A4.out).mono ?_);(case side1=>repeat(first|(with_reducible first|exact HI0.out|apply IsS107.alloc|apply IsS107.drewN|apply IsS107.drew|apply IsS107.set_1|refine IsS107.far ?_ NB0_591.out _|refine IsS107.far ?_ NB0_602.out _)|exact HI0.out));(case side2=>exact(zb13_1Stock HB HI0 GE591 GE602));rintro e w63 ⟨rfl,hi,hb,hk⟩;refine⟨_,rfl,?_⟩;replace BK591:=Aside0.mk (KeepBut.blk hk (g':=gb591) (o:=.cells #[.int .i64 0,.slice none 0 0] 38 (0,0)) (za0 NB591_602 BK591) NB591_0.out (by simp));replace HO595:=Aside0.mk (Kd.S_mono (Kd.S_keep (IsS107.apartS (show IsS107 w0 _ g s0_0 t596 from by repeat(first|(with_reducible first|exact HI0.out|apply IsS107.alloc|apply IsS107.drewN|apply IsS107.drew|apply IsS107.set_1|refine IsS107.far ?_ NB0_591.out _|refine IsS107.far ?_ NB0_602.out _)|exact HI0.out)) (by(with_reducible repeat(first|apply Kd.S_alloc|apply Kd.S_drewN|apply Kd.S_drew));exact(Kd.S_mono (Kd.S_far (p:=⟨gb602,1,none⟩) (Kd.S_far (p:=⟨gb602,0,none⟩) (Kd.S_types HO595.out BK602.out (by decide)) (fun _ hk=>hk.2) (.int .i64 t597)) (fun _ hk=>hk.2) (.slice Ao62 t598.length co62)) (fun _ h_=>h_.1))) (by decide)) hk (fun _ h=>h.2)) (fun _ h=>h.1));replace HO600:=Aside0.mk (Kd.R_mono (Kd.R_keep (IsS107.apart (show IsS107 w0 _ g s0_0 t596 from by repeat(first|(with_reducible first|exact HI0.out|apply IsS107.alloc|apply IsS107.drewN|apply IsS107.drew|apply IsS107.set_1|refine IsS107.far ?_ NB0_591.out _|refine IsS107.far ?_ NB0_602.out _)|exact HI0.out)) (by(with_reducible repeat(first|apply Kd.R_alloc|apply Kd.R_drewN|apply Kd.R_drew));exact(Kd.R_mono (Kd.R_far (p:=⟨gb602,1,none⟩) (Kd.R_far (p:=⟨gb602,0,none⟩) (Kd.R_types HO600.out BK602.out (by decide)) (fun _ hk=>hk.2) (.int .i64 t597)) (fun _ hk=>hk.2) (.slice Ao62 t598.length co62)) (fun _ h_=>h_.1))) (by decide)) hk (fun _ h=>h.2)) (fun _ h=>h.1));replace BK602:=Aside0.mk (KeepBut.blk hk (g':=gb602) (o:=.cells #[.int .i64 t597,.slice Ao62 t598.length co62] 38 (0,0)) (by(with_reducible repeat(first|refine blk_drewN ?_ _|refine blk_drew ?_|refine blk_alloc ?_ _));refine qad (cs:=#[.int .i64 t597,.slice none 0 0]) ?_ 1 _ rfl;(with_reducible repeat(first|refine blk_drewN ?_ _|refine blk_drew ?_|refine blk_alloc ?_ _));refine qad (cs:=#[.int .i64 0,.slice none 0 0]) ?_ 0 _ rfl;(with_reducible repeat(first|refine blk_drewN ?_ _|refine blk_drew ?_|refine blk_alloc ?_ _));exact BK602.out) NB602_0.out (by simp));replace HK:=Aside0.mk (KeepBut.trans (za8 HK GW591 GW602) hk (.inl rfl));replace HB:=Aside0.mk hb;replace HI0:=Aside0.mk hi;(try clear hb);(try clear hk);(try clear hi);obtain⟨hcz64_0,hcz64_1,hfz64_0,hfz64_1⟩:=zC2 BK602;have q65:(1:Int)≤((t598.length:Int):Int):=of_decide_eq_true (za9);obtain⟨i065,hi065,_,hsz65,_⟩:=info_parts info49;have hcut65:=cut_from (P:=Try.prog) 36 49 .i64 Try.underlying36 hi065 2 hsz65 Ao62 t598.length co62 1 (by omega) q65;have hr65:=Kd.Q_drop (k:=(1:Int).toNat) (Kd.Q_of_R HO600.out) (by omega);obtain⟨A65,hA65⟩:∃A1,A1=(if co62=(1:Int).toNat then Ao62 else(Ao62:Option Addr).map (·.add ((1:Int).toNat*2))):=⟨_,rfl⟩;obtain⟨c65,hc65⟩:∃c1,c1=co62 - (1:Int).toNat:=⟨_,rfl⟩;have hy65:y618.length=t598.length - (1:Int).toNat:=(by rw[Ny618.out,List.length_drop]);rw[←Ny618.out] at hr65;rw[←hy65,←hA65,←hc65] at hcut65;replace hr65:Kd.Q k49 49 w63 w.heap.size (fun _=>True) (.slice A65 y618.length c65) y618:=(by rw[hA65,hc65,hy65];exact hr65);have HE65:Aside0 ((Value.slice A65 y618.length c65).ownBlock=(.slice Ao62 t598.length co62:Value).ownBlock):=⟨by rw[hA65];split<;>(cases (Ao62:Option Addr)<;>rfl)⟩;clear hy65 hi065 hsz65 HO600 hA65 hc65;have HO620:=Aside0.mk hr65;clear hr65;replace q65:=eq_true q65;have hnb66:=NB591_0.out;have hnc66:=NB0_591.out;obtain⟨hcz67_0,hcz67_1,hfz67_0,hfz67_1⟩:=zC2 BK591))
     refine bodyPost_ret (results_cell_row rfl _ _ gb591 38 #[.int .i64 t597,.slice A65 y618.length c65] (0,0) _ rfl (by(with_reducible repeat(first|refine blk_drewN ?_ _|refine blk_drew ?_|refine blk_alloc ?_ _));refine qad (cs:=#[.int .i64 t597,.slice none 0 0]) ?_ 1 _ rfl;(with_reducible repeat(first|refine blk_drewN ?_ _|refine blk_drew ?_|refine blk_alloc ?_ _));refine qad (cs:=#[.int .i64 0,.slice none 0 0]) ?_ 0 _ rfl;(with_reducible repeat(first|refine blk_drewN ?_ _|refine blk_drew ?_|refine blk_alloc ?_ _));refine blk_far ?_ NB591_602.out _;(with_reducible repeat(first|refine blk_drewN ?_ _|refine blk_drew ?_|refine blk_alloc ?_ _));exact BK591.out) Try.underlying38 rfl (by kernel_rfl)) rfl ?_
     exact⟨_,za16,by(with_reducible repeat(first|apply Kd.Q_alloc|apply Kd.Q_drewN|apply Kd.Q_drew));exact Kd.Q_mono (Kd.Q_far (p:=⟨gb591,1,none⟩) (Kd.Q_far (p:=⟨gb591,0,none⟩) (Kd.Q_far (p:=⟨gb602,1,none⟩) (Kd.Q_types (Kd.Q_types HO620.out BK602.out (by decide)) BK591.out (by decide)) (fun _ hk=>hk.1.2) (.slice A65 y618.length c65)) (fun _ hk=>hk.2) (.int .i64 t597)) (fun _ hk=>hk.2) (.slice A65 y618.length c65)) (fun _ hk=>trivial),zb34_1Stock HI0 NB0_591 NB0_602,zb13_1Stock HB HI0 GE591 GE602,za8 HK GW591 GW602⟩
    ·rw[if_neg c53] at H
     exact absurd H (by simp)
   ·rw[if_neg c52] at H
    have c52b0:(t603 == 2)=false:=beq_eq_false_iff_ne.mpr c52
    have c52b1:(t603 != 2)=true:=bne_iff_ne.mpr c52
    simp only[Option.some.injEq,Prod.mk.injEq] at H
    obtain⟨rfl,rfl,rfl⟩:=H
    go_enter Try.func91,Try.ntmps91
    go_wp2_with(first|((with_reducible refine qae (N:=2) rfl ?_);refine zX (N:=2) (cs:=#[.int .i64 0,.slice none 0 0]) (t:=38) ?_;intro gb591 hg w68 hbox hb;replace HB:=Aside0.mk (qab (zb21_1Stock HB HI0) hb);have BK591:=Aside0.mk hbox;have GW591:=Aside0.mk ((by rw[hg];exact(qan (w:=w) (g:=g) (row:=none) (za22 HK)):w.heap.size≤gb591));have GE591:=Aside0.mk ((Nat.le_trans HW0.out (by rw[hg];exact(qan (w:=w) (g:=g) (row:=none) (za22 HK)):w.heap.size≤gb591):w0.heap.size≤gb591));replace HK:=Aside0.mk (KeepBut.trans (za22 HK) (KeepBut.of_below hb g none) (.inl rfl));have NB0_591:=Aside0.mk ((by rw[hg];exact Nat.ne_of_lt (IsS107.lt (show IsS107 w0 _ g s0_0 s0_1 from by repeat(first|(with_reducible first|exact HI0.out|apply IsS107.alloc|apply IsS107.drewN|apply IsS107.drew|apply IsS107.set_1)|exact HI0.out))):g≠gb591));have NB591_0:=Aside0.mk ((by rw[hg];exact Nat.ne_of_gt (IsS107.lt (show IsS107 w0 _ g s0_0 s0_1 from by repeat(first|(with_reducible first|exact HI0.out|apply IsS107.alloc|apply IsS107.drewN|apply IsS107.drew|apply IsS107.set_1)|exact HI0.out))):gb591≠g));replace HI0:=Aside0.mk (IsS107.below (zb41_1Stock HI0) hb);clear hb hbox hg)|((with_reducible refine qac (f:=54) rfl ?_);refine zF (some 9) Try.func54 #[.pointer (some ⟨g,0,none⟩)] ?_;(with_reducible refine(spec_l71Recs.calls k g s0_0 s0_1 t592 t593 t596 w0 _ ?side1 ?side2 A2.out).mono ?_);(case side1=>repeat(first|(with_reducible first|exact HI0.out|apply IsS107.alloc|apply IsS107.drewN|apply IsS107.drew|apply IsS107.set_1|refine IsS107.far ?_ NB0_591.out _)|exact HI0.out));(case side2=>exact(zb27_1Stock HB HI0 GE591));rintro e w69 ⟨v594,rfl,ho0,hi,hb,hk⟩;refine⟨_,rfl,?_⟩;replace BK591:=Aside0.mk (KeepBut.blk hk (zB BK591) NB591_0.out (by simp));have HO595:=Aside0.mk (Kd.S_lower ho0 (qan (w:=w) (g:=g) (row:=none) (za23 HK GW591)));replace HK:=Aside0.mk (KeepBut.trans (za23 HK GW591) hk (.inl rfl));replace HB:=Aside0.mk hb;replace HI0:=Aside0.mk hi;(try clear hb);(try clear hk);(try clear hi);(try clear ho0);obtain⟨Ao70,co70,eo70⟩:=Kd.S_slice HO595.out;subst eo70)|((with_reducible refine qac (f:=21) rfl ?_);refine zF (some 15) Try.func21 #[.int .i64 t592,.slice Ao70 t593.length co70] ?_;(with_reducible refine(spec_StockOf.calls k t592 _ _ t593 t597 t598 t601 _ ?side1 ?side2 A3.out).mono ?_);(case side1=>repeat(first|exact(Kd.S_reads' HO595.out).2.2|(with_reducible refine Kd.C_alloc ?_ _)|(with_reducible refine Kd.C_drewN ?_ _)|(with_reducible refine Kd.C_drew ?_)));(case side2=>exact(Kd.S_reads' HO595.out).2.1);rintro e w71 ⟨v599,rfl,ho0,hb⟩;refine⟨_,rfl,?_⟩;replace HO595:=Aside0.mk (Kd.S_below (za30 HO595) hb);have HO600:=Aside0.mk (Kd.R_lower ho0 (qan (w:=w) (g:=g) (row:=none) (za23 HK GW591)));replace BK591:=Aside0.mk (qaa (zB BK591) hb);replace HK:=Aside0.mk (KeepBut.trans (za23 HK GW591) (KeepBut.of_below hb g none) (.inl rfl));replace HB:=Aside0.mk (qab (zb27_1Stock HB HI0 GE591) hb);replace HI0:=Aside0.mk (IsS107.below (zb50_1Stock HI0 NB0_591) hb);(try clear hb);(try clear ho0))|((with_reducible refine qae (N:=5) rfl ?_);refine zX (N:=5) (cs:=#[.int .i64 0,.slice none 0 0]) (t:=38) ?_;intro gb602 hg w72 hbox hb;replace HO595:=Aside0.mk (Kd.S_below (za30 HO595) hb);replace HO600:=Aside0.mk (Kd.R_below (za5 HO600) hb);replace HB:=Aside0.mk (qab (zb27_1Stock HB HI0 GE591) hb);have BK602:=Aside0.mk hbox;have GW602:=Aside0.mk ((by rw[hg];exact(qan (w:=w) (g:=g) (row:=none) (za23 HK GW591)):w.heap.size≤gb602));have GE602:=Aside0.mk ((Nat.le_trans HW0.out (by rw[hg];exact(qan (w:=w) (g:=g) (row:=none) (za23 HK GW591)):w.heap.size≤gb602):w0.heap.size≤gb602));replace HK:=Aside0.mk (KeepBut.trans (za23 HK GW591) (KeepBut.of_below hb g none) (.inl rfl));have NB591_602:=zL BK591 hg;have NB602_591:=zG BK591 hg;replace BK591:=Aside0.mk (qaa (zB BK591) hb);have NB0_602:=Aside0.mk ((by rw[hg];exact Nat.ne_of_lt (IsS107.lt (show IsS107 w0 _ g s0_0 t596 from by repeat(first|(with_reducible first|exact HI0.out|apply IsS107.alloc|apply IsS107.drewN|apply IsS107.drew|apply IsS107.set_1|refine IsS107.far ?_ NB0_591.out _)|exact HI0.out))):g≠gb602));have NB602_0:=Aside0.mk ((by rw[hg];exact Nat.ne_of_gt (IsS107.lt (show IsS107 w0 _ g s0_0 t596 from by repeat(first|(with_reducible first|exact HI0.out|apply IsS107.alloc|apply IsS107.drewN|apply IsS107.drew|apply IsS107.set_1|refine IsS107.far ?_ NB0_591.out _)|exact HI0.out))):gb602≠g));replace HI0:=Aside0.mk (IsS107.below (zb50_1Stock HI0 NB0_591) hb);clear hb hbox hg;have hnb73:=NB602_591.out;have hnc73:=NB591_602.out;have hnb74:=NB602_0.out;have hnc74:=NB0_602.out;obtain⟨hcz75_0,hcz75_1,hfz75_0,hfz75_1⟩:=zC2 BK602;obtain⟨Ao76,co76,eo76⟩:=Kd.R_slice HO600.out;subst eo76)|((with_reducible refine qac (f:=48) rfl ?_);refine zF (some 19) Try.func48 #[.pointer (some ⟨g,0,none⟩),.int .i64 20] ?_;(with_reducible refine(spec_l6Rd_pick.calls k g s0_0 t596 20 t603 t604 w0 _ ?side1 ?side2 A4.out).mono ?_);(case side1=>repeat(first|(with_reducible first|exact HI0.out|apply IsS107.alloc|apply IsS107.drewN|apply IsS107.drew|apply IsS107.set_1|refine IsS107.far ?_ NB0_591.out _|refine IsS107.far ?_ NB0_602.out _)|exact HI0.out));(case side2=>exact(zb13_1Stock HB HI0 GE591 GE602));rintro e w77 ⟨rfl,hi,hb,hk⟩;refine⟨_,rfl,?_⟩;replace BK591:=Aside0.mk (KeepBut.blk hk (g':=gb591) (o:=.cells #[.int .i64 0,.slice none 0 0] 38 (0,0)) (za0 NB591_602 BK591) NB591_0.out (by simp));replace HO595:=Aside0.mk (Kd.S_mono (Kd.S_keep (IsS107.apartS (show IsS107 w0 _ g s0_0 t596 from by repeat(first|(with_reducible first|exact HI0.out|apply IsS107.alloc|apply IsS107.drewN|apply IsS107.drew|apply IsS107.set_1|refine IsS107.far ?_ NB0_591.out _|refine IsS107.far ?_ NB0_602.out _)|exact HI0.out)) (by(with_reducible repeat(first|apply Kd.S_alloc|apply Kd.S_drewN|apply Kd.S_drew));exact(Kd.S_mono (Kd.S_far (p:=⟨gb602,1,none⟩) (Kd.S_far (p:=⟨gb602,0,none⟩) (Kd.S_types HO595.out BK602.out (by decide)) (fun _ hk=>hk.2) (.int .i64 t597)) (fun _ hk=>hk.2) (.slice Ao76 t598.length co76)) (fun _ h_=>h_.1))) (by decide)) hk (fun _ h=>h.2)) (fun _ h=>h.1));replace HO600:=Aside0.mk (Kd.R_mono (Kd.R_keep (IsS107.apart (show IsS107 w0 _ g s0_0 t596 from by repeat(first|(with_reducible first|exact HI0.out|apply IsS107.alloc|apply IsS107.drewN|apply IsS107.drew|apply IsS107.set_1|refine IsS107.far ?_ NB0_591.out _|refine IsS107.far ?_ NB0_602.out _)|exact HI0.out)) (by(with_reducible repeat(first|apply Kd.R_alloc|apply Kd.R_drewN|apply Kd.R_drew));exact(Kd.R_mono (Kd.R_far (p:=⟨gb602,1,none⟩) (Kd.R_far (p:=⟨gb602,0,none⟩) (Kd.R_types HO600.out BK602.out (by decide)) (fun _ hk=>hk.2) (.int .i64 t597)) (fun _ hk=>hk.2) (.slice Ao76 t598.length co76)) (fun _ h_=>h_.1))) (by decide)) hk (fun _ h=>h.2)) (fun _ h=>h.1));replace BK602:=Aside0.mk (KeepBut.blk hk (g':=gb602) (o:=.cells #[.int .i64 t597,.slice Ao76 t598.length co76] 38 (0,0)) (by(with_reducible repeat(first|refine blk_drewN ?_ _|refine blk_drew ?_|refine blk_alloc ?_ _));refine qad (cs:=#[.int .i64 t597,.slice none 0 0]) ?_ 1 _ rfl;(with_reducible repeat(first|refine blk_drewN ?_ _|refine blk_drew ?_|refine blk_alloc ?_ _));refine qad (cs:=#[.int .i64 0,.slice none 0 0]) ?_ 0 _ rfl;(with_reducible repeat(first|refine blk_drewN ?_ _|refine blk_drew ?_|refine blk_alloc ?_ _));exact BK602.out) NB602_0.out (by simp));replace HK:=Aside0.mk (KeepBut.trans (za8 HK GW591 GW602) hk (.inl rfl));replace HB:=Aside0.mk hb;replace HI0:=Aside0.mk hi;(try clear hb);(try clear hk);(try clear hi);obtain⟨hcz78_0,hcz78_1,hfz78_0,hfz78_1⟩:=zC2 BK602;have hnb79:=NB591_0.out;have hnc79:=NB0_591.out;obtain⟨hcz80_0,hcz80_1,hfz80_0,hfz80_1⟩:=zC2 BK591))
    refine bodyPost_ret (results_cell_row rfl _ _ gb591 38 #[.int .i64 t597,.slice Ao76 t598.length co76] (0,0) _ rfl (by(with_reducible repeat(first|refine blk_drewN ?_ _|refine blk_drew ?_|refine blk_alloc ?_ _));refine qad (cs:=#[.int .i64 t597,.slice none 0 0]) ?_ 1 _ rfl;(with_reducible repeat(first|refine blk_drewN ?_ _|refine blk_drew ?_|refine blk_alloc ?_ _));refine qad (cs:=#[.int .i64 0,.slice none 0 0]) ?_ 0 _ rfl;(with_reducible repeat(first|refine blk_drewN ?_ _|refine blk_drew ?_|refine blk_alloc ?_ _));exact BK591.out) Try.underlying38 rfl (by kernel_rfl)) rfl ?_
    exact⟨_,za16,Kd.Q_of_R (by(with_reducible repeat(first|apply Kd.R_alloc|apply Kd.R_drewN|apply Kd.R_drew));exact Kd.R_mono (Kd.R_far (p:=⟨gb591,1,none⟩) (Kd.R_far (p:=⟨gb591,0,none⟩) (Kd.R_types HO600.out BK591.out (by decide)) (fun _ hk=>hk.2) (.int .i64 t597)) (fun _ hk=>hk.2) (.slice Ao76 t598.length co76)) (fun _ hk=>trivial)),zb34_1Stock HI0 NB0_591 NB0_602,zb13_1Stock HB HI0 GE591 GE602,za8 HK GW591 GW602⟩
end Go.Proofs.Ytmbdphefnalenaa.Print
