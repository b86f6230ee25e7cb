-- Written by squeeze.py: not trusted, Lean checks it.
import Derived.Test.YtjccnaklodbbfaaZK
import Derived.Test.YtjccnaklodbbfaaZf0
import Derived.Test.YtjccnaklodbbfaaZf1
import Derived.Test.YtjccnaklodbbfaaZn2
import Derived.Test.YtjccnaklodbbfaaZn4
namespace Go.Proofs.Ytjccnaklodbbfaa.Print
open Go.RowKit Go.Proofs.YtjccnaklodbbfaaW.PrintWords Go.Proofs.YtjccnaklodbbfaaW.PrintLast Go.Proofs.YtjccnaklodbbfaaW.PrintMore
attribute [local go_sem] max2_int min2_int max_two min_two max_three min_three max_four min_four
set_option linter.unusedVariables false
set_option linter.unusedSimpArgs false
def spec_l71Stock.f (k:Nat) (s0_0:List Int) (s0_1:Int):Option (Int × (List (S46)) × Int):=(spec_l71Recs.f k s0_0 s0_1).bind fun bt396=>((spec_StockOf.f k bt396.1 bt396.2.1).bind fun bt401=>((spec_l6Rd_pick.f k s0_0 bt396.2.2 20).bind fun bt407=>(if bt407.1=0 then((some (([(-1),0,10]:List Int):List Int)).bind fun y409=>((spec_l6Rd_pick.f k s0_0 bt407.2 3).bind fun bt412=>(if 0≤bt412.1 then(if bt412.1<(y409.length:Int) then(some (rd y409 bt412.1,bt401.2.1,bt412.2)) else(none)) else(none)))) else(if bt407.1=1 then((spec_l6Rd_pick.f k s0_0 bt407.2 (bt401.2.1.length:Int)).bind fun bt415=>((spec_l6Rd_pick.f k s0_0 bt415.2 5).bind fun bt417=>((spec_l6Rd_pick.f k s0_0 bt417.2 5).bind fun bt419=>(if 0≤bt415.1 then(if bt415.1<(bt401.2.1.length:Int) then(some (bt401.1,(bt401.2.1.set (bt415.1:Int).toNat (⟨bt417.1,bt419.1⟩:S46)),bt419.2)) else(none)) else(none))))) else(if bt407.1=2 then(if 1≤(bt401.2.1.length:Int) then(some (bt401.1,(bt401.2.1.drop (1:Int).toNat),bt407.2)) else(none)) else(some (bt401.1,bt401.2.1,bt407.2)))))))
theorem spec_l71Stock.mono:∀a0 a1 k,LeO (spec_l71Stock.f k a0 a1) (spec_l71Stock.f (k+1) a0 a1):=by
 intro a0 a1 k
 unfold spec_l71Stock.f
 repeat' first
   |(with_reducible exact spec_StockOf.mono _ _ _)
   |(with_reducible exact spec_l6Rd_pick.mono _ _ _ _)
   |(with_reducible exact spec_l71Recs.mono _ _ _)
   |(with_reducible exact LeO.refl _)
   |(with_reducible exact LeO.none _)
   |(with_reducible refine LeO.ite ?_ ?_)
   |(with_reducible refine LeO.bind ?_ (fun _=>?_))
   |exact spec_StockOf.mono _ _ _
   |exact spec_l6Rd_pick.mono _ _ _ _
   |exact spec_l71Recs.mono _ _ _
   |exact LeO.none _
   |refine LeO.ite ?_ ?_
   |refine LeO.bind ?_ (fun _=>?_)
def spec_l71Stock.T7:Bool × List (List Nat × List Nat):=(true,[([],[]),([0],[0]),([],[]),([],[]),([3],[3]),([4],[4]),([2,5],[2,5]),([],[]),([7,6],[7]),([],[]),([9,8],[9]),([8,10],[8,10]),([1,6,0,1,2,3,4,5,6,7,8,9,10,11],[1,6]),([12,11,10,0,1,2,3,4,5,6,7,8,9,10,11],[11,12])])
def spec_l71Stock.B7:List Nat:=[0,1,0,0,8,24,60,0,252,0,1020,2044,4095,8191]
theorem spec_l71Stock.tab7:rtab .any (opsOf Try.f71 7)=spec_l71Stock.T7:=by kernel_rfl
theorem spec_l71Stock.bits7:waitsOk spec_l71Stock.T7.2 spec_l71Stock.B7=true:=by kernel_rfl
set_option maxHeartbeats 8000000 in
set_option maxRecDepth 100000 in
theorem spec_l71Stock.calls (k:Nat) (g:Nat) (s0_0:List Int) (s0_1:Int) (r1:Int) (r2:List (S46)) (r3:Int) (w0 w:World) (hI:IsS122 w0 w g s0_0 s0_1) (hB:Below w0.heap.size w0 w) (h:spec_l71Stock.f k s0_0 s0_1=some (r1,r2,r3)) :
  Calls Try.prog 71 #[.pointer (some ⟨g,0,none⟩)] w fun e w'=>∃v1_:Value,e=.returned (.agg #[.int .i64 r1,v1_])∧Kd.Q k46 46 w' w.heap.size (fun _=>True) v1_ r2∧IsS122 w0 w' g s0_0 r3∧Below w0.heap.size w0 w'∧KeepBut w w' g none:=by
 have hu36:=Try.underlying36
 have hu46:=Try.underlying46
 have HI0:=Aside0.mk hI
 have HK:=Aside0.mk (KeepBut.refl w g none)
 have HL:=Aside0.mk hB.size
 clear hI
 have HW0:=Aside0.mk hB.size
 have HB:=Aside0.mk hB
 clear hB
 have H:((spec_l71Recs.f k s0_0 s0_1).bind fun bt396=>((spec_StockOf.f k bt396.1 bt396.2.1).bind fun bt401=>((spec_l6Rd_pick.f k s0_0 bt396.2.2 20).bind fun bt407=>(if bt407.1=0 then((some (([(-1),0,10]:List Int):List Int)).bind fun y409=>((spec_l6Rd_pick.f k s0_0 bt407.2 3).bind fun bt412=>(if 0≤bt412.1 then(if bt412.1<(y409.length:Int) then(some (rd y409 bt412.1,bt401.2.1,bt412.2)) else(none)) else(none)))) else(if bt407.1=1 then((spec_l6Rd_pick.f k s0_0 bt407.2 (bt401.2.1.length:Int)).bind fun bt415=>((spec_l6Rd_pick.f k s0_0 bt415.2 5).bind fun bt417=>((spec_l6Rd_pick.f k s0_0 bt417.2 5).bind fun bt419=>(if 0≤bt415.1 then(if bt415.1<(bt401.2.1.length:Int) then(some (bt401.1,(bt401.2.1.set (bt415.1:Int).toNat (⟨bt417.1,bt419.1⟩:S46)),bt419.2)) else(none)) else(none))))) else(if bt407.1=2 then(if 1≤(bt401.2.1.length:Int) then(some (bt401.1,(bt401.2.1.drop (1:Int).toNat),bt407.2)) else(none)) else(some (bt401.1,bt401.2.1,bt407.2))))))))=some (r1,r2,r3):=h
 clear h
 replace H:=Option.bind_eq_some_iff.mp H
 obtain⟨⟨t396,t397,t400⟩,A20,H⟩:=H
 replace H:((spec_StockOf.f k t396 t397).bind fun bt401=>((spec_l6Rd_pick.f k s0_0 t400 20).bind fun bt407=>(if bt407.1=0 then((some (([(-1),0,10]:List Int):List Int)).bind fun y409=>((spec_l6Rd_pick.f k s0_0 bt407.2 3).bind fun bt412=>(if 0≤bt412.1 then(if bt412.1<(y409.length:Int) then(some (rd y409 bt412.1,bt401.2.1,bt412.2)) else(none)) else(none)))) else(if bt407.1=1 then((spec_l6Rd_pick.f k s0_0 bt407.2 (bt401.2.1.length:Int)).bind fun bt415=>((spec_l6Rd_pick.f k s0_0 bt415.2 5).bind fun bt417=>((spec_l6Rd_pick.f k s0_0 bt417.2 5).bind fun bt419=>(if 0≤bt415.1 then(if bt415.1<(bt401.2.1.length:Int) then(some (bt401.1,(bt401.2.1.set (bt415.1:Int).toNat (⟨bt417.1,bt419.1⟩:S46)),bt419.2)) else(none)) else(none))))) else(if bt407.1=2 then(if 1≤(bt401.2.1.length:Int) then(some (bt401.1,(bt401.2.1.drop (1:Int).toNat),bt407.2)) else(none)) else(some (bt401.1,bt401.2.1,bt407.2)))))))=some (r1,r2,r3):=H
 have A2:=Aside0.mk A20
 clear A20
 replace H:=Option.bind_eq_some_iff.mp H
 obtain⟨⟨t401,t402,t405⟩,A30,H⟩:=H
 replace H:((spec_l6Rd_pick.f k s0_0 t400 20).bind fun bt407=>(if bt407.1=0 then((some (([(-1),0,10]:List Int):List Int)).bind fun y409=>((spec_l6Rd_pick.f k s0_0 bt407.2 3).bind fun bt412=>(if 0≤bt412.1 then(if bt412.1<(y409.length:Int) then(some (rd y409 bt412.1,t402,bt412.2)) else(none)) else(none)))) else(if bt407.1=1 then((spec_l6Rd_pick.f k s0_0 bt407.2 (t402.length:Int)).bind fun bt415=>((spec_l6Rd_pick.f k s0_0 bt415.2 5).bind fun bt417=>((spec_l6Rd_pick.f k s0_0 bt417.2 5).bind fun bt419=>(if 0≤bt415.1 then(if bt415.1<(t402.length:Int) then(some (t401,(t402.set (bt415.1:Int).toNat (⟨bt417.1,bt419.1⟩:S46)),bt419.2)) else(none)) else(none))))) else(if bt407.1=2 then(if 1≤(t402.length:Int) then(some (t401,(t402.drop (1:Int).toNat),bt407.2)) else(none)) else(some (t401,t402,bt407.2))))))=some (r1,r2,r3):=H
 have A3:=Aside0.mk A30
 clear A30
 replace H:=Option.bind_eq_some_iff.mp H
 obtain⟨⟨t407,t408⟩,A40,H⟩:=H
 replace H:(if t407=0 then((some (([(-1),0,10]:List Int):List Int)).bind fun y409=>((spec_l6Rd_pick.f k s0_0 t408 3).bind fun bt412=>(if 0≤bt412.1 then(if bt412.1<(y409.length:Int) then(some (rd y409 bt412.1,t402,bt412.2)) else(none)) else(none)))) else(if t407=1 then((spec_l6Rd_pick.f k s0_0 t408 (t402.length:Int)).bind fun bt415=>((spec_l6Rd_pick.f k s0_0 bt415.2 5).bind fun bt417=>((spec_l6Rd_pick.f k s0_0 bt417.2 5).bind fun bt419=>(if 0≤bt415.1 then(if bt415.1<(t402.length:Int) then(some (t401,(t402.set (bt415.1:Int).toNat (⟨bt417.1,bt419.1⟩:S46)),bt419.2)) else(none)) else(none))))) else(if t407=2 then(if 1≤(t402.length:Int) then(some (t401,(t402.drop (1:Int).toNat),t408)) else(none)) else(some (t401,t402,t408)))))=some (r1,r2,r3):=H
 have A4:=Aside0.mk A40
 clear A40
 by_cases c5:t407=0
 ·rw[if_pos c5] at H
  have c5b0:(t407 == 0)=true:=beq_iff_eq.mpr c5
  have c5b1:(t407 != 0)=false:=bne_eq_false_iff_eq.mpr c5
  clear c5
  obtain⟨y409,hy409⟩:∃y_:List Int,y_=(([(-1),0,10]:List Int)):=⟨_,rfl⟩
  replace H:((spec_l6Rd_pick.f k s0_0 t408 3).bind fun bt412=>(if 0≤bt412.1 then(if bt412.1<(y409.length:Int) then(some (rd y409 bt412.1,t402,bt412.2)) else(none)) else(none)))=some (r1,r2,r3):=by first|(rw[hy409];with_reducible exact H)|(have H2_:=(Option.bind_some _ _).symm.trans H;rw[hy409];with_reducible exact H2_)|(have H2_:=(Option.bind_some _ _).symm.trans H;with_reducible exact H2_)|with_reducible exact H|(rw[hy409];exact H)|exact H
  have Ny409:=Aside0.mk hy409
  clear hy409
  replace H:=Option.bind_eq_some_iff.mp H
  obtain⟨⟨t412,t413⟩,A60,H⟩:=H
  replace H:(if 0≤t412 then(if t412<(y409.length:Int) then(some (rd y409 t412,t402,t413)) else(none)) else(none))=some (r1,r2,r3):=H
  have A6:=Aside0.mk A60
  clear A60
  by_cases c7:0≤t412
  ·rw[if_pos c7] at H
   have c7b0:decide (0≤t412)=true:=decide_eq_true c7
   clear c7
   by_cases c8:t412<(y409.length:Int)
   ·rw[if_pos c8] at H
    have c8b0:decide (t412<(y409.length:Int))=true:=decide_eq_true c8
    clear c8
    simp only[Option.some.injEq,Prod.mk.injEq] at H
    obtain⟨rfl,rfl,rfl⟩:=H
    go_enter Try.func71,Try.ntmps71
    go_wp2_with(first|((with_reducible refine qah (N:=2) rfl ?_);refine zX (N:=2) (cs:=#[.int .i64 0,.slice none 0 0]) (t:=36) ?_;intro gb395 hg w9 hbox hb;replace HB:=Aside0.mk (qab (by repeat(first|(with_reducible first|exact HB.out|apply qag|apply qad|apply qae|refine qac ?_ (IsS122.ge HI0.out))|exact HB.out)) hb);have BK395:=Aside0.mk hbox;have GW395:=Aside0.mk ((by rw[hg];exact(qao (w:=w) (g:=g) (row:=none) (za10 HK)):w.heap.size≤gb395));have GE395:=Aside0.mk ((Nat.le_trans HW0.out (by rw[hg];exact(qao (w:=w) (g:=g) (row:=none) (za10 HK)):w.heap.size≤gb395):w0.heap.size≤gb395));replace HK:=Aside0.mk (KeepBut.trans (za10 HK) (KeepBut.of_below hb g none) (.inl rfl));have NB0_395:=Aside0.mk ((by rw[hg];exact Nat.ne_of_lt (IsS122.lt (show IsS122 w0 _ g s0_0 s0_1 from by repeat(first|(with_reducible first|exact HI0.out|apply IsS122.alloc|apply IsS122.drewN|apply IsS122.drew|apply IsS122.set_1)|exact HI0.out))):g≠gb395));have NB395_0:=Aside0.mk ((by rw[hg];exact Nat.ne_of_gt (IsS122.lt (show IsS122 w0 _ g s0_0 s0_1 from by repeat(first|(with_reducible first|exact HI0.out|apply IsS122.alloc|apply IsS122.drewN|apply IsS122.drew|apply IsS122.set_1)|exact HI0.out))):gb395≠g));replace HI0:=Aside0.mk (IsS122.below (by repeat(first|(with_reducible first|exact HI0.out|apply IsS122.alloc|apply IsS122.drewN|apply IsS122.drew|apply IsS122.set_1)|exact HI0.out)) hb);clear hb hbox hg)|((with_reducible refine qaf (f:=106) rfl ?_);refine zF (some 9) Try.func106 #[.pointer (some ⟨g,0,none⟩)] ?_;(with_reducible refine(spec_l71Recs.calls k g s0_0 s0_1 t396 t397 t400 w0 _ ?side1 ?side2 A2.out).mono ?_);(case side1=>repeat(first|(with_reducible first|exact HI0.out|apply IsS122.alloc|apply IsS122.drewN|apply IsS122.drew|apply IsS122.set_1|refine IsS122.far ?_ NB0_395.out _)|exact HI0.out));(case side2=>exact(by repeat(first|(with_reducible first|exact HB.out|apply qag|apply qad|apply qae|refine qac ?_ (IsS122.ge HI0.out)|refine qac ?_ GE395.out)|exact HB.out)));rintro e w10 ⟨v398,rfl,ho0,hi,hb,hk⟩;refine⟨_,rfl,?_⟩;replace BK395:=Aside0.mk (KeepBut.blk hk (zB BK395) NB395_0.out (by simp));have HO399:=Aside0.mk (Kd.S_lower ho0 (qao (w:=w) (g:=g) (row:=none) (za13 HK GW395)));replace HK:=Aside0.mk (KeepBut.trans (za13 HK GW395) hk (.inl rfl));replace HB:=Aside0.mk hb;replace HI0:=Aside0.mk hi;(try clear hb);(try clear hk);(try clear hi);(try clear ho0);obtain⟨Ao11,co11,eo11⟩:=Kd.S_slice HO399.out;subst eo11)|((with_reducible refine qaf (f:=107) rfl ?_);refine zF (some 15) Try.func107 #[.int .i64 t396,.slice Ao11 t397.length co11] ?_;(with_reducible refine(spec_StockOf.calls k t396 _ _ t397 t401 t402 t405 _ ?side1 ?side2 A3.out).mono ?_);(case side1=>repeat(first|exact(Kd.S_reads' HO399.out).2.2|(with_reducible refine Kd.C_alloc ?_ _)|(with_reducible refine Kd.C_drewN ?_ _)|(with_reducible refine Kd.C_drew ?_)));(case side2=>exact(Kd.S_reads' HO399.out).2.1);rintro e w12 ⟨v403,rfl,ho0,hb⟩;refine⟨_,rfl,?_⟩;replace HO399:=Aside0.mk (Kd.S_below (za8 HO399) hb);have HO404:=Aside0.mk (Kd.R_lower ho0 (qao (w:=w) (g:=g) (row:=none) (za13 HK GW395)));replace BK395:=Aside0.mk (qaa (zB BK395) hb);replace HK:=Aside0.mk (KeepBut.trans (za13 HK GW395) (KeepBut.of_below hb g none) (.inl rfl));replace HB:=Aside0.mk (qab (by repeat(first|(with_reducible first|exact HB.out|apply qag|apply qad|apply qae|refine qac ?_ (IsS122.ge HI0.out)|refine qac ?_ GE395.out)|exact HB.out)) hb);replace HI0:=Aside0.mk (IsS122.below (by repeat(first|(with_reducible first|exact HI0.out|apply IsS122.alloc|apply IsS122.drewN|apply IsS122.drew|apply IsS122.set_1|refine IsS122.far ?_ NB0_395.out _)|exact HI0.out)) hb);(try clear hb);(try clear ho0))|((with_reducible refine qah (N:=5) rfl ?_);refine zX (N:=5) (cs:=#[.int .i64 0,.slice none 0 0]) (t:=36) ?_;intro gb406 hg w13 hbox hb;replace HO399:=Aside0.mk (Kd.S_below (za8 HO399) hb);replace HO404:=Aside0.mk (Kd.R_below (za3 HO404) hb);replace HB:=Aside0.mk (qab (by repeat(first|(with_reducible first|exact HB.out|apply qag|apply qad|apply qae|refine qac ?_ (IsS122.ge HI0.out)|refine qac ?_ GE395.out)|exact HB.out)) hb);have BK406:=Aside0.mk hbox;have GW406:=Aside0.mk ((by rw[hg];exact(qao (w:=w) (g:=g) (row:=none) (za13 HK GW395)):w.heap.size≤gb406));have GE406:=Aside0.mk ((Nat.le_trans HW0.out (by rw[hg];exact(qao (w:=w) (g:=g) (row:=none) (za13 HK GW395)):w.heap.size≤gb406):w0.heap.size≤gb406));replace HK:=Aside0.mk (KeepBut.trans (za13 HK GW395) (KeepBut.of_below hb g none) (.inl rfl));have NB395_406:=zL BK395 hg;have NB406_395:=zG BK395 hg;replace BK395:=Aside0.mk (qaa (zB BK395) hb);have NB0_406:=Aside0.mk ((by rw[hg];exact Nat.ne_of_lt (IsS122.lt (show IsS122 w0 _ g s0_0 t400 from by repeat(first|(with_reducible first|exact HI0.out|apply IsS122.alloc|apply IsS122.drewN|apply IsS122.drew|apply IsS122.set_1|refine IsS122.far ?_ NB0_395.out _)|exact HI0.out))):g≠gb406));have NB406_0:=Aside0.mk ((by rw[hg];exact Nat.ne_of_gt (IsS122.lt (show IsS122 w0 _ g s0_0 t400 from by repeat(first|(with_reducible first|exact HI0.out|apply IsS122.alloc|apply IsS122.drewN|apply IsS122.drew|apply IsS122.set_1|refine IsS122.far ?_ NB0_395.out _)|exact HI0.out))):gb406≠g));replace HI0:=Aside0.mk (IsS122.below (by repeat(first|(with_reducible first|exact HI0.out|apply IsS122.alloc|apply IsS122.drewN|apply IsS122.drew|apply IsS122.set_1|refine IsS122.far ?_ NB0_395.out _)|exact HI0.out)) hb);clear hb hbox hg;have hnb14:=NB406_395.out;have hnc14:=NB395_406.out;have hnb15:=NB406_0.out;have hnc15:=NB0_406.out;obtain⟨hcz16_0,hcz16_1,hfz16_0,hfz16_1⟩:=zC2 BK406;obtain⟨Ao17,co17,eo17⟩:=Kd.R_slice HO404.out;subst eo17)|((with_reducible refine qaf (f:=65) rfl ?_);refine zF (some 19) Try.func65 #[.pointer (some ⟨g,0,none⟩),.int .i64 20] ?_;(with_reducible refine(spec_l6Rd_pick.calls k g s0_0 t400 20 t407 t408 w0 _ ?side1 ?side2 A4.out).mono ?_);(case side1=>repeat(first|(with_reducible first|exact HI0.out|apply IsS122.alloc|apply IsS122.drewN|apply IsS122.drew|apply IsS122.set_1|refine IsS122.far ?_ NB0_395.out _|refine IsS122.far ?_ NB0_406.out _)|exact HI0.out));(case side2=>exact(by repeat(first|(with_reducible first|exact HB.out|apply qag|apply qad|apply qae|refine qac ?_ (IsS122.ge HI0.out)|refine qac ?_ GE395.out|refine qac ?_ GE406.out)|exact HB.out)));rintro e w18 ⟨rfl,hi,hb,hk⟩;refine⟨_,rfl,?_⟩;replace BK395:=Aside0.mk (KeepBut.blk hk (g':=gb395) (o:=.cells #[.int .i64 0,.slice none 0 0] 36 (0,0)) (za4 NB395_406 BK395) NB395_0.out (by simp));replace HO399:=Aside0.mk (Kd.S_mono (Kd.S_keep (IsS122.apartS (show IsS122 w0 _ g s0_0 t400 from by repeat(first|(with_reducible first|exact HI0.out|apply IsS122.alloc|apply IsS122.drewN|apply IsS122.drew|apply IsS122.set_1|refine IsS122.far ?_ NB0_395.out _|refine IsS122.far ?_ NB0_406.out _)|exact HI0.out)) (by(with_reducible repeat(first|apply Kd.S_alloc|apply Kd.S_drewN|apply Kd.S_drew));exact(Kd.S_mono (Kd.S_far (p:=⟨gb406,1,none⟩) (Kd.S_far (p:=⟨gb406,0,none⟩) (Kd.S_types HO399.out BK406.out (by decide)) (fun _ hk=>hk.2) (.int .i64 t401)) (fun _ hk=>hk.2) (.slice Ao17 t402.length co17)) (fun _ h_=>h_.1))) (by decide)) hk (fun _ h=>h.2)) (fun _ h=>h.1));replace HO404:=Aside0.mk (Kd.R_mono (Kd.R_keep (IsS122.apart (show IsS122 w0 _ g s0_0 t400 from by repeat(first|(with_reducible first|exact HI0.out|apply IsS122.alloc|apply IsS122.drewN|apply IsS122.drew|apply IsS122.set_1|refine IsS122.far ?_ NB0_395.out _|refine IsS122.far ?_ NB0_406.out _)|exact HI0.out)) (by(with_reducible repeat(first|apply Kd.R_alloc|apply Kd.R_drewN|apply Kd.R_drew));exact(Kd.R_mono (Kd.R_far (p:=⟨gb406,1,none⟩) (Kd.R_far (p:=⟨gb406,0,none⟩) (Kd.R_types HO404.out BK406.out (by decide)) (fun _ hk=>hk.2) (.int .i64 t401)) (fun _ hk=>hk.2) (.slice Ao17 t402.length co17)) (fun _ h_=>h_.1))) (by decide)) hk (fun _ h=>h.2)) (fun _ h=>h.1));replace BK406:=Aside0.mk (KeepBut.blk hk (g':=gb406) (o:=.cells #[.int .i64 t401,.slice Ao17 t402.length co17] 36 (0,0)) (by(with_reducible repeat(first|refine blk_drewN ?_ _|refine blk_drew ?_|refine blk_alloc ?_ _));refine qai (cs:=#[.int .i64 t401,.slice none 0 0]) ?_ 1 _ rfl;(with_reducible repeat(first|refine blk_drewN ?_ _|refine blk_drew ?_|refine blk_alloc ?_ _));refine qai (cs:=#[.int .i64 0,.slice none 0 0]) ?_ 0 _ rfl;(with_reducible repeat(first|refine blk_drewN ?_ _|refine blk_drew ?_|refine blk_alloc ?_ _));exact BK406.out) NB406_0.out (by simp));replace HK:=Aside0.mk (KeepBut.trans (za14 HK GW395 GW406) hk (.inl rfl));replace HB:=Aside0.mk hb;replace HI0:=Aside0.mk hi;(try clear hb);(try clear hk);(try clear hi))|((with_reducible refine qah (N:=22) rfl ?_);refine Kd.R_lit (Kd.int .i64) _ 3 (by rfl) (N:=22) (by rfl) (xs:=([(-1),0,10]:List Int)) (inner:=[.int .i64 (-1),.int .i64 0,.int .i64 10]) (ok:=fun _=>True) (okp:=fun _=>True) (by first|(go_simp;done)|(go_simp;rfl)) ?hp (fun _ hk=>hk) trivial (Below.refl _ _) (Nat.le_refl _) (by simp) ?_;(case hp=>exact(Reps.one (show Kd.M (Kd.int .i64) _ _ _ (-1) [.int .i64 (-1)] from rfl) (Reps.one (show Kd.M (Kd.int .i64) _ _ _ 0 [.int .i64 0] from rfl) (Reps.one (show Kd.M (Kd.int .i64) _ _ _ 10 [.int .i64 10] from rfl) (Reps.none _ _)))));intro v410 w19 ho20 hb hg_ hnew_;clear hg_ hnew_;(first|rw[←Ny409.out] at ho20|(simp only[Int.reduceToNat] at ho20;rw[←Ny409.out] at ho20));replace HO399:=Aside0.mk (Kd.S_elder' (za8 HO399) (Kd.R_base ho20) hb);replace HO404:=Aside0.mk (Kd.R_below (za3 HO404) hb);have HO411:=Aside0.mk (Kd.R_lower ho20 (qao (w:=w) (g:=g) (row:=none) (za14 HK GW395 GW406)));replace BK395:=Aside0.mk (qaa (zB BK395) hb);replace BK406:=Aside0.mk (qaa (zB BK406) hb);replace HK:=Aside0.mk (KeepBut.trans (za14 HK GW395 GW406) (KeepBut.of_below hb g none) (.inl rfl));replace HB:=Aside0.mk (qab (by repeat(first|(with_reducible first|exact HB.out|apply qag|apply qad|apply qae|refine qac ?_ (IsS122.ge HI0.out)|refine qac ?_ GE395.out|refine qac ?_ GE406.out)|exact HB.out)) hb);replace HI0:=Aside0.mk (IsS122.below (by repeat(first|(with_reducible first|exact HI0.out|apply IsS122.alloc|apply IsS122.drewN|apply IsS122.drew|apply IsS122.set_1|refine IsS122.far ?_ NB0_395.out _|refine IsS122.far ?_ NB0_406.out _)|exact HI0.out)) hb);clear hb ho20)|((with_reducible refine qaf (f:=65) rfl ?_);refine zF (some 24) Try.func65 #[.pointer (some ⟨g,0,none⟩),.int .i64 3] ?_;(with_reducible refine(spec_l6Rd_pick.calls k g s0_0 t408 3 t412 t413 w0 _ ?side1 ?side2 A6.out).mono ?_);(case side1=>repeat(first|(with_reducible first|exact HI0.out|apply IsS122.alloc|apply IsS122.drewN|apply IsS122.drew|apply IsS122.set_1|refine IsS122.far ?_ NB0_395.out _|refine IsS122.far ?_ NB0_406.out _)|exact HI0.out));(case side2=>exact(by repeat(first|(with_reducible first|exact HB.out|apply qag|apply qad|apply qae|refine qac ?_ (IsS122.ge HI0.out)|refine qac ?_ GE395.out|refine qac ?_ GE406.out)|exact HB.out)));rintro e w21 ⟨rfl,hi,hb,hk⟩;refine⟨_,rfl,?_⟩;replace BK395:=Aside0.mk (KeepBut.blk hk (zB BK395) NB395_0.out (by simp));replace HO399:=Aside0.mk (Kd.S_mono (Kd.S_keep (IsS122.apartS (show IsS122 w0 _ g s0_0 t408 from by repeat(first|(with_reducible first|exact HI0.out|apply IsS122.alloc|apply IsS122.drewN|apply IsS122.drew|apply IsS122.set_1|refine IsS122.far ?_ NB0_395.out _|refine IsS122.far ?_ NB0_406.out _)|exact HI0.out)) (za8 HO399) (by decide)) hk (fun _ h=>h.2)) (fun _ h=>h.1));replace HO404:=Aside0.mk (Kd.R_mono (Kd.R_keep (IsS122.apart (show IsS122 w0 _ g s0_0 t408 from by repeat(first|(with_reducible first|exact HI0.out|apply IsS122.alloc|apply IsS122.drewN|apply IsS122.drew|apply IsS122.set_1|refine IsS122.far ?_ NB0_395.out _|refine IsS122.far ?_ NB0_406.out _)|exact HI0.out)) (za3 HO404) (by decide)) hk (fun _ h=>h.2)) (fun _ h=>h.1));replace BK406:=Aside0.mk (KeepBut.blk hk (zB BK406) NB406_0.out (by simp));replace HO411:=Aside0.mk (Kd.R_mono (Kd.R_keep (IsS122.apart (show IsS122 w0 _ g s0_0 t408 from by repeat(first|(with_reducible first|exact HI0.out|apply IsS122.alloc|apply IsS122.drewN|apply IsS122.drew|apply IsS122.set_1|refine IsS122.far ?_ NB0_395.out _|refine IsS122.far ?_ NB0_406.out _)|exact HI0.out)) (za3 HO411) (by decide)) hk (fun _ h=>h.2)) (fun _ h=>h.1));replace HK:=Aside0.mk (KeepBut.trans (za14 HK GW395 GW406) hk (.inl rfl));replace HB:=Aside0.mk hb;replace HI0:=Aside0.mk hi;(try clear hb);(try clear hk);(try clear hi);obtain⟨Ao22,co22,eo22⟩:=Kd.R_slice HO411.out;subst eo22;have p414:0≤(t412:Int):=of_decide_eq_true (za5);have q414:t412<(y409.length:Int):=of_decide_eq_true (za5);obtain⟨ad414,e414,hx414_0⟩:=Kd.at_int (Kd.R_reads' HO411.out).2.2 t412 p414 q414;cases e414;replace p414:=eq_true p414;replace q414:=eq_true q414;obtain⟨hcz23_0,hcz23_1,hfz23_0,hfz23_1⟩:=zC2 BK406;have hnb24:=NB395_0.out;have hnc24:=NB0_395.out;obtain⟨hcz25_0,hcz25_1,hfz25_0,hfz25_1⟩:=zC2 BK395))
    refine bodyPost_ret (results_cell_row rfl _ _ gb395 36 #[.int .i64 (rd y409 t412),.slice Ao17 t402.length co17] (0,0) _ rfl (by(with_reducible repeat(first|refine blk_drewN ?_ _|refine blk_drew ?_|refine blk_alloc ?_ _));refine qai (cs:=#[.int .i64 (rd y409 t412),.slice none 0 0]) ?_ 1 _ rfl;(with_reducible repeat(first|refine blk_drewN ?_ _|refine blk_drew ?_|refine blk_alloc ?_ _));refine qai (cs:=#[.int .i64 0,.slice none 0 0]) ?_ 0 _ rfl;(with_reducible repeat(first|refine blk_drewN ?_ _|refine blk_drew ?_|refine blk_alloc ?_ _));refine blk_far ?_ NB395_406.out _;(with_reducible repeat(first|refine blk_drewN ?_ _|refine blk_drew ?_|refine blk_alloc ?_ _));exact BK395.out) Try.underlying36 rfl (by kernel_rfl)) rfl ?_
    exact⟨_,za9,Kd.Q_of_R (by(with_reducible repeat(first|apply Kd.R_alloc|apply Kd.R_drewN|apply Kd.R_drew));exact Kd.R_mono (Kd.R_far (p:=⟨gb395,1,none⟩) (Kd.R_far (p:=⟨gb395,0,none⟩) (Kd.R_far (p:=⟨gb406,0,none⟩) (Kd.R_types (Kd.R_types HO404.out BK406.out (by decide)) BK395.out (by decide)) (fun _ hk=>hk.1.2) (.int .i64 (rd y409 t412))) (fun _ hk=>hk.2) (.int .i64 (rd y409 t412))) (fun _ hk=>hk.2) (.slice Ao17 t402.length co17)) (fun _ hk=>trivial)),by repeat(first|(with_reducible first|exact HI0.out|apply IsS122.alloc|apply IsS122.drewN|apply IsS122.drew|apply IsS122.set_1|refine IsS122.far ?_ NB0_395.out _|refine IsS122.far ?_ NB0_406.out _)|exact HI0.out),by repeat(first|(with_reducible first|exact HB.out|apply qag|apply qad|apply qae|refine qac ?_ (IsS122.ge HI0.out)|refine qac ?_ GE395.out|refine qac ?_ GE406.out)|exact HB.out),za14 HK GW395 GW406⟩
   ·rw[if_neg c8] at H
    exact absurd H (by simp)
  ·rw[if_neg c7] at H
   exact absurd H (by simp)
 ·rw[if_neg c5] at H
  have c5b0:(t407 == 0)=false:=beq_eq_false_iff_ne.mpr c5
  have c5b1:(t407 != 0)=true:=bne_iff_ne.mpr c5
  by_cases c26:t407=1
  ·rw[if_pos c26] at H
   have c26b0:(t407 == 1)=true:=beq_iff_eq.mpr c26
   have c26b1:(t407 != 1)=false:=bne_eq_false_iff_eq.mpr c26
   clear c26
   replace H:=Option.bind_eq_some_iff.mp H
   obtain⟨⟨t415,t416⟩,A270,H⟩:=H
   replace H:((spec_l6Rd_pick.f k s0_0 t416 5).bind fun bt417=>((spec_l6Rd_pick.f k s0_0 bt417.2 5).bind fun bt419=>(if 0≤t415 then(if t415<(t402.length:Int) then(some (t401,(t402.set (t415:Int).toNat (⟨bt417.1,bt419.1⟩:S46)),bt419.2)) else(none)) else(none))))=some (r1,r2,r3):=H
   have A27:=Aside0.mk A270
   clear A270
   replace H:=Option.bind_eq_some_iff.mp H
   obtain⟨⟨t417,t418⟩,A280,H⟩:=H
   replace H:((spec_l6Rd_pick.f k s0_0 t418 5).bind fun bt419=>(if 0≤t415 then(if t415<(t402.length:Int) then(some (t401,(t402.set (t415:Int).toNat (⟨t417,bt419.1⟩:S46)),bt419.2)) else(none)) else(none)))=some (r1,r2,r3):=H
   have A28:=Aside0.mk A280
   clear A280
   replace H:=Option.bind_eq_some_iff.mp H
   obtain⟨⟨t419,t420⟩,A290,H⟩:=H
   replace H:(if 0≤t415 then(if t415<(t402.length:Int) then(some (t401,(t402.set (t415:Int).toNat (⟨t417,t419⟩:S46)),t420)) else(none)) else(none))=some (r1,r2,r3):=H
   have A29:=Aside0.mk A290
   clear A290
   by_cases c30:0≤t415
   ·rw[if_pos c30] at H
    have c30b0:decide (0≤t415)=true:=decide_eq_true c30
    clear c30
    by_cases c31:t415<(t402.length:Int)
    ·rw[if_pos c31] at H
     have c31b0:decide (t415<(t402.length:Int))=true:=decide_eq_true c31
     clear c31
     obtain⟨y421,hy421⟩:∃y_:List (S46),y_=(t402.set (t415:Int).toNat (⟨t417,t419⟩:S46)):=⟨_,rfl⟩
     replace H:(some (t401,y421,t420))=some (r1,r2,r3):=by first|(rw[hy421];with_reducible exact H)|(have H2_:=(Option.bind_some _ _).symm.trans H;rw[hy421];with_reducible exact H2_)|(have H2_:=(Option.bind_some _ _).symm.trans H;with_reducible exact H2_)|with_reducible exact H|(rw[hy421];exact H)|exact H
     have Ny421:=Aside0.mk hy421
     clear hy421
     simp only[Option.some.injEq,Prod.mk.injEq] at H
     obtain⟨rfl,rfl,rfl⟩:=H
     go_enter Try.func71,Try.ntmps71
     try go_wp2_with(first|((with_reducible refine qah (N:=2) rfl ?_);refine zX (N:=2) (cs:=#[.int .i64 0,.slice none 0 0]) (t:=36) ?_;intro gb395 hg w33 hbox hb;replace HB:=Aside0.mk (qab (by repeat(first|(with_reducible first|exact HB.out|apply qag|apply qad|apply qae|refine qac ?_ (IsS122.ge HI0.out))|exact HB.out)) hb);have BK395:=Aside0.mk hbox;have GW395:=Aside0.mk ((by rw[hg];exact(qao (w:=w) (g:=g) (row:=none) (za10 HK)):w.heap.size≤gb395));have GE395:=Aside0.mk ((Nat.le_trans HW0.out (by rw[hg];exact(qao (w:=w) (g:=g) (row:=none) (za10 HK)):w.heap.size≤gb395):w0.heap.size≤gb395));replace HK:=Aside0.mk (KeepBut.trans (za10 HK) (KeepBut.of_below hb g none) (.inl rfl));have NB0_395:=Aside0.mk ((by rw[hg];exact Nat.ne_of_lt (IsS122.lt (show IsS122 w0 _ g s0_0 s0_1 from by repeat(first|(with_reducible first|exact HI0.out|apply IsS122.alloc|apply IsS122.drewN|apply IsS122.drew|apply IsS122.set_1)|exact HI0.out))):g≠gb395));have NB395_0:=Aside0.mk ((by rw[hg];exact Nat.ne_of_gt (IsS122.lt (show IsS122 w0 _ g s0_0 s0_1 from by repeat(first|(with_reducible first|exact HI0.out|apply IsS122.alloc|apply IsS122.drewN|apply IsS122.drew|apply IsS122.set_1)|exact HI0.out))):gb395≠g));replace HI0:=Aside0.mk (IsS122.below (by repeat(first|(with_reducible first|exact HI0.out|apply IsS122.alloc|apply IsS122.drewN|apply IsS122.drew|apply IsS122.set_1)|exact HI0.out)) hb);clear hb hbox hg)|((with_reducible refine qaf (f:=106) rfl ?_);refine zF (some 9) Try.func106 #[.pointer (some ⟨g,0,none⟩)] ?_;(with_reducible refine(spec_l71Recs.calls k g s0_0 s0_1 t396 t397 t400 w0 _ ?side1 ?side2 A2.out).mono ?_);(case side1=>repeat(first|(with_reducible first|exact HI0.out|apply IsS122.alloc|apply IsS122.drewN|apply IsS122.drew|apply IsS122.set_1|refine IsS122.far ?_ NB0_395.out _)|exact HI0.out));(case side2=>exact(by repeat(first|(with_reducible first|exact HB.out|apply qag|apply qad|apply qae|refine qac ?_ (IsS122.ge HI0.out)|refine qac ?_ GE395.out)|exact HB.out)));rintro e w34 ⟨v398,rfl,ho0,hi,hb,hk⟩;refine⟨_,rfl,?_⟩;replace BK395:=Aside0.mk (KeepBut.blk hk (zB BK395) NB395_0.out (by simp));have HO399:=Aside0.mk (Kd.S_lower ho0 (qao (w:=w) (g:=g) (row:=none) (za13 HK GW395)));replace HK:=Aside0.mk (KeepBut.trans (za13 HK GW395) hk (.inl rfl));replace HB:=Aside0.mk hb;replace HI0:=Aside0.mk hi;(try clear hb);(try clear hk);(try clear hi);(try clear ho0);obtain⟨Ao35,co35,eo35⟩:=Kd.S_slice HO399.out;subst eo35)|((with_reducible refine qaf (f:=107) rfl ?_);refine zF (some 15) Try.func107 #[.int .i64 t396,.slice Ao35 t397.length co35] ?_;(with_reducible refine(spec_StockOf.calls k t396 _ _ t397 t401 t402 t405 _ ?side1 ?side2 A3.out).mono ?_);(case side1=>repeat(first|exact(Kd.S_reads' HO399.out).2.2|(with_reducible refine Kd.C_alloc ?_ _)|(with_reducible refine Kd.C_drewN ?_ _)|(with_reducible refine Kd.C_drew ?_)));(case side2=>exact(Kd.S_reads' HO399.out).2.1);rintro e w36 ⟨v403,rfl,ho0,hb⟩;refine⟨_,rfl,?_⟩;replace HO399:=Aside0.mk (Kd.S_below (za8 HO399) hb);have HO404:=Aside0.mk (Kd.R_lower ho0 (qao (w:=w) (g:=g) (row:=none) (za13 HK GW395)));replace BK395:=Aside0.mk (qaa (zB BK395) hb);replace HK:=Aside0.mk (KeepBut.trans (za13 HK GW395) (KeepBut.of_below hb g none) (.inl rfl));replace HB:=Aside0.mk (qab (by repeat(first|(with_reducible first|exact HB.out|apply qag|apply qad|apply qae|refine qac ?_ (IsS122.ge HI0.out)|refine qac ?_ GE395.out)|exact HB.out)) hb);replace HI0:=Aside0.mk (IsS122.below (by repeat(first|(with_reducible first|exact HI0.out|apply IsS122.alloc|apply IsS122.drewN|apply IsS122.drew|apply IsS122.set_1|refine IsS122.far ?_ NB0_395.out _)|exact HI0.out)) hb);(try clear hb);(try clear ho0))|((with_reducible refine qah (N:=5) rfl ?_);refine zX (N:=5) (cs:=#[.int .i64 0,.slice none 0 0]) (t:=36) ?_;intro gb406 hg w37 hbox hb;replace HO399:=Aside0.mk (Kd.S_below (za8 HO399) hb);replace HO404:=Aside0.mk (Kd.R_below (za3 HO404) hb);replace HB:=Aside0.mk (qab (by repeat(first|(with_reducible first|exact HB.out|apply qag|apply qad|apply qae|refine qac ?_ (IsS122.ge HI0.out)|refine qac ?_ GE395.out)|exact HB.out)) hb);have BK406:=Aside0.mk hbox;have GW406:=Aside0.mk ((by rw[hg];exact(qao (w:=w) (g:=g) (row:=none) (za13 HK GW395)):w.heap.size≤gb406));have GE406:=Aside0.mk ((Nat.le_trans HW0.out (by rw[hg];exact(qao (w:=w) (g:=g) (row:=none) (za13 HK GW395)):w.heap.size≤gb406):w0.heap.size≤gb406));replace HK:=Aside0.mk (KeepBut.trans (za13 HK GW395) (KeepBut.of_below hb g none) (.inl rfl));have NB395_406:=zL BK395 hg;have NB406_395:=zG BK395 hg;replace BK395:=Aside0.mk (qaa (zB BK395) hb);have NB0_406:=Aside0.mk ((by rw[hg];exact Nat.ne_of_lt (IsS122.lt (show IsS122 w0 _ g s0_0 t400 from by repeat(first|(with_reducible first|exact HI0.out|apply IsS122.alloc|apply IsS122.drewN|apply IsS122.drew|apply IsS122.set_1|refine IsS122.far ?_ NB0_395.out _)|exact HI0.out))):g≠gb406));have NB406_0:=Aside0.mk ((by rw[hg];exact Nat.ne_of_gt (IsS122.lt (show IsS122 w0 _ g s0_0 t400 from by repeat(first|(with_reducible first|exact HI0.out|apply IsS122.alloc|apply IsS122.drewN|apply IsS122.drew|apply IsS122.set_1|refine IsS122.far ?_ NB0_395.out _)|exact HI0.out))):gb406≠g));replace HI0:=Aside0.mk (IsS122.below (by repeat(first|(with_reducible first|exact HI0.out|apply IsS122.alloc|apply IsS122.drewN|apply IsS122.drew|apply IsS122.set_1|refine IsS122.far ?_ NB0_395.out _)|exact HI0.out)) hb);clear hb hbox hg;have hnb38:=NB406_395.out;have hnc38:=NB395_406.out;have hnb39:=NB406_0.out;have hnc39:=NB0_406.out;obtain⟨hcz40_0,hcz40_1,hfz40_0,hfz40_1⟩:=zC2 BK406;obtain⟨Ao41,co41,eo41⟩:=Kd.R_slice HO404.out;subst eo41)|((with_reducible refine qaf (f:=65) rfl ?_);refine zF (some 19) Try.func65 #[.pointer (some ⟨g,0,none⟩),.int .i64 20] ?_;(with_reducible refine(spec_l6Rd_pick.calls k g s0_0 t400 20 t407 t408 w0 _ ?side1 ?side2 A4.out).mono ?_);(case side1=>repeat(first|(with_reducible first|exact HI0.out|apply IsS122.alloc|apply IsS122.drewN|apply IsS122.drew|apply IsS122.set_1|refine IsS122.far ?_ NB0_395.out _|refine IsS122.far ?_ NB0_406.out _)|exact HI0.out));(case side2=>exact(by repeat(first|(with_reducible first|exact HB.out|apply qag|apply qad|apply qae|refine qac ?_ (IsS122.ge HI0.out)|refine qac ?_ GE395.out|refine qac ?_ GE406.out)|exact HB.out)));rintro e w42 ⟨rfl,hi,hb,hk⟩;refine⟨_,rfl,?_⟩;replace BK395:=Aside0.mk (KeepBut.blk hk (g':=gb395) (o:=.cells #[.int .i64 0,.slice none 0 0] 36 (0,0)) (za4 NB395_406 BK395) NB395_0.out (by simp));replace HO399:=Aside0.mk (Kd.S_mono (Kd.S_keep (IsS122.apartS (show IsS122 w0 _ g s0_0 t400 from by repeat(first|(with_reducible first|exact HI0.out|apply IsS122.alloc|apply IsS122.drewN|apply IsS122.drew|apply IsS122.set_1|refine IsS122.far ?_ NB0_395.out _|refine IsS122.far ?_ NB0_406.out _)|exact HI0.out)) (by(with_reducible repeat(first|apply Kd.S_alloc|apply Kd.S_drewN|apply Kd.S_drew));exact(Kd.S_mono (Kd.S_far (p:=⟨gb406,1,none⟩) (Kd.S_far (p:=⟨gb406,0,none⟩) (Kd.S_types HO399.out BK406.out (by decide)) (fun _ hk=>hk.2) (.int .i64 t401)) (fun _ hk=>hk.2) (.slice Ao41 t402.length co41)) (fun _ h_=>h_.1))) (by decide)) hk (fun _ h=>h.2)) (fun _ h=>h.1));replace HO404:=Aside0.mk (Kd.R_mono (Kd.R_keep (IsS122.apart (show IsS122 w0 _ g s0_0 t400 from by repeat(first|(with_reducible first|exact HI0.out|apply IsS122.alloc|apply IsS122.drewN|apply IsS122.drew|apply IsS122.set_1|refine IsS122.far ?_ NB0_395.out _|refine IsS122.far ?_ NB0_406.out _)|exact HI0.out)) (by(with_reducible repeat(first|apply Kd.R_alloc|apply Kd.R_drewN|apply Kd.R_drew));exact(Kd.R_mono (Kd.R_far (p:=⟨gb406,1,none⟩) (Kd.R_far (p:=⟨gb406,0,none⟩) (Kd.R_types HO404.out BK406.out (by decide)) (fun _ hk=>hk.2) (.int .i64 t401)) (fun _ hk=>hk.2) (.slice Ao41 t402.length co41)) (fun _ h_=>h_.1))) (by decide)) hk (fun _ h=>h.2)) (fun _ h=>h.1));replace BK406:=Aside0.mk (KeepBut.blk hk (g':=gb406) (o:=.cells #[.int .i64 t401,.slice Ao41 t402.length co41] 36 (0,0)) (by(with_reducible repeat(first|refine blk_drewN ?_ _|refine blk_drew ?_|refine blk_alloc ?_ _));refine qai (cs:=#[.int .i64 t401,.slice none 0 0]) ?_ 1 _ rfl;(with_reducible repeat(first|refine blk_drewN ?_ _|refine blk_drew ?_|refine blk_alloc ?_ _));refine qai (cs:=#[.int .i64 0,.slice none 0 0]) ?_ 0 _ rfl;(with_reducible repeat(first|refine blk_drewN ?_ _|refine blk_drew ?_|refine blk_alloc ?_ _));exact BK406.out) NB406_0.out (by simp));replace HK:=Aside0.mk (KeepBut.trans (za14 HK GW395 GW406) hk (.inl rfl));replace HB:=Aside0.mk hb;replace HI0:=Aside0.mk hi;(try clear hb);(try clear hk);(try clear hi)))
     replace HO399:=Aside0.mk (Kd.S_drew HO399.out)
     replace HO404:=Aside0.mk (Kd.R_drew HO404.out)
     replace BK395:=Aside0.mk (blk_drew BK395.out)
     replace BK406:=Aside0.mk (blk_drew BK406.out)
     replace HI0:=Aside0.mk (IsS122.drew HI0.out)
     replace HK:=Aside0.mk (keep_drew HK.out)
     replace HB:=Aside0.mk (qae HB.out)
     refine start_ (n:=14) (S:=fun w'=>w'.cell? ⟨gb406,0,none⟩=some (.int .i64 t401)∧w'.cell? ⟨gb406,1,none⟩=some (.slice Ao41 t402.length co41)) (ds:=[13]) #[false,false,false,false,false,false,false,false,false,false,false,false,false,false] (by kernel_rfl) rfl rfl ⟨(blk_cell BK406.out 0).trans rfl,(blk_cell BK406.out 1).trans rfl⟩ (fun hHeld=>?_);refine with_tabW spec_l71Stock.tab7 spec_l71Stock.bits7 (fun HT_ HW_=>?_)
     generalize w42.drew=w43 at HO399 HO404 BK395 BK406 HI0 HK HB hHeld ⊢
     refine qar (i:=0) (N:=some 30) (v:=?_) (a':=?_) #[true,false,false,false,false,false,false,false,false,false,false,false,false,false] rfl rfl (qan HT_.out (by kernel_rfl)) (fun _ _ _ h=>h) (Or.inl ⟨by rfl,?_⟩) ?_ ?_
     rotate_left
     ·intro w'
      go_simp
      with_reducible rfl
     rotate_left
     ·simp only[Act.put,List.setIfInBounds_toArray,List.set_cons_zero,List.set_cons_succ,qaj,qak]
      rfl
     refine qar (i:=2) (N:=some 32) (v:=?_) (a':=?_) #[true,false,true,false,false,false,false,false,false,false,false,false,false,false] rfl rfl (qan HT_.out (by kernel_rfl)) (fun _ _ _ h=>h) (Or.inl ⟨by rfl,?_⟩) ?_ ?_
     rotate_left
     ·intro w'
      go_simp
      with_reducible rfl
     rotate_left
     ·simp only[Act.put,List.setIfInBounds_toArray,List.set_cons_zero,List.set_cons_succ,qaj,qak]
      rfl
     refine qar (i:=3) (N:=some 33) (v:=?_) (a':=?_) #[true,false,true,true,false,false,false,false,false,false,false,false,false,false] rfl rfl (qan HT_.out (by kernel_rfl)) (fun _ _ _ h=>h) (Or.inl ⟨by rfl,?_⟩) ?_ ?_
     rotate_left
     ·intro w'
      go_simp
      with_reducible rfl
     rotate_left
     ·simp only[Act.put,List.setIfInBounds_toArray,List.set_cons_zero,List.set_cons_succ,qaj,qak]
      rfl
     refine qar (i:=7) (N:=some 37) (v:=?_) (a':=?_) #[true,false,true,true,false,false,false,true,false,false,false,false,false,false] rfl rfl (qan HT_.out (by kernel_rfl)) (fun _ _ _ h=>h) (Or.inl ⟨by rfl,?_⟩) ?_ ?_
     rotate_left
     ·intro w'
      go_simp
      with_reducible rfl
     rotate_left
     ·simp only[Act.put,List.setIfInBounds_toArray,List.set_cons_zero,List.set_cons_succ,qaj,qak]
      rfl
     refine qar (i:=9) (N:=some 39) (v:=?_) (a':=?_) #[true,false,true,true,false,false,false,true,false,true,false,false,false,false] rfl rfl (qan HT_.out (by kernel_rfl)) (fun _ _ _ h=>h) (Or.inl ⟨by rfl,?_⟩) ?_ ?_
     rotate_left
     ·intro w'
      go_simp
      with_reducible rfl
     rotate_left
     ·simp only[Act.put,List.setIfInBounds_toArray,List.set_cons_zero,List.set_cons_succ,qaj,qak]
      rfl
     refine take_ (i:=1) (N:=some 31) (v:=?_) (a':=?_) #[true,true,true,true,false,false,false,true,false,true,false,false,false,false] rfl rfl (take_ofW HT_.out HW_.out (by kernel_rfl)) (fun _ _ _ h=>h) (Or.inl ⟨by rfl,?_⟩) hHeld ?_ ?_
     rotate_left
     ·rintro w' ⟨s0,s1⟩
      go_simp
      with_reducible rfl
     rotate_left
     ·simp only[Act.put,List.setIfInBounds_toArray,List.set_cons_zero,List.set_cons_succ,qaj,qak]
      rfl
     refine take_ (i:=4) (N:=some 34) (v:=?_) (a':=?_) #[true,true,true,true,true,false,false,true,false,true,false,false,false,false] rfl rfl (take_ofW HT_.out HW_.out (by kernel_rfl)) (fun _ _ _ h=>h) (Or.inl ⟨by rfl,?_⟩) hHeld ?_ ?_
     rotate_left
     ·rintro w' ⟨s0,s1⟩
      go_simp
      with_reducible rfl
     rotate_left
     ·simp only[Act.put,List.setIfInBounds_toArray,List.set_cons_zero,List.set_cons_succ,qaj,qak]
      rfl
     refine qar (i:=5) (N:=some 35) (v:=?_) (a':=?_) #[true,true,true,true,true,true,false,true,false,true,false,false,false,false] rfl rfl (qan HT_.out (by kernel_rfl)) (fun _ _ _ h=>h) (Or.inl ⟨by rfl,?_⟩) ?_ ?_
     rotate_left
     ·intro w'
      go_simp
      with_reducible rfl
     rotate_left
     ·simp only[Act.put,List.setIfInBounds_toArray,List.set_cons_zero,List.set_cons_succ,qaj,qak]
      rfl
     refine one_ (i:=6) (N:=some 36) #[true,true,true,true,true,true,true,true,false,true,false,false,false,false] rfl rfl (one_of HT_.out (by kernel_rfl)) (by decide) (fun K hK=>?_)
     refine goes_ Try.func65 (by kernel_rfl) rfl #[.pointer (some ⟨g,0,none⟩),.int .i64 (t402.length:Int)] (by rfl) rfl rfl (by(try simp only[List.map_toArray,List.map_cons,List.map_nil]);first|done|rfl|(simp only[List.length_drop,List.length_take];rfl)) ?_
     with_reducible refine(spec_l6Rd_pick.calls k g s0_0 t408 (t402.length:Int) t415 t416 w0 _ ?side1 ?side2 A27.out).mono ?_
     (case side1=>repeat(first|(with_reducible first|exact HI0.out|apply IsS122.alloc|apply IsS122.drewN|apply IsS122.drew|apply IsS122.set_1|refine IsS122.far ?_ NB0_395.out _|refine IsS122.far ?_ NB0_406.out _)|exact HI0.out))
     (case side2=>exact(by repeat(first|(with_reducible first|exact HB.out|apply qag|apply qad|apply qae|refine qac ?_ (IsS122.ge HI0.out)|refine qac ?_ GE395.out|refine qac ?_ GE406.out)|exact HB.out)))
     rintro e w44 ⟨rfl,hi,hb,hk⟩
     refine⟨_,rfl,?_⟩
     replace BK395:=Aside0.mk (KeepBut.blk hk (zB BK395) NB395_0.out (by simp))
     replace HO399:=Aside0.mk (Kd.S_mono (Kd.S_keep (IsS122.apartS (show IsS122 w0 _ g s0_0 t408 from by repeat(first|(with_reducible first|exact HI0.out|apply IsS122.alloc|apply IsS122.drewN|apply IsS122.drew|apply IsS122.set_1|refine IsS122.far ?_ NB0_395.out _|refine IsS122.far ?_ NB0_406.out _)|exact HI0.out)) (za8 HO399) (by decide)) hk (fun _ h=>h.2)) (fun _ h=>h.1))
     replace HO404:=Aside0.mk (Kd.R_mono (Kd.R_keep (IsS122.apart (show IsS122 w0 _ g s0_0 t408 from by repeat(first|(with_reducible first|exact HI0.out|apply IsS122.alloc|apply IsS122.drewN|apply IsS122.drew|apply IsS122.set_1|refine IsS122.far ?_ NB0_395.out _|refine IsS122.far ?_ NB0_406.out _)|exact HI0.out)) (za3 HO404) (by decide)) hk (fun _ h=>h.2)) (fun _ h=>h.1))
     replace BK406:=Aside0.mk (KeepBut.blk hk (zB BK406) NB406_0.out (by simp))
     replace HK:=Aside0.mk (KeepBut.trans (za14 HK GW395 GW406) hk (.inl rfl))
     replace HB:=Aside0.mk hb
     replace HI0:=Aside0.mk hi
     (try clear hb)
     (try clear hb2)
     (try clear hk)
     (try clear hi)
     refine hK.out _ _ ⟨(blk_cell BK406.out 0).trans rfl,(blk_cell BK406.out 1).trans rfl⟩ (fun hHeld=>?_)
     clear hK K
     refine norm_ (a':=?_) ?_ ?_
     rotate_left
     ·show Act.put _ (some 36) _=_
      simp only[Act.put,List.setIfInBounds_toArray,List.set_cons_zero,List.set_cons_succ,qaj,qak]
      rfl
     refine one_ (i:=8) (N:=some 38) #[true,true,true,true,true,true,true,true,true,true,false,false,false,false] rfl rfl (one_of HT_.out (by kernel_rfl)) (by decide) (fun K hK=>?_)
     refine goes_ Try.func65 (by kernel_rfl) rfl #[.pointer (some ⟨g,0,none⟩),.int .i64 5] (by rfl) rfl rfl (by(try simp only[List.map_toArray,List.map_cons,List.map_nil]);first|done|rfl|(simp only[List.length_drop,List.length_take];rfl)) ?_
     with_reducible refine(spec_l6Rd_pick.calls k g s0_0 t416 5 t417 t418 w0 _ ?side1 ?side2 A28.out).mono ?_
     (case side1=>repeat(first|(with_reducible first|exact HI0.out|apply IsS122.alloc|apply IsS122.drewN|apply IsS122.drew|apply IsS122.set_1|refine IsS122.far ?_ NB0_395.out _|refine IsS122.far ?_ NB0_406.out _)|exact HI0.out))
     (case side2=>exact(by repeat(first|(with_reducible first|exact HB.out|apply qag|apply qad|apply qae|refine qac ?_ (IsS122.ge HI0.out)|refine qac ?_ GE395.out|refine qac ?_ GE406.out)|exact HB.out)))
     rintro e w45 ⟨rfl,hi,hb,hk⟩
     refine⟨_,rfl,?_⟩
     replace BK395:=Aside0.mk (KeepBut.blk hk (zB BK395) NB395_0.out (by simp))
     replace HO399:=Aside0.mk (Kd.S_mono (Kd.S_keep (IsS122.apartS (show IsS122 w0 _ g s0_0 t416 from by repeat(first|(with_reducible first|exact HI0.out|apply IsS122.alloc|apply IsS122.drewN|apply IsS122.drew|apply IsS122.set_1|refine IsS122.far ?_ NB0_395.out _|refine IsS122.far ?_ NB0_406.out _)|exact HI0.out)) (za8 HO399) (by decide)) hk (fun _ h=>h.2)) (fun _ h=>h.1))
     replace HO404:=Aside0.mk (Kd.R_mono (Kd.R_keep (IsS122.apart (show IsS122 w0 _ g s0_0 t416 from by repeat(first|(with_reducible first|exact HI0.out|apply IsS122.alloc|apply IsS122.drewN|apply IsS122.drew|apply IsS122.set_1|refine IsS122.far ?_ NB0_395.out _|refine IsS122.far ?_ NB0_406.out _)|exact HI0.out)) (za3 HO404) (by decide)) hk (fun _ h=>h.2)) (fun _ h=>h.1))
     replace BK406:=Aside0.mk (KeepBut.blk hk (zB BK406) NB406_0.out (by simp))
     replace HK:=Aside0.mk (KeepBut.trans (za14 HK GW395 GW406) hk (.inl rfl))
     replace HB:=Aside0.mk hb
     replace HI0:=Aside0.mk hi
     (try clear hb)
     (try clear hb2)
     (try clear hk)
     (try clear hi)
     refine hK.out _ _ ⟨(blk_cell BK406.out 0).trans rfl,(blk_cell BK406.out 1).trans rfl⟩ (fun hHeld=>?_)
     clear hK K
     refine norm_ (a':=?_) ?_ ?_
     rotate_left
     ·show Act.put _ (some 38) _=_
      simp only[Act.put,List.setIfInBounds_toArray,List.set_cons_zero,List.set_cons_succ,qaj,qak]
      rfl
     refine one_ (i:=10) (N:=some 40) #[true,true,true,true,true,true,true,true,true,true,true,false,false,false] rfl rfl (one_of HT_.out (by kernel_rfl)) (by decide) (fun K hK=>?_)
     refine goes_ Try.func65 (by kernel_rfl) rfl #[.pointer (some ⟨g,0,none⟩),.int .i64 5] (by rfl) rfl rfl (by(try simp only[List.map_toArray,List.map_cons,List.map_nil]);first|done|rfl|(simp only[List.length_drop,List.length_take];rfl)) ?_
     with_reducible refine(spec_l6Rd_pick.calls k g s0_0 t418 5 t419 t420 w0 _ ?side1 ?side2 A29.out).mono ?_
     (case side1=>repeat(first|(with_reducible first|exact HI0.out|apply IsS122.alloc|apply IsS122.drewN|apply IsS122.drew|apply IsS122.set_1|refine IsS122.far ?_ NB0_395.out _|refine IsS122.far ?_ NB0_406.out _)|exact HI0.out))
     (case side2=>exact(by repeat(first|(with_reducible first|exact HB.out|apply qag|apply qad|apply qae|refine qac ?_ (IsS122.ge HI0.out)|refine qac ?_ GE395.out|refine qac ?_ GE406.out)|exact HB.out)))
     rintro e w46 ⟨rfl,hi,hb,hk⟩
     refine⟨_,rfl,?_⟩
     replace BK395:=Aside0.mk (KeepBut.blk hk (zB BK395) NB395_0.out (by simp))
     replace HO399:=Aside0.mk (Kd.S_mono (Kd.S_keep (IsS122.apartS (show IsS122 w0 _ g s0_0 t418 from by repeat(first|(with_reducible first|exact HI0.out|apply IsS122.alloc|apply IsS122.drewN|apply IsS122.drew|apply IsS122.set_1|refine IsS122.far ?_ NB0_395.out _|refine IsS122.far ?_ NB0_406.out _)|exact HI0.out)) (za8 HO399) (by decide)) hk (fun _ h=>h.2)) (fun _ h=>h.1))
     replace HO404:=Aside0.mk (Kd.R_mono (Kd.R_keep (IsS122.apart (show IsS122 w0 _ g s0_0 t418 from by repeat(first|(with_reducible first|exact HI0.out|apply IsS122.alloc|apply IsS122.drewN|apply IsS122.drew|apply IsS122.set_1|refine IsS122.far ?_ NB0_395.out _|refine IsS122.far ?_ NB0_406.out _)|exact HI0.out)) (za3 HO404) (by decide)) hk (fun _ h=>h.2)) (fun _ h=>h.1))
     replace BK406:=Aside0.mk (KeepBut.blk hk (zB BK406) NB406_0.out (by simp))
     replace HK:=Aside0.mk (KeepBut.trans (za14 HK GW395 GW406) hk (.inl rfl))
     replace HB:=Aside0.mk hb
     replace HI0:=Aside0.mk hi
     (try clear hb)
     (try clear hb2)
     (try clear hk)
     (try clear hi)
     have p32:0≤(t415:Int):=of_decide_eq_true (za5)
     have q32:(t415:Int)<((t402.length:Int):Int):=of_decide_eq_true (za5)
     obtain⟨go32,co32,eo32,gb32,gl32,cl32,HG32⟩:=Kd.R_form HO404.out (by omega)
     (first|cases eo32|(injection eo32 with ea_ en_ ec_;(first|subst ea_|(injection ea_ with ea_;subst ea_));subst ec_;clear en_))
     have GB32:=Aside0.mk gb32
     have GG32:=Aside0.mk HG32
     clear gb32 gl32 HG32
     obtain⟨ce32,hcl32,hM32,hcc32,hfr32⟩:=Kd.R_elem HO404.out z46 (t415:Int) p32 q32
     obtain rfl:=k46_openM hM32
     have hx32_0:World.cell? _ ⟨go32,(t415:Int).toNat*2,none⟩=some (.int .i64 ((rd_T46 t402 t415).f0)):=hcc32 0 _ rfl
     have hx32_1:World.cell? _ ⟨go32,(t415:Int).toNat*2+1,none⟩=some (.int .i64 ((rd_T46 t402 t415).f1)):=hcc32 1 _ rfl
     have hf32_0:World.frozen? _ ⟨go32,(t415:Int).toNat*2,none⟩=false:=hfr32 0
     have hf32_1:World.frozen? _ ⟨go32,(t415:Int).toNat*2+1,none⟩=false:=hfr32 1
     clear hcl32 hcc32 hfr32 hM32
     replace p32:=eq_true p32
     replace q32:=eq_true q32
     have HN0_go32:=Aside0.mk (show g≠go32 from by have h_:=IsS122.own_ne HI0.out HO404.out (by decide);intro e_;exact h_ (by rw[e_];rfl))
     obtain⟨ce47,hcl47,hM47,hcc47,hfr47⟩:=Kd.R_elem HO404.out z46 (t415:Int) (of_decide_eq_true (za5)) (by have h_:(t415:Int)<((t402.length:Int):Int):=of_decide_eq_true (za5);first|exact h_|(have e_:=(Kd.R_reads' HO404.out).1;omega)|simpa using h_)
     obtain rfl:=k46_openM hM47
     have HP47:=(Kd.R_seg HO404.out (t415:Int) (of_decide_eq_true (za5)) (by have h_:(t415:Int)<((t402.length:Int):Int):=of_decide_eq_true (za5);first|exact h_|(have e_:=(Kd.R_reads' HO404.out).1;omega)|simpa using h_) (seg:=[.int .i64 t417,.int .i64 t419]) (j:=0) hcl47 hcc47 (show 2≤2 from by decide) (x':=(⟨t417,t419⟩:S46)) (k46_mkM _ _ _ (⟨t417,t419⟩:S46) ) (fun _ hk=>hk)).1
     rw[←Ny421.out] at HP47
     have HQ47:=Aside0.mk HP47
     clear hcl47 hcc47 hfr47 hM47 HP47
     refine hK.out _ _ ⟨(blk_cell BK406.out 0).trans rfl,(blk_cell BK406.out 1).trans rfl⟩ (fun hHeld=>?_)
     clear hK K
     refine norm_ (a':=?_) ?_ ?_
     rotate_left
     ·show Act.put _ (some 40) _=_
      simp only[Act.put,List.setIfInBounds_toArray,List.set_cons_zero,List.set_cons_succ,qaj,qak]
      rfl
     refine qar (i:=11) (N:=some 41) (v:=?_) (a':=?_) #[true,true,true,true,true,true,true,true,true,true,true,true,false,false] rfl rfl (qan HT_.out (by kernel_rfl)) (fun _ _ _ h=>h) (Or.inl ⟨by rfl,?_⟩) ?_ ?_
     rotate_left
     ·intro w'
      go_simp
      with_reducible rfl
     rotate_left
     ·simp only[Act.put,List.setIfInBounds_toArray,List.set_cons_zero,List.set_cons_succ,qaj,qak]
      rfl
     refine qar (i:=12) (N:=some 42) (v:=?_) (a':=?_) #[true,true,true,true,true,true,true,true,true,true,true,true,true,false] rfl rfl (qan HT_.out (by kernel_rfl)) (fun _ _ _ h=>h) (Or.inl ⟨by rfl,?_⟩) ?_ ?_
     rotate_left
     ·intro w'
      go_simp
      with_reducible rfl
     rotate_left
     ·simp only[Act.put,List.setIfInBounds_toArray,List.set_cons_zero,List.set_cons_succ,qaj,qak]
      rfl
     refine last_ (i:=13) (N:=none) #[true,true,true,true,true,true,true,true,true,true,true,true,true,true] rfl rfl (one_of HT_.out (by kernel_rfl)) (by decide) (fun K hK=>?_)
     refine skip_ (w1:=?_) (by rfl) rfl ?_ ?_
     rotate_left
     ·go_simp
      rfl
     refine hK.out _ _ ?_
     clear hK K
     refine done_ (done_of HT_.out (by kernel_rfl)) ?_
     have n0_:Aside0 (Kd.S k62 62 ((w46.setCell ⟨go32,(t415:Int).toNat*2,none⟩ (.int .i64 t417)).setCell ⟨go32,(t415:Int).toNat*2+1,none⟩ (.int .i64 t419)) w.heap.size (fun _=>True) (.slice Ao35 t397.length co35) t397):=⟨by(with_reducible repeat(first|apply Kd.S_alloc|apply Kd.S_drewN|apply Kd.S_drew));exact Kd.S_mono (Kd.S_far (p:=⟨go32,(t415:Int).toNat*2+1,none⟩) (Kd.S_far (p:=⟨go32,(t415:Int).toNat*2,none⟩) (Kd.S_types HO399.out GG32.out (by decide)) (fun _ hk=>hk.2) (.int .i64 t417)) (fun _ hk=>hk.2) (.int .i64 t419)) (fun _ hk=>trivial)⟩
     have n1_:Aside0 (Kd.R k46 46 ((w46.setCell ⟨go32,(t415:Int).toNat*2,none⟩ (.int .i64 t417)).setCell ⟨go32,(t415:Int).toNat*2+1,none⟩ (.int .i64 t419)) w.heap.size (fun _=>True) (.slice (some ⟨go32,0,none⟩) t402.length co41) y421):=⟨za3 HQ47⟩
     have n2_:Aside0 (((w46.setCell ⟨go32,(t415:Int).toNat*2,none⟩ (.int .i64 t417)).setCell ⟨go32,(t415:Int).toNat*2+1,none⟩ (.int .i64 t419)).heap[gb395]?=some (.cells #[.int .i64 0,.slice none 0 0] 36 (0,0))):=⟨by(with_reducible repeat(first|refine blk_drewN ?_ _|refine blk_drew ?_|refine blk_alloc ?_ _));refine blk_far ?_ (by have h_:=Kd.R_ne HO404.out BK395.out (by decide);intro e_;exact h_ (by rw[e_];rfl)) _;(with_reducible repeat(first|refine blk_drewN ?_ _|refine blk_drew ?_|refine blk_alloc ?_ _));refine blk_far ?_ (by have h_:=Kd.R_ne HO404.out BK395.out (by decide);intro e_;exact h_ (by rw[e_];rfl)) _;(with_reducible repeat(first|refine blk_drewN ?_ _|refine blk_drew ?_|refine blk_alloc ?_ _));exact BK395.out⟩
     have n3_:Aside0 (((w46.setCell ⟨go32,(t415:Int).toNat*2,none⟩ (.int .i64 t417)).setCell ⟨go32,(t415:Int).toNat*2+1,none⟩ (.int .i64 t419)).heap[gb406]?=some (.cells #[.int .i64 t401,.slice (some ⟨go32,0,none⟩) t402.length co41] 36 (0,0))):=⟨by(with_reducible repeat(first|refine blk_drewN ?_ _|refine blk_drew ?_|refine blk_alloc ?_ _));refine blk_far ?_ (by have h_:=Kd.R_ne HO404.out BK406.out (by decide);intro e_;exact h_ (by rw[e_];rfl)) _;(with_reducible repeat(first|refine blk_drewN ?_ _|refine blk_drew ?_|refine blk_alloc ?_ _));refine blk_far ?_ (by have h_:=Kd.R_ne HO404.out BK406.out (by decide);intro e_;exact h_ (by rw[e_];rfl)) _;(with_reducible repeat(first|refine blk_drewN ?_ _|refine blk_drew ?_|refine blk_alloc ?_ _));exact BK406.out⟩
     have n4_:Aside0 (IsS122 w0 ((w46.setCell ⟨go32,(t415:Int).toNat*2,none⟩ (.int .i64 t417)).setCell ⟨go32,(t415:Int).toNat*2+1,none⟩ (.int .i64 t419)) g s0_0 t420):=⟨by repeat(first|(with_reducible first|exact HI0.out|apply IsS122.alloc|apply IsS122.drewN|apply IsS122.drew|apply IsS122.set_1|refine IsS122.far ?_ HN0_go32.out _|refine IsS122.far ?_ HN0_go32.out _|refine IsS122.far ?_ NB0_395.out _|refine IsS122.far ?_ NB0_406.out _)|exact HI0.out)⟩
     have n5_:Aside0 (KeepBut w ((w46.setCell ⟨go32,(t415:Int).toNat*2,none⟩ (.int .i64 t417)).setCell ⟨go32,(t415:Int).toNat*2+1,none⟩ (.int .i64 t419)) g none):=⟨by repeat(first|(with_reducible first|exact HK.out|apply KeepBut.set_|apply keep_drewN|apply keep_drew|apply keep_alloc|refine keep_far ?_ GB32.out _|refine keep_far ?_ GB32.out _|refine keep_far ?_ GW395.out _|refine keep_far ?_ GW406.out _)|exact HK.out)⟩
     have n6_:Aside0 (Below w0.heap.size w0 ((w46.setCell ⟨go32,(t415:Int).toNat*2,none⟩ (.int .i64 t417)).setCell ⟨go32,(t415:Int).toNat*2+1,none⟩ (.int .i64 t419))):=⟨by repeat(first|(with_reducible first|exact HB.out|apply qag|apply qad|apply qae|refine qac ?_ (Nat.le_trans HL.out GB32.out)|refine qac ?_ (Nat.le_trans HL.out GB32.out)|refine qac ?_ (IsS122.ge HI0.out)|refine qac ?_ GE395.out|refine qac ?_ GE406.out)|exact HB.out)⟩
     (try clear HO399)
     (try clear HO404)
     (try clear BK395)
     (try clear BK406)
     (try clear HI0)
     (try clear HK)
     (try clear HB)
     generalize ((w46.setCell ⟨go32,(t415:Int).toNat*2,none⟩ (.int .i64 t417)).setCell ⟨go32,(t415:Int).toNat*2+1,none⟩ (.int .i64 t419))=w48 at n0_ n1_ n2_ n3_ n4_ n5_ n6_ ⊢
     have HO399:=n0_
     have HO404:=n1_
     have BK395:=n2_
     have BK406:=n3_
     have HI0:=n4_
     have HK:=n5_
     have HB:=n6_
     clear n0_ n1_ n2_ n3_ n4_ n5_ n6_
     obtain⟨hcz49_0,hcz49_1,hfz49_0,hfz49_1⟩:=zC2 BK406
     have hnb50:=NB395_0.out
     have hnc50:=NB0_395.out
     obtain⟨hcz51_0,hcz51_1,hfz51_0,hfz51_1⟩:=zC2 BK395
     try go_wp2
     refine bodyPost_ret (results_cell_row rfl _ _ gb395 36 #[.int .i64 t401,.slice (some ⟨go32,0,none⟩) t402.length co41] (0,0) _ rfl (by(with_reducible repeat(first|refine blk_drewN ?_ _|refine blk_drew ?_|refine blk_alloc ?_ _));refine qai (cs:=#[.int .i64 t401,.slice none 0 0]) ?_ 1 _ rfl;(with_reducible repeat(first|refine blk_drewN ?_ _|refine blk_drew ?_|refine blk_alloc ?_ _));refine qai (cs:=#[.int .i64 0,.slice none 0 0]) ?_ 0 _ rfl;(with_reducible repeat(first|refine blk_drewN ?_ _|refine blk_drew ?_|refine blk_alloc ?_ _));exact BK395.out) Try.underlying36 rfl (by kernel_rfl)) rfl ?_
     exact⟨_,za9,Kd.Q_of_R (by(with_reducible repeat(first|apply Kd.R_alloc|apply Kd.R_drewN|apply Kd.R_drew));exact Kd.R_mono (Kd.R_far (p:=⟨gb395,1,none⟩) (Kd.R_far (p:=⟨gb395,0,none⟩) (Kd.R_types HO404.out BK395.out (by decide)) (fun _ hk=>hk.2) (.int .i64 t401)) (fun _ hk=>hk.2) (.slice (some ⟨go32,0,none⟩) t402.length co41)) (fun _ hk=>trivial)),by repeat(first|(with_reducible first|exact HI0.out|apply IsS122.alloc|apply IsS122.drewN|apply IsS122.drew|apply IsS122.set_1|refine IsS122.far ?_ NB0_395.out _|refine IsS122.far ?_ NB0_406.out _)|exact HI0.out),by repeat(first|(with_reducible first|exact HB.out|apply qag|apply qad|apply qae|refine qac ?_ (IsS122.ge HI0.out)|refine qac ?_ GE395.out|refine qac ?_ GE406.out)|exact HB.out),za14 HK GW395 GW406⟩
    ·rw[if_neg c31] at H
     exact absurd H (by simp)
   ·rw[if_neg c30] at H
    exact absurd H (by simp)
  ·rw[if_neg c26] at H
   have c26b0:(t407 == 1)=false:=beq_eq_false_iff_ne.mpr c26
   have c26b1:(t407 != 1)=true:=bne_iff_ne.mpr c26
   by_cases c52:t407=2
   ·rw[if_pos c52] at H
    have c52b0:(t407 == 2)=true:=beq_iff_eq.mpr c52
    have c52b1:(t407 != 2)=false:=bne_eq_false_iff_eq.mpr c52
    clear c52
    by_cases c53:1≤(t402.length:Int)
    ·rw[if_pos c53] at H
     have c53b0:=eq_true c53
     have c53b1:decide (1≤(t402.length:Int))=true:=decide_eq_true c53
     clear c53
     obtain⟨y422,hy422⟩:∃y_:List (S46),y_=(t402.drop (1:Int).toNat):=⟨_,rfl⟩
     replace H:(some (t401,y422,t408))=some (r1,r2,r3):=by first|(rw[hy422];with_reducible exact H)|(have H2_:=(Option.bind_some _ _).symm.trans H;rw[hy422];with_reducible exact H2_)|(have H2_:=(Option.bind_some _ _).symm.trans H;with_reducible exact H2_)|with_reducible exact H|(rw[hy422];exact H)|exact H
     have Ny422:=Aside0.mk hy422
     clear hy422
     simp only[Option.some.injEq,Prod.mk.injEq] at H
     obtain⟨rfl,rfl,rfl⟩:=H
     go_enter Try.func71,Try.ntmps71
     go_wp2_with(first|((with_reducible refine qah (N:=2) rfl ?_);refine zX (N:=2) (cs:=#[.int .i64 0,.slice none 0 0]) (t:=36) ?_;intro gb395 hg w54 hbox hb;replace HB:=Aside0.mk (qab (by repeat(first|(with_reducible first|exact HB.out|apply qag|apply qad|apply qae|refine qac ?_ (IsS122.ge HI0.out))|exact HB.out)) hb);have BK395:=Aside0.mk hbox;have GW395:=Aside0.mk ((by rw[hg];exact(qao (w:=w) (g:=g) (row:=none) (za10 HK)):w.heap.size≤gb395));have GE395:=Aside0.mk ((Nat.le_trans HW0.out (by rw[hg];exact(qao (w:=w) (g:=g) (row:=none) (za10 HK)):w.heap.size≤gb395):w0.heap.size≤gb395));replace HK:=Aside0.mk (KeepBut.trans (za10 HK) (KeepBut.of_below hb g none) (.inl rfl));have NB0_395:=Aside0.mk ((by rw[hg];exact Nat.ne_of_lt (IsS122.lt (show IsS122 w0 _ g s0_0 s0_1 from by repeat(first|(with_reducible first|exact HI0.out|apply IsS122.alloc|apply IsS122.drewN|apply IsS122.drew|apply IsS122.set_1)|exact HI0.out))):g≠gb395));have NB395_0:=Aside0.mk ((by rw[hg];exact Nat.ne_of_gt (IsS122.lt (show IsS122 w0 _ g s0_0 s0_1 from by repeat(first|(with_reducible first|exact HI0.out|apply IsS122.alloc|apply IsS122.drewN|apply IsS122.drew|apply IsS122.set_1)|exact HI0.out))):gb395≠g));replace HI0:=Aside0.mk (IsS122.below (by repeat(first|(with_reducible first|exact HI0.out|apply IsS122.alloc|apply IsS122.drewN|apply IsS122.drew|apply IsS122.set_1)|exact HI0.out)) hb);clear hb hbox hg)|((with_reducible refine qaf (f:=106) rfl ?_);refine zF (some 9) Try.func106 #[.pointer (some ⟨g,0,none⟩)] ?_;(with_reducible refine(spec_l71Recs.calls k g s0_0 s0_1 t396 t397 t400 w0 _ ?side1 ?side2 A2.out).mono ?_);(case side1=>repeat(first|(with_reducible first|exact HI0.out|apply IsS122.alloc|apply IsS122.drewN|apply IsS122.drew|apply IsS122.set_1|refine IsS122.far ?_ NB0_395.out _)|exact HI0.out));(case side2=>exact(by repeat(first|(with_reducible first|exact HB.out|apply qag|apply qad|apply qae|refine qac ?_ (IsS122.ge HI0.out)|refine qac ?_ GE395.out)|exact HB.out)));rintro e w55 ⟨v398,rfl,ho0,hi,hb,hk⟩;refine⟨_,rfl,?_⟩;replace BK395:=Aside0.mk (KeepBut.blk hk (zB BK395) NB395_0.out (by simp));have HO399:=Aside0.mk (Kd.S_lower ho0 (qao (w:=w) (g:=g) (row:=none) (za13 HK GW395)));replace HK:=Aside0.mk (KeepBut.trans (za13 HK GW395) hk (.inl rfl));replace HB:=Aside0.mk hb;replace HI0:=Aside0.mk hi;(try clear hb);(try clear hk);(try clear hi);(try clear ho0);obtain⟨Ao56,co56,eo56⟩:=Kd.S_slice HO399.out;subst eo56)|((with_reducible refine qaf (f:=107) rfl ?_);refine zF (some 15) Try.func107 #[.int .i64 t396,.slice Ao56 t397.length co56] ?_;(with_reducible refine(spec_StockOf.calls k t396 _ _ t397 t401 t402 t405 _ ?side1 ?side2 A3.out).mono ?_);(case side1=>repeat(first|exact(Kd.S_reads' HO399.out).2.2|(with_reducible refine Kd.C_alloc ?_ _)|(with_reducible refine Kd.C_drewN ?_ _)|(with_reducible refine Kd.C_drew ?_)));(case side2=>exact(Kd.S_reads' HO399.out).2.1);rintro e w57 ⟨v403,rfl,ho0,hb⟩;refine⟨_,rfl,?_⟩;replace HO399:=Aside0.mk (Kd.S_below (za8 HO399) hb);have HO404:=Aside0.mk (Kd.R_lower ho0 (qao (w:=w) (g:=g) (row:=none) (za13 HK GW395)));replace BK395:=Aside0.mk (qaa (zB BK395) hb);replace HK:=Aside0.mk (KeepBut.trans (za13 HK GW395) (KeepBut.of_below hb g none) (.inl rfl));replace HB:=Aside0.mk (qab (by repeat(first|(with_reducible first|exact HB.out|apply qag|apply qad|apply qae|refine qac ?_ (IsS122.ge HI0.out)|refine qac ?_ GE395.out)|exact HB.out)) hb);replace HI0:=Aside0.mk (IsS122.below (by repeat(first|(with_reducible first|exact HI0.out|apply IsS122.alloc|apply IsS122.drewN|apply IsS122.drew|apply IsS122.set_1|refine IsS122.far ?_ NB0_395.out _)|exact HI0.out)) hb);(try clear hb);(try clear ho0))|((with_reducible refine qah (N:=5) rfl ?_);refine zX (N:=5) (cs:=#[.int .i64 0,.slice none 0 0]) (t:=36) ?_;intro gb406 hg w58 hbox hb;replace HO399:=Aside0.mk (Kd.S_below (za8 HO399) hb);replace HO404:=Aside0.mk (Kd.R_below (za3 HO404) hb);replace HB:=Aside0.mk (qab (by repeat(first|(with_reducible first|exact HB.out|apply qag|apply qad|apply qae|refine qac ?_ (IsS122.ge HI0.out)|refine qac ?_ GE395.out)|exact HB.out)) hb);have BK406:=Aside0.mk hbox;have GW406:=Aside0.mk ((by rw[hg];exact(qao (w:=w) (g:=g) (row:=none) (za13 HK GW395)):w.heap.size≤gb406));have GE406:=Aside0.mk ((Nat.le_trans HW0.out (by rw[hg];exact(qao (w:=w) (g:=g) (row:=none) (za13 HK GW395)):w.heap.size≤gb406):w0.heap.size≤gb406));replace HK:=Aside0.mk (KeepBut.trans (za13 HK GW395) (KeepBut.of_below hb g none) (.inl rfl));have NB395_406:=zL BK395 hg;have NB406_395:=zG BK395 hg;replace BK395:=Aside0.mk (qaa (zB BK395) hb);have NB0_406:=Aside0.mk ((by rw[hg];exact Nat.ne_of_lt (IsS122.lt (show IsS122 w0 _ g s0_0 t400 from by repeat(first|(with_reducible first|exact HI0.out|apply IsS122.alloc|apply IsS122.drewN|apply IsS122.drew|apply IsS122.set_1|refine IsS122.far ?_ NB0_395.out _)|exact HI0.out))):g≠gb406));have NB406_0:=Aside0.mk ((by rw[hg];exact Nat.ne_of_gt (IsS122.lt (show IsS122 w0 _ g s0_0 t400 from by repeat(first|(with_reducible first|exact HI0.out|apply IsS122.alloc|apply IsS122.drewN|apply IsS122.drew|apply IsS122.set_1|refine IsS122.far ?_ NB0_395.out _)|exact HI0.out))):gb406≠g));replace HI0:=Aside0.mk (IsS122.below (by repeat(first|(with_reducible first|exact HI0.out|apply IsS122.alloc|apply IsS122.drewN|apply IsS122.drew|apply IsS122.set_1|refine IsS122.far ?_ NB0_395.out _)|exact HI0.out)) hb);clear hb hbox hg;have hnb59:=NB406_395.out;have hnc59:=NB395_406.out;have hnb60:=NB406_0.out;have hnc60:=NB0_406.out;obtain⟨hcz61_0,hcz61_1,hfz61_0,hfz61_1⟩:=zC2 BK406;obtain⟨Ao62,co62,eo62⟩:=Kd.R_slice HO404.out;subst eo62)|((with_reducible refine qaf (f:=65) rfl ?_);refine zF (some 19) Try.func65 #[.pointer (some ⟨g,0,none⟩),.int .i64 20] ?_;(with_reducible refine(spec_l6Rd_pick.calls k g s0_0 t400 20 t407 t408 w0 _ ?side1 ?side2 A4.out).mono ?_);(case side1=>repeat(first|(with_reducible first|exact HI0.out|apply IsS122.alloc|apply IsS122.drewN|apply IsS122.drew|apply IsS122.set_1|refine IsS122.far ?_ NB0_395.out _|refine IsS122.far ?_ NB0_406.out _)|exact HI0.out));(case side2=>exact(by repeat(first|(with_reducible first|exact HB.out|apply qag|apply qad|apply qae|refine qac ?_ (IsS122.ge HI0.out)|refine qac ?_ GE395.out|refine qac ?_ GE406.out)|exact HB.out)));rintro e w63 ⟨rfl,hi,hb,hk⟩;refine⟨_,rfl,?_⟩;replace BK395:=Aside0.mk (KeepBut.blk hk (g':=gb395) (o:=.cells #[.int .i64 0,.slice none 0 0] 36 (0,0)) (za4 NB395_406 BK395) NB395_0.out (by simp));replace HO399:=Aside0.mk (Kd.S_mono (Kd.S_keep (IsS122.apartS (show IsS122 w0 _ g s0_0 t400 from by repeat(first|(with_reducible first|exact HI0.out|apply IsS122.alloc|apply IsS122.drewN|apply IsS122.drew|apply IsS122.set_1|refine IsS122.far ?_ NB0_395.out _|refine IsS122.far ?_ NB0_406.out _)|exact HI0.out)) (by(with_reducible repeat(first|apply Kd.S_alloc|apply Kd.S_drewN|apply Kd.S_drew));exact(Kd.S_mono (Kd.S_far (p:=⟨gb406,1,none⟩) (Kd.S_far (p:=⟨gb406,0,none⟩) (Kd.S_types HO399.out BK406.out (by decide)) (fun _ hk=>hk.2) (.int .i64 t401)) (fun _ hk=>hk.2) (.slice Ao62 t402.length co62)) (fun _ h_=>h_.1))) (by decide)) hk (fun _ h=>h.2)) (fun _ h=>h.1));replace HO404:=Aside0.mk (Kd.R_mono (Kd.R_keep (IsS122.apart (show IsS122 w0 _ g s0_0 t400 from by repeat(first|(with_reducible first|exact HI0.out|apply IsS122.alloc|apply IsS122.drewN|apply IsS122.drew|apply IsS122.set_1|refine IsS122.far ?_ NB0_395.out _|refine IsS122.far ?_ NB0_406.out _)|exact HI0.out)) (by(with_reducible repeat(first|apply Kd.R_alloc|apply Kd.R_drewN|apply Kd.R_drew));exact(Kd.R_mono (Kd.R_far (p:=⟨gb406,1,none⟩) (Kd.R_far (p:=⟨gb406,0,none⟩) (Kd.R_types HO404.out BK406.out (by decide)) (fun _ hk=>hk.2) (.int .i64 t401)) (fun _ hk=>hk.2) (.slice Ao62 t402.length co62)) (fun _ h_=>h_.1))) (by decide)) hk (fun _ h=>h.2)) (fun _ h=>h.1));replace BK406:=Aside0.mk (KeepBut.blk hk (g':=gb406) (o:=.cells #[.int .i64 t401,.slice Ao62 t402.length co62] 36 (0,0)) (by(with_reducible repeat(first|refine blk_drewN ?_ _|refine blk_drew ?_|refine blk_alloc ?_ _));refine qai (cs:=#[.int .i64 t401,.slice none 0 0]) ?_ 1 _ rfl;(with_reducible repeat(first|refine blk_drewN ?_ _|refine blk_drew ?_|refine blk_alloc ?_ _));refine qai (cs:=#[.int .i64 0,.slice none 0 0]) ?_ 0 _ rfl;(with_reducible repeat(first|refine blk_drewN ?_ _|refine blk_drew ?_|refine blk_alloc ?_ _));exact BK406.out) NB406_0.out (by simp));replace HK:=Aside0.mk (KeepBut.trans (za14 HK GW395 GW406) hk (.inl rfl));replace HB:=Aside0.mk hb;replace HI0:=Aside0.mk hi;(try clear hb);(try clear hk);(try clear hi);obtain⟨hcz64_0,hcz64_1,hfz64_0,hfz64_1⟩:=zC2 BK406;have q65:(1:Int)≤((t402.length:Int):Int):=of_decide_eq_true (za5);obtain⟨i065,hi065,_,hsz65,_⟩:=info_parts info46;have hcut65:=cut_from (P:=Try.prog) 34 46 .i64 Try.underlying34 hi065 2 hsz65 Ao62 t402.length co62 1 (by omega) q65;have hr65:=Kd.Q_drop (k:=(1:Int).toNat) (Kd.Q_of_R HO404.out) (by omega);obtain⟨A65,hA65⟩:∃A1,A1=(if co62=(1:Int).toNat then Ao62 else(Ao62:Option Addr).map (·.add ((1:Int).toNat*2))):=⟨_,rfl⟩;obtain⟨c65,hc65⟩:∃c1,c1=co62 - (1:Int).toNat:=⟨_,rfl⟩;have hy65:y422.length=t402.length - (1:Int).toNat:=(by rw[Ny422.out,List.length_drop]);rw[←Ny422.out] at hr65;rw[←hy65,←hA65,←hc65] at hcut65;replace hr65:Kd.Q k46 46 w63 w.heap.size (fun _=>True) (.slice A65 y422.length c65) y422:=(by rw[hA65,hc65,hy65];exact hr65);have HE65:Aside0 ((Value.slice A65 y422.length c65).ownBlock=(.slice Ao62 t402.length co62:Value).ownBlock):=⟨by rw[hA65];split<;>(cases (Ao62:Option Addr)<;>rfl)⟩;clear hy65 hi065 hsz65 HO404 hA65 hc65;have HO424:=Aside0.mk hr65;clear hr65;replace q65:=eq_true q65;have hnb66:=NB395_0.out;have hnc66:=NB0_395.out;obtain⟨hcz67_0,hcz67_1,hfz67_0,hfz67_1⟩:=zC2 BK395))
     refine bodyPost_ret (results_cell_row rfl _ _ gb395 36 #[.int .i64 t401,.slice A65 y422.length c65] (0,0) _ rfl (by(with_reducible repeat(first|refine blk_drewN ?_ _|refine blk_drew ?_|refine blk_alloc ?_ _));refine qai (cs:=#[.int .i64 t401,.slice none 0 0]) ?_ 1 _ rfl;(with_reducible repeat(first|refine blk_drewN ?_ _|refine blk_drew ?_|refine blk_alloc ?_ _));refine qai (cs:=#[.int .i64 0,.slice none 0 0]) ?_ 0 _ rfl;(with_reducible repeat(first|refine blk_drewN ?_ _|refine blk_drew ?_|refine blk_alloc ?_ _));refine blk_far ?_ NB395_406.out _;(with_reducible repeat(first|refine blk_drewN ?_ _|refine blk_drew ?_|refine blk_alloc ?_ _));exact BK395.out) Try.underlying36 rfl (by kernel_rfl)) rfl ?_
     exact⟨_,za9,by(with_reducible repeat(first|apply Kd.Q_alloc|apply Kd.Q_drewN|apply Kd.Q_drew));exact Kd.Q_mono (Kd.Q_far (p:=⟨gb395,1,none⟩) (Kd.Q_far (p:=⟨gb395,0,none⟩) (Kd.Q_far (p:=⟨gb406,1,none⟩) (Kd.Q_types (Kd.Q_types HO424.out BK406.out (by decide)) BK395.out (by decide)) (fun _ hk=>hk.1.2) (.slice A65 y422.length c65)) (fun _ hk=>hk.2) (.int .i64 t401)) (fun _ hk=>hk.2) (.slice A65 y422.length c65)) (fun _ hk=>trivial),by repeat(first|(with_reducible first|exact HI0.out|apply IsS122.alloc|apply IsS122.drewN|apply IsS122.drew|apply IsS122.set_1|refine IsS122.far ?_ NB0_395.out _|refine IsS122.far ?_ NB0_406.out _)|exact HI0.out),by repeat(first|(with_reducible first|exact HB.out|apply qag|apply qad|apply qae|refine qac ?_ (IsS122.ge HI0.out)|refine qac ?_ GE395.out|refine qac ?_ GE406.out)|exact HB.out),za14 HK GW395 GW406⟩
    ·rw[if_neg c53] at H
     exact absurd H (by simp)
   ·rw[if_neg c52] at H
    have c52b0:(t407 == 2)=false:=beq_eq_false_iff_ne.mpr c52
    have c52b1:(t407 != 2)=true:=bne_iff_ne.mpr c52
    simp only[Option.some.injEq,Prod.mk.injEq] at H
    obtain⟨rfl,rfl,rfl⟩:=H
    go_enter Try.func71,Try.ntmps71
    go_wp2_with(first|((with_reducible refine qah (N:=2) rfl ?_);refine zX (N:=2) (cs:=#[.int .i64 0,.slice none 0 0]) (t:=36) ?_;intro gb395 hg w68 hbox hb;replace HB:=Aside0.mk (qab (by repeat(first|(with_reducible first|exact HB.out|apply qag|apply qad|apply qae|refine qac ?_ (IsS122.ge HI0.out))|exact HB.out)) hb);have BK395:=Aside0.mk hbox;have GW395:=Aside0.mk ((by rw[hg];exact(qao (w:=w) (g:=g) (row:=none) (za10 HK)):w.heap.size≤gb395));have GE395:=Aside0.mk ((Nat.le_trans HW0.out (by rw[hg];exact(qao (w:=w) (g:=g) (row:=none) (za10 HK)):w.heap.size≤gb395):w0.heap.size≤gb395));replace HK:=Aside0.mk (KeepBut.trans (za10 HK) (KeepBut.of_below hb g none) (.inl rfl));have NB0_395:=Aside0.mk ((by rw[hg];exact Nat.ne_of_lt (IsS122.lt (show IsS122 w0 _ g s0_0 s0_1 from by repeat(first|(with_reducible first|exact HI0.out|apply IsS122.alloc|apply IsS122.drewN|apply IsS122.drew|apply IsS122.set_1)|exact HI0.out))):g≠gb395));have NB395_0:=Aside0.mk ((by rw[hg];exact Nat.ne_of_gt (IsS122.lt (show IsS122 w0 _ g s0_0 s0_1 from by repeat(first|(with_reducible first|exact HI0.out|apply IsS122.alloc|apply IsS122.drewN|apply IsS122.drew|apply IsS122.set_1)|exact HI0.out))):gb395≠g));replace HI0:=Aside0.mk (IsS122.below (by repeat(first|(with_reducible first|exact HI0.out|apply IsS122.alloc|apply IsS122.drewN|apply IsS122.drew|apply IsS122.set_1)|exact HI0.out)) hb);clear hb hbox hg)|((with_reducible refine qaf (f:=106) rfl ?_);refine zF (some 9) Try.func106 #[.pointer (some ⟨g,0,none⟩)] ?_;(with_reducible refine(spec_l71Recs.calls k g s0_0 s0_1 t396 t397 t400 w0 _ ?side1 ?side2 A2.out).mono ?_);(case side1=>repeat(first|(with_reducible first|exact HI0.out|apply IsS122.alloc|apply IsS122.drewN|apply IsS122.drew|apply IsS122.set_1|refine IsS122.far ?_ NB0_395.out _)|exact HI0.out));(case side2=>exact(by repeat(first|(with_reducible first|exact HB.out|apply qag|apply qad|apply qae|refine qac ?_ (IsS122.ge HI0.out)|refine qac ?_ GE395.out)|exact HB.out)));rintro e w69 ⟨v398,rfl,ho0,hi,hb,hk⟩;refine⟨_,rfl,?_⟩;replace BK395:=Aside0.mk (KeepBut.blk hk (zB BK395) NB395_0.out (by simp));have HO399:=Aside0.mk (Kd.S_lower ho0 (qao (w:=w) (g:=g) (row:=none) (za13 HK GW395)));replace HK:=Aside0.mk (KeepBut.trans (za13 HK GW395) hk (.inl rfl));replace HB:=Aside0.mk hb;replace HI0:=Aside0.mk hi;(try clear hb);(try clear hk);(try clear hi);(try clear ho0);obtain⟨Ao70,co70,eo70⟩:=Kd.S_slice HO399.out;subst eo70)|((with_reducible refine qaf (f:=107) rfl ?_);refine zF (some 15) Try.func107 #[.int .i64 t396,.slice Ao70 t397.length co70] ?_;(with_reducible refine(spec_StockOf.calls k t396 _ _ t397 t401 t402 t405 _ ?side1 ?side2 A3.out).mono ?_);(case side1=>repeat(first|exact(Kd.S_reads' HO399.out).2.2|(with_reducible refine Kd.C_alloc ?_ _)|(with_reducible refine Kd.C_drewN ?_ _)|(with_reducible refine Kd.C_drew ?_)));(case side2=>exact(Kd.S_reads' HO399.out).2.1);rintro e w71 ⟨v403,rfl,ho0,hb⟩;refine⟨_,rfl,?_⟩;replace HO399:=Aside0.mk (Kd.S_below (za8 HO399) hb);have HO404:=Aside0.mk (Kd.R_lower ho0 (qao (w:=w) (g:=g) (row:=none) (za13 HK GW395)));replace BK395:=Aside0.mk (qaa (zB BK395) hb);replace HK:=Aside0.mk (KeepBut.trans (za13 HK GW395) (KeepBut.of_below hb g none) (.inl rfl));replace HB:=Aside0.mk (qab (by repeat(first|(with_reducible first|exact HB.out|apply qag|apply qad|apply qae|refine qac ?_ (IsS122.ge HI0.out)|refine qac ?_ GE395.out)|exact HB.out)) hb);replace HI0:=Aside0.mk (IsS122.below (by repeat(first|(with_reducible first|exact HI0.out|apply IsS122.alloc|apply IsS122.drewN|apply IsS122.drew|apply IsS122.set_1|refine IsS122.far ?_ NB0_395.out _)|exact HI0.out)) hb);(try clear hb);(try clear ho0))|((with_reducible refine qah (N:=5) rfl ?_);refine zX (N:=5) (cs:=#[.int .i64 0,.slice none 0 0]) (t:=36) ?_;intro gb406 hg w72 hbox hb;replace HO399:=Aside0.mk (Kd.S_below (za8 HO399) hb);replace HO404:=Aside0.mk (Kd.R_below (za3 HO404) hb);replace HB:=Aside0.mk (qab (by repeat(first|(with_reducible first|exact HB.out|apply qag|apply qad|apply qae|refine qac ?_ (IsS122.ge HI0.out)|refine qac ?_ GE395.out)|exact HB.out)) hb);have BK406:=Aside0.mk hbox;have GW406:=Aside0.mk ((by rw[hg];exact(qao (w:=w) (g:=g) (row:=none) (za13 HK GW395)):w.heap.size≤gb406));have GE406:=Aside0.mk ((Nat.le_trans HW0.out (by rw[hg];exact(qao (w:=w) (g:=g) (row:=none) (za13 HK GW395)):w.heap.size≤gb406):w0.heap.size≤gb406));replace HK:=Aside0.mk (KeepBut.trans (za13 HK GW395) (KeepBut.of_below hb g none) (.inl rfl));have NB395_406:=zL BK395 hg;have NB406_395:=zG BK395 hg;replace BK395:=Aside0.mk (qaa (zB BK395) hb);have NB0_406:=Aside0.mk ((by rw[hg];exact Nat.ne_of_lt (IsS122.lt (show IsS122 w0 _ g s0_0 t400 from by repeat(first|(with_reducible first|exact HI0.out|apply IsS122.alloc|apply IsS122.drewN|apply IsS122.drew|apply IsS122.set_1|refine IsS122.far ?_ NB0_395.out _)|exact HI0.out))):g≠gb406));have NB406_0:=Aside0.mk ((by rw[hg];exact Nat.ne_of_gt (IsS122.lt (show IsS122 w0 _ g s0_0 t400 from by repeat(first|(with_reducible first|exact HI0.out|apply IsS122.alloc|apply IsS122.drewN|apply IsS122.drew|apply IsS122.set_1|refine IsS122.far ?_ NB0_395.out _)|exact HI0.out))):gb406≠g));replace HI0:=Aside0.mk (IsS122.below (by repeat(first|(with_reducible first|exact HI0.out|apply IsS122.alloc|apply IsS122.drewN|apply IsS122.drew|apply IsS122.set_1|refine IsS122.far ?_ NB0_395.out _)|exact HI0.out)) hb);clear hb hbox hg;have hnb73:=NB406_395.out;have hnc73:=NB395_406.out;have hnb74:=NB406_0.out;have hnc74:=NB0_406.out;obtain⟨hcz75_0,hcz75_1,hfz75_0,hfz75_1⟩:=zC2 BK406;obtain⟨Ao76,co76,eo76⟩:=Kd.R_slice HO404.out;subst eo76)|((with_reducible refine qaf (f:=65) rfl ?_);refine zF (some 19) Try.func65 #[.pointer (some ⟨g,0,none⟩),.int .i64 20] ?_;(with_reducible refine(spec_l6Rd_pick.calls k g s0_0 t400 20 t407 t408 w0 _ ?side1 ?side2 A4.out).mono ?_);(case side1=>repeat(first|(with_reducible first|exact HI0.out|apply IsS122.alloc|apply IsS122.drewN|apply IsS122.drew|apply IsS122.set_1|refine IsS122.far ?_ NB0_395.out _|refine IsS122.far ?_ NB0_406.out _)|exact HI0.out));(case side2=>exact(by repeat(first|(with_reducible first|exact HB.out|apply qag|apply qad|apply qae|refine qac ?_ (IsS122.ge HI0.out)|refine qac ?_ GE395.out|refine qac ?_ GE406.out)|exact HB.out)));rintro e w77 ⟨rfl,hi,hb,hk⟩;refine⟨_,rfl,?_⟩;replace BK395:=Aside0.mk (KeepBut.blk hk (g':=gb395) (o:=.cells #[.int .i64 0,.slice none 0 0] 36 (0,0)) (za4 NB395_406 BK395) NB395_0.out (by simp));replace HO399:=Aside0.mk (Kd.S_mono (Kd.S_keep (IsS122.apartS (show IsS122 w0 _ g s0_0 t400 from by repeat(first|(with_reducible first|exact HI0.out|apply IsS122.alloc|apply IsS122.drewN|apply IsS122.drew|apply IsS122.set_1|refine IsS122.far ?_ NB0_395.out _|refine IsS122.far ?_ NB0_406.out _)|exact HI0.out)) (by(with_reducible repeat(first|apply Kd.S_alloc|apply Kd.S_drewN|apply Kd.S_drew));exact(Kd.S_mono (Kd.S_far (p:=⟨gb406,1,none⟩) (Kd.S_far (p:=⟨gb406,0,none⟩) (Kd.S_types HO399.out BK406.out (by decide)) (fun _ hk=>hk.2) (.int .i64 t401)) (fun _ hk=>hk.2) (.slice Ao76 t402.length co76)) (fun _ h_=>h_.1))) (by decide)) hk (fun _ h=>h.2)) (fun _ h=>h.1));replace HO404:=Aside0.mk (Kd.R_mono (Kd.R_keep (IsS122.apart (show IsS122 w0 _ g s0_0 t400 from by repeat(first|(with_reducible first|exact HI0.out|apply IsS122.alloc|apply IsS122.drewN|apply IsS122.drew|apply IsS122.set_1|refine IsS122.far ?_ NB0_395.out _|refine IsS122.far ?_ NB0_406.out _)|exact HI0.out)) (by(with_reducible repeat(first|apply Kd.R_alloc|apply Kd.R_drewN|apply Kd.R_drew));exact(Kd.R_mono (Kd.R_far (p:=⟨gb406,1,none⟩) (Kd.R_far (p:=⟨gb406,0,none⟩) (Kd.R_types HO404.out BK406.out (by decide)) (fun _ hk=>hk.2) (.int .i64 t401)) (fun _ hk=>hk.2) (.slice Ao76 t402.length co76)) (fun _ h_=>h_.1))) (by decide)) hk (fun _ h=>h.2)) (fun _ h=>h.1));replace BK406:=Aside0.mk (KeepBut.blk hk (g':=gb406) (o:=.cells #[.int .i64 t401,.slice Ao76 t402.length co76] 36 (0,0)) (by(with_reducible repeat(first|refine blk_drewN ?_ _|refine blk_drew ?_|refine blk_alloc ?_ _));refine qai (cs:=#[.int .i64 t401,.slice none 0 0]) ?_ 1 _ rfl;(with_reducible repeat(first|refine blk_drewN ?_ _|refine blk_drew ?_|refine blk_alloc ?_ _));refine qai (cs:=#[.int .i64 0,.slice none 0 0]) ?_ 0 _ rfl;(with_reducible repeat(first|refine blk_drewN ?_ _|refine blk_drew ?_|refine blk_alloc ?_ _));exact BK406.out) NB406_0.out (by simp));replace HK:=Aside0.mk (KeepBut.trans (za14 HK GW395 GW406) hk (.inl rfl));replace HB:=Aside0.mk hb;replace HI0:=Aside0.mk hi;(try clear hb);(try clear hk);(try clear hi);obtain⟨hcz78_0,hcz78_1,hfz78_0,hfz78_1⟩:=zC2 BK406;have hnb79:=NB395_0.out;have hnc79:=NB0_395.out;obtain⟨hcz80_0,hcz80_1,hfz80_0,hfz80_1⟩:=zC2 BK395))
    refine bodyPost_ret (results_cell_row rfl _ _ gb395 36 #[.int .i64 t401,.slice Ao76 t402.length co76] (0,0) _ rfl (by(with_reducible repeat(first|refine blk_drewN ?_ _|refine blk_drew ?_|refine blk_alloc ?_ _));refine qai (cs:=#[.int .i64 t401,.slice none 0 0]) ?_ 1 _ rfl;(with_reducible repeat(first|refine blk_drewN ?_ _|refine blk_drew ?_|refine blk_alloc ?_ _));refine qai (cs:=#[.int .i64 0,.slice none 0 0]) ?_ 0 _ rfl;(with_reducible repeat(first|refine blk_drewN ?_ _|refine blk_drew ?_|refine blk_alloc ?_ _));exact BK395.out) Try.underlying36 rfl (by kernel_rfl)) rfl ?_
    exact⟨_,za9,Kd.Q_of_R (by(with_reducible repeat(first|apply Kd.R_alloc|apply Kd.R_drewN|apply Kd.R_drew));exact Kd.R_mono (Kd.R_far (p:=⟨gb395,1,none⟩) (Kd.R_far (p:=⟨gb395,0,none⟩) (Kd.R_types HO404.out BK395.out (by decide)) (fun _ hk=>hk.2) (.int .i64 t401)) (fun _ hk=>hk.2) (.slice Ao76 t402.length co76)) (fun _ hk=>trivial)),by repeat(first|(with_reducible first|exact HI0.out|apply IsS122.alloc|apply IsS122.drewN|apply IsS122.drew|apply IsS122.set_1|refine IsS122.far ?_ NB0_395.out _|refine IsS122.far ?_ NB0_406.out _)|exact HI0.out),by repeat(first|(with_reducible first|exact HB.out|apply qag|apply qad|apply qae|refine qac ?_ (IsS122.ge HI0.out)|refine qac ?_ GE395.out|refine qac ?_ GE406.out)|exact HB.out),za14 HK GW395 GW406⟩
end Go.Proofs.Ytjccnaklodbbfaa.Print
