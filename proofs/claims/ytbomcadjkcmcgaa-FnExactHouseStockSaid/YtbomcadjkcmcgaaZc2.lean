-- Written by squeeze.py: not trusted, Lean checks it.
import Derived.Test.YtbomcadjkcmcgaaZK
import Derived.Test.YtbomcadjkcmcgaaZa10
import Derived.Test.YtbomcadjkcmcgaaZc1
namespace Go.Proofs.Ytbomcadjkcmcgaa.Print
open Go.RowKit Go.Proofs.YtbomcadjkcmcgaaW.PrintWords Go.Proofs.YtbomcadjkcmcgaaW.PrintLast Go.Proofs.YtbomcadjkcmcgaaW.PrintMore
attribute [local go_sem] max2_int min2_int max_two min_two max_three min_three max_four min_four
set_option linter.unusedVariables false
set_option linter.unusedSimpArgs false
def impl_HouseStock.f (k:Nat) (a0_0:Int) (a0_1:Bool) (a0_2:Int) (l0_3:List (S62)) (a0_4:Int) (a1:Bool):Option (Int × (List (S72))):=(impl_HouseOk.f k a0_0 a0_1 a0_2 l0_3 a0_4).bind fun t366=>(if t366=true then((impl_House_stock.f k a0_0 a0_1 a0_2 l0_3 a0_4 a1).bind fun bt367=>(some (bt367.1,bt367.2))) else(some (0,([]:List (S72)))))
theorem impl_HouseStock.mono:∀a0 a1 a2 a3 a4 a5 k,LeO (impl_HouseStock.f k a0 a1 a2 a3 a4 a5) (impl_HouseStock.f (k+1) a0 a1 a2 a3 a4 a5):=by
 intro a0 a1 a2 a3 a4 a5 k;unfold impl_HouseStock.f
 repeat' first|(with_reducible exact impl_HouseOk.mono _ _ _ _ _ _)|(with_reducible exact impl_House_stock.mono _ _ _ _ _ _ _)|(with_reducible exact LeO.refl _)|(with_reducible exact LeO.none _)|(with_reducible refine LeO.ite ?_ ?_)|(with_reducible refine LeO.bind ?_ (fun _=>?_))|exact impl_HouseOk.mono _ _ _ _ _ _|exact impl_House_stock.mono _ _ _ _ _ _ _|exact LeO.none _|refine LeO.ite ?_ ?_|refine LeO.bind ?_ (fun _=>?_)
set_option maxHeartbeats 8000000 in
set_option maxRecDepth 100000 in
theorem impl_HouseStock.calls (k:Nat) (a0_0:Int) (a0_1:Bool) (a0_2:Int) (A0_3:Option Addr) (c0_3:Nat) (l0_3:List (S62)) (a0_4:Int) (a1:Bool) (r1:Int) (r2:List (S72)) (w:World) (hr0_3:Kd.C k62 w A0_3 l0_3.length l0_3) (hc0_3:l0_3.length≤c0_3) (h:impl_HouseStock.f k a0_0 a0_1 a0_2 l0_3 a0_4 a1=some (r1,r2)) :
  Calls Try.prog 11 #[.agg #[.int .i64 a0_0,.bool a0_1,.int .i64 a0_2,.slice A0_3 l0_3.length c0_3,.int .i64 a0_4],.bool a1] w fun e w'=>∃v1_:Value,e=.returned (.agg #[.int .i64 r1,v1_])∧Kd.R k72 72 w' w.heap.size (fun _=>True) v1_ r2∧Below w.heap.size w w':=by
 have hu33:=Try.underlying33;have hu39:=Try.underlying39;have HR0_3:=qah.mk hr0_3;have HC0_3:=qah.mk hc0_3;clear hr0_3 hc0_3;have HB:=qah.mk (Below.refl w.heap.size w);have H:((impl_HouseOk.f k a0_0 a0_1 a0_2 l0_3 a0_4).bind fun t366=>(if t366=true then((impl_House_stock.f k a0_0 a0_1 a0_2 l0_3 a0_4 a1).bind fun bt367=>(some (bt367.1,bt367.2))) else(some (0,([]:List (S72))))))=some (r1,r2):=h;clear h;replace H:=Option.bind_eq_some_iff.mp H;obtain⟨t366,A30,H⟩:=H;replace H:(if t366=true then((impl_House_stock.f k a0_0 a0_1 a0_2 l0_3 a0_4 a1).bind fun bt367=>(some (bt367.1,bt367.2))) else(some (0,([]:List (S72)))))=some (r1,r2):=H;have A3:=qah.mk A30;clear A30;by_cases c4:t366=true
 ·subst c4
  have H1:((impl_House_stock.f k a0_0 a0_1 a0_2 l0_3 a0_4 a1).bind fun bt367=>(some (bt367.1,bt367.2)))=some (r1,r2):=by rw[if_pos rfl] at H;exact H
  clear H;have H:=H1;clear H1;replace H:=Option.bind_eq_some_iff.mp H;obtain⟨⟨t367,t368⟩,A50,H⟩:=H;replace H:(some (t367,t368))=some (r1,r2):=H;have A5:=qah.mk A50;clear A50;simp only[Option.some.injEq,Prod.mk.injEq] at H;obtain⟨rfl,rfl⟩:=H;go_enter Try.func11,Try.ntmps11
  go_wp2_with(first|((with_reducible refine qag (N:=2) rfl ?_);refine zX (N:=2) (cs:=#[.int .i64 a0_0,.bool a0_1,.int .i64 a0_2,.slice A0_3 l0_3.length c0_3,.int .i64 a0_4]) (t:=33) ?_;intro gb364 hg w6 hbox hb;have BK364:=qah.mk hbox;have GW364:=zH (w:=w) hg (za1 HB);have GE364:=GW364;replace HB:=qah.mk (qaa (za1 HB) hb);clear hb hbox hg)|((with_reducible refine qag (N:=4) rfl ?_);refine zX (N:=4) (cs:=#[.int .i64 0,.slice none 0 0]) (t:=39) ?_;intro gb365 hg w7 hbox hb;have BK365:=qah.mk hbox;have GW365:=zH (w:=w) hg (za0 HB GE364);have GE365:=GW365;replace HB:=qah.mk (qaa (za0 HB GE364) hb);have NB364_365:=zL BK364 hg;have NB365_364:=zG BK364 hg;replace BK364:=zY BK364 hb;clear hb hbox hg;have hnb8:=NB364_365.out;have hnc8:=NB365_364.out;obtain⟨hcz9_0,hcz9_1,hcz9_2,hcz9_3,hcz9_4,hfz9_0,hfz9_1,hfz9_2,hfz9_3,hfz9_4⟩:=zC5 BK364)|((with_reducible refine qaf (f:=8) rfl ?_);refine zF (some 6) Try.func8 #[.agg #[.int .i64 a0_0,.bool a0_1,.int .i64 a0_2,.slice A0_3 l0_3.length c0_3,.int .i64 a0_4]] ?_;(with_reducible refine(impl_HouseOk.calls k a0_0 a0_1 a0_2 _ _ l0_3 a0_4 true _ ?side1 ?side2 A3.out).mono ?_);(case side1=>exact zR HR0_3 HB);(case side2=>exact HC0_3.out);rintro e w10 ⟨rfl,hb⟩;refine⟨_,rfl,?_⟩;replace BK364:=zY BK364 hb;replace BK365:=zY BK365 hb;replace HB:=qah.mk (qaa (za2 HB GE364 GE365) hb);(try clear hb);obtain⟨hcz11_0,hcz11_1,hcz11_2,hcz11_3,hcz11_4,hfz11_0,hfz11_1,hfz11_2,hfz11_3,hfz11_4⟩:=zC5 BK364)|((with_reducible refine qaf (f:=26) rfl ?_);refine zF (some 11) Try.func26 #[.agg #[.int .i64 a0_0,.bool a0_1,.int .i64 a0_2,.slice A0_3 l0_3.length c0_3,.int .i64 a0_4],.bool a1] ?_;(with_reducible refine(impl_House_stock.calls k a0_0 a0_1 a0_2 _ _ l0_3 a0_4 a1 t367 t368 _ ?side1 ?side2 A5.out).mono ?_);(case side1=>exact zR HR0_3 HB);(case side2=>exact HC0_3.out);rintro e w12 ⟨v369,rfl,ho0,hb⟩;refine⟨_,rfl,?_⟩;have HO370:=qah.mk (Kd.R_lower ho0 (qam (za2 HB GE364 GE365)));replace BK364:=zY BK364 hb;replace BK365:=zY BK365 hb;replace HB:=qah.mk (qaa (za2 HB GE364 GE365) hb);(try clear hb);(try clear ho0);obtain⟨hcz13_0,hcz13_1,hfz13_0,hfz13_1⟩:=zC2 BK365;obtain⟨Ao14,co14,eo14⟩:=Kd.R_slice HO370.out;subst eo14))
  refine bodyPost_ret (results_cell_row rfl _ _ gb365 39 #[.int .i64 t367,.slice Ao14 t368.length co14] (0,0) _ rfl (by(with_reducible repeat(first|refine qae ?_ _|refine qac ?_|refine qad ?_ _));refine qai (cs:=#[.int .i64 t367,.slice none 0 0]) ?_ 1 _ rfl;(with_reducible repeat(first|refine qae ?_ _|refine qac ?_|refine qad ?_ _));refine qai (cs:=#[.int .i64 0,.slice none 0 0]) ?_ 0 _ rfl;(with_reducible repeat(first|refine qae ?_ _|refine qac ?_|refine qad ?_ _));exact BK365.out) Try.underlying39 rfl (by kernel_rfl)) rfl ?_;exact⟨_,za8,by(with_reducible repeat(first|apply Kd.R_alloc|apply Kd.R_drewN|apply Kd.R_drew));exact Kd.R_mono (Kd.R_far (p:=⟨gb365,1,none⟩) (Kd.R_far (p:=⟨gb365,0,none⟩) (Kd.R_types HO370.out BK365.out (by decide)) (fun _ hk=>hk.2) (.int .i64 t367)) (fun _ hk=>hk.2) (.slice Ao14 t368.length co14)) (fun _ hk=>trivial),za2 HB GE364 GE365⟩
 ·replace c4:=Bool.eq_false_iff.mpr c4;subst c4
  have H1:(some (0,([]:List (S72))))=some (r1,r2):=by rw[if_neg (show ¬(false=true) by decide)] at H;exact H
  clear H;have H:=H1;clear H1;simp only[Option.some.injEq,Prod.mk.injEq] at H;obtain⟨rfl,rfl⟩:=H;go_enter Try.func11,Try.ntmps11
  go_wp2_with(first|((with_reducible refine qag (N:=2) rfl ?_);refine zX (N:=2) (cs:=#[.int .i64 a0_0,.bool a0_1,.int .i64 a0_2,.slice A0_3 l0_3.length c0_3,.int .i64 a0_4]) (t:=33) ?_;intro gb364 hg w15 hbox hb;have BK364:=qah.mk hbox;have GW364:=zH (w:=w) hg (za1 HB);have GE364:=GW364;replace HB:=qah.mk (qaa (za1 HB) hb);clear hb hbox hg)|((with_reducible refine qag (N:=4) rfl ?_);refine zX (N:=4) (cs:=#[.int .i64 0,.slice none 0 0]) (t:=39) ?_;intro gb365 hg w16 hbox hb;have BK365:=qah.mk hbox;have GW365:=zH (w:=w) hg (za0 HB GE364);have GE365:=GW365;replace HB:=qah.mk (qaa (za0 HB GE364) hb);have NB364_365:=zL BK364 hg;have NB365_364:=zG BK364 hg;replace BK364:=zY BK364 hb;clear hb hbox hg;have hnb17:=NB364_365.out;have hnc17:=NB365_364.out;obtain⟨hcz18_0,hcz18_1,hcz18_2,hcz18_3,hcz18_4,hfz18_0,hfz18_1,hfz18_2,hfz18_3,hfz18_4⟩:=zC5 BK364)|((with_reducible refine qaf (f:=8) rfl ?_);refine zF (some 6) Try.func8 #[.agg #[.int .i64 a0_0,.bool a0_1,.int .i64 a0_2,.slice A0_3 l0_3.length c0_3,.int .i64 a0_4]] ?_;(with_reducible refine(impl_HouseOk.calls k a0_0 a0_1 a0_2 _ _ l0_3 a0_4 false _ ?side1 ?side2 A3.out).mono ?_);(case side1=>exact zR HR0_3 HB);(case side2=>exact HC0_3.out);rintro e w19 ⟨rfl,hb⟩;refine⟨_,rfl,?_⟩;replace BK364:=zY BK364 hb;replace BK365:=zY BK365 hb;replace HB:=qah.mk (qaa (za2 HB GE364 GE365) hb);(try clear hb);obtain⟨hcz20_0,hcz20_1,hfz20_0,hfz20_1⟩:=zC2 BK365))
  refine bodyPost_ret (results_cell_row rfl _ _ gb365 39 #[.int .i64 0,.slice none 0 0] (0,0) _ rfl (by(with_reducible repeat(first|refine qae ?_ _|refine qac ?_|refine qad ?_ _));refine qai (cs:=#[.int .i64 0,.slice none 0 0]) ?_ 1 _ rfl;(with_reducible repeat(first|refine qae ?_ _|refine qac ?_|refine qad ?_ _));refine qai (cs:=#[.int .i64 0,.slice none 0 0]) ?_ 0 _ rfl;(with_reducible repeat(first|refine qae ?_ _|refine qac ?_|refine qad ?_ _));exact BK365.out) Try.underlying39 rfl (by kernel_rfl)) rfl ?_;exact⟨_,za8,za16,za2 HB GE364 GE365⟩
def laws_eqHold.f (a0_0:Int) (a0_1:Int) (a1_0:Int) (a1_1:Int):Option (Bool):=if a0_0=a1_0 then(if a0_1=a1_1 then(some true) else(some false)) else(some false)
set_option maxHeartbeats 8000000 in
set_option maxRecDepth 100000 in
theorem laws_eqHold.calls (a0_0:Int) (a0_1:Int) (a1_0:Int) (a1_1:Int) (r:Bool) (w:World) (h:laws_eqHold.f a0_0 a0_1 a1_0 a1_1=some r) :
  Calls Try.prog 45 #[.agg #[.int .i64 a0_0,.int .i64 a0_1],.agg #[.int .i64 a1_0,.int .i64 a1_1]] w fun e w'=>e=.returned (.bool r)∧Below w.heap.size w w':=by
 have hu72:=Try.underlying72;have HB:=qah.mk (Below.refl w.heap.size w);have H:(if a0_0=a1_0 then(if a0_1=a1_1 then(some true) else(some false)) else(some false))=some r:=h;clear h;by_cases c3:a0_0=a1_0
 ·rw[if_pos c3] at H;have c3b0:(a0_0 == a1_0)=true:=beq_iff_eq.mpr c3;have c3b1:(a0_0 != a1_0)=false:=bne_eq_false_iff_eq.mpr c3;clear c3;by_cases c4:a0_1=a1_1
  ·rw[if_pos c4] at H;have c4b0:(a0_1 == a1_1)=true:=beq_iff_eq.mpr c4;have c4b1:(a0_1 != a1_1)=false:=bne_eq_false_iff_eq.mpr c4;clear c4;obtain rfl:=Option.some.inj H;go_enter Try.func45,Try.ntmps45
   go_wp2_with(first|((with_reducible refine qag (N:=2) rfl ?_);refine zX (N:=2) (cs:=#[.int .i64 a0_0,.int .i64 a0_1]) (t:=72) ?_;intro gb371 hg w5 hbox hb;have BK371:=qah.mk hbox;have GW371:=zH (w:=w) hg (za1 HB);have GE371:=GW371;replace HB:=qah.mk (qaa (za1 HB) hb);clear hb hbox hg)|((with_reducible refine qag (N:=3) rfl ?_);refine zX (N:=3) (cs:=#[.int .i64 a1_0,.int .i64 a1_1]) (t:=72) ?_;intro gb372 hg w6 hbox hb;have BK372:=qah.mk hbox;have GW372:=zH (w:=w) hg (za0 HB GE371);have GE372:=GW372;replace HB:=qah.mk (qaa (za0 HB GE371) hb);have NB371_372:=zL BK371 hg;have NB372_371:=zG BK371 hg;replace BK371:=zY BK371 hb;clear hb hbox hg;have hnb7:=NB371_372.out;have hnc7:=NB372_371.out;obtain⟨hcz8_0,hcz8_1,hfz8_0,hfz8_1⟩:=zC2 BK371;obtain⟨hcz9_0,hcz9_1,hfz9_0,hfz9_1⟩:=zC2 BK372))
   go_ret;exact⟨za8,za2 HB GE371 GE372⟩
  ·rw[if_neg c4] at H;have c4b0:(a0_1 == a1_1)=false:=beq_eq_false_iff_ne.mpr c4;have c4b1:(a0_1 != a1_1)=true:=bne_iff_ne.mpr c4;obtain rfl:=Option.some.inj H;go_enter Try.func45,Try.ntmps45
   go_wp2_with(first|((with_reducible refine qag (N:=2) rfl ?_);refine zX (N:=2) (cs:=#[.int .i64 a0_0,.int .i64 a0_1]) (t:=72) ?_;intro gb371 hg w10 hbox hb;have BK371:=qah.mk hbox;have GW371:=zH (w:=w) hg (za1 HB);have GE371:=GW371;replace HB:=qah.mk (qaa (za1 HB) hb);clear hb hbox hg)|((with_reducible refine qag (N:=3) rfl ?_);refine zX (N:=3) (cs:=#[.int .i64 a1_0,.int .i64 a1_1]) (t:=72) ?_;intro gb372 hg w11 hbox hb;have BK372:=qah.mk hbox;have GW372:=zH (w:=w) hg (za0 HB GE371);have GE372:=GW372;replace HB:=qah.mk (qaa (za0 HB GE371) hb);have NB371_372:=zL BK371 hg;have NB372_371:=zG BK371 hg;replace BK371:=zY BK371 hb;clear hb hbox hg;have hnb12:=NB371_372.out;have hnc12:=NB372_371.out;obtain⟨hcz13_0,hcz13_1,hfz13_0,hfz13_1⟩:=zC2 BK371;obtain⟨hcz14_0,hcz14_1,hfz14_0,hfz14_1⟩:=zC2 BK372))
   go_ret;exact⟨za8,za2 HB GE371 GE372⟩
 ·rw[if_neg c3] at H;have c3b0:(a0_0 == a1_0)=false:=beq_eq_false_iff_ne.mpr c3;have c3b1:(a0_0 != a1_0)=true:=bne_iff_ne.mpr c3;obtain rfl:=Option.some.inj H;go_enter Try.func45,Try.ntmps45
  go_wp2_with(first|((with_reducible refine qag (N:=2) rfl ?_);refine zX (N:=2) (cs:=#[.int .i64 a0_0,.int .i64 a0_1]) (t:=72) ?_;intro gb371 hg w15 hbox hb;have BK371:=qah.mk hbox;have GW371:=zH (w:=w) hg (za1 HB);have GE371:=GW371;replace HB:=qah.mk (qaa (za1 HB) hb);clear hb hbox hg)|((with_reducible refine qag (N:=3) rfl ?_);refine zX (N:=3) (cs:=#[.int .i64 a1_0,.int .i64 a1_1]) (t:=72) ?_;intro gb372 hg w16 hbox hb;have BK372:=qah.mk hbox;have GW372:=zH (w:=w) hg (za0 HB GE371);have GE372:=GW372;replace HB:=qah.mk (qaa (za0 HB GE371) hb);have NB371_372:=zL BK371 hg;have NB372_371:=zG BK371 hg;replace BK371:=zY BK371 hb;clear hb hbox hg;have hnb17:=NB371_372.out;have hnc17:=NB372_371.out;obtain⟨hcz18_0,hcz18_1,hfz18_0,hfz18_1⟩:=zC2 BK371;obtain⟨hcz19_0,hcz19_1,hfz19_0,hfz19_1⟩:=zC2 BK372))
  go_ret;exact⟨za8,za2 HB GE371 GE372⟩
def laws_eqHoldS.l0:Nat→List (S72)→List (S72)→Int→Option (Bool)
 |0,_,_,_=>none
 |k+1,x0,x1,x5=>if x5<(x0.length:Int) then(if 0≤x5 then(if x5<(x1.length:Int) then((laws_eqHold.f ((rd_T72 x0 x5).f0) ((rd_T72 x0 x5).f1) ((rd_T72 x1 x5).f0) ((rd_T72 x1 x5).f1)).bind fun t375=>(if t375=true then(laws_eqHoldS.l0 k x0 x1 (wrap64 (x5+1))) else(some false))) else(none)) else(none)) else(some true)
def laws_eqHoldS.f (k:Nat) (l0:List (S72)) (l1:List (S72)):Option (Bool):=if(l0.length:Int)=(l1.length:Int) then(laws_eqHoldS.l0 k l0 l1 0) else(some false)
theorem laws_eqHoldS.mono_l:∀k,(∀y0 y1 y2,LeO (laws_eqHoldS.l0 k y0 y1 y2) (laws_eqHoldS.l0 (k+1) y0 y1 y2))
 |0=>fun _ _ _ r h=>by simp[laws_eqHoldS.l0] at h
 |k+1=>by
  have ih0:=laws_eqHoldS.mono_l k
  ·intro y0 y1 y2;unfold laws_eqHoldS.l0
   repeat' first|(with_reducible exact ih0 _ _ _)|(with_reducible exact LeO.refl _)|(with_reducible exact LeO.none _)|(with_reducible refine LeO.ite ?_ ?_)|(with_reducible refine LeO.bind ?_ (fun _=>?_))|exact ih0 _ _ _|exact LeO.none _|refine LeO.ite ?_ ?_|refine LeO.bind ?_ (fun _=>?_)
theorem laws_eqHoldS.mono:∀a0 a1 k,LeO (laws_eqHoldS.f k a0 a1) (laws_eqHoldS.f (k+1) a0 a1):=by
 intro a0 a1 k;have ih0:=laws_eqHoldS.mono_l k;unfold laws_eqHoldS.f
 repeat' first|(with_reducible exact ih0 _ _ _)|(with_reducible exact LeO.refl _)|(with_reducible exact LeO.none _)|(with_reducible refine LeO.ite ?_ ?_)|(with_reducible refine LeO.bind ?_ (fun _=>?_))|exact ih0 _ _ _|exact LeO.none _|refine LeO.ite ?_ ?_|refine LeO.bind ?_ (fun _=>?_)
def laws_eqHoldS.T6:Bool × List (List Nat × List Nat):=(true,[([],[]),([],[]),([0,1],[0,1]),([2],[2]),([],[]),([],[]),([4,5],[4,5]),([6],[6]),([3,7],[3,7]),([8],[8])])
def laws_eqHoldS.B6:List Nat:=[0,0,3,7,0,0,48,112,255,511]
theorem laws_eqHoldS.tab6:rtab .any (opsOf Try.f27 6)=laws_eqHoldS.T6:=by kernel_rfl
theorem laws_eqHoldS.bits6:waitsOk laws_eqHoldS.T6.2 laws_eqHoldS.B6=true:=by kernel_rfl
set_option maxHeartbeats 8000000 in
set_option maxRecDepth 100000 in
theorem laws_eqHoldS.calls (k:Nat) (A0:Option Addr) (c0:Nat) (l0:List (S72)) (A1:Option Addr) (c1:Nat) (l1:List (S72)) (r:Bool) (w:World) (hr0:Kd.C k72 w A0 l0.length l0) (hc0:l0.length≤c0) (hr1:Kd.C k72 w A1 l1.length l1) (hc1:l1.length≤c1) (h:laws_eqHoldS.f k l0 l1=some r) :
  Calls Try.prog 27 #[.slice A0 l0.length c0,.slice A1 l1.length c1] w fun e w'=>e=.returned (.bool r)∧Below w.heap.size w w':=by
 have hu72:=Try.underlying72;have HR0:=qah.mk hr0;have HC0:=qah.mk hc0;clear hr0 hc0;have HR1:=qah.mk hr1;have HC1:=qah.mk hc1;clear hr1 hc1;have HB:=qah.mk (Below.refl w.heap.size w);have H:(if(l0.length:Int)=(l1.length:Int) then(laws_eqHoldS.l0 k l0 l1 0) else(some false))=some r:=h;clear h;by_cases c3:(l0.length:Int)=(l1.length:Int)
 ·rw[if_pos c3] at H;have c3b0:((l0.length:Int) == (l1.length:Int))=true:=beq_iff_eq.mpr c3;have c3b1:((l0.length:Int) != (l1.length:Int))=false:=bne_eq_false_iff_eq.mpr c3
  have c3b2:(l0.length == l1.length)=true:=by first|simpa using c3|(simp at c3 ⊢;omega)
  clear c3;have H':=qah.mk H;clear H;go_enter Try.func27,Try.ntmps27;go_wp2
  go_loopg [5] k (fun kq v5 w'=>∃(x5_1:Int),v5=.int .i64 x5_1∧qah (laws_eqHoldS.l0 kq l0 l1 x5_1=some r)∧qah (kq≤k)∧qah (Below w.heap.size w w'))
  case atStart=>exact⟨(0),(za11),H',⟨Nat.le_refl _⟩,⟨za1 HB⟩⟩
  case round=>
   clear H'
   try clear c1
   try clear c2
   try clear p2
   try clear c3
   try clear c3b0
   try clear c3b1
   try clear c3b2
   obtain⟨x5_1,rfl,HA,HK1,HB⟩:=hrel
   cases gk with
   |zero=>exact absurd HA.out (by simp[laws_eqHoldS.l0])
   |succ k1=>
    have H:=HA.out;clear HA;simp only[laws_eqHoldS.l0] at H;by_cases c4:x5_1<(l0.length:Int)
    ·rw[if_pos c4] at H;have c4b0:decide (x5_1<(l0.length:Int))=true:=decide_eq_true c4;clear c4;by_cases c5:0≤x5_1
     ·rw[if_pos c5] at H;have c5b0:decide (0≤x5_1)=true:=decide_eq_true c5;clear c5;by_cases c6:x5_1<(l1.length:Int)
      ·rw[if_pos c6] at H;have c6b0:decide (x5_1<(l1.length:Int))=true:=decide_eq_true c6;clear c6;replace H:=Option.bind_eq_some_iff.mp H;obtain⟨t375,A70,H⟩:=H;replace H:(if t375=true then(laws_eqHoldS.l0 k1 l0 l1 (wrap64 (x5_1+1))) else(some false))=some r:=H;have A7:=qah.mk A70;clear A70;by_cases c8:t375=true
       ·subst c8
        have H1:(laws_eqHoldS.l0 k1 l0 l1 (wrap64 (x5_1+1)))=some r:=by rw[if_pos rfl] at H;exact H
        clear H;have H:=H1;clear H1;have H':=qah.mk H;clear H
        try go_wp2
        replace HB:=qah.mk (below_drew1 HB.out);have p373:0≤(x5_1:Int):=of_decide_eq_true (za7);have q373:x5_1<(l0.length:Int):=of_decide_eq_true (za7);obtain⟨ad373,e373,hx373_0,hx373_1⟩:=at_T72 HR0.out x5_1 p373 q373;have hw373_1:=hx373_1;have hw373_0:=hx373_0
        cases e373
        replace hx373_0:=(HB.out.cell (World.block_lt_of_cell? w _ hx373_0)).trans hx373_0;replace hx373_1:=(HB.out.cell (World.block_lt_of_cell? w _ hx373_1)).trans hx373_1;replace p373:=eq_true p373;replace q373:=eq_true q373;have p374:0≤(x5_1:Int):=of_decide_eq_true (za7);have q374:x5_1<(l1.length:Int):=of_decide_eq_true (za7);obtain⟨ad374,e374,hx374_0,hx374_1⟩:=at_T72 HR1.out x5_1 p374 q374;have hw374_1:=hx374_1;have hw374_0:=hx374_0
        cases e374
        replace hx374_0:=(HB.out.cell (World.block_lt_of_cell? w _ hx374_0)).trans hx374_0;replace hx374_1:=(HB.out.cell (World.block_lt_of_cell? w _ hx374_1)).trans hx374_1;replace p374:=eq_true p374;replace q374:=eq_true q374
        refine start_ (n:=10) (S:=fun w'=>w'.cell? (ad373.add ((x5_1).toNat*2))=some (.int .i64 ((rd_T72 l0 x5_1).f0))∧w'.cell? ⟨(ad373.add ((x5_1).toNat*2)).block,(ad373.add ((x5_1).toNat*2)).off+1,none⟩=some (.int .i64 ((rd_T72 l0 x5_1).f1))∧w'.cell? (ad374.add ((x5_1).toNat*2))=some (.int .i64 ((rd_T72 l1 x5_1).f0))∧w'.cell? ⟨(ad374.add ((x5_1).toNat*2)).block,(ad374.add ((x5_1).toNat*2)).off+1,none⟩=some (.int .i64 ((rd_T72 l1 x5_1).f1))) (ds:=[]) #[false,false,false,false,false,false,false,false,false,false] (by kernel_rfl) rfl rfl ⟨((HB.out.cell (World.block_lt_of_cell? w _ hw373_0)).trans hw373_0),((HB.out.cell (World.block_lt_of_cell? w _ hw373_1)).trans hw373_1),((HB.out.cell (World.block_lt_of_cell? w _ hw374_0)).trans hw374_0),((HB.out.cell (World.block_lt_of_cell? w _ hw374_1)).trans hw374_1)⟩ (fun hHeld=>?_);refine with_tabW laws_eqHoldS.tab6 laws_eqHoldS.bits6 (fun HT_ HW_=>?_)
        generalize wr.drew=w9 at HB hx373_0 hx373_1 hx374_0 hx374_1 hHeld ⊢;refine qaq (i:=0) (N:=some 17) (v:=?_) (a':=?_) #[true,false,false,false,false,false,false,false,false,false] rfl rfl (qal HT_.out (by kernel_rfl)) (fun _ _ _ h=>h) (Or.inl ⟨by rfl,?_⟩) ?_ ?_;rotate_left
        ·intro w';go_simp
         with_reducible rfl
        rotate_left
        ·simp only[Act.put,List.setIfInBounds_toArray,List.set_cons_zero,List.set_cons_succ,qaj,qak];rfl
        refine qaq (i:=1) (N:=some 18) (v:=?_) (a':=?_) #[true,true,false,false,false,false,false,false,false,false] rfl rfl (qal HT_.out (by kernel_rfl)) (fun _ _ _ h=>h) (Or.inl ⟨by rfl,?_⟩) ?_ ?_;rotate_left
        ·intro w';go_simp
         with_reducible rfl
        rotate_left
        ·simp only[Act.put,List.setIfInBounds_toArray,List.set_cons_zero,List.set_cons_succ,qaj,qak];rfl
        refine qaq (i:=2) (N:=some 19) (v:=?_) (a':=?_) #[true,true,true,false,false,false,false,false,false,false] rfl rfl (qal HT_.out (by kernel_rfl)) (fun _ _ _ h=>h) (Or.inl ⟨by rfl,?_⟩) ?_ ?_;rotate_left
        ·intro w';go_simp
         with_reducible rfl
        rotate_left
        ·simp only[Act.put,List.setIfInBounds_toArray,List.set_cons_zero,List.set_cons_succ,qaj,qak];rfl
        refine qaq (i:=4) (N:=some 21) (v:=?_) (a':=?_) #[true,true,true,false,true,false,false,false,false,false] rfl rfl (qal HT_.out (by kernel_rfl)) (fun _ _ _ h=>h) (Or.inl ⟨by rfl,?_⟩) ?_ ?_;rotate_left
        ·intro w';go_simp
         with_reducible rfl
        rotate_left
        ·simp only[Act.put,List.setIfInBounds_toArray,List.set_cons_zero,List.set_cons_succ,qaj,qak];rfl
        refine qaq (i:=5) (N:=some 22) (v:=?_) (a':=?_) #[true,true,true,false,true,true,false,false,false,false] rfl rfl (qal HT_.out (by kernel_rfl)) (fun _ _ _ h=>h) (Or.inl ⟨by rfl,?_⟩) ?_ ?_;rotate_left
        ·intro w';go_simp
         with_reducible rfl
        rotate_left
        ·simp only[Act.put,List.setIfInBounds_toArray,List.set_cons_zero,List.set_cons_succ,qaj,qak];rfl
        refine qaq (i:=6) (N:=some 23) (v:=?_) (a':=?_) #[true,true,true,false,true,true,true,false,false,false] rfl rfl (qal HT_.out (by kernel_rfl)) (fun _ _ _ h=>h) (Or.inl ⟨by rfl,?_⟩) ?_ ?_;rotate_left
        ·intro w';go_simp
         with_reducible rfl
        rotate_left
        ·simp only[Act.put,List.setIfInBounds_toArray,List.set_cons_zero,List.set_cons_succ,qaj,qak];rfl
        refine take_ (i:=3) (N:=some 20) (v:=?_) (a':=?_) #[true,true,true,true,true,true,true,false,false,false] rfl rfl (take_ofW HT_.out HW_.out (by kernel_rfl)) (fun _ _ _ h=>h) (Or.inl ⟨by rfl,?_⟩) hHeld ?_ ?_;rotate_left
        ·rintro w' ⟨s0,s1,s2,s3⟩;go_simp
         with_reducible rfl
        rotate_left
        ·simp only[Act.put,List.setIfInBounds_toArray,List.set_cons_zero,List.set_cons_succ,qaj,qak];rfl
        refine take_ (i:=7) (N:=some 24) (v:=?_) (a':=?_) #[true,true,true,true,true,true,true,true,false,false] rfl rfl (take_ofW HT_.out HW_.out (by kernel_rfl)) (fun _ _ _ h=>h) (Or.inl ⟨by rfl,?_⟩) hHeld ?_ ?_;rotate_left
        ·rintro w' ⟨s0,s1,s2,s3⟩;go_simp
         with_reducible rfl
        rotate_left
        ·simp only[Act.put,List.setIfInBounds_toArray,List.set_cons_zero,List.set_cons_succ,qaj,qak];rfl
        refine one_ (i:=8) (N:=some 25) #[true,true,true,true,true,true,true,true,true,false] rfl rfl (one_of HT_.out (by kernel_rfl)) (by decide) (fun K hK=>?_);refine goes_ Try.func45 (by kernel_rfl) rfl #[.agg #[.int .i64 ((rd_T72 l0 x5_1).f0),.int .i64 ((rd_T72 l0 x5_1).f1)],.agg #[.int .i64 ((rd_T72 l1 x5_1).f0),.int .i64 ((rd_T72 l1 x5_1).f1)]] (by rfl) rfl rfl (by(try simp only[List.map_toArray,List.map_cons,List.map_nil]);first|done|rfl|(simp only[List.length_drop,List.length_take];rfl)) ?_
        with_reducible refine(laws_eqHold.calls ((rd_T72 l0 x5_1).f0) ((rd_T72 l0 x5_1).f1) ((rd_T72 l1 x5_1).f0) ((rd_T72 l1 x5_1).f1) true _ A7.out).mono ?_
        rintro e w10 ⟨rfl,hb⟩;refine⟨_,rfl,?_⟩;replace HB:=qah.mk (qaa (za1 HB) hb);(try clear hb);(try clear hb2);(try clear hk);(try clear hi);refine hK.out _ _ ⟨((HB.out.cell (World.block_lt_of_cell? w _ hw373_0)).trans hw373_0),((HB.out.cell (World.block_lt_of_cell? w _ hw373_1)).trans hw373_1),((HB.out.cell (World.block_lt_of_cell? w _ hw374_0)).trans hw374_0),((HB.out.cell (World.block_lt_of_cell? w _ hw374_1)).trans hw374_1)⟩ (fun hHeld=>?_);clear hK K;refine norm_ (a':=?_) ?_ ?_;rotate_left
        ·show Act.put _ (some 25) _=_;simp only[Act.put,List.setIfInBounds_toArray,List.set_cons_zero,List.set_cons_succ,qaj,qak];rfl
        refine qaq (i:=9) (N:=some 26) (v:=?_) (a':=?_) #[true,true,true,true,true,true,true,true,true,true] rfl rfl (qal HT_.out (by kernel_rfl)) (fun _ _ _ h=>h) (Or.inl ⟨by rfl,?_⟩) ?_ ?_;rotate_left
        ·intro w';go_simp
         with_reducible rfl
        rotate_left
        ·simp only[Act.put,List.setIfInBounds_toArray,List.set_cons_zero,List.set_cons_succ,qaj,qak];rfl
        refine done_ (done_of HT_.out (by kernel_rfl)) ?_
        try go_wp2
        go_roundg k1
        case measure=>have:=HK1.out;omega
        case rel=>exact⟨(wrap64 (x5_1+1)),(za11),H',⟨by have:=HK1.out;omega⟩,⟨za1 HB⟩⟩
       ·replace c8:=Bool.eq_false_iff.mpr c8;subst c8
        have H1:(some false)=some r:=by rw[if_neg (show ¬(false=true) by decide)] at H;exact H
        clear H;have H:=H1;clear H1;obtain rfl:=Option.some.inj H
        try go_wp2
        replace HB:=qah.mk (below_drew1 HB.out);have p373:0≤(x5_1:Int):=of_decide_eq_true (za7);have q373:x5_1<(l0.length:Int):=of_decide_eq_true (za7);obtain⟨ad373,e373,hx373_0,hx373_1⟩:=at_T72 HR0.out x5_1 p373 q373;have hw373_1:=hx373_1;have hw373_0:=hx373_0
        cases e373
        replace hx373_0:=(HB.out.cell (World.block_lt_of_cell? w _ hx373_0)).trans hx373_0;replace hx373_1:=(HB.out.cell (World.block_lt_of_cell? w _ hx373_1)).trans hx373_1;replace p373:=eq_true p373;replace q373:=eq_true q373;have p374:0≤(x5_1:Int):=of_decide_eq_true (za7);have q374:x5_1<(l1.length:Int):=of_decide_eq_true (za7);obtain⟨ad374,e374,hx374_0,hx374_1⟩:=at_T72 HR1.out x5_1 p374 q374;have hw374_1:=hx374_1;have hw374_0:=hx374_0
        cases e374
        replace hx374_0:=(HB.out.cell (World.block_lt_of_cell? w _ hx374_0)).trans hx374_0;replace hx374_1:=(HB.out.cell (World.block_lt_of_cell? w _ hx374_1)).trans hx374_1;replace p374:=eq_true p374;replace q374:=eq_true q374
        refine start_ (n:=10) (S:=fun w'=>w'.cell? (ad373.add ((x5_1).toNat*2))=some (.int .i64 ((rd_T72 l0 x5_1).f0))∧w'.cell? ⟨(ad373.add ((x5_1).toNat*2)).block,(ad373.add ((x5_1).toNat*2)).off+1,none⟩=some (.int .i64 ((rd_T72 l0 x5_1).f1))∧w'.cell? (ad374.add ((x5_1).toNat*2))=some (.int .i64 ((rd_T72 l1 x5_1).f0))∧w'.cell? ⟨(ad374.add ((x5_1).toNat*2)).block,(ad374.add ((x5_1).toNat*2)).off+1,none⟩=some (.int .i64 ((rd_T72 l1 x5_1).f1))) (ds:=[]) #[false,false,false,false,false,false,false,false,false,false] (by kernel_rfl) rfl rfl ⟨((HB.out.cell (World.block_lt_of_cell? w _ hw373_0)).trans hw373_0),((HB.out.cell (World.block_lt_of_cell? w _ hw373_1)).trans hw373_1),((HB.out.cell (World.block_lt_of_cell? w _ hw374_0)).trans hw374_0),((HB.out.cell (World.block_lt_of_cell? w _ hw374_1)).trans hw374_1)⟩ (fun hHeld=>?_);refine with_tabW laws_eqHoldS.tab6 laws_eqHoldS.bits6 (fun HT_ HW_=>?_)
        generalize wr.drew=w11 at HB hx373_0 hx373_1 hx374_0 hx374_1 hHeld ⊢;refine qaq (i:=0) (N:=some 17) (v:=?_) (a':=?_) #[true,false,false,false,false,false,false,false,false,false] rfl rfl (qal HT_.out (by kernel_rfl)) (fun _ _ _ h=>h) (Or.inl ⟨by rfl,?_⟩) ?_ ?_;rotate_left
        ·intro w';go_simp
         with_reducible rfl
        rotate_left
        ·simp only[Act.put,List.setIfInBounds_toArray,List.set_cons_zero,List.set_cons_succ,qaj,qak];rfl
        refine qaq (i:=1) (N:=some 18) (v:=?_) (a':=?_) #[true,true,false,false,false,false,false,false,false,false] rfl rfl (qal HT_.out (by kernel_rfl)) (fun _ _ _ h=>h) (Or.inl ⟨by rfl,?_⟩) ?_ ?_;rotate_left
        ·intro w';go_simp
         with_reducible rfl
        rotate_left
        ·simp only[Act.put,List.setIfInBounds_toArray,List.set_cons_zero,List.set_cons_succ,qaj,qak];rfl
        refine qaq (i:=2) (N:=some 19) (v:=?_) (a':=?_) #[true,true,true,false,false,false,false,false,false,false] rfl rfl (qal HT_.out (by kernel_rfl)) (fun _ _ _ h=>h) (Or.inl ⟨by rfl,?_⟩) ?_ ?_;rotate_left
        ·intro w';go_simp
         with_reducible rfl
        rotate_left
        ·simp only[Act.put,List.setIfInBounds_toArray,List.set_cons_zero,List.set_cons_succ,qaj,qak];rfl
        refine qaq (i:=4) (N:=some 21) (v:=?_) (a':=?_) #[true,true,true,false,true,false,false,false,false,false] rfl rfl (qal HT_.out (by kernel_rfl)) (fun _ _ _ h=>h) (Or.inl ⟨by rfl,?_⟩) ?_ ?_;rotate_left
        ·intro w';go_simp
         with_reducible rfl
        rotate_left
        ·simp only[Act.put,List.setIfInBounds_toArray,List.set_cons_zero,List.set_cons_succ,qaj,qak];rfl
        refine qaq (i:=5) (N:=some 22) (v:=?_) (a':=?_) #[true,true,true,false,true,true,false,false,false,false] rfl rfl (qal HT_.out (by kernel_rfl)) (fun _ _ _ h=>h) (Or.inl ⟨by rfl,?_⟩) ?_ ?_;rotate_left
        ·intro w';go_simp
         with_reducible rfl
        rotate_left
        ·simp only[Act.put,List.setIfInBounds_toArray,List.set_cons_zero,List.set_cons_succ,qaj,qak];rfl
        refine qaq (i:=6) (N:=some 23) (v:=?_) (a':=?_) #[true,true,true,false,true,true,true,false,false,false] rfl rfl (qal HT_.out (by kernel_rfl)) (fun _ _ _ h=>h) (Or.inl ⟨by rfl,?_⟩) ?_ ?_;rotate_left
        ·intro w';go_simp
         with_reducible rfl
        rotate_left
        ·simp only[Act.put,List.setIfInBounds_toArray,List.set_cons_zero,List.set_cons_succ,qaj,qak];rfl
        refine take_ (i:=3) (N:=some 20) (v:=?_) (a':=?_) #[true,true,true,true,true,true,true,false,false,false] rfl rfl (take_ofW HT_.out HW_.out (by kernel_rfl)) (fun _ _ _ h=>h) (Or.inl ⟨by rfl,?_⟩) hHeld ?_ ?_;rotate_left
        ·rintro w' ⟨s0,s1,s2,s3⟩;go_simp
         with_reducible rfl
        rotate_left
        ·simp only[Act.put,List.setIfInBounds_toArray,List.set_cons_zero,List.set_cons_succ,qaj,qak];rfl
        refine take_ (i:=7) (N:=some 24) (v:=?_) (a':=?_) #[true,true,true,true,true,true,true,true,false,false] rfl rfl (take_ofW HT_.out HW_.out (by kernel_rfl)) (fun _ _ _ h=>h) (Or.inl ⟨by rfl,?_⟩) hHeld ?_ ?_;rotate_left
        ·rintro w' ⟨s0,s1,s2,s3⟩;go_simp
         with_reducible rfl
        rotate_left
        ·simp only[Act.put,List.setIfInBounds_toArray,List.set_cons_zero,List.set_cons_succ,qaj,qak];rfl
        refine one_ (i:=8) (N:=some 25) #[true,true,true,true,true,true,true,true,true,false] rfl rfl (one_of HT_.out (by kernel_rfl)) (by decide) (fun K hK=>?_);refine goes_ Try.func45 (by kernel_rfl) rfl #[.agg #[.int .i64 ((rd_T72 l0 x5_1).f0),.int .i64 ((rd_T72 l0 x5_1).f1)],.agg #[.int .i64 ((rd_T72 l1 x5_1).f0),.int .i64 ((rd_T72 l1 x5_1).f1)]] (by rfl) rfl rfl (by(try simp only[List.map_toArray,List.map_cons,List.map_nil]);first|done|rfl|(simp only[List.length_drop,List.length_take];rfl)) ?_
        with_reducible refine(laws_eqHold.calls ((rd_T72 l0 x5_1).f0) ((rd_T72 l0 x5_1).f1) ((rd_T72 l1 x5_1).f0) ((rd_T72 l1 x5_1).f1) false _ A7.out).mono ?_
        rintro e w12 ⟨rfl,hb⟩;refine⟨_,rfl,?_⟩;replace HB:=qah.mk (qaa (za1 HB) hb);(try clear hb);(try clear hb2);(try clear hk);(try clear hi);refine hK.out _ _ ⟨((HB.out.cell (World.block_lt_of_cell? w _ hw373_0)).trans hw373_0),((HB.out.cell (World.block_lt_of_cell? w _ hw373_1)).trans hw373_1),((HB.out.cell (World.block_lt_of_cell? w _ hw374_0)).trans hw374_0),((HB.out.cell (World.block_lt_of_cell? w _ hw374_1)).trans hw374_1)⟩ (fun hHeld=>?_);clear hK K;refine norm_ (a':=?_) ?_ ?_;rotate_left
        ·show Act.put _ (some 25) _=_;simp only[Act.put,List.setIfInBounds_toArray,List.set_cons_zero,List.set_cons_succ,qaj,qak];rfl
        refine qaq (i:=9) (N:=some 26) (v:=?_) (a':=?_) #[true,true,true,true,true,true,true,true,true,true] rfl rfl (qal HT_.out (by kernel_rfl)) (fun _ _ _ h=>h) (Or.inl ⟨by rfl,?_⟩) ?_ ?_;rotate_left
        ·intro w';go_simp
         with_reducible rfl
        rotate_left
        ·simp only[Act.put,List.setIfInBounds_toArray,List.set_cons_zero,List.set_cons_succ,qaj,qak];rfl
        refine done_ (done_of HT_.out (by kernel_rfl)) ?_
        try go_wp2
        go_ret;exact⟨za8,za1 HB⟩
      ·rw[if_neg c6] at H;exact absurd H (by simp)
     ·rw[if_neg c5] at H;exact absurd H (by simp)
    ·rw[if_neg c4] at H;have c4b0:decide (x5_1<(l0.length:Int))=false:=decide_eq_false c4;clear c4;obtain rfl:=Option.some.inj H;go_wp2;go_ret;exact⟨za8,za1 HB⟩
 ·rw[if_neg c3] at H;have c3b0:((l0.length:Int) == (l1.length:Int))=false:=beq_eq_false_iff_ne.mpr c3;have c3b1:((l0.length:Int) != (l1.length:Int))=true:=bne_iff_ne.mpr c3
  have c3b2:(l0.length == l1.length)=false:=by first|simpa using c3|(simp at c3 ⊢;omega)
  obtain rfl:=Option.some.inj H;go_enter Try.func27,Try.ntmps27;go_wp2;go_ret;exact⟨za8,za1 HB⟩
def laws_eqStock.f (k:Nat) (a0_0:Int) (l0_1:List (S72)) (a1_0:Int) (l1_1:List (S72)):Option (Bool):=if a0_0=a1_0 then((laws_eqHoldS.f k l0_1 l1_1).bind fun t378=>(if t378=true then(some true) else(some false))) else(some false)
theorem laws_eqStock.mono:∀a0 a1 a2 a3 k,LeO (laws_eqStock.f k a0 a1 a2 a3) (laws_eqStock.f (k+1) a0 a1 a2 a3):=by
 intro a0 a1 a2 a3 k;unfold laws_eqStock.f
 repeat' first|(with_reducible exact laws_eqHoldS.mono _ _ _)|(with_reducible exact LeO.refl _)|(with_reducible exact LeO.none _)|(with_reducible refine LeO.ite ?_ ?_)|(with_reducible refine LeO.bind ?_ (fun _=>?_))|exact laws_eqHoldS.mono _ _ _|exact LeO.none _|refine LeO.ite ?_ ?_|refine LeO.bind ?_ (fun _=>?_)
set_option maxHeartbeats 8000000 in
set_option maxRecDepth 100000 in
theorem laws_eqStock.calls (k:Nat) (a0_0:Int) (A0_1:Option Addr) (c0_1:Nat) (l0_1:List (S72)) (a1_0:Int) (A1_1:Option Addr) (c1_1:Nat) (l1_1:List (S72)) (r:Bool) (w:World) (hr0_1:Kd.C k72 w A0_1 l0_1.length l0_1) (hc0_1:l0_1.length≤c0_1) (hr1_1:Kd.C k72 w A1_1 l1_1.length l1_1) (hc1_1:l1_1.length≤c1_1) (h:laws_eqStock.f k a0_0 l0_1 a1_0 l1_1=some r) :
  Calls Try.prog 12 #[.agg #[.int .i64 a0_0,.slice A0_1 l0_1.length c0_1],.agg #[.int .i64 a1_0,.slice A1_1 l1_1.length c1_1]] w fun e w'=>e=.returned (.bool r)∧Below w.heap.size w w':=by
 have hu39:=Try.underlying39;have HR0_1:=qah.mk hr0_1;have HC0_1:=qah.mk hc0_1;clear hr0_1 hc0_1;have HR1_1:=qah.mk hr1_1;have HC1_1:=qah.mk hc1_1;clear hr1_1 hc1_1;have HB:=qah.mk (Below.refl w.heap.size w);have H:(if a0_0=a1_0 then((laws_eqHoldS.f k l0_1 l1_1).bind fun t378=>(if t378=true then(some true) else(some false))) else(some false))=some r:=h;clear h;by_cases c3:a0_0=a1_0
 ·rw[if_pos c3] at H;have c3b0:(a0_0 == a1_0)=true:=beq_iff_eq.mpr c3;have c3b1:(a0_0 != a1_0)=false:=bne_eq_false_iff_eq.mpr c3;clear c3;replace H:=Option.bind_eq_some_iff.mp H;obtain⟨t378,A40,H⟩:=H;replace H:(if t378=true then(some true) else(some false))=some r:=H;have A4:=qah.mk A40;clear A40;by_cases c5:t378=true
  ·subst c5
   have H1:(some true)=some r:=by rw[if_pos rfl] at H;exact H
   clear H;have H:=H1;clear H1;obtain rfl:=Option.some.inj H;go_enter Try.func12,Try.ntmps12
   go_wp2_with(first|((with_reducible refine qag (N:=2) rfl ?_);refine zX (N:=2) (cs:=#[.int .i64 a0_0,.slice A0_1 l0_1.length c0_1]) (t:=39) ?_;intro gb376 hg w6 hbox hb;have BK376:=qah.mk hbox;have GW376:=zH (w:=w) hg (za1 HB);have GE376:=GW376;replace HB:=qah.mk (qaa (za1 HB) hb);clear hb hbox hg)|((with_reducible refine qag (N:=3) rfl ?_);refine zX (N:=3) (cs:=#[.int .i64 a1_0,.slice A1_1 l1_1.length c1_1]) (t:=39) ?_;intro gb377 hg w7 hbox hb;have BK377:=qah.mk hbox;have GW377:=zH (w:=w) hg (za0 HB GE376);have GE377:=GW377;replace HB:=qah.mk (qaa (za0 HB GE376) hb);have NB376_377:=zL BK376 hg;have NB377_376:=zG BK376 hg;replace BK376:=zY BK376 hb;clear hb hbox hg;have hnb8:=NB376_377.out;have hnc8:=NB377_376.out;obtain⟨hcz9_0,hcz9_1,hfz9_0,hfz9_1⟩:=zC2 BK376;obtain⟨hcz10_0,hcz10_1,hfz10_0,hfz10_1⟩:=zC2 BK377)|((with_reducible refine qaf (f:=27) rfl ?_);refine zF (some 14) Try.func27 #[.slice A0_1 l0_1.length c0_1,.slice A1_1 l1_1.length c1_1] ?_;(with_reducible refine(laws_eqHoldS.calls k _ _ l0_1 _ _ l1_1 true _ ?side1 ?side2 ?side3 ?side4 A4.out).mono ?_);(case side1=>exact zR HR0_1 HB);(case side2=>exact HC0_1.out);(case side3=>exact zR HR1_1 HB);(case side4=>exact HC1_1.out);rintro e w11 ⟨rfl,hb⟩;refine⟨_,rfl,?_⟩;replace BK376:=zY BK376 hb;replace BK377:=zY BK377 hb;replace HB:=qah.mk (qaa (za2 HB GE376 GE377) hb);(try clear hb)))
   go_ret;exact⟨za8,za2 HB GE376 GE377⟩
  ·replace c5:=Bool.eq_false_iff.mpr c5;subst c5
   have H1:(some false)=some r:=by rw[if_neg (show ¬(false=true) by decide)] at H;exact H
   clear H;have H:=H1;clear H1;obtain rfl:=Option.some.inj H;go_enter Try.func12,Try.ntmps12
   go_wp2_with(first|((with_reducible refine qag (N:=2) rfl ?_);refine zX (N:=2) (cs:=#[.int .i64 a0_0,.slice A0_1 l0_1.length c0_1]) (t:=39) ?_;intro gb376 hg w12 hbox hb;have BK376:=qah.mk hbox;have GW376:=zH (w:=w) hg (za1 HB);have GE376:=GW376;replace HB:=qah.mk (qaa (za1 HB) hb);clear hb hbox hg)|((with_reducible refine qag (N:=3) rfl ?_);refine zX (N:=3) (cs:=#[.int .i64 a1_0,.slice A1_1 l1_1.length c1_1]) (t:=39) ?_;intro gb377 hg w13 hbox hb;have BK377:=qah.mk hbox;have GW377:=zH (w:=w) hg (za0 HB GE376);have GE377:=GW377;replace HB:=qah.mk (qaa (za0 HB GE376) hb);have NB376_377:=zL BK376 hg;have NB377_376:=zG BK376 hg;replace BK376:=zY BK376 hb;clear hb hbox hg;have hnb14:=NB376_377.out;have hnc14:=NB377_376.out;obtain⟨hcz15_0,hcz15_1,hfz15_0,hfz15_1⟩:=zC2 BK376;obtain⟨hcz16_0,hcz16_1,hfz16_0,hfz16_1⟩:=zC2 BK377)|((with_reducible refine qaf (f:=27) rfl ?_);refine zF (some 14) Try.func27 #[.slice A0_1 l0_1.length c0_1,.slice A1_1 l1_1.length c1_1] ?_;(with_reducible refine(laws_eqHoldS.calls k _ _ l0_1 _ _ l1_1 false _ ?side1 ?side2 ?side3 ?side4 A4.out).mono ?_);(case side1=>exact zR HR0_1 HB);(case side2=>exact HC0_1.out);(case side3=>exact zR HR1_1 HB);(case side4=>exact HC1_1.out);rintro e w17 ⟨rfl,hb⟩;refine⟨_,rfl,?_⟩;replace BK376:=zY BK376 hb;replace BK377:=zY BK377 hb;replace HB:=qah.mk (qaa (za2 HB GE376 GE377) hb);(try clear hb)))
   go_ret;exact⟨za8,za2 HB GE376 GE377⟩
 ·rw[if_neg c3] at H;have c3b0:(a0_0 == a1_0)=false:=beq_eq_false_iff_ne.mpr c3;have c3b1:(a0_0 != a1_0)=true:=bne_iff_ne.mpr c3;obtain rfl:=Option.some.inj H;go_enter Try.func12,Try.ntmps12
  go_wp2_with(first|((with_reducible refine qag (N:=2) rfl ?_);refine zX (N:=2) (cs:=#[.int .i64 a0_0,.slice A0_1 l0_1.length c0_1]) (t:=39) ?_;intro gb376 hg w18 hbox hb;have BK376:=qah.mk hbox;have GW376:=zH (w:=w) hg (za1 HB);have GE376:=GW376;replace HB:=qah.mk (qaa (za1 HB) hb);clear hb hbox hg)|((with_reducible refine qag (N:=3) rfl ?_);refine zX (N:=3) (cs:=#[.int .i64 a1_0,.slice A1_1 l1_1.length c1_1]) (t:=39) ?_;intro gb377 hg w19 hbox hb;have BK377:=qah.mk hbox;have GW377:=zH (w:=w) hg (za0 HB GE376);have GE377:=GW377;replace HB:=qah.mk (qaa (za0 HB GE376) hb);have NB376_377:=zL BK376 hg;have NB377_376:=zG BK376 hg;replace BK376:=zY BK376 hb;clear hb hbox hg;have hnb20:=NB376_377.out;have hnc20:=NB377_376.out;obtain⟨hcz21_0,hcz21_1,hfz21_0,hfz21_1⟩:=zC2 BK376;obtain⟨hcz22_0,hcz22_1,hfz22_0,hfz22_1⟩:=zC2 BK377))
  go_ret;exact⟨za8,za2 HB GE376 GE377⟩
def laws_markIntS.l0:Nat→List Int→Int→Int→Option (Int × List Int)
 |0,_,_,_=>none
 |k+1,x0,x1,x5=>if x5<(x0.length:Int) then(if 0≤x5 then(laws_markIntS.l0 k (x0.set (x5:Int).toNat x1) (wrap64 (x1+1)) (wrap64 (x5+1))) else(none)) else(some (x1,x0))
def laws_markIntS.f (k:Nat) (l0:List Int) (a1:Int):Option (Int × List Int):=laws_markIntS.l0 k l0 a1 0
theorem laws_markIntS.mono_l:∀k,(∀y0 y1 y2,LeO (laws_markIntS.l0 k y0 y1 y2) (laws_markIntS.l0 (k+1) y0 y1 y2))
 |0=>fun _ _ _ r h=>by simp[laws_markIntS.l0] at h
 |k+1=>by
  have ih0:=laws_markIntS.mono_l k
  ·intro y0 y1 y2;unfold laws_markIntS.l0
   repeat' first|(with_reducible exact ih0 _ _ _)|(with_reducible exact LeO.refl _)|(with_reducible exact LeO.none _)|(with_reducible refine LeO.ite ?_ ?_)|(with_reducible refine LeO.bind ?_ (fun _=>?_))|exact ih0 _ _ _|exact LeO.none _|refine LeO.ite ?_ ?_|refine LeO.bind ?_ (fun _=>?_)
theorem laws_markIntS.mono:∀a0 a1 k,LeO (laws_markIntS.f k a0 a1) (laws_markIntS.f (k+1) a0 a1):=by
 intro a0 a1 k;have ih0:=laws_markIntS.mono_l k;unfold laws_markIntS.f
 repeat' first|(with_reducible exact ih0 _ _ _)|(with_reducible exact LeO.refl _)|(with_reducible exact LeO.none _)|(with_reducible refine LeO.ite ?_ ?_)|(with_reducible refine LeO.bind ?_ (fun _=>?_))|exact ih0 _ _ _|exact LeO.none _|refine LeO.ite ?_ ?_|refine LeO.bind ?_ (fun _=>?_)
set_option maxHeartbeats 8000000 in
set_option maxRecDepth 100000 in
theorem laws_markIntS.calls (k:Nat) (P0_:Nat→Prop) (u9000_:Value) (l0:List Int) (a1:Int) (r1:Int) (r2:List Int) (w0 w:World) (hB:Below w0.heap.size w0 w) (ho0:Kd.R (Kd.int .i64) 3 w w0.heap.size P0_ u9000_ l0) (h:laws_markIntS.f k l0 a1=some (r1,r2)) :
  Calls Try.prog 57 #[u9000_,.int .i64 a1] w fun e w'=>e=.returned (.int .i64 r1)∧Kd.R (Kd.int .i64) 3 w' w0.heap.size (fun k_=>(P0_ k_∨w.heap.size≤k_)) u9000_ r2∧Below w0.heap.size w0 w'∧Kept w w' (fun k_=>P0_ k_):=by
 have HO0:=qah.mk (show Kd.R (Kd.int .i64) 3 w w0.heap.size (fun k_=>(P0_ k_∨w.heap.size≤k_)) u9000_ l0 from Kd.R_mono ho0 (fun k_ hk=>(.inl hk)));have HK:=qah.mk (Kept.refl w (fun k_=>P0_ k_));have HW0:=qah.mk hB.size;have HB:=qah.mk hB;clear hB;have H:(laws_markIntS.l0 k l0 a1 0)=some (r1,r2):=h;clear h;have H':=qah.mk H;clear H;go_enter Try.func57,Try.ntmps57;go_wp2
 go_loopg [1,5] k (fun kq v1 v5 w'=>∃(x0_1:List Int) (x1_1:Int) (x5_1:Int),v1=.int .i64 x1_1∧v5=.int .i64 x5_1∧qah (laws_markIntS.l0 kq x0_1 x1_1 x5_1=some (r1,r2))∧qah (kq≤k)∧qah (Kd.R (Kd.int .i64) 3 w' w0.heap.size (fun k_=>(P0_ k_∨w.heap.size≤k_)) u9000_ x0_1)∧qah (Kept w w' (fun k_=>P0_ k_))∧qah (Below w0.heap.size w0 w'))
 case atStart=>exact⟨(l0),(a1),(0),(za11),(za11),H',⟨Nat.le_refl _⟩,⟨za5 HO0⟩,⟨za13 HK⟩,⟨za1 HB⟩⟩
 case round=>
  clear H'
  try clear p2
  obtain⟨x0_1,x1_1,x5_1,rfl,rfl,HA,HK1,HO_0,HK,HB⟩:=hrel
  cases gk with
  |zero=>exact absurd HA.out (by simp[laws_markIntS.l0])
  |succ k1=>
   have H:=HA.out;clear HA;simp only[laws_markIntS.l0] at H;by_cases c3:x5_1<(x0_1.length:Int)
   ·rw[if_pos c3] at H;have c3b0:decide (x5_1<(x0_1.length:Int))=true:=decide_eq_true c3;clear c3;by_cases c4:0≤x5_1
    ·rw[if_pos c4] at H;have c4b0:decide (0≤x5_1)=true:=decide_eq_true c4;clear c4;obtain⟨y379,hy379⟩:∃y_:List Int,y_=(x0_1.set (x5_1:Int).toNat x1_1):=⟨_,rfl⟩
     replace H:(laws_markIntS.l0 k1 y379 (wrap64 (x1_1+1)) (wrap64 (x5_1+1)))=some (r1,r2):=by first|(rw[hy379];with_reducible exact H)|(have H2_:=(Option.bind_some _ _).symm.trans H;rw[hy379];with_reducible exact H2_)|(have H2_:=(Option.bind_some _ _).symm.trans H;with_reducible exact H2_)|with_reducible exact H|(rw[hy379];exact H)|exact H
     have Ny379:=qah.mk hy379;clear hy379;have H':=qah.mk H;clear H;obtain⟨Ao6,co6,eo6⟩:=Kd.R_slice HO_0.out;subst eo6;have p5:0≤(x5_1:Int):=of_decide_eq_true (za7);have q5:(x5_1:Int)<((x0_1.length:Int):Int):=of_decide_eq_true (za7);obtain⟨go5,co5,eo5,gb5,gl5,cl5,HG5⟩:=Kd.R_form HO_0.out (by omega);(first|cases eo5|(injection eo5 with ea_ en_ ec_;(first|subst ea_|(injection ea_ with ea_;subst ea_));subst ec_;clear en_));have GB5:=qah.mk gb5;have GG5:=qah.mk HG5;clear gb5 gl5 HG5;have HMgo5:=qah.mk (show(P0_ go5∨w.heap.size≤go5) from(HO_0.out.1 _ rfl));obtain⟨hx5_0,hf5_0⟩:=Kd.R_celln 0 HO_0.out (x5_1:Int) p5 q5;replace p5:=eq_true p5;replace q5:=eq_true q5;have HP7:=Kd.R_putg HO_0.out (x5_1:Int) x1_1
     go_wp2_with(first|((with_reducible refine gate_store (t:=3) (p:=15) rfl ?_);refine store_event (t:=3) (p:=15) (v:=?vo_w8) (w1:=(wr.setCell ⟨go5,(x5_1:Int).toNat,none⟩ (.int .i64 x1_1))) ?hg ?ho ?hn ?hr ?_;(case ho=>rfl);(case hg=>rfl);(case hn=>rfl);(case hr=>first|(go_simp;done)|(go_simp;rfl));intro w8 hw;have hg:wr.grownBy w8 (some go5):=(by rw[hw];exact HP7.2);have hp_:Kd.R (Kd.int .i64) 3 w8 w0.heap.size (fun k_=>(P0_ k_∨w.heap.size≤k_)) (.slice (some ⟨go5,0,none⟩) x0_1.length co6) y379:=(by rw[hw,Ny379.out];exact HP7.1);clear HP7;replace HB:=qah.mk ((by rw[hw];exact below_set (HB.out) GB5.out:Below w0.heap.size w0 w8));replace HK:=qah.mk (Kept.of_grown (S:=(fun k_=>P0_ k_)) hg (za13 HK) (fun k_ e_=>(HO_0.out.1 k_ e_)));replace HO_0:=qah.mk hp_;clear hg hw hp_))
     go_roundg k1
     case measure=>have:=HK1.out;omega
     case rel=>exact⟨(y379),(wrap64 (x1_1+1)),(wrap64 (x5_1+1)),(za11),(za11),H',⟨by have:=HK1.out;omega⟩,⟨za5 HO_0⟩,⟨za13 HK⟩,⟨za1 HB⟩⟩
    ·rw[if_neg c4] at H;exact absurd H (by simp)
   ·rw[if_neg c3] at H;have c3b0:decide (x5_1<(x0_1.length:Int))=false:=decide_eq_false c3;clear c3;simp only[Option.some.injEq,Prod.mk.injEq] at H;obtain⟨rfl,rfl⟩:=H;obtain⟨Ao9,co9,eo9⟩:=Kd.R_slice HO_0.out;subst eo9;go_wp2;go_ret;exact⟨za8,za5 HO_0,za1 HB,za13 HK⟩
end Go.Proofs.Ytbomcadjkcmcgaa.Print
