-- Written by squeeze.py: not trusted, Lean checks it.
import Derived.Test.YtbcepmkifomifaaDoorZK
import Derived.Test.YtbcepmkifomifaaDoorZh1
import Derived.Test.YtbcepmkifomifaaDoorZk0
import Derived.Test.YtbcepmkifomifaaDoorZl0
import Derived.Test.YtbcepmkifomifaaDoorZm0
namespace Go.Proofs.YtbcepmkifomifaaDoor.Print
open Go.RowKit Go.Proofs.YtbcepmkifomifaaDoorW.PrintWords Go.Proofs.YtbcepmkifomifaaDoorW.PrintLast Go.Proofs.YtbcepmkifomifaaDoorW.PrintMore
attribute [local go_sem] max2_int min2_int max_two min_two max_three min_three max_four min_four
set_option linter.unusedVariables false
set_option linter.unusedSimpArgs false
mutual
def laws_FnExactRecRead.j0:Nat→ByteArray→Bool→Bool→Int→Int→List Int→Int→Int→List Int→Option (Bool)
 |0,_,_,_,_,_,_,_,_,_=>none
 |k+1,x0,x4,x32,x325000,x325001,x325002,x332000,x332001,x332002=>if x32=true then(some false) else((laws_markRec.f k x332000 x332001 x332002 1).bind fun bt333=>((laws_heldRec.f k x332000 x332001 bt333.2 1).bind fun t335=>(if t335<0 then(some false) else(if t335=bt333.1 then((impl_RecRead.f k x0).bind fun bt336=>((laws_eqRec.f k bt336.1 bt336.2.1 bt336.2.2.1 x325000 x325001 x325002).bind fun t343=>(if t343=true then(laws_FnExactRecRead.j1 k bt333.1 (bt336.2.2.2 != x4) x332000 x332001 bt333.2) else(laws_FnExactRecRead.j1 k bt333.1 true x332000 x332001 bt333.2)))) else(some false)))))
def laws_FnExactRecRead.j1:Nat→Int→Bool→Int→Int→List Int→Option (Bool)
 |0,_,_,_,_,_=>none
 |k+1,x7,x57,x332000,x332001,x332002=>if x57=true then(some false) else((laws_heldRec.f k x332000 x332001 x332002 1).bind fun t344=>(if t344<0 then(some false) else(if t344=x7 then(some true) else(some false))))
end
def laws_FnExactRecRead.f (k:Nat) (a0:ByteArray):Option (Bool):=if(a0.size:Int)>1048576 then(some true) else((spec_RecRead.f k a0).bind fun bt318=>((impl_RecRead.f k a0).bind fun bt325=>((laws_eqRec.f k bt325.1 bt325.2.1 bt325.2.2.1 bt318.1 bt318.2.1 bt318.2.2.1).bind fun t332=>(if t332=true then(laws_FnExactRecRead.j0 k a0 bt318.2.2.2 (bt325.2.2.2 != bt318.2.2.2) bt318.1 bt318.2.1 bt318.2.2.1 bt325.1 bt325.2.1 bt325.2.2.1) else(laws_FnExactRecRead.j0 k a0 bt318.2.2.2 true bt318.1 bt318.2.1 bt318.2.2.1 bt325.1 bt325.2.1 bt325.2.2.1)))))
theorem laws_FnExactRecRead.mono_l:∀k,(∀y0 y1 y2 y3 y4 y5 y6 y7 y8,LeO (laws_FnExactRecRead.j0 k y0 y1 y2 y3 y4 y5 y6 y7 y8) (laws_FnExactRecRead.j0 (k+1) y0 y1 y2 y3 y4 y5 y6 y7 y8))∧(∀y0 y1 y2 y3 y4,LeO (laws_FnExactRecRead.j1 k y0 y1 y2 y3 y4) (laws_FnExactRecRead.j1 (k+1) y0 y1 y2 y3 y4))
 |0=>⟨fun _ _ _ _ _ _ _ _ _ r h=>by simp[laws_FnExactRecRead.j0] at h,fun _ _ _ _ _ r h=>by simp[laws_FnExactRecRead.j1] at h⟩
 |k+1=>by
  obtain⟨ih0,ih1⟩:=laws_FnExactRecRead.mono_l k;refine⟨?_,?_⟩
  ·intro y0 y1 y2 y3 y4 y5 y6 y7 y8;unfold laws_FnExactRecRead.j0
   repeat' first|(with_reducible exact ih0 _ _ _ _ _ _ _ _ _)|(with_reducible exact ih1 _ _ _ _ _)|(with_reducible exact impl_RecRead.mono _ _)|(with_reducible exact laws_eqRec.mono _ _ _ _ _ _ _)|(with_reducible exact laws_heldRec.mono _ _ _ _ _)|(with_reducible exact laws_markRec.mono _ _ _ _ _)|(with_reducible exact spec_RecRead.mono _ _)|(with_reducible exact LeO.refl _)|(with_reducible exact LeO.none _)|(with_reducible refine LeO.ite ?_ ?_)|(with_reducible refine LeO.bind ?_ (fun _=>?_))|exact ih0 _ _ _ _ _ _ _ _ _|exact ih1 _ _ _ _ _|exact impl_RecRead.mono _ _|exact laws_eqRec.mono _ _ _ _ _ _ _|exact laws_heldRec.mono _ _ _ _ _|exact laws_markRec.mono _ _ _ _ _|exact spec_RecRead.mono _ _|exact LeO.none _|refine LeO.ite ?_ ?_|refine LeO.bind ?_ (fun _=>?_)
  ·intro y0 y1 y2 y3 y4;unfold laws_FnExactRecRead.j1
   repeat' first|(with_reducible exact ih0 _ _ _ _ _ _ _ _ _)|(with_reducible exact ih1 _ _ _ _ _)|(with_reducible exact impl_RecRead.mono _ _)|(with_reducible exact laws_eqRec.mono _ _ _ _ _ _ _)|(with_reducible exact laws_heldRec.mono _ _ _ _ _)|(with_reducible exact laws_markRec.mono _ _ _ _ _)|(with_reducible exact spec_RecRead.mono _ _)|(with_reducible exact LeO.refl _)|(with_reducible exact LeO.none _)|(with_reducible refine LeO.ite ?_ ?_)|(with_reducible refine LeO.bind ?_ (fun _=>?_))|exact ih0 _ _ _ _ _ _ _ _ _|exact ih1 _ _ _ _ _|exact impl_RecRead.mono _ _|exact laws_eqRec.mono _ _ _ _ _ _ _|exact laws_heldRec.mono _ _ _ _ _|exact laws_markRec.mono _ _ _ _ _|exact spec_RecRead.mono _ _|exact LeO.none _|refine LeO.ite ?_ ?_|refine LeO.bind ?_ (fun _=>?_)
theorem laws_FnExactRecRead.mono:∀a0 k,LeO (laws_FnExactRecRead.f k a0) (laws_FnExactRecRead.f (k+1) a0):=by
 intro a0 k;obtain⟨ih0,ih1⟩:=laws_FnExactRecRead.mono_l k;unfold laws_FnExactRecRead.f
 repeat' first|(with_reducible exact ih0 _ _ _ _ _ _ _ _ _)|(with_reducible exact ih1 _ _ _ _ _)|(with_reducible exact impl_RecRead.mono _ _)|(with_reducible exact laws_eqRec.mono _ _ _ _ _ _ _)|(with_reducible exact laws_heldRec.mono _ _ _ _ _)|(with_reducible exact laws_markRec.mono _ _ _ _ _)|(with_reducible exact spec_RecRead.mono _ _)|(with_reducible exact LeO.refl _)|(with_reducible exact LeO.none _)|(with_reducible refine LeO.ite ?_ ?_)|(with_reducible refine LeO.bind ?_ (fun _=>?_))|exact ih0 _ _ _ _ _ _ _ _ _|exact ih1 _ _ _ _ _|exact impl_RecRead.mono _ _|exact laws_eqRec.mono _ _ _ _ _ _ _|exact laws_heldRec.mono _ _ _ _ _|exact laws_markRec.mono _ _ _ _ _|exact spec_RecRead.mono _ _|exact LeO.none _|refine LeO.ite ?_ ?_|refine LeO.bind ?_ (fun _=>?_)
set_option maxHeartbeats 8000000 in
set_option maxRecDepth 100000 in
theorem laws_FnExactRecRead.calls (k:Nat) (a0:ByteArray) (r:Bool) (w:World) (hgw:Tryd.GW w) (h:laws_FnExactRecRead.f k a0=some r) :
  Calls Tryd.prog 4 #[.string a0] w fun e w'=>e=.returned (.bool r)∧Below w.heap.size w w':=by
 have HGW:=qaj.mk hgw;clear hgw;have hu25:=Tryd.underlying25;have HB:=qaj.mk (Below.refl w.heap.size w);have H:(if(a0.size:Int)>1048576 then(some true) else((spec_RecRead.f k a0).bind fun bt318=>((impl_RecRead.f k a0).bind fun bt325=>((laws_eqRec.f k bt325.1 bt325.2.1 bt325.2.2.1 bt318.1 bt318.2.1 bt318.2.2.1).bind fun t332=>(if t332=true then(laws_FnExactRecRead.j0 k a0 bt318.2.2.2 (bt325.2.2.2 != bt318.2.2.2) bt318.1 bt318.2.1 bt318.2.2.1 bt325.1 bt325.2.1 bt325.2.2.1) else(laws_FnExactRecRead.j0 k a0 bt318.2.2.2 true bt318.1 bt318.2.1 bt318.2.2.1 bt325.1 bt325.2.1 bt325.2.2.1))))))=some r:=h;clear h;by_cases c2:(a0.size:Int)>1048576
 ·rw[if_pos c2] at H;have c2b0:decide (1048576<(a0.size:Int))=true:=decide_eq_true c2;have c2b1:decide (1048576<a0.size)=true:=decide_eq_true (by omega);clear c2;obtain rfl:=Option.some.inj H;go_enter Tryd.func4,Tryd.ntmps4;go_wp2;go_ret;exact⟨za10,za2 HB⟩
 ·rw[if_neg c2] at H;have c2b0:decide (1048576<(a0.size:Int))=false:=decide_eq_false c2;have c2b1:decide (1048576<a0.size)=false:=decide_eq_false (by omega);clear c2;replace H:=Option.bind_eq_some_iff.mp H;obtain⟨⟨t318,t319,t320,t323⟩,A30,H⟩:=H;replace H:((impl_RecRead.f k a0).bind fun bt325=>((laws_eqRec.f k bt325.1 bt325.2.1 bt325.2.2.1 t318 t319 t320).bind fun t332=>(if t332=true then(laws_FnExactRecRead.j0 k a0 t323 (bt325.2.2.2 != t323) t318 t319 t320 bt325.1 bt325.2.1 bt325.2.2.1) else(laws_FnExactRecRead.j0 k a0 t323 true t318 t319 t320 bt325.1 bt325.2.1 bt325.2.2.1))))=some r:=H;have A3:=qaj.mk A30;clear A30;replace H:=Option.bind_eq_some_iff.mp H;obtain⟨⟨t325,t326,t327,t330⟩,A40,H⟩:=H;replace H:((laws_eqRec.f k t325 t326 t327 t318 t319 t320).bind fun t332=>(if t332=true then(laws_FnExactRecRead.j0 k a0 t323 (t330 != t323) t318 t319 t320 t325 t326 t327) else(laws_FnExactRecRead.j0 k a0 t323 true t318 t319 t320 t325 t326 t327)))=some r:=H;have A4:=qaj.mk A40;clear A40;have HC5:=qaj.mk H;clear H;go_enter Tryd.func4,Tryd.ntmps4
  go_upto_region 5 with(first|((with_reducible refine qae (f:=20) rfl ?_);refine zF (some 16) Tryd.func20 #[.string a0] ?_;(with_reducible refine(spec_RecRead.calls k a0 t318 t319 t320 t323 _ A3.out).mono ?_);rintro e w6 ⟨v321,rfl,ho0,hb⟩;refine⟨_,rfl,?_⟩;have HO322:=qaj.mk (Kd.R_lower ho0 (qam (za2 HB)));replace HB:=qaj.mk (qaa (za2 HB) hb);(try clear hb);(try clear ho0))|((with_reducible refine qai (N:=3) rfl ?_);refine zX (N:=3) (cs:=#[.int .i64 0,.int .i64 0,.slice none 0 0]) (t:=25) ?_;intro gb324 hg w7 hbox hb;replace HO322:=qaj.mk (Kd.R_below (za3 HO322) hb);have BK324:=qaj.mk hbox;have GW324:=zH (w:=w) hg (za2 HB);have GE324:=GW324;replace HB:=qaj.mk (qaa (za2 HB) hb);clear hb hbox hg;obtain⟨hcz8_0,hcz8_1,hcz8_2,hfz8_0,hfz8_1,hfz8_2⟩:=zC3 BK324;obtain⟨Ao9,co9,eo9⟩:=Kd.R_slice HO322.out;subst eo9)|((with_reducible refine qae (f:=18) rfl ?_);refine zF (some 21) Tryd.func18 #[.string a0] ?_;(with_reducible refine(impl_RecRead.calls k a0 t325 t326 t327 t330 _ ?gw_ A4.out).mono ?_);(case gw_=>exact Tryd.GW.below HGW.out (za0 HB GE324));rintro e w10 ⟨v328,rfl,ho0,hb⟩;refine⟨_,rfl,?_⟩;have HO329:=qaj.mk (Kd.R_lower (Kd.R_new' ho0 (Kd.R_lt (by(with_reducible repeat(first|apply Kd.R_alloc|apply Kd.R_drewN|apply Kd.R_drew));exact(Kd.R_mono (Kd.R_far (p:=⟨gb324,2,none⟩) (Kd.R_far (p:=⟨gb324,1,none⟩) (Kd.R_far (p:=⟨gb324,0,none⟩) (Kd.R_types HO322.out BK324.out (by decide)) (fun _ hk=>hk.2) (.int .i64 t318)) (fun _ hk=>hk.2) (.int .i64 t319)) (fun _ hk=>hk.2) (.slice Ao9 t320.length co9)) (fun _ h_=>h_.1))))) (qam (za0 HB GE324)));replace HO322:=qaj.mk (Kd.R_elder' (by(with_reducible repeat(first|apply Kd.R_alloc|apply Kd.R_drewN|apply Kd.R_drew));exact(Kd.R_mono (Kd.R_far (p:=⟨gb324,2,none⟩) (Kd.R_far (p:=⟨gb324,1,none⟩) (Kd.R_far (p:=⟨gb324,0,none⟩) (Kd.R_types HO322.out BK324.out (by decide)) (fun _ hk=>hk.2) (.int .i64 t318)) (fun _ hk=>hk.2) (.int .i64 t319)) (fun _ hk=>hk.2) (.slice Ao9 t320.length co9)) (fun _ h_=>h_.1))) (Kd.R_base ho0) hb);replace BK324:=qaj.mk (qah (g:=gb324) (o:=.cells #[.int .i64 t318,.int .i64 t319,.slice Ao9 t320.length co9] 25 (0,0)) (by(with_reducible repeat(first|refine qac ?_ _|refine qad ?_|refine qab ?_ _));refine qaf (cs:=#[.int .i64 t318,.int .i64 t319,.slice none 0 0]) ?_ 2 _ rfl;(with_reducible repeat(first|refine qac ?_ _|refine qad ?_|refine qab ?_ _));refine qaf (cs:=#[.int .i64 t318,.int .i64 0,.slice none 0 0]) ?_ 1 _ rfl;(with_reducible repeat(first|refine qac ?_ _|refine qad ?_|refine qab ?_ _));refine qaf (cs:=#[.int .i64 0,.int .i64 0,.slice none 0 0]) ?_ 0 _ rfl;(with_reducible repeat(first|refine qac ?_ _|refine qad ?_|refine qab ?_ _));exact BK324.out) hb);replace HB:=qaj.mk (qaa (za0 HB GE324) hb);(try clear hb);(try clear ho0))|((with_reducible refine qai (N:=5) rfl ?_);refine zX (N:=5) (cs:=#[.int .i64 0,.int .i64 0,.slice none 0 0]) (t:=25) ?_;intro gb331 hg w11 hbox hb;replace HO322:=qaj.mk (Kd.R_below (za3 HO322) hb);replace HO329:=qaj.mk (Kd.R_below (za3 HO329) hb);have BK331:=qaj.mk hbox;have GW331:=zH (w:=w) hg (za0 HB GE324);have GE331:=GW331;replace HB:=qaj.mk (qaa (za0 HB GE324) hb);have NB324_331:=zL BK324 hg;have NB331_324:=zG BK324 hg;replace BK324:=zY BK324 hb;clear hb hbox hg;have hnb12:=NB331_324.out;have hnc12:=NB324_331.out;obtain⟨hcz13_0,hcz13_1,hcz13_2,hfz13_0,hfz13_1,hfz13_2⟩:=zC3 BK331;obtain⟨Ao14,co14,eo14⟩:=Kd.R_slice HO329.out;subst eo14))
  (try simp only[Act.put,List.setIfInBounds_toArray,List.set_cons_zero,List.set_cons_succ])
  go_cut [32] (fun v32 wc=>∃(kq:Nat) (x32_4:Bool),v32=.bool x32_4∧qaj (laws_FnExactRecRead.j0 kq a0 t323 x32_4 t318 t319 t320 t325 t326 t327=some r)∧qaj (kq≤k)∧qaj (Kd.R (Kd.int .i64) 3 wc w.heap.size (fun k_=>some k_≠((.slice Ao14 t327.length co14):Value).ownBlock) (.slice Ao9 t320.length co9) t320)∧qaj (Kd.R (Kd.int .i64) 3 wc w.heap.size (fun k_=>some k_≠((.slice Ao9 t320.length co9):Value).ownBlock) (.slice Ao14 t327.length co14) t327)∧qaj (wc.heap[gb324]?=some (.cells #[.int .i64 t318,.int .i64 t319,(.slice Ao9 t320.length co9)] 25 (0,0)))∧qaj (wc.heap[gb331]?=some (.cells #[.int .i64 t325,.int .i64 t326,(.slice Ao14 t327.length co14)] 25 (0,0)))∧qaj (Below w.heap.size w wc))
  case first=>
   have H:=HC5.out;clear HC5;replace H:=Option.bind_eq_some_iff.mp H;obtain⟨t332,A150,H⟩:=H;replace H:(if t332=true then(laws_FnExactRecRead.j0 k a0 t323 (t330 != t323) t318 t319 t320 t325 t326 t327) else(laws_FnExactRecRead.j0 k a0 t323 true t318 t319 t320 t325 t326 t327))=some r:=H;have A15:=qaj.mk A150;clear A150;by_cases c16:t332=true
   ·subst c16
    have H1:(laws_FnExactRecRead.j0 k a0 t323 (t330 != t323) t318 t319 t320 t325 t326 t327)=some r:=by rw[if_pos rfl] at H;exact H
    clear H;have H:=H1;clear H1;have H':=qaj.mk H;clear H;have hnb17:=NB331_324.out;have hnc17:=NB324_331.out;obtain⟨hcz18_0,hcz18_1,hcz18_2,hfz18_0,hfz18_1,hfz18_2⟩:=zC3 BK331;obtain⟨hcz19_0,hcz19_1,hcz19_2,hfz19_0,hfz19_1,hfz19_2⟩:=zC3 BK324
    go_wp2_with(first|((with_reducible refine qae (f:=21) rfl ?_);refine zF (some 26) Tryd.func21 #[.agg #[.int .i64 t325,.int .i64 t326,.slice Ao14 t327.length co14],.agg #[.int .i64 t318,.int .i64 t319,.slice Ao9 t320.length co9]] ?_;(with_reducible refine(laws_eqRec.calls k t325 t326 _ _ t327 t318 t319 _ _ t320 true _ ?side1 ?side2 ?side3 ?side4 A15.out).mono ?_);(case side1=>refine(Kd.R_reads' (e:=3) (base:=w.heap.size) (ok:=fun k_=>(True∧some k_≠(.slice Ao9 t320.length co9:Value).ownBlock)) (n:=t327.length) (c:=co14) ?_).2.2;exact(by(with_reducible repeat(first|apply Kd.R_alloc|apply Kd.R_drewN|apply Kd.R_drew));exact(Kd.R_mono (Kd.R_far (p:=⟨gb331,2,none⟩) (Kd.R_far (p:=⟨gb331,1,none⟩) (Kd.R_far (p:=⟨gb331,0,none⟩) (Kd.R_types HO329.out BK331.out (by decide)) (fun _ hk=>hk.2) (.int .i64 t325)) (fun _ hk=>hk.2) (.int .i64 t326)) (fun _ hk=>hk.2) (.slice Ao14 t327.length co14)) (fun _ h_=>h_.1))));(case side2=>exact(Kd.R_reads' HO329.out).2.1);(case side3=>refine(Kd.R_reads' (e:=3) (base:=w.heap.size) (ok:=fun k_=>(True∧some k_≠(.slice Ao14 t327.length co14:Value).ownBlock)) (n:=t320.length) (c:=co9) ?_).2.2;exact(by(with_reducible repeat(first|apply Kd.R_alloc|apply Kd.R_drewN|apply Kd.R_drew));exact(Kd.R_mono (Kd.R_far (p:=⟨gb331,2,none⟩) (Kd.R_far (p:=⟨gb331,1,none⟩) (Kd.R_far (p:=⟨gb331,0,none⟩) (Kd.R_types HO322.out BK331.out (by decide)) (fun _ hk=>hk.2) (.int .i64 t325)) (fun _ hk=>hk.2) (.int .i64 t326)) (fun _ hk=>hk.2) (.slice Ao14 t327.length co14)) (fun _ h_=>h_.1))));(case side4=>exact(Kd.R_reads' HO322.out).2.1);rintro e w20 ⟨rfl,hb⟩;refine⟨_,rfl,?_⟩;replace HO322:=qaj.mk (Kd.R_below (by(with_reducible repeat(first|apply Kd.R_alloc|apply Kd.R_drewN|apply Kd.R_drew));exact(Kd.R_mono (Kd.R_far (p:=⟨gb331,2,none⟩) (Kd.R_far (p:=⟨gb331,1,none⟩) (Kd.R_far (p:=⟨gb331,0,none⟩) (Kd.R_types HO322.out BK331.out (by decide)) (fun _ hk=>hk.2) (.int .i64 t325)) (fun _ hk=>hk.2) (.int .i64 t326)) (fun _ hk=>hk.2) (.slice Ao14 t327.length co14)) (fun _ h_=>h_.1))) hb);replace HO329:=qaj.mk (Kd.R_below (by(with_reducible repeat(first|apply Kd.R_alloc|apply Kd.R_drewN|apply Kd.R_drew));exact(Kd.R_mono (Kd.R_far (p:=⟨gb331,2,none⟩) (Kd.R_far (p:=⟨gb331,1,none⟩) (Kd.R_far (p:=⟨gb331,0,none⟩) (Kd.R_types HO329.out BK331.out (by decide)) (fun _ hk=>hk.2) (.int .i64 t325)) (fun _ hk=>hk.2) (.int .i64 t326)) (fun _ hk=>hk.2) (.slice Ao14 t327.length co14)) (fun _ h_=>h_.1))) hb);replace BK324:=qaj.mk (qah (g:=gb324) (o:=.cells #[.int .i64 t318,.int .i64 t319,.slice Ao9 t320.length co9] 25 (0,0)) (za4 NB324_331 BK324) hb);replace BK331:=qaj.mk (qah (g:=gb331) (o:=.cells #[.int .i64 t325,.int .i64 t326,.slice Ao14 t327.length co14] 25 (0,0)) (by(with_reducible repeat(first|refine qac ?_ _|refine qad ?_|refine qab ?_ _));refine qaf (cs:=#[.int .i64 t325,.int .i64 t326,.slice none 0 0]) ?_ 2 _ rfl;(with_reducible repeat(first|refine qac ?_ _|refine qad ?_|refine qab ?_ _));refine qaf (cs:=#[.int .i64 t325,.int .i64 0,.slice none 0 0]) ?_ 1 _ rfl;(with_reducible repeat(first|refine qac ?_ _|refine qad ?_|refine qab ?_ _));refine qaf (cs:=#[.int .i64 0,.int .i64 0,.slice none 0 0]) ?_ 0 _ rfl;(with_reducible repeat(first|refine qac ?_ _|refine qad ?_|refine qab ?_ _));exact BK331.out) hb);replace HB:=qaj.mk (qaa (za1 HB GE324 GE331) hb);(try clear hb)))
    go_meet
    case rel=>exact⟨_,((t330 != t323)),(za23),H',⟨za34⟩,⟨by(with_reducible repeat(first|apply Kd.R_alloc|apply Kd.R_drewN|apply Kd.R_drew));exact Kd.R_mono HO322.out (fun _ hk=>hk.2)⟩,⟨by(with_reducible repeat(first|apply Kd.R_alloc|apply Kd.R_drewN|apply Kd.R_drew));exact Kd.R_mono HO329.out (fun _ hk=>hk.2)⟩,⟨za18 BK324⟩,⟨za18 BK331⟩,⟨za1 HB GE324 GE331⟩⟩
   ·replace c16:=Bool.eq_false_iff.mpr c16;subst c16
    have H1:(laws_FnExactRecRead.j0 k a0 t323 true t318 t319 t320 t325 t326 t327)=some r:=by rw[if_neg (show ¬(false=true) by decide)] at H;exact H
    clear H;have H:=H1;clear H1;have H':=qaj.mk H;clear H;have hnb21:=NB331_324.out;have hnc21:=NB324_331.out;obtain⟨hcz22_0,hcz22_1,hcz22_2,hfz22_0,hfz22_1,hfz22_2⟩:=zC3 BK331;obtain⟨hcz23_0,hcz23_1,hcz23_2,hfz23_0,hfz23_1,hfz23_2⟩:=zC3 BK324
    go_wp2_with(first|((with_reducible refine qae (f:=21) rfl ?_);refine zF (some 26) Tryd.func21 #[.agg #[.int .i64 t325,.int .i64 t326,.slice Ao14 t327.length co14],.agg #[.int .i64 t318,.int .i64 t319,.slice Ao9 t320.length co9]] ?_;(with_reducible refine(laws_eqRec.calls k t325 t326 _ _ t327 t318 t319 _ _ t320 false _ ?side1 ?side2 ?side3 ?side4 A15.out).mono ?_);(case side1=>refine(Kd.R_reads' (e:=3) (base:=w.heap.size) (ok:=fun k_=>(True∧some k_≠(.slice Ao9 t320.length co9:Value).ownBlock)) (n:=t327.length) (c:=co14) ?_).2.2;exact(by(with_reducible repeat(first|apply Kd.R_alloc|apply Kd.R_drewN|apply Kd.R_drew));exact(Kd.R_mono (Kd.R_far (p:=⟨gb331,2,none⟩) (Kd.R_far (p:=⟨gb331,1,none⟩) (Kd.R_far (p:=⟨gb331,0,none⟩) (Kd.R_types HO329.out BK331.out (by decide)) (fun _ hk=>hk.2) (.int .i64 t325)) (fun _ hk=>hk.2) (.int .i64 t326)) (fun _ hk=>hk.2) (.slice Ao14 t327.length co14)) (fun _ h_=>h_.1))));(case side2=>exact(Kd.R_reads' HO329.out).2.1);(case side3=>refine(Kd.R_reads' (e:=3) (base:=w.heap.size) (ok:=fun k_=>(True∧some k_≠(.slice Ao14 t327.length co14:Value).ownBlock)) (n:=t320.length) (c:=co9) ?_).2.2;exact(by(with_reducible repeat(first|apply Kd.R_alloc|apply Kd.R_drewN|apply Kd.R_drew));exact(Kd.R_mono (Kd.R_far (p:=⟨gb331,2,none⟩) (Kd.R_far (p:=⟨gb331,1,none⟩) (Kd.R_far (p:=⟨gb331,0,none⟩) (Kd.R_types HO322.out BK331.out (by decide)) (fun _ hk=>hk.2) (.int .i64 t325)) (fun _ hk=>hk.2) (.int .i64 t326)) (fun _ hk=>hk.2) (.slice Ao14 t327.length co14)) (fun _ h_=>h_.1))));(case side4=>exact(Kd.R_reads' HO322.out).2.1);rintro e w24 ⟨rfl,hb⟩;refine⟨_,rfl,?_⟩;replace HO322:=qaj.mk (Kd.R_below (by(with_reducible repeat(first|apply Kd.R_alloc|apply Kd.R_drewN|apply Kd.R_drew));exact(Kd.R_mono (Kd.R_far (p:=⟨gb331,2,none⟩) (Kd.R_far (p:=⟨gb331,1,none⟩) (Kd.R_far (p:=⟨gb331,0,none⟩) (Kd.R_types HO322.out BK331.out (by decide)) (fun _ hk=>hk.2) (.int .i64 t325)) (fun _ hk=>hk.2) (.int .i64 t326)) (fun _ hk=>hk.2) (.slice Ao14 t327.length co14)) (fun _ h_=>h_.1))) hb);replace HO329:=qaj.mk (Kd.R_below (by(with_reducible repeat(first|apply Kd.R_alloc|apply Kd.R_drewN|apply Kd.R_drew));exact(Kd.R_mono (Kd.R_far (p:=⟨gb331,2,none⟩) (Kd.R_far (p:=⟨gb331,1,none⟩) (Kd.R_far (p:=⟨gb331,0,none⟩) (Kd.R_types HO329.out BK331.out (by decide)) (fun _ hk=>hk.2) (.int .i64 t325)) (fun _ hk=>hk.2) (.int .i64 t326)) (fun _ hk=>hk.2) (.slice Ao14 t327.length co14)) (fun _ h_=>h_.1))) hb);replace BK324:=qaj.mk (qah (g:=gb324) (o:=.cells #[.int .i64 t318,.int .i64 t319,.slice Ao9 t320.length co9] 25 (0,0)) (za4 NB324_331 BK324) hb);replace BK331:=qaj.mk (qah (g:=gb331) (o:=.cells #[.int .i64 t325,.int .i64 t326,.slice Ao14 t327.length co14] 25 (0,0)) (by(with_reducible repeat(first|refine qac ?_ _|refine qad ?_|refine qab ?_ _));refine qaf (cs:=#[.int .i64 t325,.int .i64 t326,.slice none 0 0]) ?_ 2 _ rfl;(with_reducible repeat(first|refine qac ?_ _|refine qad ?_|refine qab ?_ _));refine qaf (cs:=#[.int .i64 t325,.int .i64 0,.slice none 0 0]) ?_ 1 _ rfl;(with_reducible repeat(first|refine qac ?_ _|refine qad ?_|refine qab ?_ _));refine qaf (cs:=#[.int .i64 0,.int .i64 0,.slice none 0 0]) ?_ 0 _ rfl;(with_reducible repeat(first|refine qac ?_ _|refine qad ?_|refine qab ?_ _));exact BK331.out) hb);replace HB:=qaj.mk (qaa (za1 HB GE324 GE331) hb);(try clear hb)))
    go_meet
    case rel=>exact⟨_,(true),(za23),H',⟨za34⟩,⟨by(with_reducible repeat(first|apply Kd.R_alloc|apply Kd.R_drewN|apply Kd.R_drew));exact Kd.R_mono HO322.out (fun _ hk=>hk.2)⟩,⟨by(with_reducible repeat(first|apply Kd.R_alloc|apply Kd.R_drewN|apply Kd.R_drew));exact Kd.R_mono HO329.out (fun _ hk=>hk.2)⟩,⟨za18 BK324⟩,⟨za18 BK331⟩,⟨za1 HB GE324 GE331⟩⟩
  case rest=>
   clear HC5
   try clear c1
   try clear c2
   try clear c2b0
   try clear c2b1
   try clear p2
   try clear c4
   try clear c12
   try clear c16
   try clear c17
   try clear c18
   try clear c20
   try clear c21
   try clear hcz13_0
   try clear hcz13_1
   try clear hcz13_2
   try clear hcz18_0
   try clear hcz18_1
   try clear hcz18_2
   try clear hcz19_0
   try clear hcz19_1
   try clear hcz19_2
   try clear hcz22_0
   try clear hcz22_1
   try clear hcz22_2
   try clear hcz23_0
   try clear hcz23_1
   try clear hcz23_2
   try clear hcz8_0
   try clear hcz8_1
   try clear hcz8_2
   try clear hfz13_0
   try clear hfz13_1
   try clear hfz13_2
   try clear hfz18_0
   try clear hfz18_1
   try clear hfz18_2
   try clear hfz19_0
   try clear hfz19_1
   try clear hfz19_2
   try clear hfz22_0
   try clear hfz22_1
   try clear hfz22_2
   try clear hfz23_0
   try clear hfz23_1
   try clear hfz23_2
   try clear hfz8_0
   try clear hfz8_1
   try clear hfz8_2
   obtain⟨kq,x32_4,rfl,HA,HJ4,HO_325002,HO_332002,BK324,BK331,HB⟩:=hcut
   cases kq with
   |zero=>exact absurd HA.out (by simp[laws_FnExactRecRead.j0])
   |succ kj4=>
    have H:=HA.out;clear HA;simp only[laws_FnExactRecRead.j0] at H;by_cases c25:x32_4=true
    ·subst c25
     have H1:(some false)=some r:=by rw[if_pos rfl] at H;exact H
     clear H;have H:=H1;clear H1;obtain rfl:=Option.some.inj H;go_wp2;go_ret;exact⟨za10,za1 HB GE324 GE331⟩
    ·replace c25:=Bool.eq_false_iff.mpr c25;subst c25
     have H1:((laws_markRec.f kj4 t325 t326 t327 1).bind fun bt333=>((laws_heldRec.f kj4 t325 t326 bt333.2 1).bind fun t335=>(if t335<0 then(some false) else(if t335=bt333.1 then((impl_RecRead.f kj4 a0).bind fun bt336=>((laws_eqRec.f kj4 bt336.1 bt336.2.1 bt336.2.2.1 t318 t319 t320).bind fun t343=>(if t343=true then(laws_FnExactRecRead.j1 kj4 bt333.1 (bt336.2.2.2 != t323) t325 t326 bt333.2) else(laws_FnExactRecRead.j1 kj4 bt333.1 true t325 t326 bt333.2)))) else(some false)))))=some r:=by rw[if_neg (show ¬(false=true) by decide)] at H;exact H
     clear H;have H:=H1;clear H1;replace H:=Option.bind_eq_some_iff.mp H;obtain⟨⟨t333,t334⟩,A260,H⟩:=H;replace H:((laws_heldRec.f kj4 t325 t326 t334 1).bind fun t335=>(if t335<0 then(some false) else(if t335=t333 then((impl_RecRead.f kj4 a0).bind fun bt336=>((laws_eqRec.f kj4 bt336.1 bt336.2.1 bt336.2.2.1 t318 t319 t320).bind fun t343=>(if t343=true then(laws_FnExactRecRead.j1 kj4 t333 (bt336.2.2.2 != t323) t325 t326 t334) else(laws_FnExactRecRead.j1 kj4 t333 true t325 t326 t334)))) else(some false))))=some r:=H;have A26:=qaj.mk A260;clear A260;replace H:=Option.bind_eq_some_iff.mp H;obtain⟨t335,A270,H⟩:=H;replace H:(if t335<0 then(some false) else(if t335=t333 then((impl_RecRead.f kj4 a0).bind fun bt336=>((laws_eqRec.f kj4 bt336.1 bt336.2.1 bt336.2.2.1 t318 t319 t320).bind fun t343=>(if t343=true then(laws_FnExactRecRead.j1 kj4 t333 (bt336.2.2.2 != t323) t325 t326 t334) else(laws_FnExactRecRead.j1 kj4 t333 true t325 t326 t334)))) else(some false)))=some r:=H;have A27:=qaj.mk A270;clear A270;by_cases c28:t335<0
     ·rw[if_pos c28] at H;have c28b0:decide (t335<0)=true:=decide_eq_true c28;clear c28;obtain rfl:=Option.some.inj H;have hnb29:=NB331_324.out;have hnc29:=NB324_331.out;obtain⟨hcz30_0,hcz30_1,hcz30_2,hfz30_0,hfz30_1,hfz30_2⟩:=zC3 BK331
      go_wp2_with(first|((with_reducible refine qae (f:=22) rfl ?_);refine zF (some 35) Tryd.func22 #[.agg #[.int .i64 t325,.int .i64 t326,.slice Ao14 t327.length co14],.int .i64 1] ?_;(with_reducible refine(laws_markRec.calls kj4 t325 t326 (fun k_=>some k_=(.slice Ao14 t327.length co14:Value).ownBlock) (.slice Ao14 t327.length co14) t327 1 t333 t334 w _ ?side1 ?side2 A26.out).mono ?_);(case side1=>exact(za1 HB GE324 GE331));(case side2=>exact Kd.R_tight rfl HO_332002.out);rintro e w31 ⟨rfl,hy0,hb,hkp⟩;refine⟨_,rfl,?_⟩;replace HO_325002:=qaj.mk (Kd.R_mono (ok':=fun k_=>some k_≠(.slice Ao14 t327.length co14:Value).ownBlock) (Kd.R_keptB (HO_325002.out) hkp (fun k_ hk_ hs_=>(hk_) hs_)) (fun k_ hk_=>hk_.1));replace BK324:=qaj.mk (blk_kept (zB BK324) hkp (fun hs_=>(fun e_=>(Kd.R_ne HO_332002.out BK324.out (by decide)) e_) hs_));replace BK331:=qaj.mk (blk_kept (zB BK331) hkp (fun hs_=>(fun e_=>(Kd.R_ne HO_332002.out BK331.out (by decide)) e_) hs_));replace HO_332002:=qaj.mk (Kd.R_reok rfl hy0 (fun k_ e_=>HO_332002.out.1 k_ e_));replace HB:=qaj.mk hb;(try clear hb);(try clear hkp);(try clear hy0);obtain⟨hcz32_0,hcz32_1,hcz32_2,hfz32_0,hfz32_1,hfz32_2⟩:=zC3 BK331)|((with_reducible refine qae (f:=23) rfl ?_);refine goesL_ (some 38) rfl rfl Tryd.func23 (by kernel_rfl) rfl #[.agg #[.int .i64 t325,.int .i64 t326,.slice Ao14 t334.length co14],.int .i64 1] rfl (by(try simp only[List.map_toArray,List.map_cons,List.map_nil]);first|done|(rw[show t334.length=t327.length from(Kd.R_reads' HO_332002.out).1.symm]<;>rfl)|rfl|(simp only[List.length_drop,List.length_take];rfl)) ?_;(with_reducible refine(laws_heldRec.calls kj4 t325 t326 _ _ t334 1 t335 _ ?side1 ?side2 A27.out).mono ?_);(case side1=>repeat(first|exact(Kd.R_reads' HO_332002.out).2.2|(with_reducible refine Kd.C_alloc ?_ _)|(with_reducible refine Kd.C_drewN ?_ _)|(with_reducible refine Kd.C_drew ?_)));(case side2=>rw[show t334.length=t327.length from(Kd.R_reads' HO_332002.out).1.symm];exact(Kd.R_reads' HO_332002.out).2.1);rintro e w33 ⟨rfl,hb⟩;refine⟨_,rfl,?_⟩;replace HO_325002:=qaj.mk (Kd.R_below (za3 HO_325002) hb);replace HO_332002:=qaj.mk (Kd.R_below (za3 HO_332002) hb);replace BK324:=zY BK324 hb;replace BK331:=zY BK331 hb;replace HB:=qaj.mk (qaa (za1 HB GE324 GE331) hb);(try clear hb)))
      go_ret;exact⟨za10,za1 HB GE324 GE331⟩
     ·rw[if_neg c28] at H;have c28b0:decide (t335<0)=false:=decide_eq_false c28;clear c28;by_cases c34:t335=t333
      ·rw[if_pos c34] at H;have c34b0:(t335 == t333)=true:=beq_iff_eq.mpr c34;have c34b1:(t335 != t333)=false:=bne_eq_false_iff_eq.mpr c34;clear c34;replace H:=Option.bind_eq_some_iff.mp H;obtain⟨⟨t336,t337,t338,t341⟩,A350,H⟩:=H;replace H:((laws_eqRec.f kj4 t336 t337 t338 t318 t319 t320).bind fun t343=>(if t343=true then(laws_FnExactRecRead.j1 kj4 t333 (t341 != t323) t325 t326 t334) else(laws_FnExactRecRead.j1 kj4 t333 true t325 t326 t334)))=some r:=H;have A35:=qaj.mk A350;clear A350;have HC36:=qaj.mk H;clear H;have hnb37:=NB331_324.out;have hnc37:=NB324_331.out;obtain⟨hcz38_0,hcz38_1,hcz38_2,hfz38_0,hfz38_1,hfz38_2⟩:=zC3 BK331
       go_upto_region 16 with(first|((with_reducible refine qae (f:=22) rfl ?_);refine zF (some 35) Tryd.func22 #[.agg #[.int .i64 t325,.int .i64 t326,.slice Ao14 t327.length co14],.int .i64 1] ?_;(with_reducible refine(laws_markRec.calls kj4 t325 t326 (fun k_=>some k_=(.slice Ao14 t327.length co14:Value).ownBlock) (.slice Ao14 t327.length co14) t327 1 t333 t334 w _ ?side1 ?side2 A26.out).mono ?_);(case side1=>exact(za1 HB GE324 GE331));(case side2=>exact Kd.R_tight rfl HO_332002.out);rintro e w39 ⟨rfl,hy0,hb,hkp⟩;refine⟨_,rfl,?_⟩;replace HO_325002:=qaj.mk (Kd.R_mono (ok':=fun k_=>some k_≠(.slice Ao14 t327.length co14:Value).ownBlock) (Kd.R_keptB (HO_325002.out) hkp (fun k_ hk_ hs_=>(hk_) hs_)) (fun k_ hk_=>hk_.1));replace BK324:=qaj.mk (blk_kept (zB BK324) hkp (fun hs_=>(fun e_=>(Kd.R_ne HO_332002.out BK324.out (by decide)) e_) hs_));replace BK331:=qaj.mk (blk_kept (zB BK331) hkp (fun hs_=>(fun e_=>(Kd.R_ne HO_332002.out BK331.out (by decide)) e_) hs_));replace HO_332002:=qaj.mk (Kd.R_reok rfl hy0 (fun k_ e_=>HO_332002.out.1 k_ e_));replace HB:=qaj.mk hb;(try clear hb);(try clear hkp);(try clear hy0);obtain⟨hcz40_0,hcz40_1,hcz40_2,hfz40_0,hfz40_1,hfz40_2⟩:=zC3 BK331)|((with_reducible refine qae (f:=23) rfl ?_);refine goesL_ (some 38) rfl rfl Tryd.func23 (by kernel_rfl) rfl #[.agg #[.int .i64 t325,.int .i64 t326,.slice Ao14 t334.length co14],.int .i64 1] rfl (by(try simp only[List.map_toArray,List.map_cons,List.map_nil]);first|done|(rw[show t334.length=t327.length from(Kd.R_reads' HO_332002.out).1.symm]<;>rfl)|rfl|(simp only[List.length_drop,List.length_take];rfl)) ?_;(with_reducible refine(laws_heldRec.calls kj4 t325 t326 _ _ t334 1 t335 _ ?side1 ?side2 A27.out).mono ?_);(case side1=>repeat(first|exact(Kd.R_reads' HO_332002.out).2.2|(with_reducible refine Kd.C_alloc ?_ _)|(with_reducible refine Kd.C_drewN ?_ _)|(with_reducible refine Kd.C_drew ?_)));(case side2=>rw[show t334.length=t327.length from(Kd.R_reads' HO_332002.out).1.symm];exact(Kd.R_reads' HO_332002.out).2.1);rintro e w41 ⟨rfl,hb⟩;refine⟨_,rfl,?_⟩;replace HO_325002:=qaj.mk (Kd.R_below (za3 HO_325002) hb);replace HO_332002:=qaj.mk (Kd.R_below (za3 HO_332002) hb);replace BK324:=zY BK324 hb;replace BK331:=zY BK331 hb;replace HB:=qaj.mk (qaa (za1 HB GE324 GE331) hb);(try clear hb))|((with_reducible refine qae (f:=18) rfl ?_);refine zF (some 46) Tryd.func18 #[.string a0] ?_;(with_reducible refine(impl_RecRead.calls kj4 a0 t336 t337 t338 t341 _ ?gw_ A35.out).mono ?_);(case gw_=>exact Tryd.GW.below HGW.out (za1 HB GE324 GE331));rintro e w42 ⟨v339,rfl,ho0,hb⟩;refine⟨_,rfl,?_⟩;have HO340:=qaj.mk (Kd.R_lower (Kd.R_new' (Kd.R_new' ho0 (Kd.R_lt (za3 HO_325002))) (Kd.R_lt (za3 HO_332002))) (qam (za1 HB GE324 GE331)));replace HO_325002:=qaj.mk (Kd.R_elder' (za3 HO_325002) (Kd.R_base ho0) hb);replace HO_332002:=qaj.mk (Kd.R_elder' (za3 HO_332002) (Kd.R_base ho0) hb);replace BK324:=zY BK324 hb;replace BK331:=zY BK331 hb;replace HB:=qaj.mk (qaa (za1 HB GE324 GE331) hb);(try clear hb);(try clear ho0))|((with_reducible refine qai (N:=9) rfl ?_);refine zX (N:=9) (cs:=#[.int .i64 0,.int .i64 0,.slice none 0 0]) (t:=25) ?_;intro gb342 hg w43 hbox hb;replace HO_325002:=qaj.mk (Kd.R_below (za3 HO_325002) hb);replace HO_332002:=qaj.mk (Kd.R_below (za3 HO_332002) hb);replace HO340:=qaj.mk (Kd.R_below (za3 HO340) hb);have BK342:=qaj.mk hbox;have GW342:=zH (w:=w) hg (za1 HB GE324 GE331);have GE342:=GW342;replace HB:=qaj.mk (qaa (za1 HB GE324 GE331) hb);have NB324_342:=zL BK324 hg;have NB342_324:=zG BK324 hg;replace BK324:=zY BK324 hb;have NB331_342:=zL BK331 hg;have NB342_331:=zG BK331 hg;replace BK331:=zY BK331 hb;clear hb hbox hg;have hnb44:=NB342_324.out;have hnc44:=NB324_342.out;have hnb45:=NB342_331.out;have hnc45:=NB331_342.out;obtain⟨hcz46_0,hcz46_1,hcz46_2,hfz46_0,hfz46_1,hfz46_2⟩:=zC3 BK342;obtain⟨Ao47,co47,eo47⟩:=Kd.R_slice HO340.out;subst eo47))
       (try simp only[Act.put,List.setIfInBounds_toArray,List.set_cons_zero,List.set_cons_succ])
       go_cut [57] (fun v57 wc=>∃(kq:Nat) (x57_35:Bool),v57=.bool x57_35∧qaj (laws_FnExactRecRead.j1 kq t333 x57_35 t325 t326 t334=some r)∧qaj (kq≤kj4)∧qaj (Kd.R (Kd.int .i64) 3 wc w.heap.size (fun k_=>some k_≠((.slice Ao14 t327.length co14):Value).ownBlock∧some k_≠((.slice Ao47 t338.length co47):Value).ownBlock) (.slice Ao9 t320.length co9) t320)∧qaj (Kd.R (Kd.int .i64) 3 wc w.heap.size (fun k_=>some k_≠((.slice Ao9 t320.length co9):Value).ownBlock∧some k_≠((.slice Ao47 t338.length co47):Value).ownBlock) (.slice Ao14 t327.length co14) t334)∧qaj (Kd.R (Kd.int .i64) 3 wc w.heap.size (fun k_=>some k_≠((.slice Ao9 t320.length co9):Value).ownBlock∧some k_≠((.slice Ao14 t327.length co14):Value).ownBlock) (.slice Ao47 t338.length co47) t338)∧qaj (wc.heap[gb324]?=some (.cells #[.int .i64 t318,.int .i64 t319,(.slice Ao9 t320.length co9)] 25 (0,0)))∧qaj (wc.heap[gb331]?=some (.cells #[.int .i64 t325,.int .i64 t326,(.slice Ao14 t327.length co14)] 25 (0,0)))∧qaj (wc.heap[gb342]?=some (.cells #[.int .i64 t336,.int .i64 t337,(.slice Ao47 t338.length co47)] 25 (0,0)))∧qaj (Below w.heap.size w wc))
       case first=>
        have H:=HC36.out;clear HC36;replace H:=Option.bind_eq_some_iff.mp H;obtain⟨t343,A480,H⟩:=H;replace H:(if t343=true then(laws_FnExactRecRead.j1 kj4 t333 (t341 != t323) t325 t326 t334) else(laws_FnExactRecRead.j1 kj4 t333 true t325 t326 t334))=some r:=H;have A48:=qaj.mk A480;clear A480;by_cases c49:t343=true
        ·subst c49
         have H1:(laws_FnExactRecRead.j1 kj4 t333 (t341 != t323) t325 t326 t334)=some r:=by rw[if_pos rfl] at H;exact H
         clear H;have H:=H1;clear H1;have H':=qaj.mk H;clear H;have hnb50:=NB342_324.out;have hnc50:=NB324_342.out;have hnb51:=NB342_331.out;have hnc51:=NB331_342.out;obtain⟨hcz52_0,hcz52_1,hcz52_2,hfz52_0,hfz52_1,hfz52_2⟩:=zC3 BK342;have hnb53:=NB324_331.out;have hnc53:=NB331_324.out;obtain⟨hcz54_0,hcz54_1,hcz54_2,hfz54_0,hfz54_1,hfz54_2⟩:=zC3 BK324
         go_wp2_with(first|((with_reducible refine qae (f:=21) rfl ?_);refine zF (some 51) Tryd.func21 #[.agg #[.int .i64 t336,.int .i64 t337,.slice Ao47 t338.length co47],.agg #[.int .i64 t318,.int .i64 t319,.slice Ao9 t320.length co9]] ?_;(with_reducible refine(laws_eqRec.calls kj4 t336 t337 _ _ t338 t318 t319 _ _ t320 true _ ?side1 ?side2 ?side3 ?side4 A48.out).mono ?_);(case side1=>refine(Kd.R_reads' (e:=3) (base:=w.heap.size) (ok:=fun k_=>((True∧some k_≠(.slice Ao9 t320.length co9:Value).ownBlock)∧some k_≠(.slice Ao14 t327.length co14:Value).ownBlock)) (n:=t338.length) (c:=co47) ?_).2.2;exact(by(with_reducible repeat(first|apply Kd.R_alloc|apply Kd.R_drewN|apply Kd.R_drew));exact(Kd.R_mono (Kd.R_far (p:=⟨gb342,2,none⟩) (Kd.R_far (p:=⟨gb342,1,none⟩) (Kd.R_far (p:=⟨gb342,0,none⟩) (Kd.R_types HO340.out BK342.out (by decide)) (fun _ hk=>hk.2) (.int .i64 t336)) (fun _ hk=>hk.2) (.int .i64 t337)) (fun _ hk=>hk.2) (.slice Ao47 t338.length co47)) (fun _ h_=>h_.1))));(case side2=>exact(Kd.R_reads' HO340.out).2.1);(case side3=>refine(Kd.R_reads' (e:=3) (base:=w.heap.size) (ok:=fun k_=>(some k_≠(.slice Ao14 t327.length co14:Value).ownBlock∧some k_≠(.slice Ao47 t338.length co47:Value).ownBlock)) (n:=t320.length) (c:=co9) ?_).2.2;exact(by(with_reducible repeat(first|apply Kd.R_alloc|apply Kd.R_drewN|apply Kd.R_drew));exact(Kd.R_mono (Kd.R_far (p:=⟨gb342,2,none⟩) (Kd.R_far (p:=⟨gb342,1,none⟩) (Kd.R_far (p:=⟨gb342,0,none⟩) (Kd.R_types HO_325002.out BK342.out (by decide)) (fun _ hk=>hk.2) (.int .i64 t336)) (fun _ hk=>hk.2) (.int .i64 t337)) (fun _ hk=>hk.2) (.slice Ao47 t338.length co47)) (fun _ h_=>h_.1))));(case side4=>exact(Kd.R_reads' HO_325002.out).2.1);rintro e w55 ⟨rfl,hb⟩;refine⟨_,rfl,?_⟩;replace HO_325002:=qaj.mk (Kd.R_below (by(with_reducible repeat(first|apply Kd.R_alloc|apply Kd.R_drewN|apply Kd.R_drew));exact(Kd.R_mono (Kd.R_far (p:=⟨gb342,2,none⟩) (Kd.R_far (p:=⟨gb342,1,none⟩) (Kd.R_far (p:=⟨gb342,0,none⟩) (Kd.R_types HO_325002.out BK342.out (by decide)) (fun _ hk=>hk.2) (.int .i64 t336)) (fun _ hk=>hk.2) (.int .i64 t337)) (fun _ hk=>hk.2) (.slice Ao47 t338.length co47)) (fun _ h_=>h_.1))) hb);replace HO_332002:=qaj.mk (Kd.R_below (by(with_reducible repeat(first|apply Kd.R_alloc|apply Kd.R_drewN|apply Kd.R_drew));exact(Kd.R_mono (Kd.R_far (p:=⟨gb342,2,none⟩) (Kd.R_far (p:=⟨gb342,1,none⟩) (Kd.R_far (p:=⟨gb342,0,none⟩) (Kd.R_types HO_332002.out BK342.out (by decide)) (fun _ hk=>hk.2) (.int .i64 t336)) (fun _ hk=>hk.2) (.int .i64 t337)) (fun _ hk=>hk.2) (.slice Ao47 t338.length co47)) (fun _ h_=>h_.1))) hb);replace HO340:=qaj.mk (Kd.R_below (by(with_reducible repeat(first|apply Kd.R_alloc|apply Kd.R_drewN|apply Kd.R_drew));exact(Kd.R_mono (Kd.R_far (p:=⟨gb342,2,none⟩) (Kd.R_far (p:=⟨gb342,1,none⟩) (Kd.R_far (p:=⟨gb342,0,none⟩) (Kd.R_types HO340.out BK342.out (by decide)) (fun _ hk=>hk.2) (.int .i64 t336)) (fun _ hk=>hk.2) (.int .i64 t337)) (fun _ hk=>hk.2) (.slice Ao47 t338.length co47)) (fun _ h_=>h_.1))) hb);replace BK324:=qaj.mk (qah (g:=gb324) (o:=.cells #[.int .i64 t318,.int .i64 t319,.slice Ao9 t320.length co9] 25 (0,0)) (za4 NB324_342 BK324) hb);replace BK331:=qaj.mk (qah (g:=gb331) (o:=.cells #[.int .i64 t325,.int .i64 t326,.slice Ao14 t327.length co14] 25 (0,0)) (za4 NB331_342 BK331) hb);replace BK342:=qaj.mk (qah (g:=gb342) (o:=.cells #[.int .i64 t336,.int .i64 t337,.slice Ao47 t338.length co47] 25 (0,0)) (by(with_reducible repeat(first|refine qac ?_ _|refine qad ?_|refine qab ?_ _));refine qaf (cs:=#[.int .i64 t336,.int .i64 t337,.slice none 0 0]) ?_ 2 _ rfl;(with_reducible repeat(first|refine qac ?_ _|refine qad ?_|refine qab ?_ _));refine qaf (cs:=#[.int .i64 t336,.int .i64 0,.slice none 0 0]) ?_ 1 _ rfl;(with_reducible repeat(first|refine qac ?_ _|refine qad ?_|refine qab ?_ _));refine qaf (cs:=#[.int .i64 0,.int .i64 0,.slice none 0 0]) ?_ 0 _ rfl;(with_reducible repeat(first|refine qac ?_ _|refine qad ?_|refine qab ?_ _));exact BK342.out) hb);replace HB:=qaj.mk (qaa (za11 HB GE324 GE331 GE342) hb);(try clear hb)))
         go_meet
         case rel=>exact⟨_,((t341 != t323)),(za23),H',⟨za38 HJ4⟩,⟨za3 HO_325002⟩,⟨za3 HO_332002⟩,⟨by(with_reducible repeat(first|apply Kd.R_alloc|apply Kd.R_drewN|apply Kd.R_drew));exact Kd.R_mono HO340.out (fun _ hk=>⟨hk.1.2,hk.2⟩)⟩,⟨za18 BK324⟩,⟨za18 BK331⟩,⟨za18 BK342⟩,⟨za11 HB GE324 GE331 GE342⟩⟩
        ·replace c49:=Bool.eq_false_iff.mpr c49;subst c49
         have H1:(laws_FnExactRecRead.j1 kj4 t333 true t325 t326 t334)=some r:=by rw[if_neg (show ¬(false=true) by decide)] at H;exact H
         clear H;have H:=H1;clear H1;have H':=qaj.mk H;clear H;have hnb56:=NB342_324.out;have hnc56:=NB324_342.out;have hnb57:=NB342_331.out;have hnc57:=NB331_342.out;obtain⟨hcz58_0,hcz58_1,hcz58_2,hfz58_0,hfz58_1,hfz58_2⟩:=zC3 BK342;have hnb59:=NB324_331.out;have hnc59:=NB331_324.out;obtain⟨hcz60_0,hcz60_1,hcz60_2,hfz60_0,hfz60_1,hfz60_2⟩:=zC3 BK324
         go_wp2_with(first|((with_reducible refine qae (f:=21) rfl ?_);refine zF (some 51) Tryd.func21 #[.agg #[.int .i64 t336,.int .i64 t337,.slice Ao47 t338.length co47],.agg #[.int .i64 t318,.int .i64 t319,.slice Ao9 t320.length co9]] ?_;(with_reducible refine(laws_eqRec.calls kj4 t336 t337 _ _ t338 t318 t319 _ _ t320 false _ ?side1 ?side2 ?side3 ?side4 A48.out).mono ?_);(case side1=>refine(Kd.R_reads' (e:=3) (base:=w.heap.size) (ok:=fun k_=>((True∧some k_≠(.slice Ao9 t320.length co9:Value).ownBlock)∧some k_≠(.slice Ao14 t327.length co14:Value).ownBlock)) (n:=t338.length) (c:=co47) ?_).2.2;exact(by(with_reducible repeat(first|apply Kd.R_alloc|apply Kd.R_drewN|apply Kd.R_drew));exact(Kd.R_mono (Kd.R_far (p:=⟨gb342,2,none⟩) (Kd.R_far (p:=⟨gb342,1,none⟩) (Kd.R_far (p:=⟨gb342,0,none⟩) (Kd.R_types HO340.out BK342.out (by decide)) (fun _ hk=>hk.2) (.int .i64 t336)) (fun _ hk=>hk.2) (.int .i64 t337)) (fun _ hk=>hk.2) (.slice Ao47 t338.length co47)) (fun _ h_=>h_.1))));(case side2=>exact(Kd.R_reads' HO340.out).2.1);(case side3=>refine(Kd.R_reads' (e:=3) (base:=w.heap.size) (ok:=fun k_=>(some k_≠(.slice Ao14 t327.length co14:Value).ownBlock∧some k_≠(.slice Ao47 t338.length co47:Value).ownBlock)) (n:=t320.length) (c:=co9) ?_).2.2;exact(by(with_reducible repeat(first|apply Kd.R_alloc|apply Kd.R_drewN|apply Kd.R_drew));exact(Kd.R_mono (Kd.R_far (p:=⟨gb342,2,none⟩) (Kd.R_far (p:=⟨gb342,1,none⟩) (Kd.R_far (p:=⟨gb342,0,none⟩) (Kd.R_types HO_325002.out BK342.out (by decide)) (fun _ hk=>hk.2) (.int .i64 t336)) (fun _ hk=>hk.2) (.int .i64 t337)) (fun _ hk=>hk.2) (.slice Ao47 t338.length co47)) (fun _ h_=>h_.1))));(case side4=>exact(Kd.R_reads' HO_325002.out).2.1);rintro e w61 ⟨rfl,hb⟩;refine⟨_,rfl,?_⟩;replace HO_325002:=qaj.mk (Kd.R_below (by(with_reducible repeat(first|apply Kd.R_alloc|apply Kd.R_drewN|apply Kd.R_drew));exact(Kd.R_mono (Kd.R_far (p:=⟨gb342,2,none⟩) (Kd.R_far (p:=⟨gb342,1,none⟩) (Kd.R_far (p:=⟨gb342,0,none⟩) (Kd.R_types HO_325002.out BK342.out (by decide)) (fun _ hk=>hk.2) (.int .i64 t336)) (fun _ hk=>hk.2) (.int .i64 t337)) (fun _ hk=>hk.2) (.slice Ao47 t338.length co47)) (fun _ h_=>h_.1))) hb);replace HO_332002:=qaj.mk (Kd.R_below (by(with_reducible repeat(first|apply Kd.R_alloc|apply Kd.R_drewN|apply Kd.R_drew));exact(Kd.R_mono (Kd.R_far (p:=⟨gb342,2,none⟩) (Kd.R_far (p:=⟨gb342,1,none⟩) (Kd.R_far (p:=⟨gb342,0,none⟩) (Kd.R_types HO_332002.out BK342.out (by decide)) (fun _ hk=>hk.2) (.int .i64 t336)) (fun _ hk=>hk.2) (.int .i64 t337)) (fun _ hk=>hk.2) (.slice Ao47 t338.length co47)) (fun _ h_=>h_.1))) hb);replace HO340:=qaj.mk (Kd.R_below (by(with_reducible repeat(first|apply Kd.R_alloc|apply Kd.R_drewN|apply Kd.R_drew));exact(Kd.R_mono (Kd.R_far (p:=⟨gb342,2,none⟩) (Kd.R_far (p:=⟨gb342,1,none⟩) (Kd.R_far (p:=⟨gb342,0,none⟩) (Kd.R_types HO340.out BK342.out (by decide)) (fun _ hk=>hk.2) (.int .i64 t336)) (fun _ hk=>hk.2) (.int .i64 t337)) (fun _ hk=>hk.2) (.slice Ao47 t338.length co47)) (fun _ h_=>h_.1))) hb);replace BK324:=qaj.mk (qah (g:=gb324) (o:=.cells #[.int .i64 t318,.int .i64 t319,.slice Ao9 t320.length co9] 25 (0,0)) (za4 NB324_342 BK324) hb);replace BK331:=qaj.mk (qah (g:=gb331) (o:=.cells #[.int .i64 t325,.int .i64 t326,.slice Ao14 t327.length co14] 25 (0,0)) (za4 NB331_342 BK331) hb);replace BK342:=qaj.mk (qah (g:=gb342) (o:=.cells #[.int .i64 t336,.int .i64 t337,.slice Ao47 t338.length co47] 25 (0,0)) (by(with_reducible repeat(first|refine qac ?_ _|refine qad ?_|refine qab ?_ _));refine qaf (cs:=#[.int .i64 t336,.int .i64 t337,.slice none 0 0]) ?_ 2 _ rfl;(with_reducible repeat(first|refine qac ?_ _|refine qad ?_|refine qab ?_ _));refine qaf (cs:=#[.int .i64 t336,.int .i64 0,.slice none 0 0]) ?_ 1 _ rfl;(with_reducible repeat(first|refine qac ?_ _|refine qad ?_|refine qab ?_ _));refine qaf (cs:=#[.int .i64 0,.int .i64 0,.slice none 0 0]) ?_ 0 _ rfl;(with_reducible repeat(first|refine qac ?_ _|refine qad ?_|refine qab ?_ _));exact BK342.out) hb);replace HB:=qaj.mk (qaa (za11 HB GE324 GE331 GE342) hb);(try clear hb)))
         go_meet
         case rel=>exact⟨_,(true),(za23),H',⟨za38 HJ4⟩,⟨za3 HO_325002⟩,⟨za3 HO_332002⟩,⟨by(with_reducible repeat(first|apply Kd.R_alloc|apply Kd.R_drewN|apply Kd.R_drew));exact Kd.R_mono HO340.out (fun _ hk=>⟨hk.1.2,hk.2⟩)⟩,⟨za18 BK324⟩,⟨za18 BK331⟩,⟨za18 BK342⟩,⟨za11 HB GE324 GE331 GE342⟩⟩
       case rest=>
        clear HC36
        try clear c1
        try clear c2
        try clear c2b0
        try clear c2b1
        try clear p2
        try clear c3
        try clear c4
        try clear c5
        try clear c12
        try clear c16
        try clear c17
        try clear c18
        try clear c20
        try clear c21
        try clear c22
        try clear c23
        try clear c25
        try clear c28
        try clear c28b0
        try clear c29
        try clear c34
        try clear c34b0
        try clear c34b1
        try clear c37
        try clear c44
        try clear c45
        try clear c49
        try clear c50
        try clear c51
        try clear c53
        try clear c56
        try clear c57
        try clear c59
        try clear hcz13_0
        try clear hcz13_1
        try clear hcz13_2
        try clear hcz18_0
        try clear hcz18_1
        try clear hcz18_2
        try clear hcz19_0
        try clear hcz19_1
        try clear hcz19_2
        try clear hcz22_0
        try clear hcz22_1
        try clear hcz22_2
        try clear hcz23_0
        try clear hcz23_1
        try clear hcz23_2
        try clear hcz30_0
        try clear hcz30_1
        try clear hcz30_2
        try clear hcz32_0
        try clear hcz32_1
        try clear hcz32_2
        try clear hcz38_0
        try clear hcz38_1
        try clear hcz38_2
        try clear hcz40_0
        try clear hcz40_1
        try clear hcz40_2
        try clear hcz46_0
        try clear hcz46_1
        try clear hcz46_2
        try clear hcz52_0
        try clear hcz52_1
        try clear hcz52_2
        try clear hcz54_0
        try clear hcz54_1
        try clear hcz54_2
        try clear hcz58_0
        try clear hcz58_1
        try clear hcz58_2
        try clear hcz60_0
        try clear hcz60_1
        try clear hcz60_2
        try clear hcz8_0
        try clear hcz8_1
        try clear hcz8_2
        try clear hfz13_0
        try clear hfz13_1
        try clear hfz13_2
        try clear hfz18_0
        try clear hfz18_1
        try clear hfz18_2
        try clear hfz19_0
        try clear hfz19_1
        try clear hfz19_2
        try clear hfz22_0
        try clear hfz22_1
        try clear hfz22_2
        try clear hfz23_0
        try clear hfz23_1
        try clear hfz23_2
        try clear hfz30_0
        try clear hfz30_1
        try clear hfz30_2
        try clear hfz32_0
        try clear hfz32_1
        try clear hfz32_2
        try clear hfz38_0
        try clear hfz38_1
        try clear hfz38_2
        try clear hfz40_0
        try clear hfz40_1
        try clear hfz40_2
        try clear hfz46_0
        try clear hfz46_1
        try clear hfz46_2
        try clear hfz52_0
        try clear hfz52_1
        try clear hfz52_2
        try clear hfz54_0
        try clear hfz54_1
        try clear hfz54_2
        try clear hfz58_0
        try clear hfz58_1
        try clear hfz58_2
        try clear hfz60_0
        try clear hfz60_1
        try clear hfz60_2
        try clear hfz8_0
        try clear hfz8_1
        try clear hfz8_2
        try clear p2
        obtain⟨kq,x57_35,rfl,HA,HJ35,HO_325002,HO_332002,HO_343002,BK324,BK331,BK342,HB⟩:=hcut;have hl332002_35:=(Kd.R_reads' HO_332002.out).1;rw[hl332002_35] at HO_332002;(try simp only[hl332002_35]);(try simp only[hl332002_35] at BK324);(try simp only[hl332002_35] at BK331);(try simp only[hl332002_35] at BK342);(try simp only[hl332002_35] at HO_325002);(try simp only[hl332002_35] at HO_343002)
        cases kq with
        |zero=>exact absurd HA.out (by simp[laws_FnExactRecRead.j1])
        |succ kj35=>
         have H:=HA.out;clear HA;simp only[laws_FnExactRecRead.j1] at H;by_cases c62:x57_35=true
         ·subst c62
          have H1:(some false)=some r:=by rw[if_pos rfl] at H;exact H
          clear H;have H:=H1;clear H1;obtain rfl:=Option.some.inj H;go_wp2;go_ret;exact⟨za10,za11 HB GE324 GE331 GE342⟩
         ·replace c62:=Bool.eq_false_iff.mpr c62;subst c62
          have H1:((laws_heldRec.f kj35 t325 t326 t334 1).bind fun t344=>(if t344<0 then(some false) else(if t344=t333 then(some true) else(some false))))=some r:=by rw[if_neg (show ¬(false=true) by decide)] at H;exact H
          clear H;have H:=H1;clear H1;replace H:=Option.bind_eq_some_iff.mp H;obtain⟨t344,A630,H⟩:=H;replace H:(if t344<0 then(some false) else(if t344=t333 then(some true) else(some false)))=some r:=H;have A63:=qaj.mk A630;clear A630;by_cases c64:t344<0
          ·rw[if_pos c64] at H;have c64b0:decide (t344<0)=true:=decide_eq_true c64;clear c64;obtain rfl:=Option.some.inj H;have hnb65:=NB331_324.out;have hnc65:=NB324_331.out;have hnb66:=NB331_342.out;have hnc66:=NB342_331.out;obtain⟨hcz67_0,hcz67_1,hcz67_2,hfz67_0,hfz67_1,hfz67_2⟩:=zC3 BK331
           go_wp2_with(first|((with_reducible refine qae (f:=23) rfl ?_);refine zF (some 60) Tryd.func23 #[.agg #[.int .i64 t325,.int .i64 t326,.slice Ao14 t334.length co14],.int .i64 1] ?_;(with_reducible refine(laws_heldRec.calls kj35 t325 t326 _ _ t334 1 t344 _ ?side1 ?side2 A63.out).mono ?_);(case side1=>repeat(first|exact(Kd.R_reads' HO_332002.out).2.2|(with_reducible refine Kd.C_alloc ?_ _)|(with_reducible refine Kd.C_drewN ?_ _)|(with_reducible refine Kd.C_drew ?_)));(case side2=>exact(Kd.R_reads' HO_332002.out).2.1);rintro e w68 ⟨rfl,hb⟩;refine⟨_,rfl,?_⟩;replace HO_325002:=qaj.mk (Kd.R_below (za3 HO_325002) hb);replace HO_332002:=qaj.mk (Kd.R_below (za3 HO_332002) hb);replace HO_343002:=qaj.mk (Kd.R_below (za3 HO_343002) hb);replace BK324:=zY BK324 hb;replace BK331:=zY BK331 hb;replace BK342:=zY BK342 hb;replace HB:=qaj.mk (qaa (za11 HB GE324 GE331 GE342) hb);(try clear hb)))
           go_ret;exact⟨za10,za11 HB GE324 GE331 GE342⟩
          ·rw[if_neg c64] at H;have c64b0:decide (t344<0)=false:=decide_eq_false c64;clear c64;by_cases c69:t344=t333
           ·rw[if_pos c69] at H;have c69b0:(t344 == t333)=true:=beq_iff_eq.mpr c69;have c69b1:(t344 != t333)=false:=bne_eq_false_iff_eq.mpr c69;clear c69;obtain rfl:=Option.some.inj H;have hnb70:=NB331_324.out;have hnc70:=NB324_331.out;have hnb71:=NB331_342.out;have hnc71:=NB342_331.out;obtain⟨hcz72_0,hcz72_1,hcz72_2,hfz72_0,hfz72_1,hfz72_2⟩:=zC3 BK331
            go_wp2_with(first|((with_reducible refine qae (f:=23) rfl ?_);refine zF (some 60) Tryd.func23 #[.agg #[.int .i64 t325,.int .i64 t326,.slice Ao14 t334.length co14],.int .i64 1] ?_;(with_reducible refine(laws_heldRec.calls kj35 t325 t326 _ _ t334 1 t344 _ ?side1 ?side2 A63.out).mono ?_);(case side1=>repeat(first|exact(Kd.R_reads' HO_332002.out).2.2|(with_reducible refine Kd.C_alloc ?_ _)|(with_reducible refine Kd.C_drewN ?_ _)|(with_reducible refine Kd.C_drew ?_)));(case side2=>exact(Kd.R_reads' HO_332002.out).2.1);rintro e w73 ⟨rfl,hb⟩;refine⟨_,rfl,?_⟩;replace HO_325002:=qaj.mk (Kd.R_below (za3 HO_325002) hb);replace HO_332002:=qaj.mk (Kd.R_below (za3 HO_332002) hb);replace HO_343002:=qaj.mk (Kd.R_below (za3 HO_343002) hb);replace BK324:=zY BK324 hb;replace BK331:=zY BK331 hb;replace BK342:=zY BK342 hb;replace HB:=qaj.mk (qaa (za11 HB GE324 GE331 GE342) hb);(try clear hb)))
            go_ret;exact⟨za10,za11 HB GE324 GE331 GE342⟩
           ·rw[if_neg c69] at H;have c69b0:(t344 == t333)=false:=beq_eq_false_iff_ne.mpr c69;have c69b1:(t344 != t333)=true:=bne_iff_ne.mpr c69;obtain rfl:=Option.some.inj H;have hnb74:=NB331_324.out;have hnc74:=NB324_331.out;have hnb75:=NB331_342.out;have hnc75:=NB342_331.out;obtain⟨hcz76_0,hcz76_1,hcz76_2,hfz76_0,hfz76_1,hfz76_2⟩:=zC3 BK331
            go_wp2_with(first|((with_reducible refine qae (f:=23) rfl ?_);refine zF (some 60) Tryd.func23 #[.agg #[.int .i64 t325,.int .i64 t326,.slice Ao14 t334.length co14],.int .i64 1] ?_;(with_reducible refine(laws_heldRec.calls kj35 t325 t326 _ _ t334 1 t344 _ ?side1 ?side2 A63.out).mono ?_);(case side1=>repeat(first|exact(Kd.R_reads' HO_332002.out).2.2|(with_reducible refine Kd.C_alloc ?_ _)|(with_reducible refine Kd.C_drewN ?_ _)|(with_reducible refine Kd.C_drew ?_)));(case side2=>exact(Kd.R_reads' HO_332002.out).2.1);rintro e w77 ⟨rfl,hb⟩;refine⟨_,rfl,?_⟩;replace HO_325002:=qaj.mk (Kd.R_below (za3 HO_325002) hb);replace HO_332002:=qaj.mk (Kd.R_below (za3 HO_332002) hb);replace HO_343002:=qaj.mk (Kd.R_below (za3 HO_343002) hb);replace BK324:=zY BK324 hb;replace BK331:=zY BK331 hb;replace BK342:=zY BK342 hb;replace HB:=qaj.mk (qaa (za11 HB GE324 GE331 GE342) hb);(try clear hb)))
            go_ret;exact⟨za10,za11 HB GE324 GE331 GE342⟩
      ·rw[if_neg c34] at H;have c34b0:(t335 == t333)=false:=beq_eq_false_iff_ne.mpr c34;have c34b1:(t335 != t333)=true:=bne_iff_ne.mpr c34;obtain rfl:=Option.some.inj H;have hnb78:=NB331_324.out;have hnc78:=NB324_331.out;obtain⟨hcz79_0,hcz79_1,hcz79_2,hfz79_0,hfz79_1,hfz79_2⟩:=zC3 BK331
       go_wp2_with(first|((with_reducible refine qae (f:=22) rfl ?_);refine zF (some 35) Tryd.func22 #[.agg #[.int .i64 t325,.int .i64 t326,.slice Ao14 t327.length co14],.int .i64 1] ?_;(with_reducible refine(laws_markRec.calls kj4 t325 t326 (fun k_=>some k_=(.slice Ao14 t327.length co14:Value).ownBlock) (.slice Ao14 t327.length co14) t327 1 t333 t334 w _ ?side1 ?side2 A26.out).mono ?_);(case side1=>exact(za1 HB GE324 GE331));(case side2=>exact Kd.R_tight rfl HO_332002.out);rintro e w80 ⟨rfl,hy0,hb,hkp⟩;refine⟨_,rfl,?_⟩;replace HO_325002:=qaj.mk (Kd.R_mono (ok':=fun k_=>some k_≠(.slice Ao14 t327.length co14:Value).ownBlock) (Kd.R_keptB (HO_325002.out) hkp (fun k_ hk_ hs_=>(hk_) hs_)) (fun k_ hk_=>hk_.1));replace BK324:=qaj.mk (blk_kept (zB BK324) hkp (fun hs_=>(fun e_=>(Kd.R_ne HO_332002.out BK324.out (by decide)) e_) hs_));replace BK331:=qaj.mk (blk_kept (zB BK331) hkp (fun hs_=>(fun e_=>(Kd.R_ne HO_332002.out BK331.out (by decide)) e_) hs_));replace HO_332002:=qaj.mk (Kd.R_reok rfl hy0 (fun k_ e_=>HO_332002.out.1 k_ e_));replace HB:=qaj.mk hb;(try clear hb);(try clear hkp);(try clear hy0);obtain⟨hcz81_0,hcz81_1,hcz81_2,hfz81_0,hfz81_1,hfz81_2⟩:=zC3 BK331)|((with_reducible refine qae (f:=23) rfl ?_);refine goesL_ (some 38) rfl rfl Tryd.func23 (by kernel_rfl) rfl #[.agg #[.int .i64 t325,.int .i64 t326,.slice Ao14 t334.length co14],.int .i64 1] rfl (by(try simp only[List.map_toArray,List.map_cons,List.map_nil]);first|done|(rw[show t334.length=t327.length from(Kd.R_reads' HO_332002.out).1.symm]<;>rfl)|rfl|(simp only[List.length_drop,List.length_take];rfl)) ?_;(with_reducible refine(laws_heldRec.calls kj4 t325 t326 _ _ t334 1 t335 _ ?side1 ?side2 A27.out).mono ?_);(case side1=>repeat(first|exact(Kd.R_reads' HO_332002.out).2.2|(with_reducible refine Kd.C_alloc ?_ _)|(with_reducible refine Kd.C_drewN ?_ _)|(with_reducible refine Kd.C_drew ?_)));(case side2=>rw[show t334.length=t327.length from(Kd.R_reads' HO_332002.out).1.symm];exact(Kd.R_reads' HO_332002.out).2.1);rintro e w82 ⟨rfl,hb⟩;refine⟨_,rfl,?_⟩;replace HO_325002:=qaj.mk (Kd.R_below (za3 HO_325002) hb);replace HO_332002:=qaj.mk (Kd.R_below (za3 HO_332002) hb);replace BK324:=zY BK324 hb;replace BK331:=zY BK331 hb;replace HB:=qaj.mk (qaa (za1 HB GE324 GE331) hb);(try clear hb)))
       go_ret;exact⟨za10,za1 HB GE324 GE331⟩
def laws_FnExactRecRead.Pure:Prop:=∀(a0:ByteArray),a0.size≤140737488351232→∃k,laws_FnExactRecRead.f k a0=some true
theorem laws_FnExactRecRead.walk (P:laws_FnExactRecRead.Pure) (a0:ByteArray) (w:World) (w0:a0.size≤140737488351232) (hgw:Tryd.GW w) :
  Calls Tryd.prog 4 #[.string a0] w fun e w'=>e=.returned (.bool true)∧Below w.heap.size w w':=by
 obtain⟨k,h⟩:=P a0 w0;refine(laws_FnExactRecRead.calls k a0 true w hgw h).mono ?_;rintro e w' ⟨rfl,hd⟩;exact⟨rfl,hd⟩
end Go.Proofs.YtbcepmkifomifaaDoor.Print
