-- Written by squeeze.py: not trusted, Lean checks it.
import Derived.Test.YtbcepmkifomifaaDoorZK
import Derived.Test.YtbcepmkifomifaaDoorZf1
import Derived.Test.YtbcepmkifomifaaDoorZf2
import Derived.Test.YtbcepmkifomifaaDoorZj0
namespace Go.Proofs.YtbcepmkifomifaaDoor.Print
open Go.RowKit Go.Proofs.YtbcepmkifomifaaDoorW.PrintWords Go.Proofs.YtbcepmkifomifaaDoorW.PrintLast Go.Proofs.YtbcepmkifomifaaDoorW.PrintMore
attribute [local go_sem] max2_int min2_int max_two min_two max_three min_three max_four min_four
set_option linter.unusedVariables false
set_option linter.unusedSimpArgs false
mutual
def spec_RecRead.l0:Nat→ByteArray→List ByteArray→List ByteArray→Int→Int→Int→List Int→Option (Int × Int × List Int × Bool)
 |0,_,_,_,_,_,_,_=>none
 |k+1,x0,x4,x6,x7,x294000,x294001,x294002=>if x7<(x6.length:Int) then(if 0≤x7 then(if 0<(x4.length:Int) then(if(rdOf ByteArray.empty x6 x7).toList=(rdOf ByteArray.empty x4 0).toList then(spec_RecRead.l0 k x0 x4 x6 (wrap64 (x7+1)) x7 x294001 x294002) else(spec_RecRead.l0 k x0 x4 x6 (wrap64 (x7+1)) x294000 x294001 x294002)) else(none)) else(none)) else(spec_RecRead.l1 k x0 x4 2 x294000 x294001 x294002)
def spec_RecRead.l1:Nat→ByteArray→List ByteArray→Int→Int→Int→List Int→Option (Int × Int × List Int × Bool)
 |0,_,_,_,_,_,_=>none
 |k+1,x0,x4,x8,x294000,x294001,x294002=>if x8<(x4.length:Int) then(if 0≤x8 then((spec_l1Dec.f k (rdOf ByteArray.empty x4 x8)).bind fun t300=>(if x294002.length<17592186044416 then(spec_RecRead.l1 k x0 x4 (wrap64 (x8+1)) x294000 x294001 (x294002++[t300])) else(none))) else(none)) else((spec_RecOk.f k x294000 x294001 x294002).bind fun t304=>(if t304=true then((spec_RecText.f k x294000 x294001 x294002).bind fun t305=>(if t305.toList=x0.toList then(some (x294000,x294001,x294002,true)) else(some (0,0,([]:List Int),false)))) else(some (0,0,([]:List Int),false))))
end
def spec_RecRead.f (k:Nat) (a0:ByteArray):Option (Int × Int × List Int × Bool):=if(a0.size:Int)>20 then(some (0,0,([]:List Int),false)) else((spec_l1Cut.f a0 32).bind fun t285=>(if(t285.length:Int)<2 then(some (0,0,([]:List Int),false)) else(if 1<(t285.length:Int) then((spec_l1Dec.f k (rdOf ByteArray.empty t285 1)).bind fun t289=>((spec_l1Names.f).bind fun t294=>(spec_RecRead.l0 k a0 t285 t294 1 0 t289 (([]:List Int))))) else(none))))
theorem spec_RecRead.mono_l:∀k,(∀y0 y1 y2 y3 y4 y5 y6,LeO (spec_RecRead.l0 k y0 y1 y2 y3 y4 y5 y6) (spec_RecRead.l0 (k+1) y0 y1 y2 y3 y4 y5 y6))∧(∀y0 y1 y2 y3 y4 y5,LeO (spec_RecRead.l1 k y0 y1 y2 y3 y4 y5) (spec_RecRead.l1 (k+1) y0 y1 y2 y3 y4 y5))
 |0=>⟨fun _ _ _ _ _ _ _ r h=>by simp[spec_RecRead.l0] at h,fun _ _ _ _ _ _ r h=>by simp[spec_RecRead.l1] at h⟩
 |k+1=>by
  obtain⟨ih0,ih1⟩:=spec_RecRead.mono_l k;refine⟨?_,?_⟩
  ·intro y0 y1 y2 y3 y4 y5 y6;unfold spec_RecRead.l0
   repeat' first|(with_reducible exact ih0 _ _ _ _ _ _ _)|(with_reducible exact ih1 _ _ _ _ _ _)|(with_reducible exact spec_RecOk.mono _ _ _ _)|(with_reducible exact spec_RecText.mono _ _ _ _)|(with_reducible exact spec_l1Dec.mono _ _)|(with_reducible exact LeO.refl _)|(with_reducible exact LeO.none _)|(with_reducible refine LeO.ite ?_ ?_)|(with_reducible refine LeO.bind ?_ (fun _=>?_))|exact ih0 _ _ _ _ _ _ _|exact ih1 _ _ _ _ _ _|exact spec_RecOk.mono _ _ _ _|exact spec_RecText.mono _ _ _ _|exact spec_l1Dec.mono _ _|exact LeO.none _|refine LeO.ite ?_ ?_|refine LeO.bind ?_ (fun _=>?_)
  ·intro y0 y1 y2 y3 y4 y5;unfold spec_RecRead.l1
   repeat' first|(with_reducible exact ih0 _ _ _ _ _ _ _)|(with_reducible exact ih1 _ _ _ _ _ _)|(with_reducible exact spec_RecOk.mono _ _ _ _)|(with_reducible exact spec_RecText.mono _ _ _ _)|(with_reducible exact spec_l1Dec.mono _ _)|(with_reducible exact LeO.refl _)|(with_reducible exact LeO.none _)|(with_reducible refine LeO.ite ?_ ?_)|(with_reducible refine LeO.bind ?_ (fun _=>?_))|exact ih0 _ _ _ _ _ _ _|exact ih1 _ _ _ _ _ _|exact spec_RecOk.mono _ _ _ _|exact spec_RecText.mono _ _ _ _|exact spec_l1Dec.mono _ _|exact LeO.none _|refine LeO.ite ?_ ?_|refine LeO.bind ?_ (fun _=>?_)
theorem spec_RecRead.mono:∀a0 k,LeO (spec_RecRead.f k a0) (spec_RecRead.f (k+1) a0):=by
 intro a0 k;obtain⟨ih0,ih1⟩:=spec_RecRead.mono_l k;unfold spec_RecRead.f
 repeat' first|(with_reducible exact ih0 _ _ _ _ _ _ _)|(with_reducible exact ih1 _ _ _ _ _ _)|(with_reducible exact spec_RecOk.mono _ _ _ _)|(with_reducible exact spec_RecText.mono _ _ _ _)|(with_reducible exact spec_l1Dec.mono _ _)|(with_reducible exact LeO.refl _)|(with_reducible exact LeO.none _)|(with_reducible refine LeO.ite ?_ ?_)|(with_reducible refine LeO.bind ?_ (fun _=>?_))|exact ih0 _ _ _ _ _ _ _|exact ih1 _ _ _ _ _ _|exact spec_RecOk.mono _ _ _ _|exact spec_RecText.mono _ _ _ _|exact spec_l1Dec.mono _ _|exact LeO.none _|refine LeO.ite ?_ ?_|refine LeO.bind ?_ (fun _=>?_)
def spec_RecRead.T11:Bool × List (List Nat × List Nat):=(true,[([],[]),([],[]),([0,1],[0,1]),([2],[2]),([],[]),([4],[4]),([5],[5]),([3,6],[3,6])])
def spec_RecRead.B11:List Nat:=[0,0,3,7,0,16,48,127]
theorem spec_RecRead.tab11:rtab .any (opsOf Tryd.f20 11)=spec_RecRead.T11:=by kernel_rfl
theorem spec_RecRead.bits11:waitsOk spec_RecRead.T11.2 spec_RecRead.B11=true:=by kernel_rfl
def spec_RecRead.T16:Bool × List (List Nat × List Nat):=(true,[([],[]),([0],[0]),([],[]),([],[]),([2,3],[2,3]),([4],[4]),([5],[5]),([6],[6]),([1,7,6],[1,7]),([0,1,2,3,4,5,6,7,8],[]),([9,8,8,0,1,2,3,4,5,6,7,8],[8,9])])
def spec_RecRead.B16:List Nat:=[0,1,0,0,12,28,60,124,255,511,1023]
theorem spec_RecRead.tab16:rtab .any (opsOf Tryd.f20 16)=spec_RecRead.T16:=by kernel_rfl
theorem spec_RecRead.bits16:waitsOk spec_RecRead.T16.2 spec_RecRead.B16=true:=by kernel_rfl
set_option maxHeartbeats 8000000 in
set_option maxRecDepth 100000 in
theorem spec_RecRead.calls (k:Nat) (a0:ByteArray) (r1:Int) (r2:Int) (r3:List Int) (r4:Bool) (w:World) (h:spec_RecRead.f k a0=some (r1,r2,r3,r4)) :
  Calls Tryd.prog 20 #[.string a0] w fun e w'=>∃v2_:Value,e=.returned (.tuple #[.agg #[.int .i64 r1,.int .i64 r2,v2_],.bool r4])∧Kd.R (Kd.int .i64) 3 w' w.heap.size (fun _=>True) v2_ r3∧Below w.heap.size w w':=by
 have hu25:=Tryd.underlying25;have HB:=qaj.mk (Below.refl w.heap.size w);have H:(if(a0.size:Int)>20 then(some (0,0,([]:List Int),false)) else((spec_l1Cut.f a0 32).bind fun t285=>(if(t285.length:Int)<2 then(some (0,0,([]:List Int),false)) else(if 1<(t285.length:Int) then((spec_l1Dec.f k (rdOf ByteArray.empty t285 1)).bind fun t289=>((spec_l1Names.f).bind fun t294=>(spec_RecRead.l0 k a0 t285 t294 1 0 t289 (([]:List Int))))) else(none)))))=some (r1,r2,r3,r4):=h;clear h;by_cases c2:(a0.size:Int)>20
 ·rw[if_pos c2] at H;have c2b0:decide (20<(a0.size:Int))=true:=decide_eq_true c2;have c2b1:decide (20<a0.size)=true:=decide_eq_true (by omega);clear c2;simp only[Option.some.injEq,Prod.mk.injEq] at H;obtain⟨rfl,rfl,rfl,rfl⟩:=H;go_enter Tryd.func20,Tryd.ntmps20
  go_wp2_with(first|((with_reducible refine qai (N:=2) rfl ?_);refine zX (N:=2) (cs:=#[.int .i64 0,.int .i64 0,.slice none 0 0]) (t:=25) ?_;intro gb284 hg w3 hbox hb;have BK284:=qaj.mk hbox;have GW284:=zH (w:=w) hg (za2 HB);have GE284:=GW284;replace HB:=qaj.mk (qaa (za2 HB) hb);clear hb hbox hg;obtain⟨hcz4_0,hcz4_1,hcz4_2,hfz4_0,hfz4_1,hfz4_2⟩:=zC3 BK284))
  refine bodyPost_ret (results_ct rfl _ _ gb284 25 #[.int .i64 0,.int .i64 0,.slice none 0 0] (0,0) _ rfl (by(with_reducible repeat(first|refine qac ?_ _|refine qad ?_|refine qab ?_ _));refine qaf (cs:=#[.int .i64 0,.int .i64 0,.slice none 0 0]) ?_ 2 _ rfl;(with_reducible repeat(first|refine qac ?_ _|refine qad ?_|refine qab ?_ _));refine qaf (cs:=#[.int .i64 0,.int .i64 0,.slice none 0 0]) ?_ 1 _ rfl;(with_reducible repeat(first|refine qac ?_ _|refine qad ?_|refine qab ?_ _));refine qaf (cs:=#[.int .i64 0,.int .i64 0,.slice none 0 0]) ?_ 0 _ rfl;(with_reducible repeat(first|refine qac ?_ _|refine qad ?_|refine qab ?_ _));exact BK284.out) Tryd.underlying25 rfl (by kernel_rfl)) rfl ?_
  exact⟨_,za10,za36,za0 HB GE284⟩
 ·rw[if_neg c2] at H;have c2b0:decide (20<(a0.size:Int))=false:=decide_eq_false c2;have c2b1:decide (20<a0.size)=false:=decide_eq_false (by omega);clear c2;replace H:=Option.bind_eq_some_iff.mp H;obtain⟨t285,A50,H⟩:=H;replace H:(if(t285.length:Int)<2 then(some (0,0,([]:List Int),false)) else(if 1<(t285.length:Int) then((spec_l1Dec.f k (rdOf ByteArray.empty t285 1)).bind fun t289=>((spec_l1Names.f).bind fun t294=>(spec_RecRead.l0 k a0 t285 t294 1 0 t289 (([]:List Int))))) else(none)))=some (r1,r2,r3,r4):=H;have A5:=qaj.mk A50;clear A50;by_cases c6:(t285.length:Int)<2
  ·rw[if_pos c6] at H;have c6b0:decide ((t285.length:Int)<2)=true:=decide_eq_true c6;have c6b1:decide (t285.length<2)=true:=decide_eq_true (by omega);clear c6;simp only[Option.some.injEq,Prod.mk.injEq] at H;obtain⟨rfl,rfl,rfl,rfl⟩:=H;go_enter Tryd.func20,Tryd.ntmps20
   go_wp2_with(first|((with_reducible refine qai (N:=2) rfl ?_);refine zX (N:=2) (cs:=#[.int .i64 0,.int .i64 0,.slice none 0 0]) (t:=25) ?_;intro gb284 hg w7 hbox hb;have BK284:=qaj.mk hbox;have GW284:=zH (w:=w) hg (za2 HB);have GE284:=GW284;replace HB:=qaj.mk (qaa (za2 HB) hb);clear hb hbox hg)|((with_reducible refine qae (f:=47) rfl ?_);refine zF (some 14) Tryd.func47 #[.string a0,.int .u8 32] ?_;(with_reducible refine(spec_l1Cut.calls a0 32 t285 _ A5.out).mono ?_);rintro e w8 ⟨v286,rfl,ho0,hb⟩;refine⟨_,rfl,?_⟩;have HO287:=qaj.mk (Kd.R_lower ho0 (qam (za0 HB GE284)));replace BK284:=zY BK284 hb;replace HB:=qaj.mk (qaa (za0 HB GE284) hb);(try clear hb);(try clear ho0);obtain⟨Ao9,co9,eo9⟩:=Kd.R_slice HO287.out;subst eo9;obtain⟨hcz10_0,hcz10_1,hcz10_2,hfz10_0,hfz10_1,hfz10_2⟩:=zC3 BK284))
   refine bodyPost_ret (results_ct rfl _ _ gb284 25 #[.int .i64 0,.int .i64 0,.slice none 0 0] (0,0) _ rfl (by(with_reducible repeat(first|refine qac ?_ _|refine qad ?_|refine qab ?_ _));refine qaf (cs:=#[.int .i64 0,.int .i64 0,.slice none 0 0]) ?_ 2 _ rfl;(with_reducible repeat(first|refine qac ?_ _|refine qad ?_|refine qab ?_ _));refine qaf (cs:=#[.int .i64 0,.int .i64 0,.slice none 0 0]) ?_ 1 _ rfl;(with_reducible repeat(first|refine qac ?_ _|refine qad ?_|refine qab ?_ _));refine qaf (cs:=#[.int .i64 0,.int .i64 0,.slice none 0 0]) ?_ 0 _ rfl;(with_reducible repeat(first|refine qac ?_ _|refine qad ?_|refine qab ?_ _));exact BK284.out) Tryd.underlying25 rfl (by kernel_rfl)) rfl ?_
   exact⟨_,za10,za36,za0 HB GE284⟩
  ·rw[if_neg c6] at H;have c6b0:decide ((t285.length:Int)<2)=false:=decide_eq_false c6;have c6b1:decide (t285.length<2)=false:=decide_eq_false (by omega);clear c6;by_cases c11:1<(t285.length:Int)
   ·rw[if_pos c11] at H;have c11b0:decide (1<(t285.length:Int))=true:=decide_eq_true c11;have c11b1:decide (1<t285.length)=true:=decide_eq_true (by omega);clear c11;replace H:=Option.bind_eq_some_iff.mp H;obtain⟨t289,A120,H⟩:=H;replace H:((spec_l1Names.f).bind fun t294=>(spec_RecRead.l0 k a0 t285 t294 1 0 t289 (([]:List Int))))=some (r1,r2,r3,r4):=H;have A12:=qaj.mk A120;clear A120;obtain⟨y290,hy290⟩:∃y_:List Int,y_=(([]:List Int)):=⟨_,rfl⟩
    replace H:((spec_l1Names.f).bind fun t294=>(spec_RecRead.l0 k a0 t285 t294 1 0 t289 y290))=some (r1,r2,r3,r4):=by first|(rw[hy290];with_reducible exact H)|(have H2_:=(Option.bind_some _ _).symm.trans H;rw[hy290];with_reducible exact H2_)|(have H2_:=(Option.bind_some _ _).symm.trans H;with_reducible exact H2_)|with_reducible exact H|(rw[hy290];exact H)|exact H
    have Ny290:=qaj.mk hy290;clear hy290;replace H:=Option.bind_eq_some_iff.mp H;obtain⟨t294,A130,H⟩:=H;replace H:(spec_RecRead.l0 k a0 t285 t294 1 0 t289 y290)=some (r1,r2,r3,r4):=H;have A13:=qaj.mk A130;clear A130;have H':=qaj.mk H;clear H;go_enter Tryd.func20,Tryd.ntmps20
    go_wp2_with(first|((with_reducible refine qai (N:=2) rfl ?_);refine zX (N:=2) (cs:=#[.int .i64 0,.int .i64 0,.slice none 0 0]) (t:=25) ?_;intro gb284 hg w14 hbox hb;have BK284:=qaj.mk hbox;have GW284:=zH (w:=w) hg (za2 HB);have GE284:=GW284;replace HB:=qaj.mk (qaa (za2 HB) hb);clear hb hbox hg)|((with_reducible refine qae (f:=47) rfl ?_);refine zF (some 14) Tryd.func47 #[.string a0,.int .u8 32] ?_;(with_reducible refine(spec_l1Cut.calls a0 32 t285 _ A5.out).mono ?_);rintro e w15 ⟨v286,rfl,ho0,hb⟩;refine⟨_,rfl,?_⟩;have HO287:=qaj.mk (Kd.R_lower ho0 (qam (za0 HB GE284)));replace BK284:=zY BK284 hb;replace HB:=qaj.mk (qaa (za0 HB GE284) hb);(try clear hb);(try clear ho0);obtain⟨Ao16,co16,eo16⟩:=Kd.R_slice HO287.out;subst eo16;have p288:0≤(1:Int):=(by omega);have q288:1<(t285.length:Int):=of_decide_eq_true (za13);obtain⟨ad288,e288,hx288_0⟩:=Kd.at_string (Kd.R_reads' HO287.out).2.2 1 p288 q288;cases e288;(try simp only[show(1:Int).toNat=1 from rfl,Nat.reduceMul,Nat.reduceEqDiff,Go.Addr.add,↓reduceIte] at hx288_0);have qi288:(1<t285.length)=True:=eq_true (by omega);(try rw[show((1:Int)).toNat=1 from rfl] at hx288_0);replace p288:=eq_true p288;replace q288:=eq_true q288)|((with_reducible refine qae (f:=48) rfl ?_);refine zF (some 22) Tryd.func48 #[.string (rdOf ByteArray.empty t285 1)] ?_;(with_reducible refine(spec_l1Dec.calls k (rdOf ByteArray.empty t285 1) t289 _ A12.out).mono ?_);rintro e w' ⟨rfl,⟨nd,rfl⟩⟩;refine⟨_,rfl,?_⟩;(try(rw[drewN_self w15];generalize hq_:World.drewN w15 _=w15;replace HO287:qaj (Kd.R Kd.string 9 w15 w.heap.size (fun _=>True) (.slice (some ad288) t285.length co16) t285):=⟨by rw[←hq_];exact(za3 HO287)⟩;replace BK284:qaj (w15.heap[gb284]?=some (.cells #[.int .i64 0,.int .i64 0,.slice none 0 0] 25 (0,0))):=⟨by rw[←hq_];exact(zB BK284)⟩;replace HB:qaj (Below w.heap.size w w15):=⟨by rw[←hq_];exact(za0 HB GE284)⟩;clear hq_;have hczugb284_0:w15.cell? ⟨gb284,0,none⟩=some _:=(qag BK284.out 0).trans rfl;have hfzugb284_0:=qao BK284.out 0;have hczugb284_1:w15.cell? ⟨gb284,1,none⟩=some _:=(qag BK284.out 1).trans rfl;have hfzugb284_1:=qao BK284.out 1;have hczugb284_2:w15.cell? ⟨gb284,2,none⟩=some _:=(qag BK284.out 2).trans rfl;have hfzugb284_2:=qao BK284.out 2)))|((with_reducible refine qai (N:=23) rfl ?_);refine Kd.R_lit (Kd.int .i64) _ 3 (by rfl) (N:=23) (by rfl) (xs:=([]:List Int)) (inner:=[]) (ok:=fun _=>True) (okp:=fun _=>True) (by first|(go_simp;done)|(go_simp;rfl)) (Reps.none _ _) (fun _ hk=>hk) trivial (Below.refl _ _) (Nat.le_refl _) (by simp) ?_;intro v291 w17 ho18 hb hg_ hnew_;clear hg_ hnew_;(first|rw[←Ny290.out] at ho18|(simp only[Int.reduceToNat] at ho18;rw[←Ny290.out] at ho18));replace HO287:=qaj.mk (Kd.R_below (za3 HO287) hb);have HO292:=qaj.mk (Kd.R_lower ho18 (qam (za0 HB GE284)));replace BK284:=zY BK284 hb;replace HB:=qaj.mk (qaa (za0 HB GE284) hb);clear hb ho18;obtain⟨Ao19,co19,eo19⟩:=Kd.R_slice HO292.out;subst eo19)|((with_reducible refine qai (N:=5) rfl ?_);refine zX (N:=5) (cs:=#[.int .i64 0,.int .i64 0,.slice none 0 0]) (t:=25) ?_;intro gb293 hg w20 hbox hb;replace HO287:=qaj.mk (Kd.R_below (za3 HO287) hb);replace HO292:=qaj.mk (Kd.R_below (za3 HO292) hb);have BK293:=qaj.mk hbox;have GW293:=zH (w:=w) hg (za0 HB GE284);have GE293:=GW293;replace HB:=qaj.mk (qaa (za0 HB GE284) hb);have NB284_293:=zL BK284 hg;have NB293_284:=zG BK284 hg;replace BK284:=zY BK284 hb;clear hb hbox hg;have hnb21:=NB293_284.out;have hnc21:=NB284_293.out;obtain⟨hcz22_0,hcz22_1,hcz22_2,hfz22_0,hfz22_1,hfz22_2⟩:=zC3 BK293)|((with_reducible refine qae (f:=42) rfl ?_);refine zF (some 25) Tryd.func42 #[] ?_;(with_reducible refine(spec_l1Names.calls  t294 _ A13.out).mono ?_);rintro e w23 ⟨v295,rfl,ho0,hb⟩;refine⟨_,rfl,?_⟩;replace HO292:=qaj.mk (Kd.R_below (by(with_reducible repeat(first|apply Kd.R_alloc|apply Kd.R_drewN|apply Kd.R_drew));exact(Kd.R_mono (Kd.R_far (p:=⟨gb293,2,none⟩) (Kd.R_far (p:=⟨gb293,1,none⟩) (Kd.R_far (p:=⟨gb293,0,none⟩) (Kd.R_types HO292.out BK293.out (by decide)) (fun _ hk=>hk.2) (.int .i64 0)) (fun _ hk=>hk.2) (.int .i64 t289)) (fun _ hk=>hk.2) (.slice Ao19 y290.length co19)) (fun _ h_=>h_.1))) hb);have HO296:=qaj.mk (Kd.R_lower (Kd.R_new' ho0 (Kd.R_lt (by(with_reducible repeat(first|apply Kd.R_alloc|apply Kd.R_drewN|apply Kd.R_drew));exact(Kd.R_mono (Kd.R_far (p:=⟨gb293,2,none⟩) (Kd.R_far (p:=⟨gb293,1,none⟩) (Kd.R_far (p:=⟨gb293,0,none⟩) (Kd.R_types HO287.out BK293.out (by decide)) (fun _ hk=>hk.2) (.int .i64 0)) (fun _ hk=>hk.2) (.int .i64 t289)) (fun _ hk=>hk.2) (.slice Ao19 y290.length co19)) (fun _ h_=>h_.1))))) (qam (za1 HB GE284 GE293)));replace HO287:=qaj.mk (Kd.R_elder' (by(with_reducible repeat(first|apply Kd.R_alloc|apply Kd.R_drewN|apply Kd.R_drew));exact(Kd.R_mono (Kd.R_far (p:=⟨gb293,2,none⟩) (Kd.R_far (p:=⟨gb293,1,none⟩) (Kd.R_far (p:=⟨gb293,0,none⟩) (Kd.R_types HO287.out BK293.out (by decide)) (fun _ hk=>hk.2) (.int .i64 0)) (fun _ hk=>hk.2) (.int .i64 t289)) (fun _ hk=>hk.2) (.slice Ao19 y290.length co19)) (fun _ h_=>h_.1))) (Kd.R_base ho0) hb);replace BK284:=qaj.mk (qah (g:=gb284) (o:=.cells #[.int .i64 0,.int .i64 0,.slice none 0 0] 25 (0,0)) (za4 NB284_293 BK284) hb);replace BK293:=qaj.mk (qah (g:=gb293) (o:=.cells #[.int .i64 0,.int .i64 t289,.slice Ao19 y290.length co19] 25 (0,0)) (by(with_reducible repeat(first|refine qac ?_ _|refine qad ?_|refine qab ?_ _));refine qaf (cs:=#[.int .i64 0,.int .i64 t289,.slice none 0 0]) ?_ 2 _ rfl;(with_reducible repeat(first|refine qac ?_ _|refine qad ?_|refine qab ?_ _));refine qaf (cs:=#[.int .i64 0,.int .i64 0,.slice none 0 0]) ?_ 1 _ rfl;(with_reducible repeat(first|refine qac ?_ _|refine qad ?_|refine qab ?_ _));refine qaf (cs:=#[.int .i64 0,.int .i64 0,.slice none 0 0]) ?_ 0 _ rfl;(with_reducible repeat(first|refine qac ?_ _|refine qad ?_|refine qab ?_ _));exact BK293.out) hb);replace HB:=qaj.mk (qaa (za1 HB GE284 GE293) hb);(try clear hb);(try clear ho0)))
    go_loopg [7] k (fun kq v7 w'=>∃(x7_1:Int) (x294000_1:Int),v7=.int .i64 x7_1∧qaj (spec_RecRead.l0 kq a0 t285 t294 x7_1 x294000_1 t289 y290=some (r1,r2,r3,r4))∧qaj (kq≤k)∧qaj (Kd.R Kd.string 9 w' w.heap.size (fun k_=>some k_≠(v295:Value).ownBlock) (.slice (some ad288) t285.length co16) t285)∧qaj (Kd.R Kd.string 9 w' w.heap.size (fun k_=>some k_≠((.slice (some ad288) t285.length co16):Value).ownBlock) v295 t294)∧qaj (Kd.R (Kd.int .i64) 3 w' w.heap.size (fun _=>True) (.slice Ao19 y290.length co19) y290)∧qaj (w'.heap[gb284]?=some (.cells #[.int .i64 0,.int .i64 0,(.slice none 0 0)] 25 (0,0)))∧qaj (w'.heap[gb293]?=some (.cells #[.int .i64 x294000_1,.int .i64 t289,(.slice Ao19 y290.length co19)] 25 (0,0)))∧qaj (Below w.heap.size w w'))
    case atStart=>exact⟨(1),(0),(za23),H',⟨Nat.le_refl _⟩,⟨by(with_reducible repeat(first|apply Kd.R_alloc|apply Kd.R_drewN|apply Kd.R_drew));exact Kd.R_mono HO287.out (fun _ hk=>hk.2)⟩,⟨by(with_reducible repeat(first|apply Kd.R_alloc|apply Kd.R_drewN|apply Kd.R_drew));exact Kd.R_mono HO296.out (fun _ hk=>hk.2)⟩,⟨za3 HO292⟩,⟨za18 BK284⟩,⟨za18 BK293⟩,⟨za1 HB GE284 GE293⟩⟩
    case round=>
     clear H'
     try clear c1
     try clear c2
     try clear c2b0
     try clear c2b1
     try clear p2
     try clear q2
     try clear hx2
     try clear qi2
     try clear c4
     try clear c6
     try clear c6b0
     try clear c6b1
     try clear c11
     try clear c11b0
     try clear c11b1
     try clear c20
     try clear c21
     try clear hcz10_0
     try clear hcz10_1
     try clear hcz10_2
     try clear hcz22_0
     try clear hcz22_1
     try clear hcz22_2
     try clear hcz4_0
     try clear hcz4_1
     try clear hcz4_2
     try clear hfz10_0
     try clear hfz10_1
     try clear hfz10_2
     try clear hfz22_0
     try clear hfz22_1
     try clear hfz22_2
     try clear hfz4_0
     try clear hfz4_1
     try clear hfz4_2
     try clear hx288_0
     try clear p288
     try clear q288
     obtain⟨x7_1,x294000_1,rfl,HA,HK1,HO_4,HO_6,HO_294002,BK284,BK293,HB⟩:=hrel
     cases gk with
     |zero=>exact absurd HA.out (by simp[spec_RecRead.l0])
     |succ k1=>
      have H:=HA.out;clear HA;simp only[spec_RecRead.l0] at H;by_cases c24:x7_1<(t294.length:Int)
      ·rw[if_pos c24] at H;have c24b0:decide (x7_1<(t294.length:Int))=true:=decide_eq_true c24;clear c24;by_cases c25:0≤x7_1
       ·rw[if_pos c25] at H;have c25b0:decide (0≤x7_1)=true:=decide_eq_true c25;clear c25;by_cases c26:0<(t285.length:Int)
        ·rw[if_pos c26] at H;have c26b0:decide (0<(t285.length:Int))=true:=decide_eq_true c26;have c26b1:decide (0<t285.length)=true:=decide_eq_true (by omega);clear c26;by_cases c27:(rdOf ByteArray.empty t294 x7_1).toList=(rdOf ByteArray.empty t285 0).toList
         ·rw[if_pos c27] at H;have c27b0:((rdOf ByteArray.empty t294 x7_1).toList == (rdOf ByteArray.empty t285 0).toList)=true:=beq_iff_eq.mpr c27;have c27b1:((rdOf ByteArray.empty t294 x7_1).toList != (rdOf ByteArray.empty t285 0).toList)=false:=bne_eq_false_iff_eq.mpr c27;clear c27;have H':=qaj.mk H;clear H;obtain⟨Ao28,co28,eo28⟩:=Kd.R_slice HO_6.out;subst eo28
          try go_wp2
          replace HO_4:=qaj.mk (Kd.R_drew HO_4.out);replace HO_6:=qaj.mk (Kd.R_drew HO_6.out);replace HO_294002:=qaj.mk (Kd.R_drew HO_294002.out);replace BK284:=qaj.mk (qad BK284.out);replace BK293:=qaj.mk (qad BK293.out);replace HB:=qaj.mk (qar HB.out);have p297:0≤(x7_1:Int):=of_decide_eq_true (za13);have q297:x7_1<(t294.length:Int):=of_decide_eq_true (za13);obtain⟨ad297,e297,hx297_0⟩:=Kd.at_string (Kd.R_reads' HO_6.out).2.2 x7_1 p297 q297
          cases e297
          replace p297:=eq_true p297;replace q297:=eq_true q297;have p298:0≤(0:Int):=(by omega);have q298:0<(t285.length:Int):=of_decide_eq_true (za13);obtain⟨ad298,e298,hx298_0⟩:=Kd.at_string (Kd.R_reads' HO_4.out).2.2 0 p298 q298;obtain rfl:ad288=ad298:=(by injection e298);have qi298:(0<t285.length)=True:=eq_true (by omega);(try rw[show((0:Int)).toNat=0 from rfl] at hx298_0);(try rw[Addr.add_zero'] at hx298_0);replace p298:=eq_true p298;replace q298:=eq_true q298;refine start_ (n:=8) (S:=fun w'=>w'.cell? (ad297.add (x7_1).toNat)=some (.string (rdOf ByteArray.empty t294 x7_1))∧w'.cell? ad288=some (.string (rdOf ByteArray.empty t285 0))) (ds:=[]) #[false,false,false,false,false,false,false,false] (by kernel_rfl) rfl rfl ⟨hx297_0,hx298_0⟩ (fun hHeld=>?_);refine with_tabW spec_RecRead.tab11 spec_RecRead.bits11 (fun HT_ HW_=>?_);generalize wr.drew=w29 at HO_4 HO_6 HO_294002 BK284 BK293 HB hx297_0 hx298_0 hHeld ⊢;refine qaq (i:=0) (N:=some 32) (v:=?_) (a':=?_) #[true,false,false,false,false,false,false,false] rfl rfl (qan HT_.out (by kernel_rfl)) (fun _ _ _ h=>h) (Or.inl ⟨by rfl,?_⟩) ?_ ?_;rotate_left
          ·intro w';go_simp
           with_reducible rfl
          rotate_left
          ·simp only[Act.put,List.setIfInBounds_toArray,List.set_cons_zero,List.set_cons_succ,qak,qal];rfl
          refine qaq (i:=1) (N:=some 33) (v:=?_) (a':=?_) #[true,true,false,false,false,false,false,false] rfl rfl (qan HT_.out (by kernel_rfl)) (fun _ _ _ h=>h) (Or.inl ⟨by rfl,?_⟩) ?_ ?_;rotate_left
          ·intro w';go_simp
           with_reducible rfl
          rotate_left
          ·simp only[Act.put,List.setIfInBounds_toArray,List.set_cons_zero,List.set_cons_succ,qak,qal];rfl
          refine qaq (i:=2) (N:=some 34) (v:=?_) (a':=?_) #[true,true,true,false,false,false,false,false] rfl rfl (qan HT_.out (by kernel_rfl)) (fun _ _ _ h=>h) (Or.inl ⟨by rfl,?_⟩) ?_ ?_;rotate_left
          ·intro w';go_simp
           with_reducible rfl
          rotate_left
          ·simp only[Act.put,List.setIfInBounds_toArray,List.set_cons_zero,List.set_cons_succ,qak,qal];rfl
          refine qaq (i:=4) (N:=some 36) (v:=?_) (a':=?_) #[true,true,true,false,true,false,false,false] rfl rfl (qan HT_.out (by kernel_rfl)) (fun _ _ _ h=>h) (Or.inl ⟨by rfl,?_⟩) ?_ ?_;rotate_left
          ·intro w';go_simp
           with_reducible rfl
          rotate_left
          ·simp only[Act.put,List.setIfInBounds_toArray,List.set_cons_zero,List.set_cons_succ,qak,qal];rfl
          refine qaq (i:=5) (N:=some 37) (v:=?_) (a':=?_) #[true,true,true,false,true,true,false,false] rfl rfl (qan HT_.out (by kernel_rfl)) (fun _ _ _ h=>h) (Or.inl ⟨by rfl,?_⟩) ?_ ?_;rotate_left
          ·intro w';go_simp
           with_reducible rfl
          rotate_left
          ·simp only[Act.put,List.setIfInBounds_toArray,List.set_cons_zero,List.set_cons_succ,qak,qal];rfl
          refine take_ (i:=3) (N:=some 35) (v:=?_) (a':=?_) #[true,true,true,true,true,true,false,false] rfl rfl (take_ofW HT_.out HW_.out (by kernel_rfl)) (fun _ _ _ h=>h) (Or.inl ⟨by rfl,?_⟩) hHeld ?_ ?_;rotate_left
          ·rintro w' ⟨s0,s1⟩;go_simp
           with_reducible rfl
          rotate_left
          ·simp only[Act.put,List.setIfInBounds_toArray,List.set_cons_zero,List.set_cons_succ,qak,qal];rfl
          refine take_ (i:=6) (N:=some 38) (v:=?_) (a':=?_) #[true,true,true,true,true,true,true,false] rfl rfl (take_ofW HT_.out HW_.out (by kernel_rfl)) (fun _ _ _ h=>h) (Or.inl ⟨by rfl,?_⟩) hHeld ?_ ?_;rotate_left
          ·rintro w' ⟨s0,s1⟩;go_simp
           with_reducible rfl
          rotate_left
          ·simp only[Act.put,List.setIfInBounds_toArray,List.set_cons_zero,List.set_cons_succ,qak,qal];rfl
          refine qaq (i:=7) (N:=some 39) (v:=?_) (a':=?_) #[true,true,true,true,true,true,true,true] rfl rfl (qan HT_.out (by kernel_rfl)) (fun _ _ _ h=>h) (Or.inl ⟨by rfl,?_⟩) ?_ ?_;rotate_left
          ·intro w';go_simp
           with_reducible rfl
          rotate_left
          ·simp only[Act.put,List.setIfInBounds_toArray,List.set_cons_zero,List.set_cons_succ,qak,qal];rfl
          refine done_ (done_of HT_.out (by kernel_rfl)) ?_;have hnb30:=NB293_284.out;have hnc30:=NB284_293.out;obtain⟨hcz31_0,hcz31_1,hcz31_2,hfz31_0,hfz31_1,hfz31_2⟩:=zC3 BK293
          try go_wp2
          go_roundg k1
          case measure=>have:=HK1.out;omega
          case rel=>exact⟨(wrap64 (x7_1+1)),(x7_1),(za23),H',⟨by have:=HK1.out;omega⟩,⟨by(with_reducible repeat(first|apply Kd.R_alloc|apply Kd.R_drewN|apply Kd.R_drew));exact Kd.R_mono (Kd.R_far (p:=⟨gb293,0,none⟩) (Kd.R_types HO_4.out BK293.out (by decide)) (fun _ hk=>hk.2) (.int .i64 x7_1)) (fun _ hk=>hk.1)⟩,⟨by(with_reducible repeat(first|apply Kd.R_alloc|apply Kd.R_drewN|apply Kd.R_drew));exact Kd.R_mono (Kd.R_far (p:=⟨gb293,0,none⟩) (Kd.R_types HO_6.out BK293.out (by decide)) (fun _ hk=>hk.2) (.int .i64 x7_1)) (fun _ hk=>hk.1)⟩,⟨by(with_reducible repeat(first|apply Kd.R_alloc|apply Kd.R_drewN|apply Kd.R_drew));exact Kd.R_mono (Kd.R_far (p:=⟨gb293,0,none⟩) (Kd.R_types HO_294002.out BK293.out (by decide)) (fun _ hk=>hk.2) (.int .i64 x7_1)) (fun _ hk=>trivial)⟩,⟨za33 NB284_293 BK284⟩,⟨by(with_reducible repeat(first|refine qac ?_ _|refine qad ?_|refine qab ?_ _));refine qaf (cs:=#[.int .i64 x294000_1,.int .i64 t289,.slice Ao19 y290.length co19]) ?_ 0 _ rfl;(with_reducible repeat(first|refine qac ?_ _|refine qad ?_|refine qab ?_ _));exact BK293.out⟩,⟨za1 HB GE284 GE293⟩⟩
         ·rw[if_neg c27] at H;have c27b0:((rdOf ByteArray.empty t294 x7_1).toList == (rdOf ByteArray.empty t285 0).toList)=false:=beq_eq_false_iff_ne.mpr c27;have c27b1:((rdOf ByteArray.empty t294 x7_1).toList != (rdOf ByteArray.empty t285 0).toList)=true:=bne_iff_ne.mpr c27;have H':=qaj.mk H;clear H;obtain⟨Ao32,co32,eo32⟩:=Kd.R_slice HO_6.out;subst eo32
          try go_wp2
          replace HO_4:=qaj.mk (Kd.R_drew HO_4.out);replace HO_6:=qaj.mk (Kd.R_drew HO_6.out);replace HO_294002:=qaj.mk (Kd.R_drew HO_294002.out);replace BK284:=qaj.mk (qad BK284.out);replace BK293:=qaj.mk (qad BK293.out);replace HB:=qaj.mk (qar HB.out);have p297:0≤(x7_1:Int):=of_decide_eq_true (za13);have q297:x7_1<(t294.length:Int):=of_decide_eq_true (za13);obtain⟨ad297,e297,hx297_0⟩:=Kd.at_string (Kd.R_reads' HO_6.out).2.2 x7_1 p297 q297
          cases e297
          replace p297:=eq_true p297;replace q297:=eq_true q297;have p298:0≤(0:Int):=(by omega);have q298:0<(t285.length:Int):=of_decide_eq_true (za13);obtain⟨ad298,e298,hx298_0⟩:=Kd.at_string (Kd.R_reads' HO_4.out).2.2 0 p298 q298;obtain rfl:ad288=ad298:=(by injection e298);have qi298:(0<t285.length)=True:=eq_true (by omega);(try rw[show((0:Int)).toNat=0 from rfl] at hx298_0);(try rw[Addr.add_zero'] at hx298_0);replace p298:=eq_true p298;replace q298:=eq_true q298;refine start_ (n:=8) (S:=fun w'=>w'.cell? (ad297.add (x7_1).toNat)=some (.string (rdOf ByteArray.empty t294 x7_1))∧w'.cell? ad288=some (.string (rdOf ByteArray.empty t285 0))) (ds:=[]) #[false,false,false,false,false,false,false,false] (by kernel_rfl) rfl rfl ⟨hx297_0,hx298_0⟩ (fun hHeld=>?_);refine with_tabW spec_RecRead.tab11 spec_RecRead.bits11 (fun HT_ HW_=>?_);generalize wr.drew=w33 at HO_4 HO_6 HO_294002 BK284 BK293 HB hx297_0 hx298_0 hHeld ⊢;refine qaq (i:=0) (N:=some 32) (v:=?_) (a':=?_) #[true,false,false,false,false,false,false,false] rfl rfl (qan HT_.out (by kernel_rfl)) (fun _ _ _ h=>h) (Or.inl ⟨by rfl,?_⟩) ?_ ?_;rotate_left
          ·intro w';go_simp
           with_reducible rfl
          rotate_left
          ·simp only[Act.put,List.setIfInBounds_toArray,List.set_cons_zero,List.set_cons_succ,qak,qal];rfl
          refine qaq (i:=1) (N:=some 33) (v:=?_) (a':=?_) #[true,true,false,false,false,false,false,false] rfl rfl (qan HT_.out (by kernel_rfl)) (fun _ _ _ h=>h) (Or.inl ⟨by rfl,?_⟩) ?_ ?_;rotate_left
          ·intro w';go_simp
           with_reducible rfl
          rotate_left
          ·simp only[Act.put,List.setIfInBounds_toArray,List.set_cons_zero,List.set_cons_succ,qak,qal];rfl
          refine qaq (i:=2) (N:=some 34) (v:=?_) (a':=?_) #[true,true,true,false,false,false,false,false] rfl rfl (qan HT_.out (by kernel_rfl)) (fun _ _ _ h=>h) (Or.inl ⟨by rfl,?_⟩) ?_ ?_;rotate_left
          ·intro w';go_simp
           with_reducible rfl
          rotate_left
          ·simp only[Act.put,List.setIfInBounds_toArray,List.set_cons_zero,List.set_cons_succ,qak,qal];rfl
          refine qaq (i:=4) (N:=some 36) (v:=?_) (a':=?_) #[true,true,true,false,true,false,false,false] rfl rfl (qan HT_.out (by kernel_rfl)) (fun _ _ _ h=>h) (Or.inl ⟨by rfl,?_⟩) ?_ ?_;rotate_left
          ·intro w';go_simp
           with_reducible rfl
          rotate_left
          ·simp only[Act.put,List.setIfInBounds_toArray,List.set_cons_zero,List.set_cons_succ,qak,qal];rfl
          refine qaq (i:=5) (N:=some 37) (v:=?_) (a':=?_) #[true,true,true,false,true,true,false,false] rfl rfl (qan HT_.out (by kernel_rfl)) (fun _ _ _ h=>h) (Or.inl ⟨by rfl,?_⟩) ?_ ?_;rotate_left
          ·intro w';go_simp
           with_reducible rfl
          rotate_left
          ·simp only[Act.put,List.setIfInBounds_toArray,List.set_cons_zero,List.set_cons_succ,qak,qal];rfl
          refine take_ (i:=3) (N:=some 35) (v:=?_) (a':=?_) #[true,true,true,true,true,true,false,false] rfl rfl (take_ofW HT_.out HW_.out (by kernel_rfl)) (fun _ _ _ h=>h) (Or.inl ⟨by rfl,?_⟩) hHeld ?_ ?_;rotate_left
          ·rintro w' ⟨s0,s1⟩;go_simp
           with_reducible rfl
          rotate_left
          ·simp only[Act.put,List.setIfInBounds_toArray,List.set_cons_zero,List.set_cons_succ,qak,qal];rfl
          refine take_ (i:=6) (N:=some 38) (v:=?_) (a':=?_) #[true,true,true,true,true,true,true,false] rfl rfl (take_ofW HT_.out HW_.out (by kernel_rfl)) (fun _ _ _ h=>h) (Or.inl ⟨by rfl,?_⟩) hHeld ?_ ?_;rotate_left
          ·rintro w' ⟨s0,s1⟩;go_simp
           with_reducible rfl
          rotate_left
          ·simp only[Act.put,List.setIfInBounds_toArray,List.set_cons_zero,List.set_cons_succ,qak,qal];rfl
          refine qaq (i:=7) (N:=some 39) (v:=?_) (a':=?_) #[true,true,true,true,true,true,true,true] rfl rfl (qan HT_.out (by kernel_rfl)) (fun _ _ _ h=>h) (Or.inl ⟨by rfl,?_⟩) ?_ ?_;rotate_left
          ·intro w';go_simp
           with_reducible rfl
          rotate_left
          ·simp only[Act.put,List.setIfInBounds_toArray,List.set_cons_zero,List.set_cons_succ,qak,qal];rfl
          refine done_ (done_of HT_.out (by kernel_rfl)) ?_
          try go_wp2
          go_roundg k1
          case measure=>have:=HK1.out;omega
          case rel=>exact⟨(wrap64 (x7_1+1)),(x294000_1),(za23),H',⟨by have:=HK1.out;omega⟩,⟨za3 HO_4⟩,⟨za3 HO_6⟩,⟨za3 HO_294002⟩,⟨za18 BK284⟩,⟨za18 BK293⟩,⟨za1 HB GE284 GE293⟩⟩
        ·rw[if_neg c26] at H;exact absurd H (by simp)
       ·rw[if_neg c25] at H;exact absurd H (by simp)
      ·rw[if_neg c24] at H;have c24b0:decide (x7_1<(t294.length:Int))=false:=decide_eq_false c24;clear c24;have H':=qaj.mk H;clear H;obtain⟨Ao34,co34,eo34⟩:=Kd.R_slice HO_6.out;subst eo34;go_wp2
       go_loopg [8] k1 (fun kq v8 w'=>∃(x8_2:Int) (x294002_2:List Int) (u294002:Value),v8=.int .i64 x8_2∧qaj (spec_RecRead.l1 kq a0 t285 x8_2 x294000_1 t289 x294002_2=some (r1,r2,r3,r4))∧qaj (kq≤k1)∧qaj (Kd.R Kd.string 9 w' w.heap.size (fun _=>True) (.slice (some ad288) t285.length co16) t285)∧qaj (Kd.R (Kd.int .i64) 3 w' w.heap.size (fun _=>True) u294002 x294002_2)∧qaj (w'.heap[gb284]?=some (.cells #[.int .i64 0,.int .i64 0,(.slice none 0 0)] 25 (0,0)))∧qaj (w'.heap[gb293]?=some (.cells #[.int .i64 x294000_1,.int .i64 t289,u294002] 25 (0,0)))∧qaj (Below w.heap.size w w'))
       case atStart=>exact⟨(2),(y290),(.slice Ao19 y290.length co19),(za23),H',⟨Nat.le_refl _⟩,⟨by(with_reducible repeat(first|apply Kd.R_alloc|apply Kd.R_drewN|apply Kd.R_drew));exact Kd.R_mono HO_4.out (fun _ hk=>trivial)⟩,⟨za3 HO_294002⟩,⟨za18 BK284⟩,⟨za18 BK293⟩,⟨za1 HB GE284 GE293⟩⟩
       case round=>
        clear H'
        try clear c1
        try clear c2
        try clear c2b0
        try clear c2b1
        try clear p2
        try clear q2
        try clear hx2
        try clear qi2
        try clear c3
        try clear c4
        try clear c6
        try clear c6b0
        try clear c6b1
        try clear p6
        try clear c11
        try clear c11b0
        try clear c11b1
        try clear c20
        try clear c21
        try clear c24
        try clear c24b0
        try clear c25
        try clear c25b0
        try clear c26
        try clear c26b0
        try clear c26b1
        try clear c27
        try clear c27b0
        try clear c27b1
        try clear p28
        try clear q28
        try clear hx28
        try clear qi28
        try clear p29
        try clear q29
        try clear hx29
        try clear qi29
        try clear c30
        try clear hcz10_0
        try clear hcz10_1
        try clear hcz10_2
        try clear hcz22_0
        try clear hcz22_1
        try clear hcz22_2
        try clear hcz31_0
        try clear hcz31_1
        try clear hcz31_2
        try clear hcz4_0
        try clear hcz4_1
        try clear hcz4_2
        try clear hfz10_0
        try clear hfz10_1
        try clear hfz10_2
        try clear hfz22_0
        try clear hfz22_1
        try clear hfz22_2
        try clear hfz31_0
        try clear hfz31_1
        try clear hfz31_2
        try clear hfz4_0
        try clear hfz4_1
        try clear hfz4_2
        try clear hx288_0
        try clear hx297_0
        try clear hx298_0
        try clear p2
        try clear p288
        try clear p297
        try clear p298
        try clear q2
        try clear q288
        try clear q297
        try clear q298
        obtain⟨x8_2,x294002_2,u294002,rfl,HA,HK2,HO_4,HO_294002,BK284,BK293,HB⟩:=hrel
        cases gk with
        |zero=>exact absurd HA.out (by simp[spec_RecRead.l1])
        |succ k2=>
         have H:=HA.out;clear HA;simp only[spec_RecRead.l1] at H;by_cases c35:x8_2<(t285.length:Int)
         ·rw[if_pos c35] at H;have c35b0:decide (x8_2<(t285.length:Int))=true:=decide_eq_true c35;clear c35;by_cases c36:0≤x8_2
          ·rw[if_pos c36] at H;have c36b0:decide (0≤x8_2)=true:=decide_eq_true c36;clear c36;replace H:=Option.bind_eq_some_iff.mp H;obtain⟨t300,A370,H⟩:=H;replace H:(if x294002_2.length<17592186044416 then(spec_RecRead.l1 k2 a0 t285 (wrap64 (x8_2+1)) x294000_1 t289 (x294002_2++[t300])) else(none))=some (r1,r2,r3,r4):=H;have A37:=qaj.mk A370;clear A370;by_cases c38:x294002_2.length<17592186044416
           ·rw[if_pos c38] at H;have LMc38:=qaj.mk c38;clear c38;obtain⟨y301,hy301⟩:∃y_:List Int,y_=(x294002_2++[t300]):=⟨_,rfl⟩
            replace H:(spec_RecRead.l1 k2 a0 t285 (wrap64 (x8_2+1)) x294000_1 t289 y301)=some (r1,r2,r3,r4):=by first|(rw[hy301];with_reducible exact H)|(have H2_:=(Option.bind_some _ _).symm.trans H;rw[hy301];with_reducible exact H2_)|(have H2_:=(Option.bind_some _ _).symm.trans H;with_reducible exact H2_)|with_reducible exact H|(rw[hy301];exact H)|exact H
            have Ny301:=qaj.mk hy301;clear hy301;have H':=qaj.mk H;clear H
            try go_wp2
            replace HO_4:=qaj.mk (Kd.R_drew HO_4.out);replace HO_294002:=qaj.mk (Kd.R_drew HO_294002.out);replace BK284:=qaj.mk (qad BK284.out);replace BK293:=qaj.mk (qad BK293.out);replace HB:=qaj.mk (qar HB.out);have p299:0≤(x8_2:Int):=of_decide_eq_true (za13);have q299:x8_2<(t285.length:Int):=of_decide_eq_true (za13);obtain⟨ad299,e299,hx299_0⟩:=Kd.at_string (Kd.R_reads' HO_4.out).2.2 x8_2 p299 q299;obtain rfl:ad288=ad299:=(by injection e299);replace p299:=eq_true p299;replace q299:=eq_true q299;refine start_ (n:=11) (S:=fun w'=>w'.cell? ⟨gb293,0,none⟩=some (.int .i64 x294000_1)∧w'.cell? ⟨gb293,1,none⟩=some (.int .i64 t289)∧w'.cell? ⟨gb293,2,none⟩=some (u294002)∧w'.cell? (ad288.add (x8_2).toNat)=some (.string (rdOf ByteArray.empty t285 x8_2))) (ds:=[8,10]) #[false,false,false,false,false,false,false,false,false,false,false] (by kernel_rfl) rfl rfl ⟨(qag BK293.out 0).trans rfl,(qag BK293.out 1).trans rfl,(qag BK293.out 2).trans rfl,hx299_0⟩ (fun hHeld=>?_);refine with_tabW spec_RecRead.tab16 spec_RecRead.bits16 (fun HT_ HW_=>?_);generalize wr.drew=w39 at HO_4 HO_294002 BK284 BK293 HB hx299_0 hHeld ⊢;refine qaq (i:=0) (N:=some 48) (v:=?_) (a':=?_) #[true,false,false,false,false,false,false,false,false,false,false] rfl rfl (qan HT_.out (by kernel_rfl)) (fun _ _ _ h=>h) (Or.inl ⟨by rfl,?_⟩) ?_ ?_;rotate_left
            ·intro w';go_simp
             with_reducible rfl
            rotate_left
            ·simp only[Act.put,List.setIfInBounds_toArray,List.set_cons_zero,List.set_cons_succ,qak,qal];rfl
            refine qaq (i:=2) (N:=some 50) (v:=?_) (a':=?_) #[true,false,true,false,false,false,false,false,false,false,false] rfl rfl (qan HT_.out (by kernel_rfl)) (fun _ _ _ h=>h) (Or.inl ⟨by rfl,?_⟩) ?_ ?_;rotate_left
            ·intro w';go_simp
             with_reducible rfl
            rotate_left
            ·simp only[Act.put,List.setIfInBounds_toArray,List.set_cons_zero,List.set_cons_succ,qak,qal];rfl
            refine qaq (i:=3) (N:=some 51) (v:=?_) (a':=?_) #[true,false,true,true,false,false,false,false,false,false,false] rfl rfl (qan HT_.out (by kernel_rfl)) (fun _ _ _ h=>h) (Or.inl ⟨by rfl,?_⟩) ?_ ?_;rotate_left
            ·intro w';go_simp
             with_reducible rfl
            rotate_left
            ·simp only[Act.put,List.setIfInBounds_toArray,List.set_cons_zero,List.set_cons_succ,qak,qal];rfl
            refine qaq (i:=4) (N:=some 52) (v:=?_) (a':=?_) #[true,false,true,true,true,false,false,false,false,false,false] rfl rfl (qan HT_.out (by kernel_rfl)) (fun _ _ _ h=>h) (Or.inl ⟨by rfl,?_⟩) ?_ ?_;rotate_left
            ·intro w';go_simp
             with_reducible rfl
            rotate_left
            ·simp only[Act.put,List.setIfInBounds_toArray,List.set_cons_zero,List.set_cons_succ,qak,qal];rfl
            refine take_ (i:=1) (N:=some 49) (v:=?_) (a':=?_) #[true,true,true,true,true,false,false,false,false,false,false] rfl rfl (take_ofW HT_.out HW_.out (by kernel_rfl)) (fun _ _ _ h=>h) (Or.inl ⟨by rfl,?_⟩) hHeld ?_ ?_;rotate_left
            ·rintro w' ⟨s0,s1,s2,s3⟩;go_simp
             with_reducible rfl
            rotate_left
            ·simp only[Act.put,List.setIfInBounds_toArray,List.set_cons_zero,List.set_cons_succ,qak,qal];rfl
            refine take_ (i:=5) (N:=some 53) (v:=?_) (a':=?_) #[true,true,true,true,true,true,false,false,false,false,false] rfl rfl (take_ofW HT_.out HW_.out (by kernel_rfl)) (fun _ _ _ h=>h) (Or.inl ⟨by rfl,?_⟩) hHeld ?_ ?_;rotate_left
            ·rintro w' ⟨s0,s1,s2,s3⟩;go_simp
             with_reducible rfl
            rotate_left
            ·simp only[Act.put,List.setIfInBounds_toArray,List.set_cons_zero,List.set_cons_succ,qak,qal];rfl
            refine one_ (i:=6) (N:=some 54) #[true,true,true,true,true,true,true,false,false,false,false] rfl rfl (one_of HT_.out (by kernel_rfl)) (by decide) (fun K hK=>?_);refine goes_ Tryd.func48 (by kernel_rfl) rfl #[.string (rdOf ByteArray.empty t285 x8_2)] (by rfl) rfl rfl (by(try simp only[List.map_toArray,List.map_cons,List.map_nil]);first|done|rfl|(simp only[List.length_drop,List.length_take];rfl)) ?_
            with_reducible refine(spec_l1Dec.calls k2 (rdOf ByteArray.empty t285 x8_2) t300 _ A37.out).mono ?_
            rintro e w' ⟨rfl,⟨nd,rfl⟩⟩;refine⟨_,rfl,?_⟩;refine hK.out _ _ ⟨(qag BK293.out 0).trans rfl,(qag BK293.out 1).trans rfl,(qag BK293.out 2).trans rfl,hHeld.2.2.2⟩ (fun hHeld=>?_);clear hK K;refine norm_ (a':=?_) ?_ ?_;rotate_left
            ·show Act.put _ (some 54) _=_;simp only[Act.put,List.setIfInBounds_toArray,List.set_cons_zero,List.set_cons_succ,qak,qal];rfl
            refine one_ (i:=7) (N:=some 55) #[true,true,true,true,true,true,true,true,false,false,false] rfl rfl (one_of HT_.out (by kernel_rfl)) (by decide) (fun K hK=>?_);refine value_ (w1:=?_) (v:=?_) (by rfl) rfl ?_ ?_;rotate_left 2
            ·go_simp;constructor
             ·rfl
             ·rfl
            refine hK.out _ _ ⟨(qag (qab BK293.out _) 0).trans rfl,(qag (qab BK293.out _) 1).trans rfl,(qag (qab BK293.out _) 2).trans rfl,(World.cell?_alloc_lt _ _ _ (World.block_lt_of_cell? _ _ (hHeld.2.2.2))).trans (hHeld.2.2.2)⟩ (fun hHeld=>?_);clear hK K;refine norm_ (a':=?_) ?_ ?_;rotate_left
            ·show Act.put _ (some 55) _=_;simp only[Act.put,List.setIfInBounds_toArray,List.set_cons_zero,List.set_cons_succ,qak,qal];rfl
            refine last_ (i:=8) (N:=some 56) #[true,true,true,true,true,true,true,true,true,false,false] rfl rfl (one_of HT_.out (by kernel_rfl)) (by decide) (fun K hK=>?_);refine Kd.R_append_step (Kd.int .i64) (w0:=w) w.heap.size (by rfl) (.tmp 49) (.tmp 55) 23 3 (.int .i64 0) 8 rfl Tryd.underlying23 info3 rfl (by decide) (by omega) u294002 x294002_2 t300 [.int .i64 t300] (fun _=>True) (fun _=>False) rfl rfl ?aP (fun _ hk=>hk.elim) ?aF ?aO ?aB ?aS ?aL ?_;(case aP=>exact rfl);(case aB=>exact(za1 HB GE284 GE293));(case aF=>exact(fun _ _=>trivial));(case aO=>exact(za3 HO_294002));(case aS=>exact(qam (za1 HB GE284 GE293)));(case aL=>have:=LMc38.out;omega);intro v302 w40 ho hb hg hat;rw[←Ny301.out] at ho;replace HO_4:=qaj.mk (Kd.R_over' (za3 HO_4) (Kd.R_typed (za3 HO_294002)) (by decide) hg);replace BK284:=qaj.mk (blk_grown (zB BK284) hg (Kd.R_ne HO_294002.out BK284.out (by decide)))
            replace BK293:=qaj.mk (blk_grown (zB BK293) hg (Kd.R_ne HO_294002.out BK293.out (by decide)));replace HB:=qaj.mk hb;have HO303:=qaj.mk ho;clear HO_294002;clear ho hb hg hat;obtain⟨Ao41,co41,eo41⟩:=Kd.R_slice HO303.out;(first|subst eo41|(injection eo41 with f1_ f2_ f3_;have f4_:=f1_.symm;have f5_:=f3_.symm;clear f1_ f2_ f3_;subst f4_;subst f5_));refine hK.out _ _ ?_;clear hK K;refine norm_ (a':=?_) ?_ ?_;rotate_left
            ·show Act.put _ (some 56) _=_;simp only[Act.put,List.setIfInBounds_toArray,List.set_cons_zero,List.set_cons_succ,qak,qal];rfl
            refine qaq (i:=9) (N:=some 57) (v:=?_) (a':=?_) #[true,true,true,true,true,true,true,true,true,true,false] rfl rfl (qan HT_.out (by kernel_rfl)) (fun _ _ _ h=>h) (Or.inl ⟨by rfl,?_⟩) ?_ ?_;rotate_left
            ·intro w';go_simp
             with_reducible rfl
            rotate_left
            ·simp only[Act.put,List.setIfInBounds_toArray,List.set_cons_zero,List.set_cons_succ,qak,qal];rfl
            refine last_ (i:=10) (N:=none) #[true,true,true,true,true,true,true,true,true,true,true] rfl rfl (one_of HT_.out (by kernel_rfl)) (by decide) (fun K hK=>?_);have hs42:w40.cell? ⟨gb293,2,none⟩=some (u294002):=(qag BK293.out 2).trans rfl;have hfs42:=qao BK293.out 2;have hns42_0:=NB284_293.out;have hms42_0:=NB293_284.out;refine skip_ (w1:=?_) (by rfl) rfl ?_ ?_;rotate_left
            ·go_simp;rfl
            refine hK.out _ _ ?_;clear hK K;refine done_ (done_of HT_.out (by kernel_rfl)) ?_
            try go_wp2
            go_roundg k2
            case measure=>have:=HK1.out;have:=HK2.out;omega
            case rel=>exact⟨(wrap64 (x8_2+1)),(y301),(.slice Ao41 y301.length co41),(za23),H',⟨by have:=HK1.out;have:=HK2.out;omega⟩,⟨by(with_reducible repeat(first|apply Kd.R_alloc|apply Kd.R_drewN|apply Kd.R_drew));exact Kd.R_mono (Kd.R_far (p:=⟨gb293,2,none⟩) (Kd.R_types HO_4.out BK293.out (by decide)) (fun _ hk=>hk.2) (.slice Ao41 y301.length co41)) (fun _ hk=>trivial)⟩,⟨by(with_reducible repeat(first|apply Kd.R_alloc|apply Kd.R_drewN|apply Kd.R_drew));exact Kd.R_mono (Kd.R_far (p:=⟨gb293,2,none⟩) (Kd.R_types HO303.out BK293.out (by decide)) (fun _ hk=>hk.2) (.slice Ao41 y301.length co41)) (fun _ hk=>trivial)⟩,⟨za33 NB284_293 BK284⟩,⟨by(with_reducible repeat(first|refine qac ?_ _|refine qad ?_|refine qab ?_ _));refine qaf (cs:=#[.int .i64 x294000_1,.int .i64 t289,u294002]) ?_ 2 _ rfl;(with_reducible repeat(first|refine qac ?_ _|refine qad ?_|refine qab ?_ _));exact BK293.out⟩,⟨za1 HB GE284 GE293⟩⟩
           ·rw[if_neg c38] at H;exact absurd H (by simp)
          ·rw[if_neg c36] at H;exact absurd H (by simp)
         ·rw[if_neg c35] at H;have c35b0:decide (x8_2<(t285.length:Int))=false:=decide_eq_false c35;clear c35;replace H:=Option.bind_eq_some_iff.mp H;obtain⟨t304,A430,H⟩:=H;replace H:(if t304=true then((spec_RecText.f k2 x294000_1 t289 x294002_2).bind fun t305=>(if t305.toList=a0.toList then(some (x294000_1,t289,x294002_2,true)) else(some (0,0,([]:List Int),false)))) else(some (0,0,([]:List Int),false)))=some (r1,r2,r3,r4):=H;have A43:=qaj.mk A430;clear A430;by_cases c44:t304=true
          ·subst c44
           have H1:((spec_RecText.f k2 x294000_1 t289 x294002_2).bind fun t305=>(if t305.toList=a0.toList then(some (x294000_1,t289,x294002_2,true)) else(some (0,0,([]:List Int),false))))=some (r1,r2,r3,r4):=by rw[if_pos rfl] at H;exact H
           clear H;have H:=H1;clear H1;replace H:=Option.bind_eq_some_iff.mp H;obtain⟨t305,A450,H⟩:=H;replace H:(if t305.toList=a0.toList then(some (x294000_1,t289,x294002_2,true)) else(some (0,0,([]:List Int),false)))=some (r1,r2,r3,r4):=H;have A45:=qaj.mk A450;clear A450;by_cases c46:t305.toList=a0.toList
           ·rw[if_pos c46] at H;have c46b0:(t305.toList == a0.toList)=true:=beq_iff_eq.mpr c46;have c46b1:(t305.toList != a0.toList)=false:=bne_eq_false_iff_eq.mpr c46;clear c46;simp only[Option.some.injEq,Prod.mk.injEq] at H;obtain⟨rfl,rfl,rfl,rfl⟩:=H;have hnb47:=NB293_284.out;have hnc47:=NB284_293.out;obtain⟨hcz48_0,hcz48_1,hcz48_2,hfz48_0,hfz48_1,hfz48_2⟩:=zC3 BK293;obtain⟨Ao49,co49,eo49⟩:=Kd.R_slice HO_294002.out;subst eo49
            go_wp2_with(first|((with_reducible refine qae (f:=41) rfl ?_);refine zF (some 59) Tryd.func41 #[.agg #[.int .i64 x294000_1,.int .i64 t289,.slice Ao49 x294002_2.length co49]] ?_;(with_reducible refine(spec_RecOk.calls k2 x294000_1 t289 _ _ x294002_2 true _ ?side1 ?side2 A43.out).mono ?_);(case side1=>repeat(first|exact(Kd.R_reads' HO_294002.out).2.2|(with_reducible refine Kd.C_alloc ?_ _)|(with_reducible refine Kd.C_drewN ?_ _)|(with_reducible refine Kd.C_drew ?_)));(case side2=>exact(Kd.R_reads' HO_294002.out).2.1);rintro e w50 ⟨rfl,hb⟩;refine⟨_,rfl,?_⟩;replace HO_4:=qaj.mk (Kd.R_below (za3 HO_4) hb);replace HO_294002:=qaj.mk (Kd.R_below (za3 HO_294002) hb);replace BK284:=zY BK284 hb;replace BK293:=zY BK293 hb;replace HB:=qaj.mk (qaa (za1 HB GE284 GE293) hb);(try clear hb);obtain⟨hcz51_0,hcz51_1,hcz51_2,hfz51_0,hfz51_1,hfz51_2⟩:=zC3 BK293)|(go_at_call 17;(with_reducible refine(spec_RecText.calls k2 x294000_1 t289 _ _ x294002_2 t305 _ ?side1 ?side2 A45.out).mono ?_);(case side1=>repeat(first|exact(Kd.R_reads' HO_294002.out).2.2|(with_reducible refine Kd.C_alloc ?_ _)|(with_reducible refine Kd.C_drewN ?_ _)|(with_reducible refine Kd.C_drew ?_)));(case side2=>exact(Kd.R_reads' HO_294002.out).2.1);rintro e w52 ⟨rfl,hb⟩;replace HO_4:=qaj.mk (Kd.R_below (za3 HO_4) hb);replace HO_294002:=qaj.mk (Kd.R_below (za3 HO_294002) hb);replace BK284:=zY BK284 hb;replace BK293:=zY BK293 hb;replace HB:=qaj.mk (qaa (za1 HB GE284 GE293) hb);(try clear hb);obtain⟨hcz53_0,hcz53_1,hcz53_2,hfz53_0,hfz53_1,hfz53_2⟩:=zC3 BK293;obtain⟨hcz54_0,hcz54_1,hcz54_2,hfz54_0,hfz54_1,hfz54_2⟩:=zC3 BK284))
            refine bodyPost_ret (results_ct rfl _ _ gb284 25 #[.int .i64 x294000_1,.int .i64 t289,.slice Ao49 x294002_2.length co49] (0,0) _ rfl (by(with_reducible repeat(first|refine qac ?_ _|refine qad ?_|refine qab ?_ _));refine qaf (cs:=#[.int .i64 x294000_1,.int .i64 t289,.slice none 0 0]) ?_ 2 _ rfl;(with_reducible repeat(first|refine qac ?_ _|refine qad ?_|refine qab ?_ _));refine qaf (cs:=#[.int .i64 x294000_1,.int .i64 0,.slice none 0 0]) ?_ 1 _ rfl;(with_reducible repeat(first|refine qac ?_ _|refine qad ?_|refine qab ?_ _));refine qaf (cs:=#[.int .i64 0,.int .i64 0,.slice none 0 0]) ?_ 0 _ rfl;(with_reducible repeat(first|refine qac ?_ _|refine qad ?_|refine qab ?_ _));exact BK284.out) Tryd.underlying25 rfl (by kernel_rfl)) rfl ?_
            exact⟨_,za10,by(with_reducible repeat(first|apply Kd.R_alloc|apply Kd.R_drewN|apply Kd.R_drew));exact Kd.R_mono (Kd.R_far (p:=⟨gb284,2,none⟩) (Kd.R_far (p:=⟨gb284,1,none⟩) (Kd.R_far (p:=⟨gb284,0,none⟩) (Kd.R_types HO_294002.out BK284.out (by decide)) (fun _ hk=>hk.2) (.int .i64 x294000_1)) (fun _ hk=>hk.2) (.int .i64 t289)) (fun _ hk=>hk.2) (.slice Ao49 x294002_2.length co49)) (fun _ hk=>trivial),za1 HB GE284 GE293⟩
           ·rw[if_neg c46] at H;have c46b0:(t305.toList == a0.toList)=false:=beq_eq_false_iff_ne.mpr c46;have c46b1:(t305.toList != a0.toList)=true:=bne_iff_ne.mpr c46;simp only[Option.some.injEq,Prod.mk.injEq] at H;obtain⟨rfl,rfl,rfl,rfl⟩:=H;have hnb55:=NB293_284.out;have hnc55:=NB284_293.out;obtain⟨hcz56_0,hcz56_1,hcz56_2,hfz56_0,hfz56_1,hfz56_2⟩:=zC3 BK293;obtain⟨Ao57,co57,eo57⟩:=Kd.R_slice HO_294002.out;subst eo57
            go_wp2_with(first|((with_reducible refine qae (f:=41) rfl ?_);refine zF (some 59) Tryd.func41 #[.agg #[.int .i64 x294000_1,.int .i64 t289,.slice Ao57 x294002_2.length co57]] ?_;(with_reducible refine(spec_RecOk.calls k2 x294000_1 t289 _ _ x294002_2 true _ ?side1 ?side2 A43.out).mono ?_);(case side1=>repeat(first|exact(Kd.R_reads' HO_294002.out).2.2|(with_reducible refine Kd.C_alloc ?_ _)|(with_reducible refine Kd.C_drewN ?_ _)|(with_reducible refine Kd.C_drew ?_)));(case side2=>exact(Kd.R_reads' HO_294002.out).2.1);rintro e w58 ⟨rfl,hb⟩;refine⟨_,rfl,?_⟩;replace HO_4:=qaj.mk (Kd.R_below (za3 HO_4) hb);replace HO_294002:=qaj.mk (Kd.R_below (za3 HO_294002) hb);replace BK284:=zY BK284 hb;replace BK293:=zY BK293 hb;replace HB:=qaj.mk (qaa (za1 HB GE284 GE293) hb);(try clear hb);obtain⟨hcz59_0,hcz59_1,hcz59_2,hfz59_0,hfz59_1,hfz59_2⟩:=zC3 BK293)|(go_at_call 17;(with_reducible refine(spec_RecText.calls k2 x294000_1 t289 _ _ x294002_2 t305 _ ?side1 ?side2 A45.out).mono ?_);(case side1=>repeat(first|exact(Kd.R_reads' HO_294002.out).2.2|(with_reducible refine Kd.C_alloc ?_ _)|(with_reducible refine Kd.C_drewN ?_ _)|(with_reducible refine Kd.C_drew ?_)));(case side2=>exact(Kd.R_reads' HO_294002.out).2.1);rintro e w60 ⟨rfl,hb⟩;replace HO_4:=qaj.mk (Kd.R_below (za3 HO_4) hb);replace HO_294002:=qaj.mk (Kd.R_below (za3 HO_294002) hb);replace BK284:=zY BK284 hb;replace BK293:=zY BK293 hb;replace HB:=qaj.mk (qaa (za1 HB GE284 GE293) hb);(try clear hb);obtain⟨hcz61_0,hcz61_1,hcz61_2,hfz61_0,hfz61_1,hfz61_2⟩:=zC3 BK284))
            refine bodyPost_ret (results_ct rfl _ _ gb284 25 #[.int .i64 0,.int .i64 0,.slice none 0 0] (0,0) _ rfl (by(with_reducible repeat(first|refine qac ?_ _|refine qad ?_|refine qab ?_ _));refine qaf (cs:=#[.int .i64 0,.int .i64 0,.slice none 0 0]) ?_ 2 _ rfl;(with_reducible repeat(first|refine qac ?_ _|refine qad ?_|refine qab ?_ _));refine qaf (cs:=#[.int .i64 0,.int .i64 0,.slice none 0 0]) ?_ 1 _ rfl;(with_reducible repeat(first|refine qac ?_ _|refine qad ?_|refine qab ?_ _));refine qaf (cs:=#[.int .i64 0,.int .i64 0,.slice none 0 0]) ?_ 0 _ rfl;(with_reducible repeat(first|refine qac ?_ _|refine qad ?_|refine qab ?_ _));exact BK284.out) Tryd.underlying25 rfl (by kernel_rfl)) rfl ?_
            exact⟨_,za10,za36,za1 HB GE284 GE293⟩
          ·replace c44:=Bool.eq_false_iff.mpr c44;subst c44
           have H1:(some (0,0,([]:List Int),false))=some (r1,r2,r3,r4):=by rw[if_neg (show ¬(false=true) by decide)] at H;exact H
           clear H;have H:=H1;clear H1;simp only[Option.some.injEq,Prod.mk.injEq] at H;obtain⟨rfl,rfl,rfl,rfl⟩:=H;have hnb62:=NB293_284.out;have hnc62:=NB284_293.out;obtain⟨hcz63_0,hcz63_1,hcz63_2,hfz63_0,hfz63_1,hfz63_2⟩:=zC3 BK293;obtain⟨Ao64,co64,eo64⟩:=Kd.R_slice HO_294002.out;subst eo64
           go_wp2_with(first|((with_reducible refine qae (f:=41) rfl ?_);refine zF (some 59) Tryd.func41 #[.agg #[.int .i64 x294000_1,.int .i64 t289,.slice Ao64 x294002_2.length co64]] ?_;(with_reducible refine(spec_RecOk.calls k2 x294000_1 t289 _ _ x294002_2 false _ ?side1 ?side2 A43.out).mono ?_);(case side1=>repeat(first|exact(Kd.R_reads' HO_294002.out).2.2|(with_reducible refine Kd.C_alloc ?_ _)|(with_reducible refine Kd.C_drewN ?_ _)|(with_reducible refine Kd.C_drew ?_)));(case side2=>exact(Kd.R_reads' HO_294002.out).2.1);rintro e w65 ⟨rfl,hb⟩;refine⟨_,rfl,?_⟩;replace HO_4:=qaj.mk (Kd.R_below (za3 HO_4) hb);replace HO_294002:=qaj.mk (Kd.R_below (za3 HO_294002) hb);replace BK284:=zY BK284 hb;replace BK293:=zY BK293 hb;replace HB:=qaj.mk (qaa (za1 HB GE284 GE293) hb);(try clear hb);obtain⟨hcz66_0,hcz66_1,hcz66_2,hfz66_0,hfz66_1,hfz66_2⟩:=zC3 BK284))
           refine bodyPost_ret (results_ct rfl _ _ gb284 25 #[.int .i64 0,.int .i64 0,.slice none 0 0] (0,0) _ rfl (by(with_reducible repeat(first|refine qac ?_ _|refine qad ?_|refine qab ?_ _));refine qaf (cs:=#[.int .i64 0,.int .i64 0,.slice none 0 0]) ?_ 2 _ rfl;(with_reducible repeat(first|refine qac ?_ _|refine qad ?_|refine qab ?_ _));refine qaf (cs:=#[.int .i64 0,.int .i64 0,.slice none 0 0]) ?_ 1 _ rfl;(with_reducible repeat(first|refine qac ?_ _|refine qad ?_|refine qab ?_ _));refine qaf (cs:=#[.int .i64 0,.int .i64 0,.slice none 0 0]) ?_ 0 _ rfl;(with_reducible repeat(first|refine qac ?_ _|refine qad ?_|refine qab ?_ _));exact BK284.out) Tryd.underlying25 rfl (by kernel_rfl)) rfl ?_
           exact⟨_,za10,za36,za1 HB GE284 GE293⟩
   ·rw[if_neg c11] at H;exact absurd H (by simp)
end Go.Proofs.YtbcepmkifomifaaDoor.Print
