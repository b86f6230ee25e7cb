-- Written by squeeze.py: not trusted, Lean checks it.
import Derived.Test.YtmbdphefnalenaaZK
import Derived.Test.YtmbdphefnalenaaZd0
import Derived.Test.YtmbdphefnalenaaZe4
namespace Go.Proofs.Ytmbdphefnalenaa.Print
open Go.RowKit Go.Proofs.YtmbdphefnalenaaW.PrintWords Go.Proofs.YtmbdphefnalenaaW.PrintLast Go.Proofs.YtmbdphefnalenaaW.PrintMore
attribute [local go_sem] max2_int min2_int max_two min_two max_three min_three max_four min_four
set_option linter.unusedVariables false
set_option linter.unusedSimpArgs false
def impl_StockNew.f (a0:Int):Option (Int × (List (S49)) × Bool):=(impl_in.f a0 0 9).bind fun t565=>(if t565=true then(if 6≤17592186044416 then(some (a0,(List.replicate 6 z49),true)) else(none)) else(some (0,([]:List (S49)),false)))
set_option maxHeartbeats 8000000 in
set_option maxRecDepth 100000 in
theorem impl_StockNew.calls (a0:Int) (r1:Int) (r2:List (S49)) (r3:Bool) (w:World) (h:impl_StockNew.f a0=some (r1,r2,r3)) :
  Calls Try.prog 56 #[.int .i64 a0] w fun e w'=>∃v1_:Value,e=.returned (.tuple #[.agg #[.int .i64 r1,v1_],.bool r3])∧Kd.R k49 49 w' w.heap.size (fun _=>True) v1_ r2∧Below w.heap.size w w':=by
 have hu38:=Try.underlying38;have HB:=qaf.mk (Below.refl w.heap.size w);have H:((impl_in.f a0 0 9).bind fun t565=>(if t565=true then(if 6≤17592186044416 then(some (a0,(List.replicate 6 z49),true)) else(none)) else(some (0,([]:List (S49)),false))))=some (r1,r2,r3):=h;clear h;replace H:=Option.bind_eq_some_iff.mp H;obtain⟨t565,A20,H⟩:=H;replace H:(if t565=true then(if 6≤17592186044416 then(some (a0,(List.replicate 6 z49),true)) else(none)) else(some (0,([]:List (S49)),false)))=some (r1,r2,r3):=H;have A2:=qaf.mk A20;clear A20;by_cases c3:t565=true
 ·subst c3
  have H1:(if 6≤17592186044416 then(some (a0,(List.replicate 6 z49),true)) else(none))=some (r1,r2,r3):=by rw[if_pos rfl] at H;exact H
  clear H;have H:=H1;clear H1;by_cases c4:6≤17592186044416
  ·rw[if_pos c4] at H;have c4b0:=eq_true c4;have c4b1:decide (6≤17592186044416)=true:=decide_eq_true c4;clear c4;obtain⟨y566,hy566⟩:∃y_:List (S49),y_=(List.replicate 6 z49):=⟨_,rfl⟩
   replace H:(some (a0,y566,true))=some (r1,r2,r3):=by first|(rw[hy566];with_reducible exact H)|(have H2_:=(Option.bind_some _ _).symm.trans H;rw[hy566];with_reducible exact H2_)|(have H2_:=(Option.bind_some _ _).symm.trans H;with_reducible exact H2_)|with_reducible exact H|(rw[hy566];exact H)|exact H
   have Ny566:=qaf.mk hy566;clear hy566;simp only[Option.some.injEq,Prod.mk.injEq] at H;obtain⟨rfl,rfl,rfl⟩:=H;go_enter Try.func56,Try.ntmps56
   go_wp2_with(first|((with_reducible refine qam (N:=2) rfl ?_);refine zX (N:=2) (cs:=#[.int .i64 0,.slice none 0 0]) (t:=38) ?_;intro gb564 hg w5 hbox hb;have BK564:=qaf.mk hbox;have GW564:=zH (w:=w) hg (za2 HB);have GE564:=GW564;replace HB:=qaf.mk (qad (za2 HB) hb);clear hb hbox hg)|((with_reducible refine qag (f:=66) rfl ?_);refine zF (some 5) Try.func66 #[.int .i64 a0,.int .i64 0,.int .i64 9] ?_;(with_reducible refine(impl_in.calls a0 0 9 true _ A2.out).mono ?_);rintro e w' ⟨rfl,⟨nd,rfl⟩⟩;refine⟨_,rfl,?_⟩;(try(rw[drewN_self w5];generalize hq_:World.drewN w5 _=w5;replace BK564:qaf (w5.heap[gb564]?=some (.cells #[.int .i64 0,.slice none 0 0] 38 (0,0))):=⟨by rw[←hq_];exact(zB BK564)⟩;replace HB:qaf (Below w.heap.size w w5):=⟨by rw[←hq_];exact(za3 HB GE564)⟩;clear hq_;have hczugb564_0:w5.cell? ⟨gb564,0,none⟩=some _:=(qae BK564.out 0).trans rfl;have hfzugb564_0:=qax BK564.out 0;have hczugb564_1:w5.cell? ⟨gb564,1,none⟩=some _:=(qae BK564.out 1).trans rfl;have hfzugb564_1:=qax BK564.out 1)))|((with_reducible refine qam (N:=9) rfl ?_);refine Kd.R_make k49 _ 49 rfl (N:=9) rfl 36 _ _ rfl 6 rfl rfl Try.underlying36 (.agg #[(.int .i64 0),(.int .i64 0)]) 16 info49 rfl (by decide) (by omega) z49 (ok:=fun _=>True) (okp:=fun _=>True) (k49_mkM _ _ _ z49 ) (fun _ hk=>hk) trivial (by omega) (by omega) (Below.refl _ _) (Nat.le_refl _) ?_;intro v567 w6 ho7 hb hg_ hnew_;clear hg_ hnew_;(first|rw[←Ny566.out] at ho7|(simp only[Int.reduceToNat] at ho7;rw[←Ny566.out] at ho7));have HO568:=qaf.mk (Kd.R_lower ho7 (qan (za3 HB GE564)));replace BK564:=zY BK564 hb;replace HB:=qaf.mk (qad (za3 HB GE564) hb);clear hb ho7;obtain⟨Ao8,co8,eo8⟩:=Kd.R_slice HO568.out;subst eo8;obtain⟨hcz9_0,hcz9_1,hfz9_0,hfz9_1⟩:=zC2 BK564))
   refine bodyPost_ret (results_ct rfl _ _ gb564 38 #[.int .i64 a0,.slice Ao8 y566.length co8] (0,0) _ rfl (by(with_reducible repeat(first|refine qac ?_ _|refine qaa ?_|refine qab ?_ _));refine qah (cs:=#[.int .i64 a0,.slice none 0 0]) ?_ 1 _ rfl;(with_reducible repeat(first|refine qac ?_ _|refine qaa ?_|refine qab ?_ _));refine qah (cs:=#[.int .i64 0,.slice none 0 0]) ?_ 0 _ rfl;(with_reducible repeat(first|refine qac ?_ _|refine qaa ?_|refine qab ?_ _));exact BK564.out) Try.underlying38 rfl (by kernel_rfl)) rfl ?_;exact⟨_,za12,by(with_reducible repeat(first|apply Kd.R_alloc|apply Kd.R_drewN|apply Kd.R_drew));exact Kd.R_mono (Kd.R_far (p:=⟨gb564,1,none⟩) (Kd.R_far (p:=⟨gb564,0,none⟩) (Kd.R_types HO568.out BK564.out (by decide)) (fun _ hk=>hk.2) (.int .i64 a0)) (fun _ hk=>hk.2) (.slice Ao8 y566.length co8)) (fun _ hk=>trivial),za3 HB GE564⟩
  ·rw[if_neg c4] at H;exact absurd H (by simp)
 ·replace c3:=Bool.eq_false_iff.mpr c3;subst c3
  have H1:(some (0,([]:List (S49)),false))=some (r1,r2,r3):=by rw[if_neg (show ¬(false=true) by decide)] at H;exact H
  clear H;have H:=H1;clear H1;simp only[Option.some.injEq,Prod.mk.injEq] at H;obtain⟨rfl,rfl,rfl⟩:=H;go_enter Try.func56,Try.ntmps56
  go_wp2_with(first|((with_reducible refine qam (N:=2) rfl ?_);refine zX (N:=2) (cs:=#[.int .i64 0,.slice none 0 0]) (t:=38) ?_;intro gb564 hg w10 hbox hb;have BK564:=qaf.mk hbox;have GW564:=zH (w:=w) hg (za2 HB);have GE564:=GW564;replace HB:=qaf.mk (qad (za2 HB) hb);clear hb hbox hg)|((with_reducible refine qag (f:=66) rfl ?_);refine zF (some 5) Try.func66 #[.int .i64 a0,.int .i64 0,.int .i64 9] ?_;(with_reducible refine(impl_in.calls a0 0 9 false _ A2.out).mono ?_);rintro e w' ⟨rfl,⟨nd,rfl⟩⟩;refine⟨_,rfl,?_⟩;(try(rw[drewN_self w10];generalize hq_:World.drewN w10 _=w10;replace BK564:qaf (w10.heap[gb564]?=some (.cells #[.int .i64 0,.slice none 0 0] 38 (0,0))):=⟨by rw[←hq_];exact(zB BK564)⟩;replace HB:qaf (Below w.heap.size w w10):=⟨by rw[←hq_];exact(za3 HB GE564)⟩;clear hq_;have hczugb564_0:w10.cell? ⟨gb564,0,none⟩=some _:=(qae BK564.out 0).trans rfl;have hfzugb564_0:=qax BK564.out 0;have hczugb564_1:w10.cell? ⟨gb564,1,none⟩=some _:=(qae BK564.out 1).trans rfl;have hfzugb564_1:=qax BK564.out 1));obtain⟨hcz11_0,hcz11_1,hfz11_0,hfz11_1⟩:=zC2 BK564))
  refine bodyPost_ret (results_ct rfl _ _ gb564 38 #[.int .i64 0,.slice none 0 0] (0,0) _ rfl (by(with_reducible repeat(first|refine qac ?_ _|refine qaa ?_|refine qab ?_ _));refine qah (cs:=#[.int .i64 0,.slice none 0 0]) ?_ 1 _ rfl;(with_reducible repeat(first|refine qac ?_ _|refine qaa ?_|refine qab ?_ _));refine qah (cs:=#[.int .i64 0,.slice none 0 0]) ?_ 0 _ rfl;(with_reducible repeat(first|refine qac ?_ _|refine qaa ?_|refine qab ?_ _));exact BK564.out) Try.underlying38 rfl (by kernel_rfl)) rfl ?_;exact⟨_,za12,za65,za3 HB GE564⟩
def impl_StockOf.l0:Nat→List (S32)→Bool→Int→Int→List (S49)→Option (Int × (List (S49)) × Bool)
 |0,_,_,_,_,_=>none
 |k+1,x1,x7,x8,x576000,x576001=>if x7=true then(if x8<(x1.length:Int) then(if 0≤x8 then((impl_StockDo.f k x576000 x576001 ((rd_T32 x1 x8).f0) ((rd_T32 x1 x8).f1) ((rd_T32 x1 x8).f2)).bind fun bt577=>(impl_StockOf.l0 k x1 bt577.2.2 (wrap64 (x8+1)) bt577.1 bt577.2.1)) else(none)) else(some (x576000,x576001,x7))) else(some (x576000,x576001,x7))
def impl_StockOf.f (k:Nat) (a0:Int) (l1:List (S32)):Option (Int × (List (S49)) × Bool):=(impl_StockNew.f a0).bind fun bt570=>(impl_StockOf.l0 k l1 bt570.2.2 0 bt570.1 bt570.2.1)
theorem impl_StockOf.mono_l:∀k,(∀y0 y1 y2 y3 y4,LeO (impl_StockOf.l0 k y0 y1 y2 y3 y4) (impl_StockOf.l0 (k+1) y0 y1 y2 y3 y4))
 |0=>fun _ _ _ _ _ r h=>by simp[impl_StockOf.l0] at h
 |k+1=>by
  have ih0:=impl_StockOf.mono_l k
  ·intro y0 y1 y2 y3 y4;unfold impl_StockOf.l0
   repeat' first|(with_reducible exact ih0 _ _ _ _ _)|(with_reducible exact impl_StockDo.mono _ _ _ _ _ _)|(with_reducible exact LeO.refl _)|(with_reducible exact LeO.none _)|(with_reducible refine LeO.ite ?_ ?_)|(with_reducible refine LeO.bind ?_ (fun _=>?_))|exact ih0 _ _ _ _ _|exact impl_StockDo.mono _ _ _ _ _ _|exact LeO.none _|refine LeO.ite ?_ ?_|refine LeO.bind ?_ (fun _=>?_)
theorem impl_StockOf.mono:∀a0 a1 k,LeO (impl_StockOf.f k a0 a1) (impl_StockOf.f (k+1) a0 a1):=by
 intro a0 a1 k;have ih0:=impl_StockOf.mono_l k;unfold impl_StockOf.f
 repeat' first|(with_reducible exact ih0 _ _ _ _ _)|(with_reducible exact impl_StockDo.mono _ _ _ _ _ _)|(with_reducible exact LeO.refl _)|(with_reducible exact LeO.none _)|(with_reducible refine LeO.ite ?_ ?_)|(with_reducible refine LeO.bind ?_ (fun _=>?_))|exact ih0 _ _ _ _ _|exact impl_StockDo.mono _ _ _ _ _ _|exact LeO.none _|refine LeO.ite ?_ ?_|refine LeO.bind ?_ (fun _=>?_)
def impl_StockOf.T5:Bool × List (List Nat × List Nat):=(true,[([],[]),([],[]),([],[]),([1,2],[1,2]),([3],[3]),([0,4],[0,4]),([5],[5]),([6],[6]),([6],[6]),([7,5,0,1,2,3,4,5,6,7],[7]),([8,9,0,1,2,3,4,5,6,7,8,9],[8])])
def impl_StockOf.B5:List Nat:=[0,0,0,6,14,31,63,127,127,255,1023]
theorem impl_StockOf.tab5:rtab .any (opsOf Try.f22 5)=impl_StockOf.T5:=by kernel_rfl
theorem impl_StockOf.bits5:waitsOk impl_StockOf.T5.2 impl_StockOf.B5=true:=by kernel_rfl
set_option maxHeartbeats 8000000 in
set_option maxRecDepth 100000 in
theorem impl_StockOf.calls (k:Nat) (a0:Int) (A1:Option Addr) (c1:Nat) (l1:List (S32)) (r1:Int) (r2:List (S49)) (r3:Bool) (w:World) (hr1:Kd.C k32 w A1 l1.length l1) (hc1:l1.length≤c1) (h:impl_StockOf.f k a0 l1=some (r1,r2,r3)) :
  Calls Try.prog 22 #[.int .i64 a0,.slice A1 l1.length c1] w fun e w'=>∃v1_:Value,e=.returned (.tuple #[.agg #[.int .i64 r1,v1_],.bool r3])∧Kd.R k49 49 w' w.heap.size (fun _=>True) v1_ r2∧Below w.heap.size w w':=by
 have hu38:=Try.underlying38;have hu32:=Try.underlying32;have HR1:=qaf.mk hr1;have HC1:=qaf.mk hc1;clear hr1 hc1;have HB:=qaf.mk (Below.refl w.heap.size w);have H:((impl_StockNew.f a0).bind fun bt570=>(impl_StockOf.l0 k l1 bt570.2.2 0 bt570.1 bt570.2.1))=some (r1,r2,r3):=h;clear h;replace H:=Option.bind_eq_some_iff.mp H;obtain⟨⟨t570,t571,t574⟩,A30,H⟩:=H;replace H:(impl_StockOf.l0 k l1 t574 0 t570 t571)=some (r1,r2,r3):=H;have A3:=qaf.mk A30;clear A30;have H':=qaf.mk H;clear H;go_enter Try.func22,Try.ntmps22
 go_wp2_with(first|((with_reducible refine qam (N:=4) rfl ?_);(try(refine qaw (by rfl) ?_;dsimp only));refine zX (N:=4) (cs:=#[.int .i64 0,.slice none 0 0]) (t:=38) ?_;intro gb569 hg w4 hbox hb;have BK569:=qaf.mk hbox;have GW569:=zH (w:=w) hg (za2 HB);have GE569:=GW569;replace HB:=qaf.mk (qad (za2 HB) hb);clear hb hbox hg)|((with_reducible refine qag (f:=56) rfl ?_);refine zF (some 11) Try.func56 #[.int .i64 a0] ?_;(with_reducible refine(impl_StockNew.calls a0 t570 t571 t574 _ A3.out).mono ?_);rintro e w5 ⟨v572,rfl,ho0,hb⟩;refine⟨_,rfl,?_⟩;have HO573:=qaf.mk (Kd.R_lower ho0 (qan (za3 HB GE569)));replace BK569:=zY BK569 hb;replace HB:=qaf.mk (qad (za3 HB GE569) hb);(try clear hb);(try clear ho0))|((with_reducible refine qam (N:=6) rfl ?_);(try(refine qaw (by rfl) ?_;dsimp only));refine zX (N:=6) (cs:=#[.int .i64 0,.slice none 0 0]) (t:=38) ?_;intro gb575 hg w6 hbox hb;replace HO573:=qaf.mk (Kd.R_below (za1 HO573) hb);have BK575:=qaf.mk hbox;have GW575:=zH (w:=w) hg (za3 HB GE569);have GE575:=GW575;replace HB:=qaf.mk (qad (za3 HB GE569) hb);have NB569_575:=zL BK569 hg;have NB575_569:=zG BK569 hg;replace BK569:=zY BK569 hb;clear hb hbox hg;have hnb7:=NB575_569.out;have hnc7:=NB569_575.out;obtain⟨hcz8_0,hcz8_1,hfz8_0,hfz8_1⟩:=zC2 BK575;obtain⟨Ao9,co9,eo9⟩:=Kd.R_slice HO573.out;subst eo9))
 go_loopg [7,8] k (fun kq v7 v8 w'=>∃(x7_1:Bool) (x8_1:Int) (x576000_1:Int) (x576001_1:List (S49)) (u576001:Value),v7=.bool x7_1∧v8=.int .i64 x8_1∧qaf (impl_StockOf.l0 kq l1 x7_1 x8_1 x576000_1 x576001_1=some (r1,r2,r3))∧qaf (kq≤k)∧qaf (Kd.R k49 49 w' w.heap.size (fun _=>True) u576001 x576001_1)∧qaf (w'.heap[gb569]?=some (.cells #[.int .i64 0,(.slice none 0 0)] 38 (0,0)))∧qaf (w'.heap[gb575]?=some (.cells #[.int .i64 x576000_1,u576001] 38 (0,0)))∧qaf (Below w.heap.size w w'))
 case atStart=>exact⟨(t574),(0),(t570),(t571),(.slice Ao9 t571.length co9),(za38),(za38),H',⟨Nat.le_refl _⟩,⟨by(with_reducible repeat(first|apply Kd.R_alloc|apply Kd.R_drewN|apply Kd.R_drew));exact Kd.R_mono (Kd.R_far (p:=⟨gb575,1,none⟩) (Kd.R_far (p:=⟨gb575,0,none⟩) (Kd.R_types HO573.out BK575.out (by decide)) (fun _ hk=>hk.2) (.int .i64 t570)) (fun _ hk=>hk.2) (.slice Ao9 t571.length co9)) (fun _ hk=>trivial)⟩,⟨za0 NB569_575 BK569⟩,⟨by(with_reducible repeat(first|refine qac ?_ _|refine qaa ?_|refine qab ?_ _));refine qah (cs:=#[.int .i64 t570,.slice none 0 0]) ?_ 1 _ rfl;(with_reducible repeat(first|refine qac ?_ _|refine qaa ?_|refine qab ?_ _));refine qah (cs:=#[.int .i64 0,.slice none 0 0]) ?_ 0 _ rfl;(with_reducible repeat(first|refine qac ?_ _|refine qaa ?_|refine qab ?_ _));exact BK575.out⟩,⟨za4 HB GE569 GE575⟩⟩
 case round=>
  clear H'
  try clear c1
  try clear c2
  try clear p2
  try clear c5
  try clear c7
  try clear hcz8_0
  try clear hcz8_1
  try clear hfz8_0
  try clear hfz8_1
  obtain⟨x7_1,x8_1,x576000_1,x576001_1,u576001,rfl,rfl,HA,HK1,HO_576001,BK569,BK575,HB⟩:=hrel
  cases gk with
  |zero=>exact absurd HA.out (by simp[impl_StockOf.l0])
  |succ k1=>
   have H:=HA.out;clear HA;simp only[impl_StockOf.l0] at H;by_cases c10:x7_1=true
   ·subst c10
    have H1:(if x8_1<(l1.length:Int) then(if 0≤x8_1 then((impl_StockDo.f k1 x576000_1 x576001_1 ((rd_T32 l1 x8_1).f0) ((rd_T32 l1 x8_1).f1) ((rd_T32 l1 x8_1).f2)).bind fun bt577=>(impl_StockOf.l0 k1 l1 bt577.2.2 (wrap64 (x8_1+1)) bt577.1 bt577.2.1)) else(none)) else(some (x576000_1,x576001_1,true)))=some (r1,r2,r3):=by rw[if_pos rfl] at H;exact H
    clear H;have H:=H1;clear H1;by_cases c11:x8_1<(l1.length:Int)
    ·rw[if_pos c11] at H;have c11b0:decide (x8_1<(l1.length:Int))=true:=decide_eq_true c11;clear c11;by_cases c12:0≤x8_1
     ·rw[if_pos c12] at H;have c12b0:decide (0≤x8_1)=true:=decide_eq_true c12;clear c12;replace H:=Option.bind_eq_some_iff.mp H;obtain⟨⟨t577,t578,t581⟩,A130,H⟩:=H;replace H:(impl_StockOf.l0 k1 l1 t581 (wrap64 (x8_1+1)) t577 t578)=some (r1,r2,r3):=H;have A13:=qaf.mk A130;clear A130;have H':=qaf.mk H;clear H
      try go_wp2
      replace HO_576001:=qaf.mk (Kd.R_drew HO_576001.out);replace BK569:=qaf.mk (qaa BK569.out);replace BK575:=qaf.mk (qaa BK575.out);replace HB:=qaf.mk (qas HB.out);have p576:0≤(x8_1:Int):=of_decide_eq_true (za10);have q576:x8_1<(l1.length:Int):=of_decide_eq_true (za10);obtain⟨ad576,A576_2,c576_2,e576,hx576_0,hx576_1,hx576_2,hl576_2,hi576_2⟩:=at_T32 HR1.out x8_1 p576 q576;have hw576_2:=hx576_2;have hw576_1:=hx576_1;have hw576_0:=hx576_0
      cases e576
      have hxo576_2:=qaf.mk hx576_2;replace hx576_0:=(HB.out.cell (World.block_lt_of_cell? w _ hx576_0)).trans hx576_0;replace hx576_1:=(HB.out.cell (World.block_lt_of_cell? w _ hx576_1)).trans hx576_1;replace hx576_2:=(HB.out.cell (World.block_lt_of_cell? w _ hx576_2)).trans hx576_2;have HR576_2:=qaf.mk hi576_2;have HC576_2:=qaf.mk hl576_2;clear hi576_2 hl576_2;replace p576:=eq_true p576;replace q576:=eq_true q576;obtain⟨Ao15,co15,eo15⟩:=Kd.R_slice HO_576001.out;(first|subst eo15|(injection eo15 with f1_ f2_ f3_;have f4_:=f1_.symm;have f5_:=f3_.symm;clear f1_ f2_ f3_;subst f4_;subst f5_))
      refine start_ (n:=11) (S:=fun w'=>w'.cell? ⟨gb575,0,none⟩=some (.int .i64 x576000_1)∧w'.cell? ⟨gb575,1,none⟩=some (.slice Ao15 x576001_1.length co15)∧w'.cell? (ad576.add ((x8_1).toNat*3))=some (.int .i64 ((rd_T32 l1 x8_1).f0))∧w'.cell? ⟨(ad576.add ((x8_1).toNat*3)).block,(ad576.add ((x8_1).toNat*3)).off+1,none⟩=some (.int .i64 ((rd_T32 l1 x8_1).f1))∧w'.cell? ⟨(ad576.add ((x8_1).toNat*3)).block,(ad576.add ((x8_1).toNat*3)).off+2,none⟩=some (.slice A576_2 ((rd_T32 l1 x8_1).f2).length c576_2)) (ds:=[9]) #[false,false,false,false,false,false,false,false,false,false,false] (by kernel_rfl) rfl rfl ⟨(qae BK575.out 0).trans rfl,(qae BK575.out 1).trans rfl,((HB.out.cell (World.block_lt_of_cell? w _ hw576_0)).trans hw576_0),((HB.out.cell (World.block_lt_of_cell? w _ hw576_1)).trans hw576_1),((HB.out.cell (World.block_lt_of_cell? w _ hw576_2)).trans hw576_2)⟩ (fun hHeld=>?_);refine qbc impl_StockOf.tab5 impl_StockOf.bits5 (fun HT_ HW_=>?_)
      generalize wr.drew=w14 at HO_576001 BK569 BK575 HB HR576_2 hx576_0 hx576_1 hx576_2 hHeld ⊢;refine qao (i:=1) (N:=some 25) (v:=?_) (a':=?_) #[false,true,false,false,false,false,false,false,false,false,false] rfl rfl (qak HT_.out (by kernel_rfl)) (fun _ _ _ h=>h) (Or.inl ⟨by rfl,?_⟩) ?_ ?_;rotate_left
      ·intro w';go_simp
       with_reducible rfl
      rotate_left
      ·simp only[Act.put,List.setIfInBounds_toArray,List.set_cons_zero,List.set_cons_succ,qai,qaj];rfl
      refine qao (i:=2) (N:=some 26) (v:=?_) (a':=?_) #[false,true,true,false,false,false,false,false,false,false,false] rfl rfl (qak HT_.out (by kernel_rfl)) (fun _ _ _ h=>h) (Or.inl ⟨by rfl,?_⟩) ?_ ?_;rotate_left
      ·intro w';go_simp
       with_reducible rfl
      rotate_left
      ·simp only[Act.put,List.setIfInBounds_toArray,List.set_cons_zero,List.set_cons_succ,qai,qaj];rfl
      refine qao (i:=3) (N:=some 27) (v:=?_) (a':=?_) #[false,true,true,true,false,false,false,false,false,false,false] rfl rfl (qak HT_.out (by kernel_rfl)) (fun _ _ _ h=>h) (Or.inl ⟨by rfl,?_⟩) ?_ ?_;rotate_left
      ·intro w';go_simp
       with_reducible rfl
      rotate_left
      ·simp only[Act.put,List.setIfInBounds_toArray,List.set_cons_zero,List.set_cons_succ,qai,qaj];rfl
      refine take_ (i:=0) (N:=some 24) (v:=?_) (a':=?_) #[true,true,true,true,false,false,false,false,false,false,false] rfl rfl (qav HT_.out HW_.out (by kernel_rfl)) (fun _ _ _ h=>h) (Or.inl ⟨by rfl,?_⟩) hHeld ?_ ?_;rotate_left
      ·rintro w' ⟨s0,s1,s2,s3,s4⟩;go_simp
       with_reducible rfl
      rotate_left
      ·simp only[Act.put,List.setIfInBounds_toArray,List.set_cons_zero,List.set_cons_succ,qai,qaj];rfl
      refine take_ (i:=4) (N:=some 28) (v:=?_) (a':=?_) #[true,true,true,true,true,false,false,false,false,false,false] rfl rfl (qav HT_.out HW_.out (by kernel_rfl)) (fun _ _ _ h=>h) (Or.inl ⟨by rfl,?_⟩) hHeld ?_ ?_;rotate_left
      ·rintro w' ⟨s0,s1,s2,s3,s4⟩;go_simp
       with_reducible rfl
      rotate_left
      ·simp only[Act.put,List.setIfInBounds_toArray,List.set_cons_zero,List.set_cons_succ,qai,qaj];rfl
      refine one_ (i:=5) (N:=some 29) #[true,true,true,true,true,true,false,false,false,false,false] rfl rfl (one_of HT_.out (by kernel_rfl)) (by decide) (fun K hK=>?_);refine goes_ Try.func24 (by kernel_rfl) rfl #[.agg #[.int .i64 x576000_1,.slice Ao15 x576001_1.length co15],.agg #[.int .i64 ((rd_T32 l1 x8_1).f0),.int .i64 ((rd_T32 l1 x8_1).f1),.slice A576_2 ((rd_T32 l1 x8_1).f2).length c576_2]] (by rfl) rfl rfl (by(try simp only[List.map_toArray,List.map_cons,List.map_nil]);first|done|rfl|(simp only[List.length_drop,List.length_take];rfl)) ?_
      with_reducible refine(impl_StockDo.calls k1 x576000_1 _ _ x576001_1 ((rd_T32 l1 x8_1).f0) ((rd_T32 l1 x8_1).f1) _ _ ((rd_T32 l1 x8_1).f2) t577 t578 t581 _ ?side1 ?side2 ?side3 ?side4 A13.out).mono ?_
      (case side1=>repeat(first|exact(Kd.R_reads' HO_576001.out).2.2|(with_reducible refine Kd.C_alloc ?_ _)|(with_reducible refine Kd.C_drewN ?_ _)|(with_reducible refine Kd.C_drew ?_)));(case side2=>exact(Kd.R_reads' HO_576001.out).2.1);(case side3=>exact zR HR576_2 HB);(case side4=>exact HC576_2.out);rintro e w16 ⟨v579,rfl,ho0,hb⟩;refine⟨_,rfl,?_⟩;have HO580:=qaf.mk (Kd.R_lower (Kd.R_new' ho0 (Kd.R_lt (za1 HO_576001))) (qan (za4 HB GE569 GE575)));replace HO_576001:=qaf.mk (Kd.R_elder' (za1 HO_576001) (Kd.R_base ho0) hb);replace BK569:=zY BK569 hb;replace BK575:=zY BK575 hb;replace HB:=qaf.mk (qad (za4 HB GE569 GE575) hb);(try clear hb);(try clear hb2);(try clear hk);(try clear hi);(try clear ho0);obtain⟨Ao18,co18,eo18⟩:=Kd.R_slice HO580.out;(first|subst eo18|(injection eo18 with f1_ f2_ f3_;have f4_:=f1_.symm;have f5_:=f3_.symm;clear f1_ f2_ f3_;subst f4_;subst f5_));refine hK.out _ _ ⟨(qae BK575.out 0).trans rfl,(qae BK575.out 1).trans rfl,((HB.out.cell (World.block_lt_of_cell? w _ hw576_0)).trans hw576_0),((HB.out.cell (World.block_lt_of_cell? w _ hw576_1)).trans hw576_1),((HB.out.cell (World.block_lt_of_cell? w _ hw576_2)).trans hw576_2)⟩ (fun hHeld=>?_)
      clear hK K;refine qbb (a':=?_) ?_ ?_;rotate_left
      ·show Act.put _ (some 29) _=_;simp only[Act.put,List.setIfInBounds_toArray,List.set_cons_zero,List.set_cons_succ,qai,qaj];rfl
      refine qao (i:=6) (N:=some 23) (v:=?_) (a':=?_) #[true,true,true,true,true,true,true,false,false,false,false] rfl rfl (qak HT_.out (by kernel_rfl)) (fun _ _ _ h=>h) (Or.inl ⟨by rfl,?_⟩) ?_ ?_;rotate_left
      ·intro w';go_simp
       with_reducible rfl
      rotate_left
      ·simp only[Act.put,List.setIfInBounds_toArray,List.set_cons_zero,List.set_cons_succ,qai,qaj];rfl
      refine qao (i:=7) (N:=some 30) (v:=?_) (a':=?_) #[true,true,true,true,true,true,true,true,false,false,false] rfl rfl (qak HT_.out (by kernel_rfl)) (fun _ _ _ h=>h) (Or.inl ⟨by rfl,?_⟩) ?_ ?_;rotate_left
      ·intro w';go_simp
       with_reducible rfl
      rotate_left
      ·simp only[Act.put,List.setIfInBounds_toArray,List.set_cons_zero,List.set_cons_succ,qai,qaj];rfl
      refine qao (i:=8) (N:=some 31) (v:=?_) (a':=?_) #[true,true,true,true,true,true,true,true,true,false,false] rfl rfl (qak HT_.out (by kernel_rfl)) (fun _ _ _ h=>h) (Or.inl ⟨by rfl,?_⟩) ?_ ?_;rotate_left
      ·intro w';go_simp
       with_reducible rfl
      rotate_left
      ·simp only[Act.put,List.setIfInBounds_toArray,List.set_cons_zero,List.set_cons_succ,qai,qaj];rfl
      refine last_ (i:=9) (N:=none) #[true,true,true,true,true,true,true,true,true,true,false] rfl rfl (one_of HT_.out (by kernel_rfl)) (by decide) (fun K hK=>?_);have hs17:w16.cell? ⟨gb575,0,none⟩=some (.int .i64 x576000_1):=(qae BK575.out 0).trans rfl;have hfs17:=qax BK575.out 0;have hns17_0:=NB569_575.out;have hms17_0:=NB575_569.out;have hs19:w16.cell? ⟨gb575,1,none⟩=some (.slice Ao15 x576001_1.length co15):=(qae BK575.out 1).trans rfl;have hfs19:=qax BK575.out 1;have hns19_0:=NB569_575.out;have hms19_0:=NB575_569.out;refine skip_ (w1:=?_) (by rfl) rfl ?_ ?_;rotate_left
      ·go_simp;rfl
      refine hK.out _ _ ?_;clear hK K;refine qao (i:=10) (N:=some 7) (v:=?_) (a':=?_) #[true,true,true,true,true,true,true,true,true,true,true] rfl rfl (qak HT_.out (by kernel_rfl)) (fun _ _ _ h=>h) (Or.inl ⟨by rfl,?_⟩) ?_ ?_;rotate_left
      ·intro w';go_simp
       with_reducible rfl
      rotate_left
      ·simp only[Act.put,List.setIfInBounds_toArray,List.set_cons_zero,List.set_cons_succ,qai,qaj];rfl
      refine done_ (done_of HT_.out (by kernel_rfl)) ?_
      try go_wp2
      go_roundg k1
      case measure=>have:=HK1.out;omega
      case rel=>exact⟨(t581),(wrap64 (x8_1+1)),(t577),(t578),(.slice Ao18 t578.length co18),(za38),(za38),H',⟨by have:=HK1.out;omega⟩,⟨by(with_reducible repeat(first|apply Kd.R_alloc|apply Kd.R_drewN|apply Kd.R_drew));exact Kd.R_mono (Kd.R_far (p:=⟨gb575,1,none⟩) (Kd.R_far (p:=⟨gb575,0,none⟩) (Kd.R_types HO580.out BK575.out (by decide)) (fun _ hk=>hk.2) (.int .i64 t577)) (fun _ hk=>hk.2) (.slice Ao18 t578.length co18)) (fun _ hk=>trivial)⟩,⟨za0 NB569_575 BK569⟩,⟨by(with_reducible repeat(first|refine qac ?_ _|refine qaa ?_|refine qab ?_ _));refine qah (cs:=#[.int .i64 t577,.slice Ao15 x576001_1.length co15]) ?_ 1 _ rfl;(with_reducible repeat(first|refine qac ?_ _|refine qaa ?_|refine qab ?_ _));refine qah (cs:=#[.int .i64 x576000_1,.slice Ao15 x576001_1.length co15]) ?_ 0 _ rfl;(with_reducible repeat(first|refine qac ?_ _|refine qaa ?_|refine qab ?_ _));exact BK575.out⟩,⟨za4 HB GE569 GE575⟩⟩
     ·rw[if_neg c12] at H;exact absurd H (by simp)
    ·rw[if_neg c11] at H;have c11b0:decide (x8_1<(l1.length:Int))=false:=decide_eq_false c11;clear c11;simp only[Option.some.injEq,Prod.mk.injEq] at H;obtain⟨rfl,rfl,rfl⟩:=H;have hnb20:=NB575_569.out;have hnc20:=NB569_575.out;obtain⟨hcz21_0,hcz21_1,hfz21_0,hfz21_1⟩:=zC2 BK575;obtain⟨hcz22_0,hcz22_1,hfz22_0,hfz22_1⟩:=zC2 BK569;obtain⟨Ao23,co23,eo23⟩:=Kd.R_slice HO_576001.out;subst eo23;go_wp2;refine bodyPost_ret (results_ct rfl _ _ gb569 38 #[.int .i64 x576000_1,.slice Ao23 x576001_1.length co23] (0,0) _ rfl (by(with_reducible repeat(first|refine qac ?_ _|refine qaa ?_|refine qab ?_ _));refine qah (cs:=#[.int .i64 x576000_1,.slice none 0 0]) ?_ 1 _ rfl;(with_reducible repeat(first|refine qac ?_ _|refine qaa ?_|refine qab ?_ _));refine qah (cs:=#[.int .i64 0,.slice none 0 0]) ?_ 0 _ rfl;(with_reducible repeat(first|refine qac ?_ _|refine qaa ?_|refine qab ?_ _));exact BK569.out) Try.underlying38 rfl (by kernel_rfl)) rfl ?_;exact⟨_,za12,by(with_reducible repeat(first|apply Kd.R_alloc|apply Kd.R_drewN|apply Kd.R_drew));exact Kd.R_mono (Kd.R_far (p:=⟨gb569,1,none⟩) (Kd.R_far (p:=⟨gb569,0,none⟩) (Kd.R_types HO_576001.out BK569.out (by decide)) (fun _ hk=>hk.2) (.int .i64 x576000_1)) (fun _ hk=>hk.2) (.slice Ao23 x576001_1.length co23)) (fun _ hk=>trivial),za4 HB GE569 GE575⟩
   ·replace c10:=Bool.eq_false_iff.mpr c10;subst c10
    have H1:(some (x576000_1,x576001_1,false))=some (r1,r2,r3):=by rw[if_neg (show ¬(false=true) by decide)] at H;exact H
    clear H;have H:=H1;clear H1;simp only[Option.some.injEq,Prod.mk.injEq] at H;obtain⟨rfl,rfl,rfl⟩:=H;have hnb24:=NB575_569.out;have hnc24:=NB569_575.out;obtain⟨hcz25_0,hcz25_1,hfz25_0,hfz25_1⟩:=zC2 BK575;obtain⟨hcz26_0,hcz26_1,hfz26_0,hfz26_1⟩:=zC2 BK569;obtain⟨Ao27,co27,eo27⟩:=Kd.R_slice HO_576001.out;subst eo27;go_wp2;refine bodyPost_ret (results_ct rfl _ _ gb569 38 #[.int .i64 x576000_1,.slice Ao27 x576001_1.length co27] (0,0) _ rfl (by(with_reducible repeat(first|refine qac ?_ _|refine qaa ?_|refine qab ?_ _));refine qah (cs:=#[.int .i64 x576000_1,.slice none 0 0]) ?_ 1 _ rfl;(with_reducible repeat(first|refine qac ?_ _|refine qaa ?_|refine qab ?_ _));refine qah (cs:=#[.int .i64 0,.slice none 0 0]) ?_ 0 _ rfl;(with_reducible repeat(first|refine qac ?_ _|refine qaa ?_|refine qab ?_ _));exact BK569.out) Try.underlying38 rfl (by kernel_rfl)) rfl ?_;exact⟨_,za12,by(with_reducible repeat(first|apply Kd.R_alloc|apply Kd.R_drewN|apply Kd.R_drew));exact Kd.R_mono (Kd.R_far (p:=⟨gb569,1,none⟩) (Kd.R_far (p:=⟨gb569,0,none⟩) (Kd.R_types HO_576001.out BK569.out (by decide)) (fun _ hk=>hk.2) (.int .i64 x576000_1)) (fun _ hk=>hk.2) (.slice Ao27 x576001_1.length co27)) (fun _ hk=>trivial),za4 HB GE569 GE575⟩
end Go.Proofs.Ytmbdphefnalenaa.Print
