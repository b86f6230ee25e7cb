-- Written by squeeze.py, a program of this session, out of what print.sh and myprint.py had printed: cut to what is used, narrowed. Not trusted, Lean checks it.
import Derived.Test.YtbomcadjkcmcgaaZK
import Derived.Test.YtbomcadjkcmcgaaZa7
namespace Go.Proofs.Ytbomcadjkcmcgaa.Print
open Go.RowKit Go.Proofs.YtbomcadjkcmcgaaW.PrintWords Go.Proofs.YtbomcadjkcmcgaaW.PrintLast Go.Proofs.YtbomcadjkcmcgaaW.PrintMore
attribute [local go_sem] max2_int min2_int max_two min_two max_three min_three max_four min_four
set_option linter.unusedVariables false
set_option linter.unusedSimpArgs false
def impl_StockNew.f (a0:Int):Option (Int × (List (S72)) × Bool):=(impl_in.f a0 0 9).bind fun t224=>(if t224=true then(if 6≤17592186044416 then(some (a0,(List.replicate 6 z72),true)) else(none)) else(some (0,([]:List (S72)),false)))
set_option maxHeartbeats 8000000 in
set_option maxRecDepth 100000 in
theorem impl_StockNew.calls (a0:Int) (r1:Int) (r2:List (S72)) (r3:Bool) (w:World) (h:impl_StockNew.f a0=some (r1,r2,r3)) :
  Calls Try.prog 41 #[.int .i64 a0] w fun e w'=>∃v1_:Value,e=.returned (.tuple #[.agg #[.int .i64 r1,v1_],.bool r3])∧Kd.R k72 72 w' w.heap.size (fun _=>True) v1_ r2∧Below w.heap.size w w':=by
 have hu39:=Try.underlying39
 have HB:=qam.mk (Below.refl w.heap.size w)
 have H:((impl_in.f a0 0 9).bind fun t224=>(if t224=true then(if 6≤17592186044416 then(some (a0,(List.replicate 6 z72),true)) else(none)) else(some (0,([]:List (S72)),false))))=some (r1,r2,r3):=h
 clear h
 replace H:=Option.bind_eq_some_iff.mp H
 obtain⟨t224,A20,H⟩:=H
 replace H:(if t224=true then(if 6≤17592186044416 then(some (a0,(List.replicate 6 z72),true)) else(none)) else(some (0,([]:List (S72)),false)))=some (r1,r2,r3):=H
 have A2:=qam.mk A20
 clear A20
 by_cases c3:t224=true
 ·subst c3
  have H1:(if 6≤17592186044416 then(some (a0,(List.replicate 6 z72),true)) else(none))=some (r1,r2,r3):=by rw[if_pos rfl] at H;exact H
  clear H
  have H:=H1
  clear H1
  by_cases c4:6≤17592186044416
  ·rw[if_pos c4] at H
   have c4b0:=eq_true c4
   have c4b1:decide (6≤17592186044416)=true:=decide_eq_true c4
   clear c4
   obtain⟨y225,hy225⟩:∃y_:List (S72),y_=(List.replicate 6 z72):=⟨_,rfl⟩
   replace H:(some (a0,y225,true))=some (r1,r2,r3):=by first|(rw[hy225];with_reducible exact H)|(have H2_:=(Option.bind_some _ _).symm.trans H;rw[hy225];with_reducible exact H2_)|(have H2_:=(Option.bind_some _ _).symm.trans H;with_reducible exact H2_)|with_reducible exact H|(rw[hy225];exact H)|exact H
   have Ny225:=qam.mk hy225
   clear hy225
   simp only[Option.some.injEq,Prod.mk.injEq] at H
   obtain⟨rfl,rfl,rfl⟩:=H
   go_enter Try.func41,Try.ntmps41
   go_wp2_with(first|((with_reducible refine qak (N:=2) rfl ?_);refine qai ?hg (N:=2) ?hd (cs:=#[.int .i64 0,.slice none 0 0]) (t:=39) ?hr ?_;(case hd=>rfl);(case hg=>rfl);(case hr=>first|(go_simp;done)|(go_simp;rfl));intro gb223 hg w5 hbox hb;have n0_:=qam.mk (qad (za2 HB) hb);have n1_:=qam.mk (hbox);have n2_:=qam.mk ((by rw[hg];exact(qac (za2 HB)):w.heap.size≤gb223));have n3_:=qam.mk ((by rw[hg];exact(qac (za2 HB)):w.heap.size≤gb223));clear HB;have HB:=n0_;have BK223:=n1_;have GW223:=n2_;have GE223:=n3_;clear n0_ n1_ n2_ n3_;clear hb hbox hg)|((with_reducible refine qaj (f:=37) rfl ?_);refine goesL_ (some 5) rfl rfl Try.func37 (by kernel_rfl) rfl #[.int .i64 a0,.int .i64 0,.int .i64 9] rfl (by(try simp only[List.map_toArray,List.map_cons,List.map_nil]);first|done|rfl|(simp only[List.length_drop,List.length_take];rfl)) ?_;(with_reducible refine(impl_in.calls a0 0 9 true _ A2.out).mono ?_);rintro e w' ⟨rfl,⟨nd,rfl⟩⟩;refine⟨_,rfl,?_⟩;(try(rw[drewN_self w5];generalize hq_:World.drewN w5 _=w5;have n0_:qam (w5.heap[gb223]?=some (.cells #[.int .i64 0,.slice none 0 0] 39 (0,0))):=⟨by rw[←hq_];exact(za0 BK223)⟩;have n1_:qam (Below w.heap.size w w5):=⟨by rw[←hq_];exact(za1 HB GE223)⟩;clear BK223 HB hq_;have BK223:=n0_;have HB:=n1_;clear n0_ n1_;have hczugb223_0:w5.cell? ⟨gb223,0,none⟩=some _:=(qab BK223.out 0).trans rfl;have hfzugb223_0:=qaa BK223.out 0;have hczugb223_1:w5.cell? ⟨gb223,1,none⟩=some _:=(qab BK223.out 1).trans rfl;have hfzugb223_1:=qaa BK223.out 1)))|((with_reducible refine qak (N:=9) rfl ?_);refine Kd.R_make k72 _ 72 rfl (N:=9) rfl 37 _ _ rfl 6 rfl rfl Try.underlying37 (.agg #[(.int .i64 0),(.int .i64 0)]) 16 info72 rfl (by decide) (by omega) z72 (ok:=fun _=>True) (okp:=fun _=>True) (k72_mkM _ _ _ z72 ) (fun _ hk=>hk) trivial (by omega) (by omega) (Below.refl _ _) (Nat.le_refl _) ?_;intro v226 w6 ho7 hb hg_ hnew_;clear hg_ hnew_;(first|rw[←Ny225.out] at ho7|(simp only[Int.reduceToNat] at ho7;rw[←Ny225.out] at ho7));have n0_:=qam.mk (Kd.R_lower ho7 (qac (za1 HB GE223)));have n1_:=qam.mk (qae (g:=gb223) (o:=.cells #[.int .i64 0,.slice none 0 0] 39 (0,0)) (za0 BK223) hb);have n2_:=qam.mk (qad (za1 HB GE223) hb);clear BK223;clear HB;have HO227:=n0_;have BK223:=n1_;have HB:=n2_;clear n0_ n1_ n2_;clear hb ho7;obtain⟨Ao8,co8,eo8⟩:=Kd.R_slice HO227.out;subst eo8;have hcz9_0:w6.cell? ⟨gb223,0,none⟩=some (.int .i64 0):=(qab BK223.out 0).trans rfl;have hcz9_1:w6.cell? ⟨gb223,1,none⟩=some (.slice none 0 0):=(qab BK223.out 1).trans rfl;have hfz9_0:=qaa BK223.out 0;have hfz9_1:=qaa BK223.out 1))
   refine bodyPost_ret (results_ct rfl _ _ gb223 39 #[.int .i64 a0,.slice Ao8 y225.length co8] (0,0) _ rfl (by(with_reducible repeat(first|refine qah ?_ _|refine qaf ?_|refine qag ?_ _));refine qan (cs:=#[.int .i64 a0,.slice none 0 0]) ?_ 1 _ rfl;(with_reducible repeat(first|refine qah ?_ _|refine qaf ?_|refine qag ?_ _));refine qan (cs:=#[.int .i64 0,.slice none 0 0]) ?_ 0 _ rfl;(with_reducible repeat(first|refine qah ?_ _|refine qaf ?_|refine qag ?_ _));exact BK223.out) Try.underlying39 rfl (by kernel_rfl)) rfl ?_
   exact⟨_,za8,by(with_reducible repeat(first|apply Kd.R_alloc|apply Kd.R_drewN|apply Kd.R_drew));exact Kd.R_mono (Kd.R_far (p:=⟨gb223,1,none⟩) (Kd.R_far (p:=⟨gb223,0,none⟩) (Kd.R_types HO227.out BK223.out (by decide)) (fun _ hk=>hk.2) (.int .i64 a0)) (fun _ hk=>hk.2) (.slice Ao8 y225.length co8)) (fun _ hk=>trivial),za1 HB GE223⟩
  ·rw[if_neg c4] at H
   exact absurd H (by simp)
 ·replace c3:=Bool.eq_false_iff.mpr c3
  subst c3
  have H1:(some (0,([]:List (S72)),false))=some (r1,r2,r3):=by rw[if_neg (show ¬(false=true) by decide)] at H;exact H
  clear H
  have H:=H1
  clear H1
  simp only[Option.some.injEq,Prod.mk.injEq] at H
  obtain⟨rfl,rfl,rfl⟩:=H
  go_enter Try.func41,Try.ntmps41
  go_wp2_with(first|((with_reducible refine qak (N:=2) rfl ?_);refine qai ?hg (N:=2) ?hd (cs:=#[.int .i64 0,.slice none 0 0]) (t:=39) ?hr ?_;(case hd=>rfl);(case hg=>rfl);(case hr=>first|(go_simp;done)|(go_simp;rfl));intro gb223 hg w10 hbox hb;have n0_:=qam.mk (qad (za2 HB) hb);have n1_:=qam.mk (hbox);have n2_:=qam.mk ((by rw[hg];exact(qac (za2 HB)):w.heap.size≤gb223));have n3_:=qam.mk ((by rw[hg];exact(qac (za2 HB)):w.heap.size≤gb223));clear HB;have HB:=n0_;have BK223:=n1_;have GW223:=n2_;have GE223:=n3_;clear n0_ n1_ n2_ n3_;clear hb hbox hg)|((with_reducible refine qaj (f:=37) rfl ?_);refine goesL_ (some 5) rfl rfl Try.func37 (by kernel_rfl) rfl #[.int .i64 a0,.int .i64 0,.int .i64 9] rfl (by(try simp only[List.map_toArray,List.map_cons,List.map_nil]);first|done|rfl|(simp only[List.length_drop,List.length_take];rfl)) ?_;(with_reducible refine(impl_in.calls a0 0 9 false _ A2.out).mono ?_);rintro e w' ⟨rfl,⟨nd,rfl⟩⟩;refine⟨_,rfl,?_⟩;(try(rw[drewN_self w10];generalize hq_:World.drewN w10 _=w10;have n0_:qam (w10.heap[gb223]?=some (.cells #[.int .i64 0,.slice none 0 0] 39 (0,0))):=⟨by rw[←hq_];exact(za0 BK223)⟩;have n1_:qam (Below w.heap.size w w10):=⟨by rw[←hq_];exact(za1 HB GE223)⟩;clear BK223 HB hq_;have BK223:=n0_;have HB:=n1_;clear n0_ n1_;have hczugb223_0:w10.cell? ⟨gb223,0,none⟩=some _:=(qab BK223.out 0).trans rfl;have hfzugb223_0:=qaa BK223.out 0;have hczugb223_1:w10.cell? ⟨gb223,1,none⟩=some _:=(qab BK223.out 1).trans rfl;have hfzugb223_1:=qaa BK223.out 1));have hcz11_0:w10.cell? ⟨gb223,0,none⟩=some (.int .i64 0):=(qab BK223.out 0).trans rfl;have hcz11_1:w10.cell? ⟨gb223,1,none⟩=some (.slice none 0 0):=(qab BK223.out 1).trans rfl;have hfz11_0:=qaa BK223.out 0;have hfz11_1:=qaa BK223.out 1))
  refine bodyPost_ret (results_ct rfl _ _ gb223 39 #[.int .i64 0,.slice none 0 0] (0,0) _ rfl (by(with_reducible repeat(first|refine qah ?_ _|refine qaf ?_|refine qag ?_ _));refine qan (cs:=#[.int .i64 0,.slice none 0 0]) ?_ 1 _ rfl;(with_reducible repeat(first|refine qah ?_ _|refine qaf ?_|refine qag ?_ _));refine qan (cs:=#[.int .i64 0,.slice none 0 0]) ?_ 0 _ rfl;(with_reducible repeat(first|refine qah ?_ _|refine qaf ?_|refine qag ?_ _));exact BK223.out) Try.underlying39 rfl (by kernel_rfl)) rfl ?_
  exact⟨_,za8,za16,za1 HB GE223⟩
def impl_Stock_free.l0:Nat→Int→List (S72)→Int→Int→Option (Int)
 |0,_,_,_,_=>none
 |k+1,x3,x9,x10,x11=>if x11<x10 then(if 0≤x11 then(if x11<(x9.length:Int) then(if((rd_T72 x9 x11).f1)=1 then(impl_Stock_free.l0 k (wrap64 (x3 - ((rd_T72 x9 x11).f0))) x9 x10 (wrap64 (x11+1))) else(if((rd_T72 x9 x11).f1)=2 then(impl_Stock_free.l0 k (wrap64 (x3 - ((rd_T72 x9 x11).f0))) x9 x10 (wrap64 (x11+1))) else(impl_Stock_free.l0 k x3 x9 x10 (wrap64 (x11+1))))) else(none)) else(none)) else(some x3)
def impl_Stock_free.f (k:Nat) (a0_0:Int) (l0_1:List (S72)):Option (Int):=impl_Stock_free.l0 k a0_0 l0_1 (l0_1.length:Int) 0
theorem impl_Stock_free.mono_l:∀k,(∀y0 y1 y2 y3,LeO (impl_Stock_free.l0 k y0 y1 y2 y3) (impl_Stock_free.l0 (k+1) y0 y1 y2 y3))
 |0=>fun _ _ _ _ r h=>by simp[impl_Stock_free.l0] at h
 |k+1=>by
  have ih0:=impl_Stock_free.mono_l k
  ·intro y0 y1 y2 y3
   unfold impl_Stock_free.l0
   repeat' first
   |(with_reducible exact ih0 _ _ _ _)
   |(with_reducible exact LeO.refl _)
   |(with_reducible exact LeO.none _)
   |(with_reducible refine LeO.ite ?_ ?_)
   |(with_reducible refine LeO.bind ?_ (fun _=>?_))
   |exact ih0 _ _ _ _
   |exact LeO.none _
   |refine LeO.ite ?_ ?_
   |refine LeO.bind ?_ (fun _=>?_)
theorem impl_Stock_free.mono:∀a0 a1 k,LeO (impl_Stock_free.f k a0 a1) (impl_Stock_free.f (k+1) a0 a1):=by
 intro a0 a1 k
 have ih0:=impl_Stock_free.mono_l k
 unfold impl_Stock_free.f
 repeat' first
   |(with_reducible exact ih0 _ _ _ _)
   |(with_reducible exact LeO.refl _)
   |(with_reducible exact LeO.none _)
   |(with_reducible refine LeO.ite ?_ ?_)
   |(with_reducible refine LeO.bind ?_ (fun _=>?_))
   |exact ih0 _ _ _ _
   |exact LeO.none _
   |refine LeO.ite ?_ ?_
   |refine LeO.bind ?_ (fun _=>?_)
set_option maxHeartbeats 8000000 in
set_option maxRecDepth 100000 in
theorem impl_Stock_free.calls (k:Nat) (a0_0:Int) (A0_1:Option Addr) (c0_1:Nat) (l0_1:List (S72)) (r:Int) (w:World) (hr0_1:Kd.C k72 w A0_1 l0_1.length l0_1) (hc0_1:l0_1.length≤c0_1) (h:impl_Stock_free.f k a0_0 l0_1=some r) :
  Calls Try.prog 64 #[.agg #[.int .i64 a0_0,.slice A0_1 l0_1.length c0_1]] w fun e w'=>e=.returned (.int .i64 r)∧Below w.heap.size w w':=by
 have hu39:=Try.underlying39
 have hu72:=Try.underlying72
 have HR0_1:=qam.mk hr0_1
 have HC0_1:=qam.mk hc0_1
 clear hr0_1 hc0_1
 have HB:=qam.mk (Below.refl w.heap.size w)
 have H:(impl_Stock_free.l0 k a0_0 l0_1 (l0_1.length:Int) 0)=some r:=h
 clear h
 have H':=qam.mk H
 clear H
 go_enter Try.func64,Try.ntmps64
 go_wp2_with(first|((with_reducible refine qak (N:=1) rfl ?_);refine qai ?hg (N:=1) ?hd (cs:=#[.int .i64 a0_0,.slice A0_1 l0_1.length c0_1]) (t:=39) ?hr ?_;(case hd=>rfl);(case hg=>rfl);(case hr=>first|(go_simp;done)|(go_simp;rfl));intro gb228 hg w2 hbox hb;have n0_:=qam.mk (qad (za2 HB) hb);have n1_:=qam.mk (hbox);have n2_:=qam.mk ((by rw[hg];exact(qac (za2 HB)):w.heap.size≤gb228));have n3_:=qam.mk ((by rw[hg];exact(qac (za2 HB)):w.heap.size≤gb228));clear HB;have HB:=n0_;have BK228:=n1_;have GW228:=n2_;have GE228:=n3_;clear n0_ n1_ n2_ n3_;clear hb hbox hg;have hcz3_0:w2.cell? ⟨gb228,0,none⟩=some (.int .i64 a0_0):=(qab BK228.out 0).trans rfl;have hcz3_1:w2.cell? ⟨gb228,1,none⟩=some (.slice A0_1 l0_1.length c0_1):=(qab BK228.out 1).trans rfl;have hfz3_0:=qaa BK228.out 0;have hfz3_1:=qaa BK228.out 1))
 go_loopg [3,11] k (fun kq v3 v11 w'=>∃(x3_1:Int) (x11_1:Int),v3=.int .i64 x3_1∧v11=.int .i64 x11_1∧qam (impl_Stock_free.l0 kq x3_1 l0_1 (l0_1.length:Int) x11_1=some r)∧qam (kq≤k)∧qam (w'.heap[gb228]?=some (.cells #[.int .i64 a0_0,(.slice A0_1 l0_1.length c0_1)] 39 (0,0)))∧qam (Below w.heap.size w w'))
 case atStart=>exact⟨(a0_0),(0),(za11),(za11),H',⟨Nat.le_refl _⟩,⟨za0 BK228⟩,⟨za1 HB GE228⟩⟩
 case round=>
  clear H'
  try clear p2
  try clear hcz3_0
  try clear hcz3_1
  try clear hfz3_0
  try clear hfz3_1
  obtain⟨x3_1,x11_1,rfl,rfl,HA,HK1,BK228,HB⟩:=hrel
  cases gk with
  |zero=>exact absurd HA.out (by simp[impl_Stock_free.l0])
  |succ k1=>
   have H:=HA.out
   clear HA
   simp only[impl_Stock_free.l0] at H
   by_cases c4:x11_1<(l0_1.length:Int)
   ·rw[if_pos c4] at H
    have c4b0:decide (x11_1<(l0_1.length:Int))=true:=decide_eq_true c4
    clear c4
    by_cases c5:0≤x11_1
    ·rw[if_pos c5] at H
     have c5b0:decide (0≤x11_1)=true:=decide_eq_true c5
     clear c5
     by_cases c6:x11_1<(l0_1.length:Int)
     ·rw[if_pos c6] at H
      have c6b0:decide (x11_1<(l0_1.length:Int))=true:=decide_eq_true c6
      clear c6
      by_cases c7:((rd_T72 l0_1 x11_1).f1)=1
      ·rw[if_pos c7] at H
       have c7b0:(((rd_T72 l0_1 x11_1).f1) == 1)=true:=beq_iff_eq.mpr c7
       have c7b1:(((rd_T72 l0_1 x11_1).f1) != 1)=false:=bne_eq_false_iff_eq.mpr c7
       clear c7
       have H':=qam.mk H
       clear H
       have p229:0≤(x11_1:Int):=of_decide_eq_true (za6)
       have q229:x11_1<(l0_1.length:Int):=of_decide_eq_true (za6)
       obtain⟨ad229,e229,hx229_0,hx229_1⟩:=at_T72 HR0_1.out x11_1 p229 q229
       cases e229
       replace hx229_0:=(HB.out.cell (World.block_lt_of_cell? w _ hx229_0)).trans hx229_0
       replace hx229_1:=(HB.out.cell (World.block_lt_of_cell? w _ hx229_1)).trans hx229_1
       replace p229:=eq_true p229
       replace q229:=eq_true q229
       go_wp2_with(first|((with_reducible refine qak (N:=5) rfl ?_);refine qai ?hg (N:=5) ?hd (cs:=#[.int .i64 0,.int .i64 0]) (t:=72) ?hr ?_;(case hd=>rfl);(case hg=>rfl);(case hr=>first|(go_simp;done)|(go_simp;rfl));intro gb230 hg w8 hbox hb;have n0_:=qam.mk (qae (g:=gb228) (o:=.cells #[.int .i64 a0_0,.slice (some ad229) l0_1.length c0_1] 39 (0,0)) (za0 BK228) hb);have n1_:=qam.mk (qad (za1 HB GE228) hb);have n2_:=qam.mk (hbox);have n3_:=qam.mk ((by rw[hg];exact(qac (za1 HB GE228)):w.heap.size≤gb230));have n4_:=qam.mk ((by rw[hg];exact(qac (za1 HB GE228)):w.heap.size≤gb230));have n5_:=qam.mk ((by rw[hg];exact Nat.ne_of_lt (qal (g:=gb228) (o:=.cells #[.int .i64 a0_0,.slice (some ad229) l0_1.length c0_1] 39 (0,0)) (za0 BK228)):gb228≠gb230));have n6_:=qam.mk ((by rw[hg];exact Nat.ne_of_gt (qal (g:=gb228) (o:=.cells #[.int .i64 a0_0,.slice (some ad229) l0_1.length c0_1] 39 (0,0)) (za0 BK228)):gb230≠gb228));clear BK228;clear HB;have BK228:=n0_;have HB:=n1_;have BK230:=n2_;have GW230:=n3_;have GE230:=n4_;have NB228_230:=n5_;have NB230_228:=n6_;clear n0_ n1_ n2_ n3_ n4_ n5_ n6_;clear hb hbox hg;have hnb9:=NB230_228.out;have hnc9:=NB228_230.out;have hcz10_0:w8.cell? ⟨gb230,0,none⟩=some (.int .i64 0):=(qab BK230.out 0).trans rfl;have hcz10_1:w8.cell? ⟨gb230,1,none⟩=some (.int .i64 0):=(qab BK230.out 1).trans rfl;have hfz10_0:=qaa BK230.out 0;have hfz10_1:=qaa BK230.out 1))
       go_roundg k1
       case measure=>have:=HK1.out;omega
       case rel=>exact⟨(wrap64 (x3_1 - ((rd_T72 l0_1 x11_1).f0))),(wrap64 (x11_1+1)),(za11),(za11),H',⟨by have:=HK1.out;omega⟩,⟨za4 NB228_230 BK228⟩,⟨za3 HB GE228 GE230⟩⟩
      ·rw[if_neg c7] at H
       have c7b0:(((rd_T72 l0_1 x11_1).f1) == 1)=false:=beq_eq_false_iff_ne.mpr c7
       have c7b1:(((rd_T72 l0_1 x11_1).f1) != 1)=true:=bne_iff_ne.mpr c7
       by_cases c11:((rd_T72 l0_1 x11_1).f1)=2
       ·rw[if_pos c11] at H
        have c11b0:(((rd_T72 l0_1 x11_1).f1) == 2)=true:=beq_iff_eq.mpr c11
        have c11b1:(((rd_T72 l0_1 x11_1).f1) != 2)=false:=bne_eq_false_iff_eq.mpr c11
        clear c11
        have H':=qam.mk H
        clear H
        have p229:0≤(x11_1:Int):=of_decide_eq_true (za6)
        have q229:x11_1<(l0_1.length:Int):=of_decide_eq_true (za6)
        obtain⟨ad229,e229,hx229_0,hx229_1⟩:=at_T72 HR0_1.out x11_1 p229 q229
        cases e229
        replace hx229_0:=(HB.out.cell (World.block_lt_of_cell? w _ hx229_0)).trans hx229_0
        replace hx229_1:=(HB.out.cell (World.block_lt_of_cell? w _ hx229_1)).trans hx229_1
        replace p229:=eq_true p229
        replace q229:=eq_true q229
        go_wp2_with(first|((with_reducible refine qak (N:=5) rfl ?_);refine qai ?hg (N:=5) ?hd (cs:=#[.int .i64 0,.int .i64 0]) (t:=72) ?hr ?_;(case hd=>rfl);(case hg=>rfl);(case hr=>first|(go_simp;done)|(go_simp;rfl));intro gb230 hg w12 hbox hb;have n0_:=qam.mk (qae (g:=gb228) (o:=.cells #[.int .i64 a0_0,.slice (some ad229) l0_1.length c0_1] 39 (0,0)) (za0 BK228) hb);have n1_:=qam.mk (qad (za1 HB GE228) hb);have n2_:=qam.mk (hbox);have n3_:=qam.mk ((by rw[hg];exact(qac (za1 HB GE228)):w.heap.size≤gb230));have n4_:=qam.mk ((by rw[hg];exact(qac (za1 HB GE228)):w.heap.size≤gb230));have n5_:=qam.mk ((by rw[hg];exact Nat.ne_of_lt (qal (g:=gb228) (o:=.cells #[.int .i64 a0_0,.slice (some ad229) l0_1.length c0_1] 39 (0,0)) (za0 BK228)):gb228≠gb230));have n6_:=qam.mk ((by rw[hg];exact Nat.ne_of_gt (qal (g:=gb228) (o:=.cells #[.int .i64 a0_0,.slice (some ad229) l0_1.length c0_1] 39 (0,0)) (za0 BK228)):gb230≠gb228));clear BK228;clear HB;have BK228:=n0_;have HB:=n1_;have BK230:=n2_;have GW230:=n3_;have GE230:=n4_;have NB228_230:=n5_;have NB230_228:=n6_;clear n0_ n1_ n2_ n3_ n4_ n5_ n6_;clear hb hbox hg;have hnb13:=NB230_228.out;have hnc13:=NB228_230.out;have hcz14_0:w12.cell? ⟨gb230,0,none⟩=some (.int .i64 0):=(qab BK230.out 0).trans rfl;have hcz14_1:w12.cell? ⟨gb230,1,none⟩=some (.int .i64 0):=(qab BK230.out 1).trans rfl;have hfz14_0:=qaa BK230.out 0;have hfz14_1:=qaa BK230.out 1))
        go_roundg k1
        case measure=>have:=HK1.out;omega
        case rel=>exact⟨(wrap64 (x3_1 - ((rd_T72 l0_1 x11_1).f0))),(wrap64 (x11_1+1)),(za11),(za11),H',⟨by have:=HK1.out;omega⟩,⟨za4 NB228_230 BK228⟩,⟨za3 HB GE228 GE230⟩⟩
       ·rw[if_neg c11] at H
        have c11b0:(((rd_T72 l0_1 x11_1).f1) == 2)=false:=beq_eq_false_iff_ne.mpr c11
        have c11b1:(((rd_T72 l0_1 x11_1).f1) != 2)=true:=bne_iff_ne.mpr c11
        have H':=qam.mk H
        clear H
        have p229:0≤(x11_1:Int):=of_decide_eq_true (za6)
        have q229:x11_1<(l0_1.length:Int):=of_decide_eq_true (za6)
        obtain⟨ad229,e229,hx229_0,hx229_1⟩:=at_T72 HR0_1.out x11_1 p229 q229
        cases e229
        replace hx229_0:=(HB.out.cell (World.block_lt_of_cell? w _ hx229_0)).trans hx229_0
        replace hx229_1:=(HB.out.cell (World.block_lt_of_cell? w _ hx229_1)).trans hx229_1
        replace p229:=eq_true p229
        replace q229:=eq_true q229
        go_wp2_with(first|((with_reducible refine qak (N:=5) rfl ?_);refine qai ?hg (N:=5) ?hd (cs:=#[.int .i64 0,.int .i64 0]) (t:=72) ?hr ?_;(case hd=>rfl);(case hg=>rfl);(case hr=>first|(go_simp;done)|(go_simp;rfl));intro gb230 hg w15 hbox hb;have n0_:=qam.mk (qae (g:=gb228) (o:=.cells #[.int .i64 a0_0,.slice (some ad229) l0_1.length c0_1] 39 (0,0)) (za0 BK228) hb);have n1_:=qam.mk (qad (za1 HB GE228) hb);have n2_:=qam.mk (hbox);have n3_:=qam.mk ((by rw[hg];exact(qac (za1 HB GE228)):w.heap.size≤gb230));have n4_:=qam.mk ((by rw[hg];exact(qac (za1 HB GE228)):w.heap.size≤gb230));have n5_:=qam.mk ((by rw[hg];exact Nat.ne_of_lt (qal (g:=gb228) (o:=.cells #[.int .i64 a0_0,.slice (some ad229) l0_1.length c0_1] 39 (0,0)) (za0 BK228)):gb228≠gb230));have n6_:=qam.mk ((by rw[hg];exact Nat.ne_of_gt (qal (g:=gb228) (o:=.cells #[.int .i64 a0_0,.slice (some ad229) l0_1.length c0_1] 39 (0,0)) (za0 BK228)):gb230≠gb228));clear BK228;clear HB;have BK228:=n0_;have HB:=n1_;have BK230:=n2_;have GW230:=n3_;have GE230:=n4_;have NB228_230:=n5_;have NB230_228:=n6_;clear n0_ n1_ n2_ n3_ n4_ n5_ n6_;clear hb hbox hg;have hnb16:=NB230_228.out;have hnc16:=NB228_230.out;have hcz17_0:w15.cell? ⟨gb230,0,none⟩=some (.int .i64 0):=(qab BK230.out 0).trans rfl;have hcz17_1:w15.cell? ⟨gb230,1,none⟩=some (.int .i64 0):=(qab BK230.out 1).trans rfl;have hfz17_0:=qaa BK230.out 0;have hfz17_1:=qaa BK230.out 1))
        go_roundg k1
        case measure=>have:=HK1.out;omega
        case rel=>exact⟨(x3_1),(wrap64 (x11_1+1)),(za11),(za11),H',⟨by have:=HK1.out;omega⟩,⟨za4 NB228_230 BK228⟩,⟨za3 HB GE228 GE230⟩⟩
     ·rw[if_neg c6] at H
      exact absurd H (by simp)
    ·rw[if_neg c5] at H
     exact absurd H (by simp)
   ·rw[if_neg c4] at H
    have c4b0:decide (x11_1<(l0_1.length:Int))=false:=decide_eq_false c4
    clear c4
    obtain rfl:=Option.some.inj H
    go_wp2
    go_ret
    exact⟨za8,za1 HB GE228⟩
def impl_Hold_ok.j0:Nat→Int→Bool→Int→Int→Option (Bool)
 |0,_,_,_,_=>none
 |k+1,x4,x10,x232000,x232001=>if x10=true then((impl_in.f x232000 1 3).bind fun t232=>(some t232)) else(if x4=3 then((impl_in.f x232000 0 3).bind fun t233=>(some t233)) else(some false))
def impl_Hold_ok.f (k:Nat) (a0_0:Int) (a0_1:Int):Option (Bool):=if a0_1=0 then(some (a0_0 == 0)) else(if a0_1=1 then(impl_Hold_ok.j0 k a0_1 (a0_1 == 1) a0_0 a0_1) else(impl_Hold_ok.j0 k a0_1 (a0_1 == 2) a0_0 a0_1))
theorem impl_Hold_ok.mono_l:∀k,(∀y0 y1 y2 y3,LeO (impl_Hold_ok.j0 k y0 y1 y2 y3) (impl_Hold_ok.j0 (k+1) y0 y1 y2 y3))
 |0=>fun _ _ _ _ r h=>by simp[impl_Hold_ok.j0] at h
 |k+1=>by
  have ih0:=impl_Hold_ok.mono_l k
  ·intro y0 y1 y2 y3
   unfold impl_Hold_ok.j0
   repeat' first
   |(with_reducible exact ih0 _ _ _ _)
   |(with_reducible exact LeO.refl _)
   |(with_reducible exact LeO.none _)
   |(with_reducible refine LeO.ite ?_ ?_)
   |(with_reducible refine LeO.bind ?_ (fun _=>?_))
   |exact ih0 _ _ _ _
   |exact LeO.none _
   |refine LeO.ite ?_ ?_
   |refine LeO.bind ?_ (fun _=>?_)
theorem impl_Hold_ok.mono:∀a0 a1 k,LeO (impl_Hold_ok.f k a0 a1) (impl_Hold_ok.f (k+1) a0 a1):=by
 intro a0 a1 k
 have ih0:=impl_Hold_ok.mono_l k
 unfold impl_Hold_ok.f
 repeat' first
   |(with_reducible exact ih0 _ _ _ _)
   |(with_reducible exact LeO.refl _)
   |(with_reducible exact LeO.none _)
   |(with_reducible refine LeO.ite ?_ ?_)
   |(with_reducible refine LeO.bind ?_ (fun _=>?_))
   |exact ih0 _ _ _ _
   |exact LeO.none _
   |refine LeO.ite ?_ ?_
   |refine LeO.bind ?_ (fun _=>?_)
set_option maxHeartbeats 8000000 in
set_option maxRecDepth 100000 in
theorem impl_Hold_ok.calls (k:Nat) (a0_0:Int) (a0_1:Int) (r:Bool) (w:World) (h:impl_Hold_ok.f k a0_0 a0_1=some r) :
  Calls Try.prog 68 #[.agg #[.int .i64 a0_0,.int .i64 a0_1]] w fun e w'=>e=.returned (.bool r)∧Below w.heap.size w w':=by
 have hu72:=Try.underlying72
 have HB:=qam.mk (Below.refl w.heap.size w)
 have H:(if a0_1=0 then(some (a0_0 == 0)) else(if a0_1=1 then(impl_Hold_ok.j0 k a0_1 (a0_1 == 1) a0_0 a0_1) else(impl_Hold_ok.j0 k a0_1 (a0_1 == 2) a0_0 a0_1)))=some r:=h
 clear h
 by_cases c2:a0_1=0
 ·rw[if_pos c2] at H
  have c2b0:(a0_1 == 0)=true:=beq_iff_eq.mpr c2
  have c2b1:(a0_1 != 0)=false:=bne_eq_false_iff_eq.mpr c2
  clear c2
  obtain rfl:=Option.some.inj H
  go_enter Try.func68,Try.ntmps68
  go_wp2_with(first|((with_reducible refine qak (N:=1) rfl ?_);refine qai ?hg (N:=1) ?hd (cs:=#[.int .i64 a0_0,.int .i64 a0_1]) (t:=72) ?hr ?_;(case hd=>rfl);(case hg=>rfl);(case hr=>first|(go_simp;done)|(go_simp;rfl));intro gb231 hg w3 hbox hb;have n0_:=qam.mk (qad (za2 HB) hb);have n1_:=qam.mk (hbox);have n2_:=qam.mk ((by rw[hg];exact(qac (za2 HB)):w.heap.size≤gb231));have n3_:=qam.mk ((by rw[hg];exact(qac (za2 HB)):w.heap.size≤gb231));clear HB;have HB:=n0_;have BK231:=n1_;have GW231:=n2_;have GE231:=n3_;clear n0_ n1_ n2_ n3_;clear hb hbox hg;have hcz4_0:w3.cell? ⟨gb231,0,none⟩=some (.int .i64 a0_0):=(qab BK231.out 0).trans rfl;have hcz4_1:w3.cell? ⟨gb231,1,none⟩=some (.int .i64 a0_1):=(qab BK231.out 1).trans rfl;have hfz4_0:=qaa BK231.out 0;have hfz4_1:=qaa BK231.out 1))
  go_ret
  exact⟨za8,za1 HB GE231⟩
 ·rw[if_neg c2] at H
  have c2b0:(a0_1 == 0)=false:=beq_eq_false_iff_ne.mpr c2
  have c2b1:(a0_1 != 0)=true:=bne_iff_ne.mpr c2
  have HC5:=qam.mk H
  clear H
  go_enter Try.func68,Try.ntmps68
  go_upto_if 10 with(first|((with_reducible refine qak (N:=1) rfl ?_);refine qai ?hg (N:=1) ?hd (cs:=#[.int .i64 a0_0,.int .i64 a0_1]) (t:=72) ?hr ?_;(case hd=>rfl);(case hg=>rfl);(case hr=>first|(go_simp;done)|(go_simp;rfl));intro gb231 hg w6 hbox hb;have n0_:=qam.mk (qad (za2 HB) hb);have n1_:=qam.mk (hbox);have n2_:=qam.mk ((by rw[hg];exact(qac (za2 HB)):w.heap.size≤gb231));have n3_:=qam.mk ((by rw[hg];exact(qac (za2 HB)):w.heap.size≤gb231));clear HB;have HB:=n0_;have BK231:=n1_;have GW231:=n2_;have GE231:=n3_;clear n0_ n1_ n2_ n3_;clear hb hbox hg;have hcz7_0:w6.cell? ⟨gb231,0,none⟩=some (.int .i64 a0_0):=(qab BK231.out 0).trans rfl;have hcz7_1:w6.cell? ⟨gb231,1,none⟩=some (.int .i64 a0_1):=(qab BK231.out 1).trans rfl;have hfz7_0:=qaa BK231.out 0;have hfz7_1:=qaa BK231.out 1))
  (try simp only[Act.put,List.setIfInBounds_toArray,List.set_cons_zero,List.set_cons_succ])
  go_cut [10] (fun v10 wc=>∃(kq:Nat) (x10_4:Bool),v10=.bool x10_4∧qam (impl_Hold_ok.j0 kq a0_1 x10_4 a0_0 a0_1=some r)∧qam (kq≤k)∧qam (wc.heap[gb231]?=some (.cells #[.int .i64 a0_0,.int .i64 a0_1] 72 (0,0)))∧qam (Below w.heap.size w wc))
  case first=>
   have H:=HC5.out
   clear HC5
   by_cases c8:a0_1=1
   ·rw[if_pos c8] at H
    have c8b0:(a0_1 == 1)=true:=beq_iff_eq.mpr c8
    have c8b1:(a0_1 != 1)=false:=bne_eq_false_iff_eq.mpr c8
    clear c8
    (first|rw[c8b0]|(simp only[qao,qap];rw[c8b0])|skip)
    have H':=qam.mk H
    clear H
    go_wp2
    go_meet
    case rel=>exact⟨_,((a0_1 == 1)),(za11),H',⟨by first|omega|exact Nat.le_refl _⟩,⟨za0 BK231⟩,⟨za1 HB GE231⟩⟩
   ·rw[if_neg c8] at H
    have c8b0:(a0_1 == 1)=false:=beq_eq_false_iff_ne.mpr c8
    have c8b1:(a0_1 != 1)=true:=bne_iff_ne.mpr c8
    (first|rw[c8b0]|(simp only[qao,qap];rw[c8b0])|skip)
    have H':=qam.mk H
    clear H
    go_wp2
    go_meet
    case rel=>exact⟨_,((a0_1 == 2)),(za11),H',⟨by first|omega|exact Nat.le_refl _⟩,⟨za0 BK231⟩,⟨za1 HB GE231⟩⟩
  case rest=>
   clear HC5
   try clear c2
   try clear c2b0
   try clear c2b1
   try clear p2
   try clear c6
   try clear c8
   try clear c8b0
   try clear c8b1
   try clear hcz4_0
   try clear hcz4_1
   try clear hcz7_0
   try clear hcz7_1
   try clear hfz4_0
   try clear hfz4_1
   try clear hfz7_0
   try clear hfz7_1
   obtain⟨kq,x10_4,rfl,HA,HJ4,BK231,HB⟩:=hcut
   cases kq with
   |zero=>exact absurd HA.out (by simp[impl_Hold_ok.j0])
   |succ kj4=>
    have H:=HA.out
    clear HA
    simp only[impl_Hold_ok.j0] at H
    by_cases c9:x10_4=true
    ·subst c9
     have H1:((impl_in.f a0_0 1 3).bind fun t232=>(some t232))=some r:=by rw[if_pos rfl] at H;exact H
     clear H
     have H:=H1
     clear H1
     replace H:=Option.bind_eq_some_iff.mp H
     obtain⟨t232,A100,H⟩:=H
     replace H:(some t232)=some r:=H
     have A10:=qam.mk A100
     clear A100
     obtain rfl:=Option.some.inj H
     have hcz11_0:wc.cell? ⟨gb231,0,none⟩=some (.int .i64 a0_0):=(qab BK231.out 0).trans rfl
     have hcz11_1:wc.cell? ⟨gb231,1,none⟩=some (.int .i64 a0_1):=(qab BK231.out 1).trans rfl
     have hfz11_0:=qaa BK231.out 0
     have hfz11_1:=qaa BK231.out 1
     go_wp2_with(first|((with_reducible refine qaj (f:=37) rfl ?_);refine goesL_ (some 15) rfl rfl Try.func37 (by kernel_rfl) rfl #[.int .i64 a0_0,.int .i64 1,.int .i64 3] rfl (by(try simp only[List.map_toArray,List.map_cons,List.map_nil]);first|done|rfl|(simp only[List.length_drop,List.length_take];rfl)) ?_;(with_reducible refine(impl_in.calls a0_0 1 3 t232 _ A10.out).mono ?_);rintro e w' ⟨rfl,⟨nd,rfl⟩⟩;refine⟨_,rfl,?_⟩))
     go_ret
     exact⟨za8,za1 HB GE231⟩
    ·replace c9:=Bool.eq_false_iff.mpr c9
     subst c9
     have H1:(if a0_1=3 then((impl_in.f a0_0 0 3).bind fun t233=>(some t233)) else(some false))=some r:=by rw[if_neg (show ¬(false=true) by decide)] at H;exact H
     clear H
     have H:=H1
     clear H1
     by_cases c12:a0_1=3
     ·rw[if_pos c12] at H
      have c12b0:(a0_1 == 3)=true:=beq_iff_eq.mpr c12
      have c12b1:(a0_1 != 3)=false:=bne_eq_false_iff_eq.mpr c12
      clear c12
      replace H:=Option.bind_eq_some_iff.mp H
      obtain⟨t233,A130,H⟩:=H
      replace H:(some t233)=some r:=H
      have A13:=qam.mk A130
      clear A130
      obtain rfl:=Option.some.inj H
      have hcz14_0:wc.cell? ⟨gb231,0,none⟩=some (.int .i64 a0_0):=(qab BK231.out 0).trans rfl
      have hcz14_1:wc.cell? ⟨gb231,1,none⟩=some (.int .i64 a0_1):=(qab BK231.out 1).trans rfl
      have hfz14_0:=qaa BK231.out 0
      have hfz14_1:=qaa BK231.out 1
      go_wp2_with(first|((with_reducible refine qaj (f:=37) rfl ?_);refine goesL_ (some 20) rfl rfl Try.func37 (by kernel_rfl) rfl #[.int .i64 a0_0,.int .i64 0,.int .i64 3] rfl (by(try simp only[List.map_toArray,List.map_cons,List.map_nil]);first|done|rfl|(simp only[List.length_drop,List.length_take];rfl)) ?_;(with_reducible refine(impl_in.calls a0_0 0 3 t233 _ A13.out).mono ?_);rintro e w' ⟨rfl,⟨nd,rfl⟩⟩;refine⟨_,rfl,?_⟩))
      go_ret
      exact⟨za8,za1 HB GE231⟩
     ·rw[if_neg c12] at H
      have c12b0:(a0_1 == 3)=false:=beq_eq_false_iff_ne.mpr c12
      have c12b1:(a0_1 != 3)=true:=bne_iff_ne.mpr c12
      obtain rfl:=Option.some.inj H
      go_wp2
      go_ret
      exact⟨za8,za1 HB GE231⟩
def impl_StockOk_1.f (k:Nat) (a0_0:Int) (a0_1:Int):Option (Bool):=(impl_Hold_ok.f k a0_0 a0_1).bind fun t235=>(some (!t235))
theorem impl_StockOk_1.mono:∀a0 a1 k,LeO (impl_StockOk_1.f k a0 a1) (impl_StockOk_1.f (k+1) a0 a1):=by
 intro a0 a1 k
 unfold impl_StockOk_1.f
 repeat' first
   |(with_reducible exact impl_Hold_ok.mono _ _ _)
   |(with_reducible exact LeO.refl _)
   |(with_reducible exact LeO.none _)
   |(with_reducible refine LeO.ite ?_ ?_)
   |(with_reducible refine LeO.bind ?_ (fun _=>?_))
   |exact impl_Hold_ok.mono _ _ _
   |exact LeO.none _
   |refine LeO.ite ?_ ?_
   |refine LeO.bind ?_ (fun _=>?_)
set_option maxHeartbeats 8000000 in
set_option maxRecDepth 100000 in
theorem impl_StockOk_1.calls (k:Nat) (a0_0:Int) (a0_1:Int) (r:Bool) (w:World) (h:impl_StockOk_1.f k a0_0 a0_1=some r) :
  Calls Try.prog 67 #[.agg #[.int .i64 a0_0,.int .i64 a0_1]] w fun e w'=>e=.returned (.bool r)∧Below w.heap.size w w':=by
 have hu72:=Try.underlying72
 have HB:=qam.mk (Below.refl w.heap.size w)
 have H:((impl_Hold_ok.f k a0_0 a0_1).bind fun t235=>(some (!t235)))=some r:=h
 clear h
 replace H:=Option.bind_eq_some_iff.mp H
 obtain⟨t235,A20,H⟩:=H
 replace H:(some (!t235))=some r:=H
 have A2:=qam.mk A20
 clear A20
 obtain rfl:=Option.some.inj H
 go_enter Try.func67,Try.ntmps67
 go_wp2_with(first|((with_reducible refine qak (N:=1) rfl ?_);refine qai ?hg (N:=1) ?hd (cs:=#[.int .i64 a0_0,.int .i64 a0_1]) (t:=72) ?hr ?_;(case hd=>rfl);(case hg=>rfl);(case hr=>first|(go_simp;done)|(go_simp;rfl));intro gb234 hg w3 hbox hb;have n0_:=qam.mk (qad (za2 HB) hb);have n1_:=qam.mk (hbox);have n2_:=qam.mk ((by rw[hg];exact(qac (za2 HB)):w.heap.size≤gb234));have n3_:=qam.mk ((by rw[hg];exact(qac (za2 HB)):w.heap.size≤gb234));clear HB;have HB:=n0_;have BK234:=n1_;have GW234:=n2_;have GE234:=n3_;clear n0_ n1_ n2_ n3_;clear hb hbox hg;have hcz4_0:w3.cell? ⟨gb234,0,none⟩=some (.int .i64 a0_0):=(qab BK234.out 0).trans rfl;have hcz4_1:w3.cell? ⟨gb234,1,none⟩=some (.int .i64 a0_1):=(qab BK234.out 1).trans rfl;have hfz4_0:=qaa BK234.out 0;have hfz4_1:=qaa BK234.out 1)|((with_reducible refine qaj (f:=68) rfl ?_);refine goesL_ (some 4) rfl rfl Try.func68 (by kernel_rfl) rfl #[.agg #[.int .i64 a0_0,.int .i64 a0_1]] rfl (by(try simp only[List.map_toArray,List.map_cons,List.map_nil]);first|done|rfl|(simp only[List.length_drop,List.length_take];rfl)) ?_;(with_reducible refine(impl_Hold_ok.calls k a0_0 a0_1 t235 _ A2.out).mono ?_);rintro e w5 ⟨rfl,hb⟩;refine⟨_,rfl,?_⟩;have n0_:=qam.mk (qae (g:=gb234) (o:=.cells #[.int .i64 a0_0,.int .i64 a0_1] 72 (0,0)) (za0 BK234) hb);have n1_:=qam.mk (qad (za1 HB GE234) hb);clear BK234;clear HB;have BK234:=n0_;have HB:=n1_;clear n0_ n1_;(try clear hb);(try clear hb2);(try clear hk);(try clear hi)))
 go_ret
 exact⟨za8,za1 HB GE234⟩
theorem drop_cons_T72 {l:List S72} {k:Nat} (h:k<l.length):l.drop k=rd_T72 l (k:Int) :: l.drop (k+1):=by
 rw[List.drop_eq_getElem_cons h]
 simp[rd_T72,List.getD_eq_getElem?_getD,List.getElem?_eq_getElem h]
set_option maxHeartbeats 4000000 in
set_option maxRecDepth 100000 in
theorem idx_T72 (p:S72→Option Bool) (g:Nat) (A_:Option Addr) (c_:Nat) (l0:List S72) (r:Bool) (w:World) (hr0:Kd.C k72 w A_ l0.length l0) (hc0:l0.length≤c_)
  (eg:∀args w,(callFunc g args).run Try.prog w=.ok (.enter g args) w)
  (hg:∀(W:World) (x:S72)  (b:Bool),p x=some b→Calls Try.prog g #[.agg #[.int .i64 (x.f0),.int .i64 (x.f1)]] W fun e w'=>e=.returned (.bool b)∧Below W.heap.size W w') (h:anyO p l0=some r) :
  Calls Try.prog 70 #[.slice A_ l0.length c_,.func (.func g) #[] #[]] w (IdxB r w):=by
 have HR:=qam.mk hr0
 have HG:=qam.mk hg
 have HH:=qam.mk h
 clear hr0 hc0 hg h
 have hbig:l0.length≤9223372036854775807:=by
  have:=HR.out
  exact this.2.1
 go_enter Try.func70,Try.ntmps70
 go_wp2
 go_loopg [5,8] l0.length (fun gg _ s8 wr=>∃kk:Nat,kk≤l0.length∧l0.length - kk≤gg∧s8=.int .i64 kk∧qam (Below w.heap.size w wr)∧qam (anyO p (l0.drop kk)=some r))
 case atStart=>exact⟨0,Nat.zero_le _,by omega,rfl,⟨Below.refl _ _⟩,HH⟩
 case round=>
  obtain⟨kk,hkk,hg',rfl,BW,B⟩:=hrel
  clear HH
  by_cases hlt:kk<l0.length
  ·have hltz:(kk:Int)<(l0.length:Int):=by omega
   obtain⟨ad,e0,hx0,hx1⟩:=at_T72 HR.out (kk:Int) (by omega) hltz
   cases e0
   rw[Int.toNat_natCast] at hx0
   rw[Int.toNat_natCast] at hx1
   replace hx0:=(BW.out.cell (World.block_lt_of_cell? w _ hx0)).trans hx0
   replace hx1:=(BW.out.cell (World.block_lt_of_cell? w _ hx1)).trans hx1
   have B':=B.out
   rw[drop_cons_T72 hlt] at B'
   obtain⟨b,hb,hb'⟩:=anyO_cons B'
   clear B B'
   generalize rd_T72 l0 (kk:Int)=x at *
   have HB:=qam.mk hb
   clear hb
   rcases hb' with⟨rfl,rfl⟩|⟨rfl,hb'⟩
   ·have hcall:=HG.out wr x  true  HB.out
    go_wp2_with(go_at_fn g;refine hcall.mono ?_;rintro e w' ⟨rfl,hbl⟩)
    go_ret
    exact⟨kk,rfl,by simp,qad BW.out hbl⟩
   ·have B2:=qam.mk hb'
    clear hb'
    have hcall:=HG.out wr x  false  HB.out
    go_wp2_with(go_at_fn g;refine hcall.mono ?_;rintro e w' ⟨rfl,hbl⟩)
    go_roundg (l0.length - (kk+1))
    case measure=>omega
    case rel=>exact⟨kk+1,by omega,by omega,by go_num,⟨qad BW.out hbl⟩,B2⟩
  ·have hltz:¬(kk:Int)<(l0.length:Int):=by omega
   have B':=B.out
   rw[List.drop_eq_nil_of_le (by omega)] at B'
   have hr:false=r:=by injection B'
   subst hr
   clear B'
   go_wp2
   go_ret
   exact⟨-1,rfl,by decide,BW.out⟩
set_option maxHeartbeats 4000000 in
theorem contains_T72 (p:S72→Option Bool) (g:Nat) (A_:Option Addr) (c_:Nat) (l0:List S72) (r:Bool) (w:World) (hr0:Kd.C k72 w A_ l0.length l0) (hc0:l0.length≤c_)
  (eg:∀args w,(callFunc g args).run Try.prog w=.ok (.enter g args) w)
  (hg:∀(W:World) (x:S72)  (b:Bool),p x=some b→Calls Try.prog g #[.agg #[.int .i64 (x.f0),.int .i64 (x.f1)]] W fun e w'=>e=.returned (.bool b)∧Below W.heap.size W w') (h:anyO p l0=some r) :
  Calls Try.prog 69 #[.slice A_ l0.length c_,.func (.func g) #[] #[]] w fun e w'=>e=.returned (.bool r)∧Below w.heap.size w w':=by
 have hI:=fun W=>idx_T72 p g A_ c_ l0 r W
 have HR:=qam.mk hr0
 have HG:=qam.mk hg
 have HH:=qam.mk h
 have HC:=qam.mk hc0
 clear hr0 hc0 hg h
 go_enter Try.func69,Try.ntmps69
 go_wp2_with(go_at_call 70;refine(hI _ HR.out HC.out eg HG.out HH.out).mono ?_;rintro e w' ⟨i,rfl,hi,hb⟩)
 go_ret
 exact⟨by rw[←hi];rfl,hb⟩
def impl_StockOk.f (k:Nat) (a0_0:Int) (l0_1:List (S72)):Option (Bool):=(impl_in.f a0_0 0 9).bind fun t=>if t=true then(if(l0_1.length:Int)=6 then((anyO (fun x:S72=>impl_StockOk_1.f k x.f0 x.f1) l0_1).bind fun a=>if a=true then some false else((impl_Stock_free.f k a0_0 l0_1).bind fun v=>some (decide (0≤v)))) else some false) else some false
theorem impl_StockOk.mono:∀a0 a1 k,LeO (impl_StockOk.f k a0 a1) (impl_StockOk.f (k+1) a0 a1):=by
 intro a0 a1 k
 unfold impl_StockOk.f
 refine LeO.bind (LeO.refl _) (fun t=>LeO.ite (LeO.ite (LeO.bind (anyO_mono (fun x=>impl_StockOk_1.mono _ _ _) _) (fun a=>LeO.ite (LeO.refl _) (LeO.bind (impl_Stock_free.mono _ _ _) (fun v=>LeO.refl _)))) (LeO.refl _)) (LeO.refl _))
set_option maxHeartbeats 8000000 in
set_option maxRecDepth 100000 in
theorem impl_StockOk.calls (k:Nat) (a0_0:Int) (A0_1:Option Addr) (c0_1:Nat) (l0_1:List (S72)) (r:Bool) (w:World) (hr0_1:Kd.C k72 w A0_1 l0_1.length l0_1) (hc0_1:l0_1.length≤c0_1) (h:impl_StockOk.f k a0_0 l0_1=some r) :
  Calls Try.prog 63 #[.agg #[.int .i64 a0_0,.slice A0_1 l0_1.length c0_1]] w fun e w'=>e=.returned (.bool r)∧Below w.heap.size w w':=by
 have HR:=qam.mk hr0_1
 have HC:=qam.mk hc0_1
 have c1:=fun(W:World) (r':Bool) (hr:Kd.C k72 W A0_1 l0_1.length l0_1) (h:anyO (fun x:S72=>impl_StockOk_1.f k x.f0 x.f1) l0_1=some r')=>contains_T72 (fun x:S72=>impl_StockOk_1.f k x.f0 x.f1) 67 A0_1 c0_1 l0_1 r' W hr HC.out (enters_of Try.func67 (by kernel_rfl) rfl) (fun W x b hb=>(impl_StockOk_1.calls k x.f0 x.f1 b W hb).mono fun e w' ⟨he,hd⟩=>⟨he,hd⟩) h
 have C1:=qam.mk c1
 clear hr0_1 hc0_1 c1
 unfold impl_StockOk.f at h
 obtain⟨t,ht,h⟩:=Option.bind_eq_some_iff.mp h
 have HT:=qam.mk ht
 clear ht
 cases t with
 |false=>
  rw[if_neg (by decide)] at h
  injection h with h
  subst h
  go_enter Try.func63,Try.ntmps63
  go_wp2_with(go_at_call 37;refine(impl_in.calls _ _ _ false _ HT.out).mono ?_;rintro e w' ⟨rfl,⟨nd,rfl⟩⟩)
  go_ret
  exact⟨rfl,pw_below_drewN (below_alloc (Below.refl _ _) _) _⟩
 |true=>
  rw[if_pos rfl] at h
  by_cases h3:(l0_1.length:Int)=6
  ·rw[if_pos h3] at h
   have h3b:((l0_1.length:Int) == 6)=true:=by simpa using h3
   have h3c:(l0_1.length == 6)=true:=by simp;omega
   clear h3
   obtain⟨a,ha,h⟩:=Option.bind_eq_some_iff.mp h
   have HA:=qam.mk ha
   clear ha
   cases a with
   |true=>
    rw[if_pos rfl] at h
    injection h with h
    subst h
    go_enter Try.func63,Try.ntmps63
    go_wp2_with(first|(go_at_call 37;refine(impl_in.calls _ _ _ true _ HT.out).mono ?_;rintro e w' ⟨rfl,⟨nd,rfl⟩⟩)|(go_at_call 69;refine(C1.out _ true ?side1 HA.out).mono ?_;(case side1=>repeat(first|exact HR.out|(with_reducible refine Kd.C_alloc ?_ _)|(with_reducible refine Kd.C_drewN ?_ _)|(with_reducible refine Kd.C_drew ?_)));rintro e w' ⟨rfl,hb⟩))
    go_ret
    exact⟨rfl,qad (pw_below_drewN (below_alloc (Below.refl _ _) _) _) hb⟩
   |false=>
    rw[if_neg (by decide)] at h
    obtain⟨v,hv,h⟩:=Option.bind_eq_some_iff.mp h
    injection h with h
    subst h
    have HV:=qam.mk hv
    clear hv
    go_enter Try.func63,Try.ntmps63
    go_wp2_with fail
    go_at_call 37
    refine(impl_in.calls _ _ _ true _ HT.out).mono ?_
    rintro e w' ⟨rfl,⟨nd,rfl⟩⟩
    go_wp2_with fail
    go_at_call 69
    refine(C1.out _ false ?side1 HA.out).mono ?_
    (case side1=>repeat(first|exact HR.out|(with_reducible refine Kd.C_alloc ?_ _)|(with_reducible refine Kd.C_drewN ?_ _)|(with_reducible refine Kd.C_drew ?_)))
    rintro e w1 ⟨rfl,hb⟩
    have hx0:w1.cell? ⟨w.heap.size,0,none⟩=some (.int .i64 a0_0):=(hb.cell (p:=⟨w.heap.size,0,none⟩) (by simp)).trans (by go_simp)
    have hx1:w1.cell? ⟨w.heap.size,1,none⟩=some (.slice A0_1 l0_1.length c0_1):=(hb.cell (p:=⟨w.heap.size,1,none⟩) (by simp)).trans (by go_simp)
    have HB:=qam.mk (qad (pw_below_drewN (below_alloc (Below.refl w.heap.size w) _) _) hb)
    clear hb
    go_wp2_with fail
    go_at_call 64
    refine(impl_Stock_free.calls k a0_0 A0_1 c0_1 l0_1 v _ ?side1 ?side2 HV.out).mono ?_
    (case side1=>exact Kd.C_below HR.out HB.out)
    (case side2=>exact HC.out)
    rintro e w2 ⟨rfl,hd⟩
    have HB2:=qam.mk (qad HB.out hd)
    clear hd
    go_wp2_with fail
    go_ret
    exact⟨rfl,HB2.out⟩
  ·rw[if_neg h3] at h
   injection h with h
   subst h
   have h3b:((l0_1.length:Int) == 6)=false:=by simpa using h3
   have h3c:(l0_1.length == 6)=false:=by simp;omega
   clear h3
   go_enter Try.func63,Try.ntmps63
   go_wp2_with(go_at_call 37;refine(impl_in.calls _ _ _ true _ HT.out).mono ?_;rintro e w' ⟨rfl,⟨nd,rfl⟩⟩)
   go_ret
   exact⟨rfl,pw_below_drewN (below_alloc (Below.refl _ _) _) _⟩
end Go.Proofs.Ytbomcadjkcmcgaa.Print
