-- Written by squeeze.py, a program of this session, out of what print.sh and myprint.py had printed: cut to what is used, narrowed. Not trusted, Lean checks it.
import Derived.Test.YtjccnaklodbbfaaZK
import Derived.Test.YtjccnaklodbbfaaZc0
import Derived.Test.YtjccnaklodbbfaaZl1
import Derived.Test.YtjccnaklodbbfaaZm0
import Derived.Test.YtjccnaklodbbfaaZn0
namespace Go.Proofs.Ytjccnaklodbbfaa.Print
open Go.RowKit Go.Proofs.YtjccnaklodbbfaaW.PrintWords Go.Proofs.YtjccnaklodbbfaaW.PrintLast Go.Proofs.YtjccnaklodbbfaaW.PrintMore
attribute [local go_sem] max2_int min2_int max_two min_two max_three min_three max_four min_four
set_option linter.unusedVariables false
set_option linter.unusedSimpArgs false
def spec_l2Of.l0:Nat→List (S62)→Int→Int→List (S46)→Option (Int × (List (S46)) × Bool)
 |0,_,_,_,_=>none
 |k+1,x1,x8,x395000,x395001=>if x8<(x1.length:Int) then(if 0≤x8 then((spec_RecOk.f k ((rd_T62 x1 x8).f0) ((rd_T62 x1 x8).f1) ((rd_T62 x1 x8).f2)).bind fun t396=>(if t396=true then((spec_l2May.f k x395000 x395001 ((rd_T62 x1 x8).f0) ((rd_T62 x1 x8).f1) ((rd_T62 x1 x8).f2)).bind fun t398=>(if t398=true then((spec_l2Do.f x395000 x395001 ((rd_T62 x1 x8).f0) ((rd_T62 x1 x8).f1) ((rd_T62 x1 x8).f2)).bind fun bt400=>(spec_l2Of.l0 k x1 (wrap64 (x8+1)) bt400.1 bt400.2)) else(some (0,([]:List (S46)),false)))) else(some (0,([]:List (S46)),false)))) else(none)) else(some (x395000,x395001,true))
def spec_l2Of.f (k:Nat) (a0:Int) (l1:List (S62)):Option (Int × (List (S46)) × Bool):=(spec_StockNew.f a0).bind fun bt389=>(if bt389.2.2=true then(spec_l2Of.l0 k l1 0 bt389.1 bt389.2.1) else(some (0,([]:List (S46)),false)))
theorem spec_l2Of.mono_l:∀k,(∀y0 y1 y2 y3,LeO (spec_l2Of.l0 k y0 y1 y2 y3) (spec_l2Of.l0 (k+1) y0 y1 y2 y3))
 |0=>fun _ _ _ _ r h=>by simp[spec_l2Of.l0] at h
 |k+1=>by
  have ih0:=spec_l2Of.mono_l k
  ·intro y0 y1 y2 y3
   unfold spec_l2Of.l0
   repeat' first
   |(with_reducible exact ih0 _ _ _ _)
   |(with_reducible exact spec_RecOk.mono _ _ _ _)
   |(with_reducible exact spec_l2May.mono _ _ _ _ _ _)
   |(with_reducible exact LeO.refl _)
   |(with_reducible exact LeO.none _)
   |(with_reducible refine LeO.ite ?_ ?_)
   |(with_reducible refine LeO.bind ?_ (fun _=>?_))
   |exact ih0 _ _ _ _
   |exact spec_RecOk.mono _ _ _ _
   |exact spec_l2May.mono _ _ _ _ _ _
   |exact LeO.none _
   |refine LeO.ite ?_ ?_
   |refine LeO.bind ?_ (fun _=>?_)
theorem spec_l2Of.mono:∀a0 a1 k,LeO (spec_l2Of.f k a0 a1) (spec_l2Of.f (k+1) a0 a1):=by
 intro a0 a1 k
 have ih0:=spec_l2Of.mono_l k
 unfold spec_l2Of.f
 repeat' first
   |(with_reducible exact ih0 _ _ _ _)
   |(with_reducible exact spec_RecOk.mono _ _ _ _)
   |(with_reducible exact spec_l2May.mono _ _ _ _ _ _)
   |(with_reducible exact LeO.refl _)
   |(with_reducible exact LeO.none _)
   |(with_reducible refine LeO.ite ?_ ?_)
   |(with_reducible refine LeO.bind ?_ (fun _=>?_))
   |exact ih0 _ _ _ _
   |exact spec_RecOk.mono _ _ _ _
   |exact spec_l2May.mono _ _ _ _ _ _
   |exact LeO.none _
   |refine LeO.ite ?_ ?_
   |refine LeO.bind ?_ (fun _=>?_)
def spec_l2Of.T7:Bool × List (List Nat × List Nat):=(true,[([],[]),([],[]),([0,1],[0,1]),([2],[2]),([3],[3]),([4],[4]),([5,4],[5]),([6],[6]),([6],[6]),([6],[6]),([8,9,6],[6,8,9]),([10,6],[6,10]),([7,11,6,6],[6,7,11]),([12,6],[6,12]),([6,13],[6,13])])
def spec_l2Of.B7:List Nat:=[0,0,3,7,15,31,63,127,127,127,895,1919,4095,8191,16383]
theorem spec_l2Of.tab7:rtab .any (opsOf Try.f125 7)=spec_l2Of.T7:=by kernel_rfl
theorem spec_l2Of.bits7:waitsOk spec_l2Of.T7.2 spec_l2Of.B7=true:=by kernel_rfl
set_option maxHeartbeats 8000000 in
set_option maxRecDepth 100000 in
theorem spec_l2Of.calls (k:Nat) (a0:Int) (A1:Option Addr) (c1:Nat) (l1:List (S62)) (r1:Int) (r2:List (S46)) (r3:Bool) (w:World) (hr1:Kd.C k62 w A1 l1.length l1) (hc1:l1.length≤c1) (h:spec_l2Of.f k a0 l1=some (r1,r2,r3)) :
  Calls Try.prog 125 #[.int .i64 a0,.slice A1 l1.length c1] w fun e w'=>∃v1_:Value,e=.returned (.tuple #[.agg #[.int .i64 r1,v1_],.bool r3])∧Kd.R k46 46 w' w.heap.size (fun _=>True) v1_ r2∧Below w.heap.size w w':=by
 have hu36:=Try.underlying36
 have hu62:=Try.underlying62
 have HR1:=qal.mk hr1
 have HC1:=qal.mk hc1
 clear hr1 hc1
 have HB:=qal.mk (Below.refl w.heap.size w)
 have H:((spec_StockNew.f a0).bind fun bt389=>(if bt389.2.2=true then(spec_l2Of.l0 k l1 0 bt389.1 bt389.2.1) else(some (0,([]:List (S46)),false))))=some (r1,r2,r3):=h
 clear h
 replace H:=Option.bind_eq_some_iff.mp H
 obtain⟨⟨t389,t390,t393⟩,A30,H⟩:=H
 replace H:(if t393=true then(spec_l2Of.l0 k l1 0 t389 t390) else(some (0,([]:List (S46)),false)))=some (r1,r2,r3):=H
 have A3:=qal.mk A30
 clear A30
 by_cases c4:t393=true
 ·subst c4
  have H1:(spec_l2Of.l0 k l1 0 t389 t390)=some (r1,r2,r3):=by rw[if_pos rfl] at H;exact H
  clear H
  have H:=H1
  clear H1
  have H':=qal.mk H
  clear H
  go_enter Try.func125,Try.ntmps125
  go_wp2_with(first|((with_reducible refine qak (N:=4) rfl ?_);refine qaj ?hg (N:=4) ?hd (cs:=#[.int .i64 0,.slice none 0 0]) (t:=36) ?hr ?_;(case hd=>rfl);(case hg=>rfl);(case hr=>first|(go_simp;done)|(go_simp;rfl));intro gb388 hg w5 hbox hb;have n0_:=qal.mk (qae (za2 HB) hb);have n1_:=qal.mk (hbox);have n2_:=qal.mk ((by rw[hg];exact(qad (za2 HB)):w.heap.size≤gb388));have n3_:=qal.mk ((by rw[hg];exact(qad (za2 HB)):w.heap.size≤gb388));clear HB;have HB:=n0_;have BK388:=n1_;have GW388:=n2_;have GE388:=n3_;clear n0_ n1_ n2_ n3_;clear hb hbox hg)|((with_reducible refine qai (f:=21) rfl ?_);refine qau (some 11) rfl rfl Try.func21 (by kernel_rfl) rfl #[.int .i64 a0] rfl (by(try simp only[List.map_toArray,List.map_cons,List.map_nil]);first|done|rfl|(simp only[List.length_drop,List.length_take];rfl)) ?_;(with_reducible refine(spec_StockNew.calls a0 t389 t390 true _ A3.out).mono ?_);rintro e w6 ⟨v391,rfl,ho0,hb⟩;refine⟨_,rfl,?_⟩;have n0_:=qal.mk (Kd.R_lower ho0 (qad (za1 HB GE388)));have n1_:=qal.mk (qac (g:=gb388) (o:=.cells #[.int .i64 0,.slice none 0 0] 36 (0,0)) (za0 BK388) hb);have n2_:=qal.mk (qae (za1 HB GE388) hb);clear BK388;clear HB;have HO392:=n0_;have BK388:=n1_;have HB:=n2_;clear n0_ n1_ n2_;(try clear hb);(try clear hb2);(try clear hk);(try clear hi);(try clear ho0))|((with_reducible refine qak (N:=6) rfl ?_);refine qaj ?hg (N:=6) ?hd (cs:=#[.int .i64 0,.slice none 0 0]) (t:=36) ?hr ?_;(case hd=>rfl);(case hg=>rfl);(case hr=>first|(go_simp;done)|(go_simp;rfl));intro gb394 hg w7 hbox hb;have n0_:=qal.mk (Kd.R_below (za4 HO392) hb);have n1_:=qal.mk (qac (g:=gb388) (o:=.cells #[.int .i64 0,.slice none 0 0] 36 (0,0)) (za0 BK388) hb);have n2_:=qal.mk (qae (za1 HB GE388) hb);have n3_:=qal.mk (hbox);have n4_:=qal.mk ((by rw[hg];exact(qad (za1 HB GE388)):w.heap.size≤gb394));have n5_:=qal.mk ((by rw[hg];exact(qad (za1 HB GE388)):w.heap.size≤gb394));have n6_:=qal.mk ((by rw[hg];exact Nat.ne_of_lt (qao (g:=gb388) (o:=.cells #[.int .i64 0,.slice none 0 0] 36 (0,0)) (za0 BK388)):gb388≠gb394));have n7_:=qal.mk ((by rw[hg];exact Nat.ne_of_gt (qao (g:=gb388) (o:=.cells #[.int .i64 0,.slice none 0 0] 36 (0,0)) (za0 BK388)):gb394≠gb388));clear HO392;clear BK388;clear HB;have HO392:=n0_;have BK388:=n1_;have HB:=n2_;have BK394:=n3_;have GW394:=n4_;have GE394:=n5_;have NB388_394:=n6_;have NB394_388:=n7_;clear n0_ n1_ n2_ n3_ n4_ n5_ n6_ n7_;clear hb hbox hg;have hnb8:=NB394_388.out;have hnc8:=NB388_394.out;have hcz9_0:w7.cell? ⟨gb394,0,none⟩=some (.int .i64 0):=(qab BK394.out 0).trans rfl;have hcz9_1:w7.cell? ⟨gb394,1,none⟩=some (.slice none 0 0):=(qab BK394.out 1).trans rfl;have hfz9_0:=qaa BK394.out 0;have hfz9_1:=qaa BK394.out 1;obtain⟨Ao10,co10,eo10⟩:=Kd.R_slice HO392.out;subst eo10))
  go_loopg [8] k (fun kq v8 w'=>∃(x8_1:Int) (x389000_1:Int) (x395000_1:Int) (x395001_1:List (S46)) (u395001:Value),v8=.int .i64 x8_1∧qal (spec_l2Of.l0 kq l1 x8_1 x395000_1 x395001_1=some (r1,r2,r3))∧qal (kq≤k)∧qal (Kd.R k46 46 w' w.heap.size (fun _=>True) u395001 x395001_1)∧qal (w'.heap[gb388]?=some (.cells #[.int .i64 x389000_1,(.slice none 0 0)] 36 (0,0)))∧qal (w'.heap[gb394]?=some (.cells #[.int .i64 x395000_1,u395001] 36 (0,0)))∧qal (Below w.heap.size w w'))
  case atStart=>exact⟨(0),(0),(t389),(t390),(.slice Ao10 t390.length co10),(za22),H',⟨Nat.le_refl _⟩,⟨by(with_reducible repeat(first|apply Kd.R_alloc|apply Kd.R_drewN|apply Kd.R_drew));exact Kd.R_mono (Kd.R_far (p:=⟨gb394,1,none⟩) (Kd.R_far (p:=⟨gb394,0,none⟩) (Kd.R_types HO392.out BK394.out (by decide)) (fun _ hk=>hk.2) (.int .i64 t389)) (fun _ hk=>hk.2) (.slice Ao10 t390.length co10)) (fun _ hk=>trivial)⟩,⟨za5 NB388_394 BK388⟩,⟨by(with_reducible repeat(first|refine qag ?_ _|refine qah ?_|refine qaf ?_ _));refine qan (cs:=#[.int .i64 t389,.slice none 0 0]) ?_ 1 _ rfl;(with_reducible repeat(first|refine qag ?_ _|refine qah ?_|refine qaf ?_ _));refine qan (cs:=#[.int .i64 0,.slice none 0 0]) ?_ 0 _ rfl;(with_reducible repeat(first|refine qag ?_ _|refine qah ?_|refine qaf ?_ _));exact BK394.out⟩,⟨za3 HB GE388 GE394⟩⟩
  case round=>
   clear H'
   try clear c1
   try clear c2
   try clear p2
   try clear c4
   try clear c8
   try clear hcz9_0
   try clear hcz9_1
   try clear hfz9_0
   try clear hfz9_1
   obtain⟨x8_1,x389000_1,x395000_1,x395001_1,u395001,rfl,HA,HK1,HO_395001,BK388,BK394,HB⟩:=hrel
   cases gk with
   |zero=>exact absurd HA.out (by simp[spec_l2Of.l0])
   |succ k1=>
    have H:=HA.out
    clear HA
    simp only[spec_l2Of.l0] at H
    by_cases c11:x8_1<(l1.length:Int)
    ·rw[if_pos c11] at H
     have c11b0:decide (x8_1<(l1.length:Int))=true:=decide_eq_true c11
     clear c11
     by_cases c12:0≤x8_1
     ·rw[if_pos c12] at H
      have c12b0:decide (0≤x8_1)=true:=decide_eq_true c12
      clear c12
      replace H:=Option.bind_eq_some_iff.mp H
      obtain⟨t396,A130,H⟩:=H
      replace H:(if t396=true then((spec_l2May.f k1 x395000_1 x395001_1 ((rd_T62 l1 x8_1).f0) ((rd_T62 l1 x8_1).f1) ((rd_T62 l1 x8_1).f2)).bind fun t398=>(if t398=true then((spec_l2Do.f x395000_1 x395001_1 ((rd_T62 l1 x8_1).f0) ((rd_T62 l1 x8_1).f1) ((rd_T62 l1 x8_1).f2)).bind fun bt400=>(spec_l2Of.l0 k1 l1 (wrap64 (x8_1+1)) bt400.1 bt400.2)) else(some (0,([]:List (S46)),false)))) else(some (0,([]:List (S46)),false)))=some (r1,r2,r3):=H
      have A13:=qal.mk A130
      clear A130
      by_cases c14:t396=true
      ·subst c14
       have H1:((spec_l2May.f k1 x395000_1 x395001_1 ((rd_T62 l1 x8_1).f0) ((rd_T62 l1 x8_1).f1) ((rd_T62 l1 x8_1).f2)).bind fun t398=>(if t398=true then((spec_l2Do.f x395000_1 x395001_1 ((rd_T62 l1 x8_1).f0) ((rd_T62 l1 x8_1).f1) ((rd_T62 l1 x8_1).f2)).bind fun bt400=>(spec_l2Of.l0 k1 l1 (wrap64 (x8_1+1)) bt400.1 bt400.2)) else(some (0,([]:List (S46)),false))))=some (r1,r2,r3):=by rw[if_pos rfl] at H;exact H
       clear H
       have H:=H1
       clear H1
       replace H:=Option.bind_eq_some_iff.mp H
       obtain⟨t398,A150,H⟩:=H
       replace H:(if t398=true then((spec_l2Do.f x395000_1 x395001_1 ((rd_T62 l1 x8_1).f0) ((rd_T62 l1 x8_1).f1) ((rd_T62 l1 x8_1).f2)).bind fun bt400=>(spec_l2Of.l0 k1 l1 (wrap64 (x8_1+1)) bt400.1 bt400.2)) else(some (0,([]:List (S46)),false)))=some (r1,r2,r3):=H
       have A15:=qal.mk A150
       clear A150
       by_cases c16:t398=true
       ·subst c16
        have H1:((spec_l2Do.f x395000_1 x395001_1 ((rd_T62 l1 x8_1).f0) ((rd_T62 l1 x8_1).f1) ((rd_T62 l1 x8_1).f2)).bind fun bt400=>(spec_l2Of.l0 k1 l1 (wrap64 (x8_1+1)) bt400.1 bt400.2))=some (r1,r2,r3):=by rw[if_pos rfl] at H;exact H
        clear H
        have H:=H1
        clear H1
        replace H:=Option.bind_eq_some_iff.mp H
        obtain⟨⟨t400,t401⟩,A170,H⟩:=H
        replace H:(spec_l2Of.l0 k1 l1 (wrap64 (x8_1+1)) t400 t401)=some (r1,r2,r3):=H
        have A17:=qal.mk A170
        clear A170
        have H':=qal.mk H
        clear H
        try go_wp2
        have n0_:=qal.mk (Kd.R_drew HO_395001.out)
        have n1_:=qal.mk (qah BK388.out)
        have n2_:=qal.mk (qah BK394.out)
        have n3_:=qal.mk (qaq HB.out)
        clear HO_395001
        clear BK388
        clear BK394
        clear HB
        have HO_395001:=n0_
        have BK388:=n1_
        have BK394:=n2_
        have HB:=n3_
        clear n0_ n1_ n2_ n3_
        have p395:0≤(x8_1:Int):=of_decide_eq_true (za8)
        have q395:x8_1<(l1.length:Int):=of_decide_eq_true (za8)
        obtain⟨ad395,A395_2,c395_2,e395,hx395_0,hx395_1,hx395_2,hl395_2,hi395_2⟩:=at_T62 HR1.out x8_1 p395 q395
        have hw395_2:=hx395_2
        have hw395_1:=hx395_1
        have hw395_0:=hx395_0
        cases e395
        have hxo395_2:=qal.mk hx395_2
        replace hx395_0:=(HB.out.cell (World.block_lt_of_cell? w _ hx395_0)).trans hx395_0
        replace hx395_1:=(HB.out.cell (World.block_lt_of_cell? w _ hx395_1)).trans hx395_1
        replace hx395_2:=(HB.out.cell (World.block_lt_of_cell? w _ hx395_2)).trans hx395_2
        have HR395_2:=qal.mk hi395_2
        have HC395_2:=qal.mk hl395_2
        clear hi395_2 hl395_2
        replace p395:=eq_true p395
        replace q395:=eq_true q395
        have p397:0≤(x8_1:Int):=of_decide_eq_true (za8)
        have q397:x8_1<(l1.length:Int):=of_decide_eq_true (za8)
        obtain⟨ad397,A397_2,c397_2,e397,hx397_0,hx397_1,hx397_2,hl397_2,hi397_2⟩:=at_T62 HR1.out x8_1 p397 q397
        have hw397_2:=hx397_2
        have hw397_1:=hx397_1
        have hw397_0:=hx397_0
        obtain rfl:ad395=ad397:=(by injection e397)
        have ea_:=Option.some.inj (hxo395_2.out.symm.trans hx397_2)
        injection ea_ with ea_ en_ ec_
        subst ea_
        subst ec_
        clear en_
        replace hx397_0:=(HB.out.cell (World.block_lt_of_cell? w _ hx397_0)).trans hx397_0
        replace hx397_1:=(HB.out.cell (World.block_lt_of_cell? w _ hx397_1)).trans hx397_1
        replace hx397_2:=(HB.out.cell (World.block_lt_of_cell? w _ hx397_2)).trans hx397_2
        have HR397_2:=qal.mk hi397_2
        have HC397_2:=qal.mk hl397_2
        clear hi397_2 hl397_2
        replace p397:=eq_true p397
        replace q397:=eq_true q397
        refine start_ (n:=15) (S:=fun w'=>w'.cell? ⟨gb394,0,none⟩=some (.int .i64 x395000_1)∧w'.cell? ⟨gb394,1,none⟩=some (u395001)∧w'.cell? (ad395.add ((x8_1).toNat*3))=some (.int .i64 ((rd_T62 l1 x8_1).f0))∧w'.cell? ⟨(ad395.add ((x8_1).toNat*3)).block,(ad395.add ((x8_1).toNat*3)).off+1,none⟩=some (.int .i64 ((rd_T62 l1 x8_1).f1))∧w'.cell? ⟨(ad395.add ((x8_1).toNat*3)).block,(ad395.add ((x8_1).toNat*3)).off+2,none⟩=some (.slice A395_2 ((rd_T62 l1 x8_1).f2).length c395_2)∧w'.cell? (ad395.add ((x8_1).toNat*3))=some (.int .i64 ((rd_T62 l1 x8_1).f0))∧w'.cell? ⟨(ad395.add ((x8_1).toNat*3)).block,(ad395.add ((x8_1).toNat*3)).off+1,none⟩=some (.int .i64 ((rd_T62 l1 x8_1).f1))∧w'.cell? ⟨(ad395.add ((x8_1).toNat*3)).block,(ad395.add ((x8_1).toNat*3)).off+2,none⟩=some (.slice A395_2 ((rd_T62 l1 x8_1).f2).length c395_2)) (ds:=[]) #[false,false,false,false,false,false,false,false,false,false,false,false,false,false,false] (by kernel_rfl) rfl rfl ⟨(qab BK394.out 0).trans rfl,(qab BK394.out 1).trans rfl,((HB.out.cell (World.block_lt_of_cell? w _ hw395_0)).trans hw395_0),((HB.out.cell (World.block_lt_of_cell? w _ hw395_1)).trans hw395_1),((HB.out.cell (World.block_lt_of_cell? w _ hw395_2)).trans hw395_2),((HB.out.cell (World.block_lt_of_cell? w _ hw397_0)).trans hw397_0),((HB.out.cell (World.block_lt_of_cell? w _ hw397_1)).trans hw397_1),((HB.out.cell (World.block_lt_of_cell? w _ hw397_2)).trans hw397_2)⟩ (fun hHeld=>?_);refine with_tabW spec_l2Of.tab7 spec_l2Of.bits7 (fun HT_ HW_=>?_)
        generalize wr.drew=w18 at HO_395001 BK388 BK394 HB HR395_2 HR397_2 hx395_0 hx395_1 hx395_2 hx397_0 hx397_1 hx397_2 hHeld ⊢
        refine qaz (i:=0) (N:=some 23) (v:=?_) (a':=?_) #[true,false,false,false,false,false,false,false,false,false,false,false,false,false,false] rfl rfl (qax HT_.out (by kernel_rfl)) (fun _ _ _ h=>h) (Or.inl ⟨by rfl,?_⟩) ?_ ?_
        rotate_left
        ·intro w'
         go_simp
         with_reducible rfl
        rotate_left
        ·simp only[Act.put,List.setIfInBounds_toArray,List.set_cons_zero,List.set_cons_succ,qas,qat]
         rfl
        refine qaz (i:=1) (N:=some 24) (v:=?_) (a':=?_) #[true,true,false,false,false,false,false,false,false,false,false,false,false,false,false] rfl rfl (qax HT_.out (by kernel_rfl)) (fun _ _ _ h=>h) (Or.inl ⟨by rfl,?_⟩) ?_ ?_
        rotate_left
        ·intro w'
         go_simp
         with_reducible rfl
        rotate_left
        ·simp only[Act.put,List.setIfInBounds_toArray,List.set_cons_zero,List.set_cons_succ,qas,qat]
         rfl
        refine qaz (i:=2) (N:=some 25) (v:=?_) (a':=?_) #[true,true,true,false,false,false,false,false,false,false,false,false,false,false,false] rfl rfl (qax HT_.out (by kernel_rfl)) (fun _ _ _ h=>h) (Or.inl ⟨by rfl,?_⟩) ?_ ?_
        rotate_left
        ·intro w'
         go_simp
         with_reducible rfl
        rotate_left
        ·simp only[Act.put,List.setIfInBounds_toArray,List.set_cons_zero,List.set_cons_succ,qas,qat]
         rfl
        refine take_ (i:=3) (N:=some 26) (v:=?_) (a':=?_) #[true,true,true,true,false,false,false,false,false,false,false,false,false,false,false] rfl rfl (take_ofW HT_.out HW_.out (by kernel_rfl)) (fun _ _ _ h=>h) (Or.inl ⟨by rfl,?_⟩) hHeld ?_ ?_
        rotate_left
        ·rintro w' ⟨s0,s1,s2,s3,s4,s5,s6,s7⟩
         go_simp
         with_reducible rfl
        rotate_left
        ·simp only[Act.put,List.setIfInBounds_toArray,List.set_cons_zero,List.set_cons_succ,qas,qat]
         rfl
        refine one_ (i:=4) (N:=some 27) #[true,true,true,true,true,false,false,false,false,false,false,false,false,false,false] rfl rfl (one_of HT_.out (by kernel_rfl)) (by decide) (fun K hK=>?_)
        refine goes_ Try.func44 (by kernel_rfl) rfl #[.agg #[.int .i64 ((rd_T62 l1 x8_1).f0),.int .i64 ((rd_T62 l1 x8_1).f1),.slice A395_2 ((rd_T62 l1 x8_1).f2).length c395_2]] (by rfl) rfl rfl (by(try simp only[List.map_toArray,List.map_cons,List.map_nil]);first|done|rfl|(simp only[List.length_drop,List.length_take];rfl)) ?_
        with_reducible refine(spec_RecOk.calls k1 ((rd_T62 l1 x8_1).f0) ((rd_T62 l1 x8_1).f1) _ _ ((rd_T62 l1 x8_1).f2) true _ ?side1 ?side2 A13.out).mono ?_
        (case side1=>repeat(first|exact(Kd.C_below HR395_2.out HB.out)|(with_reducible refine Kd.C_alloc ?_ _)|(with_reducible refine Kd.C_drewN ?_ _)|(with_reducible refine Kd.C_drew ?_)))
        (case side2=>exact HC395_2.out)
        rintro e w19 ⟨rfl,hb⟩
        refine⟨_,rfl,?_⟩
        have n0_:=qal.mk (Kd.R_below (za4 HO_395001) hb)
        have n1_:=qal.mk (qac (g:=gb388) (o:=.cells #[.int .i64 x389000_1,.slice none 0 0] 36 (0,0)) (za0 BK388) hb)
        have n2_:=qal.mk (qac (g:=gb394) (o:=.cells #[.int .i64 x395000_1,u395001] 36 (0,0)) (za0 BK394) hb)
        have n3_:=qal.mk (qae (za3 HB GE388 GE394) hb)
        clear HO_395001
        clear BK388
        clear BK394
        clear HB
        have HO_395001:=n0_
        have BK388:=n1_
        have BK394:=n2_
        have HB:=n3_
        clear n0_ n1_ n2_ n3_
        (try clear hb)
        (try clear hb2)
        (try clear hk)
        (try clear hi)
        obtain⟨Ao20,co20,eo20⟩:=Kd.R_slice HO_395001.out
        (first|subst eo20|(injection eo20 with f1_ f2_ f3_;have f4_:=f1_.symm;have f5_:=f3_.symm;clear f1_ f2_ f3_;subst f4_;subst f5_))
        refine hK.out _ _ ⟨(qab BK394.out 0).trans rfl,(qab BK394.out 1).trans rfl,((HB.out.cell (World.block_lt_of_cell? w _ hw395_0)).trans hw395_0),((HB.out.cell (World.block_lt_of_cell? w _ hw395_1)).trans hw395_1),((HB.out.cell (World.block_lt_of_cell? w _ hw395_2)).trans hw395_2),((HB.out.cell (World.block_lt_of_cell? w _ hw397_0)).trans hw397_0),((HB.out.cell (World.block_lt_of_cell? w _ hw397_1)).trans hw397_1),((HB.out.cell (World.block_lt_of_cell? w _ hw397_2)).trans hw397_2)⟩ (fun hHeld=>?_)
        clear hK K
        refine norm_ (a':=?_) ?_ ?_
        rotate_left
        ·show Act.put _ (some 27) _=_
         simp only[Act.put,List.setIfInBounds_toArray,List.set_cons_zero,List.set_cons_succ,qas,qat]
         rfl
        refine qaz (i:=5) (N:=some 28) (v:=?_) (a':=?_) #[true,true,true,true,true,true,false,false,false,false,false,false,false,false,false] rfl rfl (qax HT_.out (by kernel_rfl)) (fun _ _ _ h=>h) (Or.inl ⟨by rfl,?_⟩) ?_ ?_
        rotate_left
        ·intro w'
         go_simp
         with_reducible rfl
        rotate_left
        ·simp only[Act.put,List.setIfInBounds_toArray,List.set_cons_zero,List.set_cons_succ,qas,qat]
         rfl
        refine qaz (i:=6) (N:=some 29) (v:=?_) (a':=?_) #[true,true,true,true,true,true,true,false,false,false,false,false,false,false,false] rfl rfl (qax HT_.out (by kernel_rfl)) (fun _ _ _ h=>h) (Or.inl ⟨by rfl,?_⟩) ?_ ?_
        rotate_left
        ·intro w'
         go_simp
         with_reducible rfl
        rotate_left
        ·simp only[Act.put,List.setIfInBounds_toArray,List.set_cons_zero,List.set_cons_succ,qas,qat]
         rfl
        refine qaz (i:=8) (N:=some 31) (v:=?_) (a':=?_) #[true,true,true,true,true,true,true,false,true,false,false,false,false,false,false] rfl rfl (qax HT_.out (by kernel_rfl)) (fun _ _ _ h=>h) (Or.inl ⟨by rfl,?_⟩) ?_ ?_
        rotate_left
        ·intro w'
         go_simp
         with_reducible rfl
        rotate_left
        ·simp only[Act.put,List.setIfInBounds_toArray,List.set_cons_zero,List.set_cons_succ,qas,qat]
         rfl
        refine qaz (i:=9) (N:=some 32) (v:=?_) (a':=?_) #[true,true,true,true,true,true,true,false,true,true,false,false,false,false,false] rfl rfl (qax HT_.out (by kernel_rfl)) (fun _ _ _ h=>h) (Or.inl ⟨by rfl,?_⟩) ?_ ?_
        rotate_left
        ·intro w'
         go_simp
         with_reducible rfl
        rotate_left
        ·simp only[Act.put,List.setIfInBounds_toArray,List.set_cons_zero,List.set_cons_succ,qas,qat]
         rfl
        refine qaz (i:=10) (N:=some 33) (v:=?_) (a':=?_) #[true,true,true,true,true,true,true,false,true,true,true,false,false,false,false] rfl rfl (qax HT_.out (by kernel_rfl)) (fun _ _ _ h=>h) (Or.inl ⟨by rfl,?_⟩) ?_ ?_
        rotate_left
        ·intro w'
         go_simp
         with_reducible rfl
        rotate_left
        ·simp only[Act.put,List.setIfInBounds_toArray,List.set_cons_zero,List.set_cons_succ,qas,qat]
         rfl
        refine take_ (i:=7) (N:=some 30) (v:=?_) (a':=?_) #[true,true,true,true,true,true,true,true,true,true,true,false,false,false,false] rfl rfl (take_ofW HT_.out HW_.out (by kernel_rfl)) (fun _ _ _ h=>h) (Or.inl ⟨by rfl,?_⟩) hHeld ?_ ?_
        rotate_left
        ·rintro w' ⟨s0,s1,s2,s3,s4,s5,s6,s7⟩
         go_simp
         with_reducible rfl
        rotate_left
        ·simp only[Act.put,List.setIfInBounds_toArray,List.set_cons_zero,List.set_cons_succ,qas,qat]
         rfl
        refine take_ (i:=11) (N:=some 34) (v:=?_) (a':=?_) #[true,true,true,true,true,true,true,true,true,true,true,true,false,false,false] rfl rfl (take_ofW HT_.out HW_.out (by kernel_rfl)) (fun _ _ _ h=>h) (Or.inl ⟨by rfl,?_⟩) hHeld ?_ ?_
        rotate_left
        ·rintro w' ⟨s0,s1,s2,s3,s4,s5,s6,s7⟩
         go_simp
         with_reducible rfl
        rotate_left
        ·simp only[Act.put,List.setIfInBounds_toArray,List.set_cons_zero,List.set_cons_succ,qas,qat]
         rfl
        refine one_ (i:=12) (N:=some 35) #[true,true,true,true,true,true,true,true,true,true,true,true,true,false,false] rfl rfl (one_of HT_.out (by kernel_rfl)) (by decide) (fun K hK=>?_)
        refine goes_ Try.func79 (by kernel_rfl) rfl #[.agg #[.int .i64 x395000_1,.slice Ao20 x395001_1.length co20],.agg #[.int .i64 ((rd_T62 l1 x8_1).f0),.int .i64 ((rd_T62 l1 x8_1).f1),.slice A395_2 ((rd_T62 l1 x8_1).f2).length c395_2]] (by rfl) rfl rfl (by(try simp only[List.map_toArray,List.map_cons,List.map_nil]);first|done|rfl|(simp only[List.length_drop,List.length_take];rfl)) ?_
        with_reducible refine(spec_l2May.calls k1 x395000_1 _ _ x395001_1 ((rd_T62 l1 x8_1).f0) ((rd_T62 l1 x8_1).f1) _ _ ((rd_T62 l1 x8_1).f2) true _ ?side1 ?side2 ?side3 ?side4 A15.out).mono ?_
        (case side1=>repeat(first|exact(Kd.R_reads' HO_395001.out).2.2|(with_reducible refine Kd.C_alloc ?_ _)|(with_reducible refine Kd.C_drewN ?_ _)|(with_reducible refine Kd.C_drew ?_)))
        (case side2=>exact(Kd.R_reads' HO_395001.out).2.1)
        (case side3=>repeat(first|exact(Kd.C_below HR397_2.out HB.out)|(with_reducible refine Kd.C_alloc ?_ _)|(with_reducible refine Kd.C_drewN ?_ _)|(with_reducible refine Kd.C_drew ?_)))
        (case side4=>exact HC397_2.out)
        rintro e w21 ⟨rfl,hb⟩
        refine⟨_,rfl,?_⟩
        have n0_:=qal.mk (Kd.R_below (za4 HO_395001) hb)
        have n1_:=qal.mk (qac (g:=gb388) (o:=.cells #[.int .i64 x389000_1,.slice none 0 0] 36 (0,0)) (za0 BK388) hb)
        have n2_:=qal.mk (qac (g:=gb394) (o:=.cells #[.int .i64 x395000_1,.slice Ao20 x395001_1.length co20] 36 (0,0)) (za0 BK394) hb)
        have n3_:=qal.mk (qae (za3 HB GE388 GE394) hb)
        clear HO_395001
        clear BK388
        clear BK394
        clear HB
        have HO_395001:=n0_
        have BK388:=n1_
        have BK394:=n2_
        have HB:=n3_
        clear n0_ n1_ n2_ n3_
        (try clear hb)
        (try clear hb2)
        (try clear hk)
        (try clear hi)
        refine hK.out _ _ ⟨(qab BK394.out 0).trans rfl,(qab BK394.out 1).trans rfl,((HB.out.cell (World.block_lt_of_cell? w _ hw395_0)).trans hw395_0),((HB.out.cell (World.block_lt_of_cell? w _ hw395_1)).trans hw395_1),((HB.out.cell (World.block_lt_of_cell? w _ hw395_2)).trans hw395_2),((HB.out.cell (World.block_lt_of_cell? w _ hw397_0)).trans hw397_0),((HB.out.cell (World.block_lt_of_cell? w _ hw397_1)).trans hw397_1),((HB.out.cell (World.block_lt_of_cell? w _ hw397_2)).trans hw397_2)⟩ (fun hHeld=>?_)
        clear hK K
        refine norm_ (a':=?_) ?_ ?_
        rotate_left
        ·show Act.put _ (some 35) _=_
         simp only[Act.put,List.setIfInBounds_toArray,List.set_cons_zero,List.set_cons_succ,qas,qat]
         rfl
        refine qaz (i:=13) (N:=some 36) (v:=?_) (a':=?_) #[true,true,true,true,true,true,true,true,true,true,true,true,true,true,false] rfl rfl (qax HT_.out (by kernel_rfl)) (fun _ _ _ h=>h) (Or.inl ⟨by rfl,?_⟩) ?_ ?_
        rotate_left
        ·intro w'
         go_simp
         with_reducible rfl
        rotate_left
        ·simp only[Act.put,List.setIfInBounds_toArray,List.set_cons_zero,List.set_cons_succ,qas,qat]
         rfl
        refine qaz (i:=14) (N:=some 37) (v:=?_) (a':=?_) #[true,true,true,true,true,true,true,true,true,true,true,true,true,true,true] rfl rfl (qax HT_.out (by kernel_rfl)) (fun _ _ _ h=>h) (Or.inl ⟨by rfl,?_⟩) ?_ ?_
        rotate_left
        ·intro w'
         go_simp
         with_reducible rfl
        rotate_left
        ·simp only[Act.put,List.setIfInBounds_toArray,List.set_cons_zero,List.set_cons_succ,qas,qat]
         rfl
        refine done_ (done_of HT_.out (by kernel_rfl)) ?_
        try go_wp2
        have n0_:=qal.mk (Kd.R_drew HO_395001.out)
        have n1_:=qal.mk (qah BK388.out)
        have n2_:=qal.mk (qah BK394.out)
        have n3_:=qal.mk (qaq HB.out)
        clear HO_395001
        clear BK388
        clear BK394
        clear HB
        have HO_395001:=n0_
        have BK388:=n1_
        have BK394:=n2_
        have HB:=n3_
        clear n0_ n1_ n2_ n3_
        have p399:0≤(x8_1:Int):=of_decide_eq_true (za8)
        have q399:x8_1<(l1.length:Int):=of_decide_eq_true (za8)
        obtain⟨ad399,A399_2,c399_2,e399,hx399_0,hx399_1,hx399_2,hl399_2,hi399_2⟩:=at_T62 HR1.out x8_1 p399 q399
        have hw399_2:=hx399_2
        have hw399_1:=hx399_1
        have hw399_0:=hx399_0
        obtain rfl:ad395=ad399:=(by injection e399)
        have ea_:=Option.some.inj (hxo395_2.out.symm.trans hx399_2)
        injection ea_ with ea_ en_ ec_
        subst ea_
        subst ec_
        clear en_
        replace hx399_0:=(HB.out.cell (World.block_lt_of_cell? w _ hx399_0)).trans hx399_0
        replace hx399_1:=(HB.out.cell (World.block_lt_of_cell? w _ hx399_1)).trans hx399_1
        replace hx399_2:=(HB.out.cell (World.block_lt_of_cell? w _ hx399_2)).trans hx399_2
        have HR399_2:=qal.mk hi399_2
        have HC399_2:=qal.mk hl399_2
        clear hi399_2 hl399_2
        replace p399:=eq_true p399
        replace q399:=eq_true q399
        refine start_ (n:=7) (S:=fun w'=>w'.cell? ⟨gb394,0,none⟩=some (.int .i64 x395000_1)∧w'.cell? ⟨gb394,1,none⟩=some (.slice Ao20 x395001_1.length co20)∧w'.cell? (ad395.add ((x8_1).toNat*3))=some (.int .i64 ((rd_T62 l1 x8_1).f0))∧w'.cell? ⟨(ad395.add ((x8_1).toNat*3)).block,(ad395.add ((x8_1).toNat*3)).off+1,none⟩=some (.int .i64 ((rd_T62 l1 x8_1).f1))∧w'.cell? ⟨(ad395.add ((x8_1).toNat*3)).block,(ad395.add ((x8_1).toNat*3)).off+2,none⟩=some (.slice A395_2 ((rd_T62 l1 x8_1).f2).length c395_2)) (ds:=[6]) #[false,false,false,false,false,false,false] (by kernel_rfl) rfl rfl ⟨(qab BK394.out 0).trans rfl,(qab BK394.out 1).trans rfl,((HB.out.cell (World.block_lt_of_cell? w _ hw399_0)).trans hw399_0),((HB.out.cell (World.block_lt_of_cell? w _ hw399_1)).trans hw399_1),((HB.out.cell (World.block_lt_of_cell? w _ hw399_2)).trans hw399_2)⟩ (fun hHeld=>?_)
        generalize w21.drew=w22 at HO_395001 BK388 BK394 HB HR399_2 hx399_0 hx399_1 hx399_2 hHeld ⊢
        refine qaz (i:=1) (N:=some 40) (v:=?_) (a':=?_) #[false,true,false,false,false,false,false] rfl rfl (by kernel_rfl) (fun _ _ _ h=>h) (Or.inl ⟨by rfl,?_⟩) ?_ ?_
        rotate_left
        ·intro w'
         go_simp
         with_reducible rfl
        rotate_left
        ·simp only[Act.put,List.setIfInBounds_toArray,List.set_cons_zero,List.set_cons_succ,qas,qat]
         rfl
        refine qaz (i:=2) (N:=some 41) (v:=?_) (a':=?_) #[false,true,true,false,false,false,false] rfl rfl (by kernel_rfl) (fun _ _ _ h=>h) (Or.inl ⟨by rfl,?_⟩) ?_ ?_
        rotate_left
        ·intro w'
         go_simp
         with_reducible rfl
        rotate_left
        ·simp only[Act.put,List.setIfInBounds_toArray,List.set_cons_zero,List.set_cons_succ,qas,qat]
         rfl
        refine qaz (i:=3) (N:=some 42) (v:=?_) (a':=?_) #[false,true,true,true,false,false,false] rfl rfl (by kernel_rfl) (fun _ _ _ h=>h) (Or.inl ⟨by rfl,?_⟩) ?_ ?_
        rotate_left
        ·intro w'
         go_simp
         with_reducible rfl
        rotate_left
        ·simp only[Act.put,List.setIfInBounds_toArray,List.set_cons_zero,List.set_cons_succ,qas,qat]
         rfl
        refine take_ (i:=0) (N:=some 39) (v:=?_) (a':=?_) #[true,true,true,true,false,false,false] rfl rfl (by kernel_rfl) (fun _ _ _ h=>h) (Or.inl ⟨by rfl,?_⟩) hHeld ?_ ?_
        rotate_left
        ·rintro w' ⟨s0,s1,s2,s3,s4⟩
         go_simp
         with_reducible rfl
        rotate_left
        ·simp only[Act.put,List.setIfInBounds_toArray,List.set_cons_zero,List.set_cons_succ,qas,qat]
         rfl
        refine take_ (i:=4) (N:=some 43) (v:=?_) (a':=?_) #[true,true,true,true,true,false,false] rfl rfl (by kernel_rfl) (fun _ _ _ h=>h) (Or.inl ⟨by rfl,?_⟩) hHeld ?_ ?_
        rotate_left
        ·rintro w' ⟨s0,s1,s2,s3,s4⟩
         go_simp
         with_reducible rfl
        rotate_left
        ·simp only[Act.put,List.setIfInBounds_toArray,List.set_cons_zero,List.set_cons_succ,qas,qat]
         rfl
        refine one_ (i:=5) (N:=some 44) #[true,true,true,true,true,true,false] rfl rfl (by kernel_rfl) (by decide) (fun K hK=>?_)
        refine goes_ Try.func130 (by kernel_rfl) rfl #[.agg #[.int .i64 x395000_1,.slice Ao20 x395001_1.length co20],.agg #[.int .i64 ((rd_T62 l1 x8_1).f0),.int .i64 ((rd_T62 l1 x8_1).f1),.slice A395_2 ((rd_T62 l1 x8_1).f2).length c395_2]] (by rfl) rfl rfl (by(try simp only[List.map_toArray,List.map_cons,List.map_nil]);first|done|rfl|(simp only[List.length_drop,List.length_take];rfl)) ?_
        with_reducible refine(spec_l2Do.calls x395000_1 (fun k_=>some k_=(.slice Ao20 x395001_1.length co20:Value).ownBlock) (.slice Ao20 x395001_1.length co20) x395001_1 ((rd_T62 l1 x8_1).f0) ((rd_T62 l1 x8_1).f1) _ _ ((rd_T62 l1 x8_1).f2) t400 t401 w _ ?side1 ?side2 ?side3 ?side4 A17.out).mono ?_
        (case side1=>repeat(first|(with_reducible first|exact HB.out|apply qar|apply qap|apply qaq|refine qam ?_ GE388.out|refine qam ?_ GE394.out)|exact HB.out))
        (case side2=>exact Kd.R_tight rfl HO_395001.out)
        (case side3=>exact Kd.C_kept_came (Kd.heap_int .i64) HR399_2.out (za3 HB GE388 GE394) (fun k_ hs_=>(fun e_=>Kd.R_base HO_395001.out k_ e_.symm) hs_))
        (case side4=>exact HC399_2.out)
        rintro e w23 ⟨v402,rfl,ho0,hb,hkp⟩
        refine⟨_,rfl,?_⟩
        have n0_:=qal.mk (blk_kept (za0 BK388) hkp (fun hs_=>(fun e_=>(Kd.R_ne HO_395001.out BK388.out (by decide)) e_) hs_))
        have n1_:=qal.mk (blk_kept (za0 BK394) hkp (fun hs_=>(fun e_=>(Kd.R_ne HO_395001.out BK394.out (by decide)) e_) hs_))
        have n2_:=qal.mk (Kd.R_mono (ok':=fun k_=>True) ho0 (fun k_ hk_=>trivial))
        have n3_:=qal.mk (hb)
        clear BK388
        clear BK394
        clear HB
        clear HO_395001
        have BK388:=n0_
        have BK394:=n1_
        have HO403:=n2_
        have HB:=n3_
        clear n0_ n1_ n2_ n3_
        (try clear hb)
        (try clear hkp)
        (try clear ho0)
        obtain⟨Ao25,co25,eo25⟩:=Kd.R_slice HO403.out
        (first|subst eo25|(injection eo25 with f1_ f2_ f3_;have f4_:=f1_.symm;have f5_:=f3_.symm;clear f1_ f2_ f3_;subst f4_;subst f5_))
        refine hK.out _ _ ⟨(qab BK394.out 0).trans rfl,(qab BK394.out 1).trans rfl,((HB.out.cell (World.block_lt_of_cell? w _ hw399_0)).trans hw399_0),((HB.out.cell (World.block_lt_of_cell? w _ hw399_1)).trans hw399_1),((HB.out.cell (World.block_lt_of_cell? w _ hw399_2)).trans hw399_2)⟩ (fun hHeld=>?_)
        clear hK K
        refine norm_ (a':=?_) ?_ ?_
        rotate_left
        ·show Act.put _ (some 44) _=_
         simp only[Act.put,List.setIfInBounds_toArray,List.set_cons_zero,List.set_cons_succ,qas,qat]
         rfl
        refine last_ (i:=6) (N:=none) #[true,true,true,true,true,true,true] rfl rfl (by kernel_rfl) (by decide) (fun K hK=>?_)
        have hs24:w23.cell? ⟨gb394,0,none⟩=some (.int .i64 x395000_1):=(qab BK394.out 0).trans rfl
        have hfs24:=qaa BK394.out 0
        have hns24_0:=NB388_394.out
        have hms24_0:=NB394_388.out
        have hs26:w23.cell? ⟨gb394,1,none⟩=some (.slice Ao20 x395001_1.length co20):=(qab BK394.out 1).trans rfl
        have hfs26:=qaa BK394.out 1
        have hns26_0:=NB388_394.out
        have hms26_0:=NB394_388.out
        refine skip_ (w1:=?_) (by rfl) rfl ?_ ?_
        rotate_left
        ·go_simp
         rfl
        refine hK.out _ _ ?_
        clear hK K
        refine done_ (by kernel_rfl) ?_
        try go_wp2
        go_roundg k1
        case measure=>have:=HK1.out;omega
        case rel=>exact⟨(wrap64 (x8_1+1)),(x389000_1),(t400),(t401),(.slice Ao25 t401.length co25),(za22),H',⟨by have:=HK1.out;omega⟩,⟨by(with_reducible repeat(first|apply Kd.R_alloc|apply Kd.R_drewN|apply Kd.R_drew));exact Kd.R_mono (Kd.R_far (p:=⟨gb394,1,none⟩) (Kd.R_far (p:=⟨gb394,0,none⟩) (Kd.R_types HO403.out BK394.out (by decide)) (fun _ hk=>hk.2) (.int .i64 t400)) (fun _ hk=>hk.2) (.slice Ao25 t401.length co25)) (fun _ hk=>trivial)⟩,⟨za5 NB388_394 BK388⟩,⟨by(with_reducible repeat(first|refine qag ?_ _|refine qah ?_|refine qaf ?_ _));refine qan (cs:=#[.int .i64 t400,.slice Ao20 x395001_1.length co20]) ?_ 1 _ rfl;(with_reducible repeat(first|refine qag ?_ _|refine qah ?_|refine qaf ?_ _));refine qan (cs:=#[.int .i64 x395000_1,.slice Ao20 x395001_1.length co20]) ?_ 0 _ rfl;(with_reducible repeat(first|refine qag ?_ _|refine qah ?_|refine qaf ?_ _));exact BK394.out⟩,⟨za3 HB GE388 GE394⟩⟩
       ·replace c16:=Bool.eq_false_iff.mpr c16
        subst c16
        have H1:(some (0,([]:List (S46)),false))=some (r1,r2,r3):=by rw[if_neg (show ¬(false=true) by decide)] at H;exact H
        clear H
        have H:=H1
        clear H1
        simp only[Option.some.injEq,Prod.mk.injEq] at H
        obtain⟨rfl,rfl,rfl⟩:=H
        try go_wp2
        have n0_:=qal.mk (Kd.R_drew HO_395001.out)
        have n1_:=qal.mk (qah BK388.out)
        have n2_:=qal.mk (qah BK394.out)
        have n3_:=qal.mk (qaq HB.out)
        clear HO_395001
        clear BK388
        clear BK394
        clear HB
        have HO_395001:=n0_
        have BK388:=n1_
        have BK394:=n2_
        have HB:=n3_
        clear n0_ n1_ n2_ n3_
        have p395:0≤(x8_1:Int):=of_decide_eq_true (za8)
        have q395:x8_1<(l1.length:Int):=of_decide_eq_true (za8)
        obtain⟨ad395,A395_2,c395_2,e395,hx395_0,hx395_1,hx395_2,hl395_2,hi395_2⟩:=at_T62 HR1.out x8_1 p395 q395
        have hw395_2:=hx395_2
        have hw395_1:=hx395_1
        have hw395_0:=hx395_0
        cases e395
        have hxo395_2:=qal.mk hx395_2
        replace hx395_0:=(HB.out.cell (World.block_lt_of_cell? w _ hx395_0)).trans hx395_0
        replace hx395_1:=(HB.out.cell (World.block_lt_of_cell? w _ hx395_1)).trans hx395_1
        replace hx395_2:=(HB.out.cell (World.block_lt_of_cell? w _ hx395_2)).trans hx395_2
        have HR395_2:=qal.mk hi395_2
        have HC395_2:=qal.mk hl395_2
        clear hi395_2 hl395_2
        replace p395:=eq_true p395
        replace q395:=eq_true q395
        have p397:0≤(x8_1:Int):=of_decide_eq_true (za8)
        have q397:x8_1<(l1.length:Int):=of_decide_eq_true (za8)
        obtain⟨ad397,A397_2,c397_2,e397,hx397_0,hx397_1,hx397_2,hl397_2,hi397_2⟩:=at_T62 HR1.out x8_1 p397 q397
        have hw397_2:=hx397_2
        have hw397_1:=hx397_1
        have hw397_0:=hx397_0
        obtain rfl:ad395=ad397:=(by injection e397)
        have ea_:=Option.some.inj (hxo395_2.out.symm.trans hx397_2)
        injection ea_ with ea_ en_ ec_
        subst ea_
        subst ec_
        clear en_
        replace hx397_0:=(HB.out.cell (World.block_lt_of_cell? w _ hx397_0)).trans hx397_0
        replace hx397_1:=(HB.out.cell (World.block_lt_of_cell? w _ hx397_1)).trans hx397_1
        replace hx397_2:=(HB.out.cell (World.block_lt_of_cell? w _ hx397_2)).trans hx397_2
        have HR397_2:=qal.mk hi397_2
        have HC397_2:=qal.mk hl397_2
        clear hi397_2 hl397_2
        replace p397:=eq_true p397
        replace q397:=eq_true q397
        refine start_ (n:=15) (S:=fun w'=>w'.cell? ⟨gb394,0,none⟩=some (.int .i64 x395000_1)∧w'.cell? ⟨gb394,1,none⟩=some (u395001)∧w'.cell? (ad395.add ((x8_1).toNat*3))=some (.int .i64 ((rd_T62 l1 x8_1).f0))∧w'.cell? ⟨(ad395.add ((x8_1).toNat*3)).block,(ad395.add ((x8_1).toNat*3)).off+1,none⟩=some (.int .i64 ((rd_T62 l1 x8_1).f1))∧w'.cell? ⟨(ad395.add ((x8_1).toNat*3)).block,(ad395.add ((x8_1).toNat*3)).off+2,none⟩=some (.slice A395_2 ((rd_T62 l1 x8_1).f2).length c395_2)∧w'.cell? (ad395.add ((x8_1).toNat*3))=some (.int .i64 ((rd_T62 l1 x8_1).f0))∧w'.cell? ⟨(ad395.add ((x8_1).toNat*3)).block,(ad395.add ((x8_1).toNat*3)).off+1,none⟩=some (.int .i64 ((rd_T62 l1 x8_1).f1))∧w'.cell? ⟨(ad395.add ((x8_1).toNat*3)).block,(ad395.add ((x8_1).toNat*3)).off+2,none⟩=some (.slice A395_2 ((rd_T62 l1 x8_1).f2).length c395_2)) (ds:=[]) #[false,false,false,false,false,false,false,false,false,false,false,false,false,false,false] (by kernel_rfl) rfl rfl ⟨(qab BK394.out 0).trans rfl,(qab BK394.out 1).trans rfl,((HB.out.cell (World.block_lt_of_cell? w _ hw395_0)).trans hw395_0),((HB.out.cell (World.block_lt_of_cell? w _ hw395_1)).trans hw395_1),((HB.out.cell (World.block_lt_of_cell? w _ hw395_2)).trans hw395_2),((HB.out.cell (World.block_lt_of_cell? w _ hw397_0)).trans hw397_0),((HB.out.cell (World.block_lt_of_cell? w _ hw397_1)).trans hw397_1),((HB.out.cell (World.block_lt_of_cell? w _ hw397_2)).trans hw397_2)⟩ (fun hHeld=>?_);refine with_tabW spec_l2Of.tab7 spec_l2Of.bits7 (fun HT_ HW_=>?_)
        generalize wr.drew=w27 at HO_395001 BK388 BK394 HB HR395_2 HR397_2 hx395_0 hx395_1 hx395_2 hx397_0 hx397_1 hx397_2 hHeld ⊢
        refine qaz (i:=0) (N:=some 23) (v:=?_) (a':=?_) #[true,false,false,false,false,false,false,false,false,false,false,false,false,false,false] rfl rfl (qax HT_.out (by kernel_rfl)) (fun _ _ _ h=>h) (Or.inl ⟨by rfl,?_⟩) ?_ ?_
        rotate_left
        ·intro w'
         go_simp
         with_reducible rfl
        rotate_left
        ·simp only[Act.put,List.setIfInBounds_toArray,List.set_cons_zero,List.set_cons_succ,qas,qat]
         rfl
        refine qaz (i:=1) (N:=some 24) (v:=?_) (a':=?_) #[true,true,false,false,false,false,false,false,false,false,false,false,false,false,false] rfl rfl (qax HT_.out (by kernel_rfl)) (fun _ _ _ h=>h) (Or.inl ⟨by rfl,?_⟩) ?_ ?_
        rotate_left
        ·intro w'
         go_simp
         with_reducible rfl
        rotate_left
        ·simp only[Act.put,List.setIfInBounds_toArray,List.set_cons_zero,List.set_cons_succ,qas,qat]
         rfl
        refine qaz (i:=2) (N:=some 25) (v:=?_) (a':=?_) #[true,true,true,false,false,false,false,false,false,false,false,false,false,false,false] rfl rfl (qax HT_.out (by kernel_rfl)) (fun _ _ _ h=>h) (Or.inl ⟨by rfl,?_⟩) ?_ ?_
        rotate_left
        ·intro w'
         go_simp
         with_reducible rfl
        rotate_left
        ·simp only[Act.put,List.setIfInBounds_toArray,List.set_cons_zero,List.set_cons_succ,qas,qat]
         rfl
        refine take_ (i:=3) (N:=some 26) (v:=?_) (a':=?_) #[true,true,true,true,false,false,false,false,false,false,false,false,false,false,false] rfl rfl (take_ofW HT_.out HW_.out (by kernel_rfl)) (fun _ _ _ h=>h) (Or.inl ⟨by rfl,?_⟩) hHeld ?_ ?_
        rotate_left
        ·rintro w' ⟨s0,s1,s2,s3,s4,s5,s6,s7⟩
         go_simp
         with_reducible rfl
        rotate_left
        ·simp only[Act.put,List.setIfInBounds_toArray,List.set_cons_zero,List.set_cons_succ,qas,qat]
         rfl
        refine one_ (i:=4) (N:=some 27) #[true,true,true,true,true,false,false,false,false,false,false,false,false,false,false] rfl rfl (one_of HT_.out (by kernel_rfl)) (by decide) (fun K hK=>?_)
        refine goes_ Try.func44 (by kernel_rfl) rfl #[.agg #[.int .i64 ((rd_T62 l1 x8_1).f0),.int .i64 ((rd_T62 l1 x8_1).f1),.slice A395_2 ((rd_T62 l1 x8_1).f2).length c395_2]] (by rfl) rfl rfl (by(try simp only[List.map_toArray,List.map_cons,List.map_nil]);first|done|rfl|(simp only[List.length_drop,List.length_take];rfl)) ?_
        with_reducible refine(spec_RecOk.calls k1 ((rd_T62 l1 x8_1).f0) ((rd_T62 l1 x8_1).f1) _ _ ((rd_T62 l1 x8_1).f2) true _ ?side1 ?side2 A13.out).mono ?_
        (case side1=>repeat(first|exact(Kd.C_below HR395_2.out HB.out)|(with_reducible refine Kd.C_alloc ?_ _)|(with_reducible refine Kd.C_drewN ?_ _)|(with_reducible refine Kd.C_drew ?_)))
        (case side2=>exact HC395_2.out)
        rintro e w28 ⟨rfl,hb⟩
        refine⟨_,rfl,?_⟩
        have n0_:=qal.mk (Kd.R_below (za4 HO_395001) hb)
        have n1_:=qal.mk (qac (g:=gb388) (o:=.cells #[.int .i64 x389000_1,.slice none 0 0] 36 (0,0)) (za0 BK388) hb)
        have n2_:=qal.mk (qac (g:=gb394) (o:=.cells #[.int .i64 x395000_1,u395001] 36 (0,0)) (za0 BK394) hb)
        have n3_:=qal.mk (qae (za3 HB GE388 GE394) hb)
        clear HO_395001
        clear BK388
        clear BK394
        clear HB
        have HO_395001:=n0_
        have BK388:=n1_
        have BK394:=n2_
        have HB:=n3_
        clear n0_ n1_ n2_ n3_
        (try clear hb)
        (try clear hb2)
        (try clear hk)
        (try clear hi)
        obtain⟨Ao29,co29,eo29⟩:=Kd.R_slice HO_395001.out
        (first|subst eo29|(injection eo29 with f1_ f2_ f3_;have f4_:=f1_.symm;have f5_:=f3_.symm;clear f1_ f2_ f3_;subst f4_;subst f5_))
        refine hK.out _ _ ⟨(qab BK394.out 0).trans rfl,(qab BK394.out 1).trans rfl,((HB.out.cell (World.block_lt_of_cell? w _ hw395_0)).trans hw395_0),((HB.out.cell (World.block_lt_of_cell? w _ hw395_1)).trans hw395_1),((HB.out.cell (World.block_lt_of_cell? w _ hw395_2)).trans hw395_2),((HB.out.cell (World.block_lt_of_cell? w _ hw397_0)).trans hw397_0),((HB.out.cell (World.block_lt_of_cell? w _ hw397_1)).trans hw397_1),((HB.out.cell (World.block_lt_of_cell? w _ hw397_2)).trans hw397_2)⟩ (fun hHeld=>?_)
        clear hK K
        refine norm_ (a':=?_) ?_ ?_
        rotate_left
        ·show Act.put _ (some 27) _=_
         simp only[Act.put,List.setIfInBounds_toArray,List.set_cons_zero,List.set_cons_succ,qas,qat]
         rfl
        refine qaz (i:=5) (N:=some 28) (v:=?_) (a':=?_) #[true,true,true,true,true,true,false,false,false,false,false,false,false,false,false] rfl rfl (qax HT_.out (by kernel_rfl)) (fun _ _ _ h=>h) (Or.inl ⟨by rfl,?_⟩) ?_ ?_
        rotate_left
        ·intro w'
         go_simp
         with_reducible rfl
        rotate_left
        ·simp only[Act.put,List.setIfInBounds_toArray,List.set_cons_zero,List.set_cons_succ,qas,qat]
         rfl
        refine qaz (i:=6) (N:=some 29) (v:=?_) (a':=?_) #[true,true,true,true,true,true,true,false,false,false,false,false,false,false,false] rfl rfl (qax HT_.out (by kernel_rfl)) (fun _ _ _ h=>h) (Or.inl ⟨by rfl,?_⟩) ?_ ?_
        rotate_left
        ·intro w'
         go_simp
         with_reducible rfl
        rotate_left
        ·simp only[Act.put,List.setIfInBounds_toArray,List.set_cons_zero,List.set_cons_succ,qas,qat]
         rfl
        refine qaz (i:=8) (N:=some 31) (v:=?_) (a':=?_) #[true,true,true,true,true,true,true,false,true,false,false,false,false,false,false] rfl rfl (qax HT_.out (by kernel_rfl)) (fun _ _ _ h=>h) (Or.inl ⟨by rfl,?_⟩) ?_ ?_
        rotate_left
        ·intro w'
         go_simp
         with_reducible rfl
        rotate_left
        ·simp only[Act.put,List.setIfInBounds_toArray,List.set_cons_zero,List.set_cons_succ,qas,qat]
         rfl
        refine qaz (i:=9) (N:=some 32) (v:=?_) (a':=?_) #[true,true,true,true,true,true,true,false,true,true,false,false,false,false,false] rfl rfl (qax HT_.out (by kernel_rfl)) (fun _ _ _ h=>h) (Or.inl ⟨by rfl,?_⟩) ?_ ?_
        rotate_left
        ·intro w'
         go_simp
         with_reducible rfl
        rotate_left
        ·simp only[Act.put,List.setIfInBounds_toArray,List.set_cons_zero,List.set_cons_succ,qas,qat]
         rfl
        refine qaz (i:=10) (N:=some 33) (v:=?_) (a':=?_) #[true,true,true,true,true,true,true,false,true,true,true,false,false,false,false] rfl rfl (qax HT_.out (by kernel_rfl)) (fun _ _ _ h=>h) (Or.inl ⟨by rfl,?_⟩) ?_ ?_
        rotate_left
        ·intro w'
         go_simp
         with_reducible rfl
        rotate_left
        ·simp only[Act.put,List.setIfInBounds_toArray,List.set_cons_zero,List.set_cons_succ,qas,qat]
         rfl
        refine take_ (i:=7) (N:=some 30) (v:=?_) (a':=?_) #[true,true,true,true,true,true,true,true,true,true,true,false,false,false,false] rfl rfl (take_ofW HT_.out HW_.out (by kernel_rfl)) (fun _ _ _ h=>h) (Or.inl ⟨by rfl,?_⟩) hHeld ?_ ?_
        rotate_left
        ·rintro w' ⟨s0,s1,s2,s3,s4,s5,s6,s7⟩
         go_simp
         with_reducible rfl
        rotate_left
        ·simp only[Act.put,List.setIfInBounds_toArray,List.set_cons_zero,List.set_cons_succ,qas,qat]
         rfl
        refine take_ (i:=11) (N:=some 34) (v:=?_) (a':=?_) #[true,true,true,true,true,true,true,true,true,true,true,true,false,false,false] rfl rfl (take_ofW HT_.out HW_.out (by kernel_rfl)) (fun _ _ _ h=>h) (Or.inl ⟨by rfl,?_⟩) hHeld ?_ ?_
        rotate_left
        ·rintro w' ⟨s0,s1,s2,s3,s4,s5,s6,s7⟩
         go_simp
         with_reducible rfl
        rotate_left
        ·simp only[Act.put,List.setIfInBounds_toArray,List.set_cons_zero,List.set_cons_succ,qas,qat]
         rfl
        refine one_ (i:=12) (N:=some 35) #[true,true,true,true,true,true,true,true,true,true,true,true,true,false,false] rfl rfl (one_of HT_.out (by kernel_rfl)) (by decide) (fun K hK=>?_)
        refine goes_ Try.func79 (by kernel_rfl) rfl #[.agg #[.int .i64 x395000_1,.slice Ao29 x395001_1.length co29],.agg #[.int .i64 ((rd_T62 l1 x8_1).f0),.int .i64 ((rd_T62 l1 x8_1).f1),.slice A395_2 ((rd_T62 l1 x8_1).f2).length c395_2]] (by rfl) rfl rfl (by(try simp only[List.map_toArray,List.map_cons,List.map_nil]);first|done|rfl|(simp only[List.length_drop,List.length_take];rfl)) ?_
        with_reducible refine(spec_l2May.calls k1 x395000_1 _ _ x395001_1 ((rd_T62 l1 x8_1).f0) ((rd_T62 l1 x8_1).f1) _ _ ((rd_T62 l1 x8_1).f2) false _ ?side1 ?side2 ?side3 ?side4 A15.out).mono ?_
        (case side1=>repeat(first|exact(Kd.R_reads' HO_395001.out).2.2|(with_reducible refine Kd.C_alloc ?_ _)|(with_reducible refine Kd.C_drewN ?_ _)|(with_reducible refine Kd.C_drew ?_)))
        (case side2=>exact(Kd.R_reads' HO_395001.out).2.1)
        (case side3=>repeat(first|exact(Kd.C_below HR397_2.out HB.out)|(with_reducible refine Kd.C_alloc ?_ _)|(with_reducible refine Kd.C_drewN ?_ _)|(with_reducible refine Kd.C_drew ?_)))
        (case side4=>exact HC397_2.out)
        rintro e w30 ⟨rfl,hb⟩
        refine⟨_,rfl,?_⟩
        have n0_:=qal.mk (Kd.R_below (za4 HO_395001) hb)
        have n1_:=qal.mk (qac (g:=gb388) (o:=.cells #[.int .i64 x389000_1,.slice none 0 0] 36 (0,0)) (za0 BK388) hb)
        have n2_:=qal.mk (qac (g:=gb394) (o:=.cells #[.int .i64 x395000_1,.slice Ao29 x395001_1.length co29] 36 (0,0)) (za0 BK394) hb)
        have n3_:=qal.mk (qae (za3 HB GE388 GE394) hb)
        clear HO_395001
        clear BK388
        clear BK394
        clear HB
        have HO_395001:=n0_
        have BK388:=n1_
        have BK394:=n2_
        have HB:=n3_
        clear n0_ n1_ n2_ n3_
        (try clear hb)
        (try clear hb2)
        (try clear hk)
        (try clear hi)
        refine hK.out _ _ ⟨(qab BK394.out 0).trans rfl,(qab BK394.out 1).trans rfl,((HB.out.cell (World.block_lt_of_cell? w _ hw395_0)).trans hw395_0),((HB.out.cell (World.block_lt_of_cell? w _ hw395_1)).trans hw395_1),((HB.out.cell (World.block_lt_of_cell? w _ hw395_2)).trans hw395_2),((HB.out.cell (World.block_lt_of_cell? w _ hw397_0)).trans hw397_0),((HB.out.cell (World.block_lt_of_cell? w _ hw397_1)).trans hw397_1),((HB.out.cell (World.block_lt_of_cell? w _ hw397_2)).trans hw397_2)⟩ (fun hHeld=>?_)
        clear hK K
        refine norm_ (a':=?_) ?_ ?_
        rotate_left
        ·show Act.put _ (some 35) _=_
         simp only[Act.put,List.setIfInBounds_toArray,List.set_cons_zero,List.set_cons_succ,qas,qat]
         rfl
        refine qaz (i:=13) (N:=some 36) (v:=?_) (a':=?_) #[true,true,true,true,true,true,true,true,true,true,true,true,true,true,false] rfl rfl (qax HT_.out (by kernel_rfl)) (fun _ _ _ h=>h) (Or.inl ⟨by rfl,?_⟩) ?_ ?_
        rotate_left
        ·intro w'
         go_simp
         with_reducible rfl
        rotate_left
        ·simp only[Act.put,List.setIfInBounds_toArray,List.set_cons_zero,List.set_cons_succ,qas,qat]
         rfl
        refine qaz (i:=14) (N:=some 37) (v:=?_) (a':=?_) #[true,true,true,true,true,true,true,true,true,true,true,true,true,true,true] rfl rfl (qax HT_.out (by kernel_rfl)) (fun _ _ _ h=>h) (Or.inl ⟨by rfl,?_⟩) ?_ ?_
        rotate_left
        ·intro w'
         go_simp
         with_reducible rfl
        rotate_left
        ·simp only[Act.put,List.setIfInBounds_toArray,List.set_cons_zero,List.set_cons_succ,qas,qat]
         rfl
        refine done_ (done_of HT_.out (by kernel_rfl)) ?_
        have hnb31:=NB388_394.out
        have hnc31:=NB394_388.out
        have hcz32_0:w30.cell? ⟨gb388,0,none⟩=some (.int .i64 x389000_1):=(qab BK388.out 0).trans rfl
        have hcz32_1:w30.cell? ⟨gb388,1,none⟩=some (.slice none 0 0):=(qab BK388.out 1).trans rfl
        have hfz32_0:=qaa BK388.out 0
        have hfz32_1:=qaa BK388.out 1
        try go_wp2
        refine bodyPost_ret (results_ct rfl _ _ gb388 36 #[.int .i64 0,.slice none 0 0] (0,0) _ rfl (by(with_reducible repeat(first|refine qag ?_ _|refine qah ?_|refine qaf ?_ _));refine qan (cs:=#[.int .i64 0,.slice none 0 0]) ?_ 1 _ rfl;(with_reducible repeat(first|refine qag ?_ _|refine qah ?_|refine qaf ?_ _));refine qan (cs:=#[.int .i64 x389000_1,.slice none 0 0]) ?_ 0 _ rfl;(with_reducible repeat(first|refine qag ?_ _|refine qah ?_|refine qaf ?_ _));exact BK388.out) Try.underlying36 rfl (by kernel_rfl)) rfl ?_
        exact⟨_,za9,za47,za3 HB GE388 GE394⟩
      ·replace c14:=Bool.eq_false_iff.mpr c14
       subst c14
       have H1:(some (0,([]:List (S46)),false))=some (r1,r2,r3):=by rw[if_neg (show ¬(false=true) by decide)] at H;exact H
       clear H
       have H:=H1
       clear H1
       simp only[Option.some.injEq,Prod.mk.injEq] at H
       obtain⟨rfl,rfl,rfl⟩:=H
       try go_wp2
       have n0_:=qal.mk (Kd.R_drew HO_395001.out)
       have n1_:=qal.mk (qah BK388.out)
       have n2_:=qal.mk (qah BK394.out)
       have n3_:=qal.mk (qaq HB.out)
       clear HO_395001
       clear BK388
       clear BK394
       clear HB
       have HO_395001:=n0_
       have BK388:=n1_
       have BK394:=n2_
       have HB:=n3_
       clear n0_ n1_ n2_ n3_
       have p395:0≤(x8_1:Int):=of_decide_eq_true (za8)
       have q395:x8_1<(l1.length:Int):=of_decide_eq_true (za8)
       obtain⟨ad395,A395_2,c395_2,e395,hx395_0,hx395_1,hx395_2,hl395_2,hi395_2⟩:=at_T62 HR1.out x8_1 p395 q395
       have hw395_2:=hx395_2
       have hw395_1:=hx395_1
       have hw395_0:=hx395_0
       cases e395
       have hxo395_2:=qal.mk hx395_2
       replace hx395_0:=(HB.out.cell (World.block_lt_of_cell? w _ hx395_0)).trans hx395_0
       replace hx395_1:=(HB.out.cell (World.block_lt_of_cell? w _ hx395_1)).trans hx395_1
       replace hx395_2:=(HB.out.cell (World.block_lt_of_cell? w _ hx395_2)).trans hx395_2
       have HR395_2:=qal.mk hi395_2
       have HC395_2:=qal.mk hl395_2
       clear hi395_2 hl395_2
       replace p395:=eq_true p395
       replace q395:=eq_true q395
       refine start_ (n:=15) (S:=fun w'=>w'.cell? (ad395.add ((x8_1).toNat*3))=some (.int .i64 ((rd_T62 l1 x8_1).f0))∧w'.cell? ⟨(ad395.add ((x8_1).toNat*3)).block,(ad395.add ((x8_1).toNat*3)).off+1,none⟩=some (.int .i64 ((rd_T62 l1 x8_1).f1))∧w'.cell? ⟨(ad395.add ((x8_1).toNat*3)).block,(ad395.add ((x8_1).toNat*3)).off+2,none⟩=some (.slice A395_2 ((rd_T62 l1 x8_1).f2).length c395_2)) (ds:=[]) #[false,false,false,false,false,false,false,false,false,false,false,false,false,false,false] (by kernel_rfl) rfl rfl ⟨((HB.out.cell (World.block_lt_of_cell? w _ hw395_0)).trans hw395_0),((HB.out.cell (World.block_lt_of_cell? w _ hw395_1)).trans hw395_1),((HB.out.cell (World.block_lt_of_cell? w _ hw395_2)).trans hw395_2)⟩ (fun hHeld=>?_);refine with_tabW spec_l2Of.tab7 spec_l2Of.bits7 (fun HT_ HW_=>?_)
       generalize wr.drew=w33 at HO_395001 BK388 BK394 HB HR395_2 hx395_0 hx395_1 hx395_2 hHeld ⊢
       refine qaz (i:=0) (N:=some 23) (v:=?_) (a':=?_) #[true,false,false,false,false,false,false,false,false,false,false,false,false,false,false] rfl rfl (qax HT_.out (by kernel_rfl)) (fun _ _ _ h=>h) (Or.inl ⟨by rfl,?_⟩) ?_ ?_
       rotate_left
       ·intro w'
        go_simp
        with_reducible rfl
       rotate_left
       ·simp only[Act.put,List.setIfInBounds_toArray,List.set_cons_zero,List.set_cons_succ,qas,qat]
        rfl
       refine qaz (i:=1) (N:=some 24) (v:=?_) (a':=?_) #[true,true,false,false,false,false,false,false,false,false,false,false,false,false,false] rfl rfl (qax HT_.out (by kernel_rfl)) (fun _ _ _ h=>h) (Or.inl ⟨by rfl,?_⟩) ?_ ?_
       rotate_left
       ·intro w'
        go_simp
        with_reducible rfl
       rotate_left
       ·simp only[Act.put,List.setIfInBounds_toArray,List.set_cons_zero,List.set_cons_succ,qas,qat]
        rfl
       refine qaz (i:=2) (N:=some 25) (v:=?_) (a':=?_) #[true,true,true,false,false,false,false,false,false,false,false,false,false,false,false] rfl rfl (qax HT_.out (by kernel_rfl)) (fun _ _ _ h=>h) (Or.inl ⟨by rfl,?_⟩) ?_ ?_
       rotate_left
       ·intro w'
        go_simp
        with_reducible rfl
       rotate_left
       ·simp only[Act.put,List.setIfInBounds_toArray,List.set_cons_zero,List.set_cons_succ,qas,qat]
        rfl
       refine take_ (i:=3) (N:=some 26) (v:=?_) (a':=?_) #[true,true,true,true,false,false,false,false,false,false,false,false,false,false,false] rfl rfl (take_ofW HT_.out HW_.out (by kernel_rfl)) (fun _ _ _ h=>h) (Or.inl ⟨by rfl,?_⟩) hHeld ?_ ?_
       rotate_left
       ·rintro w' ⟨s0,s1,s2⟩
        go_simp
        with_reducible rfl
       rotate_left
       ·simp only[Act.put,List.setIfInBounds_toArray,List.set_cons_zero,List.set_cons_succ,qas,qat]
        rfl
       refine one_ (i:=4) (N:=some 27) #[true,true,true,true,true,false,false,false,false,false,false,false,false,false,false] rfl rfl (one_of HT_.out (by kernel_rfl)) (by decide) (fun K hK=>?_)
       refine goes_ Try.func44 (by kernel_rfl) rfl #[.agg #[.int .i64 ((rd_T62 l1 x8_1).f0),.int .i64 ((rd_T62 l1 x8_1).f1),.slice A395_2 ((rd_T62 l1 x8_1).f2).length c395_2]] (by rfl) rfl rfl (by(try simp only[List.map_toArray,List.map_cons,List.map_nil]);first|done|rfl|(simp only[List.length_drop,List.length_take];rfl)) ?_
       with_reducible refine(spec_RecOk.calls k1 ((rd_T62 l1 x8_1).f0) ((rd_T62 l1 x8_1).f1) _ _ ((rd_T62 l1 x8_1).f2) false _ ?side1 ?side2 A13.out).mono ?_
       (case side1=>repeat(first|exact(Kd.C_below HR395_2.out HB.out)|(with_reducible refine Kd.C_alloc ?_ _)|(with_reducible refine Kd.C_drewN ?_ _)|(with_reducible refine Kd.C_drew ?_)))
       (case side2=>exact HC395_2.out)
       rintro e w34 ⟨rfl,hb⟩
       refine⟨_,rfl,?_⟩
       have n0_:=qal.mk (Kd.R_below (za4 HO_395001) hb)
       have n1_:=qal.mk (qac (g:=gb388) (o:=.cells #[.int .i64 x389000_1,.slice none 0 0] 36 (0,0)) (za0 BK388) hb)
       have n2_:=qal.mk (qac (g:=gb394) (o:=.cells #[.int .i64 x395000_1,u395001] 36 (0,0)) (za0 BK394) hb)
       have n3_:=qal.mk (qae (za3 HB GE388 GE394) hb)
       clear HO_395001
       clear BK388
       clear BK394
       clear HB
       have HO_395001:=n0_
       have BK388:=n1_
       have BK394:=n2_
       have HB:=n3_
       clear n0_ n1_ n2_ n3_
       (try clear hb)
       (try clear hb2)
       (try clear hk)
       (try clear hi)
       refine hK.out _ _ ⟨((HB.out.cell (World.block_lt_of_cell? w _ hw395_0)).trans hw395_0),((HB.out.cell (World.block_lt_of_cell? w _ hw395_1)).trans hw395_1),((HB.out.cell (World.block_lt_of_cell? w _ hw395_2)).trans hw395_2)⟩ (fun hHeld=>?_)
       clear hK K
       refine norm_ (a':=?_) ?_ ?_
       rotate_left
       ·show Act.put _ (some 27) _=_
        simp only[Act.put,List.setIfInBounds_toArray,List.set_cons_zero,List.set_cons_succ,qas,qat]
        rfl
       refine qaz (i:=5) (N:=some 28) (v:=?_) (a':=?_) #[true,true,true,true,true,true,false,false,false,false,false,false,false,false,false] rfl rfl (qax HT_.out (by kernel_rfl)) (fun _ _ _ h=>h) (Or.inl ⟨by rfl,?_⟩) ?_ ?_
       rotate_left
       ·intro w'
        go_simp
        with_reducible rfl
       rotate_left
       ·simp only[Act.put,List.setIfInBounds_toArray,List.set_cons_zero,List.set_cons_succ,qas,qat]
        rfl
       refine qaz (i:=6) (N:=some 29) (v:=?_) (a':=?_) #[true,true,true,true,true,true,true,false,false,false,false,false,false,false,false] rfl rfl (qax HT_.out (by kernel_rfl)) (fun _ _ _ h=>h) (Or.inl ⟨by rfl,?_⟩) ?_ ?_
       rotate_left
       ·intro w'
        go_simp
        with_reducible rfl
       rotate_left
       ·simp only[Act.put,List.setIfInBounds_toArray,List.set_cons_zero,List.set_cons_succ,qas,qat]
        rfl
       refine qaz (i:=7) (N:=some 30) (v:=undef) (a':=?_) #[true,true,true,true,true,true,true,true,false,false,false,false,false,false,false] rfl rfl (qax HT_.out (by kernel_rfl)) (fun _ _ _ h=>h) (Or.inr ⟨by rfl,rfl⟩) ?_ ?_
       rotate_left
       ·simp only[Act.put,List.setIfInBounds_toArray,List.set_cons_zero,List.set_cons_succ,qas,qat]
        rfl
       refine qaz (i:=8) (N:=some 31) (v:=undef) (a':=?_) #[true,true,true,true,true,true,true,true,true,false,false,false,false,false,false] rfl rfl (qax HT_.out (by kernel_rfl)) (fun _ _ _ h=>h) (Or.inr ⟨by rfl,rfl⟩) ?_ ?_
       rotate_left
       ·simp only[Act.put,List.setIfInBounds_toArray,List.set_cons_zero,List.set_cons_succ,qas,qat]
        rfl
       refine qaz (i:=9) (N:=some 32) (v:=undef) (a':=?_) #[true,true,true,true,true,true,true,true,true,true,false,false,false,false,false] rfl rfl (qax HT_.out (by kernel_rfl)) (fun _ _ _ h=>h) (Or.inr ⟨by rfl,rfl⟩) ?_ ?_
       rotate_left
       ·simp only[Act.put,List.setIfInBounds_toArray,List.set_cons_zero,List.set_cons_succ,qas,qat]
        rfl
       refine qaz (i:=10) (N:=some 33) (v:=undef) (a':=?_) #[true,true,true,true,true,true,true,true,true,true,true,false,false,false,false] rfl rfl (qax HT_.out (by kernel_rfl)) (fun _ _ _ h=>h) (Or.inr ⟨by rfl,rfl⟩) ?_ ?_
       rotate_left
       ·simp only[Act.put,List.setIfInBounds_toArray,List.set_cons_zero,List.set_cons_succ,qas,qat]
        rfl
       refine qaz (i:=11) (N:=some 34) (v:=undef) (a':=?_) #[true,true,true,true,true,true,true,true,true,true,true,true,false,false,false] rfl rfl (qax HT_.out (by kernel_rfl)) (fun _ _ _ h=>h) (Or.inr ⟨by rfl,rfl⟩) ?_ ?_
       rotate_left
       ·simp only[Act.put,List.setIfInBounds_toArray,List.set_cons_zero,List.set_cons_succ,qas,qat]
        rfl
       refine qaz (i:=12) (N:=some 35) (v:=undef) (a':=?_) #[true,true,true,true,true,true,true,true,true,true,true,true,true,false,false] rfl rfl (qax HT_.out (by kernel_rfl)) (fun _ _ _ h=>h) (Or.inr ⟨by rfl,rfl⟩) ?_ ?_
       rotate_left
       ·simp only[Act.put,List.setIfInBounds_toArray,List.set_cons_zero,List.set_cons_succ,qas,qat]
        rfl
       refine qaz (i:=13) (N:=some 36) (v:=undef) (a':=?_) #[true,true,true,true,true,true,true,true,true,true,true,true,true,true,false] rfl rfl (qax HT_.out (by kernel_rfl)) (fun _ _ _ h=>h) (Or.inr ⟨by rfl,rfl⟩) ?_ ?_
       rotate_left
       ·simp only[Act.put,List.setIfInBounds_toArray,List.set_cons_zero,List.set_cons_succ,qas,qat]
        rfl
       refine qaz (i:=14) (N:=some 37) (v:=?_) (a':=?_) #[true,true,true,true,true,true,true,true,true,true,true,true,true,true,true] rfl rfl (qax HT_.out (by kernel_rfl)) (fun _ _ _ h=>h) (Or.inl ⟨by rfl,?_⟩) ?_ ?_
       rotate_left
       ·intro w'
        go_simp
        with_reducible rfl
       rotate_left
       ·simp only[Act.put,List.setIfInBounds_toArray,List.set_cons_zero,List.set_cons_succ,qas,qat]
        rfl
       refine done_ (done_of HT_.out (by kernel_rfl)) ?_
       have hnb35:=NB388_394.out
       have hnc35:=NB394_388.out
       have hcz36_0:w34.cell? ⟨gb388,0,none⟩=some (.int .i64 x389000_1):=(qab BK388.out 0).trans rfl
       have hcz36_1:w34.cell? ⟨gb388,1,none⟩=some (.slice none 0 0):=(qab BK388.out 1).trans rfl
       have hfz36_0:=qaa BK388.out 0
       have hfz36_1:=qaa BK388.out 1
       try go_wp2
       refine bodyPost_ret (results_ct rfl _ _ gb388 36 #[.int .i64 0,.slice none 0 0] (0,0) _ rfl (by(with_reducible repeat(first|refine qag ?_ _|refine qah ?_|refine qaf ?_ _));refine qan (cs:=#[.int .i64 0,.slice none 0 0]) ?_ 1 _ rfl;(with_reducible repeat(first|refine qag ?_ _|refine qah ?_|refine qaf ?_ _));refine qan (cs:=#[.int .i64 x389000_1,.slice none 0 0]) ?_ 0 _ rfl;(with_reducible repeat(first|refine qag ?_ _|refine qah ?_|refine qaf ?_ _));exact BK388.out) Try.underlying36 rfl (by kernel_rfl)) rfl ?_
       exact⟨_,za9,za47,za3 HB GE388 GE394⟩
     ·rw[if_neg c12] at H
      exact absurd H (by simp)
    ·rw[if_neg c11] at H
     have c11b0:decide (x8_1<(l1.length:Int))=false:=decide_eq_false c11
     clear c11
     simp only[Option.some.injEq,Prod.mk.injEq] at H
     obtain⟨rfl,rfl,rfl⟩:=H
     have hnb37:=NB394_388.out
     have hnc37:=NB388_394.out
     have hcz38_0:wr.cell? ⟨gb394,0,none⟩=some (.int .i64 x395000_1):=(qab BK394.out 0).trans rfl
     have hcz38_1:wr.cell? ⟨gb394,1,none⟩=some (u395001):=(qab BK394.out 1).trans rfl
     have hfz38_0:=qaa BK394.out 0
     have hfz38_1:=qaa BK394.out 1
     have hcz39_0:wr.cell? ⟨gb388,0,none⟩=some (.int .i64 x389000_1):=(qab BK388.out 0).trans rfl
     have hcz39_1:wr.cell? ⟨gb388,1,none⟩=some (.slice none 0 0):=(qab BK388.out 1).trans rfl
     have hfz39_0:=qaa BK388.out 0
     have hfz39_1:=qaa BK388.out 1
     obtain⟨Ao40,co40,eo40⟩:=Kd.R_slice HO_395001.out
     subst eo40
     go_wp2
     refine bodyPost_ret (results_ct rfl _ _ gb388 36 #[.int .i64 x395000_1,.slice Ao40 x395001_1.length co40] (0,0) _ rfl (by(with_reducible repeat(first|refine qag ?_ _|refine qah ?_|refine qaf ?_ _));refine qan (cs:=#[.int .i64 x395000_1,.slice none 0 0]) ?_ 1 _ rfl;(with_reducible repeat(first|refine qag ?_ _|refine qah ?_|refine qaf ?_ _));refine qan (cs:=#[.int .i64 x389000_1,.slice none 0 0]) ?_ 0 _ rfl;(with_reducible repeat(first|refine qag ?_ _|refine qah ?_|refine qaf ?_ _));exact BK388.out) Try.underlying36 rfl (by kernel_rfl)) rfl ?_
     exact⟨_,za9,by(with_reducible repeat(first|apply Kd.R_alloc|apply Kd.R_drewN|apply Kd.R_drew));exact Kd.R_mono (Kd.R_far (p:=⟨gb388,1,none⟩) (Kd.R_far (p:=⟨gb388,0,none⟩) (Kd.R_types HO_395001.out BK388.out (by decide)) (fun _ hk=>hk.2) (.int .i64 x395000_1)) (fun _ hk=>hk.2) (.slice Ao40 x395001_1.length co40)) (fun _ hk=>trivial),za3 HB GE388 GE394⟩
 ·replace c4:=Bool.eq_false_iff.mpr c4
  subst c4
  have H1:(some (0,([]:List (S46)),false))=some (r1,r2,r3):=by rw[if_neg (show ¬(false=true) by decide)] at H;exact H
  clear H
  have H:=H1
  clear H1
  simp only[Option.some.injEq,Prod.mk.injEq] at H
  obtain⟨rfl,rfl,rfl⟩:=H
  go_enter Try.func125,Try.ntmps125
  go_wp2_with(first|((with_reducible refine qak (N:=4) rfl ?_);refine qaj ?hg (N:=4) ?hd (cs:=#[.int .i64 0,.slice none 0 0]) (t:=36) ?hr ?_;(case hd=>rfl);(case hg=>rfl);(case hr=>first|(go_simp;done)|(go_simp;rfl));intro gb388 hg w41 hbox hb;have n0_:=qal.mk (qae (za2 HB) hb);have n1_:=qal.mk (hbox);have n2_:=qal.mk ((by rw[hg];exact(qad (za2 HB)):w.heap.size≤gb388));have n3_:=qal.mk ((by rw[hg];exact(qad (za2 HB)):w.heap.size≤gb388));clear HB;have HB:=n0_;have BK388:=n1_;have GW388:=n2_;have GE388:=n3_;clear n0_ n1_ n2_ n3_;clear hb hbox hg)|((with_reducible refine qai (f:=21) rfl ?_);refine qau (some 11) rfl rfl Try.func21 (by kernel_rfl) rfl #[.int .i64 a0] rfl (by(try simp only[List.map_toArray,List.map_cons,List.map_nil]);first|done|rfl|(simp only[List.length_drop,List.length_take];rfl)) ?_;(with_reducible refine(spec_StockNew.calls a0 t389 t390 false _ A3.out).mono ?_);rintro e w42 ⟨v391,rfl,ho0,hb⟩;refine⟨_,rfl,?_⟩;have n0_:=qal.mk (Kd.R_lower ho0 (qad (za1 HB GE388)));have n1_:=qal.mk (qac (g:=gb388) (o:=.cells #[.int .i64 0,.slice none 0 0] 36 (0,0)) (za0 BK388) hb);have n2_:=qal.mk (qae (za1 HB GE388) hb);clear BK388;clear HB;have HO392:=n0_;have BK388:=n1_;have HB:=n2_;clear n0_ n1_ n2_;(try clear hb);(try clear hb2);(try clear hk);(try clear hi);(try clear ho0))|((with_reducible refine qak (N:=6) rfl ?_);refine qaj ?hg (N:=6) ?hd (cs:=#[.int .i64 0,.slice none 0 0]) (t:=36) ?hr ?_;(case hd=>rfl);(case hg=>rfl);(case hr=>first|(go_simp;done)|(go_simp;rfl));intro gb394 hg w43 hbox hb;have n0_:=qal.mk (Kd.R_below (za4 HO392) hb);have n1_:=qal.mk (qac (g:=gb388) (o:=.cells #[.int .i64 0,.slice none 0 0] 36 (0,0)) (za0 BK388) hb);have n2_:=qal.mk (qae (za1 HB GE388) hb);have n3_:=qal.mk (hbox);have n4_:=qal.mk ((by rw[hg];exact(qad (za1 HB GE388)):w.heap.size≤gb394));have n5_:=qal.mk ((by rw[hg];exact(qad (za1 HB GE388)):w.heap.size≤gb394));have n6_:=qal.mk ((by rw[hg];exact Nat.ne_of_lt (qao (g:=gb388) (o:=.cells #[.int .i64 0,.slice none 0 0] 36 (0,0)) (za0 BK388)):gb388≠gb394));have n7_:=qal.mk ((by rw[hg];exact Nat.ne_of_gt (qao (g:=gb388) (o:=.cells #[.int .i64 0,.slice none 0 0] 36 (0,0)) (za0 BK388)):gb394≠gb388));clear HO392;clear BK388;clear HB;have HO392:=n0_;have BK388:=n1_;have HB:=n2_;have BK394:=n3_;have GW394:=n4_;have GE394:=n5_;have NB388_394:=n6_;have NB394_388:=n7_;clear n0_ n1_ n2_ n3_ n4_ n5_ n6_ n7_;clear hb hbox hg;have hnb44:=NB394_388.out;have hnc44:=NB388_394.out;have hcz45_0:w43.cell? ⟨gb394,0,none⟩=some (.int .i64 0):=(qab BK394.out 0).trans rfl;have hcz45_1:w43.cell? ⟨gb394,1,none⟩=some (.slice none 0 0):=(qab BK394.out 1).trans rfl;have hfz45_0:=qaa BK394.out 0;have hfz45_1:=qaa BK394.out 1;obtain⟨Ao46,co46,eo46⟩:=Kd.R_slice HO392.out;subst eo46;have hcz47_0:w43.cell? ⟨gb388,0,none⟩=some (.int .i64 0):=(qab BK388.out 0).trans rfl;have hcz47_1:w43.cell? ⟨gb388,1,none⟩=some (.slice none 0 0):=(qab BK388.out 1).trans rfl;have hfz47_0:=qaa BK388.out 0;have hfz47_1:=qaa BK388.out 1))
  refine bodyPost_ret (results_ct rfl _ _ gb388 36 #[.int .i64 0,.slice none 0 0] (0,0) _ rfl (by(with_reducible repeat(first|refine qag ?_ _|refine qah ?_|refine qaf ?_ _));refine qan (cs:=#[.int .i64 0,.slice none 0 0]) ?_ 1 _ rfl;(with_reducible repeat(first|refine qag ?_ _|refine qah ?_|refine qaf ?_ _));refine qan (cs:=#[.int .i64 0,.slice none 0 0]) ?_ 0 _ rfl;(with_reducible repeat(first|refine qag ?_ _|refine qah ?_|refine qaf ?_ _));refine blk_far ?_ NB388_394.out _;(with_reducible repeat(first|refine qag ?_ _|refine qah ?_|refine qaf ?_ _));refine blk_far ?_ NB388_394.out _;(with_reducible repeat(first|refine qag ?_ _|refine qah ?_|refine qaf ?_ _));exact BK388.out) Try.underlying36 rfl (by kernel_rfl)) rfl ?_
  exact⟨_,za9,za47,za3 HB GE388 GE394⟩
end Go.Proofs.Ytjccnaklodbbfaa.Print
