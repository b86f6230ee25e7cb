-- Written by squeeze.py: not trusted, Lean checks it.
import Derived.Test.YtmbdphefnalenaaZK
import Derived.Test.YtmbdphefnalenaaZc0
import Derived.Test.YtmbdphefnalenaaZc2
import Derived.Test.YtmbdphefnalenaaZc3
import Derived.Test.YtmbdphefnalenaaZc4
namespace Go.Proofs.Ytmbdphefnalenaa.Print
open Go.RowKit Go.Proofs.YtmbdphefnalenaaW.PrintWords Go.Proofs.YtmbdphefnalenaaW.PrintLast Go.Proofs.YtmbdphefnalenaaW.PrintMore
attribute [local go_sem] max2_int min2_int max_two min_two max_three min_three max_four min_four
set_option linter.unusedVariables false
set_option linter.unusedSimpArgs false
def spec_l2Of.l0:Nat→List (S32)→Int→Int→List (S49)→Option (Int × (List (S49)) × Bool)
 |0,_,_,_,_=>none
 |k+1,x1,x8,x462000,x462001=>if x8<(x1.length:Int) then(if 0≤x8 then((spec_RecOk.f k ((rd_T32 x1 x8).f0) ((rd_T32 x1 x8).f1) ((rd_T32 x1 x8).f2)).bind fun t463=>(if t463=true then((spec_l2May.f k x462000 x462001 ((rd_T32 x1 x8).f0) ((rd_T32 x1 x8).f1) ((rd_T32 x1 x8).f2)).bind fun t465=>(if t465=true then((spec_l2Do.f x462000 x462001 ((rd_T32 x1 x8).f0) ((rd_T32 x1 x8).f1) ((rd_T32 x1 x8).f2)).bind fun bt467=>(spec_l2Of.l0 k x1 (wrap64 (x8+1)) bt467.1 bt467.2)) else(some (0,([]:List (S49)),false)))) else(some (0,([]:List (S49)),false)))) else(none)) else(some (x462000,x462001,true))
def spec_l2Of.f (k:Nat) (a0:Int) (l1:List (S32)):Option (Int × (List (S49)) × Bool):=(spec_StockNew.f a0).bind fun bt456=>(if bt456.2.2=true then(spec_l2Of.l0 k l1 0 bt456.1 bt456.2.1) else(some (0,([]:List (S49)),false)))
theorem spec_l2Of.mono_l:∀k,(∀y0 y1 y2 y3,LeO (spec_l2Of.l0 k y0 y1 y2 y3) (spec_l2Of.l0 (k+1) y0 y1 y2 y3))
 |0=>fun _ _ _ _ r h=>by simp[spec_l2Of.l0] at h
 |k+1=>by
  have ih0:=spec_l2Of.mono_l k
  ·intro y0 y1 y2 y3
   unfold spec_l2Of.l0
   repeat' first
   |(with_reducible exact ih0 _ _ _ _)
   |(with_reducible exact spec_RecOk.mono _ _ _ _)
   |(with_reducible exact spec_l2May.mono _ _ _ _ _ _)
   |(with_reducible exact LeO.refl _)
   |(with_reducible exact LeO.none _)
   |(with_reducible refine LeO.ite ?_ ?_)
   |(with_reducible refine LeO.bind ?_ (fun _=>?_))
   |exact ih0 _ _ _ _
   |exact spec_RecOk.mono _ _ _ _
   |exact spec_l2May.mono _ _ _ _ _ _
   |exact LeO.none _
   |refine LeO.ite ?_ ?_
   |refine LeO.bind ?_ (fun _=>?_)
theorem spec_l2Of.mono:∀a0 a1 k,LeO (spec_l2Of.f k a0 a1) (spec_l2Of.f (k+1) a0 a1):=by
 intro a0 a1 k
 have ih0:=spec_l2Of.mono_l k
 unfold spec_l2Of.f
 repeat' first
   |(with_reducible exact ih0 _ _ _ _)
   |(with_reducible exact spec_RecOk.mono _ _ _ _)
   |(with_reducible exact spec_l2May.mono _ _ _ _ _ _)
   |(with_reducible exact LeO.refl _)
   |(with_reducible exact LeO.none _)
   |(with_reducible refine LeO.ite ?_ ?_)
   |(with_reducible refine LeO.bind ?_ (fun _=>?_))
   |exact ih0 _ _ _ _
   |exact spec_RecOk.mono _ _ _ _
   |exact spec_l2May.mono _ _ _ _ _ _
   |exact LeO.none _
   |refine LeO.ite ?_ ?_
   |refine LeO.bind ?_ (fun _=>?_)
def spec_l2Of.T7:Bool × List (List Nat × List Nat):=(true,[([],[]),([],[]),([0,1],[0,1]),([2],[2]),([3],[3]),([4],[4]),([5,4],[5]),([6],[6]),([6],[6]),([6],[6]),([8,9,6],[6,8,9]),([10,6],[6,10]),([7,11,6,6],[6,7,11]),([12,6],[6,12]),([6,13],[6,13])])
def spec_l2Of.B7:List Nat:=[0,0,3,7,15,31,63,127,127,127,895,1919,4095,8191,16383]
theorem spec_l2Of.tab7:rtab .any (opsOf Try.f55 7)=spec_l2Of.T7:=by kernel_rfl
theorem spec_l2Of.bits7:waitsOk spec_l2Of.T7.2 spec_l2Of.B7=true:=by kernel_rfl
set_option maxHeartbeats 8000000 in
set_option maxRecDepth 100000 in
theorem spec_l2Of.calls (k:Nat) (a0:Int) (A1:Option Addr) (c1:Nat) (l1:List (S32)) (r1:Int) (r2:List (S49)) (r3:Bool) (w:World) (hr1:Kd.C k32 w A1 l1.length l1) (hc1:l1.length≤c1) (h:spec_l2Of.f k a0 l1=some (r1,r2,r3)) :
  Calls Try.prog 55 #[.int .i64 a0,.slice A1 l1.length c1] w fun e w'=>∃v1_:Value,e=.returned (.tuple #[.agg #[.int .i64 r1,v1_],.bool r3])∧Kd.R k49 49 w' w.heap.size (fun _=>True) v1_ r2∧Below w.heap.size w w':=by
 have hu38:=Try.underlying38
 have hu32:=Try.underlying32
 have HR1:=Aside0.mk hr1
 have HC1:=Aside0.mk hc1
 clear hr1 hc1
 have HB:=Aside0.mk (Below.refl w.heap.size w)
 have H:((spec_StockNew.f a0).bind fun bt456=>(if bt456.2.2=true then(spec_l2Of.l0 k l1 0 bt456.1 bt456.2.1) else(some (0,([]:List (S49)),false))))=some (r1,r2,r3):=h
 clear h
 replace H:=Option.bind_eq_some_iff.mp H
 obtain⟨⟨t456,t457,t460⟩,A30,H⟩:=H
 replace H:(if t460=true then(spec_l2Of.l0 k l1 0 t456 t457) else(some (0,([]:List (S49)),false)))=some (r1,r2,r3):=H
 have A3:=Aside0.mk A30
 clear A30
 by_cases c4:t460=true
 ·subst c4
  have H1:(spec_l2Of.l0 k l1 0 t456 t457)=some (r1,r2,r3):=by rw[if_pos rfl] at H;exact H
  clear H
  have H:=H1
  clear H1
  have H':=Aside0.mk H
  clear H
  go_enter Try.func55,Try.ntmps55
  go_wp2_with(first|((with_reducible refine qae (N:=4) rfl ?_);refine zX (N:=4) (cs:=#[.int .i64 0,.slice none 0 0]) (t:=38) ?_;intro gb455 hg w5 hbox hb;have BK455:=Aside0.mk hbox;have GW455:=zH (w:=w) hg (za4 HB);have GE455:=GW455;replace HB:=Aside0.mk (qab (za4 HB) hb);clear hb hbox hg)|((with_reducible refine qac (f:=89) rfl ?_);refine zF (some 11) Try.func89 #[.int .i64 a0] ?_;(with_reducible refine(spec_StockNew.calls a0 t456 t457 true _ A3.out).mono ?_);rintro e w6 ⟨v458,rfl,ho0,hb⟩;refine⟨_,rfl,?_⟩;have HO459:=Aside0.mk (Kd.R_lower ho0 (below_size (za1 HB GE455)));replace BK455:=Aside0.mk (qaa (zB BK455) hb);replace HB:=Aside0.mk (qab (za1 HB GE455) hb);(try clear hb);(try clear ho0))|((with_reducible refine qae (N:=6) rfl ?_);refine zX (N:=6) (cs:=#[.int .i64 0,.slice none 0 0]) (t:=38) ?_;intro gb461 hg w7 hbox hb;replace HO459:=Aside0.mk (Kd.R_below (za5 HO459) hb);have BK461:=Aside0.mk hbox;have GW461:=zH (w:=w) hg (za1 HB GE455);have GE461:=GW461;replace HB:=Aside0.mk (qab (za1 HB GE455) hb);have NB455_461:=zL BK455 hg;have NB461_455:=zG BK455 hg;replace BK455:=Aside0.mk (qaa (zB BK455) hb);clear hb hbox hg;have hnb8:=NB461_455.out;have hnc8:=NB455_461.out;obtain⟨hcz9_0,hcz9_1,hfz9_0,hfz9_1⟩:=zC2 BK461;obtain⟨Ao10,co10,eo10⟩:=Kd.R_slice HO459.out;subst eo10))
  go_loopg [8] k (fun kq v8 w'=>∃(x8_1:Int) (x456000_1:Int) (x462000_1:Int) (x462001_1:List (S49)) (u462001:Value),v8=.int .i64 x8_1∧Aside0 (spec_l2Of.l0 kq l1 x8_1 x462000_1 x462001_1=some (r1,r2,r3))∧Aside0 (kq≤k)∧Aside0 (Kd.R k49 49 w' w.heap.size (fun _=>True) u462001 x462001_1)∧Aside0 (w'.heap[gb455]?=some (.cells #[.int .i64 x456000_1,(.slice none 0 0)] 38 (0,0)))∧Aside0 (w'.heap[gb461]?=some (.cells #[.int .i64 x462000_1,u462001] 38 (0,0)))∧Aside0 (Below w.heap.size w w'))
  case atStart=>exact⟨(0),(0),(t456),(t457),(.slice Ao10 t457.length co10),(za43),H',⟨Nat.le_refl _⟩,⟨by(with_reducible repeat(first|apply Kd.R_alloc|apply Kd.R_drewN|apply Kd.R_drew));exact Kd.R_mono (Kd.R_far (p:=⟨gb461,1,none⟩) (Kd.R_far (p:=⟨gb461,0,none⟩) (Kd.R_types HO459.out BK461.out (by decide)) (fun _ hk=>hk.2) (.int .i64 t456)) (fun _ hk=>hk.2) (.slice Ao10 t457.length co10)) (fun _ hk=>trivial)⟩,⟨za0 NB455_461 BK455⟩,⟨by(with_reducible repeat(first|refine blk_drewN ?_ _|refine blk_drew ?_|refine blk_alloc ?_ _));refine qad (cs:=#[.int .i64 t456,.slice none 0 0]) ?_ 1 _ rfl;(with_reducible repeat(first|refine blk_drewN ?_ _|refine blk_drew ?_|refine blk_alloc ?_ _));refine qad (cs:=#[.int .i64 0,.slice none 0 0]) ?_ 0 _ rfl;(with_reducible repeat(first|refine blk_drewN ?_ _|refine blk_drew ?_|refine blk_alloc ?_ _));exact BK461.out⟩,⟨za2 HB GE455 GE461⟩⟩
  case round=>
   clear H'
   try clear c1
   try clear p2
   try clear c4
   try clear c5
   try clear c8
   try clear hcz9_0
   try clear hcz9_1
   try clear hfz9_0
   try clear hfz9_1
   obtain⟨x8_1,x456000_1,x462000_1,x462001_1,u462001,rfl,HA,HK1,HO_462001,BK455,BK461,HB⟩:=hrel
   cases gk with
   |zero=>exact absurd HA.out (by simp[spec_l2Of.l0])
   |succ k1=>
    have H:=HA.out
    clear HA
    simp only[spec_l2Of.l0] at H
    by_cases c11:x8_1<(l1.length:Int)
    ·rw[if_pos c11] at H
     have c11b0:decide (x8_1<(l1.length:Int))=true:=decide_eq_true c11
     clear c11
     by_cases c12:0≤x8_1
     ·rw[if_pos c12] at H
      have c12b0:decide (0≤x8_1)=true:=decide_eq_true c12
      clear c12
      replace H:=Option.bind_eq_some_iff.mp H
      obtain⟨t463,A130,H⟩:=H
      replace H:(if t463=true then((spec_l2May.f k1 x462000_1 x462001_1 ((rd_T32 l1 x8_1).f0) ((rd_T32 l1 x8_1).f1) ((rd_T32 l1 x8_1).f2)).bind fun t465=>(if t465=true then((spec_l2Do.f x462000_1 x462001_1 ((rd_T32 l1 x8_1).f0) ((rd_T32 l1 x8_1).f1) ((rd_T32 l1 x8_1).f2)).bind fun bt467=>(spec_l2Of.l0 k1 l1 (wrap64 (x8_1+1)) bt467.1 bt467.2)) else(some (0,([]:List (S49)),false)))) else(some (0,([]:List (S49)),false)))=some (r1,r2,r3):=H
      have A13:=Aside0.mk A130
      clear A130
      by_cases c14:t463=true
      ·subst c14
       have H1:((spec_l2May.f k1 x462000_1 x462001_1 ((rd_T32 l1 x8_1).f0) ((rd_T32 l1 x8_1).f1) ((rd_T32 l1 x8_1).f2)).bind fun t465=>(if t465=true then((spec_l2Do.f x462000_1 x462001_1 ((rd_T32 l1 x8_1).f0) ((rd_T32 l1 x8_1).f1) ((rd_T32 l1 x8_1).f2)).bind fun bt467=>(spec_l2Of.l0 k1 l1 (wrap64 (x8_1+1)) bt467.1 bt467.2)) else(some (0,([]:List (S49)),false))))=some (r1,r2,r3):=by rw[if_pos rfl] at H;exact H
       clear H
       have H:=H1
       clear H1
       replace H:=Option.bind_eq_some_iff.mp H
       obtain⟨t465,A150,H⟩:=H
       replace H:(if t465=true then((spec_l2Do.f x462000_1 x462001_1 ((rd_T32 l1 x8_1).f0) ((rd_T32 l1 x8_1).f1) ((rd_T32 l1 x8_1).f2)).bind fun bt467=>(spec_l2Of.l0 k1 l1 (wrap64 (x8_1+1)) bt467.1 bt467.2)) else(some (0,([]:List (S49)),false)))=some (r1,r2,r3):=H
       have A15:=Aside0.mk A150
       clear A150
       by_cases c16:t465=true
       ·subst c16
        have H1:((spec_l2Do.f x462000_1 x462001_1 ((rd_T32 l1 x8_1).f0) ((rd_T32 l1 x8_1).f1) ((rd_T32 l1 x8_1).f2)).bind fun bt467=>(spec_l2Of.l0 k1 l1 (wrap64 (x8_1+1)) bt467.1 bt467.2))=some (r1,r2,r3):=by rw[if_pos rfl] at H;exact H
        clear H
        have H:=H1
        clear H1
        replace H:=Option.bind_eq_some_iff.mp H
        obtain⟨⟨t467,t468⟩,A170,H⟩:=H
        replace H:(spec_l2Of.l0 k1 l1 (wrap64 (x8_1+1)) t467 t468)=some (r1,r2,r3):=H
        have A17:=Aside0.mk A170
        clear A170
        have H':=Aside0.mk H
        clear H
        try go_wp2
        replace HO_462001:=Aside0.mk (Kd.R_drew HO_462001.out)
        replace BK455:=Aside0.mk (blk_drew BK455.out)
        replace BK461:=Aside0.mk (blk_drew BK461.out)
        replace HB:=Aside0.mk (qao HB.out)
        have p462:0≤(x8_1:Int):=of_decide_eq_true (za9)
        have q462:x8_1<(l1.length:Int):=of_decide_eq_true (za9)
        obtain⟨ad462,A462_2,c462_2,e462,hx462_0,hx462_1,hx462_2,hl462_2,hi462_2⟩:=at_T32 HR1.out x8_1 p462 q462
        have hw462_2:=hx462_2
        have hw462_1:=hx462_1
        have hw462_0:=hx462_0
        cases e462
        have hxo462_2:=Aside0.mk hx462_2
        replace hx462_0:=(HB.out.cell (World.block_lt_of_cell? w _ hx462_0)).trans hx462_0
        replace hx462_1:=(HB.out.cell (World.block_lt_of_cell? w _ hx462_1)).trans hx462_1
        replace hx462_2:=(HB.out.cell (World.block_lt_of_cell? w _ hx462_2)).trans hx462_2
        have HR462_2:=Aside0.mk hi462_2
        have HC462_2:=Aside0.mk hl462_2
        clear hi462_2 hl462_2
        replace p462:=eq_true p462
        replace q462:=eq_true q462
        have p464:0≤(x8_1:Int):=of_decide_eq_true (za9)
        have q464:x8_1<(l1.length:Int):=of_decide_eq_true (za9)
        obtain⟨ad464,A464_2,c464_2,e464,hx464_0,hx464_1,hx464_2,hl464_2,hi464_2⟩:=at_T32 HR1.out x8_1 p464 q464
        have hw464_2:=hx464_2
        have hw464_1:=hx464_1
        have hw464_0:=hx464_0
        obtain rfl:ad462=ad464:=(by injection e464)
        have ea_:=Option.some.inj (hxo462_2.out.symm.trans hx464_2)
        injection ea_ with ea_ en_ ec_
        subst ea_
        subst ec_
        clear en_
        replace hx464_0:=(HB.out.cell (World.block_lt_of_cell? w _ hx464_0)).trans hx464_0
        replace hx464_1:=(HB.out.cell (World.block_lt_of_cell? w _ hx464_1)).trans hx464_1
        replace hx464_2:=(HB.out.cell (World.block_lt_of_cell? w _ hx464_2)).trans hx464_2
        have HR464_2:=Aside0.mk hi464_2
        have HC464_2:=Aside0.mk hl464_2
        clear hi464_2 hl464_2
        replace p464:=eq_true p464
        replace q464:=eq_true q464
        refine start_ (n:=15) (S:=fun w'=>w'.cell? ⟨gb461,0,none⟩=some (.int .i64 x462000_1)∧w'.cell? ⟨gb461,1,none⟩=some (u462001)∧w'.cell? (ad462.add ((x8_1).toNat*3))=some (.int .i64 ((rd_T32 l1 x8_1).f0))∧w'.cell? ⟨(ad462.add ((x8_1).toNat*3)).block,(ad462.add ((x8_1).toNat*3)).off+1,none⟩=some (.int .i64 ((rd_T32 l1 x8_1).f1))∧w'.cell? ⟨(ad462.add ((x8_1).toNat*3)).block,(ad462.add ((x8_1).toNat*3)).off+2,none⟩=some (.slice A462_2 ((rd_T32 l1 x8_1).f2).length c462_2)∧w'.cell? (ad462.add ((x8_1).toNat*3))=some (.int .i64 ((rd_T32 l1 x8_1).f0))∧w'.cell? ⟨(ad462.add ((x8_1).toNat*3)).block,(ad462.add ((x8_1).toNat*3)).off+1,none⟩=some (.int .i64 ((rd_T32 l1 x8_1).f1))∧w'.cell? ⟨(ad462.add ((x8_1).toNat*3)).block,(ad462.add ((x8_1).toNat*3)).off+2,none⟩=some (.slice A462_2 ((rd_T32 l1 x8_1).f2).length c462_2)) (ds:=[]) #[false,false,false,false,false,false,false,false,false,false,false,false,false,false,false] (by kernel_rfl) rfl rfl ⟨(blk_cell BK461.out 0).trans rfl,(blk_cell BK461.out 1).trans rfl,((HB.out.cell (World.block_lt_of_cell? w _ hw462_0)).trans hw462_0),((HB.out.cell (World.block_lt_of_cell? w _ hw462_1)).trans hw462_1),((HB.out.cell (World.block_lt_of_cell? w _ hw462_2)).trans hw462_2),((HB.out.cell (World.block_lt_of_cell? w _ hw464_0)).trans hw464_0),((HB.out.cell (World.block_lt_of_cell? w _ hw464_1)).trans hw464_1),((HB.out.cell (World.block_lt_of_cell? w _ hw464_2)).trans hw464_2)⟩ (fun hHeld=>?_);refine with_tabW spec_l2Of.tab7 spec_l2Of.bits7 (fun HT_ HW_=>?_)
        generalize wr.drew=w18 at HO_462001 BK455 BK461 HB HR462_2 HR464_2 hx462_0 hx462_1 hx462_2 hx464_0 hx464_1 hx464_2 hHeld ⊢
        refine qaj (i:=0) (N:=some 23) (v:=?_) (a':=?_) #[true,false,false,false,false,false,false,false,false,false,false,false,false,false,false] rfl rfl (qah HT_.out (by kernel_rfl)) (fun _ _ _ h=>h) (Or.inl ⟨by rfl,?_⟩) ?_ ?_
        rotate_left
        ·intro w'
         go_simp
         with_reducible rfl
        rotate_left
        ·simp only[Act.put,List.setIfInBounds_toArray,List.set_cons_zero,List.set_cons_succ,qaf,qag]
         rfl
        refine qaj (i:=1) (N:=some 24) (v:=?_) (a':=?_) #[true,true,false,false,false,false,false,false,false,false,false,false,false,false,false] rfl rfl (qah HT_.out (by kernel_rfl)) (fun _ _ _ h=>h) (Or.inl ⟨by rfl,?_⟩) ?_ ?_
        rotate_left
        ·intro w'
         go_simp
         with_reducible rfl
        rotate_left
        ·simp only[Act.put,List.setIfInBounds_toArray,List.set_cons_zero,List.set_cons_succ,qaf,qag]
         rfl
        refine qaj (i:=2) (N:=some 25) (v:=?_) (a':=?_) #[true,true,true,false,false,false,false,false,false,false,false,false,false,false,false] rfl rfl (qah HT_.out (by kernel_rfl)) (fun _ _ _ h=>h) (Or.inl ⟨by rfl,?_⟩) ?_ ?_
        rotate_left
        ·intro w'
         go_simp
         with_reducible rfl
        rotate_left
        ·simp only[Act.put,List.setIfInBounds_toArray,List.set_cons_zero,List.set_cons_succ,qaf,qag]
         rfl
        refine take_ (i:=3) (N:=some 26) (v:=?_) (a':=?_) #[true,true,true,true,false,false,false,false,false,false,false,false,false,false,false] rfl rfl (qap HT_.out HW_.out (by kernel_rfl)) (fun _ _ _ h=>h) (Or.inl ⟨by rfl,?_⟩) hHeld ?_ ?_
        rotate_left
        ·rintro w' ⟨s0,s1,s2,s3,s4,s5,s6,s7⟩
         go_simp
         with_reducible rfl
        rotate_left
        ·simp only[Act.put,List.setIfInBounds_toArray,List.set_cons_zero,List.set_cons_succ,qaf,qag]
         rfl
        refine one_ (i:=4) (N:=some 27) #[true,true,true,true,true,false,false,false,false,false,false,false,false,false,false] rfl rfl (one_of HT_.out (by kernel_rfl)) (by decide) (fun K hK=>?_)
        refine goes_ Try.func84 (by kernel_rfl) rfl #[.agg #[.int .i64 ((rd_T32 l1 x8_1).f0),.int .i64 ((rd_T32 l1 x8_1).f1),.slice A462_2 ((rd_T32 l1 x8_1).f2).length c462_2]] (by rfl) rfl rfl (by(try simp only[List.map_toArray,List.map_cons,List.map_nil]);first|done|rfl|(simp only[List.length_drop,List.length_take];rfl)) ?_
        with_reducible refine(spec_RecOk.calls k1 ((rd_T32 l1 x8_1).f0) ((rd_T32 l1 x8_1).f1) _ _ ((rd_T32 l1 x8_1).f2) true _ ?side1 ?side2 A13.out).mono ?_
        (case side1=>exact zR HR462_2 HB)
        (case side2=>exact HC462_2.out)
        rintro e w19 ⟨rfl,hb⟩
        refine⟨_,rfl,?_⟩
        replace HO_462001:=Aside0.mk (Kd.R_below (za5 HO_462001) hb)
        replace BK455:=Aside0.mk (qaa (zB BK455) hb)
        replace BK461:=Aside0.mk (qaa (zB BK461) hb)
        replace HB:=Aside0.mk (qab (za2 HB GE455 GE461) hb)
        (try clear hb)
        (try clear hb2)
        (try clear hk)
        (try clear hi)
        obtain⟨Ao20,co20,eo20⟩:=Kd.R_slice HO_462001.out
        (first|subst eo20|(injection eo20 with f1_ f2_ f3_;have f4_:=f1_.symm;have f5_:=f3_.symm;clear f1_ f2_ f3_;subst f4_;subst f5_))
        refine hK.out _ _ ⟨(blk_cell BK461.out 0).trans rfl,(blk_cell BK461.out 1).trans rfl,((HB.out.cell (World.block_lt_of_cell? w _ hw462_0)).trans hw462_0),((HB.out.cell (World.block_lt_of_cell? w _ hw462_1)).trans hw462_1),((HB.out.cell (World.block_lt_of_cell? w _ hw462_2)).trans hw462_2),((HB.out.cell (World.block_lt_of_cell? w _ hw464_0)).trans hw464_0),((HB.out.cell (World.block_lt_of_cell? w _ hw464_1)).trans hw464_1),((HB.out.cell (World.block_lt_of_cell? w _ hw464_2)).trans hw464_2)⟩ (fun hHeld=>?_)
        clear hK K
        refine norm_ (a':=?_) ?_ ?_
        rotate_left
        ·show Act.put _ (some 27) _=_
         simp only[Act.put,List.setIfInBounds_toArray,List.set_cons_zero,List.set_cons_succ,qaf,qag]
         rfl
        refine qaj (i:=5) (N:=some 28) (v:=?_) (a':=?_) #[true,true,true,true,true,true,false,false,false,false,false,false,false,false,false] rfl rfl (qah HT_.out (by kernel_rfl)) (fun _ _ _ h=>h) (Or.inl ⟨by rfl,?_⟩) ?_ ?_
        rotate_left
        ·intro w'
         go_simp
         with_reducible rfl
        rotate_left
        ·simp only[Act.put,List.setIfInBounds_toArray,List.set_cons_zero,List.set_cons_succ,qaf,qag]
         rfl
        refine qaj (i:=6) (N:=some 29) (v:=?_) (a':=?_) #[true,true,true,true,true,true,true,false,false,false,false,false,false,false,false] rfl rfl (qah HT_.out (by kernel_rfl)) (fun _ _ _ h=>h) (Or.inl ⟨by rfl,?_⟩) ?_ ?_
        rotate_left
        ·intro w'
         go_simp
         with_reducible rfl
        rotate_left
        ·simp only[Act.put,List.setIfInBounds_toArray,List.set_cons_zero,List.set_cons_succ,qaf,qag]
         rfl
        refine qaj (i:=8) (N:=some 31) (v:=?_) (a':=?_) #[true,true,true,true,true,true,true,false,true,false,false,false,false,false,false] rfl rfl (qah HT_.out (by kernel_rfl)) (fun _ _ _ h=>h) (Or.inl ⟨by rfl,?_⟩) ?_ ?_
        rotate_left
        ·intro w'
         go_simp
         with_reducible rfl
        rotate_left
        ·simp only[Act.put,List.setIfInBounds_toArray,List.set_cons_zero,List.set_cons_succ,qaf,qag]
         rfl
        refine qaj (i:=9) (N:=some 32) (v:=?_) (a':=?_) #[true,true,true,true,true,true,true,false,true,true,false,false,false,false,false] rfl rfl (qah HT_.out (by kernel_rfl)) (fun _ _ _ h=>h) (Or.inl ⟨by rfl,?_⟩) ?_ ?_
        rotate_left
        ·intro w'
         go_simp
         with_reducible rfl
        rotate_left
        ·simp only[Act.put,List.setIfInBounds_toArray,List.set_cons_zero,List.set_cons_succ,qaf,qag]
         rfl
        refine qaj (i:=10) (N:=some 33) (v:=?_) (a':=?_) #[true,true,true,true,true,true,true,false,true,true,true,false,false,false,false] rfl rfl (qah HT_.out (by kernel_rfl)) (fun _ _ _ h=>h) (Or.inl ⟨by rfl,?_⟩) ?_ ?_
        rotate_left
        ·intro w'
         go_simp
         with_reducible rfl
        rotate_left
        ·simp only[Act.put,List.setIfInBounds_toArray,List.set_cons_zero,List.set_cons_succ,qaf,qag]
         rfl
        refine take_ (i:=7) (N:=some 30) (v:=?_) (a':=?_) #[true,true,true,true,true,true,true,true,true,true,true,false,false,false,false] rfl rfl (qap HT_.out HW_.out (by kernel_rfl)) (fun _ _ _ h=>h) (Or.inl ⟨by rfl,?_⟩) hHeld ?_ ?_
        rotate_left
        ·rintro w' ⟨s0,s1,s2,s3,s4,s5,s6,s7⟩
         go_simp
         with_reducible rfl
        rotate_left
        ·simp only[Act.put,List.setIfInBounds_toArray,List.set_cons_zero,List.set_cons_succ,qaf,qag]
         rfl
        refine take_ (i:=11) (N:=some 34) (v:=?_) (a':=?_) #[true,true,true,true,true,true,true,true,true,true,true,true,false,false,false] rfl rfl (qap HT_.out HW_.out (by kernel_rfl)) (fun _ _ _ h=>h) (Or.inl ⟨by rfl,?_⟩) hHeld ?_ ?_
        rotate_left
        ·rintro w' ⟨s0,s1,s2,s3,s4,s5,s6,s7⟩
         go_simp
         with_reducible rfl
        rotate_left
        ·simp only[Act.put,List.setIfInBounds_toArray,List.set_cons_zero,List.set_cons_succ,qaf,qag]
         rfl
        refine one_ (i:=12) (N:=some 35) #[true,true,true,true,true,true,true,true,true,true,true,true,true,false,false] rfl rfl (one_of HT_.out (by kernel_rfl)) (by decide) (fun K hK=>?_)
        refine goes_ Try.func90 (by kernel_rfl) rfl #[.agg #[.int .i64 x462000_1,.slice Ao20 x462001_1.length co20],.agg #[.int .i64 ((rd_T32 l1 x8_1).f0),.int .i64 ((rd_T32 l1 x8_1).f1),.slice A462_2 ((rd_T32 l1 x8_1).f2).length c462_2]] (by rfl) rfl rfl (by(try simp only[List.map_toArray,List.map_cons,List.map_nil]);first|done|rfl|(simp only[List.length_drop,List.length_take];rfl)) ?_
        with_reducible refine(spec_l2May.calls k1 x462000_1 _ _ x462001_1 ((rd_T32 l1 x8_1).f0) ((rd_T32 l1 x8_1).f1) _ _ ((rd_T32 l1 x8_1).f2) true _ ?side1 ?side2 ?side3 ?side4 A15.out).mono ?_
        (case side1=>repeat(first|exact(Kd.R_reads' HO_462001.out).2.2|(with_reducible refine Kd.C_alloc ?_ _)|(with_reducible refine Kd.C_drewN ?_ _)|(with_reducible refine Kd.C_drew ?_)))
        (case side2=>exact(Kd.R_reads' HO_462001.out).2.1)
        (case side3=>exact zR HR464_2 HB)
        (case side4=>exact HC464_2.out)
        rintro e w21 ⟨rfl,hb⟩
        refine⟨_,rfl,?_⟩
        replace HO_462001:=Aside0.mk (Kd.R_below (za5 HO_462001) hb)
        replace BK455:=Aside0.mk (qaa (zB BK455) hb)
        replace BK461:=Aside0.mk (qaa (zB BK461) hb)
        replace HB:=Aside0.mk (qab (za2 HB GE455 GE461) hb)
        (try clear hb)
        (try clear hb2)
        (try clear hk)
        (try clear hi)
        refine hK.out _ _ ⟨(blk_cell BK461.out 0).trans rfl,(blk_cell BK461.out 1).trans rfl,((HB.out.cell (World.block_lt_of_cell? w _ hw462_0)).trans hw462_0),((HB.out.cell (World.block_lt_of_cell? w _ hw462_1)).trans hw462_1),((HB.out.cell (World.block_lt_of_cell? w _ hw462_2)).trans hw462_2),((HB.out.cell (World.block_lt_of_cell? w _ hw464_0)).trans hw464_0),((HB.out.cell (World.block_lt_of_cell? w _ hw464_1)).trans hw464_1),((HB.out.cell (World.block_lt_of_cell? w _ hw464_2)).trans hw464_2)⟩ (fun hHeld=>?_)
        clear hK K
        refine norm_ (a':=?_) ?_ ?_
        rotate_left
        ·show Act.put _ (some 35) _=_
         simp only[Act.put,List.setIfInBounds_toArray,List.set_cons_zero,List.set_cons_succ,qaf,qag]
         rfl
        refine qaj (i:=13) (N:=some 36) (v:=?_) (a':=?_) #[true,true,true,true,true,true,true,true,true,true,true,true,true,true,false] rfl rfl (qah HT_.out (by kernel_rfl)) (fun _ _ _ h=>h) (Or.inl ⟨by rfl,?_⟩) ?_ ?_
        rotate_left
        ·intro w'
         go_simp
         with_reducible rfl
        rotate_left
        ·simp only[Act.put,List.setIfInBounds_toArray,List.set_cons_zero,List.set_cons_succ,qaf,qag]
         rfl
        refine qaj (i:=14) (N:=some 37) (v:=?_) (a':=?_) #[true,true,true,true,true,true,true,true,true,true,true,true,true,true,true] rfl rfl (qah HT_.out (by kernel_rfl)) (fun _ _ _ h=>h) (Or.inl ⟨by rfl,?_⟩) ?_ ?_
        rotate_left
        ·intro w'
         go_simp
         with_reducible rfl
        rotate_left
        ·simp only[Act.put,List.setIfInBounds_toArray,List.set_cons_zero,List.set_cons_succ,qaf,qag]
         rfl
        refine done_ (done_of HT_.out (by kernel_rfl)) ?_
        try go_wp2
        replace HO_462001:=Aside0.mk (Kd.R_drew HO_462001.out)
        replace BK455:=Aside0.mk (blk_drew BK455.out)
        replace BK461:=Aside0.mk (blk_drew BK461.out)
        replace HB:=Aside0.mk (qao HB.out)
        have p466:0≤(x8_1:Int):=of_decide_eq_true (za9)
        have q466:x8_1<(l1.length:Int):=of_decide_eq_true (za9)
        obtain⟨ad466,A466_2,c466_2,e466,hx466_0,hx466_1,hx466_2,hl466_2,hi466_2⟩:=at_T32 HR1.out x8_1 p466 q466
        have hw466_2:=hx466_2
        have hw466_1:=hx466_1
        have hw466_0:=hx466_0
        obtain rfl:ad462=ad466:=(by injection e466)
        have ea_:=Option.some.inj (hxo462_2.out.symm.trans hx466_2)
        injection ea_ with ea_ en_ ec_
        subst ea_
        subst ec_
        clear en_
        replace hx466_0:=(HB.out.cell (World.block_lt_of_cell? w _ hx466_0)).trans hx466_0
        replace hx466_1:=(HB.out.cell (World.block_lt_of_cell? w _ hx466_1)).trans hx466_1
        replace hx466_2:=(HB.out.cell (World.block_lt_of_cell? w _ hx466_2)).trans hx466_2
        have HR466_2:=Aside0.mk hi466_2
        have HC466_2:=Aside0.mk hl466_2
        clear hi466_2 hl466_2
        replace p466:=eq_true p466
        replace q466:=eq_true q466
        refine start_ (n:=7) (S:=fun w'=>w'.cell? ⟨gb461,0,none⟩=some (.int .i64 x462000_1)∧w'.cell? ⟨gb461,1,none⟩=some (.slice Ao20 x462001_1.length co20)∧w'.cell? (ad462.add ((x8_1).toNat*3))=some (.int .i64 ((rd_T32 l1 x8_1).f0))∧w'.cell? ⟨(ad462.add ((x8_1).toNat*3)).block,(ad462.add ((x8_1).toNat*3)).off+1,none⟩=some (.int .i64 ((rd_T32 l1 x8_1).f1))∧w'.cell? ⟨(ad462.add ((x8_1).toNat*3)).block,(ad462.add ((x8_1).toNat*3)).off+2,none⟩=some (.slice A462_2 ((rd_T32 l1 x8_1).f2).length c462_2)) (ds:=[6]) #[false,false,false,false,false,false,false] (by kernel_rfl) rfl rfl ⟨(blk_cell BK461.out 0).trans rfl,(blk_cell BK461.out 1).trans rfl,((HB.out.cell (World.block_lt_of_cell? w _ hw466_0)).trans hw466_0),((HB.out.cell (World.block_lt_of_cell? w _ hw466_1)).trans hw466_1),((HB.out.cell (World.block_lt_of_cell? w _ hw466_2)).trans hw466_2)⟩ (fun hHeld=>?_)
        generalize w21.drew=w22 at HO_462001 BK455 BK461 HB HR466_2 hx466_0 hx466_1 hx466_2 hHeld ⊢
        refine qaj (i:=1) (N:=some 40) (v:=?_) (a':=?_) #[false,true,false,false,false,false,false] rfl rfl (by kernel_rfl) (fun _ _ _ h=>h) (Or.inl ⟨by rfl,?_⟩) ?_ ?_
        rotate_left
        ·intro w'
         go_simp
         with_reducible rfl
        rotate_left
        ·simp only[Act.put,List.setIfInBounds_toArray,List.set_cons_zero,List.set_cons_succ,qaf,qag]
         rfl
        refine qaj (i:=2) (N:=some 41) (v:=?_) (a':=?_) #[false,true,true,false,false,false,false] rfl rfl (by kernel_rfl) (fun _ _ _ h=>h) (Or.inl ⟨by rfl,?_⟩) ?_ ?_
        rotate_left
        ·intro w'
         go_simp
         with_reducible rfl
        rotate_left
        ·simp only[Act.put,List.setIfInBounds_toArray,List.set_cons_zero,List.set_cons_succ,qaf,qag]
         rfl
        refine qaj (i:=3) (N:=some 42) (v:=?_) (a':=?_) #[false,true,true,true,false,false,false] rfl rfl (by kernel_rfl) (fun _ _ _ h=>h) (Or.inl ⟨by rfl,?_⟩) ?_ ?_
        rotate_left
        ·intro w'
         go_simp
         with_reducible rfl
        rotate_left
        ·simp only[Act.put,List.setIfInBounds_toArray,List.set_cons_zero,List.set_cons_succ,qaf,qag]
         rfl
        refine take_ (i:=0) (N:=some 39) (v:=?_) (a':=?_) #[true,true,true,true,false,false,false] rfl rfl (by kernel_rfl) (fun _ _ _ h=>h) (Or.inl ⟨by rfl,?_⟩) hHeld ?_ ?_
        rotate_left
        ·rintro w' ⟨s0,s1,s2,s3,s4⟩
         go_simp
         with_reducible rfl
        rotate_left
        ·simp only[Act.put,List.setIfInBounds_toArray,List.set_cons_zero,List.set_cons_succ,qaf,qag]
         rfl
        refine take_ (i:=4) (N:=some 43) (v:=?_) (a':=?_) #[true,true,true,true,true,false,false] rfl rfl (by kernel_rfl) (fun _ _ _ h=>h) (Or.inl ⟨by rfl,?_⟩) hHeld ?_ ?_
        rotate_left
        ·rintro w' ⟨s0,s1,s2,s3,s4⟩
         go_simp
         with_reducible rfl
        rotate_left
        ·simp only[Act.put,List.setIfInBounds_toArray,List.set_cons_zero,List.set_cons_succ,qaf,qag]
         rfl
        refine one_ (i:=5) (N:=some 44) #[true,true,true,true,true,true,false] rfl rfl (by kernel_rfl) (by decide) (fun K hK=>?_)
        refine goes_ Try.func61 (by kernel_rfl) rfl #[.agg #[.int .i64 x462000_1,.slice Ao20 x462001_1.length co20],.agg #[.int .i64 ((rd_T32 l1 x8_1).f0),.int .i64 ((rd_T32 l1 x8_1).f1),.slice A462_2 ((rd_T32 l1 x8_1).f2).length c462_2]] (by rfl) rfl rfl (by(try simp only[List.map_toArray,List.map_cons,List.map_nil]);first|done|rfl|(simp only[List.length_drop,List.length_take];rfl)) ?_
        with_reducible refine(spec_l2Do.calls x462000_1 (fun k_=>some k_=(.slice Ao20 x462001_1.length co20:Value).ownBlock) (.slice Ao20 x462001_1.length co20) x462001_1 ((rd_T32 l1 x8_1).f0) ((rd_T32 l1 x8_1).f1) _ _ ((rd_T32 l1 x8_1).f2) t467 t468 w _ ?side1 ?side2 ?side3 ?side4 A17.out).mono ?_
        (case side1=>exact(za2 HB GE455 GE461))
        (case side2=>exact Kd.R_tight rfl HO_462001.out)
        (case side3=>exact Kd.C_kept_came (Kd.heap_int .i64) HR466_2.out (za2 HB GE455 GE461) (fun k_ hs_=>(fun e_=>Kd.R_base HO_462001.out k_ e_.symm) hs_))
        (case side4=>exact HC466_2.out)
        rintro e w23 ⟨v469,rfl,ho0,hb,hkp⟩
        refine⟨_,rfl,?_⟩
        replace BK455:=Aside0.mk (blk_kept (zB BK455) hkp (fun hs_=>(fun e_=>(Kd.R_ne HO_462001.out BK455.out (by decide)) e_) hs_))
        replace BK461:=Aside0.mk (blk_kept (zB BK461) hkp (fun hs_=>(fun e_=>(Kd.R_ne HO_462001.out BK461.out (by decide)) e_) hs_))
        have HO470:=Aside0.mk (Kd.R_mono (ok':=fun k_=>True) ho0 (fun k_ hk_=>trivial))
        replace HB:=Aside0.mk hb
        clear HO_462001
        (try clear hb)
        (try clear hkp)
        (try clear ho0)
        obtain⟨Ao25,co25,eo25⟩:=Kd.R_slice HO470.out
        (first|subst eo25|(injection eo25 with f1_ f2_ f3_;have f4_:=f1_.symm;have f5_:=f3_.symm;clear f1_ f2_ f3_;subst f4_;subst f5_))
        refine hK.out _ _ ⟨(blk_cell BK461.out 0).trans rfl,(blk_cell BK461.out 1).trans rfl,((HB.out.cell (World.block_lt_of_cell? w _ hw466_0)).trans hw466_0),((HB.out.cell (World.block_lt_of_cell? w _ hw466_1)).trans hw466_1),((HB.out.cell (World.block_lt_of_cell? w _ hw466_2)).trans hw466_2)⟩ (fun hHeld=>?_)
        clear hK K
        refine norm_ (a':=?_) ?_ ?_
        rotate_left
        ·show Act.put _ (some 44) _=_
         simp only[Act.put,List.setIfInBounds_toArray,List.set_cons_zero,List.set_cons_succ,qaf,qag]
         rfl
        refine last_ (i:=6) (N:=none) #[true,true,true,true,true,true,true] rfl rfl (by kernel_rfl) (by decide) (fun K hK=>?_)
        have hs24:w23.cell? ⟨gb461,0,none⟩=some (.int .i64 x462000_1):=(blk_cell BK461.out 0).trans rfl
        have hfs24:=blk_frozen BK461.out 0
        have hns24_0:=NB455_461.out
        have hms24_0:=NB461_455.out
        have hs26:w23.cell? ⟨gb461,1,none⟩=some (.slice Ao20 x462001_1.length co20):=(blk_cell BK461.out 1).trans rfl
        have hfs26:=blk_frozen BK461.out 1
        have hns26_0:=NB455_461.out
        have hms26_0:=NB461_455.out
        refine skip_ (w1:=?_) (by rfl) rfl ?_ ?_
        rotate_left
        ·go_simp
         rfl
        refine hK.out _ _ ?_
        clear hK K
        refine done_ (by kernel_rfl) ?_
        try go_wp2
        go_roundg k1
        case measure=>have:=HK1.out;omega
        case rel=>exact⟨(wrap64 (x8_1+1)),(x456000_1),(t467),(t468),(.slice Ao25 t468.length co25),(za43),H',⟨by have:=HK1.out;omega⟩,⟨by(with_reducible repeat(first|apply Kd.R_alloc|apply Kd.R_drewN|apply Kd.R_drew));exact Kd.R_mono (Kd.R_far (p:=⟨gb461,1,none⟩) (Kd.R_far (p:=⟨gb461,0,none⟩) (Kd.R_types HO470.out BK461.out (by decide)) (fun _ hk=>hk.2) (.int .i64 t467)) (fun _ hk=>hk.2) (.slice Ao25 t468.length co25)) (fun _ hk=>trivial)⟩,⟨za0 NB455_461 BK455⟩,⟨by(with_reducible repeat(first|refine blk_drewN ?_ _|refine blk_drew ?_|refine blk_alloc ?_ _));refine qad (cs:=#[.int .i64 t467,.slice Ao20 x462001_1.length co20]) ?_ 1 _ rfl;(with_reducible repeat(first|refine blk_drewN ?_ _|refine blk_drew ?_|refine blk_alloc ?_ _));refine qad (cs:=#[.int .i64 x462000_1,.slice Ao20 x462001_1.length co20]) ?_ 0 _ rfl;(with_reducible repeat(first|refine blk_drewN ?_ _|refine blk_drew ?_|refine blk_alloc ?_ _));exact BK461.out⟩,⟨za2 HB GE455 GE461⟩⟩
       ·replace c16:=Bool.eq_false_iff.mpr c16
        subst c16
        have H1:(some (0,([]:List (S49)),false))=some (r1,r2,r3):=by rw[if_neg (show ¬(false=true) by decide)] at H;exact H
        clear H
        have H:=H1
        clear H1
        simp only[Option.some.injEq,Prod.mk.injEq] at H
        obtain⟨rfl,rfl,rfl⟩:=H
        try go_wp2
        replace HO_462001:=Aside0.mk (Kd.R_drew HO_462001.out)
        replace BK455:=Aside0.mk (blk_drew BK455.out)
        replace BK461:=Aside0.mk (blk_drew BK461.out)
        replace HB:=Aside0.mk (qao HB.out)
        have p462:0≤(x8_1:Int):=of_decide_eq_true (za9)
        have q462:x8_1<(l1.length:Int):=of_decide_eq_true (za9)
        obtain⟨ad462,A462_2,c462_2,e462,hx462_0,hx462_1,hx462_2,hl462_2,hi462_2⟩:=at_T32 HR1.out x8_1 p462 q462
        have hw462_2:=hx462_2
        have hw462_1:=hx462_1
        have hw462_0:=hx462_0
        cases e462
        have hxo462_2:=Aside0.mk hx462_2
        replace hx462_0:=(HB.out.cell (World.block_lt_of_cell? w _ hx462_0)).trans hx462_0
        replace hx462_1:=(HB.out.cell (World.block_lt_of_cell? w _ hx462_1)).trans hx462_1
        replace hx462_2:=(HB.out.cell (World.block_lt_of_cell? w _ hx462_2)).trans hx462_2
        have HR462_2:=Aside0.mk hi462_2
        have HC462_2:=Aside0.mk hl462_2
        clear hi462_2 hl462_2
        replace p462:=eq_true p462
        replace q462:=eq_true q462
        have p464:0≤(x8_1:Int):=of_decide_eq_true (za9)
        have q464:x8_1<(l1.length:Int):=of_decide_eq_true (za9)
        obtain⟨ad464,A464_2,c464_2,e464,hx464_0,hx464_1,hx464_2,hl464_2,hi464_2⟩:=at_T32 HR1.out x8_1 p464 q464
        have hw464_2:=hx464_2
        have hw464_1:=hx464_1
        have hw464_0:=hx464_0
        obtain rfl:ad462=ad464:=(by injection e464)
        have ea_:=Option.some.inj (hxo462_2.out.symm.trans hx464_2)
        injection ea_ with ea_ en_ ec_
        subst ea_
        subst ec_
        clear en_
        replace hx464_0:=(HB.out.cell (World.block_lt_of_cell? w _ hx464_0)).trans hx464_0
        replace hx464_1:=(HB.out.cell (World.block_lt_of_cell? w _ hx464_1)).trans hx464_1
        replace hx464_2:=(HB.out.cell (World.block_lt_of_cell? w _ hx464_2)).trans hx464_2
        have HR464_2:=Aside0.mk hi464_2
        have HC464_2:=Aside0.mk hl464_2
        clear hi464_2 hl464_2
        replace p464:=eq_true p464
        replace q464:=eq_true q464
        refine start_ (n:=15) (S:=fun w'=>w'.cell? ⟨gb461,0,none⟩=some (.int .i64 x462000_1)∧w'.cell? ⟨gb461,1,none⟩=some (u462001)∧w'.cell? (ad462.add ((x8_1).toNat*3))=some (.int .i64 ((rd_T32 l1 x8_1).f0))∧w'.cell? ⟨(ad462.add ((x8_1).toNat*3)).block,(ad462.add ((x8_1).toNat*3)).off+1,none⟩=some (.int .i64 ((rd_T32 l1 x8_1).f1))∧w'.cell? ⟨(ad462.add ((x8_1).toNat*3)).block,(ad462.add ((x8_1).toNat*3)).off+2,none⟩=some (.slice A462_2 ((rd_T32 l1 x8_1).f2).length c462_2)∧w'.cell? (ad462.add ((x8_1).toNat*3))=some (.int .i64 ((rd_T32 l1 x8_1).f0))∧w'.cell? ⟨(ad462.add ((x8_1).toNat*3)).block,(ad462.add ((x8_1).toNat*3)).off+1,none⟩=some (.int .i64 ((rd_T32 l1 x8_1).f1))∧w'.cell? ⟨(ad462.add ((x8_1).toNat*3)).block,(ad462.add ((x8_1).toNat*3)).off+2,none⟩=some (.slice A462_2 ((rd_T32 l1 x8_1).f2).length c462_2)) (ds:=[]) #[false,false,false,false,false,false,false,false,false,false,false,false,false,false,false] (by kernel_rfl) rfl rfl ⟨(blk_cell BK461.out 0).trans rfl,(blk_cell BK461.out 1).trans rfl,((HB.out.cell (World.block_lt_of_cell? w _ hw462_0)).trans hw462_0),((HB.out.cell (World.block_lt_of_cell? w _ hw462_1)).trans hw462_1),((HB.out.cell (World.block_lt_of_cell? w _ hw462_2)).trans hw462_2),((HB.out.cell (World.block_lt_of_cell? w _ hw464_0)).trans hw464_0),((HB.out.cell (World.block_lt_of_cell? w _ hw464_1)).trans hw464_1),((HB.out.cell (World.block_lt_of_cell? w _ hw464_2)).trans hw464_2)⟩ (fun hHeld=>?_);refine with_tabW spec_l2Of.tab7 spec_l2Of.bits7 (fun HT_ HW_=>?_)
        generalize wr.drew=w27 at HO_462001 BK455 BK461 HB HR462_2 HR464_2 hx462_0 hx462_1 hx462_2 hx464_0 hx464_1 hx464_2 hHeld ⊢
        refine qaj (i:=0) (N:=some 23) (v:=?_) (a':=?_) #[true,false,false,false,false,false,false,false,false,false,false,false,false,false,false] rfl rfl (qah HT_.out (by kernel_rfl)) (fun _ _ _ h=>h) (Or.inl ⟨by rfl,?_⟩) ?_ ?_
        rotate_left
        ·intro w'
         go_simp
         with_reducible rfl
        rotate_left
        ·simp only[Act.put,List.setIfInBounds_toArray,List.set_cons_zero,List.set_cons_succ,qaf,qag]
         rfl
        refine qaj (i:=1) (N:=some 24) (v:=?_) (a':=?_) #[true,true,false,false,false,false,false,false,false,false,false,false,false,false,false] rfl rfl (qah HT_.out (by kernel_rfl)) (fun _ _ _ h=>h) (Or.inl ⟨by rfl,?_⟩) ?_ ?_
        rotate_left
        ·intro w'
         go_simp
         with_reducible rfl
        rotate_left
        ·simp only[Act.put,List.setIfInBounds_toArray,List.set_cons_zero,List.set_cons_succ,qaf,qag]
         rfl
        refine qaj (i:=2) (N:=some 25) (v:=?_) (a':=?_) #[true,true,true,false,false,false,false,false,false,false,false,false,false,false,false] rfl rfl (qah HT_.out (by kernel_rfl)) (fun _ _ _ h=>h) (Or.inl ⟨by rfl,?_⟩) ?_ ?_
        rotate_left
        ·intro w'
         go_simp
         with_reducible rfl
        rotate_left
        ·simp only[Act.put,List.setIfInBounds_toArray,List.set_cons_zero,List.set_cons_succ,qaf,qag]
         rfl
        refine take_ (i:=3) (N:=some 26) (v:=?_) (a':=?_) #[true,true,true,true,false,false,false,false,false,false,false,false,false,false,false] rfl rfl (qap HT_.out HW_.out (by kernel_rfl)) (fun _ _ _ h=>h) (Or.inl ⟨by rfl,?_⟩) hHeld ?_ ?_
        rotate_left
        ·rintro w' ⟨s0,s1,s2,s3,s4,s5,s6,s7⟩
         go_simp
         with_reducible rfl
        rotate_left
        ·simp only[Act.put,List.setIfInBounds_toArray,List.set_cons_zero,List.set_cons_succ,qaf,qag]
         rfl
        refine one_ (i:=4) (N:=some 27) #[true,true,true,true,true,false,false,false,false,false,false,false,false,false,false] rfl rfl (one_of HT_.out (by kernel_rfl)) (by decide) (fun K hK=>?_)
        refine goes_ Try.func84 (by kernel_rfl) rfl #[.agg #[.int .i64 ((rd_T32 l1 x8_1).f0),.int .i64 ((rd_T32 l1 x8_1).f1),.slice A462_2 ((rd_T32 l1 x8_1).f2).length c462_2]] (by rfl) rfl rfl (by(try simp only[List.map_toArray,List.map_cons,List.map_nil]);first|done|rfl|(simp only[List.length_drop,List.length_take];rfl)) ?_
        with_reducible refine(spec_RecOk.calls k1 ((rd_T32 l1 x8_1).f0) ((rd_T32 l1 x8_1).f1) _ _ ((rd_T32 l1 x8_1).f2) true _ ?side1 ?side2 A13.out).mono ?_
        (case side1=>exact zR HR462_2 HB)
        (case side2=>exact HC462_2.out)
        rintro e w28 ⟨rfl,hb⟩
        refine⟨_,rfl,?_⟩
        replace HO_462001:=Aside0.mk (Kd.R_below (za5 HO_462001) hb)
        replace BK455:=Aside0.mk (qaa (zB BK455) hb)
        replace BK461:=Aside0.mk (qaa (zB BK461) hb)
        replace HB:=Aside0.mk (qab (za2 HB GE455 GE461) hb)
        (try clear hb)
        (try clear hb2)
        (try clear hk)
        (try clear hi)
        obtain⟨Ao29,co29,eo29⟩:=Kd.R_slice HO_462001.out
        (first|subst eo29|(injection eo29 with f1_ f2_ f3_;have f4_:=f1_.symm;have f5_:=f3_.symm;clear f1_ f2_ f3_;subst f4_;subst f5_))
        refine hK.out _ _ ⟨(blk_cell BK461.out 0).trans rfl,(blk_cell BK461.out 1).trans rfl,((HB.out.cell (World.block_lt_of_cell? w _ hw462_0)).trans hw462_0),((HB.out.cell (World.block_lt_of_cell? w _ hw462_1)).trans hw462_1),((HB.out.cell (World.block_lt_of_cell? w _ hw462_2)).trans hw462_2),((HB.out.cell (World.block_lt_of_cell? w _ hw464_0)).trans hw464_0),((HB.out.cell (World.block_lt_of_cell? w _ hw464_1)).trans hw464_1),((HB.out.cell (World.block_lt_of_cell? w _ hw464_2)).trans hw464_2)⟩ (fun hHeld=>?_)
        clear hK K
        refine norm_ (a':=?_) ?_ ?_
        rotate_left
        ·show Act.put _ (some 27) _=_
         simp only[Act.put,List.setIfInBounds_toArray,List.set_cons_zero,List.set_cons_succ,qaf,qag]
         rfl
        refine qaj (i:=5) (N:=some 28) (v:=?_) (a':=?_) #[true,true,true,true,true,true,false,false,false,false,false,false,false,false,false] rfl rfl (qah HT_.out (by kernel_rfl)) (fun _ _ _ h=>h) (Or.inl ⟨by rfl,?_⟩) ?_ ?_
        rotate_left
        ·intro w'
         go_simp
         with_reducible rfl
        rotate_left
        ·simp only[Act.put,List.setIfInBounds_toArray,List.set_cons_zero,List.set_cons_succ,qaf,qag]
         rfl
        refine qaj (i:=6) (N:=some 29) (v:=?_) (a':=?_) #[true,true,true,true,true,true,true,false,false,false,false,false,false,false,false] rfl rfl (qah HT_.out (by kernel_rfl)) (fun _ _ _ h=>h) (Or.inl ⟨by rfl,?_⟩) ?_ ?_
        rotate_left
        ·intro w'
         go_simp
         with_reducible rfl
        rotate_left
        ·simp only[Act.put,List.setIfInBounds_toArray,List.set_cons_zero,List.set_cons_succ,qaf,qag]
         rfl
        refine qaj (i:=8) (N:=some 31) (v:=?_) (a':=?_) #[true,true,true,true,true,true,true,false,true,false,false,false,false,false,false] rfl rfl (qah HT_.out (by kernel_rfl)) (fun _ _ _ h=>h) (Or.inl ⟨by rfl,?_⟩) ?_ ?_
        rotate_left
        ·intro w'
         go_simp
         with_reducible rfl
        rotate_left
        ·simp only[Act.put,List.setIfInBounds_toArray,List.set_cons_zero,List.set_cons_succ,qaf,qag]
         rfl
        refine qaj (i:=9) (N:=some 32) (v:=?_) (a':=?_) #[true,true,true,true,true,true,true,false,true,true,false,false,false,false,false] rfl rfl (qah HT_.out (by kernel_rfl)) (fun _ _ _ h=>h) (Or.inl ⟨by rfl,?_⟩) ?_ ?_
        rotate_left
        ·intro w'
         go_simp
         with_reducible rfl
        rotate_left
        ·simp only[Act.put,List.setIfInBounds_toArray,List.set_cons_zero,List.set_cons_succ,qaf,qag]
         rfl
        refine qaj (i:=10) (N:=some 33) (v:=?_) (a':=?_) #[true,true,true,true,true,true,true,false,true,true,true,false,false,false,false] rfl rfl (qah HT_.out (by kernel_rfl)) (fun _ _ _ h=>h) (Or.inl ⟨by rfl,?_⟩) ?_ ?_
        rotate_left
        ·intro w'
         go_simp
         with_reducible rfl
        rotate_left
        ·simp only[Act.put,List.setIfInBounds_toArray,List.set_cons_zero,List.set_cons_succ,qaf,qag]
         rfl
        refine take_ (i:=7) (N:=some 30) (v:=?_) (a':=?_) #[true,true,true,true,true,true,true,true,true,true,true,false,false,false,false] rfl rfl (qap HT_.out HW_.out (by kernel_rfl)) (fun _ _ _ h=>h) (Or.inl ⟨by rfl,?_⟩) hHeld ?_ ?_
        rotate_left
        ·rintro w' ⟨s0,s1,s2,s3,s4,s5,s6,s7⟩
         go_simp
         with_reducible rfl
        rotate_left
        ·simp only[Act.put,List.setIfInBounds_toArray,List.set_cons_zero,List.set_cons_succ,qaf,qag]
         rfl
        refine take_ (i:=11) (N:=some 34) (v:=?_) (a':=?_) #[true,true,true,true,true,true,true,true,true,true,true,true,false,false,false] rfl rfl (qap HT_.out HW_.out (by kernel_rfl)) (fun _ _ _ h=>h) (Or.inl ⟨by rfl,?_⟩) hHeld ?_ ?_
        rotate_left
        ·rintro w' ⟨s0,s1,s2,s3,s4,s5,s6,s7⟩
         go_simp
         with_reducible rfl
        rotate_left
        ·simp only[Act.put,List.setIfInBounds_toArray,List.set_cons_zero,List.set_cons_succ,qaf,qag]
         rfl
        refine one_ (i:=12) (N:=some 35) #[true,true,true,true,true,true,true,true,true,true,true,true,true,false,false] rfl rfl (one_of HT_.out (by kernel_rfl)) (by decide) (fun K hK=>?_)
        refine goes_ Try.func90 (by kernel_rfl) rfl #[.agg #[.int .i64 x462000_1,.slice Ao29 x462001_1.length co29],.agg #[.int .i64 ((rd_T32 l1 x8_1).f0),.int .i64 ((rd_T32 l1 x8_1).f1),.slice A462_2 ((rd_T32 l1 x8_1).f2).length c462_2]] (by rfl) rfl rfl (by(try simp only[List.map_toArray,List.map_cons,List.map_nil]);first|done|rfl|(simp only[List.length_drop,List.length_take];rfl)) ?_
        with_reducible refine(spec_l2May.calls k1 x462000_1 _ _ x462001_1 ((rd_T32 l1 x8_1).f0) ((rd_T32 l1 x8_1).f1) _ _ ((rd_T32 l1 x8_1).f2) false _ ?side1 ?side2 ?side3 ?side4 A15.out).mono ?_
        (case side1=>repeat(first|exact(Kd.R_reads' HO_462001.out).2.2|(with_reducible refine Kd.C_alloc ?_ _)|(with_reducible refine Kd.C_drewN ?_ _)|(with_reducible refine Kd.C_drew ?_)))
        (case side2=>exact(Kd.R_reads' HO_462001.out).2.1)
        (case side3=>exact zR HR464_2 HB)
        (case side4=>exact HC464_2.out)
        rintro e w30 ⟨rfl,hb⟩
        refine⟨_,rfl,?_⟩
        replace HO_462001:=Aside0.mk (Kd.R_below (za5 HO_462001) hb)
        replace BK455:=Aside0.mk (qaa (zB BK455) hb)
        replace BK461:=Aside0.mk (qaa (zB BK461) hb)
        replace HB:=Aside0.mk (qab (za2 HB GE455 GE461) hb)
        (try clear hb)
        (try clear hb2)
        (try clear hk)
        (try clear hi)
        refine hK.out _ _ ⟨(blk_cell BK461.out 0).trans rfl,(blk_cell BK461.out 1).trans rfl,((HB.out.cell (World.block_lt_of_cell? w _ hw462_0)).trans hw462_0),((HB.out.cell (World.block_lt_of_cell? w _ hw462_1)).trans hw462_1),((HB.out.cell (World.block_lt_of_cell? w _ hw462_2)).trans hw462_2),((HB.out.cell (World.block_lt_of_cell? w _ hw464_0)).trans hw464_0),((HB.out.cell (World.block_lt_of_cell? w _ hw464_1)).trans hw464_1),((HB.out.cell (World.block_lt_of_cell? w _ hw464_2)).trans hw464_2)⟩ (fun hHeld=>?_)
        clear hK K
        refine norm_ (a':=?_) ?_ ?_
        rotate_left
        ·show Act.put _ (some 35) _=_
         simp only[Act.put,List.setIfInBounds_toArray,List.set_cons_zero,List.set_cons_succ,qaf,qag]
         rfl
        refine qaj (i:=13) (N:=some 36) (v:=?_) (a':=?_) #[true,true,true,true,true,true,true,true,true,true,true,true,true,true,false] rfl rfl (qah HT_.out (by kernel_rfl)) (fun _ _ _ h=>h) (Or.inl ⟨by rfl,?_⟩) ?_ ?_
        rotate_left
        ·intro w'
         go_simp
         with_reducible rfl
        rotate_left
        ·simp only[Act.put,List.setIfInBounds_toArray,List.set_cons_zero,List.set_cons_succ,qaf,qag]
         rfl
        refine qaj (i:=14) (N:=some 37) (v:=?_) (a':=?_) #[true,true,true,true,true,true,true,true,true,true,true,true,true,true,true] rfl rfl (qah HT_.out (by kernel_rfl)) (fun _ _ _ h=>h) (Or.inl ⟨by rfl,?_⟩) ?_ ?_
        rotate_left
        ·intro w'
         go_simp
         with_reducible rfl
        rotate_left
        ·simp only[Act.put,List.setIfInBounds_toArray,List.set_cons_zero,List.set_cons_succ,qaf,qag]
         rfl
        refine done_ (done_of HT_.out (by kernel_rfl)) ?_
        have hnb31:=NB455_461.out
        have hnc31:=NB461_455.out
        obtain⟨hcz32_0,hcz32_1,hfz32_0,hfz32_1⟩:=zC2 BK455
        try go_wp2
        refine bodyPost_ret (results_ct rfl _ _ gb455 38 #[.int .i64 0,.slice none 0 0] (0,0) _ rfl (by(with_reducible repeat(first|refine blk_drewN ?_ _|refine blk_drew ?_|refine blk_alloc ?_ _));refine qad (cs:=#[.int .i64 0,.slice none 0 0]) ?_ 1 _ rfl;(with_reducible repeat(first|refine blk_drewN ?_ _|refine blk_drew ?_|refine blk_alloc ?_ _));refine qad (cs:=#[.int .i64 x456000_1,.slice none 0 0]) ?_ 0 _ rfl;(with_reducible repeat(first|refine blk_drewN ?_ _|refine blk_drew ?_|refine blk_alloc ?_ _));exact BK455.out) Try.underlying38 rfl (by kernel_rfl)) rfl ?_
        exact⟨_,za16,za59,za2 HB GE455 GE461⟩
      ·replace c14:=Bool.eq_false_iff.mpr c14
       subst c14
       have H1:(some (0,([]:List (S49)),false))=some (r1,r2,r3):=by rw[if_neg (show ¬(false=true) by decide)] at H;exact H
       clear H
       have H:=H1
       clear H1
       simp only[Option.some.injEq,Prod.mk.injEq] at H
       obtain⟨rfl,rfl,rfl⟩:=H
       try go_wp2
       replace HO_462001:=Aside0.mk (Kd.R_drew HO_462001.out)
       replace BK455:=Aside0.mk (blk_drew BK455.out)
       replace BK461:=Aside0.mk (blk_drew BK461.out)
       replace HB:=Aside0.mk (qao HB.out)
       have p462:0≤(x8_1:Int):=of_decide_eq_true (za9)
       have q462:x8_1<(l1.length:Int):=of_decide_eq_true (za9)
       obtain⟨ad462,A462_2,c462_2,e462,hx462_0,hx462_1,hx462_2,hl462_2,hi462_2⟩:=at_T32 HR1.out x8_1 p462 q462
       have hw462_2:=hx462_2
       have hw462_1:=hx462_1
       have hw462_0:=hx462_0
       cases e462
       have hxo462_2:=Aside0.mk hx462_2
       replace hx462_0:=(HB.out.cell (World.block_lt_of_cell? w _ hx462_0)).trans hx462_0
       replace hx462_1:=(HB.out.cell (World.block_lt_of_cell? w _ hx462_1)).trans hx462_1
       replace hx462_2:=(HB.out.cell (World.block_lt_of_cell? w _ hx462_2)).trans hx462_2
       have HR462_2:=Aside0.mk hi462_2
       have HC462_2:=Aside0.mk hl462_2
       clear hi462_2 hl462_2
       replace p462:=eq_true p462
       replace q462:=eq_true q462
       refine start_ (n:=15) (S:=fun w'=>w'.cell? (ad462.add ((x8_1).toNat*3))=some (.int .i64 ((rd_T32 l1 x8_1).f0))∧w'.cell? ⟨(ad462.add ((x8_1).toNat*3)).block,(ad462.add ((x8_1).toNat*3)).off+1,none⟩=some (.int .i64 ((rd_T32 l1 x8_1).f1))∧w'.cell? ⟨(ad462.add ((x8_1).toNat*3)).block,(ad462.add ((x8_1).toNat*3)).off+2,none⟩=some (.slice A462_2 ((rd_T32 l1 x8_1).f2).length c462_2)) (ds:=[]) #[false,false,false,false,false,false,false,false,false,false,false,false,false,false,false] (by kernel_rfl) rfl rfl ⟨((HB.out.cell (World.block_lt_of_cell? w _ hw462_0)).trans hw462_0),((HB.out.cell (World.block_lt_of_cell? w _ hw462_1)).trans hw462_1),((HB.out.cell (World.block_lt_of_cell? w _ hw462_2)).trans hw462_2)⟩ (fun hHeld=>?_);refine with_tabW spec_l2Of.tab7 spec_l2Of.bits7 (fun HT_ HW_=>?_)
       generalize wr.drew=w33 at HO_462001 BK455 BK461 HB HR462_2 hx462_0 hx462_1 hx462_2 hHeld ⊢
       refine qaj (i:=0) (N:=some 23) (v:=?_) (a':=?_) #[true,false,false,false,false,false,false,false,false,false,false,false,false,false,false] rfl rfl (qah HT_.out (by kernel_rfl)) (fun _ _ _ h=>h) (Or.inl ⟨by rfl,?_⟩) ?_ ?_
       rotate_left
       ·intro w'
        go_simp
        with_reducible rfl
       rotate_left
       ·simp only[Act.put,List.setIfInBounds_toArray,List.set_cons_zero,List.set_cons_succ,qaf,qag]
        rfl
       refine qaj (i:=1) (N:=some 24) (v:=?_) (a':=?_) #[true,true,false,false,false,false,false,false,false,false,false,false,false,false,false] rfl rfl (qah HT_.out (by kernel_rfl)) (fun _ _ _ h=>h) (Or.inl ⟨by rfl,?_⟩) ?_ ?_
       rotate_left
       ·intro w'
        go_simp
        with_reducible rfl
       rotate_left
       ·simp only[Act.put,List.setIfInBounds_toArray,List.set_cons_zero,List.set_cons_succ,qaf,qag]
        rfl
       refine qaj (i:=2) (N:=some 25) (v:=?_) (a':=?_) #[true,true,true,false,false,false,false,false,false,false,false,false,false,false,false] rfl rfl (qah HT_.out (by kernel_rfl)) (fun _ _ _ h=>h) (Or.inl ⟨by rfl,?_⟩) ?_ ?_
       rotate_left
       ·intro w'
        go_simp
        with_reducible rfl
       rotate_left
       ·simp only[Act.put,List.setIfInBounds_toArray,List.set_cons_zero,List.set_cons_succ,qaf,qag]
        rfl
       refine take_ (i:=3) (N:=some 26) (v:=?_) (a':=?_) #[true,true,true,true,false,false,false,false,false,false,false,false,false,false,false] rfl rfl (qap HT_.out HW_.out (by kernel_rfl)) (fun _ _ _ h=>h) (Or.inl ⟨by rfl,?_⟩) hHeld ?_ ?_
       rotate_left
       ·rintro w' ⟨s0,s1,s2⟩
        go_simp
        with_reducible rfl
       rotate_left
       ·simp only[Act.put,List.setIfInBounds_toArray,List.set_cons_zero,List.set_cons_succ,qaf,qag]
        rfl
       refine one_ (i:=4) (N:=some 27) #[true,true,true,true,true,false,false,false,false,false,false,false,false,false,false] rfl rfl (one_of HT_.out (by kernel_rfl)) (by decide) (fun K hK=>?_)
       refine goes_ Try.func84 (by kernel_rfl) rfl #[.agg #[.int .i64 ((rd_T32 l1 x8_1).f0),.int .i64 ((rd_T32 l1 x8_1).f1),.slice A462_2 ((rd_T32 l1 x8_1).f2).length c462_2]] (by rfl) rfl rfl (by(try simp only[List.map_toArray,List.map_cons,List.map_nil]);first|done|rfl|(simp only[List.length_drop,List.length_take];rfl)) ?_
       with_reducible refine(spec_RecOk.calls k1 ((rd_T32 l1 x8_1).f0) ((rd_T32 l1 x8_1).f1) _ _ ((rd_T32 l1 x8_1).f2) false _ ?side1 ?side2 A13.out).mono ?_
       (case side1=>exact zR HR462_2 HB)
       (case side2=>exact HC462_2.out)
       rintro e w34 ⟨rfl,hb⟩
       refine⟨_,rfl,?_⟩
       replace HO_462001:=Aside0.mk (Kd.R_below (za5 HO_462001) hb)
       replace BK455:=Aside0.mk (qaa (zB BK455) hb)
       replace BK461:=Aside0.mk (qaa (zB BK461) hb)
       replace HB:=Aside0.mk (qab (za2 HB GE455 GE461) hb)
       (try clear hb)
       (try clear hb2)
       (try clear hk)
       (try clear hi)
       refine hK.out _ _ ⟨((HB.out.cell (World.block_lt_of_cell? w _ hw462_0)).trans hw462_0),((HB.out.cell (World.block_lt_of_cell? w _ hw462_1)).trans hw462_1),((HB.out.cell (World.block_lt_of_cell? w _ hw462_2)).trans hw462_2)⟩ (fun hHeld=>?_)
       clear hK K
       refine norm_ (a':=?_) ?_ ?_
       rotate_left
       ·show Act.put _ (some 27) _=_
        simp only[Act.put,List.setIfInBounds_toArray,List.set_cons_zero,List.set_cons_succ,qaf,qag]
        rfl
       refine qaj (i:=5) (N:=some 28) (v:=?_) (a':=?_) #[true,true,true,true,true,true,false,false,false,false,false,false,false,false,false] rfl rfl (qah HT_.out (by kernel_rfl)) (fun _ _ _ h=>h) (Or.inl ⟨by rfl,?_⟩) ?_ ?_
       rotate_left
       ·intro w'
        go_simp
        with_reducible rfl
       rotate_left
       ·simp only[Act.put,List.setIfInBounds_toArray,List.set_cons_zero,List.set_cons_succ,qaf,qag]
        rfl
       refine qaj (i:=6) (N:=some 29) (v:=?_) (a':=?_) #[true,true,true,true,true,true,true,false,false,false,false,false,false,false,false] rfl rfl (qah HT_.out (by kernel_rfl)) (fun _ _ _ h=>h) (Or.inl ⟨by rfl,?_⟩) ?_ ?_
       rotate_left
       ·intro w'
        go_simp
        with_reducible rfl
       rotate_left
       ·simp only[Act.put,List.setIfInBounds_toArray,List.set_cons_zero,List.set_cons_succ,qaf,qag]
        rfl
       refine qaj (i:=7) (N:=some 30) (v:=undef) (a':=?_) #[true,true,true,true,true,true,true,true,false,false,false,false,false,false,false] rfl rfl (qah HT_.out (by kernel_rfl)) (fun _ _ _ h=>h) (Or.inr ⟨by rfl,rfl⟩) ?_ ?_
       rotate_left
       ·simp only[Act.put,List.setIfInBounds_toArray,List.set_cons_zero,List.set_cons_succ,qaf,qag]
        rfl
       refine qaj (i:=8) (N:=some 31) (v:=undef) (a':=?_) #[true,true,true,true,true,true,true,true,true,false,false,false,false,false,false] rfl rfl (qah HT_.out (by kernel_rfl)) (fun _ _ _ h=>h) (Or.inr ⟨by rfl,rfl⟩) ?_ ?_
       rotate_left
       ·simp only[Act.put,List.setIfInBounds_toArray,List.set_cons_zero,List.set_cons_succ,qaf,qag]
        rfl
       refine qaj (i:=9) (N:=some 32) (v:=undef) (a':=?_) #[true,true,true,true,true,true,true,true,true,true,false,false,false,false,false] rfl rfl (qah HT_.out (by kernel_rfl)) (fun _ _ _ h=>h) (Or.inr ⟨by rfl,rfl⟩) ?_ ?_
       rotate_left
       ·simp only[Act.put,List.setIfInBounds_toArray,List.set_cons_zero,List.set_cons_succ,qaf,qag]
        rfl
       refine qaj (i:=10) (N:=some 33) (v:=undef) (a':=?_) #[true,true,true,true,true,true,true,true,true,true,true,false,false,false,false] rfl rfl (qah HT_.out (by kernel_rfl)) (fun _ _ _ h=>h) (Or.inr ⟨by rfl,rfl⟩) ?_ ?_
       rotate_left
       ·simp only[Act.put,List.setIfInBounds_toArray,List.set_cons_zero,List.set_cons_succ,qaf,qag]
        rfl
       refine qaj (i:=11) (N:=some 34) (v:=undef) (a':=?_) #[true,true,true,true,true,true,true,true,true,true,true,true,false,false,false] rfl rfl (qah HT_.out (by kernel_rfl)) (fun _ _ _ h=>h) (Or.inr ⟨by rfl,rfl⟩) ?_ ?_
       rotate_left
       ·simp only[Act.put,List.setIfInBounds_toArray,List.set_cons_zero,List.set_cons_succ,qaf,qag]
        rfl
       refine qaj (i:=12) (N:=some 35) (v:=undef) (a':=?_) #[true,true,true,true,true,true,true,true,true,true,true,true,true,false,false] rfl rfl (qah HT_.out (by kernel_rfl)) (fun _ _ _ h=>h) (Or.inr ⟨by rfl,rfl⟩) ?_ ?_
       rotate_left
       ·simp only[Act.put,List.setIfInBounds_toArray,List.set_cons_zero,List.set_cons_succ,qaf,qag]
        rfl
       refine qaj (i:=13) (N:=some 36) (v:=undef) (a':=?_) #[true,true,true,true,true,true,true,true,true,true,true,true,true,true,false] rfl rfl (qah HT_.out (by kernel_rfl)) (fun _ _ _ h=>h) (Or.inr ⟨by rfl,rfl⟩) ?_ ?_
       rotate_left
       ·simp only[Act.put,List.setIfInBounds_toArray,List.set_cons_zero,List.set_cons_succ,qaf,qag]
        rfl
       refine qaj (i:=14) (N:=some 37) (v:=?_) (a':=?_) #[true,true,true,true,true,true,true,true,true,true,true,true,true,true,true] rfl rfl (qah HT_.out (by kernel_rfl)) (fun _ _ _ h=>h) (Or.inl ⟨by rfl,?_⟩) ?_ ?_
       rotate_left
       ·intro w'
        go_simp
        with_reducible rfl
       rotate_left
       ·simp only[Act.put,List.setIfInBounds_toArray,List.set_cons_zero,List.set_cons_succ,qaf,qag]
        rfl
       refine done_ (done_of HT_.out (by kernel_rfl)) ?_
       have hnb35:=NB455_461.out
       have hnc35:=NB461_455.out
       obtain⟨hcz36_0,hcz36_1,hfz36_0,hfz36_1⟩:=zC2 BK455
       try go_wp2
       refine bodyPost_ret (results_ct rfl _ _ gb455 38 #[.int .i64 0,.slice none 0 0] (0,0) _ rfl (by(with_reducible repeat(first|refine blk_drewN ?_ _|refine blk_drew ?_|refine blk_alloc ?_ _));refine qad (cs:=#[.int .i64 0,.slice none 0 0]) ?_ 1 _ rfl;(with_reducible repeat(first|refine blk_drewN ?_ _|refine blk_drew ?_|refine blk_alloc ?_ _));refine qad (cs:=#[.int .i64 x456000_1,.slice none 0 0]) ?_ 0 _ rfl;(with_reducible repeat(first|refine blk_drewN ?_ _|refine blk_drew ?_|refine blk_alloc ?_ _));exact BK455.out) Try.underlying38 rfl (by kernel_rfl)) rfl ?_
       exact⟨_,za16,za59,za2 HB GE455 GE461⟩
     ·rw[if_neg c12] at H
      exact absurd H (by simp)
    ·rw[if_neg c11] at H
     have c11b0:decide (x8_1<(l1.length:Int))=false:=decide_eq_false c11
     clear c11
     simp only[Option.some.injEq,Prod.mk.injEq] at H
     obtain⟨rfl,rfl,rfl⟩:=H
     have hnb37:=NB461_455.out
     have hnc37:=NB455_461.out
     obtain⟨hcz38_0,hcz38_1,hfz38_0,hfz38_1⟩:=zC2 BK461
     obtain⟨hcz39_0,hcz39_1,hfz39_0,hfz39_1⟩:=zC2 BK455
     obtain⟨Ao40,co40,eo40⟩:=Kd.R_slice HO_462001.out
     subst eo40
     go_wp2
     refine bodyPost_ret (results_ct rfl _ _ gb455 38 #[.int .i64 x462000_1,.slice Ao40 x462001_1.length co40] (0,0) _ rfl (by(with_reducible repeat(first|refine blk_drewN ?_ _|refine blk_drew ?_|refine blk_alloc ?_ _));refine qad (cs:=#[.int .i64 x462000_1,.slice none 0 0]) ?_ 1 _ rfl;(with_reducible repeat(first|refine blk_drewN ?_ _|refine blk_drew ?_|refine blk_alloc ?_ _));refine qad (cs:=#[.int .i64 x456000_1,.slice none 0 0]) ?_ 0 _ rfl;(with_reducible repeat(first|refine blk_drewN ?_ _|refine blk_drew ?_|refine blk_alloc ?_ _));exact BK455.out) Try.underlying38 rfl (by kernel_rfl)) rfl ?_
     exact⟨_,za16,by(with_reducible repeat(first|apply Kd.R_alloc|apply Kd.R_drewN|apply Kd.R_drew));exact Kd.R_mono (Kd.R_far (p:=⟨gb455,1,none⟩) (Kd.R_far (p:=⟨gb455,0,none⟩) (Kd.R_types HO_462001.out BK455.out (by decide)) (fun _ hk=>hk.2) (.int .i64 x462000_1)) (fun _ hk=>hk.2) (.slice Ao40 x462001_1.length co40)) (fun _ hk=>trivial),za2 HB GE455 GE461⟩
 ·replace c4:=Bool.eq_false_iff.mpr c4
  subst c4
  have H1:(some (0,([]:List (S49)),false))=some (r1,r2,r3):=by rw[if_neg (show ¬(false=true) by decide)] at H;exact H
  clear H
  have H:=H1
  clear H1
  simp only[Option.some.injEq,Prod.mk.injEq] at H
  obtain⟨rfl,rfl,rfl⟩:=H
  go_enter Try.func55,Try.ntmps55
  go_wp2_with(first|((with_reducible refine qae (N:=4) rfl ?_);refine zX (N:=4) (cs:=#[.int .i64 0,.slice none 0 0]) (t:=38) ?_;intro gb455 hg w41 hbox hb;have BK455:=Aside0.mk hbox;have GW455:=zH (w:=w) hg (za4 HB);have GE455:=GW455;replace HB:=Aside0.mk (qab (za4 HB) hb);clear hb hbox hg)|((with_reducible refine qac (f:=89) rfl ?_);refine zF (some 11) Try.func89 #[.int .i64 a0] ?_;(with_reducible refine(spec_StockNew.calls a0 t456 t457 false _ A3.out).mono ?_);rintro e w42 ⟨v458,rfl,ho0,hb⟩;refine⟨_,rfl,?_⟩;have HO459:=Aside0.mk (Kd.R_lower ho0 (below_size (za1 HB GE455)));replace BK455:=Aside0.mk (qaa (zB BK455) hb);replace HB:=Aside0.mk (qab (za1 HB GE455) hb);(try clear hb);(try clear ho0))|((with_reducible refine qae (N:=6) rfl ?_);refine zX (N:=6) (cs:=#[.int .i64 0,.slice none 0 0]) (t:=38) ?_;intro gb461 hg w43 hbox hb;replace HO459:=Aside0.mk (Kd.R_below (za5 HO459) hb);have BK461:=Aside0.mk hbox;have GW461:=zH (w:=w) hg (za1 HB GE455);have GE461:=GW461;replace HB:=Aside0.mk (qab (za1 HB GE455) hb);have NB455_461:=zL BK455 hg;have NB461_455:=zG BK455 hg;replace BK455:=Aside0.mk (qaa (zB BK455) hb);clear hb hbox hg;have hnb44:=NB461_455.out;have hnc44:=NB455_461.out;obtain⟨hcz45_0,hcz45_1,hfz45_0,hfz45_1⟩:=zC2 BK461;obtain⟨Ao46,co46,eo46⟩:=Kd.R_slice HO459.out;subst eo46;obtain⟨hcz47_0,hcz47_1,hfz47_0,hfz47_1⟩:=zC2 BK455))
  refine bodyPost_ret (results_ct rfl _ _ gb455 38 #[.int .i64 0,.slice none 0 0] (0,0) _ rfl (by(with_reducible repeat(first|refine blk_drewN ?_ _|refine blk_drew ?_|refine blk_alloc ?_ _));refine qad (cs:=#[.int .i64 0,.slice none 0 0]) ?_ 1 _ rfl;(with_reducible repeat(first|refine blk_drewN ?_ _|refine blk_drew ?_|refine blk_alloc ?_ _));refine qad (cs:=#[.int .i64 0,.slice none 0 0]) ?_ 0 _ rfl;(with_reducible repeat(first|refine blk_drewN ?_ _|refine blk_drew ?_|refine blk_alloc ?_ _));refine blk_far ?_ NB455_461.out _;(with_reducible repeat(first|refine blk_drewN ?_ _|refine blk_drew ?_|refine blk_alloc ?_ _));refine blk_far ?_ NB455_461.out _;(with_reducible repeat(first|refine blk_drewN ?_ _|refine blk_drew ?_|refine blk_alloc ?_ _));exact BK455.out) Try.underlying38 rfl (by kernel_rfl)) rfl ?_
  exact⟨_,za16,za59,za2 HB GE455 GE461⟩
end Go.Proofs.Ytmbdphefnalenaa.Print
