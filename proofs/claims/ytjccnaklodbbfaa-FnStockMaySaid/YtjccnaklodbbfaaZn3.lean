-- Written by squeeze.py: not trusted, Lean checks it.
import Derived.Test.YtjccnaklodbbfaaZK
import Derived.Test.YtjccnaklodbbfaaZc0
import Derived.Test.YtjccnaklodbbfaaZl1
import Derived.Test.YtjccnaklodbbfaaZm0
import Derived.Test.YtjccnaklodbbfaaZn0
namespace Go.Proofs.Ytjccnaklodbbfaa.Print
open Go.RowKit Go.Proofs.YtjccnaklodbbfaaW.PrintWords Go.Proofs.YtjccnaklodbbfaaW.PrintLast Go.Proofs.YtjccnaklodbbfaaW.PrintMore
attribute [local go_sem] max2_int min2_int max_two min_two max_three min_three max_four min_four
set_option linter.unusedVariables false
set_option linter.unusedSimpArgs false
def spec_l2Of.l0:Nat→List (S62)→Int→Int→List (S46)→Option (Int × (List (S46)) × Bool)
 |0,_,_,_,_=>none
 |k+1,x1,x8,x380000,x380001=>if x8<(x1.length:Int) then(if 0≤x8 then((spec_RecOk.f k ((rd_T62 x1 x8).f0) ((rd_T62 x1 x8).f1) ((rd_T62 x1 x8).f2)).bind fun t381=>(if t381=true then((spec_l2May.f k x380000 x380001 ((rd_T62 x1 x8).f0) ((rd_T62 x1 x8).f1) ((rd_T62 x1 x8).f2)).bind fun t383=>(if t383=true then((spec_l2Do.f x380000 x380001 ((rd_T62 x1 x8).f0) ((rd_T62 x1 x8).f1) ((rd_T62 x1 x8).f2)).bind fun bt385=>(spec_l2Of.l0 k x1 (wrap64 (x8+1)) bt385.1 bt385.2)) else(some (0,([]:List (S46)),false)))) else(some (0,([]:List (S46)),false)))) else(none)) else(some (x380000,x380001,true))
def spec_l2Of.f (k:Nat) (a0:Int) (l1:List (S62)):Option (Int × (List (S46)) × Bool):=(spec_StockNew.f a0).bind fun bt374=>(if bt374.2.2=true then(spec_l2Of.l0 k l1 0 bt374.1 bt374.2.1) else(some (0,([]:List (S46)),false)))
theorem spec_l2Of.mono_l:∀k,(∀y0 y1 y2 y3,LeO (spec_l2Of.l0 k y0 y1 y2 y3) (spec_l2Of.l0 (k+1) y0 y1 y2 y3))
 |0=>fun _ _ _ _ r h=>by simp[spec_l2Of.l0] at h
 |k+1=>by
  have ih0:=spec_l2Of.mono_l k
  ·intro y0 y1 y2 y3
   unfold spec_l2Of.l0
   repeat' first
   |(with_reducible exact ih0 _ _ _ _)
   |(with_reducible exact spec_RecOk.mono _ _ _ _)
   |(with_reducible exact spec_l2May.mono _ _ _ _ _ _)
   |(with_reducible exact LeO.refl _)
   |(with_reducible exact LeO.none _)
   |(with_reducible refine LeO.ite ?_ ?_)
   |(with_reducible refine LeO.bind ?_ (fun _=>?_))
   |exact ih0 _ _ _ _
   |exact spec_RecOk.mono _ _ _ _
   |exact spec_l2May.mono _ _ _ _ _ _
   |exact LeO.none _
   |refine LeO.ite ?_ ?_
   |refine LeO.bind ?_ (fun _=>?_)
theorem spec_l2Of.mono:∀a0 a1 k,LeO (spec_l2Of.f k a0 a1) (spec_l2Of.f (k+1) a0 a1):=by
 intro a0 a1 k
 have ih0:=spec_l2Of.mono_l k
 unfold spec_l2Of.f
 repeat' first
   |(with_reducible exact ih0 _ _ _ _)
   |(with_reducible exact spec_RecOk.mono _ _ _ _)
   |(with_reducible exact spec_l2May.mono _ _ _ _ _ _)
   |(with_reducible exact LeO.refl _)
   |(with_reducible exact LeO.none _)
   |(with_reducible refine LeO.ite ?_ ?_)
   |(with_reducible refine LeO.bind ?_ (fun _=>?_))
   |exact ih0 _ _ _ _
   |exact spec_RecOk.mono _ _ _ _
   |exact spec_l2May.mono _ _ _ _ _ _
   |exact LeO.none _
   |refine LeO.ite ?_ ?_
   |refine LeO.bind ?_ (fun _=>?_)
def spec_l2Of.T7:Bool × List (List Nat × List Nat):=(true,[([],[]),([],[]),([0,1],[0,1]),([2],[2]),([3],[3]),([4],[4]),([5,4],[5]),([6],[6]),([6],[6]),([6],[6]),([8,9,6],[6,8,9]),([10,6],[6,10]),([7,11,6,6],[6,7,11]),([12,6],[6,12]),([6,13],[6,13])])
def spec_l2Of.B7:List Nat:=[0,0,3,7,15,31,63,127,127,127,895,1919,4095,8191,16383]
theorem spec_l2Of.tab7:rtab .any (opsOf Try.f125 7)=spec_l2Of.T7:=by kernel_rfl
theorem spec_l2Of.bits7:waitsOk spec_l2Of.T7.2 spec_l2Of.B7=true:=by kernel_rfl
set_option maxHeartbeats 8000000 in
set_option maxRecDepth 100000 in
theorem spec_l2Of.calls (k:Nat) (a0:Int) (A1:Option Addr) (c1:Nat) (l1:List (S62)) (r1:Int) (r2:List (S46)) (r3:Bool) (w:World) (hr1:Kd.C k62 w A1 l1.length l1) (hc1:l1.length≤c1) (h:spec_l2Of.f k a0 l1=some (r1,r2,r3)) :
  Calls Try.prog 125 #[.int .i64 a0,.slice A1 l1.length c1] w fun e w'=>∃v1_:Value,e=.returned (.tuple #[.agg #[.int .i64 r1,v1_],.bool r3])∧Kd.R k46 46 w' w.heap.size (fun _=>True) v1_ r2∧Below w.heap.size w w':=by
 have hu36:=Try.underlying36
 have hu62:=Try.underlying62
 have HR1:=Aside0.mk hr1
 have HC1:=Aside0.mk hc1
 clear hr1 hc1
 have HB:=Aside0.mk (Below.refl w.heap.size w)
 have H:((spec_StockNew.f a0).bind fun bt374=>(if bt374.2.2=true then(spec_l2Of.l0 k l1 0 bt374.1 bt374.2.1) else(some (0,([]:List (S46)),false))))=some (r1,r2,r3):=h
 clear h
 replace H:=Option.bind_eq_some_iff.mp H
 obtain⟨⟨t374,t375,t378⟩,A30,H⟩:=H
 replace H:(if t378=true then(spec_l2Of.l0 k l1 0 t374 t375) else(some (0,([]:List (S46)),false)))=some (r1,r2,r3):=H
 have A3:=Aside0.mk A30
 clear A30
 by_cases c4:t378=true
 ·subst c4
  have H1:(spec_l2Of.l0 k l1 0 t374 t375)=some (r1,r2,r3):=by rw[if_pos rfl] at H;exact H
  clear H
  have H:=H1
  clear H1
  have H':=Aside0.mk H
  clear H
  go_enter Try.func125,Try.ntmps125
  go_wp2_with(first|((with_reducible refine qah (N:=4) rfl ?_);refine zX (N:=4) (cs:=#[.int .i64 0,.slice none 0 0]) (t:=36) ?_;intro gb373 hg w5 hbox hb;have BK373:=Aside0.mk hbox;have GW373:=zH (w:=w) hg (za1 HB);have GE373:=GW373;replace HB:=Aside0.mk (qab (za1 HB) hb);clear hb hbox hg)|((with_reducible refine qaf (f:=21) rfl ?_);refine zF (some 11) Try.func21 #[.int .i64 a0] ?_;(with_reducible refine(spec_StockNew.calls a0 t374 t375 true _ A3.out).mono ?_);rintro e w6 ⟨v376,rfl,ho0,hb⟩;refine⟨_,rfl,?_⟩;have HO377:=Aside0.mk (Kd.R_lower ho0 (below_size (za0 HB GE373)));replace BK373:=Aside0.mk (qaa (zB BK373) hb);replace HB:=Aside0.mk (qab (za0 HB GE373) hb);(try clear hb);(try clear ho0))|((with_reducible refine qah (N:=6) rfl ?_);refine zX (N:=6) (cs:=#[.int .i64 0,.slice none 0 0]) (t:=36) ?_;intro gb379 hg w7 hbox hb;replace HO377:=Aside0.mk (Kd.R_below (za3 HO377) hb);have BK379:=Aside0.mk hbox;have GW379:=zH (w:=w) hg (za0 HB GE373);have GE379:=GW379;replace HB:=Aside0.mk (qab (za0 HB GE373) hb);have NB373_379:=zL BK373 hg;have NB379_373:=zG BK373 hg;replace BK373:=Aside0.mk (qaa (zB BK373) hb);clear hb hbox hg;have hnb8:=NB379_373.out;have hnc8:=NB373_379.out;obtain⟨hcz9_0,hcz9_1,hfz9_0,hfz9_1⟩:=zC2 BK379;obtain⟨Ao10,co10,eo10⟩:=Kd.R_slice HO377.out;subst eo10))
  go_loopg [8] k (fun kq v8 w'=>∃(x8_1:Int) (x374000_1:Int) (x380000_1:Int) (x380001_1:List (S46)) (u380001:Value),v8=.int .i64 x8_1∧Aside0 (spec_l2Of.l0 kq l1 x8_1 x380000_1 x380001_1=some (r1,r2,r3))∧Aside0 (kq≤k)∧Aside0 (Kd.R k46 46 w' w.heap.size (fun _=>True) u380001 x380001_1)∧Aside0 (w'.heap[gb373]?=some (.cells #[.int .i64 x374000_1,(.slice none 0 0)] 36 (0,0)))∧Aside0 (w'.heap[gb379]?=some (.cells #[.int .i64 x380000_1,u380001] 36 (0,0)))∧Aside0 (Below w.heap.size w w'))
  case atStart=>exact⟨(0),(0),(t374),(t375),(.slice Ao10 t375.length co10),(za17),H',⟨Nat.le_refl _⟩,⟨by(with_reducible repeat(first|apply Kd.R_alloc|apply Kd.R_drewN|apply Kd.R_drew));exact Kd.R_mono (Kd.R_far (p:=⟨gb379,1,none⟩) (Kd.R_far (p:=⟨gb379,0,none⟩) (Kd.R_types HO377.out BK379.out (by decide)) (fun _ hk=>hk.2) (.int .i64 t374)) (fun _ hk=>hk.2) (.slice Ao10 t375.length co10)) (fun _ hk=>trivial)⟩,⟨za4 NB373_379 BK373⟩,⟨by(with_reducible repeat(first|refine blk_drewN ?_ _|refine blk_drew ?_|refine blk_alloc ?_ _));refine qai (cs:=#[.int .i64 t374,.slice none 0 0]) ?_ 1 _ rfl;(with_reducible repeat(first|refine blk_drewN ?_ _|refine blk_drew ?_|refine blk_alloc ?_ _));refine qai (cs:=#[.int .i64 0,.slice none 0 0]) ?_ 0 _ rfl;(with_reducible repeat(first|refine blk_drewN ?_ _|refine blk_drew ?_|refine blk_alloc ?_ _));exact BK379.out⟩,⟨za2 HB GE373 GE379⟩⟩
  case round=>
   clear H'
   try clear c1
   try clear c2
   try clear p2
   try clear c4
   try clear c8
   try clear hcz9_0
   try clear hcz9_1
   try clear hfz9_0
   try clear hfz9_1
   obtain⟨x8_1,x374000_1,x380000_1,x380001_1,u380001,rfl,HA,HK1,HO_380001,BK373,BK379,HB⟩:=hrel
   cases gk with
   |zero=>exact absurd HA.out (by simp[spec_l2Of.l0])
   |succ k1=>
    have H:=HA.out
    clear HA
    simp only[spec_l2Of.l0] at H
    by_cases c11:x8_1<(l1.length:Int)
    ·rw[if_pos c11] at H
     have c11b0:decide (x8_1<(l1.length:Int))=true:=decide_eq_true c11
     clear c11
     by_cases c12:0≤x8_1
     ·rw[if_pos c12] at H
      have c12b0:decide (0≤x8_1)=true:=decide_eq_true c12
      clear c12
      replace H:=Option.bind_eq_some_iff.mp H
      obtain⟨t381,A130,H⟩:=H
      replace H:(if t381=true then((spec_l2May.f k1 x380000_1 x380001_1 ((rd_T62 l1 x8_1).f0) ((rd_T62 l1 x8_1).f1) ((rd_T62 l1 x8_1).f2)).bind fun t383=>(if t383=true then((spec_l2Do.f x380000_1 x380001_1 ((rd_T62 l1 x8_1).f0) ((rd_T62 l1 x8_1).f1) ((rd_T62 l1 x8_1).f2)).bind fun bt385=>(spec_l2Of.l0 k1 l1 (wrap64 (x8_1+1)) bt385.1 bt385.2)) else(some (0,([]:List (S46)),false)))) else(some (0,([]:List (S46)),false)))=some (r1,r2,r3):=H
      have A13:=Aside0.mk A130
      clear A130
      by_cases c14:t381=true
      ·subst c14
       have H1:((spec_l2May.f k1 x380000_1 x380001_1 ((rd_T62 l1 x8_1).f0) ((rd_T62 l1 x8_1).f1) ((rd_T62 l1 x8_1).f2)).bind fun t383=>(if t383=true then((spec_l2Do.f x380000_1 x380001_1 ((rd_T62 l1 x8_1).f0) ((rd_T62 l1 x8_1).f1) ((rd_T62 l1 x8_1).f2)).bind fun bt385=>(spec_l2Of.l0 k1 l1 (wrap64 (x8_1+1)) bt385.1 bt385.2)) else(some (0,([]:List (S46)),false))))=some (r1,r2,r3):=by rw[if_pos rfl] at H;exact H
       clear H
       have H:=H1
       clear H1
       replace H:=Option.bind_eq_some_iff.mp H
       obtain⟨t383,A150,H⟩:=H
       replace H:(if t383=true then((spec_l2Do.f x380000_1 x380001_1 ((rd_T62 l1 x8_1).f0) ((rd_T62 l1 x8_1).f1) ((rd_T62 l1 x8_1).f2)).bind fun bt385=>(spec_l2Of.l0 k1 l1 (wrap64 (x8_1+1)) bt385.1 bt385.2)) else(some (0,([]:List (S46)),false)))=some (r1,r2,r3):=H
       have A15:=Aside0.mk A150
       clear A150
       by_cases c16:t383=true
       ·subst c16
        have H1:((spec_l2Do.f x380000_1 x380001_1 ((rd_T62 l1 x8_1).f0) ((rd_T62 l1 x8_1).f1) ((rd_T62 l1 x8_1).f2)).bind fun bt385=>(spec_l2Of.l0 k1 l1 (wrap64 (x8_1+1)) bt385.1 bt385.2))=some (r1,r2,r3):=by rw[if_pos rfl] at H;exact H
        clear H
        have H:=H1
        clear H1
        replace H:=Option.bind_eq_some_iff.mp H
        obtain⟨⟨t385,t386⟩,A170,H⟩:=H
        replace H:(spec_l2Of.l0 k1 l1 (wrap64 (x8_1+1)) t385 t386)=some (r1,r2,r3):=H
        have A17:=Aside0.mk A170
        clear A170
        have H':=Aside0.mk H
        clear H
        try go_wp2
        replace HO_380001:=Aside0.mk (Kd.R_drew HO_380001.out)
        replace BK373:=Aside0.mk (blk_drew BK373.out)
        replace BK379:=Aside0.mk (blk_drew BK379.out)
        replace HB:=Aside0.mk (qae HB.out)
        have p380:0≤(x8_1:Int):=of_decide_eq_true (za5)
        have q380:x8_1<(l1.length:Int):=of_decide_eq_true (za5)
        obtain⟨ad380,A380_2,c380_2,e380,hx380_0,hx380_1,hx380_2,hl380_2,hi380_2⟩:=at_T62 HR1.out x8_1 p380 q380
        have hw380_2:=hx380_2
        have hw380_1:=hx380_1
        have hw380_0:=hx380_0
        cases e380
        have hxo380_2:=Aside0.mk hx380_2
        replace hx380_0:=(HB.out.cell (World.block_lt_of_cell? w _ hx380_0)).trans hx380_0
        replace hx380_1:=(HB.out.cell (World.block_lt_of_cell? w _ hx380_1)).trans hx380_1
        replace hx380_2:=(HB.out.cell (World.block_lt_of_cell? w _ hx380_2)).trans hx380_2
        have HR380_2:=Aside0.mk hi380_2
        have HC380_2:=Aside0.mk hl380_2
        clear hi380_2 hl380_2
        replace p380:=eq_true p380
        replace q380:=eq_true q380
        have p382:0≤(x8_1:Int):=of_decide_eq_true (za5)
        have q382:x8_1<(l1.length:Int):=of_decide_eq_true (za5)
        obtain⟨ad382,A382_2,c382_2,e382,hx382_0,hx382_1,hx382_2,hl382_2,hi382_2⟩:=at_T62 HR1.out x8_1 p382 q382
        have hw382_2:=hx382_2
        have hw382_1:=hx382_1
        have hw382_0:=hx382_0
        obtain rfl:ad380=ad382:=(by injection e382)
        have ea_:=Option.some.inj (hxo380_2.out.symm.trans hx382_2)
        injection ea_ with ea_ en_ ec_
        subst ea_
        subst ec_
        clear en_
        replace hx382_0:=(HB.out.cell (World.block_lt_of_cell? w _ hx382_0)).trans hx382_0
        replace hx382_1:=(HB.out.cell (World.block_lt_of_cell? w _ hx382_1)).trans hx382_1
        replace hx382_2:=(HB.out.cell (World.block_lt_of_cell? w _ hx382_2)).trans hx382_2
        have HR382_2:=Aside0.mk hi382_2
        have HC382_2:=Aside0.mk hl382_2
        clear hi382_2 hl382_2
        replace p382:=eq_true p382
        replace q382:=eq_true q382
        refine start_ (n:=15) (S:=fun w'=>w'.cell? ⟨gb379,0,none⟩=some (.int .i64 x380000_1)∧w'.cell? ⟨gb379,1,none⟩=some (u380001)∧w'.cell? (ad380.add ((x8_1).toNat*3))=some (.int .i64 ((rd_T62 l1 x8_1).f0))∧w'.cell? ⟨(ad380.add ((x8_1).toNat*3)).block,(ad380.add ((x8_1).toNat*3)).off+1,none⟩=some (.int .i64 ((rd_T62 l1 x8_1).f1))∧w'.cell? ⟨(ad380.add ((x8_1).toNat*3)).block,(ad380.add ((x8_1).toNat*3)).off+2,none⟩=some (.slice A380_2 ((rd_T62 l1 x8_1).f2).length c380_2)∧w'.cell? (ad380.add ((x8_1).toNat*3))=some (.int .i64 ((rd_T62 l1 x8_1).f0))∧w'.cell? ⟨(ad380.add ((x8_1).toNat*3)).block,(ad380.add ((x8_1).toNat*3)).off+1,none⟩=some (.int .i64 ((rd_T62 l1 x8_1).f1))∧w'.cell? ⟨(ad380.add ((x8_1).toNat*3)).block,(ad380.add ((x8_1).toNat*3)).off+2,none⟩=some (.slice A380_2 ((rd_T62 l1 x8_1).f2).length c380_2)) (ds:=[]) #[false,false,false,false,false,false,false,false,false,false,false,false,false,false,false] (by kernel_rfl) rfl rfl ⟨(blk_cell BK379.out 0).trans rfl,(blk_cell BK379.out 1).trans rfl,((HB.out.cell (World.block_lt_of_cell? w _ hw380_0)).trans hw380_0),((HB.out.cell (World.block_lt_of_cell? w _ hw380_1)).trans hw380_1),((HB.out.cell (World.block_lt_of_cell? w _ hw380_2)).trans hw380_2),((HB.out.cell (World.block_lt_of_cell? w _ hw382_0)).trans hw382_0),((HB.out.cell (World.block_lt_of_cell? w _ hw382_1)).trans hw382_1),((HB.out.cell (World.block_lt_of_cell? w _ hw382_2)).trans hw382_2)⟩ (fun hHeld=>?_);refine with_tabW spec_l2Of.tab7 spec_l2Of.bits7 (fun HT_ HW_=>?_)
        generalize wr.drew=w18 at HO_380001 BK373 BK379 HB HR380_2 HR382_2 hx380_0 hx380_1 hx380_2 hx382_0 hx382_1 hx382_2 hHeld ⊢
        refine qar (i:=0) (N:=some 23) (v:=?_) (a':=?_) #[true,false,false,false,false,false,false,false,false,false,false,false,false,false,false] rfl rfl (qan HT_.out (by kernel_rfl)) (fun _ _ _ h=>h) (Or.inl ⟨by rfl,?_⟩) ?_ ?_
        rotate_left
        ·intro w'
         go_simp
         with_reducible rfl
        rotate_left
        ·simp only[Act.put,List.setIfInBounds_toArray,List.set_cons_zero,List.set_cons_succ,qaj,qak]
         rfl
        refine qar (i:=1) (N:=some 24) (v:=?_) (a':=?_) #[true,true,false,false,false,false,false,false,false,false,false,false,false,false,false] rfl rfl (qan HT_.out (by kernel_rfl)) (fun _ _ _ h=>h) (Or.inl ⟨by rfl,?_⟩) ?_ ?_
        rotate_left
        ·intro w'
         go_simp
         with_reducible rfl
        rotate_left
        ·simp only[Act.put,List.setIfInBounds_toArray,List.set_cons_zero,List.set_cons_succ,qaj,qak]
         rfl
        refine qar (i:=2) (N:=some 25) (v:=?_) (a':=?_) #[true,true,true,false,false,false,false,false,false,false,false,false,false,false,false] rfl rfl (qan HT_.out (by kernel_rfl)) (fun _ _ _ h=>h) (Or.inl ⟨by rfl,?_⟩) ?_ ?_
        rotate_left
        ·intro w'
         go_simp
         with_reducible rfl
        rotate_left
        ·simp only[Act.put,List.setIfInBounds_toArray,List.set_cons_zero,List.set_cons_succ,qaj,qak]
         rfl
        refine take_ (i:=3) (N:=some 26) (v:=?_) (a':=?_) #[true,true,true,true,false,false,false,false,false,false,false,false,false,false,false] rfl rfl (take_ofW HT_.out HW_.out (by kernel_rfl)) (fun _ _ _ h=>h) (Or.inl ⟨by rfl,?_⟩) hHeld ?_ ?_
        rotate_left
        ·rintro w' ⟨s0,s1,s2,s3,s4,s5,s6,s7⟩
         go_simp
         with_reducible rfl
        rotate_left
        ·simp only[Act.put,List.setIfInBounds_toArray,List.set_cons_zero,List.set_cons_succ,qaj,qak]
         rfl
        refine one_ (i:=4) (N:=some 27) #[true,true,true,true,true,false,false,false,false,false,false,false,false,false,false] rfl rfl (one_of HT_.out (by kernel_rfl)) (by decide) (fun K hK=>?_)
        refine goes_ Try.func44 (by kernel_rfl) rfl #[.agg #[.int .i64 ((rd_T62 l1 x8_1).f0),.int .i64 ((rd_T62 l1 x8_1).f1),.slice A380_2 ((rd_T62 l1 x8_1).f2).length c380_2]] (by rfl) rfl rfl (by(try simp only[List.map_toArray,List.map_cons,List.map_nil]);first|done|rfl|(simp only[List.length_drop,List.length_take];rfl)) ?_
        with_reducible refine(spec_RecOk.calls k1 ((rd_T62 l1 x8_1).f0) ((rd_T62 l1 x8_1).f1) _ _ ((rd_T62 l1 x8_1).f2) true _ ?side1 ?side2 A13.out).mono ?_
        (case side1=>exact zR HR380_2 HB)
        (case side2=>exact HC380_2.out)
        rintro e w19 ⟨rfl,hb⟩
        refine⟨_,rfl,?_⟩
        replace HO_380001:=Aside0.mk (Kd.R_below (za3 HO_380001) hb)
        replace BK373:=Aside0.mk (qaa (zB BK373) hb)
        replace BK379:=Aside0.mk (qaa (zB BK379) hb)
        replace HB:=Aside0.mk (qab (za2 HB GE373 GE379) hb)
        (try clear hb)
        (try clear hb2)
        (try clear hk)
        (try clear hi)
        obtain⟨Ao20,co20,eo20⟩:=Kd.R_slice HO_380001.out
        (first|subst eo20|(injection eo20 with f1_ f2_ f3_;have f4_:=f1_.symm;have f5_:=f3_.symm;clear f1_ f2_ f3_;subst f4_;subst f5_))
        refine hK.out _ _ ⟨(blk_cell BK379.out 0).trans rfl,(blk_cell BK379.out 1).trans rfl,((HB.out.cell (World.block_lt_of_cell? w _ hw380_0)).trans hw380_0),((HB.out.cell (World.block_lt_of_cell? w _ hw380_1)).trans hw380_1),((HB.out.cell (World.block_lt_of_cell? w _ hw380_2)).trans hw380_2),((HB.out.cell (World.block_lt_of_cell? w _ hw382_0)).trans hw382_0),((HB.out.cell (World.block_lt_of_cell? w _ hw382_1)).trans hw382_1),((HB.out.cell (World.block_lt_of_cell? w _ hw382_2)).trans hw382_2)⟩ (fun hHeld=>?_)
        clear hK K
        refine norm_ (a':=?_) ?_ ?_
        rotate_left
        ·show Act.put _ (some 27) _=_
         simp only[Act.put,List.setIfInBounds_toArray,List.set_cons_zero,List.set_cons_succ,qaj,qak]
         rfl
        refine qar (i:=5) (N:=some 28) (v:=?_) (a':=?_) #[true,true,true,true,true,true,false,false,false,false,false,false,false,false,false] rfl rfl (qan HT_.out (by kernel_rfl)) (fun _ _ _ h=>h) (Or.inl ⟨by rfl,?_⟩) ?_ ?_
        rotate_left
        ·intro w'
         go_simp
         with_reducible rfl
        rotate_left
        ·simp only[Act.put,List.setIfInBounds_toArray,List.set_cons_zero,List.set_cons_succ,qaj,qak]
         rfl
        refine qar (i:=6) (N:=some 29) (v:=?_) (a':=?_) #[true,true,true,true,true,true,true,false,false,false,false,false,false,false,false] rfl rfl (qan HT_.out (by kernel_rfl)) (fun _ _ _ h=>h) (Or.inl ⟨by rfl,?_⟩) ?_ ?_
        rotate_left
        ·intro w'
         go_simp
         with_reducible rfl
        rotate_left
        ·simp only[Act.put,List.setIfInBounds_toArray,List.set_cons_zero,List.set_cons_succ,qaj,qak]
         rfl
        refine qar (i:=8) (N:=some 31) (v:=?_) (a':=?_) #[true,true,true,true,true,true,true,false,true,false,false,false,false,false,false] rfl rfl (qan HT_.out (by kernel_rfl)) (fun _ _ _ h=>h) (Or.inl ⟨by rfl,?_⟩) ?_ ?_
        rotate_left
        ·intro w'
         go_simp
         with_reducible rfl
        rotate_left
        ·simp only[Act.put,List.setIfInBounds_toArray,List.set_cons_zero,List.set_cons_succ,qaj,qak]
         rfl
        refine qar (i:=9) (N:=some 32) (v:=?_) (a':=?_) #[true,true,true,true,true,true,true,false,true,true,false,false,false,false,false] rfl rfl (qan HT_.out (by kernel_rfl)) (fun _ _ _ h=>h) (Or.inl ⟨by rfl,?_⟩) ?_ ?_
        rotate_left
        ·intro w'
         go_simp
         with_reducible rfl
        rotate_left
        ·simp only[Act.put,List.setIfInBounds_toArray,List.set_cons_zero,List.set_cons_succ,qaj,qak]
         rfl
        refine qar (i:=10) (N:=some 33) (v:=?_) (a':=?_) #[true,true,true,true,true,true,true,false,true,true,true,false,false,false,false] rfl rfl (qan HT_.out (by kernel_rfl)) (fun _ _ _ h=>h) (Or.inl ⟨by rfl,?_⟩) ?_ ?_
        rotate_left
        ·intro w'
         go_simp
         with_reducible rfl
        rotate_left
        ·simp only[Act.put,List.setIfInBounds_toArray,List.set_cons_zero,List.set_cons_succ,qaj,qak]
         rfl
        refine take_ (i:=7) (N:=some 30) (v:=?_) (a':=?_) #[true,true,true,true,true,true,true,true,true,true,true,false,false,false,false] rfl rfl (take_ofW HT_.out HW_.out (by kernel_rfl)) (fun _ _ _ h=>h) (Or.inl ⟨by rfl,?_⟩) hHeld ?_ ?_
        rotate_left
        ·rintro w' ⟨s0,s1,s2,s3,s4,s5,s6,s7⟩
         go_simp
         with_reducible rfl
        rotate_left
        ·simp only[Act.put,List.setIfInBounds_toArray,List.set_cons_zero,List.set_cons_succ,qaj,qak]
         rfl
        refine take_ (i:=11) (N:=some 34) (v:=?_) (a':=?_) #[true,true,true,true,true,true,true,true,true,true,true,true,false,false,false] rfl rfl (take_ofW HT_.out HW_.out (by kernel_rfl)) (fun _ _ _ h=>h) (Or.inl ⟨by rfl,?_⟩) hHeld ?_ ?_
        rotate_left
        ·rintro w' ⟨s0,s1,s2,s3,s4,s5,s6,s7⟩
         go_simp
         with_reducible rfl
        rotate_left
        ·simp only[Act.put,List.setIfInBounds_toArray,List.set_cons_zero,List.set_cons_succ,qaj,qak]
         rfl
        refine one_ (i:=12) (N:=some 35) #[true,true,true,true,true,true,true,true,true,true,true,true,true,false,false] rfl rfl (one_of HT_.out (by kernel_rfl)) (by decide) (fun K hK=>?_)
        refine goes_ Try.func79 (by kernel_rfl) rfl #[.agg #[.int .i64 x380000_1,.slice Ao20 x380001_1.length co20],.agg #[.int .i64 ((rd_T62 l1 x8_1).f0),.int .i64 ((rd_T62 l1 x8_1).f1),.slice A380_2 ((rd_T62 l1 x8_1).f2).length c380_2]] (by rfl) rfl rfl (by(try simp only[List.map_toArray,List.map_cons,List.map_nil]);first|done|rfl|(simp only[List.length_drop,List.length_take];rfl)) ?_
        with_reducible refine(spec_l2May.calls k1 x380000_1 _ _ x380001_1 ((rd_T62 l1 x8_1).f0) ((rd_T62 l1 x8_1).f1) _ _ ((rd_T62 l1 x8_1).f2) true _ ?side1 ?side2 ?side3 ?side4 A15.out).mono ?_
        (case side1=>repeat(first|exact(Kd.R_reads' HO_380001.out).2.2|(with_reducible refine Kd.C_alloc ?_ _)|(with_reducible refine Kd.C_drewN ?_ _)|(with_reducible refine Kd.C_drew ?_)))
        (case side2=>exact(Kd.R_reads' HO_380001.out).2.1)
        (case side3=>exact zR HR382_2 HB)
        (case side4=>exact HC382_2.out)
        rintro e w21 ⟨rfl,hb⟩
        refine⟨_,rfl,?_⟩
        replace HO_380001:=Aside0.mk (Kd.R_below (za3 HO_380001) hb)
        replace BK373:=Aside0.mk (qaa (zB BK373) hb)
        replace BK379:=Aside0.mk (qaa (zB BK379) hb)
        replace HB:=Aside0.mk (qab (za2 HB GE373 GE379) hb)
        (try clear hb)
        (try clear hb2)
        (try clear hk)
        (try clear hi)
        refine hK.out _ _ ⟨(blk_cell BK379.out 0).trans rfl,(blk_cell BK379.out 1).trans rfl,((HB.out.cell (World.block_lt_of_cell? w _ hw380_0)).trans hw380_0),((HB.out.cell (World.block_lt_of_cell? w _ hw380_1)).trans hw380_1),((HB.out.cell (World.block_lt_of_cell? w _ hw380_2)).trans hw380_2),((HB.out.cell (World.block_lt_of_cell? w _ hw382_0)).trans hw382_0),((HB.out.cell (World.block_lt_of_cell? w _ hw382_1)).trans hw382_1),((HB.out.cell (World.block_lt_of_cell? w _ hw382_2)).trans hw382_2)⟩ (fun hHeld=>?_)
        clear hK K
        refine norm_ (a':=?_) ?_ ?_
        rotate_left
        ·show Act.put _ (some 35) _=_
         simp only[Act.put,List.setIfInBounds_toArray,List.set_cons_zero,List.set_cons_succ,qaj,qak]
         rfl
        refine qar (i:=13) (N:=some 36) (v:=?_) (a':=?_) #[true,true,true,true,true,true,true,true,true,true,true,true,true,true,false] rfl rfl (qan HT_.out (by kernel_rfl)) (fun _ _ _ h=>h) (Or.inl ⟨by rfl,?_⟩) ?_ ?_
        rotate_left
        ·intro w'
         go_simp
         with_reducible rfl
        rotate_left
        ·simp only[Act.put,List.setIfInBounds_toArray,List.set_cons_zero,List.set_cons_succ,qaj,qak]
         rfl
        refine qar (i:=14) (N:=some 37) (v:=?_) (a':=?_) #[true,true,true,true,true,true,true,true,true,true,true,true,true,true,true] rfl rfl (qan HT_.out (by kernel_rfl)) (fun _ _ _ h=>h) (Or.inl ⟨by rfl,?_⟩) ?_ ?_
        rotate_left
        ·intro w'
         go_simp
         with_reducible rfl
        rotate_left
        ·simp only[Act.put,List.setIfInBounds_toArray,List.set_cons_zero,List.set_cons_succ,qaj,qak]
         rfl
        refine done_ (done_of HT_.out (by kernel_rfl)) ?_
        try go_wp2
        replace HO_380001:=Aside0.mk (Kd.R_drew HO_380001.out)
        replace BK373:=Aside0.mk (blk_drew BK373.out)
        replace BK379:=Aside0.mk (blk_drew BK379.out)
        replace HB:=Aside0.mk (qae HB.out)
        have p384:0≤(x8_1:Int):=of_decide_eq_true (za5)
        have q384:x8_1<(l1.length:Int):=of_decide_eq_true (za5)
        obtain⟨ad384,A384_2,c384_2,e384,hx384_0,hx384_1,hx384_2,hl384_2,hi384_2⟩:=at_T62 HR1.out x8_1 p384 q384
        have hw384_2:=hx384_2
        have hw384_1:=hx384_1
        have hw384_0:=hx384_0
        obtain rfl:ad380=ad384:=(by injection e384)
        have ea_:=Option.some.inj (hxo380_2.out.symm.trans hx384_2)
        injection ea_ with ea_ en_ ec_
        subst ea_
        subst ec_
        clear en_
        replace hx384_0:=(HB.out.cell (World.block_lt_of_cell? w _ hx384_0)).trans hx384_0
        replace hx384_1:=(HB.out.cell (World.block_lt_of_cell? w _ hx384_1)).trans hx384_1
        replace hx384_2:=(HB.out.cell (World.block_lt_of_cell? w _ hx384_2)).trans hx384_2
        have HR384_2:=Aside0.mk hi384_2
        have HC384_2:=Aside0.mk hl384_2
        clear hi384_2 hl384_2
        replace p384:=eq_true p384
        replace q384:=eq_true q384
        refine start_ (n:=7) (S:=fun w'=>w'.cell? ⟨gb379,0,none⟩=some (.int .i64 x380000_1)∧w'.cell? ⟨gb379,1,none⟩=some (.slice Ao20 x380001_1.length co20)∧w'.cell? (ad380.add ((x8_1).toNat*3))=some (.int .i64 ((rd_T62 l1 x8_1).f0))∧w'.cell? ⟨(ad380.add ((x8_1).toNat*3)).block,(ad380.add ((x8_1).toNat*3)).off+1,none⟩=some (.int .i64 ((rd_T62 l1 x8_1).f1))∧w'.cell? ⟨(ad380.add ((x8_1).toNat*3)).block,(ad380.add ((x8_1).toNat*3)).off+2,none⟩=some (.slice A380_2 ((rd_T62 l1 x8_1).f2).length c380_2)) (ds:=[6]) #[false,false,false,false,false,false,false] (by kernel_rfl) rfl rfl ⟨(blk_cell BK379.out 0).trans rfl,(blk_cell BK379.out 1).trans rfl,((HB.out.cell (World.block_lt_of_cell? w _ hw384_0)).trans hw384_0),((HB.out.cell (World.block_lt_of_cell? w _ hw384_1)).trans hw384_1),((HB.out.cell (World.block_lt_of_cell? w _ hw384_2)).trans hw384_2)⟩ (fun hHeld=>?_)
        generalize w21.drew=w22 at HO_380001 BK373 BK379 HB HR384_2 hx384_0 hx384_1 hx384_2 hHeld ⊢
        refine qar (i:=1) (N:=some 40) (v:=?_) (a':=?_) #[false,true,false,false,false,false,false] rfl rfl (by kernel_rfl) (fun _ _ _ h=>h) (Or.inl ⟨by rfl,?_⟩) ?_ ?_
        rotate_left
        ·intro w'
         go_simp
         with_reducible rfl
        rotate_left
        ·simp only[Act.put,List.setIfInBounds_toArray,List.set_cons_zero,List.set_cons_succ,qaj,qak]
         rfl
        refine qar (i:=2) (N:=some 41) (v:=?_) (a':=?_) #[false,true,true,false,false,false,false] rfl rfl (by kernel_rfl) (fun _ _ _ h=>h) (Or.inl ⟨by rfl,?_⟩) ?_ ?_
        rotate_left
        ·intro w'
         go_simp
         with_reducible rfl
        rotate_left
        ·simp only[Act.put,List.setIfInBounds_toArray,List.set_cons_zero,List.set_cons_succ,qaj,qak]
         rfl
        refine qar (i:=3) (N:=some 42) (v:=?_) (a':=?_) #[false,true,true,true,false,false,false] rfl rfl (by kernel_rfl) (fun _ _ _ h=>h) (Or.inl ⟨by rfl,?_⟩) ?_ ?_
        rotate_left
        ·intro w'
         go_simp
         with_reducible rfl
        rotate_left
        ·simp only[Act.put,List.setIfInBounds_toArray,List.set_cons_zero,List.set_cons_succ,qaj,qak]
         rfl
        refine take_ (i:=0) (N:=some 39) (v:=?_) (a':=?_) #[true,true,true,true,false,false,false] rfl rfl (by kernel_rfl) (fun _ _ _ h=>h) (Or.inl ⟨by rfl,?_⟩) hHeld ?_ ?_
        rotate_left
        ·rintro w' ⟨s0,s1,s2,s3,s4⟩
         go_simp
         with_reducible rfl
        rotate_left
        ·simp only[Act.put,List.setIfInBounds_toArray,List.set_cons_zero,List.set_cons_succ,qaj,qak]
         rfl
        refine take_ (i:=4) (N:=some 43) (v:=?_) (a':=?_) #[true,true,true,true,true,false,false] rfl rfl (by kernel_rfl) (fun _ _ _ h=>h) (Or.inl ⟨by rfl,?_⟩) hHeld ?_ ?_
        rotate_left
        ·rintro w' ⟨s0,s1,s2,s3,s4⟩
         go_simp
         with_reducible rfl
        rotate_left
        ·simp only[Act.put,List.setIfInBounds_toArray,List.set_cons_zero,List.set_cons_succ,qaj,qak]
         rfl
        refine one_ (i:=5) (N:=some 44) #[true,true,true,true,true,true,false] rfl rfl (by kernel_rfl) (by decide) (fun K hK=>?_)
        refine goes_ Try.func130 (by kernel_rfl) rfl #[.agg #[.int .i64 x380000_1,.slice Ao20 x380001_1.length co20],.agg #[.int .i64 ((rd_T62 l1 x8_1).f0),.int .i64 ((rd_T62 l1 x8_1).f1),.slice A380_2 ((rd_T62 l1 x8_1).f2).length c380_2]] (by rfl) rfl rfl (by(try simp only[List.map_toArray,List.map_cons,List.map_nil]);first|done|rfl|(simp only[List.length_drop,List.length_take];rfl)) ?_
        with_reducible refine(spec_l2Do.calls x380000_1 (fun k_=>some k_=(.slice Ao20 x380001_1.length co20:Value).ownBlock) (.slice Ao20 x380001_1.length co20) x380001_1 ((rd_T62 l1 x8_1).f0) ((rd_T62 l1 x8_1).f1) _ _ ((rd_T62 l1 x8_1).f2) t385 t386 w _ ?side1 ?side2 ?side3 ?side4 A17.out).mono ?_
        (case side1=>exact(za2 HB GE373 GE379))
        (case side2=>exact Kd.R_tight rfl HO_380001.out)
        (case side3=>exact Kd.C_kept_came (Kd.heap_int .i64) HR384_2.out (za2 HB GE373 GE379) (fun k_ hs_=>(fun e_=>Kd.R_base HO_380001.out k_ e_.symm) hs_))
        (case side4=>exact HC384_2.out)
        rintro e w23 ⟨v387,rfl,ho0,hb,hkp⟩
        refine⟨_,rfl,?_⟩
        replace BK373:=Aside0.mk (blk_kept (zB BK373) hkp (fun hs_=>(fun e_=>(Kd.R_ne HO_380001.out BK373.out (by decide)) e_) hs_))
        replace BK379:=Aside0.mk (blk_kept (zB BK379) hkp (fun hs_=>(fun e_=>(Kd.R_ne HO_380001.out BK379.out (by decide)) e_) hs_))
        have HO388:=Aside0.mk (Kd.R_mono (ok':=fun k_=>True) ho0 (fun k_ hk_=>trivial))
        replace HB:=Aside0.mk hb
        clear HO_380001
        (try clear hb)
        (try clear hkp)
        (try clear ho0)
        obtain⟨Ao25,co25,eo25⟩:=Kd.R_slice HO388.out
        (first|subst eo25|(injection eo25 with f1_ f2_ f3_;have f4_:=f1_.symm;have f5_:=f3_.symm;clear f1_ f2_ f3_;subst f4_;subst f5_))
        refine hK.out _ _ ⟨(blk_cell BK379.out 0).trans rfl,(blk_cell BK379.out 1).trans rfl,((HB.out.cell (World.block_lt_of_cell? w _ hw384_0)).trans hw384_0),((HB.out.cell (World.block_lt_of_cell? w _ hw384_1)).trans hw384_1),((HB.out.cell (World.block_lt_of_cell? w _ hw384_2)).trans hw384_2)⟩ (fun hHeld=>?_)
        clear hK K
        refine norm_ (a':=?_) ?_ ?_
        rotate_left
        ·show Act.put _ (some 44) _=_
         simp only[Act.put,List.setIfInBounds_toArray,List.set_cons_zero,List.set_cons_succ,qaj,qak]
         rfl
        refine last_ (i:=6) (N:=none) #[true,true,true,true,true,true,true] rfl rfl (by kernel_rfl) (by decide) (fun K hK=>?_)
        have hs24:w23.cell? ⟨gb379,0,none⟩=some (.int .i64 x380000_1):=(blk_cell BK379.out 0).trans rfl
        have hfs24:=blk_frozen BK379.out 0
        have hns24_0:=NB373_379.out
        have hms24_0:=NB379_373.out
        have hs26:w23.cell? ⟨gb379,1,none⟩=some (.slice Ao20 x380001_1.length co20):=(blk_cell BK379.out 1).trans rfl
        have hfs26:=blk_frozen BK379.out 1
        have hns26_0:=NB373_379.out
        have hms26_0:=NB379_373.out
        refine skip_ (w1:=?_) (by rfl) rfl ?_ ?_
        rotate_left
        ·go_simp
         rfl
        refine hK.out _ _ ?_
        clear hK K
        refine done_ (by kernel_rfl) ?_
        try go_wp2
        go_roundg k1
        case measure=>have:=HK1.out;omega
        case rel=>exact⟨(wrap64 (x8_1+1)),(x374000_1),(t385),(t386),(.slice Ao25 t386.length co25),(za17),H',⟨by have:=HK1.out;omega⟩,⟨by(with_reducible repeat(first|apply Kd.R_alloc|apply Kd.R_drewN|apply Kd.R_drew));exact Kd.R_mono (Kd.R_far (p:=⟨gb379,1,none⟩) (Kd.R_far (p:=⟨gb379,0,none⟩) (Kd.R_types HO388.out BK379.out (by decide)) (fun _ hk=>hk.2) (.int .i64 t385)) (fun _ hk=>hk.2) (.slice Ao25 t386.length co25)) (fun _ hk=>trivial)⟩,⟨za4 NB373_379 BK373⟩,⟨by(with_reducible repeat(first|refine blk_drewN ?_ _|refine blk_drew ?_|refine blk_alloc ?_ _));refine qai (cs:=#[.int .i64 t385,.slice Ao20 x380001_1.length co20]) ?_ 1 _ rfl;(with_reducible repeat(first|refine blk_drewN ?_ _|refine blk_drew ?_|refine blk_alloc ?_ _));refine qai (cs:=#[.int .i64 x380000_1,.slice Ao20 x380001_1.length co20]) ?_ 0 _ rfl;(with_reducible repeat(first|refine blk_drewN ?_ _|refine blk_drew ?_|refine blk_alloc ?_ _));exact BK379.out⟩,⟨za2 HB GE373 GE379⟩⟩
       ·replace c16:=Bool.eq_false_iff.mpr c16
        subst c16
        have H1:(some (0,([]:List (S46)),false))=some (r1,r2,r3):=by rw[if_neg (show ¬(false=true) by decide)] at H;exact H
        clear H
        have H:=H1
        clear H1
        simp only[Option.some.injEq,Prod.mk.injEq] at H
        obtain⟨rfl,rfl,rfl⟩:=H
        try go_wp2
        replace HO_380001:=Aside0.mk (Kd.R_drew HO_380001.out)
        replace BK373:=Aside0.mk (blk_drew BK373.out)
        replace BK379:=Aside0.mk (blk_drew BK379.out)
        replace HB:=Aside0.mk (qae HB.out)
        have p380:0≤(x8_1:Int):=of_decide_eq_true (za5)
        have q380:x8_1<(l1.length:Int):=of_decide_eq_true (za5)
        obtain⟨ad380,A380_2,c380_2,e380,hx380_0,hx380_1,hx380_2,hl380_2,hi380_2⟩:=at_T62 HR1.out x8_1 p380 q380
        have hw380_2:=hx380_2
        have hw380_1:=hx380_1
        have hw380_0:=hx380_0
        cases e380
        have hxo380_2:=Aside0.mk hx380_2
        replace hx380_0:=(HB.out.cell (World.block_lt_of_cell? w _ hx380_0)).trans hx380_0
        replace hx380_1:=(HB.out.cell (World.block_lt_of_cell? w _ hx380_1)).trans hx380_1
        replace hx380_2:=(HB.out.cell (World.block_lt_of_cell? w _ hx380_2)).trans hx380_2
        have HR380_2:=Aside0.mk hi380_2
        have HC380_2:=Aside0.mk hl380_2
        clear hi380_2 hl380_2
        replace p380:=eq_true p380
        replace q380:=eq_true q380
        have p382:0≤(x8_1:Int):=of_decide_eq_true (za5)
        have q382:x8_1<(l1.length:Int):=of_decide_eq_true (za5)
        obtain⟨ad382,A382_2,c382_2,e382,hx382_0,hx382_1,hx382_2,hl382_2,hi382_2⟩:=at_T62 HR1.out x8_1 p382 q382
        have hw382_2:=hx382_2
        have hw382_1:=hx382_1
        have hw382_0:=hx382_0
        obtain rfl:ad380=ad382:=(by injection e382)
        have ea_:=Option.some.inj (hxo380_2.out.symm.trans hx382_2)
        injection ea_ with ea_ en_ ec_
        subst ea_
        subst ec_
        clear en_
        replace hx382_0:=(HB.out.cell (World.block_lt_of_cell? w _ hx382_0)).trans hx382_0
        replace hx382_1:=(HB.out.cell (World.block_lt_of_cell? w _ hx382_1)).trans hx382_1
        replace hx382_2:=(HB.out.cell (World.block_lt_of_cell? w _ hx382_2)).trans hx382_2
        have HR382_2:=Aside0.mk hi382_2
        have HC382_2:=Aside0.mk hl382_2
        clear hi382_2 hl382_2
        replace p382:=eq_true p382
        replace q382:=eq_true q382
        refine start_ (n:=15) (S:=fun w'=>w'.cell? ⟨gb379,0,none⟩=some (.int .i64 x380000_1)∧w'.cell? ⟨gb379,1,none⟩=some (u380001)∧w'.cell? (ad380.add ((x8_1).toNat*3))=some (.int .i64 ((rd_T62 l1 x8_1).f0))∧w'.cell? ⟨(ad380.add ((x8_1).toNat*3)).block,(ad380.add ((x8_1).toNat*3)).off+1,none⟩=some (.int .i64 ((rd_T62 l1 x8_1).f1))∧w'.cell? ⟨(ad380.add ((x8_1).toNat*3)).block,(ad380.add ((x8_1).toNat*3)).off+2,none⟩=some (.slice A380_2 ((rd_T62 l1 x8_1).f2).length c380_2)∧w'.cell? (ad380.add ((x8_1).toNat*3))=some (.int .i64 ((rd_T62 l1 x8_1).f0))∧w'.cell? ⟨(ad380.add ((x8_1).toNat*3)).block,(ad380.add ((x8_1).toNat*3)).off+1,none⟩=some (.int .i64 ((rd_T62 l1 x8_1).f1))∧w'.cell? ⟨(ad380.add ((x8_1).toNat*3)).block,(ad380.add ((x8_1).toNat*3)).off+2,none⟩=some (.slice A380_2 ((rd_T62 l1 x8_1).f2).length c380_2)) (ds:=[]) #[false,false,false,false,false,false,false,false,false,false,false,false,false,false,false] (by kernel_rfl) rfl rfl ⟨(blk_cell BK379.out 0).trans rfl,(blk_cell BK379.out 1).trans rfl,((HB.out.cell (World.block_lt_of_cell? w _ hw380_0)).trans hw380_0),((HB.out.cell (World.block_lt_of_cell? w _ hw380_1)).trans hw380_1),((HB.out.cell (World.block_lt_of_cell? w _ hw380_2)).trans hw380_2),((HB.out.cell (World.block_lt_of_cell? w _ hw382_0)).trans hw382_0),((HB.out.cell (World.block_lt_of_cell? w _ hw382_1)).trans hw382_1),((HB.out.cell (World.block_lt_of_cell? w _ hw382_2)).trans hw382_2)⟩ (fun hHeld=>?_);refine with_tabW spec_l2Of.tab7 spec_l2Of.bits7 (fun HT_ HW_=>?_)
        generalize wr.drew=w27 at HO_380001 BK373 BK379 HB HR380_2 HR382_2 hx380_0 hx380_1 hx380_2 hx382_0 hx382_1 hx382_2 hHeld ⊢
        refine qar (i:=0) (N:=some 23) (v:=?_) (a':=?_) #[true,false,false,false,false,false,false,false,false,false,false,false,false,false,false] rfl rfl (qan HT_.out (by kernel_rfl)) (fun _ _ _ h=>h) (Or.inl ⟨by rfl,?_⟩) ?_ ?_
        rotate_left
        ·intro w'
         go_simp
         with_reducible rfl
        rotate_left
        ·simp only[Act.put,List.setIfInBounds_toArray,List.set_cons_zero,List.set_cons_succ,qaj,qak]
         rfl
        refine qar (i:=1) (N:=some 24) (v:=?_) (a':=?_) #[true,true,false,false,false,false,false,false,false,false,false,false,false,false,false] rfl rfl (qan HT_.out (by kernel_rfl)) (fun _ _ _ h=>h) (Or.inl ⟨by rfl,?_⟩) ?_ ?_
        rotate_left
        ·intro w'
         go_simp
         with_reducible rfl
        rotate_left
        ·simp only[Act.put,List.setIfInBounds_toArray,List.set_cons_zero,List.set_cons_succ,qaj,qak]
         rfl
        refine qar (i:=2) (N:=some 25) (v:=?_) (a':=?_) #[true,true,true,false,false,false,false,false,false,false,false,false,false,false,false] rfl rfl (qan HT_.out (by kernel_rfl)) (fun _ _ _ h=>h) (Or.inl ⟨by rfl,?_⟩) ?_ ?_
        rotate_left
        ·intro w'
         go_simp
         with_reducible rfl
        rotate_left
        ·simp only[Act.put,List.setIfInBounds_toArray,List.set_cons_zero,List.set_cons_succ,qaj,qak]
         rfl
        refine take_ (i:=3) (N:=some 26) (v:=?_) (a':=?_) #[true,true,true,true,false,false,false,false,false,false,false,false,false,false,false] rfl rfl (take_ofW HT_.out HW_.out (by kernel_rfl)) (fun _ _ _ h=>h) (Or.inl ⟨by rfl,?_⟩) hHeld ?_ ?_
        rotate_left
        ·rintro w' ⟨s0,s1,s2,s3,s4,s5,s6,s7⟩
         go_simp
         with_reducible rfl
        rotate_left
        ·simp only[Act.put,List.setIfInBounds_toArray,List.set_cons_zero,List.set_cons_succ,qaj,qak]
         rfl
        refine one_ (i:=4) (N:=some 27) #[true,true,true,true,true,false,false,false,false,false,false,false,false,false,false] rfl rfl (one_of HT_.out (by kernel_rfl)) (by decide) (fun K hK=>?_)
        refine goes_ Try.func44 (by kernel_rfl) rfl #[.agg #[.int .i64 ((rd_T62 l1 x8_1).f0),.int .i64 ((rd_T62 l1 x8_1).f1),.slice A380_2 ((rd_T62 l1 x8_1).f2).length c380_2]] (by rfl) rfl rfl (by(try simp only[List.map_toArray,List.map_cons,List.map_nil]);first|done|rfl|(simp only[List.length_drop,List.length_take];rfl)) ?_
        with_reducible refine(spec_RecOk.calls k1 ((rd_T62 l1 x8_1).f0) ((rd_T62 l1 x8_1).f1) _ _ ((rd_T62 l1 x8_1).f2) true _ ?side1 ?side2 A13.out).mono ?_
        (case side1=>exact zR HR380_2 HB)
        (case side2=>exact HC380_2.out)
        rintro e w28 ⟨rfl,hb⟩
        refine⟨_,rfl,?_⟩
        replace HO_380001:=Aside0.mk (Kd.R_below (za3 HO_380001) hb)
        replace BK373:=Aside0.mk (qaa (zB BK373) hb)
        replace BK379:=Aside0.mk (qaa (zB BK379) hb)
        replace HB:=Aside0.mk (qab (za2 HB GE373 GE379) hb)
        (try clear hb)
        (try clear hb2)
        (try clear hk)
        (try clear hi)
        obtain⟨Ao29,co29,eo29⟩:=Kd.R_slice HO_380001.out
        (first|subst eo29|(injection eo29 with f1_ f2_ f3_;have f4_:=f1_.symm;have f5_:=f3_.symm;clear f1_ f2_ f3_;subst f4_;subst f5_))
        refine hK.out _ _ ⟨(blk_cell BK379.out 0).trans rfl,(blk_cell BK379.out 1).trans rfl,((HB.out.cell (World.block_lt_of_cell? w _ hw380_0)).trans hw380_0),((HB.out.cell (World.block_lt_of_cell? w _ hw380_1)).trans hw380_1),((HB.out.cell (World.block_lt_of_cell? w _ hw380_2)).trans hw380_2),((HB.out.cell (World.block_lt_of_cell? w _ hw382_0)).trans hw382_0),((HB.out.cell (World.block_lt_of_cell? w _ hw382_1)).trans hw382_1),((HB.out.cell (World.block_lt_of_cell? w _ hw382_2)).trans hw382_2)⟩ (fun hHeld=>?_)
        clear hK K
        refine norm_ (a':=?_) ?_ ?_
        rotate_left
        ·show Act.put _ (some 27) _=_
         simp only[Act.put,List.setIfInBounds_toArray,List.set_cons_zero,List.set_cons_succ,qaj,qak]
         rfl
        refine qar (i:=5) (N:=some 28) (v:=?_) (a':=?_) #[true,true,true,true,true,true,false,false,false,false,false,false,false,false,false] rfl rfl (qan HT_.out (by kernel_rfl)) (fun _ _ _ h=>h) (Or.inl ⟨by rfl,?_⟩) ?_ ?_
        rotate_left
        ·intro w'
         go_simp
         with_reducible rfl
        rotate_left
        ·simp only[Act.put,List.setIfInBounds_toArray,List.set_cons_zero,List.set_cons_succ,qaj,qak]
         rfl
        refine qar (i:=6) (N:=some 29) (v:=?_) (a':=?_) #[true,true,true,true,true,true,true,false,false,false,false,false,false,false,false] rfl rfl (qan HT_.out (by kernel_rfl)) (fun _ _ _ h=>h) (Or.inl ⟨by rfl,?_⟩) ?_ ?_
        rotate_left
        ·intro w'
         go_simp
         with_reducible rfl
        rotate_left
        ·simp only[Act.put,List.setIfInBounds_toArray,List.set_cons_zero,List.set_cons_succ,qaj,qak]
         rfl
        refine qar (i:=8) (N:=some 31) (v:=?_) (a':=?_) #[true,true,true,true,true,true,true,false,true,false,false,false,false,false,false] rfl rfl (qan HT_.out (by kernel_rfl)) (fun _ _ _ h=>h) (Or.inl ⟨by rfl,?_⟩) ?_ ?_
        rotate_left
        ·intro w'
         go_simp
         with_reducible rfl
        rotate_left
        ·simp only[Act.put,List.setIfInBounds_toArray,List.set_cons_zero,List.set_cons_succ,qaj,qak]
         rfl
        refine qar (i:=9) (N:=some 32) (v:=?_) (a':=?_) #[true,true,true,true,true,true,true,false,true,true,false,false,false,false,false] rfl rfl (qan HT_.out (by kernel_rfl)) (fun _ _ _ h=>h) (Or.inl ⟨by rfl,?_⟩) ?_ ?_
        rotate_left
        ·intro w'
         go_simp
         with_reducible rfl
        rotate_left
        ·simp only[Act.put,List.setIfInBounds_toArray,List.set_cons_zero,List.set_cons_succ,qaj,qak]
         rfl
        refine qar (i:=10) (N:=some 33) (v:=?_) (a':=?_) #[true,true,true,true,true,true,true,false,true,true,true,false,false,false,false] rfl rfl (qan HT_.out (by kernel_rfl)) (fun _ _ _ h=>h) (Or.inl ⟨by rfl,?_⟩) ?_ ?_
        rotate_left
        ·intro w'
         go_simp
         with_reducible rfl
        rotate_left
        ·simp only[Act.put,List.setIfInBounds_toArray,List.set_cons_zero,List.set_cons_succ,qaj,qak]
         rfl
        refine take_ (i:=7) (N:=some 30) (v:=?_) (a':=?_) #[true,true,true,true,true,true,true,true,true,true,true,false,false,false,false] rfl rfl (take_ofW HT_.out HW_.out (by kernel_rfl)) (fun _ _ _ h=>h) (Or.inl ⟨by rfl,?_⟩) hHeld ?_ ?_
        rotate_left
        ·rintro w' ⟨s0,s1,s2,s3,s4,s5,s6,s7⟩
         go_simp
         with_reducible rfl
        rotate_left
        ·simp only[Act.put,List.setIfInBounds_toArray,List.set_cons_zero,List.set_cons_succ,qaj,qak]
         rfl
        refine take_ (i:=11) (N:=some 34) (v:=?_) (a':=?_) #[true,true,true,true,true,true,true,true,true,true,true,true,false,false,false] rfl rfl (take_ofW HT_.out HW_.out (by kernel_rfl)) (fun _ _ _ h=>h) (Or.inl ⟨by rfl,?_⟩) hHeld ?_ ?_
        rotate_left
        ·rintro w' ⟨s0,s1,s2,s3,s4,s5,s6,s7⟩
         go_simp
         with_reducible rfl
        rotate_left
        ·simp only[Act.put,List.setIfInBounds_toArray,List.set_cons_zero,List.set_cons_succ,qaj,qak]
         rfl
        refine one_ (i:=12) (N:=some 35) #[true,true,true,true,true,true,true,true,true,true,true,true,true,false,false] rfl rfl (one_of HT_.out (by kernel_rfl)) (by decide) (fun K hK=>?_)
        refine goes_ Try.func79 (by kernel_rfl) rfl #[.agg #[.int .i64 x380000_1,.slice Ao29 x380001_1.length co29],.agg #[.int .i64 ((rd_T62 l1 x8_1).f0),.int .i64 ((rd_T62 l1 x8_1).f1),.slice A380_2 ((rd_T62 l1 x8_1).f2).length c380_2]] (by rfl) rfl rfl (by(try simp only[List.map_toArray,List.map_cons,List.map_nil]);first|done|rfl|(simp only[List.length_drop,List.length_take];rfl)) ?_
        with_reducible refine(spec_l2May.calls k1 x380000_1 _ _ x380001_1 ((rd_T62 l1 x8_1).f0) ((rd_T62 l1 x8_1).f1) _ _ ((rd_T62 l1 x8_1).f2) false _ ?side1 ?side2 ?side3 ?side4 A15.out).mono ?_
        (case side1=>repeat(first|exact(Kd.R_reads' HO_380001.out).2.2|(with_reducible refine Kd.C_alloc ?_ _)|(with_reducible refine Kd.C_drewN ?_ _)|(with_reducible refine Kd.C_drew ?_)))
        (case side2=>exact(Kd.R_reads' HO_380001.out).2.1)
        (case side3=>exact zR HR382_2 HB)
        (case side4=>exact HC382_2.out)
        rintro e w30 ⟨rfl,hb⟩
        refine⟨_,rfl,?_⟩
        replace HO_380001:=Aside0.mk (Kd.R_below (za3 HO_380001) hb)
        replace BK373:=Aside0.mk (qaa (zB BK373) hb)
        replace BK379:=Aside0.mk (qaa (zB BK379) hb)
        replace HB:=Aside0.mk (qab (za2 HB GE373 GE379) hb)
        (try clear hb)
        (try clear hb2)
        (try clear hk)
        (try clear hi)
        refine hK.out _ _ ⟨(blk_cell BK379.out 0).trans rfl,(blk_cell BK379.out 1).trans rfl,((HB.out.cell (World.block_lt_of_cell? w _ hw380_0)).trans hw380_0),((HB.out.cell (World.block_lt_of_cell? w _ hw380_1)).trans hw380_1),((HB.out.cell (World.block_lt_of_cell? w _ hw380_2)).trans hw380_2),((HB.out.cell (World.block_lt_of_cell? w _ hw382_0)).trans hw382_0),((HB.out.cell (World.block_lt_of_cell? w _ hw382_1)).trans hw382_1),((HB.out.cell (World.block_lt_of_cell? w _ hw382_2)).trans hw382_2)⟩ (fun hHeld=>?_)
        clear hK K
        refine norm_ (a':=?_) ?_ ?_
        rotate_left
        ·show Act.put _ (some 35) _=_
         simp only[Act.put,List.setIfInBounds_toArray,List.set_cons_zero,List.set_cons_succ,qaj,qak]
         rfl
        refine qar (i:=13) (N:=some 36) (v:=?_) (a':=?_) #[true,true,true,true,true,true,true,true,true,true,true,true,true,true,false] rfl rfl (qan HT_.out (by kernel_rfl)) (fun _ _ _ h=>h) (Or.inl ⟨by rfl,?_⟩) ?_ ?_
        rotate_left
        ·intro w'
         go_simp
         with_reducible rfl
        rotate_left
        ·simp only[Act.put,List.setIfInBounds_toArray,List.set_cons_zero,List.set_cons_succ,qaj,qak]
         rfl
        refine qar (i:=14) (N:=some 37) (v:=?_) (a':=?_) #[true,true,true,true,true,true,true,true,true,true,true,true,true,true,true] rfl rfl (qan HT_.out (by kernel_rfl)) (fun _ _ _ h=>h) (Or.inl ⟨by rfl,?_⟩) ?_ ?_
        rotate_left
        ·intro w'
         go_simp
         with_reducible rfl
        rotate_left
        ·simp only[Act.put,List.setIfInBounds_toArray,List.set_cons_zero,List.set_cons_succ,qaj,qak]
         rfl
        refine done_ (done_of HT_.out (by kernel_rfl)) ?_
        have hnb31:=NB373_379.out
        have hnc31:=NB379_373.out
        obtain⟨hcz32_0,hcz32_1,hfz32_0,hfz32_1⟩:=zC2 BK373
        try go_wp2
        refine bodyPost_ret (results_ct rfl _ _ gb373 36 #[.int .i64 0,.slice none 0 0] (0,0) _ rfl (by(with_reducible repeat(first|refine blk_drewN ?_ _|refine blk_drew ?_|refine blk_alloc ?_ _));refine qai (cs:=#[.int .i64 0,.slice none 0 0]) ?_ 1 _ rfl;(with_reducible repeat(first|refine blk_drewN ?_ _|refine blk_drew ?_|refine blk_alloc ?_ _));refine qai (cs:=#[.int .i64 x374000_1,.slice none 0 0]) ?_ 0 _ rfl;(with_reducible repeat(first|refine blk_drewN ?_ _|refine blk_drew ?_|refine blk_alloc ?_ _));exact BK373.out) Try.underlying36 rfl (by kernel_rfl)) rfl ?_
        exact⟨_,za9,za24,za2 HB GE373 GE379⟩
      ·replace c14:=Bool.eq_false_iff.mpr c14
       subst c14
       have H1:(some (0,([]:List (S46)),false))=some (r1,r2,r3):=by rw[if_neg (show ¬(false=true) by decide)] at H;exact H
       clear H
       have H:=H1
       clear H1
       simp only[Option.some.injEq,Prod.mk.injEq] at H
       obtain⟨rfl,rfl,rfl⟩:=H
       try go_wp2
       replace HO_380001:=Aside0.mk (Kd.R_drew HO_380001.out)
       replace BK373:=Aside0.mk (blk_drew BK373.out)
       replace BK379:=Aside0.mk (blk_drew BK379.out)
       replace HB:=Aside0.mk (qae HB.out)
       have p380:0≤(x8_1:Int):=of_decide_eq_true (za5)
       have q380:x8_1<(l1.length:Int):=of_decide_eq_true (za5)
       obtain⟨ad380,A380_2,c380_2,e380,hx380_0,hx380_1,hx380_2,hl380_2,hi380_2⟩:=at_T62 HR1.out x8_1 p380 q380
       have hw380_2:=hx380_2
       have hw380_1:=hx380_1
       have hw380_0:=hx380_0
       cases e380
       have hxo380_2:=Aside0.mk hx380_2
       replace hx380_0:=(HB.out.cell (World.block_lt_of_cell? w _ hx380_0)).trans hx380_0
       replace hx380_1:=(HB.out.cell (World.block_lt_of_cell? w _ hx380_1)).trans hx380_1
       replace hx380_2:=(HB.out.cell (World.block_lt_of_cell? w _ hx380_2)).trans hx380_2
       have HR380_2:=Aside0.mk hi380_2
       have HC380_2:=Aside0.mk hl380_2
       clear hi380_2 hl380_2
       replace p380:=eq_true p380
       replace q380:=eq_true q380
       refine start_ (n:=15) (S:=fun w'=>w'.cell? (ad380.add ((x8_1).toNat*3))=some (.int .i64 ((rd_T62 l1 x8_1).f0))∧w'.cell? ⟨(ad380.add ((x8_1).toNat*3)).block,(ad380.add ((x8_1).toNat*3)).off+1,none⟩=some (.int .i64 ((rd_T62 l1 x8_1).f1))∧w'.cell? ⟨(ad380.add ((x8_1).toNat*3)).block,(ad380.add ((x8_1).toNat*3)).off+2,none⟩=some (.slice A380_2 ((rd_T62 l1 x8_1).f2).length c380_2)) (ds:=[]) #[false,false,false,false,false,false,false,false,false,false,false,false,false,false,false] (by kernel_rfl) rfl rfl ⟨((HB.out.cell (World.block_lt_of_cell? w _ hw380_0)).trans hw380_0),((HB.out.cell (World.block_lt_of_cell? w _ hw380_1)).trans hw380_1),((HB.out.cell (World.block_lt_of_cell? w _ hw380_2)).trans hw380_2)⟩ (fun hHeld=>?_);refine with_tabW spec_l2Of.tab7 spec_l2Of.bits7 (fun HT_ HW_=>?_)
       generalize wr.drew=w33 at HO_380001 BK373 BK379 HB HR380_2 hx380_0 hx380_1 hx380_2 hHeld ⊢
       refine qar (i:=0) (N:=some 23) (v:=?_) (a':=?_) #[true,false,false,false,false,false,false,false,false,false,false,false,false,false,false] rfl rfl (qan HT_.out (by kernel_rfl)) (fun _ _ _ h=>h) (Or.inl ⟨by rfl,?_⟩) ?_ ?_
       rotate_left
       ·intro w'
        go_simp
        with_reducible rfl
       rotate_left
       ·simp only[Act.put,List.setIfInBounds_toArray,List.set_cons_zero,List.set_cons_succ,qaj,qak]
        rfl
       refine qar (i:=1) (N:=some 24) (v:=?_) (a':=?_) #[true,true,false,false,false,false,false,false,false,false,false,false,false,false,false] rfl rfl (qan HT_.out (by kernel_rfl)) (fun _ _ _ h=>h) (Or.inl ⟨by rfl,?_⟩) ?_ ?_
       rotate_left
       ·intro w'
        go_simp
        with_reducible rfl
       rotate_left
       ·simp only[Act.put,List.setIfInBounds_toArray,List.set_cons_zero,List.set_cons_succ,qaj,qak]
        rfl
       refine qar (i:=2) (N:=some 25) (v:=?_) (a':=?_) #[true,true,true,false,false,false,false,false,false,false,false,false,false,false,false] rfl rfl (qan HT_.out (by kernel_rfl)) (fun _ _ _ h=>h) (Or.inl ⟨by rfl,?_⟩) ?_ ?_
       rotate_left
       ·intro w'
        go_simp
        with_reducible rfl
       rotate_left
       ·simp only[Act.put,List.setIfInBounds_toArray,List.set_cons_zero,List.set_cons_succ,qaj,qak]
        rfl
       refine take_ (i:=3) (N:=some 26) (v:=?_) (a':=?_) #[true,true,true,true,false,false,false,false,false,false,false,false,false,false,false] rfl rfl (take_ofW HT_.out HW_.out (by kernel_rfl)) (fun _ _ _ h=>h) (Or.inl ⟨by rfl,?_⟩) hHeld ?_ ?_
       rotate_left
       ·rintro w' ⟨s0,s1,s2⟩
        go_simp
        with_reducible rfl
       rotate_left
       ·simp only[Act.put,List.setIfInBounds_toArray,List.set_cons_zero,List.set_cons_succ,qaj,qak]
        rfl
       refine one_ (i:=4) (N:=some 27) #[true,true,true,true,true,false,false,false,false,false,false,false,false,false,false] rfl rfl (one_of HT_.out (by kernel_rfl)) (by decide) (fun K hK=>?_)
       refine goes_ Try.func44 (by kernel_rfl) rfl #[.agg #[.int .i64 ((rd_T62 l1 x8_1).f0),.int .i64 ((rd_T62 l1 x8_1).f1),.slice A380_2 ((rd_T62 l1 x8_1).f2).length c380_2]] (by rfl) rfl rfl (by(try simp only[List.map_toArray,List.map_cons,List.map_nil]);first|done|rfl|(simp only[List.length_drop,List.length_take];rfl)) ?_
       with_reducible refine(spec_RecOk.calls k1 ((rd_T62 l1 x8_1).f0) ((rd_T62 l1 x8_1).f1) _ _ ((rd_T62 l1 x8_1).f2) false _ ?side1 ?side2 A13.out).mono ?_
       (case side1=>exact zR HR380_2 HB)
       (case side2=>exact HC380_2.out)
       rintro e w34 ⟨rfl,hb⟩
       refine⟨_,rfl,?_⟩
       replace HO_380001:=Aside0.mk (Kd.R_below (za3 HO_380001) hb)
       replace BK373:=Aside0.mk (qaa (zB BK373) hb)
       replace BK379:=Aside0.mk (qaa (zB BK379) hb)
       replace HB:=Aside0.mk (qab (za2 HB GE373 GE379) hb)
       (try clear hb)
       (try clear hb2)
       (try clear hk)
       (try clear hi)
       refine hK.out _ _ ⟨((HB.out.cell (World.block_lt_of_cell? w _ hw380_0)).trans hw380_0),((HB.out.cell (World.block_lt_of_cell? w _ hw380_1)).trans hw380_1),((HB.out.cell (World.block_lt_of_cell? w _ hw380_2)).trans hw380_2)⟩ (fun hHeld=>?_)
       clear hK K
       refine norm_ (a':=?_) ?_ ?_
       rotate_left
       ·show Act.put _ (some 27) _=_
        simp only[Act.put,List.setIfInBounds_toArray,List.set_cons_zero,List.set_cons_succ,qaj,qak]
        rfl
       refine qar (i:=5) (N:=some 28) (v:=?_) (a':=?_) #[true,true,true,true,true,true,false,false,false,false,false,false,false,false,false] rfl rfl (qan HT_.out (by kernel_rfl)) (fun _ _ _ h=>h) (Or.inl ⟨by rfl,?_⟩) ?_ ?_
       rotate_left
       ·intro w'
        go_simp
        with_reducible rfl
       rotate_left
       ·simp only[Act.put,List.setIfInBounds_toArray,List.set_cons_zero,List.set_cons_succ,qaj,qak]
        rfl
       refine qar (i:=6) (N:=some 29) (v:=?_) (a':=?_) #[true,true,true,true,true,true,true,false,false,false,false,false,false,false,false] rfl rfl (qan HT_.out (by kernel_rfl)) (fun _ _ _ h=>h) (Or.inl ⟨by rfl,?_⟩) ?_ ?_
       rotate_left
       ·intro w'
        go_simp
        with_reducible rfl
       rotate_left
       ·simp only[Act.put,List.setIfInBounds_toArray,List.set_cons_zero,List.set_cons_succ,qaj,qak]
        rfl
       refine qar (i:=7) (N:=some 30) (v:=undef) (a':=?_) #[true,true,true,true,true,true,true,true,false,false,false,false,false,false,false] rfl rfl (qan HT_.out (by kernel_rfl)) (fun _ _ _ h=>h) (Or.inr ⟨by rfl,rfl⟩) ?_ ?_
       rotate_left
       ·simp only[Act.put,List.setIfInBounds_toArray,List.set_cons_zero,List.set_cons_succ,qaj,qak]
        rfl
       refine qar (i:=8) (N:=some 31) (v:=undef) (a':=?_) #[true,true,true,true,true,true,true,true,true,false,false,false,false,false,false] rfl rfl (qan HT_.out (by kernel_rfl)) (fun _ _ _ h=>h) (Or.inr ⟨by rfl,rfl⟩) ?_ ?_
       rotate_left
       ·simp only[Act.put,List.setIfInBounds_toArray,List.set_cons_zero,List.set_cons_succ,qaj,qak]
        rfl
       refine qar (i:=9) (N:=some 32) (v:=undef) (a':=?_) #[true,true,true,true,true,true,true,true,true,true,false,false,false,false,false] rfl rfl (qan HT_.out (by kernel_rfl)) (fun _ _ _ h=>h) (Or.inr ⟨by rfl,rfl⟩) ?_ ?_
       rotate_left
       ·simp only[Act.put,List.setIfInBounds_toArray,List.set_cons_zero,List.set_cons_succ,qaj,qak]
        rfl
       refine qar (i:=10) (N:=some 33) (v:=undef) (a':=?_) #[true,true,true,true,true,true,true,true,true,true,true,false,false,false,false] rfl rfl (qan HT_.out (by kernel_rfl)) (fun _ _ _ h=>h) (Or.inr ⟨by rfl,rfl⟩) ?_ ?_
       rotate_left
       ·simp only[Act.put,List.setIfInBounds_toArray,List.set_cons_zero,List.set_cons_succ,qaj,qak]
        rfl
       refine qar (i:=11) (N:=some 34) (v:=undef) (a':=?_) #[true,true,true,true,true,true,true,true,true,true,true,true,false,false,false] rfl rfl (qan HT_.out (by kernel_rfl)) (fun _ _ _ h=>h) (Or.inr ⟨by rfl,rfl⟩) ?_ ?_
       rotate_left
       ·simp only[Act.put,List.setIfInBounds_toArray,List.set_cons_zero,List.set_cons_succ,qaj,qak]
        rfl
       refine qar (i:=12) (N:=some 35) (v:=undef) (a':=?_) #[true,true,true,true,true,true,true,true,true,true,true,true,true,false,false] rfl rfl (qan HT_.out (by kernel_rfl)) (fun _ _ _ h=>h) (Or.inr ⟨by rfl,rfl⟩) ?_ ?_
       rotate_left
       ·simp only[Act.put,List.setIfInBounds_toArray,List.set_cons_zero,List.set_cons_succ,qaj,qak]
        rfl
       refine qar (i:=13) (N:=some 36) (v:=undef) (a':=?_) #[true,true,true,true,true,true,true,true,true,true,true,true,true,true,false] rfl rfl (qan HT_.out (by kernel_rfl)) (fun _ _ _ h=>h) (Or.inr ⟨by rfl,rfl⟩) ?_ ?_
       rotate_left
       ·simp only[Act.put,List.setIfInBounds_toArray,List.set_cons_zero,List.set_cons_succ,qaj,qak]
        rfl
       refine qar (i:=14) (N:=some 37) (v:=?_) (a':=?_) #[true,true,true,true,true,true,true,true,true,true,true,true,true,true,true] rfl rfl (qan HT_.out (by kernel_rfl)) (fun _ _ _ h=>h) (Or.inl ⟨by rfl,?_⟩) ?_ ?_
       rotate_left
       ·intro w'
        go_simp
        with_reducible rfl
       rotate_left
       ·simp only[Act.put,List.setIfInBounds_toArray,List.set_cons_zero,List.set_cons_succ,qaj,qak]
        rfl
       refine done_ (done_of HT_.out (by kernel_rfl)) ?_
       have hnb35:=NB373_379.out
       have hnc35:=NB379_373.out
       obtain⟨hcz36_0,hcz36_1,hfz36_0,hfz36_1⟩:=zC2 BK373
       try go_wp2
       refine bodyPost_ret (results_ct rfl _ _ gb373 36 #[.int .i64 0,.slice none 0 0] (0,0) _ rfl (by(with_reducible repeat(first|refine blk_drewN ?_ _|refine blk_drew ?_|refine blk_alloc ?_ _));refine qai (cs:=#[.int .i64 0,.slice none 0 0]) ?_ 1 _ rfl;(with_reducible repeat(first|refine blk_drewN ?_ _|refine blk_drew ?_|refine blk_alloc ?_ _));refine qai (cs:=#[.int .i64 x374000_1,.slice none 0 0]) ?_ 0 _ rfl;(with_reducible repeat(first|refine blk_drewN ?_ _|refine blk_drew ?_|refine blk_alloc ?_ _));exact BK373.out) Try.underlying36 rfl (by kernel_rfl)) rfl ?_
       exact⟨_,za9,za24,za2 HB GE373 GE379⟩
     ·rw[if_neg c12] at H
      exact absurd H (by simp)
    ·rw[if_neg c11] at H
     have c11b0:decide (x8_1<(l1.length:Int))=false:=decide_eq_false c11
     clear c11
     simp only[Option.some.injEq,Prod.mk.injEq] at H
     obtain⟨rfl,rfl,rfl⟩:=H
     have hnb37:=NB379_373.out
     have hnc37:=NB373_379.out
     obtain⟨hcz38_0,hcz38_1,hfz38_0,hfz38_1⟩:=zC2 BK379
     obtain⟨hcz39_0,hcz39_1,hfz39_0,hfz39_1⟩:=zC2 BK373
     obtain⟨Ao40,co40,eo40⟩:=Kd.R_slice HO_380001.out
     subst eo40
     go_wp2
     refine bodyPost_ret (results_ct rfl _ _ gb373 36 #[.int .i64 x380000_1,.slice Ao40 x380001_1.length co40] (0,0) _ rfl (by(with_reducible repeat(first|refine blk_drewN ?_ _|refine blk_drew ?_|refine blk_alloc ?_ _));refine qai (cs:=#[.int .i64 x380000_1,.slice none 0 0]) ?_ 1 _ rfl;(with_reducible repeat(first|refine blk_drewN ?_ _|refine blk_drew ?_|refine blk_alloc ?_ _));refine qai (cs:=#[.int .i64 x374000_1,.slice none 0 0]) ?_ 0 _ rfl;(with_reducible repeat(first|refine blk_drewN ?_ _|refine blk_drew ?_|refine blk_alloc ?_ _));exact BK373.out) Try.underlying36 rfl (by kernel_rfl)) rfl ?_
     exact⟨_,za9,by(with_reducible repeat(first|apply Kd.R_alloc|apply Kd.R_drewN|apply Kd.R_drew));exact Kd.R_mono (Kd.R_far (p:=⟨gb373,1,none⟩) (Kd.R_far (p:=⟨gb373,0,none⟩) (Kd.R_types HO_380001.out BK373.out (by decide)) (fun _ hk=>hk.2) (.int .i64 x380000_1)) (fun _ hk=>hk.2) (.slice Ao40 x380001_1.length co40)) (fun _ hk=>trivial),za2 HB GE373 GE379⟩
 ·replace c4:=Bool.eq_false_iff.mpr c4
  subst c4
  have H1:(some (0,([]:List (S46)),false))=some (r1,r2,r3):=by rw[if_neg (show ¬(false=true) by decide)] at H;exact H
  clear H
  have H:=H1
  clear H1
  simp only[Option.some.injEq,Prod.mk.injEq] at H
  obtain⟨rfl,rfl,rfl⟩:=H
  go_enter Try.func125,Try.ntmps125
  go_wp2_with(first|((with_reducible refine qah (N:=4) rfl ?_);refine zX (N:=4) (cs:=#[.int .i64 0,.slice none 0 0]) (t:=36) ?_;intro gb373 hg w41 hbox hb;have BK373:=Aside0.mk hbox;have GW373:=zH (w:=w) hg (za1 HB);have GE373:=GW373;replace HB:=Aside0.mk (qab (za1 HB) hb);clear hb hbox hg)|((with_reducible refine qaf (f:=21) rfl ?_);refine zF (some 11) Try.func21 #[.int .i64 a0] ?_;(with_reducible refine(spec_StockNew.calls a0 t374 t375 false _ A3.out).mono ?_);rintro e w42 ⟨v376,rfl,ho0,hb⟩;refine⟨_,rfl,?_⟩;have HO377:=Aside0.mk (Kd.R_lower ho0 (below_size (za0 HB GE373)));replace BK373:=Aside0.mk (qaa (zB BK373) hb);replace HB:=Aside0.mk (qab (za0 HB GE373) hb);(try clear hb);(try clear ho0))|((with_reducible refine qah (N:=6) rfl ?_);refine zX (N:=6) (cs:=#[.int .i64 0,.slice none 0 0]) (t:=36) ?_;intro gb379 hg w43 hbox hb;replace HO377:=Aside0.mk (Kd.R_below (za3 HO377) hb);have BK379:=Aside0.mk hbox;have GW379:=zH (w:=w) hg (za0 HB GE373);have GE379:=GW379;replace HB:=Aside0.mk (qab (za0 HB GE373) hb);have NB373_379:=zL BK373 hg;have NB379_373:=zG BK373 hg;replace BK373:=Aside0.mk (qaa (zB BK373) hb);clear hb hbox hg;have hnb44:=NB379_373.out;have hnc44:=NB373_379.out;obtain⟨hcz45_0,hcz45_1,hfz45_0,hfz45_1⟩:=zC2 BK379;obtain⟨Ao46,co46,eo46⟩:=Kd.R_slice HO377.out;subst eo46;obtain⟨hcz47_0,hcz47_1,hfz47_0,hfz47_1⟩:=zC2 BK373))
  refine bodyPost_ret (results_ct rfl _ _ gb373 36 #[.int .i64 0,.slice none 0 0] (0,0) _ rfl (by(with_reducible repeat(first|refine blk_drewN ?_ _|refine blk_drew ?_|refine blk_alloc ?_ _));refine qai (cs:=#[.int .i64 0,.slice none 0 0]) ?_ 1 _ rfl;(with_reducible repeat(first|refine blk_drewN ?_ _|refine blk_drew ?_|refine blk_alloc ?_ _));refine qai (cs:=#[.int .i64 0,.slice none 0 0]) ?_ 0 _ rfl;(with_reducible repeat(first|refine blk_drewN ?_ _|refine blk_drew ?_|refine blk_alloc ?_ _));refine blk_far ?_ NB373_379.out _;(with_reducible repeat(first|refine blk_drewN ?_ _|refine blk_drew ?_|refine blk_alloc ?_ _));refine blk_far ?_ NB373_379.out _;(with_reducible repeat(first|refine blk_drewN ?_ _|refine blk_drew ?_|refine blk_alloc ?_ _));exact BK373.out) Try.underlying36 rfl (by kernel_rfl)) rfl ?_
  exact⟨_,za9,za24,za2 HB GE373 GE379⟩
end Go.Proofs.Ytjccnaklodbbfaa.Print
