-- Written by squeeze.py: not trusted, Lean checks it.
import Derived.Test.YtmbdphefnalenaaZK
import Derived.Test.YtmbdphefnalenaaZa0
import Derived.Test.YtmbdphefnalenaaZa4
import Derived.Test.YtmbdphefnalenaaZa6
import Derived.Test.YtmbdphefnalenaaZa7
namespace Go.Proofs.Ytmbdphefnalenaa.Print
open Go.RowKit Go.Proofs.YtmbdphefnalenaaW.PrintWords Go.Proofs.YtmbdphefnalenaaW.PrintLast Go.Proofs.YtmbdphefnalenaaW.PrintMore
attribute [local go_sem] max2_int min2_int max_two min_two max_three min_three max_four min_four
set_option linter.unusedVariables false
set_option linter.unusedSimpArgs false
def spec_l2Of.l0:Nat→List (S32)→Int→Int→List (S49)→Option (Int × (List (S49)) × Bool)
 |0,_,_,_,_=>none
 |k+1,x1,x8,x522000,x522001=>if x8<(x1.length:Int) then(if 0≤x8 then((spec_RecOk.f k ((rd_T32 x1 x8).f0) ((rd_T32 x1 x8).f1) ((rd_T32 x1 x8).f2)).bind fun t523=>(if t523=true then((spec_l2May.f k x522000 x522001 ((rd_T32 x1 x8).f0) ((rd_T32 x1 x8).f1) ((rd_T32 x1 x8).f2)).bind fun t525=>(if t525=true then((spec_l2Do.f x522000 x522001 ((rd_T32 x1 x8).f0) ((rd_T32 x1 x8).f1) ((rd_T32 x1 x8).f2)).bind fun bt527=>(spec_l2Of.l0 k x1 (wrap64 (x8+1)) bt527.1 bt527.2)) else(some (0,([]:List (S49)),false)))) else(some (0,([]:List (S49)),false)))) else(none)) else(some (x522000,x522001,true))
def spec_l2Of.f (k:Nat) (a0:Int) (l1:List (S32)):Option (Int × (List (S49)) × Bool):=(spec_StockNew.f a0).bind fun bt516=>(if bt516.2.2=true then(spec_l2Of.l0 k l1 0 bt516.1 bt516.2.1) else(some (0,([]:List (S49)),false)))
theorem spec_l2Of.mono_l:∀k,(∀y0 y1 y2 y3,LeO (spec_l2Of.l0 k y0 y1 y2 y3) (spec_l2Of.l0 (k+1) y0 y1 y2 y3))
 |0=>fun _ _ _ _ r h=>by simp[spec_l2Of.l0] at h
 |k+1=>by
  have ih0:=spec_l2Of.mono_l k
  ·intro y0 y1 y2 y3;unfold spec_l2Of.l0
   repeat' first|(with_reducible exact ih0 _ _ _ _)|(with_reducible exact spec_RecOk.mono _ _ _ _)|(with_reducible exact spec_l2May.mono _ _ _ _ _ _)|(with_reducible exact LeO.refl _)|(with_reducible exact LeO.none _)|(with_reducible refine LeO.ite ?_ ?_)|(with_reducible refine LeO.bind ?_ (fun _=>?_))|exact ih0 _ _ _ _|exact spec_RecOk.mono _ _ _ _|exact spec_l2May.mono _ _ _ _ _ _|exact LeO.none _|refine LeO.ite ?_ ?_|refine LeO.bind ?_ (fun _=>?_)
theorem spec_l2Of.mono:∀a0 a1 k,LeO (spec_l2Of.f k a0 a1) (spec_l2Of.f (k+1) a0 a1):=by
 intro a0 a1 k;have ih0:=spec_l2Of.mono_l k;unfold spec_l2Of.f
 repeat' first|(with_reducible exact ih0 _ _ _ _)|(with_reducible exact spec_RecOk.mono _ _ _ _)|(with_reducible exact spec_l2May.mono _ _ _ _ _ _)|(with_reducible exact LeO.refl _)|(with_reducible exact LeO.none _)|(with_reducible refine LeO.ite ?_ ?_)|(with_reducible refine LeO.bind ?_ (fun _=>?_))|exact ih0 _ _ _ _|exact spec_RecOk.mono _ _ _ _|exact spec_l2May.mono _ _ _ _ _ _|exact LeO.none _|refine LeO.ite ?_ ?_|refine LeO.bind ?_ (fun _=>?_)
def spec_l2Of.T7:Bool × List (List Nat × List Nat):=(true,[([],[]),([],[]),([0,1],[0,1]),([2],[2]),([3],[3]),([4],[4]),([5,4],[5]),([6],[6]),([6],[6]),([6],[6]),([8,9,6],[6,8,9]),([10,6],[6,10]),([7,11,6,6],[6,7,11]),([12,6],[6,12]),([6,13],[6,13])])
def spec_l2Of.B7:List Nat:=[0,0,3,7,15,31,63,127,127,127,895,1919,4095,8191,16383]
theorem spec_l2Of.tab7:rtab .any (opsOf Try.f55 7)=spec_l2Of.T7:=by kernel_rfl
theorem spec_l2Of.bits7:waitsOk spec_l2Of.T7.2 spec_l2Of.B7=true:=by kernel_rfl
set_option maxHeartbeats 8000000 in
set_option maxRecDepth 100000 in
theorem spec_l2Of.calls (k:Nat) (a0:Int) (A1:Option Addr) (c1:Nat) (l1:List (S32)) (r1:Int) (r2:List (S49)) (r3:Bool) (w:World) (hr1:Kd.C k32 w A1 l1.length l1) (hc1:l1.length≤c1) (h:spec_l2Of.f k a0 l1=some (r1,r2,r3)) :
  Calls Try.prog 55 #[.int .i64 a0,.slice A1 l1.length c1] w fun e w'=>∃v1_:Value,e=.returned (.tuple #[.agg #[.int .i64 r1,v1_],.bool r3])∧Kd.R k49 49 w' w.heap.size (fun _=>True) v1_ r2∧Below w.heap.size w w':=by
 have hu38:=Try.underlying38;have hu32:=Try.underlying32;have HR1:=qae.mk hr1;have HC1:=qae.mk hc1;clear hr1 hc1;have HB:=qae.mk (Below.refl w.heap.size w);have H:((spec_StockNew.f a0).bind fun bt516=>(if bt516.2.2=true then(spec_l2Of.l0 k l1 0 bt516.1 bt516.2.1) else(some (0,([]:List (S49)),false))))=some (r1,r2,r3):=h;clear h;replace H:=Option.bind_eq_some_iff.mp H;obtain⟨⟨t516,t517,t520⟩,A30,H⟩:=H;replace H:(if t520=true then(spec_l2Of.l0 k l1 0 t516 t517) else(some (0,([]:List (S49)),false)))=some (r1,r2,r3):=H;have A3:=qae.mk A30;clear A30;by_cases c4:t520=true
 ·subst c4
  have H1:(spec_l2Of.l0 k l1 0 t516 t517)=some (r1,r2,r3):=by rw[if_pos rfl] at H;exact H
  clear H;have H:=H1;clear H1;have H':=qae.mk H;clear H;go_enter Try.func55,Try.ntmps55
  go_wp2_with(first|((with_reducible refine qai (N:=4) rfl ?_);refine zX (N:=4) (cs:=#[.int .i64 0,.slice none 0 0]) (t:=38) ?_;intro gb515 hg w5 hbox hb;have BK515:=qae.mk hbox;have GW515:=zH (w:=w) hg (za3 HB);have GE515:=GW515;replace HB:=qae.mk (qad (za3 HB) hb);clear hb hbox hg)|((with_reducible refine qag (f:=89) rfl ?_);refine zF (some 11) Try.func89 #[.int .i64 a0] ?_;(with_reducible refine(spec_StockNew.calls a0 t516 t517 true _ A3.out).mono ?_);rintro e w6 ⟨v518,rfl,ho0,hb⟩;refine⟨_,rfl,?_⟩;have HO519:=qae.mk (Kd.R_lower ho0 (below_size (za1 HB GE515)));replace BK515:=zY BK515 hb;replace HB:=qae.mk (qad (za1 HB GE515) hb);(try clear hb);(try clear ho0))|((with_reducible refine qai (N:=6) rfl ?_);refine zX (N:=6) (cs:=#[.int .i64 0,.slice none 0 0]) (t:=38) ?_;intro gb521 hg w7 hbox hb;replace HO519:=qae.mk (Kd.R_below (za2 HO519) hb);have BK521:=qae.mk hbox;have GW521:=zH (w:=w) hg (za1 HB GE515);have GE521:=GW521;replace HB:=qae.mk (qad (za1 HB GE515) hb);have NB515_521:=zL BK515 hg;have NB521_515:=zG BK515 hg;replace BK515:=zY BK515 hb;clear hb hbox hg;have hnb8:=NB521_515.out;have hnc8:=NB515_521.out;obtain⟨hcz9_0,hcz9_1,hfz9_0,hfz9_1⟩:=zC2 BK521;obtain⟨Ao10,co10,eo10⟩:=Kd.R_slice HO519.out;subst eo10))
  go_loopg [8] k (fun kq v8 w'=>∃(x8_1:Int) (x516000_1:Int) (x522000_1:Int) (x522001_1:List (S49)) (u522001:Value),v8=.int .i64 x8_1∧qae (spec_l2Of.l0 kq l1 x8_1 x522000_1 x522001_1=some (r1,r2,r3))∧qae (kq≤k)∧qae (Kd.R k49 49 w' w.heap.size (fun _=>True) u522001 x522001_1)∧qae (w'.heap[gb515]?=some (.cells #[.int .i64 x516000_1,(.slice none 0 0)] 38 (0,0)))∧qae (w'.heap[gb521]?=some (.cells #[.int .i64 x522000_1,u522001] 38 (0,0)))∧qae (Below w.heap.size w w'))
  case atStart=>exact⟨(0),(0),(t516),(t517),(.slice Ao10 t517.length co10),(za46),H',⟨Nat.le_refl _⟩,⟨by(with_reducible repeat(first|apply Kd.R_alloc|apply Kd.R_drewN|apply Kd.R_drew));exact Kd.R_mono (Kd.R_far (p:=⟨gb521,1,none⟩) (Kd.R_far (p:=⟨gb521,0,none⟩) (Kd.R_types HO519.out BK521.out (by decide)) (fun _ hk=>hk.2) (.int .i64 t516)) (fun _ hk=>hk.2) (.slice Ao10 t517.length co10)) (fun _ hk=>trivial)⟩,⟨za0 NB515_521 BK515⟩,⟨by(with_reducible repeat(first|refine qac ?_ _|refine qaa ?_|refine qab ?_ _));refine qah (cs:=#[.int .i64 t516,.slice none 0 0]) ?_ 1 _ rfl;(with_reducible repeat(first|refine qac ?_ _|refine qaa ?_|refine qab ?_ _));refine qah (cs:=#[.int .i64 0,.slice none 0 0]) ?_ 0 _ rfl;(with_reducible repeat(first|refine qac ?_ _|refine qaa ?_|refine qab ?_ _));exact BK521.out⟩,⟨za4 HB GE515 GE521⟩⟩
  case round=>
   clear H'
   try clear c1
   try clear p2
   try clear c4
   try clear c5
   try clear c8
   try clear hcz9_0
   try clear hcz9_1
   try clear hfz9_0
   try clear hfz9_1
   obtain⟨x8_1,x516000_1,x522000_1,x522001_1,u522001,rfl,HA,HK1,HO_522001,BK515,BK521,HB⟩:=hrel
   cases gk with
   |zero=>exact absurd HA.out (by simp[spec_l2Of.l0])
   |succ k1=>
    have H:=HA.out;clear HA;simp only[spec_l2Of.l0] at H;by_cases c11:x8_1<(l1.length:Int)
    ·rw[if_pos c11] at H;have c11b0:decide (x8_1<(l1.length:Int))=true:=decide_eq_true c11;clear c11;by_cases c12:0≤x8_1
     ·rw[if_pos c12] at H;have c12b0:decide (0≤x8_1)=true:=decide_eq_true c12;clear c12;replace H:=Option.bind_eq_some_iff.mp H;obtain⟨t523,A130,H⟩:=H;replace H:(if t523=true then((spec_l2May.f k1 x522000_1 x522001_1 ((rd_T32 l1 x8_1).f0) ((rd_T32 l1 x8_1).f1) ((rd_T32 l1 x8_1).f2)).bind fun t525=>(if t525=true then((spec_l2Do.f x522000_1 x522001_1 ((rd_T32 l1 x8_1).f0) ((rd_T32 l1 x8_1).f1) ((rd_T32 l1 x8_1).f2)).bind fun bt527=>(spec_l2Of.l0 k1 l1 (wrap64 (x8_1+1)) bt527.1 bt527.2)) else(some (0,([]:List (S49)),false)))) else(some (0,([]:List (S49)),false)))=some (r1,r2,r3):=H;have A13:=qae.mk A130;clear A130;by_cases c14:t523=true
      ·subst c14
       have H1:((spec_l2May.f k1 x522000_1 x522001_1 ((rd_T32 l1 x8_1).f0) ((rd_T32 l1 x8_1).f1) ((rd_T32 l1 x8_1).f2)).bind fun t525=>(if t525=true then((spec_l2Do.f x522000_1 x522001_1 ((rd_T32 l1 x8_1).f0) ((rd_T32 l1 x8_1).f1) ((rd_T32 l1 x8_1).f2)).bind fun bt527=>(spec_l2Of.l0 k1 l1 (wrap64 (x8_1+1)) bt527.1 bt527.2)) else(some (0,([]:List (S49)),false))))=some (r1,r2,r3):=by rw[if_pos rfl] at H;exact H
       clear H;have H:=H1;clear H1;replace H:=Option.bind_eq_some_iff.mp H;obtain⟨t525,A150,H⟩:=H;replace H:(if t525=true then((spec_l2Do.f x522000_1 x522001_1 ((rd_T32 l1 x8_1).f0) ((rd_T32 l1 x8_1).f1) ((rd_T32 l1 x8_1).f2)).bind fun bt527=>(spec_l2Of.l0 k1 l1 (wrap64 (x8_1+1)) bt527.1 bt527.2)) else(some (0,([]:List (S49)),false)))=some (r1,r2,r3):=H;have A15:=qae.mk A150;clear A150;by_cases c16:t525=true
       ·subst c16
        have H1:((spec_l2Do.f x522000_1 x522001_1 ((rd_T32 l1 x8_1).f0) ((rd_T32 l1 x8_1).f1) ((rd_T32 l1 x8_1).f2)).bind fun bt527=>(spec_l2Of.l0 k1 l1 (wrap64 (x8_1+1)) bt527.1 bt527.2))=some (r1,r2,r3):=by rw[if_pos rfl] at H;exact H
        clear H;have H:=H1;clear H1;replace H:=Option.bind_eq_some_iff.mp H;obtain⟨⟨t527,t528⟩,A170,H⟩:=H;replace H:(spec_l2Of.l0 k1 l1 (wrap64 (x8_1+1)) t527 t528)=some (r1,r2,r3):=H;have A17:=qae.mk A170;clear A170;have H':=qae.mk H;clear H
        try go_wp2
        replace HO_522001:=qae.mk (Kd.R_drew HO_522001.out);replace BK515:=qae.mk (qaa BK515.out);replace BK521:=qae.mk (qaa BK521.out);replace HB:=qae.mk (qar HB.out);have p522:0≤(x8_1:Int):=of_decide_eq_true (za6);have q522:x8_1<(l1.length:Int):=of_decide_eq_true (za6);obtain⟨ad522,A522_2,c522_2,e522,hx522_0,hx522_1,hx522_2,hl522_2,hi522_2⟩:=at_T32 HR1.out x8_1 p522 q522;have hw522_2:=hx522_2;have hw522_1:=hx522_1;have hw522_0:=hx522_0
        cases e522
        have hxo522_2:=qae.mk hx522_2;replace hx522_0:=(HB.out.cell (World.block_lt_of_cell? w _ hx522_0)).trans hx522_0;replace hx522_1:=(HB.out.cell (World.block_lt_of_cell? w _ hx522_1)).trans hx522_1;replace hx522_2:=(HB.out.cell (World.block_lt_of_cell? w _ hx522_2)).trans hx522_2;have HR522_2:=qae.mk hi522_2;have HC522_2:=qae.mk hl522_2;clear hi522_2 hl522_2;replace p522:=eq_true p522;replace q522:=eq_true q522;have p524:0≤(x8_1:Int):=of_decide_eq_true (za6);have q524:x8_1<(l1.length:Int):=of_decide_eq_true (za6);obtain⟨ad524,A524_2,c524_2,e524,hx524_0,hx524_1,hx524_2,hl524_2,hi524_2⟩:=at_T32 HR1.out x8_1 p524 q524;have hw524_2:=hx524_2;have hw524_1:=hx524_1;have hw524_0:=hx524_0;obtain rfl:ad522=ad524:=(by injection e524);have ea_:=Option.some.inj (hxo522_2.out.symm.trans hx524_2)
        injection ea_ with ea_ en_ ec_
        subst ea_;subst ec_;clear en_;replace hx524_0:=(HB.out.cell (World.block_lt_of_cell? w _ hx524_0)).trans hx524_0;replace hx524_1:=(HB.out.cell (World.block_lt_of_cell? w _ hx524_1)).trans hx524_1;replace hx524_2:=(HB.out.cell (World.block_lt_of_cell? w _ hx524_2)).trans hx524_2;have HR524_2:=qae.mk hi524_2;have HC524_2:=qae.mk hl524_2;clear hi524_2 hl524_2;replace p524:=eq_true p524;replace q524:=eq_true q524
        refine start_ (n:=15) (S:=fun w'=>w'.cell? ⟨gb521,0,none⟩=some (.int .i64 x522000_1)∧w'.cell? ⟨gb521,1,none⟩=some (u522001)∧w'.cell? (ad522.add ((x8_1).toNat*3))=some (.int .i64 ((rd_T32 l1 x8_1).f0))∧w'.cell? ⟨(ad522.add ((x8_1).toNat*3)).block,(ad522.add ((x8_1).toNat*3)).off+1,none⟩=some (.int .i64 ((rd_T32 l1 x8_1).f1))∧w'.cell? ⟨(ad522.add ((x8_1).toNat*3)).block,(ad522.add ((x8_1).toNat*3)).off+2,none⟩=some (.slice A522_2 ((rd_T32 l1 x8_1).f2).length c522_2)∧w'.cell? (ad522.add ((x8_1).toNat*3))=some (.int .i64 ((rd_T32 l1 x8_1).f0))∧w'.cell? ⟨(ad522.add ((x8_1).toNat*3)).block,(ad522.add ((x8_1).toNat*3)).off+1,none⟩=some (.int .i64 ((rd_T32 l1 x8_1).f1))∧w'.cell? ⟨(ad522.add ((x8_1).toNat*3)).block,(ad522.add ((x8_1).toNat*3)).off+2,none⟩=some (.slice A522_2 ((rd_T32 l1 x8_1).f2).length c522_2)) (ds:=[]) #[false,false,false,false,false,false,false,false,false,false,false,false,false,false,false] (by kernel_rfl) rfl rfl ⟨(qaf BK521.out 0).trans rfl,(qaf BK521.out 1).trans rfl,((HB.out.cell (World.block_lt_of_cell? w _ hw522_0)).trans hw522_0),((HB.out.cell (World.block_lt_of_cell? w _ hw522_1)).trans hw522_1),((HB.out.cell (World.block_lt_of_cell? w _ hw522_2)).trans hw522_2),((HB.out.cell (World.block_lt_of_cell? w _ hw524_0)).trans hw524_0),((HB.out.cell (World.block_lt_of_cell? w _ hw524_1)).trans hw524_1),((HB.out.cell (World.block_lt_of_cell? w _ hw524_2)).trans hw524_2)⟩ (fun hHeld=>?_);refine with_tabW spec_l2Of.tab7 spec_l2Of.bits7 (fun HT_ HW_=>?_)
        generalize wr.drew=w18 at HO_522001 BK515 BK521 HB HR522_2 HR524_2 hx522_0 hx522_1 hx522_2 hx524_0 hx524_1 hx524_2 hHeld ⊢;refine qaq (i:=0) (N:=some 23) (v:=?_) (a':=?_) #[true,false,false,false,false,false,false,false,false,false,false,false,false,false,false] rfl rfl (qam HT_.out (by kernel_rfl)) (fun _ _ _ h=>h) (Or.inl ⟨by rfl,?_⟩) ?_ ?_;rotate_left
        ·intro w';go_simp
         with_reducible rfl
        rotate_left
        ·simp only[Act.put,List.setIfInBounds_toArray,List.set_cons_zero,List.set_cons_succ,qaj,qak];rfl
        refine qaq (i:=1) (N:=some 24) (v:=?_) (a':=?_) #[true,true,false,false,false,false,false,false,false,false,false,false,false,false,false] rfl rfl (qam HT_.out (by kernel_rfl)) (fun _ _ _ h=>h) (Or.inl ⟨by rfl,?_⟩) ?_ ?_;rotate_left
        ·intro w';go_simp
         with_reducible rfl
        rotate_left
        ·simp only[Act.put,List.setIfInBounds_toArray,List.set_cons_zero,List.set_cons_succ,qaj,qak];rfl
        refine qaq (i:=2) (N:=some 25) (v:=?_) (a':=?_) #[true,true,true,false,false,false,false,false,false,false,false,false,false,false,false] rfl rfl (qam HT_.out (by kernel_rfl)) (fun _ _ _ h=>h) (Or.inl ⟨by rfl,?_⟩) ?_ ?_;rotate_left
        ·intro w';go_simp
         with_reducible rfl
        rotate_left
        ·simp only[Act.put,List.setIfInBounds_toArray,List.set_cons_zero,List.set_cons_succ,qaj,qak];rfl
        refine take_ (i:=3) (N:=some 26) (v:=?_) (a':=?_) #[true,true,true,true,false,false,false,false,false,false,false,false,false,false,false] rfl rfl (take_ofW HT_.out HW_.out (by kernel_rfl)) (fun _ _ _ h=>h) (Or.inl ⟨by rfl,?_⟩) hHeld ?_ ?_;rotate_left
        ·rintro w' ⟨s0,s1,s2,s3,s4,s5,s6,s7⟩;go_simp
         with_reducible rfl
        rotate_left
        ·simp only[Act.put,List.setIfInBounds_toArray,List.set_cons_zero,List.set_cons_succ,qaj,qak];rfl
        refine one_ (i:=4) (N:=some 27) #[true,true,true,true,true,false,false,false,false,false,false,false,false,false,false] rfl rfl (one_of HT_.out (by kernel_rfl)) (by decide) (fun K hK=>?_);refine goes_ Try.func84 (by kernel_rfl) rfl #[.agg #[.int .i64 ((rd_T32 l1 x8_1).f0),.int .i64 ((rd_T32 l1 x8_1).f1),.slice A522_2 ((rd_T32 l1 x8_1).f2).length c522_2]] (by rfl) rfl rfl (by(try simp only[List.map_toArray,List.map_cons,List.map_nil]);first|done|rfl|(simp only[List.length_drop,List.length_take];rfl)) ?_
        with_reducible refine(spec_RecOk.calls k1 ((rd_T32 l1 x8_1).f0) ((rd_T32 l1 x8_1).f1) _ _ ((rd_T32 l1 x8_1).f2) true _ ?side1 ?side2 A13.out).mono ?_
        (case side1=>exact zR HR522_2 HB);(case side2=>exact HC522_2.out);rintro e w19 ⟨rfl,hb⟩;refine⟨_,rfl,?_⟩;replace HO_522001:=qae.mk (Kd.R_below (za2 HO_522001) hb);replace BK515:=zY BK515 hb;replace BK521:=zY BK521 hb;replace HB:=qae.mk (qad (za4 HB GE515 GE521) hb);(try clear hb);(try clear hb2);(try clear hk);(try clear hi);obtain⟨Ao20,co20,eo20⟩:=Kd.R_slice HO_522001.out;(first|subst eo20|(injection eo20 with f1_ f2_ f3_;have f4_:=f1_.symm;have f5_:=f3_.symm;clear f1_ f2_ f3_;subst f4_;subst f5_));refine hK.out _ _ ⟨(qaf BK521.out 0).trans rfl,(qaf BK521.out 1).trans rfl,((HB.out.cell (World.block_lt_of_cell? w _ hw522_0)).trans hw522_0),((HB.out.cell (World.block_lt_of_cell? w _ hw522_1)).trans hw522_1),((HB.out.cell (World.block_lt_of_cell? w _ hw522_2)).trans hw522_2),((HB.out.cell (World.block_lt_of_cell? w _ hw524_0)).trans hw524_0),((HB.out.cell (World.block_lt_of_cell? w _ hw524_1)).trans hw524_1),((HB.out.cell (World.block_lt_of_cell? w _ hw524_2)).trans hw524_2)⟩ (fun hHeld=>?_);clear hK K;refine norm_ (a':=?_) ?_ ?_;rotate_left
        ·show Act.put _ (some 27) _=_;simp only[Act.put,List.setIfInBounds_toArray,List.set_cons_zero,List.set_cons_succ,qaj,qak];rfl
        refine qaq (i:=5) (N:=some 28) (v:=?_) (a':=?_) #[true,true,true,true,true,true,false,false,false,false,false,false,false,false,false] rfl rfl (qam HT_.out (by kernel_rfl)) (fun _ _ _ h=>h) (Or.inl ⟨by rfl,?_⟩) ?_ ?_;rotate_left
        ·intro w';go_simp
         with_reducible rfl
        rotate_left
        ·simp only[Act.put,List.setIfInBounds_toArray,List.set_cons_zero,List.set_cons_succ,qaj,qak];rfl
        refine qaq (i:=6) (N:=some 29) (v:=?_) (a':=?_) #[true,true,true,true,true,true,true,false,false,false,false,false,false,false,false] rfl rfl (qam HT_.out (by kernel_rfl)) (fun _ _ _ h=>h) (Or.inl ⟨by rfl,?_⟩) ?_ ?_;rotate_left
        ·intro w';go_simp
         with_reducible rfl
        rotate_left
        ·simp only[Act.put,List.setIfInBounds_toArray,List.set_cons_zero,List.set_cons_succ,qaj,qak];rfl
        refine qaq (i:=8) (N:=some 31) (v:=?_) (a':=?_) #[true,true,true,true,true,true,true,false,true,false,false,false,false,false,false] rfl rfl (qam HT_.out (by kernel_rfl)) (fun _ _ _ h=>h) (Or.inl ⟨by rfl,?_⟩) ?_ ?_;rotate_left
        ·intro w';go_simp
         with_reducible rfl
        rotate_left
        ·simp only[Act.put,List.setIfInBounds_toArray,List.set_cons_zero,List.set_cons_succ,qaj,qak];rfl
        refine qaq (i:=9) (N:=some 32) (v:=?_) (a':=?_) #[true,true,true,true,true,true,true,false,true,true,false,false,false,false,false] rfl rfl (qam HT_.out (by kernel_rfl)) (fun _ _ _ h=>h) (Or.inl ⟨by rfl,?_⟩) ?_ ?_;rotate_left
        ·intro w';go_simp
         with_reducible rfl
        rotate_left
        ·simp only[Act.put,List.setIfInBounds_toArray,List.set_cons_zero,List.set_cons_succ,qaj,qak];rfl
        refine qaq (i:=10) (N:=some 33) (v:=?_) (a':=?_) #[true,true,true,true,true,true,true,false,true,true,true,false,false,false,false] rfl rfl (qam HT_.out (by kernel_rfl)) (fun _ _ _ h=>h) (Or.inl ⟨by rfl,?_⟩) ?_ ?_;rotate_left
        ·intro w';go_simp
         with_reducible rfl
        rotate_left
        ·simp only[Act.put,List.setIfInBounds_toArray,List.set_cons_zero,List.set_cons_succ,qaj,qak];rfl
        refine take_ (i:=7) (N:=some 30) (v:=?_) (a':=?_) #[true,true,true,true,true,true,true,true,true,true,true,false,false,false,false] rfl rfl (take_ofW HT_.out HW_.out (by kernel_rfl)) (fun _ _ _ h=>h) (Or.inl ⟨by rfl,?_⟩) hHeld ?_ ?_;rotate_left
        ·rintro w' ⟨s0,s1,s2,s3,s4,s5,s6,s7⟩;go_simp
         with_reducible rfl
        rotate_left
        ·simp only[Act.put,List.setIfInBounds_toArray,List.set_cons_zero,List.set_cons_succ,qaj,qak];rfl
        refine take_ (i:=11) (N:=some 34) (v:=?_) (a':=?_) #[true,true,true,true,true,true,true,true,true,true,true,true,false,false,false] rfl rfl (take_ofW HT_.out HW_.out (by kernel_rfl)) (fun _ _ _ h=>h) (Or.inl ⟨by rfl,?_⟩) hHeld ?_ ?_;rotate_left
        ·rintro w' ⟨s0,s1,s2,s3,s4,s5,s6,s7⟩;go_simp
         with_reducible rfl
        rotate_left
        ·simp only[Act.put,List.setIfInBounds_toArray,List.set_cons_zero,List.set_cons_succ,qaj,qak];rfl
        refine one_ (i:=12) (N:=some 35) #[true,true,true,true,true,true,true,true,true,true,true,true,true,false,false] rfl rfl (one_of HT_.out (by kernel_rfl)) (by decide) (fun K hK=>?_);refine goes_ Try.func90 (by kernel_rfl) rfl #[.agg #[.int .i64 x522000_1,.slice Ao20 x522001_1.length co20],.agg #[.int .i64 ((rd_T32 l1 x8_1).f0),.int .i64 ((rd_T32 l1 x8_1).f1),.slice A522_2 ((rd_T32 l1 x8_1).f2).length c522_2]] (by rfl) rfl rfl (by(try simp only[List.map_toArray,List.map_cons,List.map_nil]);first|done|rfl|(simp only[List.length_drop,List.length_take];rfl)) ?_
        with_reducible refine(spec_l2May.calls k1 x522000_1 _ _ x522001_1 ((rd_T32 l1 x8_1).f0) ((rd_T32 l1 x8_1).f1) _ _ ((rd_T32 l1 x8_1).f2) true _ ?side1 ?side2 ?side3 ?side4 A15.out).mono ?_
        (case side1=>repeat(first|exact(Kd.R_reads' HO_522001.out).2.2|(with_reducible refine Kd.C_alloc ?_ _)|(with_reducible refine Kd.C_drewN ?_ _)|(with_reducible refine Kd.C_drew ?_)));(case side2=>exact(Kd.R_reads' HO_522001.out).2.1);(case side3=>exact zR HR524_2 HB);(case side4=>exact HC524_2.out);rintro e w21 ⟨rfl,hb⟩;refine⟨_,rfl,?_⟩;replace HO_522001:=qae.mk (Kd.R_below (za2 HO_522001) hb);replace BK515:=zY BK515 hb;replace BK521:=zY BK521 hb;replace HB:=qae.mk (qad (za4 HB GE515 GE521) hb);(try clear hb);(try clear hb2);(try clear hk);(try clear hi);refine hK.out _ _ ⟨(qaf BK521.out 0).trans rfl,(qaf BK521.out 1).trans rfl,((HB.out.cell (World.block_lt_of_cell? w _ hw522_0)).trans hw522_0),((HB.out.cell (World.block_lt_of_cell? w _ hw522_1)).trans hw522_1),((HB.out.cell (World.block_lt_of_cell? w _ hw522_2)).trans hw522_2),((HB.out.cell (World.block_lt_of_cell? w _ hw524_0)).trans hw524_0),((HB.out.cell (World.block_lt_of_cell? w _ hw524_1)).trans hw524_1),((HB.out.cell (World.block_lt_of_cell? w _ hw524_2)).trans hw524_2)⟩ (fun hHeld=>?_);clear hK K;refine norm_ (a':=?_) ?_ ?_;rotate_left
        ·show Act.put _ (some 35) _=_;simp only[Act.put,List.setIfInBounds_toArray,List.set_cons_zero,List.set_cons_succ,qaj,qak];rfl
        refine qaq (i:=13) (N:=some 36) (v:=?_) (a':=?_) #[true,true,true,true,true,true,true,true,true,true,true,true,true,true,false] rfl rfl (qam HT_.out (by kernel_rfl)) (fun _ _ _ h=>h) (Or.inl ⟨by rfl,?_⟩) ?_ ?_;rotate_left
        ·intro w';go_simp
         with_reducible rfl
        rotate_left
        ·simp only[Act.put,List.setIfInBounds_toArray,List.set_cons_zero,List.set_cons_succ,qaj,qak];rfl
        refine qaq (i:=14) (N:=some 37) (v:=?_) (a':=?_) #[true,true,true,true,true,true,true,true,true,true,true,true,true,true,true] rfl rfl (qam HT_.out (by kernel_rfl)) (fun _ _ _ h=>h) (Or.inl ⟨by rfl,?_⟩) ?_ ?_;rotate_left
        ·intro w';go_simp
         with_reducible rfl
        rotate_left
        ·simp only[Act.put,List.setIfInBounds_toArray,List.set_cons_zero,List.set_cons_succ,qaj,qak];rfl
        refine done_ (done_of HT_.out (by kernel_rfl)) ?_
        try go_wp2
        replace HO_522001:=qae.mk (Kd.R_drew HO_522001.out);replace BK515:=qae.mk (qaa BK515.out);replace BK521:=qae.mk (qaa BK521.out);replace HB:=qae.mk (qar HB.out);have p526:0≤(x8_1:Int):=of_decide_eq_true (za6);have q526:x8_1<(l1.length:Int):=of_decide_eq_true (za6);obtain⟨ad526,A526_2,c526_2,e526,hx526_0,hx526_1,hx526_2,hl526_2,hi526_2⟩:=at_T32 HR1.out x8_1 p526 q526;have hw526_2:=hx526_2;have hw526_1:=hx526_1;have hw526_0:=hx526_0;obtain rfl:ad522=ad526:=(by injection e526);have ea_:=Option.some.inj (hxo522_2.out.symm.trans hx526_2)
        injection ea_ with ea_ en_ ec_
        subst ea_;subst ec_;clear en_;replace hx526_0:=(HB.out.cell (World.block_lt_of_cell? w _ hx526_0)).trans hx526_0;replace hx526_1:=(HB.out.cell (World.block_lt_of_cell? w _ hx526_1)).trans hx526_1;replace hx526_2:=(HB.out.cell (World.block_lt_of_cell? w _ hx526_2)).trans hx526_2;have HR526_2:=qae.mk hi526_2;have HC526_2:=qae.mk hl526_2;clear hi526_2 hl526_2;replace p526:=eq_true p526;replace q526:=eq_true q526
        refine start_ (n:=7) (S:=fun w'=>w'.cell? ⟨gb521,0,none⟩=some (.int .i64 x522000_1)∧w'.cell? ⟨gb521,1,none⟩=some (.slice Ao20 x522001_1.length co20)∧w'.cell? (ad522.add ((x8_1).toNat*3))=some (.int .i64 ((rd_T32 l1 x8_1).f0))∧w'.cell? ⟨(ad522.add ((x8_1).toNat*3)).block,(ad522.add ((x8_1).toNat*3)).off+1,none⟩=some (.int .i64 ((rd_T32 l1 x8_1).f1))∧w'.cell? ⟨(ad522.add ((x8_1).toNat*3)).block,(ad522.add ((x8_1).toNat*3)).off+2,none⟩=some (.slice A522_2 ((rd_T32 l1 x8_1).f2).length c522_2)) (ds:=[6]) #[false,false,false,false,false,false,false] (by kernel_rfl) rfl rfl ⟨(qaf BK521.out 0).trans rfl,(qaf BK521.out 1).trans rfl,((HB.out.cell (World.block_lt_of_cell? w _ hw526_0)).trans hw526_0),((HB.out.cell (World.block_lt_of_cell? w _ hw526_1)).trans hw526_1),((HB.out.cell (World.block_lt_of_cell? w _ hw526_2)).trans hw526_2)⟩ (fun hHeld=>?_)
        generalize w21.drew=w22 at HO_522001 BK515 BK521 HB HR526_2 hx526_0 hx526_1 hx526_2 hHeld ⊢;refine qaq (i:=1) (N:=some 40) (v:=?_) (a':=?_) #[false,true,false,false,false,false,false] rfl rfl (by kernel_rfl) (fun _ _ _ h=>h) (Or.inl ⟨by rfl,?_⟩) ?_ ?_;rotate_left
        ·intro w';go_simp
         with_reducible rfl
        rotate_left
        ·simp only[Act.put,List.setIfInBounds_toArray,List.set_cons_zero,List.set_cons_succ,qaj,qak];rfl
        refine qaq (i:=2) (N:=some 41) (v:=?_) (a':=?_) #[false,true,true,false,false,false,false] rfl rfl (by kernel_rfl) (fun _ _ _ h=>h) (Or.inl ⟨by rfl,?_⟩) ?_ ?_;rotate_left
        ·intro w';go_simp
         with_reducible rfl
        rotate_left
        ·simp only[Act.put,List.setIfInBounds_toArray,List.set_cons_zero,List.set_cons_succ,qaj,qak];rfl
        refine qaq (i:=3) (N:=some 42) (v:=?_) (a':=?_) #[false,true,true,true,false,false,false] rfl rfl (by kernel_rfl) (fun _ _ _ h=>h) (Or.inl ⟨by rfl,?_⟩) ?_ ?_;rotate_left
        ·intro w';go_simp
         with_reducible rfl
        rotate_left
        ·simp only[Act.put,List.setIfInBounds_toArray,List.set_cons_zero,List.set_cons_succ,qaj,qak];rfl
        refine take_ (i:=0) (N:=some 39) (v:=?_) (a':=?_) #[true,true,true,true,false,false,false] rfl rfl (by kernel_rfl) (fun _ _ _ h=>h) (Or.inl ⟨by rfl,?_⟩) hHeld ?_ ?_;rotate_left
        ·rintro w' ⟨s0,s1,s2,s3,s4⟩;go_simp
         with_reducible rfl
        rotate_left
        ·simp only[Act.put,List.setIfInBounds_toArray,List.set_cons_zero,List.set_cons_succ,qaj,qak];rfl
        refine take_ (i:=4) (N:=some 43) (v:=?_) (a':=?_) #[true,true,true,true,true,false,false] rfl rfl (by kernel_rfl) (fun _ _ _ h=>h) (Or.inl ⟨by rfl,?_⟩) hHeld ?_ ?_;rotate_left
        ·rintro w' ⟨s0,s1,s2,s3,s4⟩;go_simp
         with_reducible rfl
        rotate_left
        ·simp only[Act.put,List.setIfInBounds_toArray,List.set_cons_zero,List.set_cons_succ,qaj,qak];rfl
        refine one_ (i:=5) (N:=some 44) #[true,true,true,true,true,true,false] rfl rfl (by kernel_rfl) (by decide) (fun K hK=>?_);refine goes_ Try.func61 (by kernel_rfl) rfl #[.agg #[.int .i64 x522000_1,.slice Ao20 x522001_1.length co20],.agg #[.int .i64 ((rd_T32 l1 x8_1).f0),.int .i64 ((rd_T32 l1 x8_1).f1),.slice A522_2 ((rd_T32 l1 x8_1).f2).length c522_2]] (by rfl) rfl rfl (by(try simp only[List.map_toArray,List.map_cons,List.map_nil]);first|done|rfl|(simp only[List.length_drop,List.length_take];rfl)) ?_
        with_reducible refine(spec_l2Do.calls x522000_1 (fun k_=>some k_=(.slice Ao20 x522001_1.length co20:Value).ownBlock) (.slice Ao20 x522001_1.length co20) x522001_1 ((rd_T32 l1 x8_1).f0) ((rd_T32 l1 x8_1).f1) _ _ ((rd_T32 l1 x8_1).f2) t527 t528 w _ ?side1 ?side2 ?side3 ?side4 A17.out).mono ?_
        (case side1=>exact(za4 HB GE515 GE521));(case side2=>exact Kd.R_tight rfl HO_522001.out);(case side3=>exact Kd.C_kept_came (Kd.heap_int .i64) HR526_2.out (za4 HB GE515 GE521) (fun k_ hs_=>(fun e_=>Kd.R_base HO_522001.out k_ e_.symm) hs_));(case side4=>exact HC526_2.out);rintro e w23 ⟨v529,rfl,ho0,hb,hkp⟩;refine⟨_,rfl,?_⟩;replace BK515:=qae.mk (blk_kept (zB BK515) hkp (fun hs_=>(fun e_=>(Kd.R_ne HO_522001.out BK515.out (by decide)) e_) hs_));replace BK521:=qae.mk (blk_kept (zB BK521) hkp (fun hs_=>(fun e_=>(Kd.R_ne HO_522001.out BK521.out (by decide)) e_) hs_));have HO530:=qae.mk (Kd.R_mono (ok':=fun k_=>True) ho0 (fun k_ hk_=>trivial));replace HB:=qae.mk hb;clear HO_522001;(try clear hb);(try clear hkp);(try clear ho0);obtain⟨Ao25,co25,eo25⟩:=Kd.R_slice HO530.out;(first|subst eo25|(injection eo25 with f1_ f2_ f3_;have f4_:=f1_.symm;have f5_:=f3_.symm;clear f1_ f2_ f3_;subst f4_;subst f5_));refine hK.out _ _ ⟨(qaf BK521.out 0).trans rfl,(qaf BK521.out 1).trans rfl,((HB.out.cell (World.block_lt_of_cell? w _ hw526_0)).trans hw526_0),((HB.out.cell (World.block_lt_of_cell? w _ hw526_1)).trans hw526_1),((HB.out.cell (World.block_lt_of_cell? w _ hw526_2)).trans hw526_2)⟩ (fun hHeld=>?_)
        clear hK K;refine norm_ (a':=?_) ?_ ?_;rotate_left
        ·show Act.put _ (some 44) _=_;simp only[Act.put,List.setIfInBounds_toArray,List.set_cons_zero,List.set_cons_succ,qaj,qak];rfl
        refine last_ (i:=6) (N:=none) #[true,true,true,true,true,true,true] rfl rfl (by kernel_rfl) (by decide) (fun K hK=>?_);have hs24:w23.cell? ⟨gb521,0,none⟩=some (.int .i64 x522000_1):=(qaf BK521.out 0).trans rfl;have hfs24:=blk_frozen BK521.out 0;have hns24_0:=NB515_521.out;have hms24_0:=NB521_515.out;have hs26:w23.cell? ⟨gb521,1,none⟩=some (.slice Ao20 x522001_1.length co20):=(qaf BK521.out 1).trans rfl;have hfs26:=blk_frozen BK521.out 1;have hns26_0:=NB515_521.out;have hms26_0:=NB521_515.out;refine skip_ (w1:=?_) (by rfl) rfl ?_ ?_;rotate_left
        ·go_simp;rfl
        refine hK.out _ _ ?_;clear hK K;refine done_ (by kernel_rfl) ?_
        try go_wp2
        go_roundg k1
        case measure=>have:=HK1.out;omega
        case rel=>exact⟨(wrap64 (x8_1+1)),(x516000_1),(t527),(t528),(.slice Ao25 t528.length co25),(za46),H',⟨by have:=HK1.out;omega⟩,⟨by(with_reducible repeat(first|apply Kd.R_alloc|apply Kd.R_drewN|apply Kd.R_drew));exact Kd.R_mono (Kd.R_far (p:=⟨gb521,1,none⟩) (Kd.R_far (p:=⟨gb521,0,none⟩) (Kd.R_types HO530.out BK521.out (by decide)) (fun _ hk=>hk.2) (.int .i64 t527)) (fun _ hk=>hk.2) (.slice Ao25 t528.length co25)) (fun _ hk=>trivial)⟩,⟨za0 NB515_521 BK515⟩,⟨by(with_reducible repeat(first|refine qac ?_ _|refine qaa ?_|refine qab ?_ _));refine qah (cs:=#[.int .i64 t527,.slice Ao20 x522001_1.length co20]) ?_ 1 _ rfl;(with_reducible repeat(first|refine qac ?_ _|refine qaa ?_|refine qab ?_ _));refine qah (cs:=#[.int .i64 x522000_1,.slice Ao20 x522001_1.length co20]) ?_ 0 _ rfl;(with_reducible repeat(first|refine qac ?_ _|refine qaa ?_|refine qab ?_ _));exact BK521.out⟩,⟨za4 HB GE515 GE521⟩⟩
       ·replace c16:=Bool.eq_false_iff.mpr c16;subst c16
        have H1:(some (0,([]:List (S49)),false))=some (r1,r2,r3):=by rw[if_neg (show ¬(false=true) by decide)] at H;exact H
        clear H;have H:=H1;clear H1;simp only[Option.some.injEq,Prod.mk.injEq] at H;obtain⟨rfl,rfl,rfl⟩:=H
        try go_wp2
        replace HO_522001:=qae.mk (Kd.R_drew HO_522001.out);replace BK515:=qae.mk (qaa BK515.out);replace BK521:=qae.mk (qaa BK521.out);replace HB:=qae.mk (qar HB.out);have p522:0≤(x8_1:Int):=of_decide_eq_true (za6);have q522:x8_1<(l1.length:Int):=of_decide_eq_true (za6);obtain⟨ad522,A522_2,c522_2,e522,hx522_0,hx522_1,hx522_2,hl522_2,hi522_2⟩:=at_T32 HR1.out x8_1 p522 q522;have hw522_2:=hx522_2;have hw522_1:=hx522_1;have hw522_0:=hx522_0
        cases e522
        have hxo522_2:=qae.mk hx522_2;replace hx522_0:=(HB.out.cell (World.block_lt_of_cell? w _ hx522_0)).trans hx522_0;replace hx522_1:=(HB.out.cell (World.block_lt_of_cell? w _ hx522_1)).trans hx522_1;replace hx522_2:=(HB.out.cell (World.block_lt_of_cell? w _ hx522_2)).trans hx522_2;have HR522_2:=qae.mk hi522_2;have HC522_2:=qae.mk hl522_2;clear hi522_2 hl522_2;replace p522:=eq_true p522;replace q522:=eq_true q522;have p524:0≤(x8_1:Int):=of_decide_eq_true (za6);have q524:x8_1<(l1.length:Int):=of_decide_eq_true (za6);obtain⟨ad524,A524_2,c524_2,e524,hx524_0,hx524_1,hx524_2,hl524_2,hi524_2⟩:=at_T32 HR1.out x8_1 p524 q524;have hw524_2:=hx524_2;have hw524_1:=hx524_1;have hw524_0:=hx524_0;obtain rfl:ad522=ad524:=(by injection e524);have ea_:=Option.some.inj (hxo522_2.out.symm.trans hx524_2)
        injection ea_ with ea_ en_ ec_
        subst ea_;subst ec_;clear en_;replace hx524_0:=(HB.out.cell (World.block_lt_of_cell? w _ hx524_0)).trans hx524_0;replace hx524_1:=(HB.out.cell (World.block_lt_of_cell? w _ hx524_1)).trans hx524_1;replace hx524_2:=(HB.out.cell (World.block_lt_of_cell? w _ hx524_2)).trans hx524_2;have HR524_2:=qae.mk hi524_2;have HC524_2:=qae.mk hl524_2;clear hi524_2 hl524_2;replace p524:=eq_true p524;replace q524:=eq_true q524
        refine start_ (n:=15) (S:=fun w'=>w'.cell? ⟨gb521,0,none⟩=some (.int .i64 x522000_1)∧w'.cell? ⟨gb521,1,none⟩=some (u522001)∧w'.cell? (ad522.add ((x8_1).toNat*3))=some (.int .i64 ((rd_T32 l1 x8_1).f0))∧w'.cell? ⟨(ad522.add ((x8_1).toNat*3)).block,(ad522.add ((x8_1).toNat*3)).off+1,none⟩=some (.int .i64 ((rd_T32 l1 x8_1).f1))∧w'.cell? ⟨(ad522.add ((x8_1).toNat*3)).block,(ad522.add ((x8_1).toNat*3)).off+2,none⟩=some (.slice A522_2 ((rd_T32 l1 x8_1).f2).length c522_2)∧w'.cell? (ad522.add ((x8_1).toNat*3))=some (.int .i64 ((rd_T32 l1 x8_1).f0))∧w'.cell? ⟨(ad522.add ((x8_1).toNat*3)).block,(ad522.add ((x8_1).toNat*3)).off+1,none⟩=some (.int .i64 ((rd_T32 l1 x8_1).f1))∧w'.cell? ⟨(ad522.add ((x8_1).toNat*3)).block,(ad522.add ((x8_1).toNat*3)).off+2,none⟩=some (.slice A522_2 ((rd_T32 l1 x8_1).f2).length c522_2)) (ds:=[]) #[false,false,false,false,false,false,false,false,false,false,false,false,false,false,false] (by kernel_rfl) rfl rfl ⟨(qaf BK521.out 0).trans rfl,(qaf BK521.out 1).trans rfl,((HB.out.cell (World.block_lt_of_cell? w _ hw522_0)).trans hw522_0),((HB.out.cell (World.block_lt_of_cell? w _ hw522_1)).trans hw522_1),((HB.out.cell (World.block_lt_of_cell? w _ hw522_2)).trans hw522_2),((HB.out.cell (World.block_lt_of_cell? w _ hw524_0)).trans hw524_0),((HB.out.cell (World.block_lt_of_cell? w _ hw524_1)).trans hw524_1),((HB.out.cell (World.block_lt_of_cell? w _ hw524_2)).trans hw524_2)⟩ (fun hHeld=>?_);refine with_tabW spec_l2Of.tab7 spec_l2Of.bits7 (fun HT_ HW_=>?_)
        generalize wr.drew=w27 at HO_522001 BK515 BK521 HB HR522_2 HR524_2 hx522_0 hx522_1 hx522_2 hx524_0 hx524_1 hx524_2 hHeld ⊢;refine qaq (i:=0) (N:=some 23) (v:=?_) (a':=?_) #[true,false,false,false,false,false,false,false,false,false,false,false,false,false,false] rfl rfl (qam HT_.out (by kernel_rfl)) (fun _ _ _ h=>h) (Or.inl ⟨by rfl,?_⟩) ?_ ?_;rotate_left
        ·intro w';go_simp
         with_reducible rfl
        rotate_left
        ·simp only[Act.put,List.setIfInBounds_toArray,List.set_cons_zero,List.set_cons_succ,qaj,qak];rfl
        refine qaq (i:=1) (N:=some 24) (v:=?_) (a':=?_) #[true,true,false,false,false,false,false,false,false,false,false,false,false,false,false] rfl rfl (qam HT_.out (by kernel_rfl)) (fun _ _ _ h=>h) (Or.inl ⟨by rfl,?_⟩) ?_ ?_;rotate_left
        ·intro w';go_simp
         with_reducible rfl
        rotate_left
        ·simp only[Act.put,List.setIfInBounds_toArray,List.set_cons_zero,List.set_cons_succ,qaj,qak];rfl
        refine qaq (i:=2) (N:=some 25) (v:=?_) (a':=?_) #[true,true,true,false,false,false,false,false,false,false,false,false,false,false,false] rfl rfl (qam HT_.out (by kernel_rfl)) (fun _ _ _ h=>h) (Or.inl ⟨by rfl,?_⟩) ?_ ?_;rotate_left
        ·intro w';go_simp
         with_reducible rfl
        rotate_left
        ·simp only[Act.put,List.setIfInBounds_toArray,List.set_cons_zero,List.set_cons_succ,qaj,qak];rfl
        refine take_ (i:=3) (N:=some 26) (v:=?_) (a':=?_) #[true,true,true,true,false,false,false,false,false,false,false,false,false,false,false] rfl rfl (take_ofW HT_.out HW_.out (by kernel_rfl)) (fun _ _ _ h=>h) (Or.inl ⟨by rfl,?_⟩) hHeld ?_ ?_;rotate_left
        ·rintro w' ⟨s0,s1,s2,s3,s4,s5,s6,s7⟩;go_simp
         with_reducible rfl
        rotate_left
        ·simp only[Act.put,List.setIfInBounds_toArray,List.set_cons_zero,List.set_cons_succ,qaj,qak];rfl
        refine one_ (i:=4) (N:=some 27) #[true,true,true,true,true,false,false,false,false,false,false,false,false,false,false] rfl rfl (one_of HT_.out (by kernel_rfl)) (by decide) (fun K hK=>?_);refine goes_ Try.func84 (by kernel_rfl) rfl #[.agg #[.int .i64 ((rd_T32 l1 x8_1).f0),.int .i64 ((rd_T32 l1 x8_1).f1),.slice A522_2 ((rd_T32 l1 x8_1).f2).length c522_2]] (by rfl) rfl rfl (by(try simp only[List.map_toArray,List.map_cons,List.map_nil]);first|done|rfl|(simp only[List.length_drop,List.length_take];rfl)) ?_
        with_reducible refine(spec_RecOk.calls k1 ((rd_T32 l1 x8_1).f0) ((rd_T32 l1 x8_1).f1) _ _ ((rd_T32 l1 x8_1).f2) true _ ?side1 ?side2 A13.out).mono ?_
        (case side1=>exact zR HR522_2 HB);(case side2=>exact HC522_2.out);rintro e w28 ⟨rfl,hb⟩;refine⟨_,rfl,?_⟩;replace HO_522001:=qae.mk (Kd.R_below (za2 HO_522001) hb);replace BK515:=zY BK515 hb;replace BK521:=zY BK521 hb;replace HB:=qae.mk (qad (za4 HB GE515 GE521) hb);(try clear hb);(try clear hb2);(try clear hk);(try clear hi);obtain⟨Ao29,co29,eo29⟩:=Kd.R_slice HO_522001.out;(first|subst eo29|(injection eo29 with f1_ f2_ f3_;have f4_:=f1_.symm;have f5_:=f3_.symm;clear f1_ f2_ f3_;subst f4_;subst f5_));refine hK.out _ _ ⟨(qaf BK521.out 0).trans rfl,(qaf BK521.out 1).trans rfl,((HB.out.cell (World.block_lt_of_cell? w _ hw522_0)).trans hw522_0),((HB.out.cell (World.block_lt_of_cell? w _ hw522_1)).trans hw522_1),((HB.out.cell (World.block_lt_of_cell? w _ hw522_2)).trans hw522_2),((HB.out.cell (World.block_lt_of_cell? w _ hw524_0)).trans hw524_0),((HB.out.cell (World.block_lt_of_cell? w _ hw524_1)).trans hw524_1),((HB.out.cell (World.block_lt_of_cell? w _ hw524_2)).trans hw524_2)⟩ (fun hHeld=>?_);clear hK K;refine norm_ (a':=?_) ?_ ?_;rotate_left
        ·show Act.put _ (some 27) _=_;simp only[Act.put,List.setIfInBounds_toArray,List.set_cons_zero,List.set_cons_succ,qaj,qak];rfl
        refine qaq (i:=5) (N:=some 28) (v:=?_) (a':=?_) #[true,true,true,true,true,true,false,false,false,false,false,false,false,false,false] rfl rfl (qam HT_.out (by kernel_rfl)) (fun _ _ _ h=>h) (Or.inl ⟨by rfl,?_⟩) ?_ ?_;rotate_left
        ·intro w';go_simp
         with_reducible rfl
        rotate_left
        ·simp only[Act.put,List.setIfInBounds_toArray,List.set_cons_zero,List.set_cons_succ,qaj,qak];rfl
        refine qaq (i:=6) (N:=some 29) (v:=?_) (a':=?_) #[true,true,true,true,true,true,true,false,false,false,false,false,false,false,false] rfl rfl (qam HT_.out (by kernel_rfl)) (fun _ _ _ h=>h) (Or.inl ⟨by rfl,?_⟩) ?_ ?_;rotate_left
        ·intro w';go_simp
         with_reducible rfl
        rotate_left
        ·simp only[Act.put,List.setIfInBounds_toArray,List.set_cons_zero,List.set_cons_succ,qaj,qak];rfl
        refine qaq (i:=8) (N:=some 31) (v:=?_) (a':=?_) #[true,true,true,true,true,true,true,false,true,false,false,false,false,false,false] rfl rfl (qam HT_.out (by kernel_rfl)) (fun _ _ _ h=>h) (Or.inl ⟨by rfl,?_⟩) ?_ ?_;rotate_left
        ·intro w';go_simp
         with_reducible rfl
        rotate_left
        ·simp only[Act.put,List.setIfInBounds_toArray,List.set_cons_zero,List.set_cons_succ,qaj,qak];rfl
        refine qaq (i:=9) (N:=some 32) (v:=?_) (a':=?_) #[true,true,true,true,true,true,true,false,true,true,false,false,false,false,false] rfl rfl (qam HT_.out (by kernel_rfl)) (fun _ _ _ h=>h) (Or.inl ⟨by rfl,?_⟩) ?_ ?_;rotate_left
        ·intro w';go_simp
         with_reducible rfl
        rotate_left
        ·simp only[Act.put,List.setIfInBounds_toArray,List.set_cons_zero,List.set_cons_succ,qaj,qak];rfl
        refine qaq (i:=10) (N:=some 33) (v:=?_) (a':=?_) #[true,true,true,true,true,true,true,false,true,true,true,false,false,false,false] rfl rfl (qam HT_.out (by kernel_rfl)) (fun _ _ _ h=>h) (Or.inl ⟨by rfl,?_⟩) ?_ ?_;rotate_left
        ·intro w';go_simp
         with_reducible rfl
        rotate_left
        ·simp only[Act.put,List.setIfInBounds_toArray,List.set_cons_zero,List.set_cons_succ,qaj,qak];rfl
        refine take_ (i:=7) (N:=some 30) (v:=?_) (a':=?_) #[true,true,true,true,true,true,true,true,true,true,true,false,false,false,false] rfl rfl (take_ofW HT_.out HW_.out (by kernel_rfl)) (fun _ _ _ h=>h) (Or.inl ⟨by rfl,?_⟩) hHeld ?_ ?_;rotate_left
        ·rintro w' ⟨s0,s1,s2,s3,s4,s5,s6,s7⟩;go_simp
         with_reducible rfl
        rotate_left
        ·simp only[Act.put,List.setIfInBounds_toArray,List.set_cons_zero,List.set_cons_succ,qaj,qak];rfl
        refine take_ (i:=11) (N:=some 34) (v:=?_) (a':=?_) #[true,true,true,true,true,true,true,true,true,true,true,true,false,false,false] rfl rfl (take_ofW HT_.out HW_.out (by kernel_rfl)) (fun _ _ _ h=>h) (Or.inl ⟨by rfl,?_⟩) hHeld ?_ ?_;rotate_left
        ·rintro w' ⟨s0,s1,s2,s3,s4,s5,s6,s7⟩;go_simp
         with_reducible rfl
        rotate_left
        ·simp only[Act.put,List.setIfInBounds_toArray,List.set_cons_zero,List.set_cons_succ,qaj,qak];rfl
        refine one_ (i:=12) (N:=some 35) #[true,true,true,true,true,true,true,true,true,true,true,true,true,false,false] rfl rfl (one_of HT_.out (by kernel_rfl)) (by decide) (fun K hK=>?_);refine goes_ Try.func90 (by kernel_rfl) rfl #[.agg #[.int .i64 x522000_1,.slice Ao29 x522001_1.length co29],.agg #[.int .i64 ((rd_T32 l1 x8_1).f0),.int .i64 ((rd_T32 l1 x8_1).f1),.slice A522_2 ((rd_T32 l1 x8_1).f2).length c522_2]] (by rfl) rfl rfl (by(try simp only[List.map_toArray,List.map_cons,List.map_nil]);first|done|rfl|(simp only[List.length_drop,List.length_take];rfl)) ?_
        with_reducible refine(spec_l2May.calls k1 x522000_1 _ _ x522001_1 ((rd_T32 l1 x8_1).f0) ((rd_T32 l1 x8_1).f1) _ _ ((rd_T32 l1 x8_1).f2) false _ ?side1 ?side2 ?side3 ?side4 A15.out).mono ?_
        (case side1=>repeat(first|exact(Kd.R_reads' HO_522001.out).2.2|(with_reducible refine Kd.C_alloc ?_ _)|(with_reducible refine Kd.C_drewN ?_ _)|(with_reducible refine Kd.C_drew ?_)));(case side2=>exact(Kd.R_reads' HO_522001.out).2.1);(case side3=>exact zR HR524_2 HB);(case side4=>exact HC524_2.out);rintro e w30 ⟨rfl,hb⟩;refine⟨_,rfl,?_⟩;replace HO_522001:=qae.mk (Kd.R_below (za2 HO_522001) hb);replace BK515:=zY BK515 hb;replace BK521:=zY BK521 hb;replace HB:=qae.mk (qad (za4 HB GE515 GE521) hb);(try clear hb);(try clear hb2);(try clear hk);(try clear hi);refine hK.out _ _ ⟨(qaf BK521.out 0).trans rfl,(qaf BK521.out 1).trans rfl,((HB.out.cell (World.block_lt_of_cell? w _ hw522_0)).trans hw522_0),((HB.out.cell (World.block_lt_of_cell? w _ hw522_1)).trans hw522_1),((HB.out.cell (World.block_lt_of_cell? w _ hw522_2)).trans hw522_2),((HB.out.cell (World.block_lt_of_cell? w _ hw524_0)).trans hw524_0),((HB.out.cell (World.block_lt_of_cell? w _ hw524_1)).trans hw524_1),((HB.out.cell (World.block_lt_of_cell? w _ hw524_2)).trans hw524_2)⟩ (fun hHeld=>?_);clear hK K;refine norm_ (a':=?_) ?_ ?_;rotate_left
        ·show Act.put _ (some 35) _=_;simp only[Act.put,List.setIfInBounds_toArray,List.set_cons_zero,List.set_cons_succ,qaj,qak];rfl
        refine qaq (i:=13) (N:=some 36) (v:=?_) (a':=?_) #[true,true,true,true,true,true,true,true,true,true,true,true,true,true,false] rfl rfl (qam HT_.out (by kernel_rfl)) (fun _ _ _ h=>h) (Or.inl ⟨by rfl,?_⟩) ?_ ?_;rotate_left
        ·intro w';go_simp
         with_reducible rfl
        rotate_left
        ·simp only[Act.put,List.setIfInBounds_toArray,List.set_cons_zero,List.set_cons_succ,qaj,qak];rfl
        refine qaq (i:=14) (N:=some 37) (v:=?_) (a':=?_) #[true,true,true,true,true,true,true,true,true,true,true,true,true,true,true] rfl rfl (qam HT_.out (by kernel_rfl)) (fun _ _ _ h=>h) (Or.inl ⟨by rfl,?_⟩) ?_ ?_;rotate_left
        ·intro w';go_simp
         with_reducible rfl
        rotate_left
        ·simp only[Act.put,List.setIfInBounds_toArray,List.set_cons_zero,List.set_cons_succ,qaj,qak];rfl
        refine done_ (done_of HT_.out (by kernel_rfl)) ?_;have hnb31:=NB515_521.out;have hnc31:=NB521_515.out;obtain⟨hcz32_0,hcz32_1,hfz32_0,hfz32_1⟩:=zC2 BK515
        try go_wp2
        refine bodyPost_ret (results_ct rfl _ _ gb515 38 #[.int .i64 0,.slice none 0 0] (0,0) _ rfl (by(with_reducible repeat(first|refine qac ?_ _|refine qaa ?_|refine qab ?_ _));refine qah (cs:=#[.int .i64 0,.slice none 0 0]) ?_ 1 _ rfl;(with_reducible repeat(first|refine qac ?_ _|refine qaa ?_|refine qab ?_ _));refine qah (cs:=#[.int .i64 x516000_1,.slice none 0 0]) ?_ 0 _ rfl;(with_reducible repeat(first|refine qac ?_ _|refine qaa ?_|refine qab ?_ _));exact BK515.out) Try.underlying38 rfl (by kernel_rfl)) rfl ?_;exact⟨_,za27,za47,za4 HB GE515 GE521⟩
      ·replace c14:=Bool.eq_false_iff.mpr c14;subst c14
       have H1:(some (0,([]:List (S49)),false))=some (r1,r2,r3):=by rw[if_neg (show ¬(false=true) by decide)] at H;exact H
       clear H;have H:=H1;clear H1;simp only[Option.some.injEq,Prod.mk.injEq] at H;obtain⟨rfl,rfl,rfl⟩:=H
       try go_wp2
       replace HO_522001:=qae.mk (Kd.R_drew HO_522001.out);replace BK515:=qae.mk (qaa BK515.out);replace BK521:=qae.mk (qaa BK521.out);replace HB:=qae.mk (qar HB.out);have p522:0≤(x8_1:Int):=of_decide_eq_true (za6);have q522:x8_1<(l1.length:Int):=of_decide_eq_true (za6);obtain⟨ad522,A522_2,c522_2,e522,hx522_0,hx522_1,hx522_2,hl522_2,hi522_2⟩:=at_T32 HR1.out x8_1 p522 q522;have hw522_2:=hx522_2;have hw522_1:=hx522_1;have hw522_0:=hx522_0
       cases e522
       have hxo522_2:=qae.mk hx522_2;replace hx522_0:=(HB.out.cell (World.block_lt_of_cell? w _ hx522_0)).trans hx522_0;replace hx522_1:=(HB.out.cell (World.block_lt_of_cell? w _ hx522_1)).trans hx522_1;replace hx522_2:=(HB.out.cell (World.block_lt_of_cell? w _ hx522_2)).trans hx522_2;have HR522_2:=qae.mk hi522_2;have HC522_2:=qae.mk hl522_2;clear hi522_2 hl522_2;replace p522:=eq_true p522;replace q522:=eq_true q522
       refine start_ (n:=15) (S:=fun w'=>w'.cell? (ad522.add ((x8_1).toNat*3))=some (.int .i64 ((rd_T32 l1 x8_1).f0))∧w'.cell? ⟨(ad522.add ((x8_1).toNat*3)).block,(ad522.add ((x8_1).toNat*3)).off+1,none⟩=some (.int .i64 ((rd_T32 l1 x8_1).f1))∧w'.cell? ⟨(ad522.add ((x8_1).toNat*3)).block,(ad522.add ((x8_1).toNat*3)).off+2,none⟩=some (.slice A522_2 ((rd_T32 l1 x8_1).f2).length c522_2)) (ds:=[]) #[false,false,false,false,false,false,false,false,false,false,false,false,false,false,false] (by kernel_rfl) rfl rfl ⟨((HB.out.cell (World.block_lt_of_cell? w _ hw522_0)).trans hw522_0),((HB.out.cell (World.block_lt_of_cell? w _ hw522_1)).trans hw522_1),((HB.out.cell (World.block_lt_of_cell? w _ hw522_2)).trans hw522_2)⟩ (fun hHeld=>?_);refine with_tabW spec_l2Of.tab7 spec_l2Of.bits7 (fun HT_ HW_=>?_)
       generalize wr.drew=w33 at HO_522001 BK515 BK521 HB HR522_2 hx522_0 hx522_1 hx522_2 hHeld ⊢;refine qaq (i:=0) (N:=some 23) (v:=?_) (a':=?_) #[true,false,false,false,false,false,false,false,false,false,false,false,false,false,false] rfl rfl (qam HT_.out (by kernel_rfl)) (fun _ _ _ h=>h) (Or.inl ⟨by rfl,?_⟩) ?_ ?_;rotate_left
       ·intro w';go_simp
        with_reducible rfl
       rotate_left
       ·simp only[Act.put,List.setIfInBounds_toArray,List.set_cons_zero,List.set_cons_succ,qaj,qak];rfl
       refine qaq (i:=1) (N:=some 24) (v:=?_) (a':=?_) #[true,true,false,false,false,false,false,false,false,false,false,false,false,false,false] rfl rfl (qam HT_.out (by kernel_rfl)) (fun _ _ _ h=>h) (Or.inl ⟨by rfl,?_⟩) ?_ ?_;rotate_left
       ·intro w';go_simp
        with_reducible rfl
       rotate_left
       ·simp only[Act.put,List.setIfInBounds_toArray,List.set_cons_zero,List.set_cons_succ,qaj,qak];rfl
       refine qaq (i:=2) (N:=some 25) (v:=?_) (a':=?_) #[true,true,true,false,false,false,false,false,false,false,false,false,false,false,false] rfl rfl (qam HT_.out (by kernel_rfl)) (fun _ _ _ h=>h) (Or.inl ⟨by rfl,?_⟩) ?_ ?_;rotate_left
       ·intro w';go_simp
        with_reducible rfl
       rotate_left
       ·simp only[Act.put,List.setIfInBounds_toArray,List.set_cons_zero,List.set_cons_succ,qaj,qak];rfl
       refine take_ (i:=3) (N:=some 26) (v:=?_) (a':=?_) #[true,true,true,true,false,false,false,false,false,false,false,false,false,false,false] rfl rfl (take_ofW HT_.out HW_.out (by kernel_rfl)) (fun _ _ _ h=>h) (Or.inl ⟨by rfl,?_⟩) hHeld ?_ ?_;rotate_left
       ·rintro w' ⟨s0,s1,s2⟩;go_simp
        with_reducible rfl
       rotate_left
       ·simp only[Act.put,List.setIfInBounds_toArray,List.set_cons_zero,List.set_cons_succ,qaj,qak];rfl
       refine one_ (i:=4) (N:=some 27) #[true,true,true,true,true,false,false,false,false,false,false,false,false,false,false] rfl rfl (one_of HT_.out (by kernel_rfl)) (by decide) (fun K hK=>?_);refine goes_ Try.func84 (by kernel_rfl) rfl #[.agg #[.int .i64 ((rd_T32 l1 x8_1).f0),.int .i64 ((rd_T32 l1 x8_1).f1),.slice A522_2 ((rd_T32 l1 x8_1).f2).length c522_2]] (by rfl) rfl rfl (by(try simp only[List.map_toArray,List.map_cons,List.map_nil]);first|done|rfl|(simp only[List.length_drop,List.length_take];rfl)) ?_
       with_reducible refine(spec_RecOk.calls k1 ((rd_T32 l1 x8_1).f0) ((rd_T32 l1 x8_1).f1) _ _ ((rd_T32 l1 x8_1).f2) false _ ?side1 ?side2 A13.out).mono ?_
       (case side1=>exact zR HR522_2 HB);(case side2=>exact HC522_2.out);rintro e w34 ⟨rfl,hb⟩;refine⟨_,rfl,?_⟩;replace HO_522001:=qae.mk (Kd.R_below (za2 HO_522001) hb);replace BK515:=zY BK515 hb;replace BK521:=zY BK521 hb;replace HB:=qae.mk (qad (za4 HB GE515 GE521) hb);(try clear hb);(try clear hb2);(try clear hk);(try clear hi);refine hK.out _ _ ⟨((HB.out.cell (World.block_lt_of_cell? w _ hw522_0)).trans hw522_0),((HB.out.cell (World.block_lt_of_cell? w _ hw522_1)).trans hw522_1),((HB.out.cell (World.block_lt_of_cell? w _ hw522_2)).trans hw522_2)⟩ (fun hHeld=>?_);clear hK K;refine norm_ (a':=?_) ?_ ?_;rotate_left
       ·show Act.put _ (some 27) _=_;simp only[Act.put,List.setIfInBounds_toArray,List.set_cons_zero,List.set_cons_succ,qaj,qak];rfl
       refine qaq (i:=5) (N:=some 28) (v:=?_) (a':=?_) #[true,true,true,true,true,true,false,false,false,false,false,false,false,false,false] rfl rfl (qam HT_.out (by kernel_rfl)) (fun _ _ _ h=>h) (Or.inl ⟨by rfl,?_⟩) ?_ ?_;rotate_left
       ·intro w';go_simp
        with_reducible rfl
       rotate_left
       ·simp only[Act.put,List.setIfInBounds_toArray,List.set_cons_zero,List.set_cons_succ,qaj,qak];rfl
       refine qaq (i:=6) (N:=some 29) (v:=?_) (a':=?_) #[true,true,true,true,true,true,true,false,false,false,false,false,false,false,false] rfl rfl (qam HT_.out (by kernel_rfl)) (fun _ _ _ h=>h) (Or.inl ⟨by rfl,?_⟩) ?_ ?_;rotate_left
       ·intro w';go_simp
        with_reducible rfl
       rotate_left
       ·simp only[Act.put,List.setIfInBounds_toArray,List.set_cons_zero,List.set_cons_succ,qaj,qak];rfl
       refine qaq (i:=7) (N:=some 30) (v:=undef) (a':=?_) #[true,true,true,true,true,true,true,true,false,false,false,false,false,false,false] rfl rfl (qam HT_.out (by kernel_rfl)) (fun _ _ _ h=>h) (Or.inr ⟨by rfl,rfl⟩) ?_ ?_;rotate_left
       ·simp only[Act.put,List.setIfInBounds_toArray,List.set_cons_zero,List.set_cons_succ,qaj,qak];rfl
       refine qaq (i:=8) (N:=some 31) (v:=undef) (a':=?_) #[true,true,true,true,true,true,true,true,true,false,false,false,false,false,false] rfl rfl (qam HT_.out (by kernel_rfl)) (fun _ _ _ h=>h) (Or.inr ⟨by rfl,rfl⟩) ?_ ?_;rotate_left
       ·simp only[Act.put,List.setIfInBounds_toArray,List.set_cons_zero,List.set_cons_succ,qaj,qak];rfl
       refine qaq (i:=9) (N:=some 32) (v:=undef) (a':=?_) #[true,true,true,true,true,true,true,true,true,true,false,false,false,false,false] rfl rfl (qam HT_.out (by kernel_rfl)) (fun _ _ _ h=>h) (Or.inr ⟨by rfl,rfl⟩) ?_ ?_;rotate_left
       ·simp only[Act.put,List.setIfInBounds_toArray,List.set_cons_zero,List.set_cons_succ,qaj,qak];rfl
       refine qaq (i:=10) (N:=some 33) (v:=undef) (a':=?_) #[true,true,true,true,true,true,true,true,true,true,true,false,false,false,false] rfl rfl (qam HT_.out (by kernel_rfl)) (fun _ _ _ h=>h) (Or.inr ⟨by rfl,rfl⟩) ?_ ?_;rotate_left
       ·simp only[Act.put,List.setIfInBounds_toArray,List.set_cons_zero,List.set_cons_succ,qaj,qak];rfl
       refine qaq (i:=11) (N:=some 34) (v:=undef) (a':=?_) #[true,true,true,true,true,true,true,true,true,true,true,true,false,false,false] rfl rfl (qam HT_.out (by kernel_rfl)) (fun _ _ _ h=>h) (Or.inr ⟨by rfl,rfl⟩) ?_ ?_;rotate_left
       ·simp only[Act.put,List.setIfInBounds_toArray,List.set_cons_zero,List.set_cons_succ,qaj,qak];rfl
       refine qaq (i:=12) (N:=some 35) (v:=undef) (a':=?_) #[true,true,true,true,true,true,true,true,true,true,true,true,true,false,false] rfl rfl (qam HT_.out (by kernel_rfl)) (fun _ _ _ h=>h) (Or.inr ⟨by rfl,rfl⟩) ?_ ?_;rotate_left
       ·simp only[Act.put,List.setIfInBounds_toArray,List.set_cons_zero,List.set_cons_succ,qaj,qak];rfl
       refine qaq (i:=13) (N:=some 36) (v:=undef) (a':=?_) #[true,true,true,true,true,true,true,true,true,true,true,true,true,true,false] rfl rfl (qam HT_.out (by kernel_rfl)) (fun _ _ _ h=>h) (Or.inr ⟨by rfl,rfl⟩) ?_ ?_;rotate_left
       ·simp only[Act.put,List.setIfInBounds_toArray,List.set_cons_zero,List.set_cons_succ,qaj,qak];rfl
       refine qaq (i:=14) (N:=some 37) (v:=?_) (a':=?_) #[true,true,true,true,true,true,true,true,true,true,true,true,true,true,true] rfl rfl (qam HT_.out (by kernel_rfl)) (fun _ _ _ h=>h) (Or.inl ⟨by rfl,?_⟩) ?_ ?_;rotate_left
       ·intro w';go_simp
        with_reducible rfl
       rotate_left
       ·simp only[Act.put,List.setIfInBounds_toArray,List.set_cons_zero,List.set_cons_succ,qaj,qak];rfl
       refine done_ (done_of HT_.out (by kernel_rfl)) ?_;have hnb35:=NB515_521.out;have hnc35:=NB521_515.out;obtain⟨hcz36_0,hcz36_1,hfz36_0,hfz36_1⟩:=zC2 BK515
       try go_wp2
       refine bodyPost_ret (results_ct rfl _ _ gb515 38 #[.int .i64 0,.slice none 0 0] (0,0) _ rfl (by(with_reducible repeat(first|refine qac ?_ _|refine qaa ?_|refine qab ?_ _));refine qah (cs:=#[.int .i64 0,.slice none 0 0]) ?_ 1 _ rfl;(with_reducible repeat(first|refine qac ?_ _|refine qaa ?_|refine qab ?_ _));refine qah (cs:=#[.int .i64 x516000_1,.slice none 0 0]) ?_ 0 _ rfl;(with_reducible repeat(first|refine qac ?_ _|refine qaa ?_|refine qab ?_ _));exact BK515.out) Try.underlying38 rfl (by kernel_rfl)) rfl ?_;exact⟨_,za27,za47,za4 HB GE515 GE521⟩
     ·rw[if_neg c12] at H;exact absurd H (by simp)
    ·rw[if_neg c11] at H;have c11b0:decide (x8_1<(l1.length:Int))=false:=decide_eq_false c11;clear c11;simp only[Option.some.injEq,Prod.mk.injEq] at H;obtain⟨rfl,rfl,rfl⟩:=H;have hnb37:=NB521_515.out;have hnc37:=NB515_521.out;obtain⟨hcz38_0,hcz38_1,hfz38_0,hfz38_1⟩:=zC2 BK521;obtain⟨hcz39_0,hcz39_1,hfz39_0,hfz39_1⟩:=zC2 BK515;obtain⟨Ao40,co40,eo40⟩:=Kd.R_slice HO_522001.out;subst eo40;go_wp2;refine bodyPost_ret (results_ct rfl _ _ gb515 38 #[.int .i64 x522000_1,.slice Ao40 x522001_1.length co40] (0,0) _ rfl (by(with_reducible repeat(first|refine qac ?_ _|refine qaa ?_|refine qab ?_ _));refine qah (cs:=#[.int .i64 x522000_1,.slice none 0 0]) ?_ 1 _ rfl;(with_reducible repeat(first|refine qac ?_ _|refine qaa ?_|refine qab ?_ _));refine qah (cs:=#[.int .i64 x516000_1,.slice none 0 0]) ?_ 0 _ rfl;(with_reducible repeat(first|refine qac ?_ _|refine qaa ?_|refine qab ?_ _));exact BK515.out) Try.underlying38 rfl (by kernel_rfl)) rfl ?_;exact⟨_,za27,by(with_reducible repeat(first|apply Kd.R_alloc|apply Kd.R_drewN|apply Kd.R_drew));exact Kd.R_mono (Kd.R_far (p:=⟨gb515,1,none⟩) (Kd.R_far (p:=⟨gb515,0,none⟩) (Kd.R_types HO_522001.out BK515.out (by decide)) (fun _ hk=>hk.2) (.int .i64 x522000_1)) (fun _ hk=>hk.2) (.slice Ao40 x522001_1.length co40)) (fun _ hk=>trivial),za4 HB GE515 GE521⟩
 ·replace c4:=Bool.eq_false_iff.mpr c4;subst c4
  have H1:(some (0,([]:List (S49)),false))=some (r1,r2,r3):=by rw[if_neg (show ¬(false=true) by decide)] at H;exact H
  clear H;have H:=H1;clear H1;simp only[Option.some.injEq,Prod.mk.injEq] at H;obtain⟨rfl,rfl,rfl⟩:=H;go_enter Try.func55,Try.ntmps55
  go_wp2_with(first|((with_reducible refine qai (N:=4) rfl ?_);refine zX (N:=4) (cs:=#[.int .i64 0,.slice none 0 0]) (t:=38) ?_;intro gb515 hg w41 hbox hb;have BK515:=qae.mk hbox;have GW515:=zH (w:=w) hg (za3 HB);have GE515:=GW515;replace HB:=qae.mk (qad (za3 HB) hb);clear hb hbox hg)|((with_reducible refine qag (f:=89) rfl ?_);refine zF (some 11) Try.func89 #[.int .i64 a0] ?_;(with_reducible refine(spec_StockNew.calls a0 t516 t517 false _ A3.out).mono ?_);rintro e w42 ⟨v518,rfl,ho0,hb⟩;refine⟨_,rfl,?_⟩;have HO519:=qae.mk (Kd.R_lower ho0 (below_size (za1 HB GE515)));replace BK515:=zY BK515 hb;replace HB:=qae.mk (qad (za1 HB GE515) hb);(try clear hb);(try clear ho0))|((with_reducible refine qai (N:=6) rfl ?_);refine zX (N:=6) (cs:=#[.int .i64 0,.slice none 0 0]) (t:=38) ?_;intro gb521 hg w43 hbox hb;replace HO519:=qae.mk (Kd.R_below (za2 HO519) hb);have BK521:=qae.mk hbox;have GW521:=zH (w:=w) hg (za1 HB GE515);have GE521:=GW521;replace HB:=qae.mk (qad (za1 HB GE515) hb);have NB515_521:=zL BK515 hg;have NB521_515:=zG BK515 hg;replace BK515:=zY BK515 hb;clear hb hbox hg;have hnb44:=NB521_515.out;have hnc44:=NB515_521.out;obtain⟨hcz45_0,hcz45_1,hfz45_0,hfz45_1⟩:=zC2 BK521;obtain⟨Ao46,co46,eo46⟩:=Kd.R_slice HO519.out;subst eo46;obtain⟨hcz47_0,hcz47_1,hfz47_0,hfz47_1⟩:=zC2 BK515))
  refine bodyPost_ret (results_ct rfl _ _ gb515 38 #[.int .i64 0,.slice none 0 0] (0,0) _ rfl (by(with_reducible repeat(first|refine qac ?_ _|refine qaa ?_|refine qab ?_ _));refine qah (cs:=#[.int .i64 0,.slice none 0 0]) ?_ 1 _ rfl;(with_reducible repeat(first|refine qac ?_ _|refine qaa ?_|refine qab ?_ _));refine qah (cs:=#[.int .i64 0,.slice none 0 0]) ?_ 0 _ rfl;(with_reducible repeat(first|refine qac ?_ _|refine qaa ?_|refine qab ?_ _));refine blk_far ?_ NB515_521.out _;(with_reducible repeat(first|refine qac ?_ _|refine qaa ?_|refine qab ?_ _));refine blk_far ?_ NB515_521.out _;(with_reducible repeat(first|refine qac ?_ _|refine qaa ?_|refine qab ?_ _));exact BK515.out) Try.underlying38 rfl (by kernel_rfl)) rfl ?_
  exact⟨_,za27,za47,za4 HB GE515 GE521⟩
end Go.Proofs.Ytmbdphefnalenaa.Print
