-- Written by squeeze.py: not trusted, Lean checks it.
import Derived.Test.YtjccnaklodbbfaaZK
import Derived.Test.YtjccnaklodbbfaaZab0
import Derived.Test.YtjccnaklodbbfaaZeb0
namespace Go.Proofs.Ytjccnaklodbbfaa.Print
open Go.RowKit Go.Proofs.YtjccnaklodbbfaaW.PrintWords Go.Proofs.YtjccnaklodbbfaaW.PrintLast Go.Proofs.YtjccnaklodbbfaaW.PrintMore
attribute [local go_sem] max2_int min2_int max_two min_two max_three min_three max_four min_four
set_option linter.unusedVariables false
set_option linter.unusedSimpArgs false
def impl_TripsDo.l0:Nat→List (S73)→List (S73)→Int→Int→Int→Int→List Int→Option ((List (S73)) × Bool)
 |0,_,_,_,_,_,_,_=>none
 |k+1,x6,x14,x15,x16,x1116000,x1116001,x1116002=>if x16<x15 then(if 0≤x16 then(if x16<(x14.length:Int) then((slices_Clone_int_int.f ((rd_T73 x14 x16).f0)).bind fun t1119=>(if x6.length<4398046511104 then(impl_TripsDo.l0 k (x6++[(⟨t1119,(rd_T73 x14 x16).f1⟩:S73)]) x14 x15 (wrap64 (x16+1)) x1116000 x1116001 x1116002) else(none))) else(none)) else(none)) else(if x1116000=4 then((slices_Clone_int_int.f x1116002).bind fun t1125=>(if x6.length<4398046511104 then(some ((x6++[(⟨t1125,1⟩:S73)]),true)) else(none))) else(if 0≤(wrap64 (x1116001 - 1)) then(if(wrap64 (x1116001 - 1))<(x6.length:Int) then(if x1116000=5 then(some ((x6.set ((wrap64 (x1116001 - 1)):Int).toNat (⟨(rd_T73 x6 (wrap64 (x1116001 - 1))).f0,2⟩:S73)),true)) else(if x1116000=6 then(some ((x6.set ((wrap64 (x1116001 - 1)):Int).toNat (⟨(rd_T73 x6 (wrap64 (x1116001 - 1))).f0,3⟩:S73)),true)) else(if((rd_T73 x6 (wrap64 (x1116001 - 1))).f1)=2 then(some ((x6.set ((wrap64 (x1116001 - 1)):Int).toNat (⟨(rd_T73 x6 (wrap64 (x1116001 - 1))).f0,4⟩:S73)),true)) else(some ((x6.set ((wrap64 (x1116001 - 1)):Int).toNat (⟨(rd_T73 x6 (wrap64 (x1116001 - 1))).f0,5⟩:S73)),true))))) else(none)) else(none)))
def impl_TripsDo.f (k:Nat) (l0:List (S73)) (a1_0:Int) (a1_1:Int) (l1_2:List Int):Option ((List (S73)) × Bool):=(impl_TripsMay.f k l0 a1_0 a1_1 l1_2).bind fun t1116=>(if t1116=true then(impl_TripsDo.l0 k ([]:List (S73)) l0 (l0.length:Int) 0 a1_0 a1_1 l1_2) else(some (([]:List (S73)),false)))
theorem impl_TripsDo.mono_l:∀k,(∀y0 y1 y2 y3 y4 y5 y6,LeO (impl_TripsDo.l0 k y0 y1 y2 y3 y4 y5 y6) (impl_TripsDo.l0 (k+1) y0 y1 y2 y3 y4 y5 y6))
 |0=>fun _ _ _ _ _ _ _ r h=>by simp[impl_TripsDo.l0] at h
 |k+1=>by
  have ih0:=impl_TripsDo.mono_l k
  ·intro y0 y1 y2 y3 y4 y5 y6
   unfold impl_TripsDo.l0
   repeat' first
   |(with_reducible exact ih0 _ _ _ _ _ _ _)
   |(with_reducible exact impl_TripsMay.mono _ _ _ _ _)
   |(with_reducible exact LeO.refl _)
   |(with_reducible exact LeO.none _)
   |(with_reducible refine LeO.ite ?_ ?_)
   |(with_reducible refine LeO.bind ?_ (fun _=>?_))
   |exact ih0 _ _ _ _ _ _ _
   |exact impl_TripsMay.mono _ _ _ _ _
   |exact LeO.none _
   |refine LeO.ite ?_ ?_
   |refine LeO.bind ?_ (fun _=>?_)
theorem impl_TripsDo.mono:∀a0 a1 a2 a3 k,LeO (impl_TripsDo.f k a0 a1 a2 a3) (impl_TripsDo.f (k+1) a0 a1 a2 a3):=by
 intro a0 a1 a2 a3 k
 have ih0:=impl_TripsDo.mono_l k
 unfold impl_TripsDo.f
 repeat' first
   |(with_reducible exact ih0 _ _ _ _ _ _ _)
   |(with_reducible exact impl_TripsMay.mono _ _ _ _ _)
   |(with_reducible exact LeO.refl _)
   |(with_reducible exact LeO.none _)
   |(with_reducible refine LeO.ite ?_ ?_)
   |(with_reducible refine LeO.bind ?_ (fun _=>?_))
   |exact ih0 _ _ _ _ _ _ _
   |exact impl_TripsMay.mono _ _ _ _ _
   |exact LeO.none _
   |refine LeO.ite ?_ ?_
   |refine LeO.bind ?_ (fun _=>?_)
def impl_TripsDo.T7:Bool × List (List Nat × List Nat):=(true,[([],[]),([],[]),([1],[1]),([2],[2]),([],[]),([4],[4]),([3,5],[3,5]),([6],[6]),([0,7,3],[0,7]),([8,8,0,1,2,3,4,5,6,7,8],[0,8])])
def impl_TripsDo.B7:List Nat:=[0,0,2,6,0,16,62,126,255,511]
theorem impl_TripsDo.tab7:rtab .any (opsOf Try.f99 7)=impl_TripsDo.T7:=by kernel_rfl
theorem impl_TripsDo.bits7:waitsOk impl_TripsDo.T7.2 impl_TripsDo.B7=true:=by kernel_rfl
set_option maxHeartbeats 8000000 in
set_option maxRecDepth 100000 in
theorem impl_TripsDo.calls (k:Nat) (A0:Option Addr) (c0:Nat) (l0:List (S73)) (a1_0:Int) (a1_1:Int) (A1_2:Option Addr) (c1_2:Nat) (l1_2:List Int) (r1:List (S73)) (r2:Bool) (w:World) (hr0:Kd.C k73 w A0 l0.length l0) (hc0:l0.length≤c0) (hr1_2:Kd.C (Kd.int .i64) w A1_2 l1_2.length l1_2) (hc1_2:l1_2.length≤c1_2) (h:impl_TripsDo.f k l0 a1_0 a1_1 l1_2=some (r1,r2)) :
  Calls Try.prog 99 #[.slice A0 l0.length c0,.agg #[.int .i64 a1_0,.int .i64 a1_1,.slice A1_2 l1_2.length c1_2]] w fun e w'=>∃v0_:Value,e=.returned (.tuple #[v0_,.bool r2])∧Kd.S k73 73 w' w.heap.size (fun _=>True) v0_ r1∧Below w.heap.size w w':=by
 have hu62:=Try.underlying62
 have hu73:=Try.underlying73
 have HR0:=Aside0.mk hr0
 have HC0:=Aside0.mk hc0
 clear hr0 hc0
 have HR1_2:=Aside0.mk hr1_2
 have HC1_2:=Aside0.mk hc1_2
 clear hr1_2 hc1_2
 have HB:=Aside0.mk (Below.refl w.heap.size w)
 have H:((impl_TripsMay.f k l0 a1_0 a1_1 l1_2).bind fun t1116=>(if t1116=true then(impl_TripsDo.l0 k ([]:List (S73)) l0 (l0.length:Int) 0 a1_0 a1_1 l1_2) else(some (([]:List (S73)),false))))=some (r1,r2):=h
 clear h
 replace H:=Option.bind_eq_some_iff.mp H
 obtain⟨t1116,A30,H⟩:=H
 replace H:(if t1116=true then(impl_TripsDo.l0 k ([]:List (S73)) l0 (l0.length:Int) 0 a1_0 a1_1 l1_2) else(some (([]:List (S73)),false)))=some (r1,r2):=H
 have A3:=Aside0.mk A30
 clear A30
 by_cases c4:t1116=true
 ·subst c4
  have H1:(impl_TripsDo.l0 k ([]:List (S73)) l0 (l0.length:Int) 0 a1_0 a1_1 l1_2)=some (r1,r2):=by rw[if_pos rfl] at H;exact H
  clear H
  have H:=H1
  clear H1
  have H':=Aside0.mk H
  clear H
  go_enter Try.func99,Try.ntmps99
  go_wp2_with(first|((with_reducible refine qah (N:=3) rfl ?_);refine zX (N:=3) (cs:=#[.int .i64 a1_0,.int .i64 a1_1,.slice A1_2 l1_2.length c1_2]) (t:=62) ?_;intro gb1115 hg w5 hbox hb;have BK1115:=Aside0.mk hbox;have GW1115:=zH (w:=w) hg (za1 HB);have GE1115:=GW1115;replace HB:=Aside0.mk (qab (za1 HB) hb);clear hb hbox hg;obtain⟨hcz6_0,hcz6_1,hcz6_2,hfz6_0,hfz6_1,hfz6_2⟩:=zC3 BK1115)|((with_reducible refine qaf (f:=51) rfl ?_);refine zF (some 12) Try.func51 #[.slice A0 l0.length c0,.agg #[.int .i64 a1_0,.int .i64 a1_1,.slice A1_2 l1_2.length c1_2]] ?_;(with_reducible refine(impl_TripsMay.calls k _ _ l0 a1_0 a1_1 _ _ l1_2 true _ ?side1 ?side2 ?side3 ?side4 A3.out).mono ?_);(case side1=>exact zR HR0 HB);(case side2=>exact HC0.out);(case side3=>exact zR HR1_2 HB);(case side4=>exact HC1_2.out);rintro e w7 ⟨rfl,hb⟩;refine⟨_,rfl,?_⟩;replace BK1115:=Aside0.mk (qaa (zB BK1115) hb);replace HB:=Aside0.mk (qab (za0 HB GE1115) hb);(try clear hb)))
  go_loopg [6,16] k (fun kq v6 v16 w'=>∃(x6_1:List (S73)) (x16_1:Int),v16=.int .i64 x16_1∧Aside0 (impl_TripsDo.l0 kq x6_1 l0 (l0.length:Int) x16_1 a1_0 a1_1 l1_2=some (r1,r2))∧Aside0 (kq≤k)∧Aside0 (Kd.S k73 73 w' w.heap.size (fun _=>True) v6 x6_1)∧Aside0 (w'.heap[gb1115]?=some (.cells #[.int .i64 a1_0,.int .i64 a1_1,(.slice A1_2 l1_2.length c1_2)] 62 (0,0)))∧Aside0 (Below w.heap.size w w'))
  case atStart=>exact⟨(([]:List (S73))),(0),(za17),H',⟨Nat.le_refl _⟩,⟨za25⟩,⟨za16 BK1115⟩,⟨za0 HB GE1115⟩⟩
  case round=>
   clear H'
   try clear c1
   try clear p2
   try clear c4
   try clear c5
   try clear hcz6_0
   try clear hcz6_1
   try clear hcz6_2
   try clear hfz6_0
   try clear hfz6_1
   try clear hfz6_2
   obtain⟨x6_1,x16_1,rfl,HA,HK1,HO_6,BK1115,HB⟩:=hrel
   cases gk with
   |zero=>exact absurd HA.out (by simp[impl_TripsDo.l0])
   |succ k1=>
    have H:=HA.out
    clear HA
    simp only[impl_TripsDo.l0] at H
    by_cases c8:x16_1<(l0.length:Int)
    ·rw[if_pos c8] at H
     have c8b0:decide (x16_1<(l0.length:Int))=true:=decide_eq_true c8
     clear c8
     by_cases c9:0≤x16_1
     ·rw[if_pos c9] at H
      have c9b0:decide (0≤x16_1)=true:=decide_eq_true c9
      clear c9
      by_cases c10:x16_1<(l0.length:Int)
      ·rw[if_pos c10] at H
       have c10b0:decide (x16_1<(l0.length:Int))=true:=decide_eq_true c10
       clear c10
       replace H:=Option.bind_eq_some_iff.mp H
       obtain⟨t1119,A110,H⟩:=H
       replace H:(if x6_1.length<4398046511104 then(impl_TripsDo.l0 k1 (x6_1++[(⟨t1119,(rd_T73 l0 x16_1).f1⟩:S73)]) l0 (l0.length:Int) (wrap64 (x16_1+1)) a1_0 a1_1 l1_2) else(none))=some (r1,r2):=H
       have A11:=Aside0.mk A110
       clear A110
       by_cases c12:x6_1.length<4398046511104
       ·rw[if_pos c12] at H
        have LMc12:=Aside0.mk c12
        clear c12
        obtain⟨y1122,hy1122⟩:∃y_:List (S73),y_=(x6_1++[(⟨t1119,(rd_T73 l0 x16_1).f1⟩:S73)]):=⟨_,rfl⟩
        replace H:(impl_TripsDo.l0 k1 y1122 l0 (l0.length:Int) (wrap64 (x16_1+1)) a1_0 a1_1 l1_2)=some (r1,r2):=by first|(rw[hy1122];with_reducible exact H)|(have H2_:=(Option.bind_some _ _).symm.trans H;rw[hy1122];with_reducible exact H2_)|(have H2_:=(Option.bind_some _ _).symm.trans H;with_reducible exact H2_)|with_reducible exact H|(rw[hy1122];exact H)|exact H
        have Ny1122:=Aside0.mk hy1122
        clear hy1122
        have H':=Aside0.mk H
        clear H
        have p1117:0≤(x16_1:Int):=of_decide_eq_true (za5)
        have q1117:x16_1<(l0.length:Int):=of_decide_eq_true (za5)
        obtain⟨ad1117,A1117_0,c1117_0,e1117,hx1117_0,hx1117_1,hl1117_0,hi1117_0⟩:=at_T73 HR0.out x16_1 p1117 q1117
        cases e1117
        have hxo1117_0:=Aside0.mk hx1117_0
        replace hx1117_0:=(HB.out.cell (World.block_lt_of_cell? w _ hx1117_0)).trans hx1117_0
        replace hx1117_1:=(HB.out.cell (World.block_lt_of_cell? w _ hx1117_1)).trans hx1117_1
        have HR1117_0:=Aside0.mk hi1117_0
        have HC1117_0:=Aside0.mk hl1117_0
        clear hi1117_0 hl1117_0
        replace p1117:=eq_true p1117
        replace q1117:=eq_true q1117
        try go_wp2_with(first|((with_reducible refine qah (N:=8) rfl ?_);refine zX (N:=8) (cs:=#[.slice none 0 0,.int .i64 0]) (t:=73) ?_;intro gb1118 hg w13 hbox hb;replace HO_6:=Aside0.mk (Kd.S_below (Kd.S_elderB (za8 HO_6) gb1118 (Nat.le_of_eq hg.symm)) hb);have BK1118:=Aside0.mk hbox;have GW1118:=zH (w:=w) hg (za0 HB GE1115);have GE1118:=GW1118;replace HB:=Aside0.mk (qab (za0 HB GE1115) hb);have NB1115_1118:=zL BK1115 hg;have NB1118_1115:=zG BK1115 hg;replace BK1115:=Aside0.mk (qaa (zB BK1115) hb);clear hb hbox hg;have hnb14:=NB1118_1115.out;have hnc14:=NB1115_1118.out;obtain⟨hcz15_0,hcz15_1,hfz15_0,hfz15_1⟩:=zC2 BK1118))
        have n0_:Aside0 (Kd.S k73 73 ((w13.setCell ⟨gb1118,0,none⟩ (.slice A1117_0 ((rd_T73 l0 x16_1).f0).length c1117_0)).setCell ⟨gb1118,1,none⟩ (.int .i64 ((rd_T73 l0 x16_1).f1))) w.heap.size (fun k_=>k_≠gb1118) u6 x6_1):=⟨by(with_reducible repeat(first|apply Kd.S_alloc|apply Kd.S_drewN|apply Kd.S_drew));exact Kd.S_mono (Kd.S_far (p:=⟨gb1118,1,none⟩) (Kd.S_far (p:=⟨gb1118,0,none⟩) (Kd.S_mono HO_6.out (fun k_ hk=>(⟨hk,hk.2⟩:_∧k_≠gb1118))) (fun _ hk=>hk.2) (.slice A1117_0 ((rd_T73 l0 x16_1).f0).length c1117_0)) (fun _ hk=>hk.2) (.int .i64 ((rd_T73 l0 x16_1).f1))) (fun _ hk=>hk.1.2)⟩
        have n1_:Aside0 (((w13.setCell ⟨gb1118,0,none⟩ (.slice A1117_0 ((rd_T73 l0 x16_1).f0).length c1117_0)).setCell ⟨gb1118,1,none⟩ (.int .i64 ((rd_T73 l0 x16_1).f1))).heap[gb1115]?=some (.cells #[.int .i64 a1_0,.int .i64 a1_1,.slice A1_2 l1_2.length c1_2] 62 (0,0))):=⟨za4 NB1115_1118 BK1115⟩
        have n2_:Aside0 (((w13.setCell ⟨gb1118,0,none⟩ (.slice A1117_0 ((rd_T73 l0 x16_1).f0).length c1117_0)).setCell ⟨gb1118,1,none⟩ (.int .i64 ((rd_T73 l0 x16_1).f1))).heap[gb1118]?=some (.cells #[.slice A1117_0 ((rd_T73 l0 x16_1).f0).length c1117_0,.int .i64 ((rd_T73 l0 x16_1).f1)] 73 (0,0))):=⟨by(with_reducible repeat(first|refine blk_drewN ?_ _|refine blk_drew ?_|refine blk_alloc ?_ _));refine qai (cs:=#[.slice A1117_0 ((rd_T73 l0 x16_1).f0).length c1117_0,.int .i64 0]) ?_ 1 _ rfl;(with_reducible repeat(first|refine blk_drewN ?_ _|refine blk_drew ?_|refine blk_alloc ?_ _));refine qai (cs:=#[.slice none 0 0,.int .i64 0]) ?_ 0 _ rfl;(with_reducible repeat(first|refine blk_drewN ?_ _|refine blk_drew ?_|refine blk_alloc ?_ _));exact BK1118.out⟩
        have n3_:Aside0 (Below w.heap.size w ((w13.setCell ⟨gb1118,0,none⟩ (.slice A1117_0 ((rd_T73 l0 x16_1).f0).length c1117_0)).setCell ⟨gb1118,1,none⟩ (.int .i64 ((rd_T73 l0 x16_1).f1)))):=⟨za2 HB GE1115 GE1118⟩
        (try clear HO_6)
        (try clear BK1115)
        (try clear BK1118)
        (try clear HB)
        generalize ((w13.setCell ⟨gb1118,0,none⟩ (.slice A1117_0 ((rd_T73 l0 x16_1).f0).length c1117_0)).setCell ⟨gb1118,1,none⟩ (.int .i64 ((rd_T73 l0 x16_1).f1)))=w16 at n0_ n1_ n2_ n3_ ⊢
        have HO_6:=n0_
        have BK1115:=n1_
        have BK1118:=n2_
        have HB:=n3_
        clear n0_ n1_ n2_ n3_
        replace HO_6:=Aside0.mk (Kd.S_drew HO_6.out)
        replace BK1115:=Aside0.mk (blk_drew BK1115.out)
        replace BK1118:=Aside0.mk (blk_drew BK1118.out)
        replace HB:=Aside0.mk (qae HB.out)
        refine start_ (n:=10) (S:=fun w'=>w'.cell? ⟨gb1118,0,none⟩=some (.slice A1117_0 ((rd_T73 l0 x16_1).f0).length c1117_0)∧w'.cell? ⟨gb1118,1,none⟩=some (.int .i64 ((rd_T73 l0 x16_1).f1))) (ds:=[]) #[false,false,false,false,false,false,false,false,false,false] (by kernel_rfl) rfl rfl ⟨(blk_cell BK1118.out 0).trans rfl,(blk_cell BK1118.out 1).trans rfl⟩ (fun hHeld=>?_);refine with_tabW impl_TripsDo.tab7 impl_TripsDo.bits7 (fun HT_ HW_=>?_)
        generalize w16.drew=w17 at HO_6 BK1115 BK1118 HB hHeld ⊢
        refine qar (i:=0) (N:=some 20) (v:=?_) (a':=?_) #[true,false,false,false,false,false,false,false,false,false] rfl rfl (qan HT_.out (by kernel_rfl)) (fun _ _ _ h=>h) (Or.inl ⟨by rfl,?_⟩) ?_ ?_
        rotate_left
        ·intro w'
         go_simp
         with_reducible rfl
        rotate_left
        ·simp only[Act.put,List.setIfInBounds_toArray,List.set_cons_zero,List.set_cons_succ,qaj,qak]
         rfl
        refine qar (i:=1) (N:=some 21) (v:=?_) (a':=?_) #[true,true,false,false,false,false,false,false,false,false] rfl rfl (qan HT_.out (by kernel_rfl)) (fun _ _ _ h=>h) (Or.inl ⟨by rfl,?_⟩) ?_ ?_
        rotate_left
        ·intro w'
         go_simp
         with_reducible rfl
        rotate_left
        ·simp only[Act.put,List.setIfInBounds_toArray,List.set_cons_zero,List.set_cons_succ,qaj,qak]
         rfl
        refine qar (i:=4) (N:=some 24) (v:=?_) (a':=?_) #[true,true,false,false,true,false,false,false,false,false] rfl rfl (qan HT_.out (by kernel_rfl)) (fun _ _ _ h=>h) (Or.inl ⟨by rfl,?_⟩) ?_ ?_
        rotate_left
        ·intro w'
         go_simp
         with_reducible rfl
        rotate_left
        ·simp only[Act.put,List.setIfInBounds_toArray,List.set_cons_zero,List.set_cons_succ,qaj,qak]
         rfl
        refine take_ (i:=2) (N:=some 22) (v:=?_) (a':=?_) #[true,true,true,false,true,false,false,false,false,false] rfl rfl (take_ofW HT_.out HW_.out (by kernel_rfl)) (fun _ _ _ h=>h) (Or.inl ⟨by rfl,?_⟩) hHeld ?_ ?_
        rotate_left
        ·rintro w' ⟨s0,s1⟩
         go_simp
         with_reducible rfl
        rotate_left
        ·simp only[Act.put,List.setIfInBounds_toArray,List.set_cons_zero,List.set_cons_succ,qaj,qak]
         rfl
        refine take_ (i:=5) (N:=some 25) (v:=?_) (a':=?_) #[true,true,true,false,true,true,false,false,false,false] rfl rfl (take_ofW HT_.out HW_.out (by kernel_rfl)) (fun _ _ _ h=>h) (Or.inl ⟨by rfl,?_⟩) hHeld ?_ ?_
        rotate_left
        ·rintro w' ⟨s0,s1⟩
         go_simp
         with_reducible rfl
        rotate_left
        ·simp only[Act.put,List.setIfInBounds_toArray,List.set_cons_zero,List.set_cons_succ,qaj,qak]
         rfl
        refine one_ (i:=3) (N:=some 23) #[true,true,true,true,true,true,false,false,false,false] rfl rfl (one_of HT_.out (by kernel_rfl)) (by decide) (fun K hK=>?_)
        refine goes_ Try.func121 (by kernel_rfl) rfl #[.slice A1117_0 ((rd_T73 l0 x16_1).f0).length c1117_0] (by rfl) rfl rfl (by(try simp only[List.map_toArray,List.map_cons,List.map_nil]);first|done|rfl|(simp only[List.length_drop,List.length_take];rfl)) ?_
        with_reducible refine(slices_Clone_int_int.calls _ _ ((rd_T73 l0 x16_1).f0) t1119 _ ?side1 ?side2 A11.out).mono ?_
        (case side1=>exact zR HR1117_0 HB)
        (case side2=>exact HC1117_0.out)
        rintro e w18 ⟨v1120,rfl,ho0,hb⟩
        refine⟨_,rfl,?_⟩
        replace HO_6:=Aside0.mk (Kd.S_elder' (za8 HO_6) (Kd.R_base ho0) hb)
        have HO1121:=Aside0.mk (Kd.R_lower ho0 (below_size (za2 HB GE1115 GE1118)))
        replace BK1115:=Aside0.mk (qaa (zB BK1115) hb)
        replace BK1118:=Aside0.mk (qaa (zB BK1118) hb)
        replace HB:=Aside0.mk (qab (za2 HB GE1115 GE1118) hb)
        (try clear hb)
        (try clear hb2)
        (try clear hk)
        (try clear hi)
        (try clear ho0)
        obtain⟨Ao19,co19,eo19⟩:=Kd.R_slice HO1121.out
        (first|subst eo19|(injection eo19 with f1_ f2_ f3_;have f4_:=f1_.symm;have f5_:=f3_.symm;clear f1_ f2_ f3_;subst f4_;subst f5_))
        refine hK.out _ _ ⟨(blk_cell BK1118.out 0).trans rfl,(blk_cell BK1118.out 1).trans rfl⟩ (fun hHeld=>?_)
        clear hK K
        refine norm_ (a':=?_) ?_ ?_
        rotate_left
        ·show Act.put _ (some 23) _=_
         simp only[Act.put,List.setIfInBounds_toArray,List.set_cons_zero,List.set_cons_succ,qaj,qak]
         rfl
        refine qar (i:=6) (N:=some 26) (v:=?_) (a':=?_) #[true,true,true,true,true,true,true,false,false,false] rfl rfl (qan HT_.out (by kernel_rfl)) (fun _ _ _ h=>h) (Or.inl ⟨by rfl,?_⟩) ?_ ?_
        rotate_left
        ·intro w'
         go_simp
         with_reducible rfl
        rotate_left
        ·simp only[Act.put,List.setIfInBounds_toArray,List.set_cons_zero,List.set_cons_succ,qaj,qak]
         rfl
        refine one_ (i:=7) (N:=some 27) #[true,true,true,true,true,true,true,true,false,false] rfl rfl (one_of HT_.out (by kernel_rfl)) (by decide) (fun K hK=>?_)
        refine value_ (w1:=?_) (v:=?_) (by rfl) rfl ?_ ?_
        rotate_left 2
        ·go_simp
         constructor
         ·rfl
         ·rfl
        refine hK.out _ _ ⟨(blk_cell (blk_alloc BK1118.out _) 0).trans rfl,(blk_cell (blk_alloc BK1118.out _) 1).trans rfl⟩ (fun hHeld=>?_)
        clear hK K
        refine norm_ (a':=?_) ?_ ?_
        rotate_left
        ·show Act.put _ (some 27) _=_
         simp only[Act.put,List.setIfInBounds_toArray,List.set_cons_zero,List.set_cons_succ,qaj,qak]
         rfl
        refine one_ (i:=8) (N:=some 28) #[true,true,true,true,true,true,true,true,true,false] rfl rfl (one_of HT_.out (by kernel_rfl)) (by decide) (fun K hK=>?_)
        refine Kd.S_append_step k73 (w0:=w) w.heap.size (by rfl) (.tmp 20) (.tmp 27) 69 73 (.agg #[(.slice none 0 0),(.int .i64 0)]) 32 rfl Try.underlying69 info73 rfl (by decide) (by omega) u6 x6_1 (⟨t1119,(rd_T73 l0 x16_1).f1⟩:S73) [.slice Ao19 t1119.length co19,.int .i64 ((rd_T73 l0 x16_1).f1)] (fun k_=>k_≠gb1118) (fun k_=>some k_=(.slice Ao19 t1119.length co19:Value).ownBlock) rfl rfl ?aP (fun k_ hk_=>((Kd.R_mono (ok':=fun k_=>((fun k_=>k_≠gb1118)) k_∧some k_≠(u6:Value).ownBlock) (Kd.R_types (Kd.R_apart' (HO1121.out) (Kd.S_typed HO_6.out) (by decide)) BK1118.out (by decide)) (fun k_ hk=>⟨hk.2,hk.1.2⟩))).1 k_ hk_.symm) ?aF ?aO ?aB ?aS ?aL ?_
        (case aP=>exact k73_mkM _ _ _ (⟨t1119,(rd_T73 l0 x16_1).f1⟩:S73) (Kd.R_mono (Kd.R_tight rfl (Kd.R_mono (ok':=fun k_=>((fun k_=>k_≠gb1118)) k_∧some k_≠(u6:Value).ownBlock) (Kd.R_types (Kd.R_apart' (HO1121.out) (Kd.S_typed HO_6.out) (by decide)) BK1118.out (by decide)) (fun k_ hk=>⟨hk.2,hk.1.2⟩))) (fun _ h_=>h_)))
        (case aB=>exact(za2 HB GE1115 GE1118))
        (case aF=>exact(fun k_ hk=>Kd.freshB (zB BK1118) k_ hk))
        (case aO=>exact(by(with_reducible repeat(first|apply Kd.S_alloc|apply Kd.S_drewN|apply Kd.S_drew));exact Kd.S_mono HO_6.out (fun k_ hk=>⟨hk.1,fun e_=>hk.2 e_⟩)))
        (case aS=>exact(below_size (za2 HB GE1115 GE1118)))
        (case aL=>have:=LMc12.out;omega)
        intro v1123 w20 ho hb hg hat
        rw[←Ny1122.out] at ho
        replace BK1115:=Aside0.mk (qas (zB BK1115) hg (Kd.S_ne HO_6.out BK1115.out (by decide)))
        replace BK1118:=Aside0.mk (qas (zB BK1118) hg (Kd.S_away HO_6.out (fun _ hk=>hk.1)))
        replace HB:=Aside0.mk hb
        have HO1124:=Aside0.mk ho
        clear HO_6 HO1121
        clear ho hb hg hat
        refine hK.out _ _ ⟨(blk_cell BK1118.out 0).trans rfl,(blk_cell BK1118.out 1).trans rfl⟩ (fun hHeld=>?_)
        clear hK K
        refine norm_ (a':=?_) ?_ ?_
        rotate_left
        ·show Act.put _ (some 28) _=_
         simp only[Act.put,List.setIfInBounds_toArray,List.set_cons_zero,List.set_cons_succ,qaj,qak]
         rfl
        refine qar (i:=9) (N:=some 6) (v:=?_) (a':=?_) #[true,true,true,true,true,true,true,true,true,true] rfl rfl (qan HT_.out (by kernel_rfl)) (fun _ _ _ h=>h) (Or.inl ⟨by rfl,?_⟩) ?_ ?_
        rotate_left
        ·intro w'
         go_simp
         with_reducible rfl
        rotate_left
        ·simp only[Act.put,List.setIfInBounds_toArray,List.set_cons_zero,List.set_cons_succ,qaj,qak]
         rfl
        refine done_ (done_of HT_.out (by kernel_rfl)) ?_
        try go_wp2
        go_roundg k1
        case measure=>have:=HK1.out;omega
        case rel=>exact⟨(y1122),(wrap64 (x16_1+1)),(za17),H',⟨by have:=HK1.out;omega⟩,⟨by(with_reducible repeat(first|apply Kd.S_alloc|apply Kd.S_drewN|apply Kd.S_drew));exact Kd.S_mono HO1124.out (fun _ hk=>trivial)⟩,⟨za16 BK1115⟩,⟨za2 HB GE1115 GE1118⟩⟩
       ·rw[if_neg c12] at H
        exact absurd H (by simp)
      ·rw[if_neg c10] at H
       exact absurd H (by simp)
     ·rw[if_neg c9] at H
      exact absurd H (by simp)
    ·rw[if_neg c8] at H
     have c8b0:decide (x16_1<(l0.length:Int))=false:=decide_eq_false c8
     clear c8
     by_cases c21:a1_0=4
     ·rw[if_pos c21] at H
      have c21b0:(a1_0 == 4)=true:=beq_iff_eq.mpr c21
      have c21b1:(a1_0 != 4)=false:=bne_eq_false_iff_eq.mpr c21
      clear c21
      replace H:=Option.bind_eq_some_iff.mp H
      obtain⟨t1125,A220,H⟩:=H
      replace H:(if x6_1.length<4398046511104 then(some ((x6_1++[(⟨t1125,1⟩:S73)]),true)) else(none))=some (r1,r2):=H
      have A22:=Aside0.mk A220
      clear A220
      by_cases c23:x6_1.length<4398046511104
      ·rw[if_pos c23] at H
       have LMc23:=Aside0.mk c23
       clear c23
       obtain⟨y1128,hy1128⟩:∃y_:List (S73),y_=(x6_1++[(⟨t1125,1⟩:S73)]):=⟨_,rfl⟩
       replace H:(some (y1128,true))=some (r1,r2):=by first|(rw[hy1128];with_reducible exact H)|(have H2_:=(Option.bind_some _ _).symm.trans H;rw[hy1128];with_reducible exact H2_)|(have H2_:=(Option.bind_some _ _).symm.trans H;with_reducible exact H2_)|with_reducible exact H|(rw[hy1128];exact H)|exact H
       have Ny1128:=Aside0.mk hy1128
       clear hy1128
       simp only[Option.some.injEq,Prod.mk.injEq] at H
       obtain⟨rfl,rfl⟩:=H
       obtain⟨hcz24_0,hcz24_1,hcz24_2,hfz24_0,hfz24_1,hfz24_2⟩:=zC3 BK1115
       go_wp2_with(first|((with_reducible refine qaf (f:=121) rfl ?_);refine zF (some 36) Try.func121 #[.slice A1_2 l1_2.length c1_2] ?_;(with_reducible refine(slices_Clone_int_int.calls _ _ l1_2 t1125 _ ?side1 ?side2 A22.out).mono ?_);(case side1=>exact zR HR1_2 HB);(case side2=>exact HC1_2.out);rintro e w25 ⟨v1126,rfl,ho0,hb⟩;refine⟨_,rfl,?_⟩;replace HO_6:=Aside0.mk (Kd.S_elder' (za8 HO_6) (Kd.R_base ho0) hb);have HO1127:=Aside0.mk (Kd.R_lower ho0 (below_size (za0 HB GE1115)));replace BK1115:=Aside0.mk (qaa (zB BK1115) hb);replace HB:=Aside0.mk (qab (za0 HB GE1115) hb);(try clear hb);(try clear ho0);obtain⟨Ao26,co26,eo26⟩:=Kd.R_slice HO1127.out;subst eo26)|((with_reducible refine gate_builtin (b:=.append) (xs:=#[.tmp 33,.tmp 38]) rfl ?_);at_builtin;refine Kd.S_append k73 (w0:=w) w.heap.size rfl (.tmp 33) (.tmp 38) 69 73 (.agg #[(.slice none 0 0),(.int .i64 0)]) 32 rfl Try.underlying69 info73 rfl (by decide) (by omega) u6 x6_1 (⟨t1125,1⟩:S73) [.slice Ao26 t1125.length co26,.int .i64 1] (fun _=>True) (fun k_=>some k_=(.slice Ao26 t1125.length co26:Value).ownBlock) rfl rfl ?aP (fun k_ hk_=>((Kd.R_mono (ok':=fun k_=>((fun _=>True)) k_∧some k_≠(u6:Value).ownBlock) (Kd.R_apart' (HO1127.out) (Kd.S_typed HO_6.out) (by decide)) (fun k_ hk=>⟨trivial,hk.2⟩))).1 k_ hk_.symm) ?aF ?aO ?aB ?aS ?aL ?_;(case aP=>exact k73_mkM _ _ _ (⟨t1125,1⟩:S73) (Kd.R_mono (Kd.R_tight rfl (Kd.R_mono (ok':=fun k_=>((fun _=>True)) k_∧some k_≠(u6:Value).ownBlock) (Kd.R_apart' (HO1127.out) (Kd.S_typed HO_6.out) (by decide)) (fun k_ hk=>⟨trivial,hk.2⟩))) (fun _ h_=>h_)));(case aB=>exact(za0 HB GE1115));(case aF=>exact(fun _ _=>trivial));(case aO=>exact(by(with_reducible repeat(first|apply Kd.S_alloc|apply Kd.S_drewN|apply Kd.S_drew));exact Kd.S_mono HO_6.out (fun k_ hk=>⟨trivial,fun e_=>hk.2 e_⟩)));(case aS=>exact(below_size (za0 HB GE1115)));(case aL=>have:=LMc23.out;omega);intro v1129 w27 ho hb hg hat;rw[←Ny1128.out] at ho;replace BK1115:=Aside0.mk (qas (zB BK1115) hg (Kd.S_ne HO_6.out BK1115.out (by decide)));replace HB:=Aside0.mk hb;have HO1130:=Aside0.mk ho;clear HO_6 HO1127;clear ho hb hg hat))
       go_ret2
       exact⟨_,za9,za8 HO1130,za0 HB GE1115⟩
      ·rw[if_neg c23] at H
       exact absurd H (by simp)
     ·rw[if_neg c21] at H
      have c21b0:(a1_0 == 4)=false:=beq_eq_false_iff_ne.mpr c21
      have c21b1:(a1_0 != 4)=true:=bne_iff_ne.mpr c21
      obtain⟨ji28,hji28⟩:∃j_:Int,(wrap64 (a1_1 - 1))=j_:=⟨_,rfl⟩
      replace H:(if 0≤(ji28) then(if(ji28)<(x6_1.length:Int) then(if a1_0=5 then(some ((x6_1.set ((ji28):Int).toNat (⟨(rd_T73 x6_1 (ji28)).f0,2⟩:S73)),true)) else(if a1_0=6 then(some ((x6_1.set ((ji28):Int).toNat (⟨(rd_T73 x6_1 (ji28)).f0,3⟩:S73)),true)) else(if((rd_T73 x6_1 (ji28)).f1)=2 then(some ((x6_1.set ((ji28):Int).toNat (⟨(rd_T73 x6_1 (ji28)).f0,4⟩:S73)),true)) else(some ((x6_1.set ((ji28):Int).toNat (⟨(rd_T73 x6_1 (ji28)).f0,5⟩:S73)),true))))) else(none)) else(none))=some (r1,r2):=by first|(rw[hji28] at H;exact H)|(simp only[hji28] at H ⊢;exact H)
      have hji28w:(IntKind.i64.wrap (a1_1 - 1))=ji28:=(qaj _).trans hji28
      by_cases c29:0≤(ji28)
      ·rw[if_pos c29] at H
       have c29b0:decide (0≤(ji28))=true:=decide_eq_true c29
       clear c29
       by_cases c30:(ji28)<(x6_1.length:Int)
       ·rw[if_pos c30] at H
        have c30b0:decide ((ji28)<(x6_1.length:Int))=true:=decide_eq_true c30
        clear c30
        by_cases c32:a1_0=5
        ·rw[if_pos c32] at H
         have c32b0:(a1_0 == 5)=true:=beq_iff_eq.mpr c32
         have c32b1:(a1_0 != 5)=false:=bne_eq_false_iff_eq.mpr c32
         clear c32
         obtain⟨y1131,hy1131⟩:∃y_:List (S73),y_=(x6_1.set ((ji28):Int).toNat (⟨(rd_T73 x6_1 (ji28)).f0,2⟩:S73)):=⟨_,rfl⟩
         replace H:(some (y1131,true))=some (r1,r2):=by first|(rw[hy1131];with_reducible exact H)|(have H2_:=(Option.bind_some _ _).symm.trans H;rw[hy1131];with_reducible exact H2_)|(have H2_:=(Option.bind_some _ _).symm.trans H;with_reducible exact H2_)|with_reducible exact H|(rw[hy1131];exact H)|exact H
         have Ny1131:=Aside0.mk hy1131
         clear hy1131
         simp only[Option.some.injEq,Prod.mk.injEq] at H
         obtain⟨rfl,rfl⟩:=H
         obtain⟨hcz33_0,hcz33_1,hcz33_2,hfz33_0,hfz33_1,hfz33_2⟩:=zC3 BK1115
         have p31:0≤((ji28):Int):=of_decide_eq_true (za5)
         have q31:((ji28):Int)<((x6_1.length:Int):Int):=of_decide_eq_true (za5)
         obtain⟨go31,co31,eo31,gb31,gl31,cl31,HG31⟩:=Kd.S_form HO_6.out (by omega)
         (first|cases eo31|(injection eo31 with ea_ en_ ec_;(first|subst ea_|(injection ea_ with ea_;subst ea_));subst ec_;clear en_))
         have GB31:=Aside0.mk gb31
         have GG31:=Aside0.mk HG31
         clear gb31 gl31 HG31
         obtain⟨_,ce31,hcl31,hM31,hcc31,hfr31,_,_⟩:=Kd.S_elem HO_6.out z73 ((ji28):Int) p31 q31
         obtain⟨ve31_0,rfl,ge31_0⟩:=k73_openM hM31
         have hx31_0:wr.cell? ⟨go31,((ji28):Int).toNat*2,none⟩=some (ve31_0):=hcc31 0 _ rfl
         have hx31_1:wr.cell? ⟨go31,((ji28):Int).toNat*2+1,none⟩=some (.int .i64 ((rd_T73 x6_1 (ji28)).f1)):=hcc31 1 _ rfl
         have hf31_0:wr.frozen? ⟨go31,((ji28):Int).toNat*2,none⟩=false:=hfr31 0
         have hf31_1:wr.frozen? ⟨go31,((ji28):Int).toNat*2+1,none⟩=false:=hfr31 1
         clear hcl31 hcc31 hfr31 hM31
         replace p31:=eq_true p31
         replace q31:=eq_true q31
         have HX34:=Aside0.mk (show Kd.S k73 73 wr w.heap.size (fun k_=>((fun _=>True)) k_∧¬((fun _=>False)) k_) (.slice (some ⟨go31,0,none⟩) x6_1.length co31) x6_1 from(by(with_reducible repeat(first|apply Kd.S_alloc|apply Kd.S_drewN|apply Kd.S_drew));exact Kd.S_mono HO_6.out (fun k_ hk=>⟨trivial,fun e_=>e_⟩)))
         obtain⟨oki34,ce34,hcl34,hM34,hcc34,hfr34,hoki34,hH34⟩:=Kd.S_elem HX34.out z73 ((ji28):Int) (of_decide_eq_true (za5)) (by have h_:((ji28):Int)<((x6_1.length:Int):Int):=of_decide_eq_true (za5);first|exact h_|(have e_:=(Kd.S_reads' HO_6.out).1;omega)|simpa using h_)
         obtain⟨ve34_0,rfl,ge34_0⟩:=k73_openM hM34
         have HP34:=Kd.S_seg hH34 (of_decide_eq_true (za5)) (by have h_:((ji28):Int)<((x6_1.length:Int):Int):=of_decide_eq_true (za5);first|exact h_|(have e_:=(Kd.S_reads' HO_6.out).1;omega)|simpa using h_) (seg:=[.int .i64 2]) (j:=1) (show 2≤2 from by decide) (x':=(⟨(rd_T73 x6_1 (ji28)).f0,2⟩:S73)) (k73_mkM _ _ _ (⟨(rd_T73 x6_1 (ji28)).f0,2⟩:S73) (Kd.R_mono ge34_0 (fun _ h_=>Or.inl h_))) (fun _ hk=>hk) (fun k_ hk_=>hk_.elim)
         have hx34_1:=hcc34 1 _ rfl
         (try simp only[show(k73).sz=2 from rfl,Nat.mul_one,Nat.add_zero] at hx34_1)
         have hf34_1:=hfr34 1
         (try simp only[show(k73).sz=2 from rfl,Nat.mul_one,Nat.add_zero] at hf34_1)
         clear hcl34 hcc34 hfr34 hM34 hoki34 hH34
         go_wp2_with(first|((with_reducible refine gate_store (t:=3) (p:=54) rfl ?_);refine qat (t:=3) (p:=54) (v:=?vo_w35) (w1:=(wr.setCell ⟨go31,((ji28):Int).toNat*2+1,none⟩ (.int .i64 2))) ?hg ?ho ?hn ?hr ?_;(case ho=>rfl);(case hg=>rfl);(case hn=>rfl);(case hr=>first|(go_simp;done)|(go_simp;rfl));intro w35 hw;have hg:wr.grownBy w35 (some go31):=(by rw[hw];exact HP34.2);have hp_:Kd.S k73 73 w35 w.heap.size (fun _=>True) (.slice (some ⟨go31,0,none⟩) x6_1.length co31) y1131:=(by rw[hw,Ny1131.out];exact HP34.1);clear HP34;replace BK1115:=Aside0.mk (qas (zB BK1115) hg (Kd.S_ne HO_6.out BK1115.out (by decide)));replace HO_6:=Aside0.mk hp_;replace HB:=Aside0.mk ((by rw[hw];exact qac (HB.out) GB31.out:Below w.heap.size w w35));clear hg hw hp_))
         go_ret2
         exact⟨_,by first|rfl|(simp[qam,qal]<;>rfl)|(simp only[←hji28];first|rfl|(simp[qam,qal]<;>rfl))|(simp[*,qam,qal]<;>rfl),za8 HO_6,za0 HB GE1115⟩
        ·rw[if_neg c32] at H
         have c32b0:(a1_0 == 5)=false:=beq_eq_false_iff_ne.mpr c32
         have c32b1:(a1_0 != 5)=true:=bne_iff_ne.mpr c32
         by_cases c36:a1_0=6
         ·rw[if_pos c36] at H
          have c36b0:(a1_0 == 6)=true:=beq_iff_eq.mpr c36
          have c36b1:(a1_0 != 6)=false:=bne_eq_false_iff_eq.mpr c36
          clear c36
          obtain⟨y1132,hy1132⟩:∃y_:List (S73),y_=(x6_1.set ((ji28):Int).toNat (⟨(rd_T73 x6_1 (ji28)).f0,3⟩:S73)):=⟨_,rfl⟩
          replace H:(some (y1132,true))=some (r1,r2):=by first|(rw[hy1132];with_reducible exact H)|(have H2_:=(Option.bind_some _ _).symm.trans H;rw[hy1132];with_reducible exact H2_)|(have H2_:=(Option.bind_some _ _).symm.trans H;with_reducible exact H2_)|with_reducible exact H|(rw[hy1132];exact H)|exact H
          have Ny1132:=Aside0.mk hy1132
          clear hy1132
          simp only[Option.some.injEq,Prod.mk.injEq] at H
          obtain⟨rfl,rfl⟩:=H
          obtain⟨hcz37_0,hcz37_1,hcz37_2,hfz37_0,hfz37_1,hfz37_2⟩:=zC3 BK1115
          have p31:0≤((ji28):Int):=of_decide_eq_true (za5)
          have q31:((ji28):Int)<((x6_1.length:Int):Int):=of_decide_eq_true (za5)
          obtain⟨go31,co31,eo31,gb31,gl31,cl31,HG31⟩:=Kd.S_form HO_6.out (by omega)
          (first|cases eo31|(injection eo31 with ea_ en_ ec_;(first|subst ea_|(injection ea_ with ea_;subst ea_));subst ec_;clear en_))
          have GB31:=Aside0.mk gb31
          have GG31:=Aside0.mk HG31
          clear gb31 gl31 HG31
          obtain⟨_,ce31,hcl31,hM31,hcc31,hfr31,_,_⟩:=Kd.S_elem HO_6.out z73 ((ji28):Int) p31 q31
          obtain⟨ve31_0,rfl,ge31_0⟩:=k73_openM hM31
          have hx31_0:wr.cell? ⟨go31,((ji28):Int).toNat*2,none⟩=some (ve31_0):=hcc31 0 _ rfl
          have hx31_1:wr.cell? ⟨go31,((ji28):Int).toNat*2+1,none⟩=some (.int .i64 ((rd_T73 x6_1 (ji28)).f1)):=hcc31 1 _ rfl
          have hf31_0:wr.frozen? ⟨go31,((ji28):Int).toNat*2,none⟩=false:=hfr31 0
          have hf31_1:wr.frozen? ⟨go31,((ji28):Int).toNat*2+1,none⟩=false:=hfr31 1
          clear hcl31 hcc31 hfr31 hM31
          replace p31:=eq_true p31
          replace q31:=eq_true q31
          have HX38:=Aside0.mk (show Kd.S k73 73 wr w.heap.size (fun k_=>((fun _=>True)) k_∧¬((fun _=>False)) k_) (.slice (some ⟨go31,0,none⟩) x6_1.length co31) x6_1 from(by(with_reducible repeat(first|apply Kd.S_alloc|apply Kd.S_drewN|apply Kd.S_drew));exact Kd.S_mono HO_6.out (fun k_ hk=>⟨trivial,fun e_=>e_⟩)))
          obtain⟨oki38,ce38,hcl38,hM38,hcc38,hfr38,hoki38,hH38⟩:=Kd.S_elem HX38.out z73 ((ji28):Int) (of_decide_eq_true (za5)) (by have h_:((ji28):Int)<((x6_1.length:Int):Int):=of_decide_eq_true (za5);first|exact h_|(have e_:=(Kd.S_reads' HO_6.out).1;omega)|simpa using h_)
          obtain⟨ve38_0,rfl,ge38_0⟩:=k73_openM hM38
          have HP38:=Kd.S_seg hH38 (of_decide_eq_true (za5)) (by have h_:((ji28):Int)<((x6_1.length:Int):Int):=of_decide_eq_true (za5);first|exact h_|(have e_:=(Kd.S_reads' HO_6.out).1;omega)|simpa using h_) (seg:=[.int .i64 3]) (j:=1) (show 2≤2 from by decide) (x':=(⟨(rd_T73 x6_1 (ji28)).f0,3⟩:S73)) (k73_mkM _ _ _ (⟨(rd_T73 x6_1 (ji28)).f0,3⟩:S73) (Kd.R_mono ge38_0 (fun _ h_=>Or.inl h_))) (fun _ hk=>hk) (fun k_ hk_=>hk_.elim)
          have hx38_1:=hcc38 1 _ rfl
          (try simp only[show(k73).sz=2 from rfl,Nat.mul_one,Nat.add_zero] at hx38_1)
          have hf38_1:=hfr38 1
          (try simp only[show(k73).sz=2 from rfl,Nat.mul_one,Nat.add_zero] at hf38_1)
          clear hcl38 hcc38 hfr38 hM38 hoki38 hH38
          go_wp2_with(first|((with_reducible refine gate_store (t:=3) (p:=61) rfl ?_);refine qat (t:=3) (p:=61) (v:=?vo_w39) (w1:=(wr.setCell ⟨go31,((ji28):Int).toNat*2+1,none⟩ (.int .i64 3))) ?hg ?ho ?hn ?hr ?_;(case ho=>rfl);(case hg=>rfl);(case hn=>rfl);(case hr=>first|(go_simp;done)|(go_simp;rfl));intro w39 hw;have hg:wr.grownBy w39 (some go31):=(by rw[hw];exact HP38.2);have hp_:Kd.S k73 73 w39 w.heap.size (fun _=>True) (.slice (some ⟨go31,0,none⟩) x6_1.length co31) y1132:=(by rw[hw,Ny1132.out];exact HP38.1);clear HP38;replace BK1115:=Aside0.mk (qas (zB BK1115) hg (Kd.S_ne HO_6.out BK1115.out (by decide)));replace HO_6:=Aside0.mk hp_;replace HB:=Aside0.mk ((by rw[hw];exact qac (HB.out) GB31.out:Below w.heap.size w w39));clear hg hw hp_))
          go_ret2
          exact⟨_,by first|rfl|(simp[qam,qal]<;>rfl)|(simp only[←hji28];first|rfl|(simp[qam,qal]<;>rfl))|(simp[*,qam,qal]<;>rfl),za8 HO_6,za0 HB GE1115⟩
         ·rw[if_neg c36] at H
          have c36b0:(a1_0 == 6)=false:=beq_eq_false_iff_ne.mpr c36
          have c36b1:(a1_0 != 6)=true:=bne_iff_ne.mpr c36
          by_cases c40:((rd_T73 x6_1 (ji28)).f1)=2
          ·rw[if_pos c40] at H
           have c40b0:(((rd_T73 x6_1 (ji28)).f1) == 2)=true:=beq_iff_eq.mpr c40
           have c40b1:(((rd_T73 x6_1 (ji28)).f1) != 2)=false:=bne_eq_false_iff_eq.mpr c40
           clear c40
           obtain⟨y1133,hy1133⟩:∃y_:List (S73),y_=(x6_1.set ((ji28):Int).toNat (⟨(rd_T73 x6_1 (ji28)).f0,4⟩:S73)):=⟨_,rfl⟩
           replace H:(some (y1133,true))=some (r1,r2):=by first|(rw[hy1133];with_reducible exact H)|(have H2_:=(Option.bind_some _ _).symm.trans H;rw[hy1133];with_reducible exact H2_)|(have H2_:=(Option.bind_some _ _).symm.trans H;with_reducible exact H2_)|with_reducible exact H|(rw[hy1133];exact H)|exact H
           have Ny1133:=Aside0.mk hy1133
           clear hy1133
           simp only[Option.some.injEq,Prod.mk.injEq] at H
           obtain⟨rfl,rfl⟩:=H
           obtain⟨hcz41_0,hcz41_1,hcz41_2,hfz41_0,hfz41_1,hfz41_2⟩:=zC3 BK1115
           have p31:0≤((ji28):Int):=of_decide_eq_true (za5)
           have q31:((ji28):Int)<((x6_1.length:Int):Int):=of_decide_eq_true (za5)
           obtain⟨go31,co31,eo31,gb31,gl31,cl31,HG31⟩:=Kd.S_form HO_6.out (by omega)
           (first|cases eo31|(injection eo31 with ea_ en_ ec_;(first|subst ea_|(injection ea_ with ea_;subst ea_));subst ec_;clear en_))
           have GB31:=Aside0.mk gb31
           have GG31:=Aside0.mk HG31
           clear gb31 gl31 HG31
           obtain⟨_,ce31,hcl31,hM31,hcc31,hfr31,_,_⟩:=Kd.S_elem HO_6.out z73 ((ji28):Int) p31 q31
           obtain⟨ve31_0,rfl,ge31_0⟩:=k73_openM hM31
           have hx31_0:wr.cell? ⟨go31,((ji28):Int).toNat*2,none⟩=some (ve31_0):=hcc31 0 _ rfl
           have hx31_1:wr.cell? ⟨go31,((ji28):Int).toNat*2+1,none⟩=some (.int .i64 ((rd_T73 x6_1 (ji28)).f1)):=hcc31 1 _ rfl
           have hf31_0:wr.frozen? ⟨go31,((ji28):Int).toNat*2,none⟩=false:=hfr31 0
           have hf31_1:wr.frozen? ⟨go31,((ji28):Int).toNat*2+1,none⟩=false:=hfr31 1
           clear hcl31 hcc31 hfr31 hM31
           replace p31:=eq_true p31
           replace q31:=eq_true q31
           have HX42:=Aside0.mk (show Kd.S k73 73 wr w.heap.size (fun k_=>((fun _=>True)) k_∧¬((fun _=>False)) k_) (.slice (some ⟨go31,0,none⟩) x6_1.length co31) x6_1 from(by(with_reducible repeat(first|apply Kd.S_alloc|apply Kd.S_drewN|apply Kd.S_drew));exact Kd.S_mono HO_6.out (fun k_ hk=>⟨trivial,fun e_=>e_⟩)))
           obtain⟨oki42,ce42,hcl42,hM42,hcc42,hfr42,hoki42,hH42⟩:=Kd.S_elem HX42.out z73 ((ji28):Int) (of_decide_eq_true (za5)) (by have h_:((ji28):Int)<((x6_1.length:Int):Int):=of_decide_eq_true (za5);first|exact h_|(have e_:=(Kd.S_reads' HO_6.out).1;omega)|simpa using h_)
           obtain⟨ve42_0,rfl,ge42_0⟩:=k73_openM hM42
           have HP42:=Kd.S_seg hH42 (of_decide_eq_true (za5)) (by have h_:((ji28):Int)<((x6_1.length:Int):Int):=of_decide_eq_true (za5);first|exact h_|(have e_:=(Kd.S_reads' HO_6.out).1;omega)|simpa using h_) (seg:=[.int .i64 4]) (j:=1) (show 2≤2 from by decide) (x':=(⟨(rd_T73 x6_1 (ji28)).f0,4⟩:S73)) (k73_mkM _ _ _ (⟨(rd_T73 x6_1 (ji28)).f0,4⟩:S73) (Kd.R_mono ge42_0 (fun _ h_=>Or.inl h_))) (fun _ hk=>hk) (fun k_ hk_=>hk_.elim)
           have hx42_1:=hcc42 1 _ rfl
           (try simp only[show(k73).sz=2 from rfl,Nat.mul_one,Nat.add_zero] at hx42_1)
           have hf42_1:=hfr42 1
           (try simp only[show(k73).sz=2 from rfl,Nat.mul_one,Nat.add_zero] at hf42_1)
           clear hcl42 hcc42 hfr42 hM42 hoki42 hH42
           go_wp2_with(first|((with_reducible refine gate_store (t:=3) (p:=70) rfl ?_);refine qat (t:=3) (p:=70) (v:=?vo_w43) (w1:=(wr.setCell ⟨go31,((ji28):Int).toNat*2+1,none⟩ (.int .i64 4))) ?hg ?ho ?hn ?hr ?_;(case ho=>rfl);(case hg=>rfl);(case hn=>rfl);(case hr=>first|(go_simp;done)|(go_simp;rfl));intro w43 hw;have hg:wr.grownBy w43 (some go31):=(by rw[hw];exact HP42.2);have hp_:Kd.S k73 73 w43 w.heap.size (fun _=>True) (.slice (some ⟨go31,0,none⟩) x6_1.length co31) y1133:=(by rw[hw,Ny1133.out];exact HP42.1);clear HP42;replace BK1115:=Aside0.mk (qas (zB BK1115) hg (Kd.S_ne HO_6.out BK1115.out (by decide)));replace HO_6:=Aside0.mk hp_;replace HB:=Aside0.mk ((by rw[hw];exact qac (HB.out) GB31.out:Below w.heap.size w w43));clear hg hw hp_))
           go_ret2
           exact⟨_,by first|rfl|(simp[qam,qal]<;>rfl)|(simp only[←hji28];first|rfl|(simp[qam,qal]<;>rfl))|(simp[*,qam,qal]<;>rfl),za8 HO_6,za0 HB GE1115⟩
          ·rw[if_neg c40] at H
           have c40b0:(((rd_T73 x6_1 (ji28)).f1) == 2)=false:=beq_eq_false_iff_ne.mpr c40
           have c40b1:(((rd_T73 x6_1 (ji28)).f1) != 2)=true:=bne_iff_ne.mpr c40
           obtain⟨y1134,hy1134⟩:∃y_:List (S73),y_=(x6_1.set ((ji28):Int).toNat (⟨(rd_T73 x6_1 (ji28)).f0,5⟩:S73)):=⟨_,rfl⟩
           replace H:(some (y1134,true))=some (r1,r2):=by first|(rw[hy1134];with_reducible exact H)|(have H2_:=(Option.bind_some _ _).symm.trans H;rw[hy1134];with_reducible exact H2_)|(have H2_:=(Option.bind_some _ _).symm.trans H;with_reducible exact H2_)|with_reducible exact H|(rw[hy1134];exact H)|exact H
           have Ny1134:=Aside0.mk hy1134
           clear hy1134
           simp only[Option.some.injEq,Prod.mk.injEq] at H
           obtain⟨rfl,rfl⟩:=H
           obtain⟨hcz44_0,hcz44_1,hcz44_2,hfz44_0,hfz44_1,hfz44_2⟩:=zC3 BK1115
           have p31:0≤((ji28):Int):=of_decide_eq_true (za5)
           have q31:((ji28):Int)<((x6_1.length:Int):Int):=of_decide_eq_true (za5)
           obtain⟨go31,co31,eo31,gb31,gl31,cl31,HG31⟩:=Kd.S_form HO_6.out (by omega)
           (first|cases eo31|(injection eo31 with ea_ en_ ec_;(first|subst ea_|(injection ea_ with ea_;subst ea_));subst ec_;clear en_))
           have GB31:=Aside0.mk gb31
           have GG31:=Aside0.mk HG31
           clear gb31 gl31 HG31
           obtain⟨_,ce31,hcl31,hM31,hcc31,hfr31,_,_⟩:=Kd.S_elem HO_6.out z73 ((ji28):Int) p31 q31
           obtain⟨ve31_0,rfl,ge31_0⟩:=k73_openM hM31
           have hx31_0:wr.cell? ⟨go31,((ji28):Int).toNat*2,none⟩=some (ve31_0):=hcc31 0 _ rfl
           have hx31_1:wr.cell? ⟨go31,((ji28):Int).toNat*2+1,none⟩=some (.int .i64 ((rd_T73 x6_1 (ji28)).f1)):=hcc31 1 _ rfl
           have hf31_0:wr.frozen? ⟨go31,((ji28):Int).toNat*2,none⟩=false:=hfr31 0
           have hf31_1:wr.frozen? ⟨go31,((ji28):Int).toNat*2+1,none⟩=false:=hfr31 1
           clear hcl31 hcc31 hfr31 hM31
           replace p31:=eq_true p31
           replace q31:=eq_true q31
           have HX45:=Aside0.mk (show Kd.S k73 73 wr w.heap.size (fun k_=>((fun _=>True)) k_∧¬((fun _=>False)) k_) (.slice (some ⟨go31,0,none⟩) x6_1.length co31) x6_1 from(by(with_reducible repeat(first|apply Kd.S_alloc|apply Kd.S_drewN|apply Kd.S_drew));exact Kd.S_mono HO_6.out (fun k_ hk=>⟨trivial,fun e_=>e_⟩)))
           obtain⟨oki45,ce45,hcl45,hM45,hcc45,hfr45,hoki45,hH45⟩:=Kd.S_elem HX45.out z73 ((ji28):Int) (of_decide_eq_true (za5)) (by have h_:((ji28):Int)<((x6_1.length:Int):Int):=of_decide_eq_true (za5);first|exact h_|(have e_:=(Kd.S_reads' HO_6.out).1;omega)|simpa using h_)
           obtain⟨ve45_0,rfl,ge45_0⟩:=k73_openM hM45
           have HP45:=Kd.S_seg hH45 (of_decide_eq_true (za5)) (by have h_:((ji28):Int)<((x6_1.length:Int):Int):=of_decide_eq_true (za5);first|exact h_|(have e_:=(Kd.S_reads' HO_6.out).1;omega)|simpa using h_) (seg:=[.int .i64 5]) (j:=1) (show 2≤2 from by decide) (x':=(⟨(rd_T73 x6_1 (ji28)).f0,5⟩:S73)) (k73_mkM _ _ _ (⟨(rd_T73 x6_1 (ji28)).f0,5⟩:S73) (Kd.R_mono ge45_0 (fun _ h_=>Or.inl h_))) (fun _ hk=>hk) (fun k_ hk_=>hk_.elim)
           have hx45_1:=hcc45 1 _ rfl
           (try simp only[show(k73).sz=2 from rfl,Nat.mul_one,Nat.add_zero] at hx45_1)
           have hf45_1:=hfr45 1
           (try simp only[show(k73).sz=2 from rfl,Nat.mul_one,Nat.add_zero] at hf45_1)
           clear hcl45 hcc45 hfr45 hM45 hoki45 hH45
           go_wp2_with(first|((with_reducible refine gate_store (t:=3) (p:=47) rfl ?_);refine qat (t:=3) (p:=47) (v:=?vo_w46) (w1:=(wr.setCell ⟨go31,((ji28):Int).toNat*2+1,none⟩ (.int .i64 5))) ?hg ?ho ?hn ?hr ?_;(case ho=>rfl);(case hg=>rfl);(case hn=>rfl);(case hr=>first|(go_simp;done)|(go_simp;rfl));intro w46 hw;have hg:wr.grownBy w46 (some go31):=(by rw[hw];exact HP45.2);have hp_:Kd.S k73 73 w46 w.heap.size (fun _=>True) (.slice (some ⟨go31,0,none⟩) x6_1.length co31) y1134:=(by rw[hw,Ny1134.out];exact HP45.1);clear HP45;replace BK1115:=Aside0.mk (qas (zB BK1115) hg (Kd.S_ne HO_6.out BK1115.out (by decide)));replace HO_6:=Aside0.mk hp_;replace HB:=Aside0.mk ((by rw[hw];exact qac (HB.out) GB31.out:Below w.heap.size w w46));clear hg hw hp_))
           go_ret2
           exact⟨_,by first|rfl|(simp[qam,qal]<;>rfl)|(simp only[←hji28];first|rfl|(simp[qam,qal]<;>rfl))|(simp[*,qam,qal]<;>rfl),za8 HO_6,za0 HB GE1115⟩
       ·rw[if_neg c30] at H
        exact absurd H (by simp)
      ·rw[if_neg c29] at H
       exact absurd H (by simp)
 ·replace c4:=Bool.eq_false_iff.mpr c4
  subst c4
  have H1:(some (([]:List (S73)),false))=some (r1,r2):=by rw[if_neg (show ¬(false=true) by decide)] at H;exact H
  clear H
  have H:=H1
  clear H1
  simp only[Option.some.injEq,Prod.mk.injEq] at H
  obtain⟨rfl,rfl⟩:=H
  go_enter Try.func99,Try.ntmps99
  go_wp2_with(first|((with_reducible refine qah (N:=3) rfl ?_);refine zX (N:=3) (cs:=#[.int .i64 a1_0,.int .i64 a1_1,.slice A1_2 l1_2.length c1_2]) (t:=62) ?_;intro gb1115 hg w47 hbox hb;have BK1115:=Aside0.mk hbox;have GW1115:=zH (w:=w) hg (za1 HB);have GE1115:=GW1115;replace HB:=Aside0.mk (qab (za1 HB) hb);clear hb hbox hg;obtain⟨hcz48_0,hcz48_1,hcz48_2,hfz48_0,hfz48_1,hfz48_2⟩:=zC3 BK1115)|((with_reducible refine qaf (f:=51) rfl ?_);refine zF (some 12) Try.func51 #[.slice A0 l0.length c0,.agg #[.int .i64 a1_0,.int .i64 a1_1,.slice A1_2 l1_2.length c1_2]] ?_;(with_reducible refine(impl_TripsMay.calls k _ _ l0 a1_0 a1_1 _ _ l1_2 false _ ?side1 ?side2 ?side3 ?side4 A3.out).mono ?_);(case side1=>exact zR HR0 HB);(case side2=>exact HC0.out);(case side3=>exact zR HR1_2 HB);(case side4=>exact HC1_2.out);rintro e w49 ⟨rfl,hb⟩;refine⟨_,rfl,?_⟩;replace BK1115:=Aside0.mk (qaa (zB BK1115) hb);replace HB:=Aside0.mk (qab (za0 HB GE1115) hb);(try clear hb)))
  go_ret2
  exact⟨_,za9,za25,za0 HB GE1115⟩
end Go.Proofs.Ytjccnaklodbbfaa.Print
