-- Written by squeeze.py, a program of this session, out of what print.sh and myprint.py had printed: cut to what is used, narrowed. Not trusted, Lean checks it.
import Derived.Test.YtbomcadjkcmcgaaZK
import Derived.Test.YtbomcadjkcmcgaaZa13
namespace Go.Proofs.Ytbomcadjkcmcgaa.Print
open Go.RowKit Go.Proofs.YtbomcadjkcmcgaaW.PrintWords Go.Proofs.YtbomcadjkcmcgaaW.PrintLast Go.Proofs.YtbomcadjkcmcgaaW.PrintMore
attribute [local go_sem] max2_int min2_int max_two min_two max_three min_three max_four min_four
set_option linter.unusedVariables false
set_option linter.unusedSimpArgs false
def laws_eqRecS.l0:Nat→List (S62)→List (S62)→Int→Option (Bool)
 |0,_,_,_=>none
 |k+1,x0,x1,x5=>if x5<(x0.length:Int) then(if 0≤x5 then(if x5<(x1.length:Int) then((laws_eqRec.f k ((rd_T62 x0 x5).f0) ((rd_T62 x0 x5).f1) ((rd_T62 x0 x5).f2) ((rd_T62 x1 x5).f0) ((rd_T62 x1 x5).f1) ((rd_T62 x1 x5).f2)).bind fun t284=>(if t284=true then(laws_eqRecS.l0 k x0 x1 (wrap64 (x5+1))) else(some false))) else(none)) else(none)) else(some true)
def laws_eqRecS.f (k:Nat) (l0:List (S62)) (l1:List (S62)):Option (Bool):=if(l0.length:Int)=(l1.length:Int) then(laws_eqRecS.l0 k l0 l1 0) else(some false)
theorem laws_eqRecS.mono_l:∀k,(∀y0 y1 y2,LeO (laws_eqRecS.l0 k y0 y1 y2) (laws_eqRecS.l0 (k+1) y0 y1 y2))
 |0=>fun _ _ _ r h=>by simp[laws_eqRecS.l0] at h
 |k+1=>by
  have ih0:=laws_eqRecS.mono_l k
  ·intro y0 y1 y2
   unfold laws_eqRecS.l0
   repeat' first
   |(with_reducible exact ih0 _ _ _)
   |(with_reducible exact laws_eqRec.mono _ _ _ _ _ _ _)
   |(with_reducible exact LeO.refl _)
   |(with_reducible exact LeO.none _)
   |(with_reducible refine LeO.ite ?_ ?_)
   |(with_reducible refine LeO.bind ?_ (fun _=>?_))
   |exact ih0 _ _ _
   |exact laws_eqRec.mono _ _ _ _ _ _ _
   |exact LeO.none _
   |refine LeO.ite ?_ ?_
   |refine LeO.bind ?_ (fun _=>?_)
theorem laws_eqRecS.mono:∀a0 a1 k,LeO (laws_eqRecS.f k a0 a1) (laws_eqRecS.f (k+1) a0 a1):=by
 intro a0 a1 k
 have ih0:=laws_eqRecS.mono_l k
 unfold laws_eqRecS.f
 repeat' first
   |(with_reducible exact ih0 _ _ _)
   |(with_reducible exact laws_eqRec.mono _ _ _ _ _ _ _)
   |(with_reducible exact LeO.refl _)
   |(with_reducible exact LeO.none _)
   |(with_reducible refine LeO.ite ?_ ?_)
   |(with_reducible refine LeO.bind ?_ (fun _=>?_))
   |exact ih0 _ _ _
   |exact laws_eqRec.mono _ _ _ _ _ _ _
   |exact LeO.none _
   |refine LeO.ite ?_ ?_
   |refine LeO.bind ?_ (fun _=>?_)
def laws_eqRecS.T6:Bool × List (List Nat × List Nat):=(true,[([],[]),([],[]),([0,1],[0,1]),([2],[2]),([],[]),([],[]),([4,5],[4,5]),([6],[6]),([3,7],[3,7]),([8],[8])])
def laws_eqRecS.B6:List Nat:=[0,0,3,7,0,0,48,112,255,511]
theorem laws_eqRecS.tab6:rtab .any (opsOf Try.f43 6)=laws_eqRecS.T6:=by kernel_rfl
theorem laws_eqRecS.bits6:waitsOk laws_eqRecS.T6.2 laws_eqRecS.B6=true:=by kernel_rfl
set_option maxHeartbeats 8000000 in
set_option maxRecDepth 100000 in
theorem laws_eqRecS.calls (k:Nat) (A0:Option Addr) (c0:Nat) (l0:List (S62)) (A1:Option Addr) (c1:Nat) (l1:List (S62)) (r:Bool) (w:World) (hr0:Kd.C k62 w A0 l0.length l0) (hc0:l0.length≤c0) (hr1:Kd.C k62 w A1 l1.length l1) (hc1:l1.length≤c1) (h:laws_eqRecS.f k l0 l1=some r) :
  Calls Try.prog 43 #[.slice A0 l0.length c0,.slice A1 l1.length c1] w fun e w'=>e=.returned (.bool r)∧Below w.heap.size w w':=by
 have hu62:=Try.underlying62
 have HR0:=qam.mk hr0
 have HC0:=qam.mk hc0
 clear hr0 hc0
 have HR1:=qam.mk hr1
 have HC1:=qam.mk hc1
 clear hr1 hc1
 have HB:=qam.mk (Below.refl w.heap.size w)
 have H:(if(l0.length:Int)=(l1.length:Int) then(laws_eqRecS.l0 k l0 l1 0) else(some false))=some r:=h
 clear h
 by_cases c3:(l0.length:Int)=(l1.length:Int)
 ·rw[if_pos c3] at H
  have c3b0:((l0.length:Int) == (l1.length:Int))=true:=beq_iff_eq.mpr c3
  have c3b1:((l0.length:Int) != (l1.length:Int))=false:=bne_eq_false_iff_eq.mpr c3
  have c3b2:(l0.length == l1.length)=true:=by first|simpa using c3|(simp at c3 ⊢;omega)
  clear c3
  have H':=qam.mk H
  clear H
  go_enter Try.func43,Try.ntmps43
  go_wp2
  go_loopg [5] k (fun kq v5 w'=>∃(x5_1:Int),v5=.int .i64 x5_1∧qam (laws_eqRecS.l0 kq l0 l1 x5_1=some r)∧qam (kq≤k)∧qam (Below w.heap.size w w'))
  case atStart=>exact⟨(0),(za11),H',⟨Nat.le_refl _⟩,⟨za2 HB⟩⟩
  case round=>
   clear H'
   try clear c1
   try clear p2
   try clear c3
   try clear c3b0
   try clear c3b1
   try clear c3b2
   obtain⟨x5_1,rfl,HA,HK1,HB⟩:=hrel
   cases gk with
   |zero=>exact absurd HA.out (by simp[laws_eqRecS.l0])
   |succ k1=>
    have H:=HA.out
    clear HA
    simp only[laws_eqRecS.l0] at H
    by_cases c4:x5_1<(l0.length:Int)
    ·rw[if_pos c4] at H
     have c4b0:decide (x5_1<(l0.length:Int))=true:=decide_eq_true c4
     clear c4
     by_cases c5:0≤x5_1
     ·rw[if_pos c5] at H
      have c5b0:decide (0≤x5_1)=true:=decide_eq_true c5
      clear c5
      by_cases c6:x5_1<(l1.length:Int)
      ·rw[if_pos c6] at H
       have c6b0:decide (x5_1<(l1.length:Int))=true:=decide_eq_true c6
       clear c6
       replace H:=Option.bind_eq_some_iff.mp H
       obtain⟨t284,A70,H⟩:=H
       replace H:(if t284=true then(laws_eqRecS.l0 k1 l0 l1 (wrap64 (x5_1+1))) else(some false))=some r:=H
       have A7:=qam.mk A70
       clear A70
       by_cases c8:t284=true
       ·subst c8
        have H1:(laws_eqRecS.l0 k1 l0 l1 (wrap64 (x5_1+1)))=some r:=by rw[if_pos rfl] at H;exact H
        clear H
        have H:=H1
        clear H1
        have H':=qam.mk H
        clear H
        try go_wp2
        have n0_:=qam.mk (below_drew1 HB.out)
        clear HB
        have HB:=n0_
        clear n0_
        have p282:0≤(x5_1:Int):=of_decide_eq_true (za6)
        have q282:x5_1<(l0.length:Int):=of_decide_eq_true (za6)
        obtain⟨ad282,A282_2,c282_2,e282,hx282_0,hx282_1,hx282_2,hl282_2,hi282_2⟩:=at_T62 HR0.out x5_1 p282 q282
        have hw282_2:=hx282_2
        have hw282_1:=hx282_1
        have hw282_0:=hx282_0
        cases e282
        have hxo282_2:=qam.mk hx282_2
        replace hx282_0:=(HB.out.cell (World.block_lt_of_cell? w _ hx282_0)).trans hx282_0
        replace hx282_1:=(HB.out.cell (World.block_lt_of_cell? w _ hx282_1)).trans hx282_1
        replace hx282_2:=(HB.out.cell (World.block_lt_of_cell? w _ hx282_2)).trans hx282_2
        have HR282_2:=qam.mk hi282_2
        have HC282_2:=qam.mk hl282_2
        clear hi282_2 hl282_2
        replace p282:=eq_true p282
        replace q282:=eq_true q282
        have p283:0≤(x5_1:Int):=of_decide_eq_true (za6)
        have q283:x5_1<(l1.length:Int):=of_decide_eq_true (za6)
        obtain⟨ad283,A283_2,c283_2,e283,hx283_0,hx283_1,hx283_2,hl283_2,hi283_2⟩:=at_T62 HR1.out x5_1 p283 q283
        have hw283_2:=hx283_2
        have hw283_1:=hx283_1
        have hw283_0:=hx283_0
        cases e283
        have hxo283_2:=qam.mk hx283_2
        replace hx283_0:=(HB.out.cell (World.block_lt_of_cell? w _ hx283_0)).trans hx283_0
        replace hx283_1:=(HB.out.cell (World.block_lt_of_cell? w _ hx283_1)).trans hx283_1
        replace hx283_2:=(HB.out.cell (World.block_lt_of_cell? w _ hx283_2)).trans hx283_2
        have HR283_2:=qam.mk hi283_2
        have HC283_2:=qam.mk hl283_2
        clear hi283_2 hl283_2
        replace p283:=eq_true p283
        replace q283:=eq_true q283
        refine start_ (n:=10) (S:=fun w'=>w'.cell? (ad282.add ((x5_1).toNat*3))=some (.int .i64 ((rd_T62 l0 x5_1).f0))∧w'.cell? ⟨(ad282.add ((x5_1).toNat*3)).block,(ad282.add ((x5_1).toNat*3)).off+1,none⟩=some (.int .i64 ((rd_T62 l0 x5_1).f1))∧w'.cell? ⟨(ad282.add ((x5_1).toNat*3)).block,(ad282.add ((x5_1).toNat*3)).off+2,none⟩=some (.slice A282_2 ((rd_T62 l0 x5_1).f2).length c282_2)∧w'.cell? (ad283.add ((x5_1).toNat*3))=some (.int .i64 ((rd_T62 l1 x5_1).f0))∧w'.cell? ⟨(ad283.add ((x5_1).toNat*3)).block,(ad283.add ((x5_1).toNat*3)).off+1,none⟩=some (.int .i64 ((rd_T62 l1 x5_1).f1))∧w'.cell? ⟨(ad283.add ((x5_1).toNat*3)).block,(ad283.add ((x5_1).toNat*3)).off+2,none⟩=some (.slice A283_2 ((rd_T62 l1 x5_1).f2).length c283_2)) (ds:=[]) #[false,false,false,false,false,false,false,false,false,false] (by kernel_rfl) rfl rfl ⟨((HB.out.cell (World.block_lt_of_cell? w _ hw282_0)).trans hw282_0),((HB.out.cell (World.block_lt_of_cell? w _ hw282_1)).trans hw282_1),((HB.out.cell (World.block_lt_of_cell? w _ hw282_2)).trans hw282_2),((HB.out.cell (World.block_lt_of_cell? w _ hw283_0)).trans hw283_0),((HB.out.cell (World.block_lt_of_cell? w _ hw283_1)).trans hw283_1),((HB.out.cell (World.block_lt_of_cell? w _ hw283_2)).trans hw283_2)⟩ (fun hHeld=>?_);refine with_tabW laws_eqRecS.tab6 laws_eqRecS.bits6 (fun HT_ HW_=>?_)
        generalize wr.drew=w9 at HB HR282_2 HR283_2 hx282_0 hx282_1 hx282_2 hx283_0 hx283_1 hx283_2 hHeld ⊢
        refine pure_ (i:=0) (N:=some 17) (v:=?_) (a':=?_) #[true,false,false,false,false,false,false,false,false,false] rfl rfl (qas HT_.out (by kernel_rfl)) (fun _ _ _ h=>h) (Or.inl ⟨by rfl,?_⟩) ?_ ?_
        rotate_left
        ·intro w'
         go_simp
         with_reducible rfl
        rotate_left
        ·simp only[Act.put,List.setIfInBounds_toArray,List.set_cons_zero,List.set_cons_succ,qao,qap]
         rfl
        refine pure_ (i:=1) (N:=some 18) (v:=?_) (a':=?_) #[true,true,false,false,false,false,false,false,false,false] rfl rfl (qas HT_.out (by kernel_rfl)) (fun _ _ _ h=>h) (Or.inl ⟨by rfl,?_⟩) ?_ ?_
        rotate_left
        ·intro w'
         go_simp
         with_reducible rfl
        rotate_left
        ·simp only[Act.put,List.setIfInBounds_toArray,List.set_cons_zero,List.set_cons_succ,qao,qap]
         rfl
        refine pure_ (i:=2) (N:=some 19) (v:=?_) (a':=?_) #[true,true,true,false,false,false,false,false,false,false] rfl rfl (qas HT_.out (by kernel_rfl)) (fun _ _ _ h=>h) (Or.inl ⟨by rfl,?_⟩) ?_ ?_
        rotate_left
        ·intro w'
         go_simp
         with_reducible rfl
        rotate_left
        ·simp only[Act.put,List.setIfInBounds_toArray,List.set_cons_zero,List.set_cons_succ,qao,qap]
         rfl
        refine pure_ (i:=4) (N:=some 21) (v:=?_) (a':=?_) #[true,true,true,false,true,false,false,false,false,false] rfl rfl (qas HT_.out (by kernel_rfl)) (fun _ _ _ h=>h) (Or.inl ⟨by rfl,?_⟩) ?_ ?_
        rotate_left
        ·intro w'
         go_simp
         with_reducible rfl
        rotate_left
        ·simp only[Act.put,List.setIfInBounds_toArray,List.set_cons_zero,List.set_cons_succ,qao,qap]
         rfl
        refine pure_ (i:=5) (N:=some 22) (v:=?_) (a':=?_) #[true,true,true,false,true,true,false,false,false,false] rfl rfl (qas HT_.out (by kernel_rfl)) (fun _ _ _ h=>h) (Or.inl ⟨by rfl,?_⟩) ?_ ?_
        rotate_left
        ·intro w'
         go_simp
         with_reducible rfl
        rotate_left
        ·simp only[Act.put,List.setIfInBounds_toArray,List.set_cons_zero,List.set_cons_succ,qao,qap]
         rfl
        refine pure_ (i:=6) (N:=some 23) (v:=?_) (a':=?_) #[true,true,true,false,true,true,true,false,false,false] rfl rfl (qas HT_.out (by kernel_rfl)) (fun _ _ _ h=>h) (Or.inl ⟨by rfl,?_⟩) ?_ ?_
        rotate_left
        ·intro w'
         go_simp
         with_reducible rfl
        rotate_left
        ·simp only[Act.put,List.setIfInBounds_toArray,List.set_cons_zero,List.set_cons_succ,qao,qap]
         rfl
        refine take_ (i:=3) (N:=some 20) (v:=?_) (a':=?_) #[true,true,true,true,true,true,true,false,false,false] rfl rfl (take_ofW HT_.out HW_.out (by kernel_rfl)) (fun _ _ _ h=>h) (Or.inl ⟨by rfl,?_⟩) hHeld ?_ ?_
        rotate_left
        ·rintro w' ⟨s0,s1,s2,s3,s4,s5⟩
         go_simp
         with_reducible rfl
        rotate_left
        ·simp only[Act.put,List.setIfInBounds_toArray,List.set_cons_zero,List.set_cons_succ,qao,qap]
         rfl
        refine take_ (i:=7) (N:=some 24) (v:=?_) (a':=?_) #[true,true,true,true,true,true,true,true,false,false] rfl rfl (take_ofW HT_.out HW_.out (by kernel_rfl)) (fun _ _ _ h=>h) (Or.inl ⟨by rfl,?_⟩) hHeld ?_ ?_
        rotate_left
        ·rintro w' ⟨s0,s1,s2,s3,s4,s5⟩
         go_simp
         with_reducible rfl
        rotate_left
        ·simp only[Act.put,List.setIfInBounds_toArray,List.set_cons_zero,List.set_cons_succ,qao,qap]
         rfl
        refine one_ (i:=8) (N:=some 25) #[true,true,true,true,true,true,true,true,true,false] rfl rfl (one_of HT_.out (by kernel_rfl)) (by decide) (fun K hK=>?_)
        refine goes_ Try.func56 (by kernel_rfl) rfl #[.agg #[.int .i64 ((rd_T62 l0 x5_1).f0),.int .i64 ((rd_T62 l0 x5_1).f1),.slice A282_2 ((rd_T62 l0 x5_1).f2).length c282_2],.agg #[.int .i64 ((rd_T62 l1 x5_1).f0),.int .i64 ((rd_T62 l1 x5_1).f1),.slice A283_2 ((rd_T62 l1 x5_1).f2).length c283_2]] (by rfl) rfl rfl (by(try simp only[List.map_toArray,List.map_cons,List.map_nil]);first|done|rfl|(simp only[List.length_drop,List.length_take];rfl)) ?_
        with_reducible refine(laws_eqRec.calls k1 ((rd_T62 l0 x5_1).f0) ((rd_T62 l0 x5_1).f1) _ _ ((rd_T62 l0 x5_1).f2) ((rd_T62 l1 x5_1).f0) ((rd_T62 l1 x5_1).f1) _ _ ((rd_T62 l1 x5_1).f2) true _ ?side1 ?side2 ?side3 ?side4 A7.out).mono ?_
        (case side1=>repeat(first|exact(Kd.C_below HR282_2.out HB.out)|(with_reducible refine Kd.C_alloc ?_ _)|(with_reducible refine Kd.C_drewN ?_ _)|(with_reducible refine Kd.C_drew ?_)))
        (case side2=>exact HC282_2.out)
        (case side3=>repeat(first|exact(Kd.C_below HR283_2.out HB.out)|(with_reducible refine Kd.C_alloc ?_ _)|(with_reducible refine Kd.C_drewN ?_ _)|(with_reducible refine Kd.C_drew ?_)))
        (case side4=>exact HC283_2.out)
        rintro e w10 ⟨rfl,hb⟩
        refine⟨_,rfl,?_⟩
        have n0_:=qam.mk (qad (za2 HB) hb)
        clear HB
        have HB:=n0_
        clear n0_
        (try clear hb)
        (try clear hb2)
        (try clear hk)
        (try clear hi)
        refine hK.out _ _ ⟨((HB.out.cell (World.block_lt_of_cell? w _ hw282_0)).trans hw282_0),((HB.out.cell (World.block_lt_of_cell? w _ hw282_1)).trans hw282_1),((HB.out.cell (World.block_lt_of_cell? w _ hw282_2)).trans hw282_2),((HB.out.cell (World.block_lt_of_cell? w _ hw283_0)).trans hw283_0),((HB.out.cell (World.block_lt_of_cell? w _ hw283_1)).trans hw283_1),((HB.out.cell (World.block_lt_of_cell? w _ hw283_2)).trans hw283_2)⟩ (fun hHeld=>?_)
        clear hK K
        refine norm_ (a':=?_) ?_ ?_
        rotate_left
        ·show Act.put _ (some 25) _=_
         simp only[Act.put,List.setIfInBounds_toArray,List.set_cons_zero,List.set_cons_succ,qao,qap]
         rfl
        refine pure_ (i:=9) (N:=some 26) (v:=?_) (a':=?_) #[true,true,true,true,true,true,true,true,true,true] rfl rfl (qas HT_.out (by kernel_rfl)) (fun _ _ _ h=>h) (Or.inl ⟨by rfl,?_⟩) ?_ ?_
        rotate_left
        ·intro w'
         go_simp
         with_reducible rfl
        rotate_left
        ·simp only[Act.put,List.setIfInBounds_toArray,List.set_cons_zero,List.set_cons_succ,qao,qap]
         rfl
        refine done_ (done_of HT_.out (by kernel_rfl)) ?_
        try go_wp2
        go_roundg k1
        case measure=>have:=HK1.out;omega
        case rel=>exact⟨(wrap64 (x5_1+1)),(za11),H',⟨by have:=HK1.out;omega⟩,⟨za2 HB⟩⟩
       ·replace c8:=Bool.eq_false_iff.mpr c8
        subst c8
        have H1:(some false)=some r:=by rw[if_neg (show ¬(false=true) by decide)] at H;exact H
        clear H
        have H:=H1
        clear H1
        obtain rfl:=Option.some.inj H
        try go_wp2
        have n0_:=qam.mk (below_drew1 HB.out)
        clear HB
        have HB:=n0_
        clear n0_
        have p282:0≤(x5_1:Int):=of_decide_eq_true (za6)
        have q282:x5_1<(l0.length:Int):=of_decide_eq_true (za6)
        obtain⟨ad282,A282_2,c282_2,e282,hx282_0,hx282_1,hx282_2,hl282_2,hi282_2⟩:=at_T62 HR0.out x5_1 p282 q282
        have hw282_2:=hx282_2
        have hw282_1:=hx282_1
        have hw282_0:=hx282_0
        cases e282
        have hxo282_2:=qam.mk hx282_2
        replace hx282_0:=(HB.out.cell (World.block_lt_of_cell? w _ hx282_0)).trans hx282_0
        replace hx282_1:=(HB.out.cell (World.block_lt_of_cell? w _ hx282_1)).trans hx282_1
        replace hx282_2:=(HB.out.cell (World.block_lt_of_cell? w _ hx282_2)).trans hx282_2
        have HR282_2:=qam.mk hi282_2
        have HC282_2:=qam.mk hl282_2
        clear hi282_2 hl282_2
        replace p282:=eq_true p282
        replace q282:=eq_true q282
        have p283:0≤(x5_1:Int):=of_decide_eq_true (za6)
        have q283:x5_1<(l1.length:Int):=of_decide_eq_true (za6)
        obtain⟨ad283,A283_2,c283_2,e283,hx283_0,hx283_1,hx283_2,hl283_2,hi283_2⟩:=at_T62 HR1.out x5_1 p283 q283
        have hw283_2:=hx283_2
        have hw283_1:=hx283_1
        have hw283_0:=hx283_0
        cases e283
        have hxo283_2:=qam.mk hx283_2
        replace hx283_0:=(HB.out.cell (World.block_lt_of_cell? w _ hx283_0)).trans hx283_0
        replace hx283_1:=(HB.out.cell (World.block_lt_of_cell? w _ hx283_1)).trans hx283_1
        replace hx283_2:=(HB.out.cell (World.block_lt_of_cell? w _ hx283_2)).trans hx283_2
        have HR283_2:=qam.mk hi283_2
        have HC283_2:=qam.mk hl283_2
        clear hi283_2 hl283_2
        replace p283:=eq_true p283
        replace q283:=eq_true q283
        refine start_ (n:=10) (S:=fun w'=>w'.cell? (ad282.add ((x5_1).toNat*3))=some (.int .i64 ((rd_T62 l0 x5_1).f0))∧w'.cell? ⟨(ad282.add ((x5_1).toNat*3)).block,(ad282.add ((x5_1).toNat*3)).off+1,none⟩=some (.int .i64 ((rd_T62 l0 x5_1).f1))∧w'.cell? ⟨(ad282.add ((x5_1).toNat*3)).block,(ad282.add ((x5_1).toNat*3)).off+2,none⟩=some (.slice A282_2 ((rd_T62 l0 x5_1).f2).length c282_2)∧w'.cell? (ad283.add ((x5_1).toNat*3))=some (.int .i64 ((rd_T62 l1 x5_1).f0))∧w'.cell? ⟨(ad283.add ((x5_1).toNat*3)).block,(ad283.add ((x5_1).toNat*3)).off+1,none⟩=some (.int .i64 ((rd_T62 l1 x5_1).f1))∧w'.cell? ⟨(ad283.add ((x5_1).toNat*3)).block,(ad283.add ((x5_1).toNat*3)).off+2,none⟩=some (.slice A283_2 ((rd_T62 l1 x5_1).f2).length c283_2)) (ds:=[]) #[false,false,false,false,false,false,false,false,false,false] (by kernel_rfl) rfl rfl ⟨((HB.out.cell (World.block_lt_of_cell? w _ hw282_0)).trans hw282_0),((HB.out.cell (World.block_lt_of_cell? w _ hw282_1)).trans hw282_1),((HB.out.cell (World.block_lt_of_cell? w _ hw282_2)).trans hw282_2),((HB.out.cell (World.block_lt_of_cell? w _ hw283_0)).trans hw283_0),((HB.out.cell (World.block_lt_of_cell? w _ hw283_1)).trans hw283_1),((HB.out.cell (World.block_lt_of_cell? w _ hw283_2)).trans hw283_2)⟩ (fun hHeld=>?_);refine with_tabW laws_eqRecS.tab6 laws_eqRecS.bits6 (fun HT_ HW_=>?_)
        generalize wr.drew=w11 at HB HR282_2 HR283_2 hx282_0 hx282_1 hx282_2 hx283_0 hx283_1 hx283_2 hHeld ⊢
        refine pure_ (i:=0) (N:=some 17) (v:=?_) (a':=?_) #[true,false,false,false,false,false,false,false,false,false] rfl rfl (qas HT_.out (by kernel_rfl)) (fun _ _ _ h=>h) (Or.inl ⟨by rfl,?_⟩) ?_ ?_
        rotate_left
        ·intro w'
         go_simp
         with_reducible rfl
        rotate_left
        ·simp only[Act.put,List.setIfInBounds_toArray,List.set_cons_zero,List.set_cons_succ,qao,qap]
         rfl
        refine pure_ (i:=1) (N:=some 18) (v:=?_) (a':=?_) #[true,true,false,false,false,false,false,false,false,false] rfl rfl (qas HT_.out (by kernel_rfl)) (fun _ _ _ h=>h) (Or.inl ⟨by rfl,?_⟩) ?_ ?_
        rotate_left
        ·intro w'
         go_simp
         with_reducible rfl
        rotate_left
        ·simp only[Act.put,List.setIfInBounds_toArray,List.set_cons_zero,List.set_cons_succ,qao,qap]
         rfl
        refine pure_ (i:=2) (N:=some 19) (v:=?_) (a':=?_) #[true,true,true,false,false,false,false,false,false,false] rfl rfl (qas HT_.out (by kernel_rfl)) (fun _ _ _ h=>h) (Or.inl ⟨by rfl,?_⟩) ?_ ?_
        rotate_left
        ·intro w'
         go_simp
         with_reducible rfl
        rotate_left
        ·simp only[Act.put,List.setIfInBounds_toArray,List.set_cons_zero,List.set_cons_succ,qao,qap]
         rfl
        refine pure_ (i:=4) (N:=some 21) (v:=?_) (a':=?_) #[true,true,true,false,true,false,false,false,false,false] rfl rfl (qas HT_.out (by kernel_rfl)) (fun _ _ _ h=>h) (Or.inl ⟨by rfl,?_⟩) ?_ ?_
        rotate_left
        ·intro w'
         go_simp
         with_reducible rfl
        rotate_left
        ·simp only[Act.put,List.setIfInBounds_toArray,List.set_cons_zero,List.set_cons_succ,qao,qap]
         rfl
        refine pure_ (i:=5) (N:=some 22) (v:=?_) (a':=?_) #[true,true,true,false,true,true,false,false,false,false] rfl rfl (qas HT_.out (by kernel_rfl)) (fun _ _ _ h=>h) (Or.inl ⟨by rfl,?_⟩) ?_ ?_
        rotate_left
        ·intro w'
         go_simp
         with_reducible rfl
        rotate_left
        ·simp only[Act.put,List.setIfInBounds_toArray,List.set_cons_zero,List.set_cons_succ,qao,qap]
         rfl
        refine pure_ (i:=6) (N:=some 23) (v:=?_) (a':=?_) #[true,true,true,false,true,true,true,false,false,false] rfl rfl (qas HT_.out (by kernel_rfl)) (fun _ _ _ h=>h) (Or.inl ⟨by rfl,?_⟩) ?_ ?_
        rotate_left
        ·intro w'
         go_simp
         with_reducible rfl
        rotate_left
        ·simp only[Act.put,List.setIfInBounds_toArray,List.set_cons_zero,List.set_cons_succ,qao,qap]
         rfl
        refine take_ (i:=3) (N:=some 20) (v:=?_) (a':=?_) #[true,true,true,true,true,true,true,false,false,false] rfl rfl (take_ofW HT_.out HW_.out (by kernel_rfl)) (fun _ _ _ h=>h) (Or.inl ⟨by rfl,?_⟩) hHeld ?_ ?_
        rotate_left
        ·rintro w' ⟨s0,s1,s2,s3,s4,s5⟩
         go_simp
         with_reducible rfl
        rotate_left
        ·simp only[Act.put,List.setIfInBounds_toArray,List.set_cons_zero,List.set_cons_succ,qao,qap]
         rfl
        refine take_ (i:=7) (N:=some 24) (v:=?_) (a':=?_) #[true,true,true,true,true,true,true,true,false,false] rfl rfl (take_ofW HT_.out HW_.out (by kernel_rfl)) (fun _ _ _ h=>h) (Or.inl ⟨by rfl,?_⟩) hHeld ?_ ?_
        rotate_left
        ·rintro w' ⟨s0,s1,s2,s3,s4,s5⟩
         go_simp
         with_reducible rfl
        rotate_left
        ·simp only[Act.put,List.setIfInBounds_toArray,List.set_cons_zero,List.set_cons_succ,qao,qap]
         rfl
        refine one_ (i:=8) (N:=some 25) #[true,true,true,true,true,true,true,true,true,false] rfl rfl (one_of HT_.out (by kernel_rfl)) (by decide) (fun K hK=>?_)
        refine goes_ Try.func56 (by kernel_rfl) rfl #[.agg #[.int .i64 ((rd_T62 l0 x5_1).f0),.int .i64 ((rd_T62 l0 x5_1).f1),.slice A282_2 ((rd_T62 l0 x5_1).f2).length c282_2],.agg #[.int .i64 ((rd_T62 l1 x5_1).f0),.int .i64 ((rd_T62 l1 x5_1).f1),.slice A283_2 ((rd_T62 l1 x5_1).f2).length c283_2]] (by rfl) rfl rfl (by(try simp only[List.map_toArray,List.map_cons,List.map_nil]);first|done|rfl|(simp only[List.length_drop,List.length_take];rfl)) ?_
        with_reducible refine(laws_eqRec.calls k1 ((rd_T62 l0 x5_1).f0) ((rd_T62 l0 x5_1).f1) _ _ ((rd_T62 l0 x5_1).f2) ((rd_T62 l1 x5_1).f0) ((rd_T62 l1 x5_1).f1) _ _ ((rd_T62 l1 x5_1).f2) false _ ?side1 ?side2 ?side3 ?side4 A7.out).mono ?_
        (case side1=>repeat(first|exact(Kd.C_below HR282_2.out HB.out)|(with_reducible refine Kd.C_alloc ?_ _)|(with_reducible refine Kd.C_drewN ?_ _)|(with_reducible refine Kd.C_drew ?_)))
        (case side2=>exact HC282_2.out)
        (case side3=>repeat(first|exact(Kd.C_below HR283_2.out HB.out)|(with_reducible refine Kd.C_alloc ?_ _)|(with_reducible refine Kd.C_drewN ?_ _)|(with_reducible refine Kd.C_drew ?_)))
        (case side4=>exact HC283_2.out)
        rintro e w12 ⟨rfl,hb⟩
        refine⟨_,rfl,?_⟩
        have n0_:=qam.mk (qad (za2 HB) hb)
        clear HB
        have HB:=n0_
        clear n0_
        (try clear hb)
        (try clear hb2)
        (try clear hk)
        (try clear hi)
        refine hK.out _ _ ⟨((HB.out.cell (World.block_lt_of_cell? w _ hw282_0)).trans hw282_0),((HB.out.cell (World.block_lt_of_cell? w _ hw282_1)).trans hw282_1),((HB.out.cell (World.block_lt_of_cell? w _ hw282_2)).trans hw282_2),((HB.out.cell (World.block_lt_of_cell? w _ hw283_0)).trans hw283_0),((HB.out.cell (World.block_lt_of_cell? w _ hw283_1)).trans hw283_1),((HB.out.cell (World.block_lt_of_cell? w _ hw283_2)).trans hw283_2)⟩ (fun hHeld=>?_)
        clear hK K
        refine norm_ (a':=?_) ?_ ?_
        rotate_left
        ·show Act.put _ (some 25) _=_
         simp only[Act.put,List.setIfInBounds_toArray,List.set_cons_zero,List.set_cons_succ,qao,qap]
         rfl
        refine pure_ (i:=9) (N:=some 26) (v:=?_) (a':=?_) #[true,true,true,true,true,true,true,true,true,true] rfl rfl (qas HT_.out (by kernel_rfl)) (fun _ _ _ h=>h) (Or.inl ⟨by rfl,?_⟩) ?_ ?_
        rotate_left
        ·intro w'
         go_simp
         with_reducible rfl
        rotate_left
        ·simp only[Act.put,List.setIfInBounds_toArray,List.set_cons_zero,List.set_cons_succ,qao,qap]
         rfl
        refine done_ (done_of HT_.out (by kernel_rfl)) ?_
        try go_wp2
        go_ret
        exact⟨za8,za2 HB⟩
      ·rw[if_neg c6] at H
       exact absurd H (by simp)
     ·rw[if_neg c5] at H
      exact absurd H (by simp)
    ·rw[if_neg c4] at H
     have c4b0:decide (x5_1<(l0.length:Int))=false:=decide_eq_false c4
     clear c4
     obtain rfl:=Option.some.inj H
     go_wp2
     go_ret
     exact⟨za8,za2 HB⟩
 ·rw[if_neg c3] at H
  have c3b0:((l0.length:Int) == (l1.length:Int))=false:=beq_eq_false_iff_ne.mpr c3
  have c3b1:((l0.length:Int) != (l1.length:Int))=true:=bne_iff_ne.mpr c3
  have c3b2:(l0.length == l1.length)=false:=by first|simpa using c3|(simp at c3 ⊢;omega)
  obtain rfl:=Option.some.inj H
  go_enter Try.func43,Try.ntmps43
  go_wp2
  go_ret
  exact⟨za8,za2 HB⟩
def laws_eqLog.f (k:Nat) (l0_0:List (S62)) (a0_1:Int) (l1_0:List (S62)) (a1_1:Int):Option (Bool):=(laws_eqRecS.f k l0_0 l1_0).bind fun t287=>(if t287=true then(if a0_1=a1_1 then(some true) else(some false)) else(some false))
theorem laws_eqLog.mono:∀a0 a1 a2 a3 k,LeO (laws_eqLog.f k a0 a1 a2 a3) (laws_eqLog.f (k+1) a0 a1 a2 a3):=by
 intro a0 a1 a2 a3 k
 unfold laws_eqLog.f
 repeat' first
   |(with_reducible exact laws_eqRecS.mono _ _ _)
   |(with_reducible exact LeO.refl _)
   |(with_reducible exact LeO.none _)
   |(with_reducible refine LeO.ite ?_ ?_)
   |(with_reducible refine LeO.bind ?_ (fun _=>?_))
   |exact laws_eqRecS.mono _ _ _
   |exact LeO.none _
   |refine LeO.ite ?_ ?_
   |refine LeO.bind ?_ (fun _=>?_)
set_option maxHeartbeats 8000000 in
set_option maxRecDepth 100000 in
theorem laws_eqLog.calls (k:Nat) (A0_0:Option Addr) (c0_0:Nat) (l0_0:List (S62)) (a0_1:Int) (A1_0:Option Addr) (c1_0:Nat) (l1_0:List (S62)) (a1_1:Int) (r:Bool) (w:World) (hr0_0:Kd.C k62 w A0_0 l0_0.length l0_0) (hc0_0:l0_0.length≤c0_0) (hr1_0:Kd.C k62 w A1_0 l1_0.length l1_0) (hc1_0:l1_0.length≤c1_0) (h:laws_eqLog.f k l0_0 a0_1 l1_0 a1_1=some r) :
  Calls Try.prog 24 #[.agg #[.slice A0_0 l0_0.length c0_0,.int .i64 a0_1],.agg #[.slice A1_0 l1_0.length c1_0,.int .i64 a1_1]] w fun e w'=>e=.returned (.bool r)∧Below w.heap.size w w':=by
 have hu31:=Try.underlying31
 have HR0_0:=qam.mk hr0_0
 have HC0_0:=qam.mk hc0_0
 clear hr0_0 hc0_0
 have HR1_0:=qam.mk hr1_0
 have HC1_0:=qam.mk hc1_0
 clear hr1_0 hc1_0
 have HB:=qam.mk (Below.refl w.heap.size w)
 have H:((laws_eqRecS.f k l0_0 l1_0).bind fun t287=>(if t287=true then(if a0_1=a1_1 then(some true) else(some false)) else(some false)))=some r:=h
 clear h
 replace H:=Option.bind_eq_some_iff.mp H
 obtain⟨t287,A30,H⟩:=H
 replace H:(if t287=true then(if a0_1=a1_1 then(some true) else(some false)) else(some false))=some r:=H
 have A3:=qam.mk A30
 clear A30
 by_cases c4:t287=true
 ·subst c4
  have H1:(if a0_1=a1_1 then(some true) else(some false))=some r:=by rw[if_pos rfl] at H;exact H
  clear H
  have H:=H1
  clear H1
  by_cases c5:a0_1=a1_1
  ·rw[if_pos c5] at H
   have c5b0:(a0_1 == a1_1)=true:=beq_iff_eq.mpr c5
   have c5b1:(a0_1 != a1_1)=false:=bne_eq_false_iff_eq.mpr c5
   clear c5
   obtain rfl:=Option.some.inj H
   go_enter Try.func24,Try.ntmps24
   go_wp2_with(first|((with_reducible refine qak (N:=2) rfl ?_);refine qai ?hg (N:=2) ?hd (cs:=#[.slice A0_0 l0_0.length c0_0,.int .i64 a0_1]) (t:=31) ?hr ?_;(case hd=>rfl);(case hg=>rfl);(case hr=>first|(go_simp;done)|(go_simp;rfl));intro gb285 hg w6 hbox hb;have n0_:=qam.mk (qad (za2 HB) hb);have n1_:=qam.mk (hbox);have n2_:=qam.mk ((by rw[hg];exact(qac (za2 HB)):w.heap.size≤gb285));have n3_:=qam.mk ((by rw[hg];exact(qac (za2 HB)):w.heap.size≤gb285));clear HB;have HB:=n0_;have BK285:=n1_;have GW285:=n2_;have GE285:=n3_;clear n0_ n1_ n2_ n3_;clear hb hbox hg)|((with_reducible refine qak (N:=3) rfl ?_);refine qai ?hg (N:=3) ?hd (cs:=#[.slice A1_0 l1_0.length c1_0,.int .i64 a1_1]) (t:=31) ?hr ?_;(case hd=>rfl);(case hg=>rfl);(case hr=>first|(go_simp;done)|(go_simp;rfl));intro gb286 hg w7 hbox hb;have n0_:=qam.mk (qae (g:=gb285) (o:=.cells #[.slice A0_0 l0_0.length c0_0,.int .i64 a0_1] 31 (0,0)) (za0 BK285) hb);have n1_:=qam.mk (qad (za1 HB GE285) hb);have n2_:=qam.mk (hbox);have n3_:=qam.mk ((by rw[hg];exact(qac (za1 HB GE285)):w.heap.size≤gb286));have n4_:=qam.mk ((by rw[hg];exact(qac (za1 HB GE285)):w.heap.size≤gb286));have n5_:=qam.mk ((by rw[hg];exact Nat.ne_of_lt (qal (g:=gb285) (o:=.cells #[.slice A0_0 l0_0.length c0_0,.int .i64 a0_1] 31 (0,0)) (za0 BK285)):gb285≠gb286));have n6_:=qam.mk ((by rw[hg];exact Nat.ne_of_gt (qal (g:=gb285) (o:=.cells #[.slice A0_0 l0_0.length c0_0,.int .i64 a0_1] 31 (0,0)) (za0 BK285)):gb286≠gb285));clear BK285;clear HB;have BK285:=n0_;have HB:=n1_;have BK286:=n2_;have GW286:=n3_;have GE286:=n4_;have NB285_286:=n5_;have NB286_285:=n6_;clear n0_ n1_ n2_ n3_ n4_ n5_ n6_;clear hb hbox hg;have hnb8:=NB285_286.out;have hnc8:=NB286_285.out;have hcz9_0:w7.cell? ⟨gb285,0,none⟩=some (.slice A0_0 l0_0.length c0_0):=(qab BK285.out 0).trans rfl;have hcz9_1:w7.cell? ⟨gb285,1,none⟩=some (.int .i64 a0_1):=(qab BK285.out 1).trans rfl;have hfz9_0:=qaa BK285.out 0;have hfz9_1:=qaa BK285.out 1;have hcz10_0:w7.cell? ⟨gb286,0,none⟩=some (.slice A1_0 l1_0.length c1_0):=(qab BK286.out 0).trans rfl;have hcz10_1:w7.cell? ⟨gb286,1,none⟩=some (.int .i64 a1_1):=(qab BK286.out 1).trans rfl;have hfz10_0:=qaa BK286.out 0;have hfz10_1:=qaa BK286.out 1)|((with_reducible refine qaj (f:=43) rfl ?_);refine goesL_ (some 9) rfl rfl Try.func43 (by kernel_rfl) rfl #[.slice A0_0 l0_0.length c0_0,.slice A1_0 l1_0.length c1_0] rfl (by(try simp only[List.map_toArray,List.map_cons,List.map_nil]);first|done|rfl|(simp only[List.length_drop,List.length_take];rfl)) ?_;(with_reducible refine(laws_eqRecS.calls k _ _ l0_0 _ _ l1_0 true _ ?side1 ?side2 ?side3 ?side4 A3.out).mono ?_);(case side1=>repeat(first|exact(Kd.C_below HR0_0.out HB.out)|(with_reducible refine Kd.C_alloc ?_ _)|(with_reducible refine Kd.C_drewN ?_ _)|(with_reducible refine Kd.C_drew ?_)));(case side2=>exact HC0_0.out);(case side3=>repeat(first|exact(Kd.C_below HR1_0.out HB.out)|(with_reducible refine Kd.C_alloc ?_ _)|(with_reducible refine Kd.C_drewN ?_ _)|(with_reducible refine Kd.C_drew ?_)));(case side4=>exact HC1_0.out);rintro e w11 ⟨rfl,hb⟩;refine⟨_,rfl,?_⟩;have n0_:=qam.mk (qae (g:=gb285) (o:=.cells #[.slice A0_0 l0_0.length c0_0,.int .i64 a0_1] 31 (0,0)) (za0 BK285) hb);have n1_:=qam.mk (qae (g:=gb286) (o:=.cells #[.slice A1_0 l1_0.length c1_0,.int .i64 a1_1] 31 (0,0)) (za0 BK286) hb);have n2_:=qam.mk (qad (za3 HB GE285 GE286) hb);clear BK285;clear BK286;clear HB;have BK285:=n0_;have BK286:=n1_;have HB:=n2_;clear n0_ n1_ n2_;(try clear hb);(try clear hb2);(try clear hk);(try clear hi);have hcz12_0:w11.cell? ⟨gb285,0,none⟩=some (.slice A0_0 l0_0.length c0_0):=(qab BK285.out 0).trans rfl;have hcz12_1:w11.cell? ⟨gb285,1,none⟩=some (.int .i64 a0_1):=(qab BK285.out 1).trans rfl;have hfz12_0:=qaa BK285.out 0;have hfz12_1:=qaa BK285.out 1;have hcz13_0:w11.cell? ⟨gb286,0,none⟩=some (.slice A1_0 l1_0.length c1_0):=(qab BK286.out 0).trans rfl;have hcz13_1:w11.cell? ⟨gb286,1,none⟩=some (.int .i64 a1_1):=(qab BK286.out 1).trans rfl;have hfz13_0:=qaa BK286.out 0;have hfz13_1:=qaa BK286.out 1))
   go_ret
   exact⟨za8,za3 HB GE285 GE286⟩
  ·rw[if_neg c5] at H
   have c5b0:(a0_1 == a1_1)=false:=beq_eq_false_iff_ne.mpr c5
   have c5b1:(a0_1 != a1_1)=true:=bne_iff_ne.mpr c5
   obtain rfl:=Option.some.inj H
   go_enter Try.func24,Try.ntmps24
   go_wp2_with(first|((with_reducible refine qak (N:=2) rfl ?_);refine qai ?hg (N:=2) ?hd (cs:=#[.slice A0_0 l0_0.length c0_0,.int .i64 a0_1]) (t:=31) ?hr ?_;(case hd=>rfl);(case hg=>rfl);(case hr=>first|(go_simp;done)|(go_simp;rfl));intro gb285 hg w14 hbox hb;have n0_:=qam.mk (qad (za2 HB) hb);have n1_:=qam.mk (hbox);have n2_:=qam.mk ((by rw[hg];exact(qac (za2 HB)):w.heap.size≤gb285));have n3_:=qam.mk ((by rw[hg];exact(qac (za2 HB)):w.heap.size≤gb285));clear HB;have HB:=n0_;have BK285:=n1_;have GW285:=n2_;have GE285:=n3_;clear n0_ n1_ n2_ n3_;clear hb hbox hg)|((with_reducible refine qak (N:=3) rfl ?_);refine qai ?hg (N:=3) ?hd (cs:=#[.slice A1_0 l1_0.length c1_0,.int .i64 a1_1]) (t:=31) ?hr ?_;(case hd=>rfl);(case hg=>rfl);(case hr=>first|(go_simp;done)|(go_simp;rfl));intro gb286 hg w15 hbox hb;have n0_:=qam.mk (qae (g:=gb285) (o:=.cells #[.slice A0_0 l0_0.length c0_0,.int .i64 a0_1] 31 (0,0)) (za0 BK285) hb);have n1_:=qam.mk (qad (za1 HB GE285) hb);have n2_:=qam.mk (hbox);have n3_:=qam.mk ((by rw[hg];exact(qac (za1 HB GE285)):w.heap.size≤gb286));have n4_:=qam.mk ((by rw[hg];exact(qac (za1 HB GE285)):w.heap.size≤gb286));have n5_:=qam.mk ((by rw[hg];exact Nat.ne_of_lt (qal (g:=gb285) (o:=.cells #[.slice A0_0 l0_0.length c0_0,.int .i64 a0_1] 31 (0,0)) (za0 BK285)):gb285≠gb286));have n6_:=qam.mk ((by rw[hg];exact Nat.ne_of_gt (qal (g:=gb285) (o:=.cells #[.slice A0_0 l0_0.length c0_0,.int .i64 a0_1] 31 (0,0)) (za0 BK285)):gb286≠gb285));clear BK285;clear HB;have BK285:=n0_;have HB:=n1_;have BK286:=n2_;have GW286:=n3_;have GE286:=n4_;have NB285_286:=n5_;have NB286_285:=n6_;clear n0_ n1_ n2_ n3_ n4_ n5_ n6_;clear hb hbox hg;have hnb16:=NB285_286.out;have hnc16:=NB286_285.out;have hcz17_0:w15.cell? ⟨gb285,0,none⟩=some (.slice A0_0 l0_0.length c0_0):=(qab BK285.out 0).trans rfl;have hcz17_1:w15.cell? ⟨gb285,1,none⟩=some (.int .i64 a0_1):=(qab BK285.out 1).trans rfl;have hfz17_0:=qaa BK285.out 0;have hfz17_1:=qaa BK285.out 1;have hcz18_0:w15.cell? ⟨gb286,0,none⟩=some (.slice A1_0 l1_0.length c1_0):=(qab BK286.out 0).trans rfl;have hcz18_1:w15.cell? ⟨gb286,1,none⟩=some (.int .i64 a1_1):=(qab BK286.out 1).trans rfl;have hfz18_0:=qaa BK286.out 0;have hfz18_1:=qaa BK286.out 1)|((with_reducible refine qaj (f:=43) rfl ?_);refine goesL_ (some 9) rfl rfl Try.func43 (by kernel_rfl) rfl #[.slice A0_0 l0_0.length c0_0,.slice A1_0 l1_0.length c1_0] rfl (by(try simp only[List.map_toArray,List.map_cons,List.map_nil]);first|done|rfl|(simp only[List.length_drop,List.length_take];rfl)) ?_;(with_reducible refine(laws_eqRecS.calls k _ _ l0_0 _ _ l1_0 true _ ?side1 ?side2 ?side3 ?side4 A3.out).mono ?_);(case side1=>repeat(first|exact(Kd.C_below HR0_0.out HB.out)|(with_reducible refine Kd.C_alloc ?_ _)|(with_reducible refine Kd.C_drewN ?_ _)|(with_reducible refine Kd.C_drew ?_)));(case side2=>exact HC0_0.out);(case side3=>repeat(first|exact(Kd.C_below HR1_0.out HB.out)|(with_reducible refine Kd.C_alloc ?_ _)|(with_reducible refine Kd.C_drewN ?_ _)|(with_reducible refine Kd.C_drew ?_)));(case side4=>exact HC1_0.out);rintro e w19 ⟨rfl,hb⟩;refine⟨_,rfl,?_⟩;have n0_:=qam.mk (qae (g:=gb285) (o:=.cells #[.slice A0_0 l0_0.length c0_0,.int .i64 a0_1] 31 (0,0)) (za0 BK285) hb);have n1_:=qam.mk (qae (g:=gb286) (o:=.cells #[.slice A1_0 l1_0.length c1_0,.int .i64 a1_1] 31 (0,0)) (za0 BK286) hb);have n2_:=qam.mk (qad (za3 HB GE285 GE286) hb);clear BK285;clear BK286;clear HB;have BK285:=n0_;have BK286:=n1_;have HB:=n2_;clear n0_ n1_ n2_;(try clear hb);(try clear hb2);(try clear hk);(try clear hi);have hcz20_0:w19.cell? ⟨gb285,0,none⟩=some (.slice A0_0 l0_0.length c0_0):=(qab BK285.out 0).trans rfl;have hcz20_1:w19.cell? ⟨gb285,1,none⟩=some (.int .i64 a0_1):=(qab BK285.out 1).trans rfl;have hfz20_0:=qaa BK285.out 0;have hfz20_1:=qaa BK285.out 1;have hcz21_0:w19.cell? ⟨gb286,0,none⟩=some (.slice A1_0 l1_0.length c1_0):=(qab BK286.out 0).trans rfl;have hcz21_1:w19.cell? ⟨gb286,1,none⟩=some (.int .i64 a1_1):=(qab BK286.out 1).trans rfl;have hfz21_0:=qaa BK286.out 0;have hfz21_1:=qaa BK286.out 1))
   go_ret
   exact⟨za8,za3 HB GE285 GE286⟩
 ·replace c4:=Bool.eq_false_iff.mpr c4
  subst c4
  have H1:(some false)=some r:=by rw[if_neg (show ¬(false=true) by decide)] at H;exact H
  clear H
  have H:=H1
  clear H1
  obtain rfl:=Option.some.inj H
  go_enter Try.func24,Try.ntmps24
  go_wp2_with(first|((with_reducible refine qak (N:=2) rfl ?_);refine qai ?hg (N:=2) ?hd (cs:=#[.slice A0_0 l0_0.length c0_0,.int .i64 a0_1]) (t:=31) ?hr ?_;(case hd=>rfl);(case hg=>rfl);(case hr=>first|(go_simp;done)|(go_simp;rfl));intro gb285 hg w22 hbox hb;have n0_:=qam.mk (qad (za2 HB) hb);have n1_:=qam.mk (hbox);have n2_:=qam.mk ((by rw[hg];exact(qac (za2 HB)):w.heap.size≤gb285));have n3_:=qam.mk ((by rw[hg];exact(qac (za2 HB)):w.heap.size≤gb285));clear HB;have HB:=n0_;have BK285:=n1_;have GW285:=n2_;have GE285:=n3_;clear n0_ n1_ n2_ n3_;clear hb hbox hg)|((with_reducible refine qak (N:=3) rfl ?_);refine qai ?hg (N:=3) ?hd (cs:=#[.slice A1_0 l1_0.length c1_0,.int .i64 a1_1]) (t:=31) ?hr ?_;(case hd=>rfl);(case hg=>rfl);(case hr=>first|(go_simp;done)|(go_simp;rfl));intro gb286 hg w23 hbox hb;have n0_:=qam.mk (qae (g:=gb285) (o:=.cells #[.slice A0_0 l0_0.length c0_0,.int .i64 a0_1] 31 (0,0)) (za0 BK285) hb);have n1_:=qam.mk (qad (za1 HB GE285) hb);have n2_:=qam.mk (hbox);have n3_:=qam.mk ((by rw[hg];exact(qac (za1 HB GE285)):w.heap.size≤gb286));have n4_:=qam.mk ((by rw[hg];exact(qac (za1 HB GE285)):w.heap.size≤gb286));have n5_:=qam.mk ((by rw[hg];exact Nat.ne_of_lt (qal (g:=gb285) (o:=.cells #[.slice A0_0 l0_0.length c0_0,.int .i64 a0_1] 31 (0,0)) (za0 BK285)):gb285≠gb286));have n6_:=qam.mk ((by rw[hg];exact Nat.ne_of_gt (qal (g:=gb285) (o:=.cells #[.slice A0_0 l0_0.length c0_0,.int .i64 a0_1] 31 (0,0)) (za0 BK285)):gb286≠gb285));clear BK285;clear HB;have BK285:=n0_;have HB:=n1_;have BK286:=n2_;have GW286:=n3_;have GE286:=n4_;have NB285_286:=n5_;have NB286_285:=n6_;clear n0_ n1_ n2_ n3_ n4_ n5_ n6_;clear hb hbox hg;have hnb24:=NB285_286.out;have hnc24:=NB286_285.out;have hcz25_0:w23.cell? ⟨gb285,0,none⟩=some (.slice A0_0 l0_0.length c0_0):=(qab BK285.out 0).trans rfl;have hcz25_1:w23.cell? ⟨gb285,1,none⟩=some (.int .i64 a0_1):=(qab BK285.out 1).trans rfl;have hfz25_0:=qaa BK285.out 0;have hfz25_1:=qaa BK285.out 1;have hcz26_0:w23.cell? ⟨gb286,0,none⟩=some (.slice A1_0 l1_0.length c1_0):=(qab BK286.out 0).trans rfl;have hcz26_1:w23.cell? ⟨gb286,1,none⟩=some (.int .i64 a1_1):=(qab BK286.out 1).trans rfl;have hfz26_0:=qaa BK286.out 0;have hfz26_1:=qaa BK286.out 1)|((with_reducible refine qaj (f:=43) rfl ?_);refine goesL_ (some 9) rfl rfl Try.func43 (by kernel_rfl) rfl #[.slice A0_0 l0_0.length c0_0,.slice A1_0 l1_0.length c1_0] rfl (by(try simp only[List.map_toArray,List.map_cons,List.map_nil]);first|done|rfl|(simp only[List.length_drop,List.length_take];rfl)) ?_;(with_reducible refine(laws_eqRecS.calls k _ _ l0_0 _ _ l1_0 false _ ?side1 ?side2 ?side3 ?side4 A3.out).mono ?_);(case side1=>repeat(first|exact(Kd.C_below HR0_0.out HB.out)|(with_reducible refine Kd.C_alloc ?_ _)|(with_reducible refine Kd.C_drewN ?_ _)|(with_reducible refine Kd.C_drew ?_)));(case side2=>exact HC0_0.out);(case side3=>repeat(first|exact(Kd.C_below HR1_0.out HB.out)|(with_reducible refine Kd.C_alloc ?_ _)|(with_reducible refine Kd.C_drewN ?_ _)|(with_reducible refine Kd.C_drew ?_)));(case side4=>exact HC1_0.out);rintro e w27 ⟨rfl,hb⟩;refine⟨_,rfl,?_⟩;have n0_:=qam.mk (qae (g:=gb285) (o:=.cells #[.slice A0_0 l0_0.length c0_0,.int .i64 a0_1] 31 (0,0)) (za0 BK285) hb);have n1_:=qam.mk (qae (g:=gb286) (o:=.cells #[.slice A1_0 l1_0.length c1_0,.int .i64 a1_1] 31 (0,0)) (za0 BK286) hb);have n2_:=qam.mk (qad (za3 HB GE285 GE286) hb);clear BK285;clear BK286;clear HB;have BK285:=n0_;have BK286:=n1_;have HB:=n2_;clear n0_ n1_ n2_;(try clear hb);(try clear hb2);(try clear hk);(try clear hi)))
  go_ret
  exact⟨za8,za3 HB GE285 GE286⟩
end Go.Proofs.Ytbomcadjkcmcgaa.Print
