-- Written by squeeze.py, a program of this session, out of what print.sh and myprint.py had printed: cut to what is used, narrowed. Not trusted, Lean checks it.
import Derived.Test.YtjccnaklodbbfaaZK
import Derived.Test.YtjccnaklodbbfaaZr0
namespace Go.Proofs.Ytjccnaklodbbfaa.Print
open Go.RowKit Go.Proofs.YtjccnaklodbbfaaW.PrintWords Go.Proofs.YtjccnaklodbbfaaW.PrintLast Go.Proofs.YtjccnaklodbbfaaW.PrintMore
attribute [local go_sem] max2_int min2_int max_two min_two max_three min_three max_four min_four
set_option linter.unusedVariables false
set_option linter.unusedSimpArgs false
def laws_eqHoldS.l0:Nat→List (S46)→List (S46)→Int→Option (Bool)
 |0,_,_,_=>none
 |k+1,x0,x1,x5=>if x5<(x0.length:Int) then(if 0≤x5 then(if x5<(x1.length:Int) then((laws_eqHold.f ((rd_T46 x0 x5).f0) ((rd_T46 x0 x5).f1) ((rd_T46 x1 x5).f0) ((rd_T46 x1 x5).f1)).bind fun t616=>(if t616=true then(laws_eqHoldS.l0 k x0 x1 (wrap64 (x5+1))) else(some false))) else(none)) else(none)) else(some true)
def laws_eqHoldS.f (k:Nat) (l0:List (S46)) (l1:List (S46)):Option (Bool):=if(l0.length:Int)=(l1.length:Int) then(laws_eqHoldS.l0 k l0 l1 0) else(some false)
theorem laws_eqHoldS.mono_l:∀k,(∀y0 y1 y2,LeO (laws_eqHoldS.l0 k y0 y1 y2) (laws_eqHoldS.l0 (k+1) y0 y1 y2))
 |0=>fun _ _ _ r h=>by simp[laws_eqHoldS.l0] at h
 |k+1=>by
  have ih0:=laws_eqHoldS.mono_l k
  ·intro y0 y1 y2
   unfold laws_eqHoldS.l0
   repeat' first
   |(with_reducible exact ih0 _ _ _)
   |(with_reducible exact LeO.refl _)
   |(with_reducible exact LeO.none _)
   |(with_reducible refine LeO.ite ?_ ?_)
   |(with_reducible refine LeO.bind ?_ (fun _=>?_))
   |exact ih0 _ _ _
   |exact LeO.none _
   |refine LeO.ite ?_ ?_
   |refine LeO.bind ?_ (fun _=>?_)
theorem laws_eqHoldS.mono:∀a0 a1 k,LeO (laws_eqHoldS.f k a0 a1) (laws_eqHoldS.f (k+1) a0 a1):=by
 intro a0 a1 k
 have ih0:=laws_eqHoldS.mono_l k
 unfold laws_eqHoldS.f
 repeat' first
   |(with_reducible exact ih0 _ _ _)
   |(with_reducible exact LeO.refl _)
   |(with_reducible exact LeO.none _)
   |(with_reducible refine LeO.ite ?_ ?_)
   |(with_reducible refine LeO.bind ?_ (fun _=>?_))
   |exact ih0 _ _ _
   |exact LeO.none _
   |refine LeO.ite ?_ ?_
   |refine LeO.bind ?_ (fun _=>?_)
def laws_eqHoldS.T6:Bool × List (List Nat × List Nat):=(true,[([],[]),([],[]),([0,1],[0,1]),([2],[2]),([],[]),([],[]),([4,5],[4,5]),([6],[6]),([3,7],[3,7]),([8],[8])])
def laws_eqHoldS.B6:List Nat:=[0,0,3,7,0,0,48,112,255,511]
theorem laws_eqHoldS.tab6:rtab .any (opsOf Try.f83 6)=laws_eqHoldS.T6:=by kernel_rfl
theorem laws_eqHoldS.bits6:waitsOk laws_eqHoldS.T6.2 laws_eqHoldS.B6=true:=by kernel_rfl
set_option maxHeartbeats 8000000 in
set_option maxRecDepth 100000 in
theorem laws_eqHoldS.calls (k:Nat) (A0:Option Addr) (c0:Nat) (l0:List (S46)) (A1:Option Addr) (c1:Nat) (l1:List (S46)) (r:Bool) (w:World) (hr0:Kd.C k46 w A0 l0.length l0) (hc0:l0.length≤c0) (hr1:Kd.C k46 w A1 l1.length l1) (hc1:l1.length≤c1) (h:laws_eqHoldS.f k l0 l1=some r) :
  Calls Try.prog 83 #[.slice A0 l0.length c0,.slice A1 l1.length c1] w fun e w'=>e=.returned (.bool r)∧Below w.heap.size w w':=by
 have hu46:=Try.underlying46
 have HR0:=qal.mk hr0
 have HC0:=qal.mk hc0
 clear hr0 hc0
 have HR1:=qal.mk hr1
 have HC1:=qal.mk hc1
 clear hr1 hc1
 have HB:=qal.mk (Below.refl w.heap.size w)
 have H:(if(l0.length:Int)=(l1.length:Int) then(laws_eqHoldS.l0 k l0 l1 0) else(some false))=some r:=h
 clear h
 by_cases c3:(l0.length:Int)=(l1.length:Int)
 ·rw[if_pos c3] at H
  have c3b0:((l0.length:Int) == (l1.length:Int))=true:=beq_iff_eq.mpr c3
  have c3b1:((l0.length:Int) != (l1.length:Int))=false:=bne_eq_false_iff_eq.mpr c3
  have c3b2:(l0.length == l1.length)=true:=by first|simpa using c3|(simp at c3 ⊢;omega)
  clear c3
  have H':=qal.mk H
  clear H
  go_enter Try.func83,Try.ntmps83
  go_wp2
  go_loopg [5] k (fun kq v5 w'=>∃(x5_1:Int),v5=.int .i64 x5_1∧qal (laws_eqHoldS.l0 kq l0 l1 x5_1=some r)∧qal (kq≤k)∧qal (Below w.heap.size w w'))
  case atStart=>exact⟨(0),(za22),H',⟨Nat.le_refl _⟩,⟨za2 HB⟩⟩
  case round=>
   clear H'
   try clear c1
   try clear p2
   try clear c3
   try clear c3b0
   try clear c3b1
   try clear c3b2
   obtain⟨x5_1,rfl,HA,HK1,HB⟩:=hrel
   cases gk with
   |zero=>exact absurd HA.out (by simp[laws_eqHoldS.l0])
   |succ k1=>
    have H:=HA.out
    clear HA
    simp only[laws_eqHoldS.l0] at H
    by_cases c4:x5_1<(l0.length:Int)
    ·rw[if_pos c4] at H
     have c4b0:decide (x5_1<(l0.length:Int))=true:=decide_eq_true c4
     clear c4
     by_cases c5:0≤x5_1
     ·rw[if_pos c5] at H
      have c5b0:decide (0≤x5_1)=true:=decide_eq_true c5
      clear c5
      by_cases c6:x5_1<(l1.length:Int)
      ·rw[if_pos c6] at H
       have c6b0:decide (x5_1<(l1.length:Int))=true:=decide_eq_true c6
       clear c6
       replace H:=Option.bind_eq_some_iff.mp H
       obtain⟨t616,A70,H⟩:=H
       replace H:(if t616=true then(laws_eqHoldS.l0 k1 l0 l1 (wrap64 (x5_1+1))) else(some false))=some r:=H
       have A7:=qal.mk A70
       clear A70
       by_cases c8:t616=true
       ·subst c8
        have H1:(laws_eqHoldS.l0 k1 l0 l1 (wrap64 (x5_1+1)))=some r:=by rw[if_pos rfl] at H;exact H
        clear H
        have H:=H1
        clear H1
        have H':=qal.mk H
        clear H
        try go_wp2
        have n0_:=qal.mk (qaq HB.out)
        clear HB
        have HB:=n0_
        clear n0_
        have p614:0≤(x5_1:Int):=of_decide_eq_true (za8)
        have q614:x5_1<(l0.length:Int):=of_decide_eq_true (za8)
        obtain⟨ad614,e614,hx614_0,hx614_1⟩:=at_T46 HR0.out x5_1 p614 q614
        have hw614_1:=hx614_1
        have hw614_0:=hx614_0
        cases e614
        replace hx614_0:=(HB.out.cell (World.block_lt_of_cell? w _ hx614_0)).trans hx614_0
        replace hx614_1:=(HB.out.cell (World.block_lt_of_cell? w _ hx614_1)).trans hx614_1
        replace p614:=eq_true p614
        replace q614:=eq_true q614
        have p615:0≤(x5_1:Int):=of_decide_eq_true (za8)
        have q615:x5_1<(l1.length:Int):=of_decide_eq_true (za8)
        obtain⟨ad615,e615,hx615_0,hx615_1⟩:=at_T46 HR1.out x5_1 p615 q615
        have hw615_1:=hx615_1
        have hw615_0:=hx615_0
        cases e615
        replace hx615_0:=(HB.out.cell (World.block_lt_of_cell? w _ hx615_0)).trans hx615_0
        replace hx615_1:=(HB.out.cell (World.block_lt_of_cell? w _ hx615_1)).trans hx615_1
        replace p615:=eq_true p615
        replace q615:=eq_true q615
        refine start_ (n:=10) (S:=fun w'=>w'.cell? (ad614.add ((x5_1).toNat*2))=some (.int .i64 ((rd_T46 l0 x5_1).f0))∧w'.cell? ⟨(ad614.add ((x5_1).toNat*2)).block,(ad614.add ((x5_1).toNat*2)).off+1,none⟩=some (.int .i64 ((rd_T46 l0 x5_1).f1))∧w'.cell? (ad615.add ((x5_1).toNat*2))=some (.int .i64 ((rd_T46 l1 x5_1).f0))∧w'.cell? ⟨(ad615.add ((x5_1).toNat*2)).block,(ad615.add ((x5_1).toNat*2)).off+1,none⟩=some (.int .i64 ((rd_T46 l1 x5_1).f1))) (ds:=[]) #[false,false,false,false,false,false,false,false,false,false] (by kernel_rfl) rfl rfl ⟨((HB.out.cell (World.block_lt_of_cell? w _ hw614_0)).trans hw614_0),((HB.out.cell (World.block_lt_of_cell? w _ hw614_1)).trans hw614_1),((HB.out.cell (World.block_lt_of_cell? w _ hw615_0)).trans hw615_0),((HB.out.cell (World.block_lt_of_cell? w _ hw615_1)).trans hw615_1)⟩ (fun hHeld=>?_);refine with_tabW laws_eqHoldS.tab6 laws_eqHoldS.bits6 (fun HT_ HW_=>?_)
        generalize wr.drew=w9 at HB hx614_0 hx614_1 hx615_0 hx615_1 hHeld ⊢
        refine qaz (i:=0) (N:=some 17) (v:=?_) (a':=?_) #[true,false,false,false,false,false,false,false,false,false] rfl rfl (qax HT_.out (by kernel_rfl)) (fun _ _ _ h=>h) (Or.inl ⟨by rfl,?_⟩) ?_ ?_
        rotate_left
        ·intro w'
         go_simp
         with_reducible rfl
        rotate_left
        ·simp only[Act.put,List.setIfInBounds_toArray,List.set_cons_zero,List.set_cons_succ,qas,qat]
         rfl
        refine qaz (i:=1) (N:=some 18) (v:=?_) (a':=?_) #[true,true,false,false,false,false,false,false,false,false] rfl rfl (qax HT_.out (by kernel_rfl)) (fun _ _ _ h=>h) (Or.inl ⟨by rfl,?_⟩) ?_ ?_
        rotate_left
        ·intro w'
         go_simp
         with_reducible rfl
        rotate_left
        ·simp only[Act.put,List.setIfInBounds_toArray,List.set_cons_zero,List.set_cons_succ,qas,qat]
         rfl
        refine qaz (i:=2) (N:=some 19) (v:=?_) (a':=?_) #[true,true,true,false,false,false,false,false,false,false] rfl rfl (qax HT_.out (by kernel_rfl)) (fun _ _ _ h=>h) (Or.inl ⟨by rfl,?_⟩) ?_ ?_
        rotate_left
        ·intro w'
         go_simp
         with_reducible rfl
        rotate_left
        ·simp only[Act.put,List.setIfInBounds_toArray,List.set_cons_zero,List.set_cons_succ,qas,qat]
         rfl
        refine qaz (i:=4) (N:=some 21) (v:=?_) (a':=?_) #[true,true,true,false,true,false,false,false,false,false] rfl rfl (qax HT_.out (by kernel_rfl)) (fun _ _ _ h=>h) (Or.inl ⟨by rfl,?_⟩) ?_ ?_
        rotate_left
        ·intro w'
         go_simp
         with_reducible rfl
        rotate_left
        ·simp only[Act.put,List.setIfInBounds_toArray,List.set_cons_zero,List.set_cons_succ,qas,qat]
         rfl
        refine qaz (i:=5) (N:=some 22) (v:=?_) (a':=?_) #[true,true,true,false,true,true,false,false,false,false] rfl rfl (qax HT_.out (by kernel_rfl)) (fun _ _ _ h=>h) (Or.inl ⟨by rfl,?_⟩) ?_ ?_
        rotate_left
        ·intro w'
         go_simp
         with_reducible rfl
        rotate_left
        ·simp only[Act.put,List.setIfInBounds_toArray,List.set_cons_zero,List.set_cons_succ,qas,qat]
         rfl
        refine qaz (i:=6) (N:=some 23) (v:=?_) (a':=?_) #[true,true,true,false,true,true,true,false,false,false] rfl rfl (qax HT_.out (by kernel_rfl)) (fun _ _ _ h=>h) (Or.inl ⟨by rfl,?_⟩) ?_ ?_
        rotate_left
        ·intro w'
         go_simp
         with_reducible rfl
        rotate_left
        ·simp only[Act.put,List.setIfInBounds_toArray,List.set_cons_zero,List.set_cons_succ,qas,qat]
         rfl
        refine take_ (i:=3) (N:=some 20) (v:=?_) (a':=?_) #[true,true,true,true,true,true,true,false,false,false] rfl rfl (take_ofW HT_.out HW_.out (by kernel_rfl)) (fun _ _ _ h=>h) (Or.inl ⟨by rfl,?_⟩) hHeld ?_ ?_
        rotate_left
        ·rintro w' ⟨s0,s1,s2,s3⟩
         go_simp
         with_reducible rfl
        rotate_left
        ·simp only[Act.put,List.setIfInBounds_toArray,List.set_cons_zero,List.set_cons_succ,qas,qat]
         rfl
        refine take_ (i:=7) (N:=some 24) (v:=?_) (a':=?_) #[true,true,true,true,true,true,true,true,false,false] rfl rfl (take_ofW HT_.out HW_.out (by kernel_rfl)) (fun _ _ _ h=>h) (Or.inl ⟨by rfl,?_⟩) hHeld ?_ ?_
        rotate_left
        ·rintro w' ⟨s0,s1,s2,s3⟩
         go_simp
         with_reducible rfl
        rotate_left
        ·simp only[Act.put,List.setIfInBounds_toArray,List.set_cons_zero,List.set_cons_succ,qas,qat]
         rfl
        refine one_ (i:=8) (N:=some 25) #[true,true,true,true,true,true,true,true,true,false] rfl rfl (one_of HT_.out (by kernel_rfl)) (by decide) (fun K hK=>?_)
        refine goes_ Try.func114 (by kernel_rfl) rfl #[.agg #[.int .i64 ((rd_T46 l0 x5_1).f0),.int .i64 ((rd_T46 l0 x5_1).f1)],.agg #[.int .i64 ((rd_T46 l1 x5_1).f0),.int .i64 ((rd_T46 l1 x5_1).f1)]] (by rfl) rfl rfl (by(try simp only[List.map_toArray,List.map_cons,List.map_nil]);first|done|rfl|(simp only[List.length_drop,List.length_take];rfl)) ?_
        with_reducible refine(laws_eqHold.calls ((rd_T46 l0 x5_1).f0) ((rd_T46 l0 x5_1).f1) ((rd_T46 l1 x5_1).f0) ((rd_T46 l1 x5_1).f1) true _ A7.out).mono ?_
        rintro e w10 ⟨rfl,hb⟩
        refine⟨_,rfl,?_⟩
        have n0_:=qal.mk (qae (za2 HB) hb)
        clear HB
        have HB:=n0_
        clear n0_
        (try clear hb)
        (try clear hb2)
        (try clear hk)
        (try clear hi)
        refine hK.out _ _ ⟨((HB.out.cell (World.block_lt_of_cell? w _ hw614_0)).trans hw614_0),((HB.out.cell (World.block_lt_of_cell? w _ hw614_1)).trans hw614_1),((HB.out.cell (World.block_lt_of_cell? w _ hw615_0)).trans hw615_0),((HB.out.cell (World.block_lt_of_cell? w _ hw615_1)).trans hw615_1)⟩ (fun hHeld=>?_)
        clear hK K
        refine norm_ (a':=?_) ?_ ?_
        rotate_left
        ·show Act.put _ (some 25) _=_
         simp only[Act.put,List.setIfInBounds_toArray,List.set_cons_zero,List.set_cons_succ,qas,qat]
         rfl
        refine qaz (i:=9) (N:=some 26) (v:=?_) (a':=?_) #[true,true,true,true,true,true,true,true,true,true] rfl rfl (qax HT_.out (by kernel_rfl)) (fun _ _ _ h=>h) (Or.inl ⟨by rfl,?_⟩) ?_ ?_
        rotate_left
        ·intro w'
         go_simp
         with_reducible rfl
        rotate_left
        ·simp only[Act.put,List.setIfInBounds_toArray,List.set_cons_zero,List.set_cons_succ,qas,qat]
         rfl
        refine done_ (done_of HT_.out (by kernel_rfl)) ?_
        try go_wp2
        go_roundg k1
        case measure=>have:=HK1.out;omega
        case rel=>exact⟨(wrap64 (x5_1+1)),(za22),H',⟨by have:=HK1.out;omega⟩,⟨za2 HB⟩⟩
       ·replace c8:=Bool.eq_false_iff.mpr c8
        subst c8
        have H1:(some false)=some r:=by rw[if_neg (show ¬(false=true) by decide)] at H;exact H
        clear H
        have H:=H1
        clear H1
        obtain rfl:=Option.some.inj H
        try go_wp2
        have n0_:=qal.mk (qaq HB.out)
        clear HB
        have HB:=n0_
        clear n0_
        have p614:0≤(x5_1:Int):=of_decide_eq_true (za8)
        have q614:x5_1<(l0.length:Int):=of_decide_eq_true (za8)
        obtain⟨ad614,e614,hx614_0,hx614_1⟩:=at_T46 HR0.out x5_1 p614 q614
        have hw614_1:=hx614_1
        have hw614_0:=hx614_0
        cases e614
        replace hx614_0:=(HB.out.cell (World.block_lt_of_cell? w _ hx614_0)).trans hx614_0
        replace hx614_1:=(HB.out.cell (World.block_lt_of_cell? w _ hx614_1)).trans hx614_1
        replace p614:=eq_true p614
        replace q614:=eq_true q614
        have p615:0≤(x5_1:Int):=of_decide_eq_true (za8)
        have q615:x5_1<(l1.length:Int):=of_decide_eq_true (za8)
        obtain⟨ad615,e615,hx615_0,hx615_1⟩:=at_T46 HR1.out x5_1 p615 q615
        have hw615_1:=hx615_1
        have hw615_0:=hx615_0
        cases e615
        replace hx615_0:=(HB.out.cell (World.block_lt_of_cell? w _ hx615_0)).trans hx615_0
        replace hx615_1:=(HB.out.cell (World.block_lt_of_cell? w _ hx615_1)).trans hx615_1
        replace p615:=eq_true p615
        replace q615:=eq_true q615
        refine start_ (n:=10) (S:=fun w'=>w'.cell? (ad614.add ((x5_1).toNat*2))=some (.int .i64 ((rd_T46 l0 x5_1).f0))∧w'.cell? ⟨(ad614.add ((x5_1).toNat*2)).block,(ad614.add ((x5_1).toNat*2)).off+1,none⟩=some (.int .i64 ((rd_T46 l0 x5_1).f1))∧w'.cell? (ad615.add ((x5_1).toNat*2))=some (.int .i64 ((rd_T46 l1 x5_1).f0))∧w'.cell? ⟨(ad615.add ((x5_1).toNat*2)).block,(ad615.add ((x5_1).toNat*2)).off+1,none⟩=some (.int .i64 ((rd_T46 l1 x5_1).f1))) (ds:=[]) #[false,false,false,false,false,false,false,false,false,false] (by kernel_rfl) rfl rfl ⟨((HB.out.cell (World.block_lt_of_cell? w _ hw614_0)).trans hw614_0),((HB.out.cell (World.block_lt_of_cell? w _ hw614_1)).trans hw614_1),((HB.out.cell (World.block_lt_of_cell? w _ hw615_0)).trans hw615_0),((HB.out.cell (World.block_lt_of_cell? w _ hw615_1)).trans hw615_1)⟩ (fun hHeld=>?_);refine with_tabW laws_eqHoldS.tab6 laws_eqHoldS.bits6 (fun HT_ HW_=>?_)
        generalize wr.drew=w11 at HB hx614_0 hx614_1 hx615_0 hx615_1 hHeld ⊢
        refine qaz (i:=0) (N:=some 17) (v:=?_) (a':=?_) #[true,false,false,false,false,false,false,false,false,false] rfl rfl (qax HT_.out (by kernel_rfl)) (fun _ _ _ h=>h) (Or.inl ⟨by rfl,?_⟩) ?_ ?_
        rotate_left
        ·intro w'
         go_simp
         with_reducible rfl
        rotate_left
        ·simp only[Act.put,List.setIfInBounds_toArray,List.set_cons_zero,List.set_cons_succ,qas,qat]
         rfl
        refine qaz (i:=1) (N:=some 18) (v:=?_) (a':=?_) #[true,true,false,false,false,false,false,false,false,false] rfl rfl (qax HT_.out (by kernel_rfl)) (fun _ _ _ h=>h) (Or.inl ⟨by rfl,?_⟩) ?_ ?_
        rotate_left
        ·intro w'
         go_simp
         with_reducible rfl
        rotate_left
        ·simp only[Act.put,List.setIfInBounds_toArray,List.set_cons_zero,List.set_cons_succ,qas,qat]
         rfl
        refine qaz (i:=2) (N:=some 19) (v:=?_) (a':=?_) #[true,true,true,false,false,false,false,false,false,false] rfl rfl (qax HT_.out (by kernel_rfl)) (fun _ _ _ h=>h) (Or.inl ⟨by rfl,?_⟩) ?_ ?_
        rotate_left
        ·intro w'
         go_simp
         with_reducible rfl
        rotate_left
        ·simp only[Act.put,List.setIfInBounds_toArray,List.set_cons_zero,List.set_cons_succ,qas,qat]
         rfl
        refine qaz (i:=4) (N:=some 21) (v:=?_) (a':=?_) #[true,true,true,false,true,false,false,false,false,false] rfl rfl (qax HT_.out (by kernel_rfl)) (fun _ _ _ h=>h) (Or.inl ⟨by rfl,?_⟩) ?_ ?_
        rotate_left
        ·intro w'
         go_simp
         with_reducible rfl
        rotate_left
        ·simp only[Act.put,List.setIfInBounds_toArray,List.set_cons_zero,List.set_cons_succ,qas,qat]
         rfl
        refine qaz (i:=5) (N:=some 22) (v:=?_) (a':=?_) #[true,true,true,false,true,true,false,false,false,false] rfl rfl (qax HT_.out (by kernel_rfl)) (fun _ _ _ h=>h) (Or.inl ⟨by rfl,?_⟩) ?_ ?_
        rotate_left
        ·intro w'
         go_simp
         with_reducible rfl
        rotate_left
        ·simp only[Act.put,List.setIfInBounds_toArray,List.set_cons_zero,List.set_cons_succ,qas,qat]
         rfl
        refine qaz (i:=6) (N:=some 23) (v:=?_) (a':=?_) #[true,true,true,false,true,true,true,false,false,false] rfl rfl (qax HT_.out (by kernel_rfl)) (fun _ _ _ h=>h) (Or.inl ⟨by rfl,?_⟩) ?_ ?_
        rotate_left
        ·intro w'
         go_simp
         with_reducible rfl
        rotate_left
        ·simp only[Act.put,List.setIfInBounds_toArray,List.set_cons_zero,List.set_cons_succ,qas,qat]
         rfl
        refine take_ (i:=3) (N:=some 20) (v:=?_) (a':=?_) #[true,true,true,true,true,true,true,false,false,false] rfl rfl (take_ofW HT_.out HW_.out (by kernel_rfl)) (fun _ _ _ h=>h) (Or.inl ⟨by rfl,?_⟩) hHeld ?_ ?_
        rotate_left
        ·rintro w' ⟨s0,s1,s2,s3⟩
         go_simp
         with_reducible rfl
        rotate_left
        ·simp only[Act.put,List.setIfInBounds_toArray,List.set_cons_zero,List.set_cons_succ,qas,qat]
         rfl
        refine take_ (i:=7) (N:=some 24) (v:=?_) (a':=?_) #[true,true,true,true,true,true,true,true,false,false] rfl rfl (take_ofW HT_.out HW_.out (by kernel_rfl)) (fun _ _ _ h=>h) (Or.inl ⟨by rfl,?_⟩) hHeld ?_ ?_
        rotate_left
        ·rintro w' ⟨s0,s1,s2,s3⟩
         go_simp
         with_reducible rfl
        rotate_left
        ·simp only[Act.put,List.setIfInBounds_toArray,List.set_cons_zero,List.set_cons_succ,qas,qat]
         rfl
        refine one_ (i:=8) (N:=some 25) #[true,true,true,true,true,true,true,true,true,false] rfl rfl (one_of HT_.out (by kernel_rfl)) (by decide) (fun K hK=>?_)
        refine goes_ Try.func114 (by kernel_rfl) rfl #[.agg #[.int .i64 ((rd_T46 l0 x5_1).f0),.int .i64 ((rd_T46 l0 x5_1).f1)],.agg #[.int .i64 ((rd_T46 l1 x5_1).f0),.int .i64 ((rd_T46 l1 x5_1).f1)]] (by rfl) rfl rfl (by(try simp only[List.map_toArray,List.map_cons,List.map_nil]);first|done|rfl|(simp only[List.length_drop,List.length_take];rfl)) ?_
        with_reducible refine(laws_eqHold.calls ((rd_T46 l0 x5_1).f0) ((rd_T46 l0 x5_1).f1) ((rd_T46 l1 x5_1).f0) ((rd_T46 l1 x5_1).f1) false _ A7.out).mono ?_
        rintro e w12 ⟨rfl,hb⟩
        refine⟨_,rfl,?_⟩
        have n0_:=qal.mk (qae (za2 HB) hb)
        clear HB
        have HB:=n0_
        clear n0_
        (try clear hb)
        (try clear hb2)
        (try clear hk)
        (try clear hi)
        refine hK.out _ _ ⟨((HB.out.cell (World.block_lt_of_cell? w _ hw614_0)).trans hw614_0),((HB.out.cell (World.block_lt_of_cell? w _ hw614_1)).trans hw614_1),((HB.out.cell (World.block_lt_of_cell? w _ hw615_0)).trans hw615_0),((HB.out.cell (World.block_lt_of_cell? w _ hw615_1)).trans hw615_1)⟩ (fun hHeld=>?_)
        clear hK K
        refine norm_ (a':=?_) ?_ ?_
        rotate_left
        ·show Act.put _ (some 25) _=_
         simp only[Act.put,List.setIfInBounds_toArray,List.set_cons_zero,List.set_cons_succ,qas,qat]
         rfl
        refine qaz (i:=9) (N:=some 26) (v:=?_) (a':=?_) #[true,true,true,true,true,true,true,true,true,true] rfl rfl (qax HT_.out (by kernel_rfl)) (fun _ _ _ h=>h) (Or.inl ⟨by rfl,?_⟩) ?_ ?_
        rotate_left
        ·intro w'
         go_simp
         with_reducible rfl
        rotate_left
        ·simp only[Act.put,List.setIfInBounds_toArray,List.set_cons_zero,List.set_cons_succ,qas,qat]
         rfl
        refine done_ (done_of HT_.out (by kernel_rfl)) ?_
        try go_wp2
        go_ret
        exact⟨za9,za2 HB⟩
      ·rw[if_neg c6] at H
       exact absurd H (by simp)
     ·rw[if_neg c5] at H
      exact absurd H (by simp)
    ·rw[if_neg c4] at H
     have c4b0:decide (x5_1<(l0.length:Int))=false:=decide_eq_false c4
     clear c4
     obtain rfl:=Option.some.inj H
     go_wp2
     go_ret
     exact⟨za9,za2 HB⟩
 ·rw[if_neg c3] at H
  have c3b0:((l0.length:Int) == (l1.length:Int))=false:=beq_eq_false_iff_ne.mpr c3
  have c3b1:((l0.length:Int) != (l1.length:Int))=true:=bne_iff_ne.mpr c3
  have c3b2:(l0.length == l1.length)=false:=by first|simpa using c3|(simp at c3 ⊢;omega)
  obtain rfl:=Option.some.inj H
  go_enter Try.func83,Try.ntmps83
  go_wp2
  go_ret
  exact⟨za9,za2 HB⟩
def laws_eqStock.f (k:Nat) (a0_0:Int) (l0_1:List (S46)) (a1_0:Int) (l1_1:List (S46)):Option (Bool):=if a0_0=a1_0 then((laws_eqHoldS.f k l0_1 l1_1).bind fun t619=>(if t619=true then(some true) else(some false))) else(some false)
theorem laws_eqStock.mono:∀a0 a1 a2 a3 k,LeO (laws_eqStock.f k a0 a1 a2 a3) (laws_eqStock.f (k+1) a0 a1 a2 a3):=by
 intro a0 a1 a2 a3 k
 unfold laws_eqStock.f
 repeat' first
   |(with_reducible exact laws_eqHoldS.mono _ _ _)
   |(with_reducible exact LeO.refl _)
   |(with_reducible exact LeO.none _)
   |(with_reducible refine LeO.ite ?_ ?_)
   |(with_reducible refine LeO.bind ?_ (fun _=>?_))
   |exact laws_eqHoldS.mono _ _ _
   |exact LeO.none _
   |refine LeO.ite ?_ ?_
   |refine LeO.bind ?_ (fun _=>?_)
set_option maxHeartbeats 8000000 in
set_option maxRecDepth 100000 in
theorem laws_eqStock.calls (k:Nat) (a0_0:Int) (A0_1:Option Addr) (c0_1:Nat) (l0_1:List (S46)) (a1_0:Int) (A1_1:Option Addr) (c1_1:Nat) (l1_1:List (S46)) (r:Bool) (w:World) (hr0_1:Kd.C k46 w A0_1 l0_1.length l0_1) (hc0_1:l0_1.length≤c0_1) (hr1_1:Kd.C k46 w A1_1 l1_1.length l1_1) (hc1_1:l1_1.length≤c1_1) (h:laws_eqStock.f k a0_0 l0_1 a1_0 l1_1=some r) :
  Calls Try.prog 41 #[.agg #[.int .i64 a0_0,.slice A0_1 l0_1.length c0_1],.agg #[.int .i64 a1_0,.slice A1_1 l1_1.length c1_1]] w fun e w'=>e=.returned (.bool r)∧Below w.heap.size w w':=by
 have hu36:=Try.underlying36
 have HR0_1:=qal.mk hr0_1
 have HC0_1:=qal.mk hc0_1
 clear hr0_1 hc0_1
 have HR1_1:=qal.mk hr1_1
 have HC1_1:=qal.mk hc1_1
 clear hr1_1 hc1_1
 have HB:=qal.mk (Below.refl w.heap.size w)
 have H:(if a0_0=a1_0 then((laws_eqHoldS.f k l0_1 l1_1).bind fun t619=>(if t619=true then(some true) else(some false))) else(some false))=some r:=h
 clear h
 by_cases c3:a0_0=a1_0
 ·rw[if_pos c3] at H
  have c3b0:(a0_0 == a1_0)=true:=beq_iff_eq.mpr c3
  have c3b1:(a0_0 != a1_0)=false:=bne_eq_false_iff_eq.mpr c3
  clear c3
  replace H:=Option.bind_eq_some_iff.mp H
  obtain⟨t619,A40,H⟩:=H
  replace H:(if t619=true then(some true) else(some false))=some r:=H
  have A4:=qal.mk A40
  clear A40
  by_cases c5:t619=true
  ·subst c5
   have H1:(some true)=some r:=by rw[if_pos rfl] at H;exact H
   clear H
   have H:=H1
   clear H1
   obtain rfl:=Option.some.inj H
   go_enter Try.func41,Try.ntmps41
   go_wp2_with(first|((with_reducible refine qak (N:=2) rfl ?_);refine qaj ?hg (N:=2) ?hd (cs:=#[.int .i64 a0_0,.slice A0_1 l0_1.length c0_1]) (t:=36) ?hr ?_;(case hd=>rfl);(case hg=>rfl);(case hr=>first|(go_simp;done)|(go_simp;rfl));intro gb617 hg w6 hbox hb;have n0_:=qal.mk (qae (za2 HB) hb);have n1_:=qal.mk (hbox);have n2_:=qal.mk ((by rw[hg];exact(qad (za2 HB)):w.heap.size≤gb617));have n3_:=qal.mk ((by rw[hg];exact(qad (za2 HB)):w.heap.size≤gb617));clear HB;have HB:=n0_;have BK617:=n1_;have GW617:=n2_;have GE617:=n3_;clear n0_ n1_ n2_ n3_;clear hb hbox hg)|((with_reducible refine qak (N:=3) rfl ?_);refine qaj ?hg (N:=3) ?hd (cs:=#[.int .i64 a1_0,.slice A1_1 l1_1.length c1_1]) (t:=36) ?hr ?_;(case hd=>rfl);(case hg=>rfl);(case hr=>first|(go_simp;done)|(go_simp;rfl));intro gb618 hg w7 hbox hb;have n0_:=qal.mk (qac (g:=gb617) (o:=.cells #[.int .i64 a0_0,.slice A0_1 l0_1.length c0_1] 36 (0,0)) (za0 BK617) hb);have n1_:=qal.mk (qae (za1 HB GE617) hb);have n2_:=qal.mk (hbox);have n3_:=qal.mk ((by rw[hg];exact(qad (za1 HB GE617)):w.heap.size≤gb618));have n4_:=qal.mk ((by rw[hg];exact(qad (za1 HB GE617)):w.heap.size≤gb618));have n5_:=qal.mk ((by rw[hg];exact Nat.ne_of_lt (qao (g:=gb617) (o:=.cells #[.int .i64 a0_0,.slice A0_1 l0_1.length c0_1] 36 (0,0)) (za0 BK617)):gb617≠gb618));have n6_:=qal.mk ((by rw[hg];exact Nat.ne_of_gt (qao (g:=gb617) (o:=.cells #[.int .i64 a0_0,.slice A0_1 l0_1.length c0_1] 36 (0,0)) (za0 BK617)):gb618≠gb617));clear BK617;clear HB;have BK617:=n0_;have HB:=n1_;have BK618:=n2_;have GW618:=n3_;have GE618:=n4_;have NB617_618:=n5_;have NB618_617:=n6_;clear n0_ n1_ n2_ n3_ n4_ n5_ n6_;clear hb hbox hg;have hnb8:=NB617_618.out;have hnc8:=NB618_617.out;have hcz9_0:w7.cell? ⟨gb617,0,none⟩=some (.int .i64 a0_0):=(qab BK617.out 0).trans rfl;have hcz9_1:w7.cell? ⟨gb617,1,none⟩=some (.slice A0_1 l0_1.length c0_1):=(qab BK617.out 1).trans rfl;have hfz9_0:=qaa BK617.out 0;have hfz9_1:=qaa BK617.out 1;have hcz10_0:w7.cell? ⟨gb618,0,none⟩=some (.int .i64 a1_0):=(qab BK618.out 0).trans rfl;have hcz10_1:w7.cell? ⟨gb618,1,none⟩=some (.slice A1_1 l1_1.length c1_1):=(qab BK618.out 1).trans rfl;have hfz10_0:=qaa BK618.out 0;have hfz10_1:=qaa BK618.out 1)|((with_reducible refine qai (f:=83) rfl ?_);refine qau (some 14) rfl rfl Try.func83 (by kernel_rfl) rfl #[.slice A0_1 l0_1.length c0_1,.slice A1_1 l1_1.length c1_1] rfl (by(try simp only[List.map_toArray,List.map_cons,List.map_nil]);first|done|rfl|(simp only[List.length_drop,List.length_take];rfl)) ?_;(with_reducible refine(laws_eqHoldS.calls k _ _ l0_1 _ _ l1_1 true _ ?side1 ?side2 ?side3 ?side4 A4.out).mono ?_);(case side1=>repeat(first|exact(Kd.C_below HR0_1.out HB.out)|(with_reducible refine Kd.C_alloc ?_ _)|(with_reducible refine Kd.C_drewN ?_ _)|(with_reducible refine Kd.C_drew ?_)));(case side2=>exact HC0_1.out);(case side3=>repeat(first|exact(Kd.C_below HR1_1.out HB.out)|(with_reducible refine Kd.C_alloc ?_ _)|(with_reducible refine Kd.C_drewN ?_ _)|(with_reducible refine Kd.C_drew ?_)));(case side4=>exact HC1_1.out);rintro e w11 ⟨rfl,hb⟩;refine⟨_,rfl,?_⟩;have n0_:=qal.mk (qac (g:=gb617) (o:=.cells #[.int .i64 a0_0,.slice A0_1 l0_1.length c0_1] 36 (0,0)) (za0 BK617) hb);have n1_:=qal.mk (qac (g:=gb618) (o:=.cells #[.int .i64 a1_0,.slice A1_1 l1_1.length c1_1] 36 (0,0)) (za0 BK618) hb);have n2_:=qal.mk (qae (za3 HB GE617 GE618) hb);clear BK617;clear BK618;clear HB;have BK617:=n0_;have BK618:=n1_;have HB:=n2_;clear n0_ n1_ n2_;(try clear hb);(try clear hb2);(try clear hk);(try clear hi)))
   go_ret
   exact⟨za9,za3 HB GE617 GE618⟩
  ·replace c5:=Bool.eq_false_iff.mpr c5
   subst c5
   have H1:(some false)=some r:=by rw[if_neg (show ¬(false=true) by decide)] at H;exact H
   clear H
   have H:=H1
   clear H1
   obtain rfl:=Option.some.inj H
   go_enter Try.func41,Try.ntmps41
   go_wp2_with(first|((with_reducible refine qak (N:=2) rfl ?_);refine qaj ?hg (N:=2) ?hd (cs:=#[.int .i64 a0_0,.slice A0_1 l0_1.length c0_1]) (t:=36) ?hr ?_;(case hd=>rfl);(case hg=>rfl);(case hr=>first|(go_simp;done)|(go_simp;rfl));intro gb617 hg w12 hbox hb;have n0_:=qal.mk (qae (za2 HB) hb);have n1_:=qal.mk (hbox);have n2_:=qal.mk ((by rw[hg];exact(qad (za2 HB)):w.heap.size≤gb617));have n3_:=qal.mk ((by rw[hg];exact(qad (za2 HB)):w.heap.size≤gb617));clear HB;have HB:=n0_;have BK617:=n1_;have GW617:=n2_;have GE617:=n3_;clear n0_ n1_ n2_ n3_;clear hb hbox hg)|((with_reducible refine qak (N:=3) rfl ?_);refine qaj ?hg (N:=3) ?hd (cs:=#[.int .i64 a1_0,.slice A1_1 l1_1.length c1_1]) (t:=36) ?hr ?_;(case hd=>rfl);(case hg=>rfl);(case hr=>first|(go_simp;done)|(go_simp;rfl));intro gb618 hg w13 hbox hb;have n0_:=qal.mk (qac (g:=gb617) (o:=.cells #[.int .i64 a0_0,.slice A0_1 l0_1.length c0_1] 36 (0,0)) (za0 BK617) hb);have n1_:=qal.mk (qae (za1 HB GE617) hb);have n2_:=qal.mk (hbox);have n3_:=qal.mk ((by rw[hg];exact(qad (za1 HB GE617)):w.heap.size≤gb618));have n4_:=qal.mk ((by rw[hg];exact(qad (za1 HB GE617)):w.heap.size≤gb618));have n5_:=qal.mk ((by rw[hg];exact Nat.ne_of_lt (qao (g:=gb617) (o:=.cells #[.int .i64 a0_0,.slice A0_1 l0_1.length c0_1] 36 (0,0)) (za0 BK617)):gb617≠gb618));have n6_:=qal.mk ((by rw[hg];exact Nat.ne_of_gt (qao (g:=gb617) (o:=.cells #[.int .i64 a0_0,.slice A0_1 l0_1.length c0_1] 36 (0,0)) (za0 BK617)):gb618≠gb617));clear BK617;clear HB;have BK617:=n0_;have HB:=n1_;have BK618:=n2_;have GW618:=n3_;have GE618:=n4_;have NB617_618:=n5_;have NB618_617:=n6_;clear n0_ n1_ n2_ n3_ n4_ n5_ n6_;clear hb hbox hg;have hnb14:=NB617_618.out;have hnc14:=NB618_617.out;have hcz15_0:w13.cell? ⟨gb617,0,none⟩=some (.int .i64 a0_0):=(qab BK617.out 0).trans rfl;have hcz15_1:w13.cell? ⟨gb617,1,none⟩=some (.slice A0_1 l0_1.length c0_1):=(qab BK617.out 1).trans rfl;have hfz15_0:=qaa BK617.out 0;have hfz15_1:=qaa BK617.out 1;have hcz16_0:w13.cell? ⟨gb618,0,none⟩=some (.int .i64 a1_0):=(qab BK618.out 0).trans rfl;have hcz16_1:w13.cell? ⟨gb618,1,none⟩=some (.slice A1_1 l1_1.length c1_1):=(qab BK618.out 1).trans rfl;have hfz16_0:=qaa BK618.out 0;have hfz16_1:=qaa BK618.out 1)|((with_reducible refine qai (f:=83) rfl ?_);refine qau (some 14) rfl rfl Try.func83 (by kernel_rfl) rfl #[.slice A0_1 l0_1.length c0_1,.slice A1_1 l1_1.length c1_1] rfl (by(try simp only[List.map_toArray,List.map_cons,List.map_nil]);first|done|rfl|(simp only[List.length_drop,List.length_take];rfl)) ?_;(with_reducible refine(laws_eqHoldS.calls k _ _ l0_1 _ _ l1_1 false _ ?side1 ?side2 ?side3 ?side4 A4.out).mono ?_);(case side1=>repeat(first|exact(Kd.C_below HR0_1.out HB.out)|(with_reducible refine Kd.C_alloc ?_ _)|(with_reducible refine Kd.C_drewN ?_ _)|(with_reducible refine Kd.C_drew ?_)));(case side2=>exact HC0_1.out);(case side3=>repeat(first|exact(Kd.C_below HR1_1.out HB.out)|(with_reducible refine Kd.C_alloc ?_ _)|(with_reducible refine Kd.C_drewN ?_ _)|(with_reducible refine Kd.C_drew ?_)));(case side4=>exact HC1_1.out);rintro e w17 ⟨rfl,hb⟩;refine⟨_,rfl,?_⟩;have n0_:=qal.mk (qac (g:=gb617) (o:=.cells #[.int .i64 a0_0,.slice A0_1 l0_1.length c0_1] 36 (0,0)) (za0 BK617) hb);have n1_:=qal.mk (qac (g:=gb618) (o:=.cells #[.int .i64 a1_0,.slice A1_1 l1_1.length c1_1] 36 (0,0)) (za0 BK618) hb);have n2_:=qal.mk (qae (za3 HB GE617 GE618) hb);clear BK617;clear BK618;clear HB;have BK617:=n0_;have BK618:=n1_;have HB:=n2_;clear n0_ n1_ n2_;(try clear hb);(try clear hb2);(try clear hk);(try clear hi)))
   go_ret
   exact⟨za9,za3 HB GE617 GE618⟩
 ·rw[if_neg c3] at H
  have c3b0:(a0_0 == a1_0)=false:=beq_eq_false_iff_ne.mpr c3
  have c3b1:(a0_0 != a1_0)=true:=bne_iff_ne.mpr c3
  obtain rfl:=Option.some.inj H
  go_enter Try.func41,Try.ntmps41
  go_wp2_with(first|((with_reducible refine qak (N:=2) rfl ?_);refine qaj ?hg (N:=2) ?hd (cs:=#[.int .i64 a0_0,.slice A0_1 l0_1.length c0_1]) (t:=36) ?hr ?_;(case hd=>rfl);(case hg=>rfl);(case hr=>first|(go_simp;done)|(go_simp;rfl));intro gb617 hg w18 hbox hb;have n0_:=qal.mk (qae (za2 HB) hb);have n1_:=qal.mk (hbox);have n2_:=qal.mk ((by rw[hg];exact(qad (za2 HB)):w.heap.size≤gb617));have n3_:=qal.mk ((by rw[hg];exact(qad (za2 HB)):w.heap.size≤gb617));clear HB;have HB:=n0_;have BK617:=n1_;have GW617:=n2_;have GE617:=n3_;clear n0_ n1_ n2_ n3_;clear hb hbox hg)|((with_reducible refine qak (N:=3) rfl ?_);refine qaj ?hg (N:=3) ?hd (cs:=#[.int .i64 a1_0,.slice A1_1 l1_1.length c1_1]) (t:=36) ?hr ?_;(case hd=>rfl);(case hg=>rfl);(case hr=>first|(go_simp;done)|(go_simp;rfl));intro gb618 hg w19 hbox hb;have n0_:=qal.mk (qac (g:=gb617) (o:=.cells #[.int .i64 a0_0,.slice A0_1 l0_1.length c0_1] 36 (0,0)) (za0 BK617) hb);have n1_:=qal.mk (qae (za1 HB GE617) hb);have n2_:=qal.mk (hbox);have n3_:=qal.mk ((by rw[hg];exact(qad (za1 HB GE617)):w.heap.size≤gb618));have n4_:=qal.mk ((by rw[hg];exact(qad (za1 HB GE617)):w.heap.size≤gb618));have n5_:=qal.mk ((by rw[hg];exact Nat.ne_of_lt (qao (g:=gb617) (o:=.cells #[.int .i64 a0_0,.slice A0_1 l0_1.length c0_1] 36 (0,0)) (za0 BK617)):gb617≠gb618));have n6_:=qal.mk ((by rw[hg];exact Nat.ne_of_gt (qao (g:=gb617) (o:=.cells #[.int .i64 a0_0,.slice A0_1 l0_1.length c0_1] 36 (0,0)) (za0 BK617)):gb618≠gb617));clear BK617;clear HB;have BK617:=n0_;have HB:=n1_;have BK618:=n2_;have GW618:=n3_;have GE618:=n4_;have NB617_618:=n5_;have NB618_617:=n6_;clear n0_ n1_ n2_ n3_ n4_ n5_ n6_;clear hb hbox hg;have hnb20:=NB617_618.out;have hnc20:=NB618_617.out;have hcz21_0:w19.cell? ⟨gb617,0,none⟩=some (.int .i64 a0_0):=(qab BK617.out 0).trans rfl;have hcz21_1:w19.cell? ⟨gb617,1,none⟩=some (.slice A0_1 l0_1.length c0_1):=(qab BK617.out 1).trans rfl;have hfz21_0:=qaa BK617.out 0;have hfz21_1:=qaa BK617.out 1;have hcz22_0:w19.cell? ⟨gb618,0,none⟩=some (.int .i64 a1_0):=(qab BK618.out 0).trans rfl;have hcz22_1:w19.cell? ⟨gb618,1,none⟩=some (.slice A1_1 l1_1.length c1_1):=(qab BK618.out 1).trans rfl;have hfz22_0:=qaa BK618.out 0;have hfz22_1:=qaa BK618.out 1))
  go_ret
  exact⟨za9,za3 HB GE617 GE618⟩
end Go.Proofs.Ytjccnaklodbbfaa.Print
