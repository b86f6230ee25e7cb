-- Written by squeeze.py, a program of this session, out of what print.sh and myprint.py had printed: cut to what is used, narrowed. Not trusted, Lean checks it.
import Derived.Test.YtjccnaklodbbfaaZK
import Derived.Test.YtjccnaklodbbfaaZu2
namespace Go.Proofs.Ytjccnaklodbbfaa.Print
open Go.RowKit Go.Proofs.YtjccnaklodbbfaaW.PrintWords Go.Proofs.YtjccnaklodbbfaaW.PrintLast Go.Proofs.YtjccnaklodbbfaaW.PrintMore
attribute [local go_sem] max2_int min2_int max_two min_two max_three min_three max_four min_four
set_option linter.unusedVariables false
set_option linter.unusedSimpArgs false
def laws_eqTripS.l0:Nat→List (S73)→List (S73)→Int→Option (Bool)
 |0,_,_,_=>none
 |k+1,x0,x1,x5=>if x5<(x0.length:Int) then(if 0≤x5 then(if x5<(x1.length:Int) then((laws_eqTrip.f k ((rd_T73 x0 x5).f0) ((rd_T73 x0 x5).f1) ((rd_T73 x1 x5).f0) ((rd_T73 x1 x5).f1)).bind fun t885=>(if t885=true then(laws_eqTripS.l0 k x0 x1 (wrap64 (x5+1))) else(some false))) else(none)) else(none)) else(some true)
def laws_eqTripS.f (k:Nat) (l0:List (S73)) (l1:List (S73)):Option (Bool):=if(l0.length:Int)=(l1.length:Int) then(laws_eqTripS.l0 k l0 l1 0) else(some false)
theorem laws_eqTripS.mono_l:∀k,(∀y0 y1 y2,LeO (laws_eqTripS.l0 k y0 y1 y2) (laws_eqTripS.l0 (k+1) y0 y1 y2))
 |0=>fun _ _ _ r h=>by simp[laws_eqTripS.l0] at h
 |k+1=>by
  have ih0:=laws_eqTripS.mono_l k
  ·intro y0 y1 y2
   unfold laws_eqTripS.l0
   repeat' first
   |(with_reducible exact ih0 _ _ _)
   |(with_reducible exact laws_eqTrip.mono _ _ _ _ _)
   |(with_reducible exact LeO.refl _)
   |(with_reducible exact LeO.none _)
   |(with_reducible refine LeO.ite ?_ ?_)
   |(with_reducible refine LeO.bind ?_ (fun _=>?_))
   |exact ih0 _ _ _
   |exact laws_eqTrip.mono _ _ _ _ _
   |exact LeO.none _
   |refine LeO.ite ?_ ?_
   |refine LeO.bind ?_ (fun _=>?_)
theorem laws_eqTripS.mono:∀a0 a1 k,LeO (laws_eqTripS.f k a0 a1) (laws_eqTripS.f (k+1) a0 a1):=by
 intro a0 a1 k
 have ih0:=laws_eqTripS.mono_l k
 unfold laws_eqTripS.f
 repeat' first
   |(with_reducible exact ih0 _ _ _)
   |(with_reducible exact laws_eqTrip.mono _ _ _ _ _)
   |(with_reducible exact LeO.refl _)
   |(with_reducible exact LeO.none _)
   |(with_reducible refine LeO.ite ?_ ?_)
   |(with_reducible refine LeO.bind ?_ (fun _=>?_))
   |exact ih0 _ _ _
   |exact laws_eqTrip.mono _ _ _ _ _
   |exact LeO.none _
   |refine LeO.ite ?_ ?_
   |refine LeO.bind ?_ (fun _=>?_)
def laws_eqTripS.T6:Bool × List (List Nat × List Nat):=(true,[([],[]),([],[]),([0,1],[0,1]),([2],[2]),([],[]),([],[]),([4,5],[4,5]),([6],[6]),([3,7],[3,7]),([8],[8])])
def laws_eqTripS.B6:List Nat:=[0,0,3,7,0,0,48,112,255,511]
theorem laws_eqTripS.tab6:rtab .any (opsOf Try.f52 6)=laws_eqTripS.T6:=by kernel_rfl
theorem laws_eqTripS.bits6:waitsOk laws_eqTripS.T6.2 laws_eqTripS.B6=true:=by kernel_rfl
set_option maxHeartbeats 8000000 in
set_option maxRecDepth 100000 in
theorem laws_eqTripS.calls (k:Nat) (A0:Option Addr) (c0:Nat) (l0:List (S73)) (A1:Option Addr) (c1:Nat) (l1:List (S73)) (r:Bool) (w:World) (hr0:Kd.C k73 w A0 l0.length l0) (hc0:l0.length≤c0) (hr1:Kd.C k73 w A1 l1.length l1) (hc1:l1.length≤c1) (h:laws_eqTripS.f k l0 l1=some r) :
  Calls Try.prog 52 #[.slice A0 l0.length c0,.slice A1 l1.length c1] w fun e w'=>e=.returned (.bool r)∧Below w.heap.size w w':=by
 have hu73:=Try.underlying73
 have HR0:=qal.mk hr0
 have HC0:=qal.mk hc0
 clear hr0 hc0
 have HR1:=qal.mk hr1
 have HC1:=qal.mk hc1
 clear hr1 hc1
 have HB:=qal.mk (Below.refl w.heap.size w)
 have H:(if(l0.length:Int)=(l1.length:Int) then(laws_eqTripS.l0 k l0 l1 0) else(some false))=some r:=h
 clear h
 by_cases c3:(l0.length:Int)=(l1.length:Int)
 ·rw[if_pos c3] at H
  have c3b0:((l0.length:Int) == (l1.length:Int))=true:=beq_iff_eq.mpr c3
  have c3b1:((l0.length:Int) != (l1.length:Int))=false:=bne_eq_false_iff_eq.mpr c3
  have c3b2:(l0.length == l1.length)=true:=by first|simpa using c3|(simp at c3 ⊢;omega)
  clear c3
  have H':=qal.mk H
  clear H
  go_enter Try.func52,Try.ntmps52
  go_wp2
  go_loopg [5] k (fun kq v5 w'=>∃(x5_1:Int),v5=.int .i64 x5_1∧qal (laws_eqTripS.l0 kq l0 l1 x5_1=some r)∧qal (kq≤k)∧qal (Below w.heap.size w w'))
  case atStart=>exact⟨(0),(za22),H',⟨Nat.le_refl _⟩,⟨za2 HB⟩⟩
  case round=>
   clear H'
   try clear c1
   try clear p2
   try clear c3
   try clear c3b0
   try clear c3b1
   try clear c3b2
   obtain⟨x5_1,rfl,HA,HK1,HB⟩:=hrel
   cases gk with
   |zero=>exact absurd HA.out (by simp[laws_eqTripS.l0])
   |succ k1=>
    have H:=HA.out
    clear HA
    simp only[laws_eqTripS.l0] at H
    by_cases c4:x5_1<(l0.length:Int)
    ·rw[if_pos c4] at H
     have c4b0:decide (x5_1<(l0.length:Int))=true:=decide_eq_true c4
     clear c4
     by_cases c5:0≤x5_1
     ·rw[if_pos c5] at H
      have c5b0:decide (0≤x5_1)=true:=decide_eq_true c5
      clear c5
      by_cases c6:x5_1<(l1.length:Int)
      ·rw[if_pos c6] at H
       have c6b0:decide (x5_1<(l1.length:Int))=true:=decide_eq_true c6
       clear c6
       replace H:=Option.bind_eq_some_iff.mp H
       obtain⟨t885,A70,H⟩:=H
       replace H:(if t885=true then(laws_eqTripS.l0 k1 l0 l1 (wrap64 (x5_1+1))) else(some false))=some r:=H
       have A7:=qal.mk A70
       clear A70
       by_cases c8:t885=true
       ·subst c8
        have H1:(laws_eqTripS.l0 k1 l0 l1 (wrap64 (x5_1+1)))=some r:=by rw[if_pos rfl] at H;exact H
        clear H
        have H:=H1
        clear H1
        have H':=qal.mk H
        clear H
        try go_wp2
        have n0_:=qal.mk (qaq HB.out)
        clear HB
        have HB:=n0_
        clear n0_
        have p883:0≤(x5_1:Int):=of_decide_eq_true (za8)
        have q883:x5_1<(l0.length:Int):=of_decide_eq_true (za8)
        obtain⟨ad883,A883_0,c883_0,e883,hx883_0,hx883_1,hl883_0,hi883_0⟩:=at_T73 HR0.out x5_1 p883 q883
        have hw883_1:=hx883_1
        have hw883_0:=hx883_0
        cases e883
        have hxo883_0:=qal.mk hx883_0
        replace hx883_0:=(HB.out.cell (World.block_lt_of_cell? w _ hx883_0)).trans hx883_0
        replace hx883_1:=(HB.out.cell (World.block_lt_of_cell? w _ hx883_1)).trans hx883_1
        have HR883_0:=qal.mk hi883_0
        have HC883_0:=qal.mk hl883_0
        clear hi883_0 hl883_0
        replace p883:=eq_true p883
        replace q883:=eq_true q883
        have p884:0≤(x5_1:Int):=of_decide_eq_true (za8)
        have q884:x5_1<(l1.length:Int):=of_decide_eq_true (za8)
        obtain⟨ad884,A884_0,c884_0,e884,hx884_0,hx884_1,hl884_0,hi884_0⟩:=at_T73 HR1.out x5_1 p884 q884
        have hw884_1:=hx884_1
        have hw884_0:=hx884_0
        cases e884
        have hxo884_0:=qal.mk hx884_0
        replace hx884_0:=(HB.out.cell (World.block_lt_of_cell? w _ hx884_0)).trans hx884_0
        replace hx884_1:=(HB.out.cell (World.block_lt_of_cell? w _ hx884_1)).trans hx884_1
        have HR884_0:=qal.mk hi884_0
        have HC884_0:=qal.mk hl884_0
        clear hi884_0 hl884_0
        replace p884:=eq_true p884
        replace q884:=eq_true q884
        refine start_ (n:=10) (S:=fun w'=>w'.cell? (ad883.add ((x5_1).toNat*2))=some (.slice A883_0 ((rd_T73 l0 x5_1).f0).length c883_0)∧w'.cell? ⟨(ad883.add ((x5_1).toNat*2)).block,(ad883.add ((x5_1).toNat*2)).off+1,none⟩=some (.int .i64 ((rd_T73 l0 x5_1).f1))∧w'.cell? (ad884.add ((x5_1).toNat*2))=some (.slice A884_0 ((rd_T73 l1 x5_1).f0).length c884_0)∧w'.cell? ⟨(ad884.add ((x5_1).toNat*2)).block,(ad884.add ((x5_1).toNat*2)).off+1,none⟩=some (.int .i64 ((rd_T73 l1 x5_1).f1))) (ds:=[]) #[false,false,false,false,false,false,false,false,false,false] (by kernel_rfl) rfl rfl ⟨((HB.out.cell (World.block_lt_of_cell? w _ hw883_0)).trans hw883_0),((HB.out.cell (World.block_lt_of_cell? w _ hw883_1)).trans hw883_1),((HB.out.cell (World.block_lt_of_cell? w _ hw884_0)).trans hw884_0),((HB.out.cell (World.block_lt_of_cell? w _ hw884_1)).trans hw884_1)⟩ (fun hHeld=>?_);refine with_tabW laws_eqTripS.tab6 laws_eqTripS.bits6 (fun HT_ HW_=>?_)
        generalize wr.drew=w9 at HB HR883_0 HR884_0 hx883_0 hx883_1 hx884_0 hx884_1 hHeld ⊢
        refine qaz (i:=0) (N:=some 17) (v:=?_) (a':=?_) #[true,false,false,false,false,false,false,false,false,false] rfl rfl (qax HT_.out (by kernel_rfl)) (fun _ _ _ h=>h) (Or.inl ⟨by rfl,?_⟩) ?_ ?_
        rotate_left
        ·intro w'
         go_simp
         with_reducible rfl
        rotate_left
        ·simp only[Act.put,List.setIfInBounds_toArray,List.set_cons_zero,List.set_cons_succ,qas,qat]
         rfl
        refine qaz (i:=1) (N:=some 18) (v:=?_) (a':=?_) #[true,true,false,false,false,false,false,false,false,false] rfl rfl (qax HT_.out (by kernel_rfl)) (fun _ _ _ h=>h) (Or.inl ⟨by rfl,?_⟩) ?_ ?_
        rotate_left
        ·intro w'
         go_simp
         with_reducible rfl
        rotate_left
        ·simp only[Act.put,List.setIfInBounds_toArray,List.set_cons_zero,List.set_cons_succ,qas,qat]
         rfl
        refine qaz (i:=2) (N:=some 19) (v:=?_) (a':=?_) #[true,true,true,false,false,false,false,false,false,false] rfl rfl (qax HT_.out (by kernel_rfl)) (fun _ _ _ h=>h) (Or.inl ⟨by rfl,?_⟩) ?_ ?_
        rotate_left
        ·intro w'
         go_simp
         with_reducible rfl
        rotate_left
        ·simp only[Act.put,List.setIfInBounds_toArray,List.set_cons_zero,List.set_cons_succ,qas,qat]
         rfl
        refine qaz (i:=4) (N:=some 21) (v:=?_) (a':=?_) #[true,true,true,false,true,false,false,false,false,false] rfl rfl (qax HT_.out (by kernel_rfl)) (fun _ _ _ h=>h) (Or.inl ⟨by rfl,?_⟩) ?_ ?_
        rotate_left
        ·intro w'
         go_simp
         with_reducible rfl
        rotate_left
        ·simp only[Act.put,List.setIfInBounds_toArray,List.set_cons_zero,List.set_cons_succ,qas,qat]
         rfl
        refine qaz (i:=5) (N:=some 22) (v:=?_) (a':=?_) #[true,true,true,false,true,true,false,false,false,false] rfl rfl (qax HT_.out (by kernel_rfl)) (fun _ _ _ h=>h) (Or.inl ⟨by rfl,?_⟩) ?_ ?_
        rotate_left
        ·intro w'
         go_simp
         with_reducible rfl
        rotate_left
        ·simp only[Act.put,List.setIfInBounds_toArray,List.set_cons_zero,List.set_cons_succ,qas,qat]
         rfl
        refine qaz (i:=6) (N:=some 23) (v:=?_) (a':=?_) #[true,true,true,false,true,true,true,false,false,false] rfl rfl (qax HT_.out (by kernel_rfl)) (fun _ _ _ h=>h) (Or.inl ⟨by rfl,?_⟩) ?_ ?_
        rotate_left
        ·intro w'
         go_simp
         with_reducible rfl
        rotate_left
        ·simp only[Act.put,List.setIfInBounds_toArray,List.set_cons_zero,List.set_cons_succ,qas,qat]
         rfl
        refine take_ (i:=3) (N:=some 20) (v:=?_) (a':=?_) #[true,true,true,true,true,true,true,false,false,false] rfl rfl (take_ofW HT_.out HW_.out (by kernel_rfl)) (fun _ _ _ h=>h) (Or.inl ⟨by rfl,?_⟩) hHeld ?_ ?_
        rotate_left
        ·rintro w' ⟨s0,s1,s2,s3⟩
         go_simp
         with_reducible rfl
        rotate_left
        ·simp only[Act.put,List.setIfInBounds_toArray,List.set_cons_zero,List.set_cons_succ,qas,qat]
         rfl
        refine take_ (i:=7) (N:=some 24) (v:=?_) (a':=?_) #[true,true,true,true,true,true,true,true,false,false] rfl rfl (take_ofW HT_.out HW_.out (by kernel_rfl)) (fun _ _ _ h=>h) (Or.inl ⟨by rfl,?_⟩) hHeld ?_ ?_
        rotate_left
        ·rintro w' ⟨s0,s1,s2,s3⟩
         go_simp
         with_reducible rfl
        rotate_left
        ·simp only[Act.put,List.setIfInBounds_toArray,List.set_cons_zero,List.set_cons_succ,qas,qat]
         rfl
        refine one_ (i:=8) (N:=some 25) #[true,true,true,true,true,true,true,true,true,false] rfl rfl (one_of HT_.out (by kernel_rfl)) (by decide) (fun K hK=>?_)
        refine goes_ Try.func96 (by kernel_rfl) rfl #[.agg #[.slice A883_0 ((rd_T73 l0 x5_1).f0).length c883_0,.int .i64 ((rd_T73 l0 x5_1).f1)],.agg #[.slice A884_0 ((rd_T73 l1 x5_1).f0).length c884_0,.int .i64 ((rd_T73 l1 x5_1).f1)]] (by rfl) rfl rfl (by(try simp only[List.map_toArray,List.map_cons,List.map_nil]);first|done|rfl|(simp only[List.length_drop,List.length_take];rfl)) ?_
        with_reducible refine(laws_eqTrip.calls k1 _ _ ((rd_T73 l0 x5_1).f0) ((rd_T73 l0 x5_1).f1) _ _ ((rd_T73 l1 x5_1).f0) ((rd_T73 l1 x5_1).f1) true _ ?side1 ?side2 ?side3 ?side4 A7.out).mono ?_
        (case side1=>repeat(first|exact(Kd.C_below HR883_0.out HB.out)|(with_reducible refine Kd.C_alloc ?_ _)|(with_reducible refine Kd.C_drewN ?_ _)|(with_reducible refine Kd.C_drew ?_)))
        (case side2=>exact HC883_0.out)
        (case side3=>repeat(first|exact(Kd.C_below HR884_0.out HB.out)|(with_reducible refine Kd.C_alloc ?_ _)|(with_reducible refine Kd.C_drewN ?_ _)|(with_reducible refine Kd.C_drew ?_)))
        (case side4=>exact HC884_0.out)
        rintro e w10 ⟨rfl,hb⟩
        refine⟨_,rfl,?_⟩
        have n0_:=qal.mk (qae (za2 HB) hb)
        clear HB
        have HB:=n0_
        clear n0_
        (try clear hb)
        (try clear hb2)
        (try clear hk)
        (try clear hi)
        refine hK.out _ _ ⟨((HB.out.cell (World.block_lt_of_cell? w _ hw883_0)).trans hw883_0),((HB.out.cell (World.block_lt_of_cell? w _ hw883_1)).trans hw883_1),((HB.out.cell (World.block_lt_of_cell? w _ hw884_0)).trans hw884_0),((HB.out.cell (World.block_lt_of_cell? w _ hw884_1)).trans hw884_1)⟩ (fun hHeld=>?_)
        clear hK K
        refine norm_ (a':=?_) ?_ ?_
        rotate_left
        ·show Act.put _ (some 25) _=_
         simp only[Act.put,List.setIfInBounds_toArray,List.set_cons_zero,List.set_cons_succ,qas,qat]
         rfl
        refine qaz (i:=9) (N:=some 26) (v:=?_) (a':=?_) #[true,true,true,true,true,true,true,true,true,true] rfl rfl (qax HT_.out (by kernel_rfl)) (fun _ _ _ h=>h) (Or.inl ⟨by rfl,?_⟩) ?_ ?_
        rotate_left
        ·intro w'
         go_simp
         with_reducible rfl
        rotate_left
        ·simp only[Act.put,List.setIfInBounds_toArray,List.set_cons_zero,List.set_cons_succ,qas,qat]
         rfl
        refine done_ (done_of HT_.out (by kernel_rfl)) ?_
        try go_wp2
        go_roundg k1
        case measure=>have:=HK1.out;omega
        case rel=>exact⟨(wrap64 (x5_1+1)),(za22),H',⟨by have:=HK1.out;omega⟩,⟨za2 HB⟩⟩
       ·replace c8:=Bool.eq_false_iff.mpr c8
        subst c8
        have H1:(some false)=some r:=by rw[if_neg (show ¬(false=true) by decide)] at H;exact H
        clear H
        have H:=H1
        clear H1
        obtain rfl:=Option.some.inj H
        try go_wp2
        have n0_:=qal.mk (qaq HB.out)
        clear HB
        have HB:=n0_
        clear n0_
        have p883:0≤(x5_1:Int):=of_decide_eq_true (za8)
        have q883:x5_1<(l0.length:Int):=of_decide_eq_true (za8)
        obtain⟨ad883,A883_0,c883_0,e883,hx883_0,hx883_1,hl883_0,hi883_0⟩:=at_T73 HR0.out x5_1 p883 q883
        have hw883_1:=hx883_1
        have hw883_0:=hx883_0
        cases e883
        have hxo883_0:=qal.mk hx883_0
        replace hx883_0:=(HB.out.cell (World.block_lt_of_cell? w _ hx883_0)).trans hx883_0
        replace hx883_1:=(HB.out.cell (World.block_lt_of_cell? w _ hx883_1)).trans hx883_1
        have HR883_0:=qal.mk hi883_0
        have HC883_0:=qal.mk hl883_0
        clear hi883_0 hl883_0
        replace p883:=eq_true p883
        replace q883:=eq_true q883
        have p884:0≤(x5_1:Int):=of_decide_eq_true (za8)
        have q884:x5_1<(l1.length:Int):=of_decide_eq_true (za8)
        obtain⟨ad884,A884_0,c884_0,e884,hx884_0,hx884_1,hl884_0,hi884_0⟩:=at_T73 HR1.out x5_1 p884 q884
        have hw884_1:=hx884_1
        have hw884_0:=hx884_0
        cases e884
        have hxo884_0:=qal.mk hx884_0
        replace hx884_0:=(HB.out.cell (World.block_lt_of_cell? w _ hx884_0)).trans hx884_0
        replace hx884_1:=(HB.out.cell (World.block_lt_of_cell? w _ hx884_1)).trans hx884_1
        have HR884_0:=qal.mk hi884_0
        have HC884_0:=qal.mk hl884_0
        clear hi884_0 hl884_0
        replace p884:=eq_true p884
        replace q884:=eq_true q884
        refine start_ (n:=10) (S:=fun w'=>w'.cell? (ad883.add ((x5_1).toNat*2))=some (.slice A883_0 ((rd_T73 l0 x5_1).f0).length c883_0)∧w'.cell? ⟨(ad883.add ((x5_1).toNat*2)).block,(ad883.add ((x5_1).toNat*2)).off+1,none⟩=some (.int .i64 ((rd_T73 l0 x5_1).f1))∧w'.cell? (ad884.add ((x5_1).toNat*2))=some (.slice A884_0 ((rd_T73 l1 x5_1).f0).length c884_0)∧w'.cell? ⟨(ad884.add ((x5_1).toNat*2)).block,(ad884.add ((x5_1).toNat*2)).off+1,none⟩=some (.int .i64 ((rd_T73 l1 x5_1).f1))) (ds:=[]) #[false,false,false,false,false,false,false,false,false,false] (by kernel_rfl) rfl rfl ⟨((HB.out.cell (World.block_lt_of_cell? w _ hw883_0)).trans hw883_0),((HB.out.cell (World.block_lt_of_cell? w _ hw883_1)).trans hw883_1),((HB.out.cell (World.block_lt_of_cell? w _ hw884_0)).trans hw884_0),((HB.out.cell (World.block_lt_of_cell? w _ hw884_1)).trans hw884_1)⟩ (fun hHeld=>?_);refine with_tabW laws_eqTripS.tab6 laws_eqTripS.bits6 (fun HT_ HW_=>?_)
        generalize wr.drew=w11 at HB HR883_0 HR884_0 hx883_0 hx883_1 hx884_0 hx884_1 hHeld ⊢
        refine qaz (i:=0) (N:=some 17) (v:=?_) (a':=?_) #[true,false,false,false,false,false,false,false,false,false] rfl rfl (qax HT_.out (by kernel_rfl)) (fun _ _ _ h=>h) (Or.inl ⟨by rfl,?_⟩) ?_ ?_
        rotate_left
        ·intro w'
         go_simp
         with_reducible rfl
        rotate_left
        ·simp only[Act.put,List.setIfInBounds_toArray,List.set_cons_zero,List.set_cons_succ,qas,qat]
         rfl
        refine qaz (i:=1) (N:=some 18) (v:=?_) (a':=?_) #[true,true,false,false,false,false,false,false,false,false] rfl rfl (qax HT_.out (by kernel_rfl)) (fun _ _ _ h=>h) (Or.inl ⟨by rfl,?_⟩) ?_ ?_
        rotate_left
        ·intro w'
         go_simp
         with_reducible rfl
        rotate_left
        ·simp only[Act.put,List.setIfInBounds_toArray,List.set_cons_zero,List.set_cons_succ,qas,qat]
         rfl
        refine qaz (i:=2) (N:=some 19) (v:=?_) (a':=?_) #[true,true,true,false,false,false,false,false,false,false] rfl rfl (qax HT_.out (by kernel_rfl)) (fun _ _ _ h=>h) (Or.inl ⟨by rfl,?_⟩) ?_ ?_
        rotate_left
        ·intro w'
         go_simp
         with_reducible rfl
        rotate_left
        ·simp only[Act.put,List.setIfInBounds_toArray,List.set_cons_zero,List.set_cons_succ,qas,qat]
         rfl
        refine qaz (i:=4) (N:=some 21) (v:=?_) (a':=?_) #[true,true,true,false,true,false,false,false,false,false] rfl rfl (qax HT_.out (by kernel_rfl)) (fun _ _ _ h=>h) (Or.inl ⟨by rfl,?_⟩) ?_ ?_
        rotate_left
        ·intro w'
         go_simp
         with_reducible rfl
        rotate_left
        ·simp only[Act.put,List.setIfInBounds_toArray,List.set_cons_zero,List.set_cons_succ,qas,qat]
         rfl
        refine qaz (i:=5) (N:=some 22) (v:=?_) (a':=?_) #[true,true,true,false,true,true,false,false,false,false] rfl rfl (qax HT_.out (by kernel_rfl)) (fun _ _ _ h=>h) (Or.inl ⟨by rfl,?_⟩) ?_ ?_
        rotate_left
        ·intro w'
         go_simp
         with_reducible rfl
        rotate_left
        ·simp only[Act.put,List.setIfInBounds_toArray,List.set_cons_zero,List.set_cons_succ,qas,qat]
         rfl
        refine qaz (i:=6) (N:=some 23) (v:=?_) (a':=?_) #[true,true,true,false,true,true,true,false,false,false] rfl rfl (qax HT_.out (by kernel_rfl)) (fun _ _ _ h=>h) (Or.inl ⟨by rfl,?_⟩) ?_ ?_
        rotate_left
        ·intro w'
         go_simp
         with_reducible rfl
        rotate_left
        ·simp only[Act.put,List.setIfInBounds_toArray,List.set_cons_zero,List.set_cons_succ,qas,qat]
         rfl
        refine take_ (i:=3) (N:=some 20) (v:=?_) (a':=?_) #[true,true,true,true,true,true,true,false,false,false] rfl rfl (take_ofW HT_.out HW_.out (by kernel_rfl)) (fun _ _ _ h=>h) (Or.inl ⟨by rfl,?_⟩) hHeld ?_ ?_
        rotate_left
        ·rintro w' ⟨s0,s1,s2,s3⟩
         go_simp
         with_reducible rfl
        rotate_left
        ·simp only[Act.put,List.setIfInBounds_toArray,List.set_cons_zero,List.set_cons_succ,qas,qat]
         rfl
        refine take_ (i:=7) (N:=some 24) (v:=?_) (a':=?_) #[true,true,true,true,true,true,true,true,false,false] rfl rfl (take_ofW HT_.out HW_.out (by kernel_rfl)) (fun _ _ _ h=>h) (Or.inl ⟨by rfl,?_⟩) hHeld ?_ ?_
        rotate_left
        ·rintro w' ⟨s0,s1,s2,s3⟩
         go_simp
         with_reducible rfl
        rotate_left
        ·simp only[Act.put,List.setIfInBounds_toArray,List.set_cons_zero,List.set_cons_succ,qas,qat]
         rfl
        refine one_ (i:=8) (N:=some 25) #[true,true,true,true,true,true,true,true,true,false] rfl rfl (one_of HT_.out (by kernel_rfl)) (by decide) (fun K hK=>?_)
        refine goes_ Try.func96 (by kernel_rfl) rfl #[.agg #[.slice A883_0 ((rd_T73 l0 x5_1).f0).length c883_0,.int .i64 ((rd_T73 l0 x5_1).f1)],.agg #[.slice A884_0 ((rd_T73 l1 x5_1).f0).length c884_0,.int .i64 ((rd_T73 l1 x5_1).f1)]] (by rfl) rfl rfl (by(try simp only[List.map_toArray,List.map_cons,List.map_nil]);first|done|rfl|(simp only[List.length_drop,List.length_take];rfl)) ?_
        with_reducible refine(laws_eqTrip.calls k1 _ _ ((rd_T73 l0 x5_1).f0) ((rd_T73 l0 x5_1).f1) _ _ ((rd_T73 l1 x5_1).f0) ((rd_T73 l1 x5_1).f1) false _ ?side1 ?side2 ?side3 ?side4 A7.out).mono ?_
        (case side1=>repeat(first|exact(Kd.C_below HR883_0.out HB.out)|(with_reducible refine Kd.C_alloc ?_ _)|(with_reducible refine Kd.C_drewN ?_ _)|(with_reducible refine Kd.C_drew ?_)))
        (case side2=>exact HC883_0.out)
        (case side3=>repeat(first|exact(Kd.C_below HR884_0.out HB.out)|(with_reducible refine Kd.C_alloc ?_ _)|(with_reducible refine Kd.C_drewN ?_ _)|(with_reducible refine Kd.C_drew ?_)))
        (case side4=>exact HC884_0.out)
        rintro e w12 ⟨rfl,hb⟩
        refine⟨_,rfl,?_⟩
        have n0_:=qal.mk (qae (za2 HB) hb)
        clear HB
        have HB:=n0_
        clear n0_
        (try clear hb)
        (try clear hb2)
        (try clear hk)
        (try clear hi)
        refine hK.out _ _ ⟨((HB.out.cell (World.block_lt_of_cell? w _ hw883_0)).trans hw883_0),((HB.out.cell (World.block_lt_of_cell? w _ hw883_1)).trans hw883_1),((HB.out.cell (World.block_lt_of_cell? w _ hw884_0)).trans hw884_0),((HB.out.cell (World.block_lt_of_cell? w _ hw884_1)).trans hw884_1)⟩ (fun hHeld=>?_)
        clear hK K
        refine norm_ (a':=?_) ?_ ?_
        rotate_left
        ·show Act.put _ (some 25) _=_
         simp only[Act.put,List.setIfInBounds_toArray,List.set_cons_zero,List.set_cons_succ,qas,qat]
         rfl
        refine qaz (i:=9) (N:=some 26) (v:=?_) (a':=?_) #[true,true,true,true,true,true,true,true,true,true] rfl rfl (qax HT_.out (by kernel_rfl)) (fun _ _ _ h=>h) (Or.inl ⟨by rfl,?_⟩) ?_ ?_
        rotate_left
        ·intro w'
         go_simp
         with_reducible rfl
        rotate_left
        ·simp only[Act.put,List.setIfInBounds_toArray,List.set_cons_zero,List.set_cons_succ,qas,qat]
         rfl
        refine done_ (done_of HT_.out (by kernel_rfl)) ?_
        try go_wp2
        go_ret
        exact⟨za9,za2 HB⟩
      ·rw[if_neg c6] at H
       exact absurd H (by simp)
     ·rw[if_neg c5] at H
      exact absurd H (by simp)
    ·rw[if_neg c4] at H
     have c4b0:decide (x5_1<(l0.length:Int))=false:=decide_eq_false c4
     clear c4
     obtain rfl:=Option.some.inj H
     go_wp2
     go_ret
     exact⟨za9,za2 HB⟩
 ·rw[if_neg c3] at H
  have c3b0:((l0.length:Int) == (l1.length:Int))=false:=beq_eq_false_iff_ne.mpr c3
  have c3b1:((l0.length:Int) != (l1.length:Int))=true:=bne_iff_ne.mpr c3
  have c3b2:(l0.length == l1.length)=false:=by first|simpa using c3|(simp at c3 ⊢;omega)
  obtain rfl:=Option.some.inj H
  go_enter Try.func52,Try.ntmps52
  go_wp2
  go_ret
  exact⟨za9,za2 HB⟩
end Go.Proofs.Ytjccnaklodbbfaa.Print
