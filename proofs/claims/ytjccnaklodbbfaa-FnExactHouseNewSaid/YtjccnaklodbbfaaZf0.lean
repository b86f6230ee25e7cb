-- Written by squeeze.py, a program of this session, out of what print.sh and myprint.py had printed: cut to what is used, narrowed. Not trusted, Lean checks it.
import Derived.Test.YtjccnaklodbbfaaZK
import Derived.Test.YtjccnaklodbbfaaZe0
namespace Go.Proofs.Ytjccnaklodbbfaa.Print
open Go.RowKit Go.Proofs.YtjccnaklodbbfaaW.PrintWords Go.Proofs.YtjccnaklodbbfaaW.PrintLast Go.Proofs.YtjccnaklodbbfaaW.PrintMore
attribute [local go_sem] max2_int min2_int max_two min_two max_three min_three max_four min_four
set_option linter.unusedVariables false
set_option linter.unusedSimpArgs false
def laws_eqRecS.l0:Nat→List (S62)→List (S62)→Int→Option (Bool)
 |0,_,_,_=>none
 |k+1,x0,x1,x5=>if x5<(x0.length:Int) then(if 0≤x5 then(if x5<(x1.length:Int) then((laws_eqRec.f k ((rd_T62 x0 x5).f0) ((rd_T62 x0 x5).f1) ((rd_T62 x0 x5).f2) ((rd_T62 x1 x5).f0) ((rd_T62 x1 x5).f1) ((rd_T62 x1 x5).f2)).bind fun t128=>(if t128=true then(laws_eqRecS.l0 k x0 x1 (wrap64 (x5+1))) else(some false))) else(none)) else(none)) else(some true)
def laws_eqRecS.f (k:Nat) (l0:List (S62)) (l1:List (S62)):Option (Bool):=if(l0.length:Int)=(l1.length:Int) then(laws_eqRecS.l0 k l0 l1 0) else(some false)
theorem laws_eqRecS.mono_l:∀k,(∀y0 y1 y2,LeO (laws_eqRecS.l0 k y0 y1 y2) (laws_eqRecS.l0 (k+1) y0 y1 y2))
 |0=>fun _ _ _ r h=>by simp[laws_eqRecS.l0] at h
 |k+1=>by
  have ih0:=laws_eqRecS.mono_l k
  ·intro y0 y1 y2
   unfold laws_eqRecS.l0
   repeat' first
   |(with_reducible exact ih0 _ _ _)
   |(with_reducible exact laws_eqRec.mono _ _ _ _ _ _ _)
   |(with_reducible exact LeO.refl _)
   |(with_reducible exact LeO.none _)
   |(with_reducible refine LeO.ite ?_ ?_)
   |(with_reducible refine LeO.bind ?_ (fun _=>?_))
   |exact ih0 _ _ _
   |exact laws_eqRec.mono _ _ _ _ _ _ _
   |exact LeO.none _
   |refine LeO.ite ?_ ?_
   |refine LeO.bind ?_ (fun _=>?_)
theorem laws_eqRecS.mono:∀a0 a1 k,LeO (laws_eqRecS.f k a0 a1) (laws_eqRecS.f (k+1) a0 a1):=by
 intro a0 a1 k
 have ih0:=laws_eqRecS.mono_l k
 unfold laws_eqRecS.f
 repeat' first
   |(with_reducible exact ih0 _ _ _)
   |(with_reducible exact laws_eqRec.mono _ _ _ _ _ _ _)
   |(with_reducible exact LeO.refl _)
   |(with_reducible exact LeO.none _)
   |(with_reducible refine LeO.ite ?_ ?_)
   |(with_reducible refine LeO.bind ?_ (fun _=>?_))
   |exact ih0 _ _ _
   |exact laws_eqRec.mono _ _ _ _ _ _ _
   |exact LeO.none _
   |refine LeO.ite ?_ ?_
   |refine LeO.bind ?_ (fun _=>?_)
def laws_eqRecS.T6:Bool × List (List Nat × List Nat):=(true,[([],[]),([],[]),([0,1],[0,1]),([2],[2]),([],[]),([],[]),([4,5],[4,5]),([6],[6]),([3,7],[3,7]),([8],[8])])
def laws_eqRecS.B6:List Nat:=[0,0,3,7,0,0,48,112,255,511]
theorem laws_eqRecS.tab6:rtab .any (opsOf Try.f101 6)=laws_eqRecS.T6:=by kernel_rfl
theorem laws_eqRecS.bits6:waitsOk laws_eqRecS.T6.2 laws_eqRecS.B6=true:=by kernel_rfl
set_option maxHeartbeats 8000000 in
set_option maxRecDepth 100000 in
theorem laws_eqRecS.calls (k:Nat) (A0:Option Addr) (c0:Nat) (l0:List (S62)) (A1:Option Addr) (c1:Nat) (l1:List (S62)) (r:Bool) (w:World) (hr0:Kd.C k62 w A0 l0.length l0) (hc0:l0.length≤c0) (hr1:Kd.C k62 w A1 l1.length l1) (hc1:l1.length≤c1) (h:laws_eqRecS.f k l0 l1=some r) :
  Calls Try.prog 101 #[.slice A0 l0.length c0,.slice A1 l1.length c1] w fun e w'=>e=.returned (.bool r)∧Below w.heap.size w w':=by
 have hu62:=Try.underlying62
 have HR0:=qal.mk hr0
 have HC0:=qal.mk hc0
 clear hr0 hc0
 have HR1:=qal.mk hr1
 have HC1:=qal.mk hc1
 clear hr1 hc1
 have HB:=qal.mk (Below.refl w.heap.size w)
 have H:(if(l0.length:Int)=(l1.length:Int) then(laws_eqRecS.l0 k l0 l1 0) else(some false))=some r:=h
 clear h
 by_cases c3:(l0.length:Int)=(l1.length:Int)
 ·rw[if_pos c3] at H
  have c3b0:((l0.length:Int) == (l1.length:Int))=true:=beq_iff_eq.mpr c3
  have c3b1:((l0.length:Int) != (l1.length:Int))=false:=bne_eq_false_iff_eq.mpr c3
  have c3b2:(l0.length == l1.length)=true:=by first|simpa using c3|(simp at c3 ⊢;omega)
  clear c3
  have H':=qal.mk H
  clear H
  go_enter Try.func101,Try.ntmps101
  go_wp2
  go_loopg [5] k (fun kq v5 w'=>∃(x5_1:Int),v5=.int .i64 x5_1∧qal (laws_eqRecS.l0 kq l0 l1 x5_1=some r)∧qal (kq≤k)∧qal (Below w.heap.size w w'))
  case atStart=>exact⟨(0),(za22),H',⟨Nat.le_refl _⟩,⟨za2 HB⟩⟩
  case round=>
   clear H'
   try clear c1
   try clear p2
   try clear c3
   try clear c3b0
   try clear c3b1
   try clear c3b2
   obtain⟨x5_1,rfl,HA,HK1,HB⟩:=hrel
   cases gk with
   |zero=>exact absurd HA.out (by simp[laws_eqRecS.l0])
   |succ k1=>
    have H:=HA.out
    clear HA
    simp only[laws_eqRecS.l0] at H
    by_cases c4:x5_1<(l0.length:Int)
    ·rw[if_pos c4] at H
     have c4b0:decide (x5_1<(l0.length:Int))=true:=decide_eq_true c4
     clear c4
     by_cases c5:0≤x5_1
     ·rw[if_pos c5] at H
      have c5b0:decide (0≤x5_1)=true:=decide_eq_true c5
      clear c5
      by_cases c6:x5_1<(l1.length:Int)
      ·rw[if_pos c6] at H
       have c6b0:decide (x5_1<(l1.length:Int))=true:=decide_eq_true c6
       clear c6
       replace H:=Option.bind_eq_some_iff.mp H
       obtain⟨t128,A70,H⟩:=H
       replace H:(if t128=true then(laws_eqRecS.l0 k1 l0 l1 (wrap64 (x5_1+1))) else(some false))=some r:=H
       have A7:=qal.mk A70
       clear A70
       by_cases c8:t128=true
       ·subst c8
        have H1:(laws_eqRecS.l0 k1 l0 l1 (wrap64 (x5_1+1)))=some r:=by rw[if_pos rfl] at H;exact H
        clear H
        have H:=H1
        clear H1
        have H':=qal.mk H
        clear H
        try go_wp2
        have n0_:=qal.mk (qaq HB.out)
        clear HB
        have HB:=n0_
        clear n0_
        have p126:0≤(x5_1:Int):=of_decide_eq_true (za8)
        have q126:x5_1<(l0.length:Int):=of_decide_eq_true (za8)
        obtain⟨ad126,A126_2,c126_2,e126,hx126_0,hx126_1,hx126_2,hl126_2,hi126_2⟩:=at_T62 HR0.out x5_1 p126 q126
        have hw126_2:=hx126_2
        have hw126_1:=hx126_1
        have hw126_0:=hx126_0
        cases e126
        have hxo126_2:=qal.mk hx126_2
        replace hx126_0:=(HB.out.cell (World.block_lt_of_cell? w _ hx126_0)).trans hx126_0
        replace hx126_1:=(HB.out.cell (World.block_lt_of_cell? w _ hx126_1)).trans hx126_1
        replace hx126_2:=(HB.out.cell (World.block_lt_of_cell? w _ hx126_2)).trans hx126_2
        have HR126_2:=qal.mk hi126_2
        have HC126_2:=qal.mk hl126_2
        clear hi126_2 hl126_2
        replace p126:=eq_true p126
        replace q126:=eq_true q126
        have p127:0≤(x5_1:Int):=of_decide_eq_true (za8)
        have q127:x5_1<(l1.length:Int):=of_decide_eq_true (za8)
        obtain⟨ad127,A127_2,c127_2,e127,hx127_0,hx127_1,hx127_2,hl127_2,hi127_2⟩:=at_T62 HR1.out x5_1 p127 q127
        have hw127_2:=hx127_2
        have hw127_1:=hx127_1
        have hw127_0:=hx127_0
        cases e127
        have hxo127_2:=qal.mk hx127_2
        replace hx127_0:=(HB.out.cell (World.block_lt_of_cell? w _ hx127_0)).trans hx127_0
        replace hx127_1:=(HB.out.cell (World.block_lt_of_cell? w _ hx127_1)).trans hx127_1
        replace hx127_2:=(HB.out.cell (World.block_lt_of_cell? w _ hx127_2)).trans hx127_2
        have HR127_2:=qal.mk hi127_2
        have HC127_2:=qal.mk hl127_2
        clear hi127_2 hl127_2
        replace p127:=eq_true p127
        replace q127:=eq_true q127
        refine start_ (n:=10) (S:=fun w'=>w'.cell? (ad126.add ((x5_1).toNat*3))=some (.int .i64 ((rd_T62 l0 x5_1).f0))∧w'.cell? ⟨(ad126.add ((x5_1).toNat*3)).block,(ad126.add ((x5_1).toNat*3)).off+1,none⟩=some (.int .i64 ((rd_T62 l0 x5_1).f1))∧w'.cell? ⟨(ad126.add ((x5_1).toNat*3)).block,(ad126.add ((x5_1).toNat*3)).off+2,none⟩=some (.slice A126_2 ((rd_T62 l0 x5_1).f2).length c126_2)∧w'.cell? (ad127.add ((x5_1).toNat*3))=some (.int .i64 ((rd_T62 l1 x5_1).f0))∧w'.cell? ⟨(ad127.add ((x5_1).toNat*3)).block,(ad127.add ((x5_1).toNat*3)).off+1,none⟩=some (.int .i64 ((rd_T62 l1 x5_1).f1))∧w'.cell? ⟨(ad127.add ((x5_1).toNat*3)).block,(ad127.add ((x5_1).toNat*3)).off+2,none⟩=some (.slice A127_2 ((rd_T62 l1 x5_1).f2).length c127_2)) (ds:=[]) #[false,false,false,false,false,false,false,false,false,false] (by kernel_rfl) rfl rfl ⟨((HB.out.cell (World.block_lt_of_cell? w _ hw126_0)).trans hw126_0),((HB.out.cell (World.block_lt_of_cell? w _ hw126_1)).trans hw126_1),((HB.out.cell (World.block_lt_of_cell? w _ hw126_2)).trans hw126_2),((HB.out.cell (World.block_lt_of_cell? w _ hw127_0)).trans hw127_0),((HB.out.cell (World.block_lt_of_cell? w _ hw127_1)).trans hw127_1),((HB.out.cell (World.block_lt_of_cell? w _ hw127_2)).trans hw127_2)⟩ (fun hHeld=>?_);refine with_tabW laws_eqRecS.tab6 laws_eqRecS.bits6 (fun HT_ HW_=>?_)
        generalize wr.drew=w9 at HB HR126_2 HR127_2 hx126_0 hx126_1 hx126_2 hx127_0 hx127_1 hx127_2 hHeld ⊢
        refine qaz (i:=0) (N:=some 17) (v:=?_) (a':=?_) #[true,false,false,false,false,false,false,false,false,false] rfl rfl (qax HT_.out (by kernel_rfl)) (fun _ _ _ h=>h) (Or.inl ⟨by rfl,?_⟩) ?_ ?_
        rotate_left
        ·intro w'
         go_simp
         with_reducible rfl
        rotate_left
        ·simp only[Act.put,List.setIfInBounds_toArray,List.set_cons_zero,List.set_cons_succ,qas,qat]
         rfl
        refine qaz (i:=1) (N:=some 18) (v:=?_) (a':=?_) #[true,true,false,false,false,false,false,false,false,false] rfl rfl (qax HT_.out (by kernel_rfl)) (fun _ _ _ h=>h) (Or.inl ⟨by rfl,?_⟩) ?_ ?_
        rotate_left
        ·intro w'
         go_simp
         with_reducible rfl
        rotate_left
        ·simp only[Act.put,List.setIfInBounds_toArray,List.set_cons_zero,List.set_cons_succ,qas,qat]
         rfl
        refine qaz (i:=2) (N:=some 19) (v:=?_) (a':=?_) #[true,true,true,false,false,false,false,false,false,false] rfl rfl (qax HT_.out (by kernel_rfl)) (fun _ _ _ h=>h) (Or.inl ⟨by rfl,?_⟩) ?_ ?_
        rotate_left
        ·intro w'
         go_simp
         with_reducible rfl
        rotate_left
        ·simp only[Act.put,List.setIfInBounds_toArray,List.set_cons_zero,List.set_cons_succ,qas,qat]
         rfl
        refine qaz (i:=4) (N:=some 21) (v:=?_) (a':=?_) #[true,true,true,false,true,false,false,false,false,false] rfl rfl (qax HT_.out (by kernel_rfl)) (fun _ _ _ h=>h) (Or.inl ⟨by rfl,?_⟩) ?_ ?_
        rotate_left
        ·intro w'
         go_simp
         with_reducible rfl
        rotate_left
        ·simp only[Act.put,List.setIfInBounds_toArray,List.set_cons_zero,List.set_cons_succ,qas,qat]
         rfl
        refine qaz (i:=5) (N:=some 22) (v:=?_) (a':=?_) #[true,true,true,false,true,true,false,false,false,false] rfl rfl (qax HT_.out (by kernel_rfl)) (fun _ _ _ h=>h) (Or.inl ⟨by rfl,?_⟩) ?_ ?_
        rotate_left
        ·intro w'
         go_simp
         with_reducible rfl
        rotate_left
        ·simp only[Act.put,List.setIfInBounds_toArray,List.set_cons_zero,List.set_cons_succ,qas,qat]
         rfl
        refine qaz (i:=6) (N:=some 23) (v:=?_) (a':=?_) #[true,true,true,false,true,true,true,false,false,false] rfl rfl (qax HT_.out (by kernel_rfl)) (fun _ _ _ h=>h) (Or.inl ⟨by rfl,?_⟩) ?_ ?_
        rotate_left
        ·intro w'
         go_simp
         with_reducible rfl
        rotate_left
        ·simp only[Act.put,List.setIfInBounds_toArray,List.set_cons_zero,List.set_cons_succ,qas,qat]
         rfl
        refine take_ (i:=3) (N:=some 20) (v:=?_) (a':=?_) #[true,true,true,true,true,true,true,false,false,false] rfl rfl (take_ofW HT_.out HW_.out (by kernel_rfl)) (fun _ _ _ h=>h) (Or.inl ⟨by rfl,?_⟩) hHeld ?_ ?_
        rotate_left
        ·rintro w' ⟨s0,s1,s2,s3,s4,s5⟩
         go_simp
         with_reducible rfl
        rotate_left
        ·simp only[Act.put,List.setIfInBounds_toArray,List.set_cons_zero,List.set_cons_succ,qas,qat]
         rfl
        refine take_ (i:=7) (N:=some 24) (v:=?_) (a':=?_) #[true,true,true,true,true,true,true,true,false,false] rfl rfl (take_ofW HT_.out HW_.out (by kernel_rfl)) (fun _ _ _ h=>h) (Or.inl ⟨by rfl,?_⟩) hHeld ?_ ?_
        rotate_left
        ·rintro w' ⟨s0,s1,s2,s3,s4,s5⟩
         go_simp
         with_reducible rfl
        rotate_left
        ·simp only[Act.put,List.setIfInBounds_toArray,List.set_cons_zero,List.set_cons_succ,qas,qat]
         rfl
        refine one_ (i:=8) (N:=some 25) #[true,true,true,true,true,true,true,true,true,false] rfl rfl (one_of HT_.out (by kernel_rfl)) (by decide) (fun K hK=>?_)
        refine goes_ Try.func42 (by kernel_rfl) rfl #[.agg #[.int .i64 ((rd_T62 l0 x5_1).f0),.int .i64 ((rd_T62 l0 x5_1).f1),.slice A126_2 ((rd_T62 l0 x5_1).f2).length c126_2],.agg #[.int .i64 ((rd_T62 l1 x5_1).f0),.int .i64 ((rd_T62 l1 x5_1).f1),.slice A127_2 ((rd_T62 l1 x5_1).f2).length c127_2]] (by rfl) rfl rfl (by(try simp only[List.map_toArray,List.map_cons,List.map_nil]);first|done|rfl|(simp only[List.length_drop,List.length_take];rfl)) ?_
        with_reducible refine(laws_eqRec.calls k1 ((rd_T62 l0 x5_1).f0) ((rd_T62 l0 x5_1).f1) _ _ ((rd_T62 l0 x5_1).f2) ((rd_T62 l1 x5_1).f0) ((rd_T62 l1 x5_1).f1) _ _ ((rd_T62 l1 x5_1).f2) true _ ?side1 ?side2 ?side3 ?side4 A7.out).mono ?_
        (case side1=>repeat(first|exact(Kd.C_below HR126_2.out HB.out)|(with_reducible refine Kd.C_alloc ?_ _)|(with_reducible refine Kd.C_drewN ?_ _)|(with_reducible refine Kd.C_drew ?_)))
        (case side2=>exact HC126_2.out)
        (case side3=>repeat(first|exact(Kd.C_below HR127_2.out HB.out)|(with_reducible refine Kd.C_alloc ?_ _)|(with_reducible refine Kd.C_drewN ?_ _)|(with_reducible refine Kd.C_drew ?_)))
        (case side4=>exact HC127_2.out)
        rintro e w10 ⟨rfl,hb⟩
        refine⟨_,rfl,?_⟩
        have n0_:=qal.mk (qae (za2 HB) hb)
        clear HB
        have HB:=n0_
        clear n0_
        (try clear hb)
        (try clear hb2)
        (try clear hk)
        (try clear hi)
        refine hK.out _ _ ⟨((HB.out.cell (World.block_lt_of_cell? w _ hw126_0)).trans hw126_0),((HB.out.cell (World.block_lt_of_cell? w _ hw126_1)).trans hw126_1),((HB.out.cell (World.block_lt_of_cell? w _ hw126_2)).trans hw126_2),((HB.out.cell (World.block_lt_of_cell? w _ hw127_0)).trans hw127_0),((HB.out.cell (World.block_lt_of_cell? w _ hw127_1)).trans hw127_1),((HB.out.cell (World.block_lt_of_cell? w _ hw127_2)).trans hw127_2)⟩ (fun hHeld=>?_)
        clear hK K
        refine norm_ (a':=?_) ?_ ?_
        rotate_left
        ·show Act.put _ (some 25) _=_
         simp only[Act.put,List.setIfInBounds_toArray,List.set_cons_zero,List.set_cons_succ,qas,qat]
         rfl
        refine qaz (i:=9) (N:=some 26) (v:=?_) (a':=?_) #[true,true,true,true,true,true,true,true,true,true] rfl rfl (qax HT_.out (by kernel_rfl)) (fun _ _ _ h=>h) (Or.inl ⟨by rfl,?_⟩) ?_ ?_
        rotate_left
        ·intro w'
         go_simp
         with_reducible rfl
        rotate_left
        ·simp only[Act.put,List.setIfInBounds_toArray,List.set_cons_zero,List.set_cons_succ,qas,qat]
         rfl
        refine done_ (done_of HT_.out (by kernel_rfl)) ?_
        try go_wp2
        go_roundg k1
        case measure=>have:=HK1.out;omega
        case rel=>exact⟨(wrap64 (x5_1+1)),(za22),H',⟨by have:=HK1.out;omega⟩,⟨za2 HB⟩⟩
       ·replace c8:=Bool.eq_false_iff.mpr c8
        subst c8
        have H1:(some false)=some r:=by rw[if_neg (show ¬(false=true) by decide)] at H;exact H
        clear H
        have H:=H1
        clear H1
        obtain rfl:=Option.some.inj H
        try go_wp2
        have n0_:=qal.mk (qaq HB.out)
        clear HB
        have HB:=n0_
        clear n0_
        have p126:0≤(x5_1:Int):=of_decide_eq_true (za8)
        have q126:x5_1<(l0.length:Int):=of_decide_eq_true (za8)
        obtain⟨ad126,A126_2,c126_2,e126,hx126_0,hx126_1,hx126_2,hl126_2,hi126_2⟩:=at_T62 HR0.out x5_1 p126 q126
        have hw126_2:=hx126_2
        have hw126_1:=hx126_1
        have hw126_0:=hx126_0
        cases e126
        have hxo126_2:=qal.mk hx126_2
        replace hx126_0:=(HB.out.cell (World.block_lt_of_cell? w _ hx126_0)).trans hx126_0
        replace hx126_1:=(HB.out.cell (World.block_lt_of_cell? w _ hx126_1)).trans hx126_1
        replace hx126_2:=(HB.out.cell (World.block_lt_of_cell? w _ hx126_2)).trans hx126_2
        have HR126_2:=qal.mk hi126_2
        have HC126_2:=qal.mk hl126_2
        clear hi126_2 hl126_2
        replace p126:=eq_true p126
        replace q126:=eq_true q126
        have p127:0≤(x5_1:Int):=of_decide_eq_true (za8)
        have q127:x5_1<(l1.length:Int):=of_decide_eq_true (za8)
        obtain⟨ad127,A127_2,c127_2,e127,hx127_0,hx127_1,hx127_2,hl127_2,hi127_2⟩:=at_T62 HR1.out x5_1 p127 q127
        have hw127_2:=hx127_2
        have hw127_1:=hx127_1
        have hw127_0:=hx127_0
        cases e127
        have hxo127_2:=qal.mk hx127_2
        replace hx127_0:=(HB.out.cell (World.block_lt_of_cell? w _ hx127_0)).trans hx127_0
        replace hx127_1:=(HB.out.cell (World.block_lt_of_cell? w _ hx127_1)).trans hx127_1
        replace hx127_2:=(HB.out.cell (World.block_lt_of_cell? w _ hx127_2)).trans hx127_2
        have HR127_2:=qal.mk hi127_2
        have HC127_2:=qal.mk hl127_2
        clear hi127_2 hl127_2
        replace p127:=eq_true p127
        replace q127:=eq_true q127
        refine start_ (n:=10) (S:=fun w'=>w'.cell? (ad126.add ((x5_1).toNat*3))=some (.int .i64 ((rd_T62 l0 x5_1).f0))∧w'.cell? ⟨(ad126.add ((x5_1).toNat*3)).block,(ad126.add ((x5_1).toNat*3)).off+1,none⟩=some (.int .i64 ((rd_T62 l0 x5_1).f1))∧w'.cell? ⟨(ad126.add ((x5_1).toNat*3)).block,(ad126.add ((x5_1).toNat*3)).off+2,none⟩=some (.slice A126_2 ((rd_T62 l0 x5_1).f2).length c126_2)∧w'.cell? (ad127.add ((x5_1).toNat*3))=some (.int .i64 ((rd_T62 l1 x5_1).f0))∧w'.cell? ⟨(ad127.add ((x5_1).toNat*3)).block,(ad127.add ((x5_1).toNat*3)).off+1,none⟩=some (.int .i64 ((rd_T62 l1 x5_1).f1))∧w'.cell? ⟨(ad127.add ((x5_1).toNat*3)).block,(ad127.add ((x5_1).toNat*3)).off+2,none⟩=some (.slice A127_2 ((rd_T62 l1 x5_1).f2).length c127_2)) (ds:=[]) #[false,false,false,false,false,false,false,false,false,false] (by kernel_rfl) rfl rfl ⟨((HB.out.cell (World.block_lt_of_cell? w _ hw126_0)).trans hw126_0),((HB.out.cell (World.block_lt_of_cell? w _ hw126_1)).trans hw126_1),((HB.out.cell (World.block_lt_of_cell? w _ hw126_2)).trans hw126_2),((HB.out.cell (World.block_lt_of_cell? w _ hw127_0)).trans hw127_0),((HB.out.cell (World.block_lt_of_cell? w _ hw127_1)).trans hw127_1),((HB.out.cell (World.block_lt_of_cell? w _ hw127_2)).trans hw127_2)⟩ (fun hHeld=>?_);refine with_tabW laws_eqRecS.tab6 laws_eqRecS.bits6 (fun HT_ HW_=>?_)
        generalize wr.drew=w11 at HB HR126_2 HR127_2 hx126_0 hx126_1 hx126_2 hx127_0 hx127_1 hx127_2 hHeld ⊢
        refine qaz (i:=0) (N:=some 17) (v:=?_) (a':=?_) #[true,false,false,false,false,false,false,false,false,false] rfl rfl (qax HT_.out (by kernel_rfl)) (fun _ _ _ h=>h) (Or.inl ⟨by rfl,?_⟩) ?_ ?_
        rotate_left
        ·intro w'
         go_simp
         with_reducible rfl
        rotate_left
        ·simp only[Act.put,List.setIfInBounds_toArray,List.set_cons_zero,List.set_cons_succ,qas,qat]
         rfl
        refine qaz (i:=1) (N:=some 18) (v:=?_) (a':=?_) #[true,true,false,false,false,false,false,false,false,false] rfl rfl (qax HT_.out (by kernel_rfl)) (fun _ _ _ h=>h) (Or.inl ⟨by rfl,?_⟩) ?_ ?_
        rotate_left
        ·intro w'
         go_simp
         with_reducible rfl
        rotate_left
        ·simp only[Act.put,List.setIfInBounds_toArray,List.set_cons_zero,List.set_cons_succ,qas,qat]
         rfl
        refine qaz (i:=2) (N:=some 19) (v:=?_) (a':=?_) #[true,true,true,false,false,false,false,false,false,false] rfl rfl (qax HT_.out (by kernel_rfl)) (fun _ _ _ h=>h) (Or.inl ⟨by rfl,?_⟩) ?_ ?_
        rotate_left
        ·intro w'
         go_simp
         with_reducible rfl
        rotate_left
        ·simp only[Act.put,List.setIfInBounds_toArray,List.set_cons_zero,List.set_cons_succ,qas,qat]
         rfl
        refine qaz (i:=4) (N:=some 21) (v:=?_) (a':=?_) #[true,true,true,false,true,false,false,false,false,false] rfl rfl (qax HT_.out (by kernel_rfl)) (fun _ _ _ h=>h) (Or.inl ⟨by rfl,?_⟩) ?_ ?_
        rotate_left
        ·intro w'
         go_simp
         with_reducible rfl
        rotate_left
        ·simp only[Act.put,List.setIfInBounds_toArray,List.set_cons_zero,List.set_cons_succ,qas,qat]
         rfl
        refine qaz (i:=5) (N:=some 22) (v:=?_) (a':=?_) #[true,true,true,false,true,true,false,false,false,false] rfl rfl (qax HT_.out (by kernel_rfl)) (fun _ _ _ h=>h) (Or.inl ⟨by rfl,?_⟩) ?_ ?_
        rotate_left
        ·intro w'
         go_simp
         with_reducible rfl
        rotate_left
        ·simp only[Act.put,List.setIfInBounds_toArray,List.set_cons_zero,List.set_cons_succ,qas,qat]
         rfl
        refine qaz (i:=6) (N:=some 23) (v:=?_) (a':=?_) #[true,true,true,false,true,true,true,false,false,false] rfl rfl (qax HT_.out (by kernel_rfl)) (fun _ _ _ h=>h) (Or.inl ⟨by rfl,?_⟩) ?_ ?_
        rotate_left
        ·intro w'
         go_simp
         with_reducible rfl
        rotate_left
        ·simp only[Act.put,List.setIfInBounds_toArray,List.set_cons_zero,List.set_cons_succ,qas,qat]
         rfl
        refine take_ (i:=3) (N:=some 20) (v:=?_) (a':=?_) #[true,true,true,true,true,true,true,false,false,false] rfl rfl (take_ofW HT_.out HW_.out (by kernel_rfl)) (fun _ _ _ h=>h) (Or.inl ⟨by rfl,?_⟩) hHeld ?_ ?_
        rotate_left
        ·rintro w' ⟨s0,s1,s2,s3,s4,s5⟩
         go_simp
         with_reducible rfl
        rotate_left
        ·simp only[Act.put,List.setIfInBounds_toArray,List.set_cons_zero,List.set_cons_succ,qas,qat]
         rfl
        refine take_ (i:=7) (N:=some 24) (v:=?_) (a':=?_) #[true,true,true,true,true,true,true,true,false,false] rfl rfl (take_ofW HT_.out HW_.out (by kernel_rfl)) (fun _ _ _ h=>h) (Or.inl ⟨by rfl,?_⟩) hHeld ?_ ?_
        rotate_left
        ·rintro w' ⟨s0,s1,s2,s3,s4,s5⟩
         go_simp
         with_reducible rfl
        rotate_left
        ·simp only[Act.put,List.setIfInBounds_toArray,List.set_cons_zero,List.set_cons_succ,qas,qat]
         rfl
        refine one_ (i:=8) (N:=some 25) #[true,true,true,true,true,true,true,true,true,false] rfl rfl (one_of HT_.out (by kernel_rfl)) (by decide) (fun K hK=>?_)
        refine goes_ Try.func42 (by kernel_rfl) rfl #[.agg #[.int .i64 ((rd_T62 l0 x5_1).f0),.int .i64 ((rd_T62 l0 x5_1).f1),.slice A126_2 ((rd_T62 l0 x5_1).f2).length c126_2],.agg #[.int .i64 ((rd_T62 l1 x5_1).f0),.int .i64 ((rd_T62 l1 x5_1).f1),.slice A127_2 ((rd_T62 l1 x5_1).f2).length c127_2]] (by rfl) rfl rfl (by(try simp only[List.map_toArray,List.map_cons,List.map_nil]);first|done|rfl|(simp only[List.length_drop,List.length_take];rfl)) ?_
        with_reducible refine(laws_eqRec.calls k1 ((rd_T62 l0 x5_1).f0) ((rd_T62 l0 x5_1).f1) _ _ ((rd_T62 l0 x5_1).f2) ((rd_T62 l1 x5_1).f0) ((rd_T62 l1 x5_1).f1) _ _ ((rd_T62 l1 x5_1).f2) false _ ?side1 ?side2 ?side3 ?side4 A7.out).mono ?_
        (case side1=>repeat(first|exact(Kd.C_below HR126_2.out HB.out)|(with_reducible refine Kd.C_alloc ?_ _)|(with_reducible refine Kd.C_drewN ?_ _)|(with_reducible refine Kd.C_drew ?_)))
        (case side2=>exact HC126_2.out)
        (case side3=>repeat(first|exact(Kd.C_below HR127_2.out HB.out)|(with_reducible refine Kd.C_alloc ?_ _)|(with_reducible refine Kd.C_drewN ?_ _)|(with_reducible refine Kd.C_drew ?_)))
        (case side4=>exact HC127_2.out)
        rintro e w12 ⟨rfl,hb⟩
        refine⟨_,rfl,?_⟩
        have n0_:=qal.mk (qae (za2 HB) hb)
        clear HB
        have HB:=n0_
        clear n0_
        (try clear hb)
        (try clear hb2)
        (try clear hk)
        (try clear hi)
        refine hK.out _ _ ⟨((HB.out.cell (World.block_lt_of_cell? w _ hw126_0)).trans hw126_0),((HB.out.cell (World.block_lt_of_cell? w _ hw126_1)).trans hw126_1),((HB.out.cell (World.block_lt_of_cell? w _ hw126_2)).trans hw126_2),((HB.out.cell (World.block_lt_of_cell? w _ hw127_0)).trans hw127_0),((HB.out.cell (World.block_lt_of_cell? w _ hw127_1)).trans hw127_1),((HB.out.cell (World.block_lt_of_cell? w _ hw127_2)).trans hw127_2)⟩ (fun hHeld=>?_)
        clear hK K
        refine norm_ (a':=?_) ?_ ?_
        rotate_left
        ·show Act.put _ (some 25) _=_
         simp only[Act.put,List.setIfInBounds_toArray,List.set_cons_zero,List.set_cons_succ,qas,qat]
         rfl
        refine qaz (i:=9) (N:=some 26) (v:=?_) (a':=?_) #[true,true,true,true,true,true,true,true,true,true] rfl rfl (qax HT_.out (by kernel_rfl)) (fun _ _ _ h=>h) (Or.inl ⟨by rfl,?_⟩) ?_ ?_
        rotate_left
        ·intro w'
         go_simp
         with_reducible rfl
        rotate_left
        ·simp only[Act.put,List.setIfInBounds_toArray,List.set_cons_zero,List.set_cons_succ,qas,qat]
         rfl
        refine done_ (done_of HT_.out (by kernel_rfl)) ?_
        try go_wp2
        go_ret
        exact⟨za9,za2 HB⟩
      ·rw[if_neg c6] at H
       exact absurd H (by simp)
     ·rw[if_neg c5] at H
      exact absurd H (by simp)
    ·rw[if_neg c4] at H
     have c4b0:decide (x5_1<(l0.length:Int))=false:=decide_eq_false c4
     clear c4
     obtain rfl:=Option.some.inj H
     go_wp2
     go_ret
     exact⟨za9,za2 HB⟩
 ·rw[if_neg c3] at H
  have c3b0:((l0.length:Int) == (l1.length:Int))=false:=beq_eq_false_iff_ne.mpr c3
  have c3b1:((l0.length:Int) != (l1.length:Int))=true:=bne_iff_ne.mpr c3
  have c3b2:(l0.length == l1.length)=false:=by first|simpa using c3|(simp at c3 ⊢;omega)
  obtain rfl:=Option.some.inj H
  go_enter Try.func101,Try.ntmps101
  go_wp2
  go_ret
  exact⟨za9,za2 HB⟩
def laws_eqLog.f (k:Nat) (l0_0:List (S62)) (a0_1:Int) (l1_0:List (S62)) (a1_1:Int):Option (Bool):=(laws_eqRecS.f k l0_0 l1_0).bind fun t131=>(if t131=true then(if a0_1=a1_1 then(some true) else(some false)) else(some false))
theorem laws_eqLog.mono:∀a0 a1 a2 a3 k,LeO (laws_eqLog.f k a0 a1 a2 a3) (laws_eqLog.f (k+1) a0 a1 a2 a3):=by
 intro a0 a1 a2 a3 k
 unfold laws_eqLog.f
 repeat' first
   |(with_reducible exact laws_eqRecS.mono _ _ _)
   |(with_reducible exact LeO.refl _)
   |(with_reducible exact LeO.none _)
   |(with_reducible refine LeO.ite ?_ ?_)
   |(with_reducible refine LeO.bind ?_ (fun _=>?_))
   |exact laws_eqRecS.mono _ _ _
   |exact LeO.none _
   |refine LeO.ite ?_ ?_
   |refine LeO.bind ?_ (fun _=>?_)
set_option maxHeartbeats 8000000 in
set_option maxRecDepth 100000 in
theorem laws_eqLog.calls (k:Nat) (A0_0:Option Addr) (c0_0:Nat) (l0_0:List (S62)) (a0_1:Int) (A1_0:Option Addr) (c1_0:Nat) (l1_0:List (S62)) (a1_1:Int) (r:Bool) (w:World) (hr0_0:Kd.C k62 w A0_0 l0_0.length l0_0) (hc0_0:l0_0.length≤c0_0) (hr1_0:Kd.C k62 w A1_0 l1_0.length l1_0) (hc1_0:l1_0.length≤c1_0) (h:laws_eqLog.f k l0_0 a0_1 l1_0 a1_1=some r) :
  Calls Try.prog 61 #[.agg #[.slice A0_0 l0_0.length c0_0,.int .i64 a0_1],.agg #[.slice A1_0 l1_0.length c1_0,.int .i64 a1_1]] w fun e w'=>e=.returned (.bool r)∧Below w.heap.size w w':=by
 have hu24:=Try.underlying24
 have HR0_0:=qal.mk hr0_0
 have HC0_0:=qal.mk hc0_0
 clear hr0_0 hc0_0
 have HR1_0:=qal.mk hr1_0
 have HC1_0:=qal.mk hc1_0
 clear hr1_0 hc1_0
 have HB:=qal.mk (Below.refl w.heap.size w)
 have H:((laws_eqRecS.f k l0_0 l1_0).bind fun t131=>(if t131=true then(if a0_1=a1_1 then(some true) else(some false)) else(some false)))=some r:=h
 clear h
 replace H:=Option.bind_eq_some_iff.mp H
 obtain⟨t131,A30,H⟩:=H
 replace H:(if t131=true then(if a0_1=a1_1 then(some true) else(some false)) else(some false))=some r:=H
 have A3:=qal.mk A30
 clear A30
 by_cases c4:t131=true
 ·subst c4
  have H1:(if a0_1=a1_1 then(some true) else(some false))=some r:=by rw[if_pos rfl] at H;exact H
  clear H
  have H:=H1
  clear H1
  by_cases c5:a0_1=a1_1
  ·rw[if_pos c5] at H
   have c5b0:(a0_1 == a1_1)=true:=beq_iff_eq.mpr c5
   have c5b1:(a0_1 != a1_1)=false:=bne_eq_false_iff_eq.mpr c5
   clear c5
   obtain rfl:=Option.some.inj H
   go_enter Try.func61,Try.ntmps61
   go_wp2_with(first|((with_reducible refine qak (N:=2) rfl ?_);refine qaj ?hg (N:=2) ?hd (cs:=#[.slice A0_0 l0_0.length c0_0,.int .i64 a0_1]) (t:=24) ?hr ?_;(case hd=>rfl);(case hg=>rfl);(case hr=>first|(go_simp;done)|(go_simp;rfl));intro gb129 hg w6 hbox hb;have n0_:=qal.mk (qae (za2 HB) hb);have n1_:=qal.mk (hbox);have n2_:=qal.mk ((by rw[hg];exact(qad (za2 HB)):w.heap.size≤gb129));have n3_:=qal.mk ((by rw[hg];exact(qad (za2 HB)):w.heap.size≤gb129));clear HB;have HB:=n0_;have BK129:=n1_;have GW129:=n2_;have GE129:=n3_;clear n0_ n1_ n2_ n3_;clear hb hbox hg)|((with_reducible refine qak (N:=3) rfl ?_);refine qaj ?hg (N:=3) ?hd (cs:=#[.slice A1_0 l1_0.length c1_0,.int .i64 a1_1]) (t:=24) ?hr ?_;(case hd=>rfl);(case hg=>rfl);(case hr=>first|(go_simp;done)|(go_simp;rfl));intro gb130 hg w7 hbox hb;have n0_:=qal.mk (qac (g:=gb129) (o:=.cells #[.slice A0_0 l0_0.length c0_0,.int .i64 a0_1] 24 (0,0)) (za0 BK129) hb);have n1_:=qal.mk (qae (za1 HB GE129) hb);have n2_:=qal.mk (hbox);have n3_:=qal.mk ((by rw[hg];exact(qad (za1 HB GE129)):w.heap.size≤gb130));have n4_:=qal.mk ((by rw[hg];exact(qad (za1 HB GE129)):w.heap.size≤gb130));have n5_:=qal.mk ((by rw[hg];exact Nat.ne_of_lt (qao (g:=gb129) (o:=.cells #[.slice A0_0 l0_0.length c0_0,.int .i64 a0_1] 24 (0,0)) (za0 BK129)):gb129≠gb130));have n6_:=qal.mk ((by rw[hg];exact Nat.ne_of_gt (qao (g:=gb129) (o:=.cells #[.slice A0_0 l0_0.length c0_0,.int .i64 a0_1] 24 (0,0)) (za0 BK129)):gb130≠gb129));clear BK129;clear HB;have BK129:=n0_;have HB:=n1_;have BK130:=n2_;have GW130:=n3_;have GE130:=n4_;have NB129_130:=n5_;have NB130_129:=n6_;clear n0_ n1_ n2_ n3_ n4_ n5_ n6_;clear hb hbox hg;have hnb8:=NB129_130.out;have hnc8:=NB130_129.out;have hcz9_0:w7.cell? ⟨gb129,0,none⟩=some (.slice A0_0 l0_0.length c0_0):=(qab BK129.out 0).trans rfl;have hcz9_1:w7.cell? ⟨gb129,1,none⟩=some (.int .i64 a0_1):=(qab BK129.out 1).trans rfl;have hfz9_0:=qaa BK129.out 0;have hfz9_1:=qaa BK129.out 1;have hcz10_0:w7.cell? ⟨gb130,0,none⟩=some (.slice A1_0 l1_0.length c1_0):=(qab BK130.out 0).trans rfl;have hcz10_1:w7.cell? ⟨gb130,1,none⟩=some (.int .i64 a1_1):=(qab BK130.out 1).trans rfl;have hfz10_0:=qaa BK130.out 0;have hfz10_1:=qaa BK130.out 1)|((with_reducible refine qai (f:=101) rfl ?_);refine qau (some 9) rfl rfl Try.func101 (by kernel_rfl) rfl #[.slice A0_0 l0_0.length c0_0,.slice A1_0 l1_0.length c1_0] rfl (by(try simp only[List.map_toArray,List.map_cons,List.map_nil]);first|done|rfl|(simp only[List.length_drop,List.length_take];rfl)) ?_;(with_reducible refine(laws_eqRecS.calls k _ _ l0_0 _ _ l1_0 true _ ?side1 ?side2 ?side3 ?side4 A3.out).mono ?_);(case side1=>repeat(first|exact(Kd.C_below HR0_0.out HB.out)|(with_reducible refine Kd.C_alloc ?_ _)|(with_reducible refine Kd.C_drewN ?_ _)|(with_reducible refine Kd.C_drew ?_)));(case side2=>exact HC0_0.out);(case side3=>repeat(first|exact(Kd.C_below HR1_0.out HB.out)|(with_reducible refine Kd.C_alloc ?_ _)|(with_reducible refine Kd.C_drewN ?_ _)|(with_reducible refine Kd.C_drew ?_)));(case side4=>exact HC1_0.out);rintro e w11 ⟨rfl,hb⟩;refine⟨_,rfl,?_⟩;have n0_:=qal.mk (qac (g:=gb129) (o:=.cells #[.slice A0_0 l0_0.length c0_0,.int .i64 a0_1] 24 (0,0)) (za0 BK129) hb);have n1_:=qal.mk (qac (g:=gb130) (o:=.cells #[.slice A1_0 l1_0.length c1_0,.int .i64 a1_1] 24 (0,0)) (za0 BK130) hb);have n2_:=qal.mk (qae (za3 HB GE129 GE130) hb);clear BK129;clear BK130;clear HB;have BK129:=n0_;have BK130:=n1_;have HB:=n2_;clear n0_ n1_ n2_;(try clear hb);(try clear hb2);(try clear hk);(try clear hi);have hcz12_0:w11.cell? ⟨gb129,0,none⟩=some (.slice A0_0 l0_0.length c0_0):=(qab BK129.out 0).trans rfl;have hcz12_1:w11.cell? ⟨gb129,1,none⟩=some (.int .i64 a0_1):=(qab BK129.out 1).trans rfl;have hfz12_0:=qaa BK129.out 0;have hfz12_1:=qaa BK129.out 1;have hcz13_0:w11.cell? ⟨gb130,0,none⟩=some (.slice A1_0 l1_0.length c1_0):=(qab BK130.out 0).trans rfl;have hcz13_1:w11.cell? ⟨gb130,1,none⟩=some (.int .i64 a1_1):=(qab BK130.out 1).trans rfl;have hfz13_0:=qaa BK130.out 0;have hfz13_1:=qaa BK130.out 1))
   go_ret
   exact⟨za9,za3 HB GE129 GE130⟩
  ·rw[if_neg c5] at H
   have c5b0:(a0_1 == a1_1)=false:=beq_eq_false_iff_ne.mpr c5
   have c5b1:(a0_1 != a1_1)=true:=bne_iff_ne.mpr c5
   obtain rfl:=Option.some.inj H
   go_enter Try.func61,Try.ntmps61
   go_wp2_with(first|((with_reducible refine qak (N:=2) rfl ?_);refine qaj ?hg (N:=2) ?hd (cs:=#[.slice A0_0 l0_0.length c0_0,.int .i64 a0_1]) (t:=24) ?hr ?_;(case hd=>rfl);(case hg=>rfl);(case hr=>first|(go_simp;done)|(go_simp;rfl));intro gb129 hg w14 hbox hb;have n0_:=qal.mk (qae (za2 HB) hb);have n1_:=qal.mk (hbox);have n2_:=qal.mk ((by rw[hg];exact(qad (za2 HB)):w.heap.size≤gb129));have n3_:=qal.mk ((by rw[hg];exact(qad (za2 HB)):w.heap.size≤gb129));clear HB;have HB:=n0_;have BK129:=n1_;have GW129:=n2_;have GE129:=n3_;clear n0_ n1_ n2_ n3_;clear hb hbox hg)|((with_reducible refine qak (N:=3) rfl ?_);refine qaj ?hg (N:=3) ?hd (cs:=#[.slice A1_0 l1_0.length c1_0,.int .i64 a1_1]) (t:=24) ?hr ?_;(case hd=>rfl);(case hg=>rfl);(case hr=>first|(go_simp;done)|(go_simp;rfl));intro gb130 hg w15 hbox hb;have n0_:=qal.mk (qac (g:=gb129) (o:=.cells #[.slice A0_0 l0_0.length c0_0,.int .i64 a0_1] 24 (0,0)) (za0 BK129) hb);have n1_:=qal.mk (qae (za1 HB GE129) hb);have n2_:=qal.mk (hbox);have n3_:=qal.mk ((by rw[hg];exact(qad (za1 HB GE129)):w.heap.size≤gb130));have n4_:=qal.mk ((by rw[hg];exact(qad (za1 HB GE129)):w.heap.size≤gb130));have n5_:=qal.mk ((by rw[hg];exact Nat.ne_of_lt (qao (g:=gb129) (o:=.cells #[.slice A0_0 l0_0.length c0_0,.int .i64 a0_1] 24 (0,0)) (za0 BK129)):gb129≠gb130));have n6_:=qal.mk ((by rw[hg];exact Nat.ne_of_gt (qao (g:=gb129) (o:=.cells #[.slice A0_0 l0_0.length c0_0,.int .i64 a0_1] 24 (0,0)) (za0 BK129)):gb130≠gb129));clear BK129;clear HB;have BK129:=n0_;have HB:=n1_;have BK130:=n2_;have GW130:=n3_;have GE130:=n4_;have NB129_130:=n5_;have NB130_129:=n6_;clear n0_ n1_ n2_ n3_ n4_ n5_ n6_;clear hb hbox hg;have hnb16:=NB129_130.out;have hnc16:=NB130_129.out;have hcz17_0:w15.cell? ⟨gb129,0,none⟩=some (.slice A0_0 l0_0.length c0_0):=(qab BK129.out 0).trans rfl;have hcz17_1:w15.cell? ⟨gb129,1,none⟩=some (.int .i64 a0_1):=(qab BK129.out 1).trans rfl;have hfz17_0:=qaa BK129.out 0;have hfz17_1:=qaa BK129.out 1;have hcz18_0:w15.cell? ⟨gb130,0,none⟩=some (.slice A1_0 l1_0.length c1_0):=(qab BK130.out 0).trans rfl;have hcz18_1:w15.cell? ⟨gb130,1,none⟩=some (.int .i64 a1_1):=(qab BK130.out 1).trans rfl;have hfz18_0:=qaa BK130.out 0;have hfz18_1:=qaa BK130.out 1)|((with_reducible refine qai (f:=101) rfl ?_);refine qau (some 9) rfl rfl Try.func101 (by kernel_rfl) rfl #[.slice A0_0 l0_0.length c0_0,.slice A1_0 l1_0.length c1_0] rfl (by(try simp only[List.map_toArray,List.map_cons,List.map_nil]);first|done|rfl|(simp only[List.length_drop,List.length_take];rfl)) ?_;(with_reducible refine(laws_eqRecS.calls k _ _ l0_0 _ _ l1_0 true _ ?side1 ?side2 ?side3 ?side4 A3.out).mono ?_);(case side1=>repeat(first|exact(Kd.C_below HR0_0.out HB.out)|(with_reducible refine Kd.C_alloc ?_ _)|(with_reducible refine Kd.C_drewN ?_ _)|(with_reducible refine Kd.C_drew ?_)));(case side2=>exact HC0_0.out);(case side3=>repeat(first|exact(Kd.C_below HR1_0.out HB.out)|(with_reducible refine Kd.C_alloc ?_ _)|(with_reducible refine Kd.C_drewN ?_ _)|(with_reducible refine Kd.C_drew ?_)));(case side4=>exact HC1_0.out);rintro e w19 ⟨rfl,hb⟩;refine⟨_,rfl,?_⟩;have n0_:=qal.mk (qac (g:=gb129) (o:=.cells #[.slice A0_0 l0_0.length c0_0,.int .i64 a0_1] 24 (0,0)) (za0 BK129) hb);have n1_:=qal.mk (qac (g:=gb130) (o:=.cells #[.slice A1_0 l1_0.length c1_0,.int .i64 a1_1] 24 (0,0)) (za0 BK130) hb);have n2_:=qal.mk (qae (za3 HB GE129 GE130) hb);clear BK129;clear BK130;clear HB;have BK129:=n0_;have BK130:=n1_;have HB:=n2_;clear n0_ n1_ n2_;(try clear hb);(try clear hb2);(try clear hk);(try clear hi);have hcz20_0:w19.cell? ⟨gb129,0,none⟩=some (.slice A0_0 l0_0.length c0_0):=(qab BK129.out 0).trans rfl;have hcz20_1:w19.cell? ⟨gb129,1,none⟩=some (.int .i64 a0_1):=(qab BK129.out 1).trans rfl;have hfz20_0:=qaa BK129.out 0;have hfz20_1:=qaa BK129.out 1;have hcz21_0:w19.cell? ⟨gb130,0,none⟩=some (.slice A1_0 l1_0.length c1_0):=(qab BK130.out 0).trans rfl;have hcz21_1:w19.cell? ⟨gb130,1,none⟩=some (.int .i64 a1_1):=(qab BK130.out 1).trans rfl;have hfz21_0:=qaa BK130.out 0;have hfz21_1:=qaa BK130.out 1))
   go_ret
   exact⟨za9,za3 HB GE129 GE130⟩
 ·replace c4:=Bool.eq_false_iff.mpr c4
  subst c4
  have H1:(some false)=some r:=by rw[if_neg (show ¬(false=true) by decide)] at H;exact H
  clear H
  have H:=H1
  clear H1
  obtain rfl:=Option.some.inj H
  go_enter Try.func61,Try.ntmps61
  go_wp2_with(first|((with_reducible refine qak (N:=2) rfl ?_);refine qaj ?hg (N:=2) ?hd (cs:=#[.slice A0_0 l0_0.length c0_0,.int .i64 a0_1]) (t:=24) ?hr ?_;(case hd=>rfl);(case hg=>rfl);(case hr=>first|(go_simp;done)|(go_simp;rfl));intro gb129 hg w22 hbox hb;have n0_:=qal.mk (qae (za2 HB) hb);have n1_:=qal.mk (hbox);have n2_:=qal.mk ((by rw[hg];exact(qad (za2 HB)):w.heap.size≤gb129));have n3_:=qal.mk ((by rw[hg];exact(qad (za2 HB)):w.heap.size≤gb129));clear HB;have HB:=n0_;have BK129:=n1_;have GW129:=n2_;have GE129:=n3_;clear n0_ n1_ n2_ n3_;clear hb hbox hg)|((with_reducible refine qak (N:=3) rfl ?_);refine qaj ?hg (N:=3) ?hd (cs:=#[.slice A1_0 l1_0.length c1_0,.int .i64 a1_1]) (t:=24) ?hr ?_;(case hd=>rfl);(case hg=>rfl);(case hr=>first|(go_simp;done)|(go_simp;rfl));intro gb130 hg w23 hbox hb;have n0_:=qal.mk (qac (g:=gb129) (o:=.cells #[.slice A0_0 l0_0.length c0_0,.int .i64 a0_1] 24 (0,0)) (za0 BK129) hb);have n1_:=qal.mk (qae (za1 HB GE129) hb);have n2_:=qal.mk (hbox);have n3_:=qal.mk ((by rw[hg];exact(qad (za1 HB GE129)):w.heap.size≤gb130));have n4_:=qal.mk ((by rw[hg];exact(qad (za1 HB GE129)):w.heap.size≤gb130));have n5_:=qal.mk ((by rw[hg];exact Nat.ne_of_lt (qao (g:=gb129) (o:=.cells #[.slice A0_0 l0_0.length c0_0,.int .i64 a0_1] 24 (0,0)) (za0 BK129)):gb129≠gb130));have n6_:=qal.mk ((by rw[hg];exact Nat.ne_of_gt (qao (g:=gb129) (o:=.cells #[.slice A0_0 l0_0.length c0_0,.int .i64 a0_1] 24 (0,0)) (za0 BK129)):gb130≠gb129));clear BK129;clear HB;have BK129:=n0_;have HB:=n1_;have BK130:=n2_;have GW130:=n3_;have GE130:=n4_;have NB129_130:=n5_;have NB130_129:=n6_;clear n0_ n1_ n2_ n3_ n4_ n5_ n6_;clear hb hbox hg;have hnb24:=NB129_130.out;have hnc24:=NB130_129.out;have hcz25_0:w23.cell? ⟨gb129,0,none⟩=some (.slice A0_0 l0_0.length c0_0):=(qab BK129.out 0).trans rfl;have hcz25_1:w23.cell? ⟨gb129,1,none⟩=some (.int .i64 a0_1):=(qab BK129.out 1).trans rfl;have hfz25_0:=qaa BK129.out 0;have hfz25_1:=qaa BK129.out 1;have hcz26_0:w23.cell? ⟨gb130,0,none⟩=some (.slice A1_0 l1_0.length c1_0):=(qab BK130.out 0).trans rfl;have hcz26_1:w23.cell? ⟨gb130,1,none⟩=some (.int .i64 a1_1):=(qab BK130.out 1).trans rfl;have hfz26_0:=qaa BK130.out 0;have hfz26_1:=qaa BK130.out 1)|((with_reducible refine qai (f:=101) rfl ?_);refine qau (some 9) rfl rfl Try.func101 (by kernel_rfl) rfl #[.slice A0_0 l0_0.length c0_0,.slice A1_0 l1_0.length c1_0] rfl (by(try simp only[List.map_toArray,List.map_cons,List.map_nil]);first|done|rfl|(simp only[List.length_drop,List.length_take];rfl)) ?_;(with_reducible refine(laws_eqRecS.calls k _ _ l0_0 _ _ l1_0 false _ ?side1 ?side2 ?side3 ?side4 A3.out).mono ?_);(case side1=>repeat(first|exact(Kd.C_below HR0_0.out HB.out)|(with_reducible refine Kd.C_alloc ?_ _)|(with_reducible refine Kd.C_drewN ?_ _)|(with_reducible refine Kd.C_drew ?_)));(case side2=>exact HC0_0.out);(case side3=>repeat(first|exact(Kd.C_below HR1_0.out HB.out)|(with_reducible refine Kd.C_alloc ?_ _)|(with_reducible refine Kd.C_drewN ?_ _)|(with_reducible refine Kd.C_drew ?_)));(case side4=>exact HC1_0.out);rintro e w27 ⟨rfl,hb⟩;refine⟨_,rfl,?_⟩;have n0_:=qal.mk (qac (g:=gb129) (o:=.cells #[.slice A0_0 l0_0.length c0_0,.int .i64 a0_1] 24 (0,0)) (za0 BK129) hb);have n1_:=qal.mk (qac (g:=gb130) (o:=.cells #[.slice A1_0 l1_0.length c1_0,.int .i64 a1_1] 24 (0,0)) (za0 BK130) hb);have n2_:=qal.mk (qae (za3 HB GE129 GE130) hb);clear BK129;clear BK130;clear HB;have BK129:=n0_;have BK130:=n1_;have HB:=n2_;clear n0_ n1_ n2_;(try clear hb);(try clear hb2);(try clear hk);(try clear hi)))
  go_ret
  exact⟨za9,za3 HB GE129 GE130⟩
end Go.Proofs.Ytjccnaklodbbfaa.Print
