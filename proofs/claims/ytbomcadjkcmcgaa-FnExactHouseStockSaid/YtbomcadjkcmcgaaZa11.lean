-- Written by squeeze.py: not trusted, Lean checks it.
import Derived.Test.YtbomcadjkcmcgaaZK
import Derived.Test.YtbomcadjkcmcgaaZa10
namespace Go.Proofs.Ytbomcadjkcmcgaa.Print
open Go.RowKit Go.Proofs.YtbomcadjkcmcgaaW.PrintWords Go.Proofs.YtbomcadjkcmcgaaW.PrintLast Go.Proofs.YtbomcadjkcmcgaaW.PrintMore
attribute [local go_sem] max2_int min2_int max_two min_two max_three min_three max_four min_four
set_option linter.unusedVariables false
set_option linter.unusedSimpArgs false
def laws_eqRecS.l0:Nat→List (S62)→List (S62)→Int→Option (Bool)
 |0,_,_,_=>none
 |k+1,x0,x1,x5=>if x5<(x0.length:Int) then(if 0≤x5 then(if x5<(x1.length:Int) then((laws_eqRec.f k ((rd_T62 x0 x5).f0) ((rd_T62 x0 x5).f1) ((rd_T62 x0 x5).f2) ((rd_T62 x1 x5).f0) ((rd_T62 x1 x5).f1) ((rd_T62 x1 x5).f2)).bind fun t284=>(if t284=true then(laws_eqRecS.l0 k x0 x1 (wrap64 (x5+1))) else(some false))) else(none)) else(none)) else(some true)
def laws_eqRecS.f (k:Nat) (l0:List (S62)) (l1:List (S62)):Option (Bool):=if(l0.length:Int)=(l1.length:Int) then(laws_eqRecS.l0 k l0 l1 0) else(some false)
theorem laws_eqRecS.mono_l:∀k,(∀y0 y1 y2,LeO (laws_eqRecS.l0 k y0 y1 y2) (laws_eqRecS.l0 (k+1) y0 y1 y2))
 |0=>fun _ _ _ r h=>by simp[laws_eqRecS.l0] at h
 |k+1=>by
  have ih0:=laws_eqRecS.mono_l k
  ·intro y0 y1 y2;unfold laws_eqRecS.l0
   repeat' first|(with_reducible exact ih0 _ _ _)|(with_reducible exact laws_eqRec.mono _ _ _ _ _ _ _)|(with_reducible exact LeO.refl _)|(with_reducible exact LeO.none _)|(with_reducible refine LeO.ite ?_ ?_)|(with_reducible refine LeO.bind ?_ (fun _=>?_))|exact ih0 _ _ _|exact laws_eqRec.mono _ _ _ _ _ _ _|exact LeO.none _|refine LeO.ite ?_ ?_|refine LeO.bind ?_ (fun _=>?_)
theorem laws_eqRecS.mono:∀a0 a1 k,LeO (laws_eqRecS.f k a0 a1) (laws_eqRecS.f (k+1) a0 a1):=by
 intro a0 a1 k;have ih0:=laws_eqRecS.mono_l k;unfold laws_eqRecS.f
 repeat' first|(with_reducible exact ih0 _ _ _)|(with_reducible exact laws_eqRec.mono _ _ _ _ _ _ _)|(with_reducible exact LeO.refl _)|(with_reducible exact LeO.none _)|(with_reducible refine LeO.ite ?_ ?_)|(with_reducible refine LeO.bind ?_ (fun _=>?_))|exact ih0 _ _ _|exact laws_eqRec.mono _ _ _ _ _ _ _|exact LeO.none _|refine LeO.ite ?_ ?_|refine LeO.bind ?_ (fun _=>?_)
def laws_eqRecS.T6:Bool × List (List Nat × List Nat):=(true,[([],[]),([],[]),([0,1],[0,1]),([2],[2]),([],[]),([],[]),([4,5],[4,5]),([6],[6]),([3,7],[3,7]),([8],[8])])
def laws_eqRecS.B6:List Nat:=[0,0,3,7,0,0,48,112,255,511]
theorem laws_eqRecS.tab6:rtab .any (opsOf Try.f43 6)=laws_eqRecS.T6:=by kernel_rfl
theorem laws_eqRecS.bits6:waitsOk laws_eqRecS.T6.2 laws_eqRecS.B6=true:=by kernel_rfl
set_option maxHeartbeats 8000000 in
set_option maxRecDepth 100000 in
theorem laws_eqRecS.calls (k:Nat) (A0:Option Addr) (c0:Nat) (l0:List (S62)) (A1:Option Addr) (c1:Nat) (l1:List (S62)) (r:Bool) (w:World) (hr0:Kd.C k62 w A0 l0.length l0) (hc0:l0.length≤c0) (hr1:Kd.C k62 w A1 l1.length l1) (hc1:l1.length≤c1) (h:laws_eqRecS.f k l0 l1=some r) :
  Calls Try.prog 43 #[.slice A0 l0.length c0,.slice A1 l1.length c1] w fun e w'=>e=.returned (.bool r)∧Below w.heap.size w w':=by
 have hu62:=Try.underlying62;have HR0:=qah.mk hr0;have HC0:=qah.mk hc0;clear hr0 hc0;have HR1:=qah.mk hr1;have HC1:=qah.mk hc1;clear hr1 hc1;have HB:=qah.mk (Below.refl w.heap.size w);have H:(if(l0.length:Int)=(l1.length:Int) then(laws_eqRecS.l0 k l0 l1 0) else(some false))=some r:=h;clear h;by_cases c3:(l0.length:Int)=(l1.length:Int)
 ·rw[if_pos c3] at H;have c3b0:((l0.length:Int) == (l1.length:Int))=true:=beq_iff_eq.mpr c3;have c3b1:((l0.length:Int) != (l1.length:Int))=false:=bne_eq_false_iff_eq.mpr c3
  have c3b2:(l0.length == l1.length)=true:=by first|simpa using c3|(simp at c3 ⊢;omega)
  clear c3;have H':=qah.mk H;clear H;go_enter Try.func43,Try.ntmps43;go_wp2
  go_loopg [5] k (fun kq v5 w'=>∃(x5_1:Int),v5=.int .i64 x5_1∧qah (laws_eqRecS.l0 kq l0 l1 x5_1=some r)∧qah (kq≤k)∧qah (Below w.heap.size w w'))
  case atStart=>exact⟨(0),(za11),H',⟨Nat.le_refl _⟩,⟨za1 HB⟩⟩
  case round=>
   clear H'
   try clear c1
   try clear p2
   try clear c3
   try clear c3b0
   try clear c3b1
   try clear c3b2
   obtain⟨x5_1,rfl,HA,HK1,HB⟩:=hrel
   cases gk with
   |zero=>exact absurd HA.out (by simp[laws_eqRecS.l0])
   |succ k1=>
    have H:=HA.out;clear HA;simp only[laws_eqRecS.l0] at H;by_cases c4:x5_1<(l0.length:Int)
    ·rw[if_pos c4] at H;have c4b0:decide (x5_1<(l0.length:Int))=true:=decide_eq_true c4;clear c4;by_cases c5:0≤x5_1
     ·rw[if_pos c5] at H;have c5b0:decide (0≤x5_1)=true:=decide_eq_true c5;clear c5;by_cases c6:x5_1<(l1.length:Int)
      ·rw[if_pos c6] at H;have c6b0:decide (x5_1<(l1.length:Int))=true:=decide_eq_true c6;clear c6;replace H:=Option.bind_eq_some_iff.mp H;obtain⟨t284,A70,H⟩:=H;replace H:(if t284=true then(laws_eqRecS.l0 k1 l0 l1 (wrap64 (x5_1+1))) else(some false))=some r:=H;have A7:=qah.mk A70;clear A70;by_cases c8:t284=true
       ·subst c8
        have H1:(laws_eqRecS.l0 k1 l0 l1 (wrap64 (x5_1+1)))=some r:=by rw[if_pos rfl] at H;exact H
        clear H;have H:=H1;clear H1;have H':=qah.mk H;clear H
        try go_wp2
        replace HB:=qah.mk (below_drew1 HB.out);have p282:0≤(x5_1:Int):=of_decide_eq_true (za7);have q282:x5_1<(l0.length:Int):=of_decide_eq_true (za7);obtain⟨ad282,A282_2,c282_2,e282,hx282_0,hx282_1,hx282_2,hl282_2,hi282_2⟩:=at_T62 HR0.out x5_1 p282 q282;have hw282_2:=hx282_2;have hw282_1:=hx282_1;have hw282_0:=hx282_0
        cases e282
        have hxo282_2:=qah.mk hx282_2;replace hx282_0:=(HB.out.cell (World.block_lt_of_cell? w _ hx282_0)).trans hx282_0;replace hx282_1:=(HB.out.cell (World.block_lt_of_cell? w _ hx282_1)).trans hx282_1;replace hx282_2:=(HB.out.cell (World.block_lt_of_cell? w _ hx282_2)).trans hx282_2;have HR282_2:=qah.mk hi282_2;have HC282_2:=qah.mk hl282_2;clear hi282_2 hl282_2;replace p282:=eq_true p282;replace q282:=eq_true q282;have p283:0≤(x5_1:Int):=of_decide_eq_true (za7);have q283:x5_1<(l1.length:Int):=of_decide_eq_true (za7);obtain⟨ad283,A283_2,c283_2,e283,hx283_0,hx283_1,hx283_2,hl283_2,hi283_2⟩:=at_T62 HR1.out x5_1 p283 q283;have hw283_2:=hx283_2;have hw283_1:=hx283_1;have hw283_0:=hx283_0
        cases e283
        have hxo283_2:=qah.mk hx283_2;replace hx283_0:=(HB.out.cell (World.block_lt_of_cell? w _ hx283_0)).trans hx283_0;replace hx283_1:=(HB.out.cell (World.block_lt_of_cell? w _ hx283_1)).trans hx283_1;replace hx283_2:=(HB.out.cell (World.block_lt_of_cell? w _ hx283_2)).trans hx283_2;have HR283_2:=qah.mk hi283_2;have HC283_2:=qah.mk hl283_2;clear hi283_2 hl283_2;replace p283:=eq_true p283;replace q283:=eq_true q283
        refine start_ (n:=10) (S:=fun w'=>w'.cell? (ad282.add ((x5_1).toNat*3))=some (.int .i64 ((rd_T62 l0 x5_1).f0))∧w'.cell? ⟨(ad282.add ((x5_1).toNat*3)).block,(ad282.add ((x5_1).toNat*3)).off+1,none⟩=some (.int .i64 ((rd_T62 l0 x5_1).f1))∧w'.cell? ⟨(ad282.add ((x5_1).toNat*3)).block,(ad282.add ((x5_1).toNat*3)).off+2,none⟩=some (.slice A282_2 ((rd_T62 l0 x5_1).f2).length c282_2)∧w'.cell? (ad283.add ((x5_1).toNat*3))=some (.int .i64 ((rd_T62 l1 x5_1).f0))∧w'.cell? ⟨(ad283.add ((x5_1).toNat*3)).block,(ad283.add ((x5_1).toNat*3)).off+1,none⟩=some (.int .i64 ((rd_T62 l1 x5_1).f1))∧w'.cell? ⟨(ad283.add ((x5_1).toNat*3)).block,(ad283.add ((x5_1).toNat*3)).off+2,none⟩=some (.slice A283_2 ((rd_T62 l1 x5_1).f2).length c283_2)) (ds:=[]) #[false,false,false,false,false,false,false,false,false,false] (by kernel_rfl) rfl rfl ⟨((HB.out.cell (World.block_lt_of_cell? w _ hw282_0)).trans hw282_0),((HB.out.cell (World.block_lt_of_cell? w _ hw282_1)).trans hw282_1),((HB.out.cell (World.block_lt_of_cell? w _ hw282_2)).trans hw282_2),((HB.out.cell (World.block_lt_of_cell? w _ hw283_0)).trans hw283_0),((HB.out.cell (World.block_lt_of_cell? w _ hw283_1)).trans hw283_1),((HB.out.cell (World.block_lt_of_cell? w _ hw283_2)).trans hw283_2)⟩ (fun hHeld=>?_);refine with_tabW laws_eqRecS.tab6 laws_eqRecS.bits6 (fun HT_ HW_=>?_)
        generalize wr.drew=w9 at HB HR282_2 HR283_2 hx282_0 hx282_1 hx282_2 hx283_0 hx283_1 hx283_2 hHeld ⊢;refine qaq (i:=0) (N:=some 17) (v:=?_) (a':=?_) #[true,false,false,false,false,false,false,false,false,false] rfl rfl (qal HT_.out (by kernel_rfl)) (fun _ _ _ h=>h) (Or.inl ⟨by rfl,?_⟩) ?_ ?_;rotate_left
        ·intro w';go_simp
         with_reducible rfl
        rotate_left
        ·simp only[Act.put,List.setIfInBounds_toArray,List.set_cons_zero,List.set_cons_succ,qaj,qak];rfl
        refine qaq (i:=1) (N:=some 18) (v:=?_) (a':=?_) #[true,true,false,false,false,false,false,false,false,false] rfl rfl (qal HT_.out (by kernel_rfl)) (fun _ _ _ h=>h) (Or.inl ⟨by rfl,?_⟩) ?_ ?_;rotate_left
        ·intro w';go_simp
         with_reducible rfl
        rotate_left
        ·simp only[Act.put,List.setIfInBounds_toArray,List.set_cons_zero,List.set_cons_succ,qaj,qak];rfl
        refine qaq (i:=2) (N:=some 19) (v:=?_) (a':=?_) #[true,true,true,false,false,false,false,false,false,false] rfl rfl (qal HT_.out (by kernel_rfl)) (fun _ _ _ h=>h) (Or.inl ⟨by rfl,?_⟩) ?_ ?_;rotate_left
        ·intro w';go_simp
         with_reducible rfl
        rotate_left
        ·simp only[Act.put,List.setIfInBounds_toArray,List.set_cons_zero,List.set_cons_succ,qaj,qak];rfl
        refine qaq (i:=4) (N:=some 21) (v:=?_) (a':=?_) #[true,true,true,false,true,false,false,false,false,false] rfl rfl (qal HT_.out (by kernel_rfl)) (fun _ _ _ h=>h) (Or.inl ⟨by rfl,?_⟩) ?_ ?_;rotate_left
        ·intro w';go_simp
         with_reducible rfl
        rotate_left
        ·simp only[Act.put,List.setIfInBounds_toArray,List.set_cons_zero,List.set_cons_succ,qaj,qak];rfl
        refine qaq (i:=5) (N:=some 22) (v:=?_) (a':=?_) #[true,true,true,false,true,true,false,false,false,false] rfl rfl (qal HT_.out (by kernel_rfl)) (fun _ _ _ h=>h) (Or.inl ⟨by rfl,?_⟩) ?_ ?_;rotate_left
        ·intro w';go_simp
         with_reducible rfl
        rotate_left
        ·simp only[Act.put,List.setIfInBounds_toArray,List.set_cons_zero,List.set_cons_succ,qaj,qak];rfl
        refine qaq (i:=6) (N:=some 23) (v:=?_) (a':=?_) #[true,true,true,false,true,true,true,false,false,false] rfl rfl (qal HT_.out (by kernel_rfl)) (fun _ _ _ h=>h) (Or.inl ⟨by rfl,?_⟩) ?_ ?_;rotate_left
        ·intro w';go_simp
         with_reducible rfl
        rotate_left
        ·simp only[Act.put,List.setIfInBounds_toArray,List.set_cons_zero,List.set_cons_succ,qaj,qak];rfl
        refine take_ (i:=3) (N:=some 20) (v:=?_) (a':=?_) #[true,true,true,true,true,true,true,false,false,false] rfl rfl (take_ofW HT_.out HW_.out (by kernel_rfl)) (fun _ _ _ h=>h) (Or.inl ⟨by rfl,?_⟩) hHeld ?_ ?_;rotate_left
        ·rintro w' ⟨s0,s1,s2,s3,s4,s5⟩;go_simp
         with_reducible rfl
        rotate_left
        ·simp only[Act.put,List.setIfInBounds_toArray,List.set_cons_zero,List.set_cons_succ,qaj,qak];rfl
        refine take_ (i:=7) (N:=some 24) (v:=?_) (a':=?_) #[true,true,true,true,true,true,true,true,false,false] rfl rfl (take_ofW HT_.out HW_.out (by kernel_rfl)) (fun _ _ _ h=>h) (Or.inl ⟨by rfl,?_⟩) hHeld ?_ ?_;rotate_left
        ·rintro w' ⟨s0,s1,s2,s3,s4,s5⟩;go_simp
         with_reducible rfl
        rotate_left
        ·simp only[Act.put,List.setIfInBounds_toArray,List.set_cons_zero,List.set_cons_succ,qaj,qak];rfl
        refine one_ (i:=8) (N:=some 25) #[true,true,true,true,true,true,true,true,true,false] rfl rfl (one_of HT_.out (by kernel_rfl)) (by decide) (fun K hK=>?_);refine goes_ Try.func56 (by kernel_rfl) rfl #[.agg #[.int .i64 ((rd_T62 l0 x5_1).f0),.int .i64 ((rd_T62 l0 x5_1).f1),.slice A282_2 ((rd_T62 l0 x5_1).f2).length c282_2],.agg #[.int .i64 ((rd_T62 l1 x5_1).f0),.int .i64 ((rd_T62 l1 x5_1).f1),.slice A283_2 ((rd_T62 l1 x5_1).f2).length c283_2]] (by rfl) rfl rfl (by(try simp only[List.map_toArray,List.map_cons,List.map_nil]);first|done|rfl|(simp only[List.length_drop,List.length_take];rfl)) ?_
        with_reducible refine(laws_eqRec.calls k1 ((rd_T62 l0 x5_1).f0) ((rd_T62 l0 x5_1).f1) _ _ ((rd_T62 l0 x5_1).f2) ((rd_T62 l1 x5_1).f0) ((rd_T62 l1 x5_1).f1) _ _ ((rd_T62 l1 x5_1).f2) true _ ?side1 ?side2 ?side3 ?side4 A7.out).mono ?_
        (case side1=>exact zR HR282_2 HB);(case side2=>exact HC282_2.out);(case side3=>exact zR HR283_2 HB);(case side4=>exact HC283_2.out);rintro e w10 ⟨rfl,hb⟩;refine⟨_,rfl,?_⟩;replace HB:=qah.mk (qaa (za1 HB) hb);(try clear hb);(try clear hb2);(try clear hk);(try clear hi);refine hK.out _ _ ⟨((HB.out.cell (World.block_lt_of_cell? w _ hw282_0)).trans hw282_0),((HB.out.cell (World.block_lt_of_cell? w _ hw282_1)).trans hw282_1),((HB.out.cell (World.block_lt_of_cell? w _ hw282_2)).trans hw282_2),((HB.out.cell (World.block_lt_of_cell? w _ hw283_0)).trans hw283_0),((HB.out.cell (World.block_lt_of_cell? w _ hw283_1)).trans hw283_1),((HB.out.cell (World.block_lt_of_cell? w _ hw283_2)).trans hw283_2)⟩ (fun hHeld=>?_);clear hK K;refine norm_ (a':=?_) ?_ ?_;rotate_left
        ·show Act.put _ (some 25) _=_;simp only[Act.put,List.setIfInBounds_toArray,List.set_cons_zero,List.set_cons_succ,qaj,qak];rfl
        refine qaq (i:=9) (N:=some 26) (v:=?_) (a':=?_) #[true,true,true,true,true,true,true,true,true,true] rfl rfl (qal HT_.out (by kernel_rfl)) (fun _ _ _ h=>h) (Or.inl ⟨by rfl,?_⟩) ?_ ?_;rotate_left
        ·intro w';go_simp
         with_reducible rfl
        rotate_left
        ·simp only[Act.put,List.setIfInBounds_toArray,List.set_cons_zero,List.set_cons_succ,qaj,qak];rfl
        refine done_ (done_of HT_.out (by kernel_rfl)) ?_
        try go_wp2
        go_roundg k1
        case measure=>have:=HK1.out;omega
        case rel=>exact⟨(wrap64 (x5_1+1)),(za11),H',⟨by have:=HK1.out;omega⟩,⟨za1 HB⟩⟩
       ·replace c8:=Bool.eq_false_iff.mpr c8;subst c8
        have H1:(some false)=some r:=by rw[if_neg (show ¬(false=true) by decide)] at H;exact H
        clear H;have H:=H1;clear H1;obtain rfl:=Option.some.inj H
        try go_wp2
        replace HB:=qah.mk (below_drew1 HB.out);have p282:0≤(x5_1:Int):=of_decide_eq_true (za7);have q282:x5_1<(l0.length:Int):=of_decide_eq_true (za7);obtain⟨ad282,A282_2,c282_2,e282,hx282_0,hx282_1,hx282_2,hl282_2,hi282_2⟩:=at_T62 HR0.out x5_1 p282 q282;have hw282_2:=hx282_2;have hw282_1:=hx282_1;have hw282_0:=hx282_0
        cases e282
        have hxo282_2:=qah.mk hx282_2;replace hx282_0:=(HB.out.cell (World.block_lt_of_cell? w _ hx282_0)).trans hx282_0;replace hx282_1:=(HB.out.cell (World.block_lt_of_cell? w _ hx282_1)).trans hx282_1;replace hx282_2:=(HB.out.cell (World.block_lt_of_cell? w _ hx282_2)).trans hx282_2;have HR282_2:=qah.mk hi282_2;have HC282_2:=qah.mk hl282_2;clear hi282_2 hl282_2;replace p282:=eq_true p282;replace q282:=eq_true q282;have p283:0≤(x5_1:Int):=of_decide_eq_true (za7);have q283:x5_1<(l1.length:Int):=of_decide_eq_true (za7);obtain⟨ad283,A283_2,c283_2,e283,hx283_0,hx283_1,hx283_2,hl283_2,hi283_2⟩:=at_T62 HR1.out x5_1 p283 q283;have hw283_2:=hx283_2;have hw283_1:=hx283_1;have hw283_0:=hx283_0
        cases e283
        have hxo283_2:=qah.mk hx283_2;replace hx283_0:=(HB.out.cell (World.block_lt_of_cell? w _ hx283_0)).trans hx283_0;replace hx283_1:=(HB.out.cell (World.block_lt_of_cell? w _ hx283_1)).trans hx283_1;replace hx283_2:=(HB.out.cell (World.block_lt_of_cell? w _ hx283_2)).trans hx283_2;have HR283_2:=qah.mk hi283_2;have HC283_2:=qah.mk hl283_2;clear hi283_2 hl283_2;replace p283:=eq_true p283;replace q283:=eq_true q283
        refine start_ (n:=10) (S:=fun w'=>w'.cell? (ad282.add ((x5_1).toNat*3))=some (.int .i64 ((rd_T62 l0 x5_1).f0))∧w'.cell? ⟨(ad282.add ((x5_1).toNat*3)).block,(ad282.add ((x5_1).toNat*3)).off+1,none⟩=some (.int .i64 ((rd_T62 l0 x5_1).f1))∧w'.cell? ⟨(ad282.add ((x5_1).toNat*3)).block,(ad282.add ((x5_1).toNat*3)).off+2,none⟩=some (.slice A282_2 ((rd_T62 l0 x5_1).f2).length c282_2)∧w'.cell? (ad283.add ((x5_1).toNat*3))=some (.int .i64 ((rd_T62 l1 x5_1).f0))∧w'.cell? ⟨(ad283.add ((x5_1).toNat*3)).block,(ad283.add ((x5_1).toNat*3)).off+1,none⟩=some (.int .i64 ((rd_T62 l1 x5_1).f1))∧w'.cell? ⟨(ad283.add ((x5_1).toNat*3)).block,(ad283.add ((x5_1).toNat*3)).off+2,none⟩=some (.slice A283_2 ((rd_T62 l1 x5_1).f2).length c283_2)) (ds:=[]) #[false,false,false,false,false,false,false,false,false,false] (by kernel_rfl) rfl rfl ⟨((HB.out.cell (World.block_lt_of_cell? w _ hw282_0)).trans hw282_0),((HB.out.cell (World.block_lt_of_cell? w _ hw282_1)).trans hw282_1),((HB.out.cell (World.block_lt_of_cell? w _ hw282_2)).trans hw282_2),((HB.out.cell (World.block_lt_of_cell? w _ hw283_0)).trans hw283_0),((HB.out.cell (World.block_lt_of_cell? w _ hw283_1)).trans hw283_1),((HB.out.cell (World.block_lt_of_cell? w _ hw283_2)).trans hw283_2)⟩ (fun hHeld=>?_);refine with_tabW laws_eqRecS.tab6 laws_eqRecS.bits6 (fun HT_ HW_=>?_)
        generalize wr.drew=w11 at HB HR282_2 HR283_2 hx282_0 hx282_1 hx282_2 hx283_0 hx283_1 hx283_2 hHeld ⊢;refine qaq (i:=0) (N:=some 17) (v:=?_) (a':=?_) #[true,false,false,false,false,false,false,false,false,false] rfl rfl (qal HT_.out (by kernel_rfl)) (fun _ _ _ h=>h) (Or.inl ⟨by rfl,?_⟩) ?_ ?_;rotate_left
        ·intro w';go_simp
         with_reducible rfl
        rotate_left
        ·simp only[Act.put,List.setIfInBounds_toArray,List.set_cons_zero,List.set_cons_succ,qaj,qak];rfl
        refine qaq (i:=1) (N:=some 18) (v:=?_) (a':=?_) #[true,true,false,false,false,false,false,false,false,false] rfl rfl (qal HT_.out (by kernel_rfl)) (fun _ _ _ h=>h) (Or.inl ⟨by rfl,?_⟩) ?_ ?_;rotate_left
        ·intro w';go_simp
         with_reducible rfl
        rotate_left
        ·simp only[Act.put,List.setIfInBounds_toArray,List.set_cons_zero,List.set_cons_succ,qaj,qak];rfl
        refine qaq (i:=2) (N:=some 19) (v:=?_) (a':=?_) #[true,true,true,false,false,false,false,false,false,false] rfl rfl (qal HT_.out (by kernel_rfl)) (fun _ _ _ h=>h) (Or.inl ⟨by rfl,?_⟩) ?_ ?_;rotate_left
        ·intro w';go_simp
         with_reducible rfl
        rotate_left
        ·simp only[Act.put,List.setIfInBounds_toArray,List.set_cons_zero,List.set_cons_succ,qaj,qak];rfl
        refine qaq (i:=4) (N:=some 21) (v:=?_) (a':=?_) #[true,true,true,false,true,false,false,false,false,false] rfl rfl (qal HT_.out (by kernel_rfl)) (fun _ _ _ h=>h) (Or.inl ⟨by rfl,?_⟩) ?_ ?_;rotate_left
        ·intro w';go_simp
         with_reducible rfl
        rotate_left
        ·simp only[Act.put,List.setIfInBounds_toArray,List.set_cons_zero,List.set_cons_succ,qaj,qak];rfl
        refine qaq (i:=5) (N:=some 22) (v:=?_) (a':=?_) #[true,true,true,false,true,true,false,false,false,false] rfl rfl (qal HT_.out (by kernel_rfl)) (fun _ _ _ h=>h) (Or.inl ⟨by rfl,?_⟩) ?_ ?_;rotate_left
        ·intro w';go_simp
         with_reducible rfl
        rotate_left
        ·simp only[Act.put,List.setIfInBounds_toArray,List.set_cons_zero,List.set_cons_succ,qaj,qak];rfl
        refine qaq (i:=6) (N:=some 23) (v:=?_) (a':=?_) #[true,true,true,false,true,true,true,false,false,false] rfl rfl (qal HT_.out (by kernel_rfl)) (fun _ _ _ h=>h) (Or.inl ⟨by rfl,?_⟩) ?_ ?_;rotate_left
        ·intro w';go_simp
         with_reducible rfl
        rotate_left
        ·simp only[Act.put,List.setIfInBounds_toArray,List.set_cons_zero,List.set_cons_succ,qaj,qak];rfl
        refine take_ (i:=3) (N:=some 20) (v:=?_) (a':=?_) #[true,true,true,true,true,true,true,false,false,false] rfl rfl (take_ofW HT_.out HW_.out (by kernel_rfl)) (fun _ _ _ h=>h) (Or.inl ⟨by rfl,?_⟩) hHeld ?_ ?_;rotate_left
        ·rintro w' ⟨s0,s1,s2,s3,s4,s5⟩;go_simp
         with_reducible rfl
        rotate_left
        ·simp only[Act.put,List.setIfInBounds_toArray,List.set_cons_zero,List.set_cons_succ,qaj,qak];rfl
        refine take_ (i:=7) (N:=some 24) (v:=?_) (a':=?_) #[true,true,true,true,true,true,true,true,false,false] rfl rfl (take_ofW HT_.out HW_.out (by kernel_rfl)) (fun _ _ _ h=>h) (Or.inl ⟨by rfl,?_⟩) hHeld ?_ ?_;rotate_left
        ·rintro w' ⟨s0,s1,s2,s3,s4,s5⟩;go_simp
         with_reducible rfl
        rotate_left
        ·simp only[Act.put,List.setIfInBounds_toArray,List.set_cons_zero,List.set_cons_succ,qaj,qak];rfl
        refine one_ (i:=8) (N:=some 25) #[true,true,true,true,true,true,true,true,true,false] rfl rfl (one_of HT_.out (by kernel_rfl)) (by decide) (fun K hK=>?_);refine goes_ Try.func56 (by kernel_rfl) rfl #[.agg #[.int .i64 ((rd_T62 l0 x5_1).f0),.int .i64 ((rd_T62 l0 x5_1).f1),.slice A282_2 ((rd_T62 l0 x5_1).f2).length c282_2],.agg #[.int .i64 ((rd_T62 l1 x5_1).f0),.int .i64 ((rd_T62 l1 x5_1).f1),.slice A283_2 ((rd_T62 l1 x5_1).f2).length c283_2]] (by rfl) rfl rfl (by(try simp only[List.map_toArray,List.map_cons,List.map_nil]);first|done|rfl|(simp only[List.length_drop,List.length_take];rfl)) ?_
        with_reducible refine(laws_eqRec.calls k1 ((rd_T62 l0 x5_1).f0) ((rd_T62 l0 x5_1).f1) _ _ ((rd_T62 l0 x5_1).f2) ((rd_T62 l1 x5_1).f0) ((rd_T62 l1 x5_1).f1) _ _ ((rd_T62 l1 x5_1).f2) false _ ?side1 ?side2 ?side3 ?side4 A7.out).mono ?_
        (case side1=>exact zR HR282_2 HB);(case side2=>exact HC282_2.out);(case side3=>exact zR HR283_2 HB);(case side4=>exact HC283_2.out);rintro e w12 ⟨rfl,hb⟩;refine⟨_,rfl,?_⟩;replace HB:=qah.mk (qaa (za1 HB) hb);(try clear hb);(try clear hb2);(try clear hk);(try clear hi);refine hK.out _ _ ⟨((HB.out.cell (World.block_lt_of_cell? w _ hw282_0)).trans hw282_0),((HB.out.cell (World.block_lt_of_cell? w _ hw282_1)).trans hw282_1),((HB.out.cell (World.block_lt_of_cell? w _ hw282_2)).trans hw282_2),((HB.out.cell (World.block_lt_of_cell? w _ hw283_0)).trans hw283_0),((HB.out.cell (World.block_lt_of_cell? w _ hw283_1)).trans hw283_1),((HB.out.cell (World.block_lt_of_cell? w _ hw283_2)).trans hw283_2)⟩ (fun hHeld=>?_);clear hK K;refine norm_ (a':=?_) ?_ ?_;rotate_left
        ·show Act.put _ (some 25) _=_;simp only[Act.put,List.setIfInBounds_toArray,List.set_cons_zero,List.set_cons_succ,qaj,qak];rfl
        refine qaq (i:=9) (N:=some 26) (v:=?_) (a':=?_) #[true,true,true,true,true,true,true,true,true,true] rfl rfl (qal HT_.out (by kernel_rfl)) (fun _ _ _ h=>h) (Or.inl ⟨by rfl,?_⟩) ?_ ?_;rotate_left
        ·intro w';go_simp
         with_reducible rfl
        rotate_left
        ·simp only[Act.put,List.setIfInBounds_toArray,List.set_cons_zero,List.set_cons_succ,qaj,qak];rfl
        refine done_ (done_of HT_.out (by kernel_rfl)) ?_
        try go_wp2
        go_ret;exact⟨za8,za1 HB⟩
      ·rw[if_neg c6] at H;exact absurd H (by simp)
     ·rw[if_neg c5] at H;exact absurd H (by simp)
    ·rw[if_neg c4] at H;have c4b0:decide (x5_1<(l0.length:Int))=false:=decide_eq_false c4;clear c4;obtain rfl:=Option.some.inj H;go_wp2;go_ret;exact⟨za8,za1 HB⟩
 ·rw[if_neg c3] at H;have c3b0:((l0.length:Int) == (l1.length:Int))=false:=beq_eq_false_iff_ne.mpr c3;have c3b1:((l0.length:Int) != (l1.length:Int))=true:=bne_iff_ne.mpr c3
  have c3b2:(l0.length == l1.length)=false:=by first|simpa using c3|(simp at c3 ⊢;omega)
  obtain rfl:=Option.some.inj H;go_enter Try.func43,Try.ntmps43;go_wp2;go_ret;exact⟨za8,za1 HB⟩
def laws_eqLog.f (k:Nat) (l0_0:List (S62)) (a0_1:Int) (l1_0:List (S62)) (a1_1:Int):Option (Bool):=(laws_eqRecS.f k l0_0 l1_0).bind fun t287=>(if t287=true then(if a0_1=a1_1 then(some true) else(some false)) else(some false))
theorem laws_eqLog.mono:∀a0 a1 a2 a3 k,LeO (laws_eqLog.f k a0 a1 a2 a3) (laws_eqLog.f (k+1) a0 a1 a2 a3):=by
 intro a0 a1 a2 a3 k;unfold laws_eqLog.f
 repeat' first|(with_reducible exact laws_eqRecS.mono _ _ _)|(with_reducible exact LeO.refl _)|(with_reducible exact LeO.none _)|(with_reducible refine LeO.ite ?_ ?_)|(with_reducible refine LeO.bind ?_ (fun _=>?_))|exact laws_eqRecS.mono _ _ _|exact LeO.none _|refine LeO.ite ?_ ?_|refine LeO.bind ?_ (fun _=>?_)
set_option maxHeartbeats 8000000 in
set_option maxRecDepth 100000 in
theorem laws_eqLog.calls (k:Nat) (A0_0:Option Addr) (c0_0:Nat) (l0_0:List (S62)) (a0_1:Int) (A1_0:Option Addr) (c1_0:Nat) (l1_0:List (S62)) (a1_1:Int) (r:Bool) (w:World) (hr0_0:Kd.C k62 w A0_0 l0_0.length l0_0) (hc0_0:l0_0.length≤c0_0) (hr1_0:Kd.C k62 w A1_0 l1_0.length l1_0) (hc1_0:l1_0.length≤c1_0) (h:laws_eqLog.f k l0_0 a0_1 l1_0 a1_1=some r) :
  Calls Try.prog 24 #[.agg #[.slice A0_0 l0_0.length c0_0,.int .i64 a0_1],.agg #[.slice A1_0 l1_0.length c1_0,.int .i64 a1_1]] w fun e w'=>e=.returned (.bool r)∧Below w.heap.size w w':=by
 have hu31:=Try.underlying31;have HR0_0:=qah.mk hr0_0;have HC0_0:=qah.mk hc0_0;clear hr0_0 hc0_0;have HR1_0:=qah.mk hr1_0;have HC1_0:=qah.mk hc1_0;clear hr1_0 hc1_0;have HB:=qah.mk (Below.refl w.heap.size w);have H:((laws_eqRecS.f k l0_0 l1_0).bind fun t287=>(if t287=true then(if a0_1=a1_1 then(some true) else(some false)) else(some false)))=some r:=h;clear h;replace H:=Option.bind_eq_some_iff.mp H;obtain⟨t287,A30,H⟩:=H;replace H:(if t287=true then(if a0_1=a1_1 then(some true) else(some false)) else(some false))=some r:=H;have A3:=qah.mk A30;clear A30;by_cases c4:t287=true
 ·subst c4
  have H1:(if a0_1=a1_1 then(some true) else(some false))=some r:=by rw[if_pos rfl] at H;exact H
  clear H;have H:=H1;clear H1;by_cases c5:a0_1=a1_1
  ·rw[if_pos c5] at H;have c5b0:(a0_1 == a1_1)=true:=beq_iff_eq.mpr c5;have c5b1:(a0_1 != a1_1)=false:=bne_eq_false_iff_eq.mpr c5;clear c5;obtain rfl:=Option.some.inj H;go_enter Try.func24,Try.ntmps24
   go_wp2_with(first|((with_reducible refine qag (N:=2) rfl ?_);refine zX (N:=2) (cs:=#[.slice A0_0 l0_0.length c0_0,.int .i64 a0_1]) (t:=31) ?_;intro gb285 hg w6 hbox hb;have BK285:=qah.mk hbox;have GW285:=zH (w:=w) hg (za1 HB);have GE285:=GW285;replace HB:=qah.mk (qaa (za1 HB) hb);clear hb hbox hg)|((with_reducible refine qag (N:=3) rfl ?_);refine zX (N:=3) (cs:=#[.slice A1_0 l1_0.length c1_0,.int .i64 a1_1]) (t:=31) ?_;intro gb286 hg w7 hbox hb;have BK286:=qah.mk hbox;have GW286:=zH (w:=w) hg (za0 HB GE285);have GE286:=GW286;replace HB:=qah.mk (qaa (za0 HB GE285) hb);have NB285_286:=zL BK285 hg;have NB286_285:=zG BK285 hg;replace BK285:=zY BK285 hb;clear hb hbox hg;have hnb8:=NB285_286.out;have hnc8:=NB286_285.out;obtain⟨hcz9_0,hcz9_1,hfz9_0,hfz9_1⟩:=zC2 BK285;obtain⟨hcz10_0,hcz10_1,hfz10_0,hfz10_1⟩:=zC2 BK286)|((with_reducible refine qaf (f:=43) rfl ?_);refine zF (some 9) Try.func43 #[.slice A0_0 l0_0.length c0_0,.slice A1_0 l1_0.length c1_0] ?_;(with_reducible refine(laws_eqRecS.calls k _ _ l0_0 _ _ l1_0 true _ ?side1 ?side2 ?side3 ?side4 A3.out).mono ?_);(case side1=>exact zR HR0_0 HB);(case side2=>exact HC0_0.out);(case side3=>exact zR HR1_0 HB);(case side4=>exact HC1_0.out);rintro e w11 ⟨rfl,hb⟩;refine⟨_,rfl,?_⟩;replace BK285:=zY BK285 hb;replace BK286:=zY BK286 hb;replace HB:=qah.mk (qaa (za2 HB GE285 GE286) hb);(try clear hb);obtain⟨hcz12_0,hcz12_1,hfz12_0,hfz12_1⟩:=zC2 BK285;obtain⟨hcz13_0,hcz13_1,hfz13_0,hfz13_1⟩:=zC2 BK286))
   go_ret;exact⟨za8,za2 HB GE285 GE286⟩
  ·rw[if_neg c5] at H;have c5b0:(a0_1 == a1_1)=false:=beq_eq_false_iff_ne.mpr c5;have c5b1:(a0_1 != a1_1)=true:=bne_iff_ne.mpr c5;obtain rfl:=Option.some.inj H;go_enter Try.func24,Try.ntmps24
   go_wp2_with(first|((with_reducible refine qag (N:=2) rfl ?_);refine zX (N:=2) (cs:=#[.slice A0_0 l0_0.length c0_0,.int .i64 a0_1]) (t:=31) ?_;intro gb285 hg w14 hbox hb;have BK285:=qah.mk hbox;have GW285:=zH (w:=w) hg (za1 HB);have GE285:=GW285;replace HB:=qah.mk (qaa (za1 HB) hb);clear hb hbox hg)|((with_reducible refine qag (N:=3) rfl ?_);refine zX (N:=3) (cs:=#[.slice A1_0 l1_0.length c1_0,.int .i64 a1_1]) (t:=31) ?_;intro gb286 hg w15 hbox hb;have BK286:=qah.mk hbox;have GW286:=zH (w:=w) hg (za0 HB GE285);have GE286:=GW286;replace HB:=qah.mk (qaa (za0 HB GE285) hb);have NB285_286:=zL BK285 hg;have NB286_285:=zG BK285 hg;replace BK285:=zY BK285 hb;clear hb hbox hg;have hnb16:=NB285_286.out;have hnc16:=NB286_285.out;obtain⟨hcz17_0,hcz17_1,hfz17_0,hfz17_1⟩:=zC2 BK285;obtain⟨hcz18_0,hcz18_1,hfz18_0,hfz18_1⟩:=zC2 BK286)|((with_reducible refine qaf (f:=43) rfl ?_);refine zF (some 9) Try.func43 #[.slice A0_0 l0_0.length c0_0,.slice A1_0 l1_0.length c1_0] ?_;(with_reducible refine(laws_eqRecS.calls k _ _ l0_0 _ _ l1_0 true _ ?side1 ?side2 ?side3 ?side4 A3.out).mono ?_);(case side1=>exact zR HR0_0 HB);(case side2=>exact HC0_0.out);(case side3=>exact zR HR1_0 HB);(case side4=>exact HC1_0.out);rintro e w19 ⟨rfl,hb⟩;refine⟨_,rfl,?_⟩;replace BK285:=zY BK285 hb;replace BK286:=zY BK286 hb;replace HB:=qah.mk (qaa (za2 HB GE285 GE286) hb);(try clear hb);obtain⟨hcz20_0,hcz20_1,hfz20_0,hfz20_1⟩:=zC2 BK285;obtain⟨hcz21_0,hcz21_1,hfz21_0,hfz21_1⟩:=zC2 BK286))
   go_ret;exact⟨za8,za2 HB GE285 GE286⟩
 ·replace c4:=Bool.eq_false_iff.mpr c4;subst c4
  have H1:(some false)=some r:=by rw[if_neg (show ¬(false=true) by decide)] at H;exact H
  clear H;have H:=H1;clear H1;obtain rfl:=Option.some.inj H;go_enter Try.func24,Try.ntmps24
  go_wp2_with(first|((with_reducible refine qag (N:=2) rfl ?_);refine zX (N:=2) (cs:=#[.slice A0_0 l0_0.length c0_0,.int .i64 a0_1]) (t:=31) ?_;intro gb285 hg w22 hbox hb;have BK285:=qah.mk hbox;have GW285:=zH (w:=w) hg (za1 HB);have GE285:=GW285;replace HB:=qah.mk (qaa (za1 HB) hb);clear hb hbox hg)|((with_reducible refine qag (N:=3) rfl ?_);refine zX (N:=3) (cs:=#[.slice A1_0 l1_0.length c1_0,.int .i64 a1_1]) (t:=31) ?_;intro gb286 hg w23 hbox hb;have BK286:=qah.mk hbox;have GW286:=zH (w:=w) hg (za0 HB GE285);have GE286:=GW286;replace HB:=qah.mk (qaa (za0 HB GE285) hb);have NB285_286:=zL BK285 hg;have NB286_285:=zG BK285 hg;replace BK285:=zY BK285 hb;clear hb hbox hg;have hnb24:=NB285_286.out;have hnc24:=NB286_285.out;obtain⟨hcz25_0,hcz25_1,hfz25_0,hfz25_1⟩:=zC2 BK285;obtain⟨hcz26_0,hcz26_1,hfz26_0,hfz26_1⟩:=zC2 BK286)|((with_reducible refine qaf (f:=43) rfl ?_);refine zF (some 9) Try.func43 #[.slice A0_0 l0_0.length c0_0,.slice A1_0 l1_0.length c1_0] ?_;(with_reducible refine(laws_eqRecS.calls k _ _ l0_0 _ _ l1_0 false _ ?side1 ?side2 ?side3 ?side4 A3.out).mono ?_);(case side1=>exact zR HR0_0 HB);(case side2=>exact HC0_0.out);(case side3=>exact zR HR1_0 HB);(case side4=>exact HC1_0.out);rintro e w27 ⟨rfl,hb⟩;refine⟨_,rfl,?_⟩;replace BK285:=zY BK285 hb;replace BK286:=zY BK286 hb;replace HB:=qah.mk (qaa (za2 HB GE285 GE286) hb);(try clear hb)))
  go_ret;exact⟨za8,za2 HB GE285 GE286⟩
def laws_eqHouse.f (k:Nat) (a0_0:Int) (a0_1:Bool) (a0_2:Int) (l0_3:List (S62)) (a0_4:Int) (a1_0:Int) (a1_1:Bool) (a1_2:Int) (l1_3:List (S62)) (a1_4:Int):Option (Bool):=if a0_0=a1_0 then(if(a0_1 != a1_1)=true then(some false) else(if a0_2=a1_2 then((laws_eqLog.f k l0_3 a0_4 l1_3 a1_4).bind fun t290=>(if t290=true then(some true) else(some false))) else(some false))) else(some false)
theorem laws_eqHouse.mono:∀a0 a1 a2 a3 a4 a5 a6 a7 a8 a9 k,LeO (laws_eqHouse.f k a0 a1 a2 a3 a4 a5 a6 a7 a8 a9) (laws_eqHouse.f (k+1) a0 a1 a2 a3 a4 a5 a6 a7 a8 a9):=by
 intro a0 a1 a2 a3 a4 a5 a6 a7 a8 a9 k;unfold laws_eqHouse.f
 repeat' first|(with_reducible exact laws_eqLog.mono _ _ _ _ _)|(with_reducible exact LeO.refl _)|(with_reducible exact LeO.none _)|(with_reducible refine LeO.ite ?_ ?_)|(with_reducible refine LeO.bind ?_ (fun _=>?_))|exact laws_eqLog.mono _ _ _ _ _|exact LeO.none _|refine LeO.ite ?_ ?_|refine LeO.bind ?_ (fun _=>?_)
set_option maxHeartbeats 8000000 in
set_option maxRecDepth 100000 in
theorem laws_eqHouse.calls (k:Nat) (a0_0:Int) (a0_1:Bool) (a0_2:Int) (A0_3:Option Addr) (c0_3:Nat) (l0_3:List (S62)) (a0_4:Int) (a1_0:Int) (a1_1:Bool) (a1_2:Int) (A1_3:Option Addr) (c1_3:Nat) (l1_3:List (S62)) (a1_4:Int) (r:Bool) (w:World) (hr0_3:Kd.C k62 w A0_3 l0_3.length l0_3) (hc0_3:l0_3.length≤c0_3) (hr1_3:Kd.C k62 w A1_3 l1_3.length l1_3) (hc1_3:l1_3.length≤c1_3) (h:laws_eqHouse.f k a0_0 a0_1 a0_2 l0_3 a0_4 a1_0 a1_1 a1_2 l1_3 a1_4=some r) :
  Calls Try.prog 9 #[.agg #[.int .i64 a0_0,.bool a0_1,.int .i64 a0_2,.slice A0_3 l0_3.length c0_3,.int .i64 a0_4],.agg #[.int .i64 a1_0,.bool a1_1,.int .i64 a1_2,.slice A1_3 l1_3.length c1_3,.int .i64 a1_4]] w fun e w'=>e=.returned (.bool r)∧Below w.heap.size w w':=by
 have hu33:=Try.underlying33;have hu31:=Try.underlying31;have HR0_3:=qah.mk hr0_3;have HC0_3:=qah.mk hc0_3;clear hr0_3 hc0_3;have HR1_3:=qah.mk hr1_3;have HC1_3:=qah.mk hc1_3;clear hr1_3 hc1_3;have HB:=qah.mk (Below.refl w.heap.size w);have H:(if a0_0=a1_0 then(if(a0_1 != a1_1)=true then(some false) else(if a0_2=a1_2 then((laws_eqLog.f k l0_3 a0_4 l1_3 a1_4).bind fun t290=>(if t290=true then(some true) else(some false))) else(some false))) else(some false))=some r:=h;clear h;by_cases c3:a0_0=a1_0
 ·rw[if_pos c3] at H;have c3b0:(a0_0 == a1_0)=true:=beq_iff_eq.mpr c3;have c3b1:(a0_0 != a1_0)=false:=bne_eq_false_iff_eq.mpr c3;clear c3;by_cases c4:(a0_1 != a1_1)=true
  ·rw[if_pos c4] at H;have c4b0:(a0_1 != a1_1)=true:=c4;(try(have c4b1:decide (a0_1=a1_1)=false:=by simpa using c4));(try(have c4b2:(a0_1 == a1_1)=false:=by simpa using c4));(try(have c4b3:¬(a0_1=a1_1):=by simpa using c4));clear c4;obtain rfl:=Option.some.inj H;go_enter Try.func9,Try.ntmps9
   go_wp2_with(first|((with_reducible refine qag (N:=2) rfl ?_);refine zX (N:=2) (cs:=#[.int .i64 a0_0,.bool a0_1,.int .i64 a0_2,.slice A0_3 l0_3.length c0_3,.int .i64 a0_4]) (t:=33) ?_;intro gb288 hg w5 hbox hb;have BK288:=qah.mk hbox;have GW288:=zH (w:=w) hg (za1 HB);have GE288:=GW288;replace HB:=qah.mk (qaa (za1 HB) hb);clear hb hbox hg)|((with_reducible refine qag (N:=3) rfl ?_);refine zX (N:=3) (cs:=#[.int .i64 a1_0,.bool a1_1,.int .i64 a1_2,.slice A1_3 l1_3.length c1_3,.int .i64 a1_4]) (t:=33) ?_;intro gb289 hg w6 hbox hb;have BK289:=qah.mk hbox;have GW289:=zH (w:=w) hg (za0 HB GE288);have GE289:=GW289;replace HB:=qah.mk (qaa (za0 HB GE288) hb);have NB288_289:=zL BK288 hg;have NB289_288:=zG BK288 hg;replace BK288:=zY BK288 hb;clear hb hbox hg;have hnb7:=NB288_289.out;have hnc7:=NB289_288.out;obtain⟨hcz8_0,hcz8_1,hcz8_2,hcz8_3,hcz8_4,hfz8_0,hfz8_1,hfz8_2,hfz8_3,hfz8_4⟩:=zC5 BK288;obtain⟨hcz9_0,hcz9_1,hcz9_2,hcz9_3,hcz9_4,hfz9_0,hfz9_1,hfz9_2,hfz9_3,hfz9_4⟩:=zC5 BK289))
   go_ret;exact⟨za8,za2 HB GE288 GE289⟩
  ·rw[if_neg c4] at H
   have c4b0:(a0_1 != a1_1)=false:=by simpa using c4
   (try(have c4b1:decide (a0_1=a1_1)=true:=by simpa using c4));(try(have c4b2:(a0_1 == a1_1)=true:=by simpa using c4));clear c4;by_cases c10:a0_2=a1_2
   ·rw[if_pos c10] at H;have c10b0:(a0_2 == a1_2)=true:=beq_iff_eq.mpr c10;have c10b1:(a0_2 != a1_2)=false:=bne_eq_false_iff_eq.mpr c10;clear c10;replace H:=Option.bind_eq_some_iff.mp H;obtain⟨t290,A110,H⟩:=H;replace H:(if t290=true then(some true) else(some false))=some r:=H;have A11:=qah.mk A110;clear A110;by_cases c12:t290=true
    ·subst c12
     have H1:(some true)=some r:=by rw[if_pos rfl] at H;exact H
     clear H;have H:=H1;clear H1;obtain rfl:=Option.some.inj H;go_enter Try.func9,Try.ntmps9
     go_wp2_with(first|((with_reducible refine qag (N:=2) rfl ?_);refine zX (N:=2) (cs:=#[.int .i64 a0_0,.bool a0_1,.int .i64 a0_2,.slice A0_3 l0_3.length c0_3,.int .i64 a0_4]) (t:=33) ?_;intro gb288 hg w13 hbox hb;have BK288:=qah.mk hbox;have GW288:=zH (w:=w) hg (za1 HB);have GE288:=GW288;replace HB:=qah.mk (qaa (za1 HB) hb);clear hb hbox hg)|((with_reducible refine qag (N:=3) rfl ?_);refine zX (N:=3) (cs:=#[.int .i64 a1_0,.bool a1_1,.int .i64 a1_2,.slice A1_3 l1_3.length c1_3,.int .i64 a1_4]) (t:=33) ?_;intro gb289 hg w14 hbox hb;have BK289:=qah.mk hbox;have GW289:=zH (w:=w) hg (za0 HB GE288);have GE289:=GW289;replace HB:=qah.mk (qaa (za0 HB GE288) hb);have NB288_289:=zL BK288 hg;have NB289_288:=zG BK288 hg;replace BK288:=zY BK288 hb;clear hb hbox hg;have hnb15:=NB288_289.out;have hnc15:=NB289_288.out;obtain⟨hcz16_0,hcz16_1,hcz16_2,hcz16_3,hcz16_4,hfz16_0,hfz16_1,hfz16_2,hfz16_3,hfz16_4⟩:=zC5 BK288;obtain⟨hcz17_0,hcz17_1,hcz17_2,hcz17_3,hcz17_4,hfz17_0,hfz17_1,hfz17_2,hfz17_3,hfz17_4⟩:=zC5 BK289)|((with_reducible refine qaf (f:=24) rfl ?_);refine zF (some 24) Try.func24 #[.agg #[.slice A0_3 l0_3.length c0_3,.int .i64 a0_4],.agg #[.slice A1_3 l1_3.length c1_3,.int .i64 a1_4]] ?_;(with_reducible refine(laws_eqLog.calls k _ _ l0_3 a0_4 _ _ l1_3 a1_4 true _ ?side1 ?side2 ?side3 ?side4 A11.out).mono ?_);(case side1=>exact zR HR0_3 HB);(case side2=>exact HC0_3.out);(case side3=>exact zR HR1_3 HB);(case side4=>exact HC1_3.out);rintro e w18 ⟨rfl,hb⟩;refine⟨_,rfl,?_⟩;replace BK288:=zY BK288 hb;replace BK289:=zY BK289 hb;replace HB:=qah.mk (qaa (za2 HB GE288 GE289) hb);(try clear hb)))
     go_ret;exact⟨za8,za2 HB GE288 GE289⟩
    ·replace c12:=Bool.eq_false_iff.mpr c12;subst c12
     have H1:(some false)=some r:=by rw[if_neg (show ¬(false=true) by decide)] at H;exact H
     clear H;have H:=H1;clear H1;obtain rfl:=Option.some.inj H;go_enter Try.func9,Try.ntmps9
     go_wp2_with(first|((with_reducible refine qag (N:=2) rfl ?_);refine zX (N:=2) (cs:=#[.int .i64 a0_0,.bool a0_1,.int .i64 a0_2,.slice A0_3 l0_3.length c0_3,.int .i64 a0_4]) (t:=33) ?_;intro gb288 hg w19 hbox hb;have BK288:=qah.mk hbox;have GW288:=zH (w:=w) hg (za1 HB);have GE288:=GW288;replace HB:=qah.mk (qaa (za1 HB) hb);clear hb hbox hg)|((with_reducible refine qag (N:=3) rfl ?_);refine zX (N:=3) (cs:=#[.int .i64 a1_0,.bool a1_1,.int .i64 a1_2,.slice A1_3 l1_3.length c1_3,.int .i64 a1_4]) (t:=33) ?_;intro gb289 hg w20 hbox hb;have BK289:=qah.mk hbox;have GW289:=zH (w:=w) hg (za0 HB GE288);have GE289:=GW289;replace HB:=qah.mk (qaa (za0 HB GE288) hb);have NB288_289:=zL BK288 hg;have NB289_288:=zG BK288 hg;replace BK288:=zY BK288 hb;clear hb hbox hg;have hnb21:=NB288_289.out;have hnc21:=NB289_288.out;obtain⟨hcz22_0,hcz22_1,hcz22_2,hcz22_3,hcz22_4,hfz22_0,hfz22_1,hfz22_2,hfz22_3,hfz22_4⟩:=zC5 BK288;obtain⟨hcz23_0,hcz23_1,hcz23_2,hcz23_3,hcz23_4,hfz23_0,hfz23_1,hfz23_2,hfz23_3,hfz23_4⟩:=zC5 BK289)|((with_reducible refine qaf (f:=24) rfl ?_);refine zF (some 24) Try.func24 #[.agg #[.slice A0_3 l0_3.length c0_3,.int .i64 a0_4],.agg #[.slice A1_3 l1_3.length c1_3,.int .i64 a1_4]] ?_;(with_reducible refine(laws_eqLog.calls k _ _ l0_3 a0_4 _ _ l1_3 a1_4 false _ ?side1 ?side2 ?side3 ?side4 A11.out).mono ?_);(case side1=>exact zR HR0_3 HB);(case side2=>exact HC0_3.out);(case side3=>exact zR HR1_3 HB);(case side4=>exact HC1_3.out);rintro e w24 ⟨rfl,hb⟩;refine⟨_,rfl,?_⟩;replace BK288:=zY BK288 hb;replace BK289:=zY BK289 hb;replace HB:=qah.mk (qaa (za2 HB GE288 GE289) hb);(try clear hb)))
     go_ret;exact⟨za8,za2 HB GE288 GE289⟩
   ·rw[if_neg c10] at H;have c10b0:(a0_2 == a1_2)=false:=beq_eq_false_iff_ne.mpr c10;have c10b1:(a0_2 != a1_2)=true:=bne_iff_ne.mpr c10;obtain rfl:=Option.some.inj H;go_enter Try.func9,Try.ntmps9
    go_wp2_with(first|((with_reducible refine qag (N:=2) rfl ?_);refine zX (N:=2) (cs:=#[.int .i64 a0_0,.bool a0_1,.int .i64 a0_2,.slice A0_3 l0_3.length c0_3,.int .i64 a0_4]) (t:=33) ?_;intro gb288 hg w25 hbox hb;have BK288:=qah.mk hbox;have GW288:=zH (w:=w) hg (za1 HB);have GE288:=GW288;replace HB:=qah.mk (qaa (za1 HB) hb);clear hb hbox hg)|((with_reducible refine qag (N:=3) rfl ?_);refine zX (N:=3) (cs:=#[.int .i64 a1_0,.bool a1_1,.int .i64 a1_2,.slice A1_3 l1_3.length c1_3,.int .i64 a1_4]) (t:=33) ?_;intro gb289 hg w26 hbox hb;have BK289:=qah.mk hbox;have GW289:=zH (w:=w) hg (za0 HB GE288);have GE289:=GW289;replace HB:=qah.mk (qaa (za0 HB GE288) hb);have NB288_289:=zL BK288 hg;have NB289_288:=zG BK288 hg;replace BK288:=zY BK288 hb;clear hb hbox hg;have hnb27:=NB288_289.out;have hnc27:=NB289_288.out;obtain⟨hcz28_0,hcz28_1,hcz28_2,hcz28_3,hcz28_4,hfz28_0,hfz28_1,hfz28_2,hfz28_3,hfz28_4⟩:=zC5 BK288;obtain⟨hcz29_0,hcz29_1,hcz29_2,hcz29_3,hcz29_4,hfz29_0,hfz29_1,hfz29_2,hfz29_3,hfz29_4⟩:=zC5 BK289))
    go_ret;exact⟨za8,za2 HB GE288 GE289⟩
 ·rw[if_neg c3] at H;have c3b0:(a0_0 == a1_0)=false:=beq_eq_false_iff_ne.mpr c3;have c3b1:(a0_0 != a1_0)=true:=bne_iff_ne.mpr c3;obtain rfl:=Option.some.inj H;go_enter Try.func9,Try.ntmps9
  go_wp2_with(first|((with_reducible refine qag (N:=2) rfl ?_);refine zX (N:=2) (cs:=#[.int .i64 a0_0,.bool a0_1,.int .i64 a0_2,.slice A0_3 l0_3.length c0_3,.int .i64 a0_4]) (t:=33) ?_;intro gb288 hg w30 hbox hb;have BK288:=qah.mk hbox;have GW288:=zH (w:=w) hg (za1 HB);have GE288:=GW288;replace HB:=qah.mk (qaa (za1 HB) hb);clear hb hbox hg)|((with_reducible refine qag (N:=3) rfl ?_);refine zX (N:=3) (cs:=#[.int .i64 a1_0,.bool a1_1,.int .i64 a1_2,.slice A1_3 l1_3.length c1_3,.int .i64 a1_4]) (t:=33) ?_;intro gb289 hg w31 hbox hb;have BK289:=qah.mk hbox;have GW289:=zH (w:=w) hg (za0 HB GE288);have GE289:=GW289;replace HB:=qah.mk (qaa (za0 HB GE288) hb);have NB288_289:=zL BK288 hg;have NB289_288:=zG BK288 hg;replace BK288:=zY BK288 hb;clear hb hbox hg;have hnb32:=NB288_289.out;have hnc32:=NB289_288.out;obtain⟨hcz33_0,hcz33_1,hcz33_2,hcz33_3,hcz33_4,hfz33_0,hfz33_1,hfz33_2,hfz33_3,hfz33_4⟩:=zC5 BK288;obtain⟨hcz34_0,hcz34_1,hcz34_2,hcz34_3,hcz34_4,hfz34_0,hfz34_1,hfz34_2,hfz34_3,hfz34_4⟩:=zC5 BK289))
  go_ret;exact⟨za8,za2 HB GE288 GE289⟩
end Go.Proofs.Ytbomcadjkcmcgaa.Print
