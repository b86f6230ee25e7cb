-- Written by squeeze.py: not trusted, Lean checks it.
import Derived.Test.YtmbdphefnalenaaZK
import Derived.Test.YtmbdphefnalenaaZc0
import Derived.Test.YtmbdphefnalenaaZc1
namespace Go.Proofs.Ytmbdphefnalenaa.Print
open Go.RowKit Go.Proofs.YtmbdphefnalenaaW.PrintWords Go.Proofs.YtmbdphefnalenaaW.PrintLast Go.Proofs.YtmbdphefnalenaaW.PrintMore
attribute [local go_sem] max2_int min2_int max_two min_two max_three min_three max_four min_four
set_option linter.unusedVariables false
set_option linter.unusedSimpArgs false
def spec_l12Copy.l0:Nat→List (S81)→List (S81)→Int→Option ((List (S81)))
 |0,_,_,_=>none
 |k+1,x0,x3,x4=>if x4<(x0.length:Int) then((some (([]:List Int):List Int)).bind fun y143=>(if 0≤x4 then(if y143.length+((rd_T81 x0 x4).f0).length<17592186044416 then(if x3.length<4398046511104 then(spec_l12Copy.l0 k x0 (x3++[(⟨(y143++((rd_T81 x0 x4).f0)),(rd_T81 x0 x4).f1⟩:S81)]) (wrap64 (x4+1))) else(none)) else(none)) else(none))) else(some x3)
def spec_l12Copy.f (k:Nat) (l0:List (S81)):Option ((List (S81))):=spec_l12Copy.l0 k l0 (([]:List (S81))) 0
theorem spec_l12Copy.mono_l:∀k,(∀y0 y1 y2,LeO (spec_l12Copy.l0 k y0 y1 y2) (spec_l12Copy.l0 (k+1) y0 y1 y2))
 |0=>fun _ _ _ r h=>by simp[spec_l12Copy.l0] at h
 |k+1=>by
  have ih0:=spec_l12Copy.mono_l k
  ·intro y0 y1 y2;unfold spec_l12Copy.l0
   repeat' first|(with_reducible exact ih0 _ _ _)|(with_reducible exact LeO.refl _)|(with_reducible exact LeO.none _)|(with_reducible refine LeO.ite ?_ ?_)|(with_reducible refine LeO.bind ?_ (fun _=>?_))|exact ih0 _ _ _|exact LeO.none _|refine LeO.ite ?_ ?_|refine LeO.bind ?_ (fun _=>?_)
theorem spec_l12Copy.mono:∀a0 k,LeO (spec_l12Copy.f k a0) (spec_l12Copy.f (k+1) a0):=by
 intro a0 k;have ih0:=spec_l12Copy.mono_l k;unfold spec_l12Copy.f
 repeat' first|(with_reducible exact ih0 _ _ _)|(with_reducible exact LeO.refl _)|(with_reducible exact LeO.none _)|(with_reducible refine LeO.ite ?_ ?_)|(with_reducible refine LeO.bind ?_ (fun _=>?_))|exact ih0 _ _ _|exact LeO.none _|refine LeO.ite ?_ ?_|refine LeO.bind ?_ (fun _=>?_)
def spec_l12Copy.T5:Bool × List (List Nat × List Nat):=(true,[([],[]),([],[]),([],[]),([],[]),([2,3],[2,3]),([4],[4]),([5],[5]),([1,6],[1,6]),([],[]),([],[]),([8,9],[8,9]),([10],[10]),([11],[11]),([7,12],[7,12]),([13],[13]),([0,14,7],[0,14]),([15,15,0,1,2,3,4,5,6,7,8,9,10,11,12,13,14,15],[0,15])])
def spec_l12Copy.B5:List Nat:=[0,0,0,0,12,28,60,126,0,0,768,1792,3840,8190,16382,32767,65535]
theorem spec_l12Copy.tab5:rtab .any (opsOf Try.f101 5)=spec_l12Copy.T5:=by kernel_rfl
theorem spec_l12Copy.bits5:waitsOk spec_l12Copy.T5.2 spec_l12Copy.B5=true:=by kernel_rfl
set_option maxHeartbeats 8000000 in
set_option maxRecDepth 100000 in
theorem spec_l12Copy.calls (k:Nat) (A0:Option Addr) (c0:Nat) (l0:List (S81)) (r:List (S81)) (w:World) (hr0:Kd.C k81 w A0 l0.length l0) (hc0:l0.length≤c0) (h:spec_l12Copy.f k l0=some r) :
  Calls Try.prog 101 #[.slice A0 l0.length c0] w fun e w'=>∃v0_:Value,e=.returned (v0_)∧Kd.S k81 81 w' w.heap.size (fun _=>True) v0_ r∧Below w.heap.size w w':=by
 have hu81:=Try.underlying81;have HR0:=qaf.mk hr0;have HC0:=qaf.mk hc0;clear hr0 hc0;have HB:=qaf.mk (Below.refl w.heap.size w);have H:(spec_l12Copy.l0 k l0 (([]:List (S81))) 0)=some r:=h;clear h;obtain⟨y140,hy140⟩:∃y_:List (S81),y_=(([]:List (S81))):=⟨_,rfl⟩
 replace H:(spec_l12Copy.l0 k l0 y140 0)=some r:=by first|(rw[hy140];with_reducible exact H)|(have H2_:=(Option.bind_some _ _).symm.trans H;rw[hy140];with_reducible exact H2_)|(have H2_:=(Option.bind_some _ _).symm.trans H;with_reducible exact H2_)|with_reducible exact H|(rw[hy140];exact H)|exact H
 have Ny140:=qaf.mk hy140;clear hy140;have H':=qaf.mk H;clear H;go_enter Try.func101,Try.ntmps101
 go_wp2_with(first|((with_reducible refine qam (N:=5) rfl ?_);refine Kd.S_lit k81 _ 81 (by rfl) (N:=5) (by rfl) (xs:=([]:List (S81))) (inner:=[]) (ok:=fun _=>True) (okp:=fun _=>True) (by first|(go_simp;done)|(go_simp;rfl)) (Reps.none _ _) (fun _ hk=>hk) trivial (Below.refl _ _) (Nat.le_refl _) (by simp) ?_;intro v141 w2 ho3 hb hg_ hnew_;clear hg_ hnew_;(first|rw[←Ny140.out] at ho3|(simp only[Int.reduceToNat] at ho3;rw[←Ny140.out] at ho3));have HO142:=qaf.mk (Kd.S_lower ho3 (qan (za2 HB)));replace HB:=qaf.mk (qad (za2 HB) hb);clear hb ho3))
 go_loopg [3,4] k (fun kq v3 v4 w'=>∃(x3_1:List (S81)) (x4_1:Int),v4=.int .i64 x4_1∧qaf (spec_l12Copy.l0 kq l0 x3_1 x4_1=some r)∧qaf (kq≤k)∧qaf (Kd.S k81 81 w' w.heap.size (fun _=>True) v3 x3_1)∧qaf (Below w.heap.size w w'))
 case atStart=>exact⟨(y140),(0),(za38),H',⟨Nat.le_refl _⟩,⟨za24 HO142⟩,⟨za2 HB⟩⟩
 case round=>
  clear H'
  try clear c1
  try clear p2
  obtain⟨x3_1,x4_1,rfl,HA,HK1,HO_3,HB⟩:=hrel
  cases gk with
  |zero=>exact absurd HA.out (by simp[spec_l12Copy.l0])
  |succ k1=>
   have H:=HA.out;clear HA;simp only[spec_l12Copy.l0] at H;by_cases c4:x4_1<(l0.length:Int)
   ·rw[if_pos c4] at H;have c4b0:decide (x4_1<(l0.length:Int))=true:=decide_eq_true c4;clear c4;obtain⟨y143,hy143⟩:∃y_:List Int,y_=(([]:List Int)):=⟨_,rfl⟩
    replace H:(if 0≤x4_1 then(if y143.length+((rd_T81 l0 x4_1).f0).length<17592186044416 then(if x3_1.length<4398046511104 then(spec_l12Copy.l0 k1 l0 (x3_1++[(⟨(y143++((rd_T81 l0 x4_1).f0)),(rd_T81 l0 x4_1).f1⟩:S81)]) (wrap64 (x4_1+1))) else(none)) else(none)) else(none))=some r:=by first|(rw[hy143];with_reducible exact H)|(have H2_:=(Option.bind_some _ _).symm.trans H;rw[hy143];with_reducible exact H2_)|(have H2_:=(Option.bind_some _ _).symm.trans H;with_reducible exact H2_)|with_reducible exact H|(rw[hy143];exact H)|exact H
    have Ny143:=qaf.mk hy143;clear hy143;by_cases c5:0≤x4_1
    ·rw[if_pos c5] at H;have c5b0:decide (0≤x4_1)=true:=decide_eq_true c5;clear c5;by_cases c6:y143.length+((rd_T81 l0 x4_1).f0).length<17592186044416
     ·rw[if_pos c6] at H;have LMc6:=qaf.mk c6;clear c6;obtain⟨y147,hy147⟩:∃y_:List Int,y_=(y143++((rd_T81 l0 x4_1).f0)):=⟨_,rfl⟩
      replace H:(if x3_1.length<4398046511104 then(spec_l12Copy.l0 k1 l0 (x3_1++[(⟨y147,(rd_T81 l0 x4_1).f1⟩:S81)]) (wrap64 (x4_1+1))) else(none))=some r:=by first|(rw[hy147];with_reducible exact H)|(have H2_:=(Option.bind_some _ _).symm.trans H;rw[hy147];with_reducible exact H2_)|(have H2_:=(Option.bind_some _ _).symm.trans H;with_reducible exact H2_)|with_reducible exact H|(rw[hy147];exact H)|exact H
      have Ny147:=qaf.mk hy147;clear hy147;by_cases c7:x3_1.length<4398046511104
      ·rw[if_pos c7] at H;have LMc7:=qaf.mk c7;clear c7;obtain⟨y151,hy151⟩:∃y_:List (S81),y_=(x3_1++[(⟨y147,(rd_T81 l0 x4_1).f1⟩:S81)]):=⟨_,rfl⟩
       replace H:(spec_l12Copy.l0 k1 l0 y151 (wrap64 (x4_1+1)))=some r:=by first|(rw[hy151];with_reducible exact H)|(have H2_:=(Option.bind_some _ _).symm.trans H;rw[hy151];with_reducible exact H2_)|(have H2_:=(Option.bind_some _ _).symm.trans H;with_reducible exact H2_)|with_reducible exact H|(rw[hy151];exact H)|exact H
       have Ny151:=qaf.mk hy151;clear hy151;have H':=qaf.mk H;clear H
       try go_wp2
       replace HO_3:=qaf.mk (Kd.S_drew HO_3.out);replace HB:=qaf.mk (qas HB.out);have p146:0≤(x4_1:Int):=of_decide_eq_true (za10);have q146:x4_1<(l0.length:Int):=of_decide_eq_true (za10);obtain⟨ad146,A146_0,c146_0,e146,hx146_0,hx146_1,hl146_0,hi146_0⟩:=at_T81 HR0.out x4_1 p146 q146;have hw146_1:=hx146_1;have hw146_0:=hx146_0
       cases e146
       have hxo146_0:=qaf.mk hx146_0;replace hx146_0:=(HB.out.cell (World.block_lt_of_cell? w _ hx146_0)).trans hx146_0;replace hx146_1:=(HB.out.cell (World.block_lt_of_cell? w _ hx146_1)).trans hx146_1;have HR146_0:=qaf.mk hi146_0;have HC146_0:=qaf.mk hl146_0;clear hi146_0 hl146_0;replace p146:=eq_true p146;replace q146:=eq_true q146;have p150:0≤(x4_1:Int):=of_decide_eq_true (za10);have q150:x4_1<(l0.length:Int):=of_decide_eq_true (za10);obtain⟨ad150,A150_0,c150_0,e150,hx150_0,hx150_1,hl150_0,hi150_0⟩:=at_T81 HR0.out x4_1 p150 q150;have hw150_1:=hx150_1;have hw150_0:=hx150_0;obtain rfl:ad146=ad150:=(by injection e150);have ea_:=Option.some.inj (hxo146_0.out.symm.trans hx150_0)
       injection ea_ with ea_ en_ ec_
       subst ea_;subst ec_;clear en_;replace hx150_0:=(HB.out.cell (World.block_lt_of_cell? w _ hx150_0)).trans hx150_0;replace hx150_1:=(HB.out.cell (World.block_lt_of_cell? w _ hx150_1)).trans hx150_1;have HR150_0:=qaf.mk hi150_0;have HC150_0:=qaf.mk hl150_0;clear hi150_0 hl150_0;replace p150:=eq_true p150;replace q150:=eq_true q150
       refine start_ (n:=17) (S:=fun w'=>w'.cell? (ad146.add ((x4_1).toNat*2))=some (.slice A146_0 ((rd_T81 l0 x4_1).f0).length c146_0)∧w'.cell? ⟨(ad146.add ((x4_1).toNat*2)).block,(ad146.add ((x4_1).toNat*2)).off+1,none⟩=some (.int .i64 ((rd_T81 l0 x4_1).f1))∧w'.cell? (ad146.add ((x4_1).toNat*2))=some (.slice A146_0 ((rd_T81 l0 x4_1).f0).length c146_0)∧w'.cell? ⟨(ad146.add ((x4_1).toNat*2)).block,(ad146.add ((x4_1).toNat*2)).off+1,none⟩=some (.int .i64 ((rd_T81 l0 x4_1).f1))) (ds:=[]) #[false,false,false,false,false,false,false,false,false,false,false,false,false,false,false,false,false] (by kernel_rfl) rfl rfl ⟨((HB.out.cell (World.block_lt_of_cell? w _ hw146_0)).trans hw146_0),((HB.out.cell (World.block_lt_of_cell? w _ hw146_1)).trans hw146_1),((HB.out.cell (World.block_lt_of_cell? w _ hw150_0)).trans hw150_0),((HB.out.cell (World.block_lt_of_cell? w _ hw150_1)).trans hw150_1)⟩ (fun hHeld=>?_);refine qbc spec_l12Copy.tab5 spec_l12Copy.bits5 (fun HT_ HW_=>?_)
       generalize wr.drew=w8 at HO_3 HB HR146_0 HR150_0 hx146_0 hx146_1 hx150_0 hx150_1 hHeld ⊢;refine qao (i:=0) (N:=some 12) (v:=?_) (a':=?_) #[true,false,false,false,false,false,false,false,false,false,false,false,false,false,false,false,false] rfl rfl (qak HT_.out (by kernel_rfl)) (fun _ _ _ h=>h) (Or.inl ⟨by rfl,?_⟩) ?_ ?_;rotate_left
       ·intro w';go_simp
        with_reducible rfl
       rotate_left
       ·simp only[Act.put,List.setIfInBounds_toArray,List.set_cons_zero,List.set_cons_succ,qai,qaj];rfl
       refine qao (i:=2) (N:=some 14) (v:=?_) (a':=?_) #[true,false,true,false,false,false,false,false,false,false,false,false,false,false,false,false,false] rfl rfl (qak HT_.out (by kernel_rfl)) (fun _ _ _ h=>h) (Or.inl ⟨by rfl,?_⟩) ?_ ?_;rotate_left
       ·intro w';go_simp
        with_reducible rfl
       rotate_left
       ·simp only[Act.put,List.setIfInBounds_toArray,List.set_cons_zero,List.set_cons_succ,qai,qaj];rfl
       refine qao (i:=3) (N:=some 15) (v:=?_) (a':=?_) #[true,false,true,true,false,false,false,false,false,false,false,false,false,false,false,false,false] rfl rfl (qak HT_.out (by kernel_rfl)) (fun _ _ _ h=>h) (Or.inl ⟨by rfl,?_⟩) ?_ ?_;rotate_left
       ·intro w';go_simp
        with_reducible rfl
       rotate_left
       ·simp only[Act.put,List.setIfInBounds_toArray,List.set_cons_zero,List.set_cons_succ,qai,qaj];rfl
       refine qao (i:=4) (N:=some 16) (v:=?_) (a':=?_) #[true,false,true,true,true,false,false,false,false,false,false,false,false,false,false,false,false] rfl rfl (qak HT_.out (by kernel_rfl)) (fun _ _ _ h=>h) (Or.inl ⟨by rfl,?_⟩) ?_ ?_;rotate_left
       ·intro w';go_simp
        with_reducible rfl
       rotate_left
       ·simp only[Act.put,List.setIfInBounds_toArray,List.set_cons_zero,List.set_cons_succ,qai,qaj];rfl
       refine qao (i:=5) (N:=some 17) (v:=?_) (a':=?_) #[true,false,true,true,true,true,false,false,false,false,false,false,false,false,false,false,false] rfl rfl (qak HT_.out (by kernel_rfl)) (fun _ _ _ h=>h) (Or.inl ⟨by rfl,?_⟩) ?_ ?_;rotate_left
       ·intro w';go_simp
        with_reducible rfl
       rotate_left
       ·simp only[Act.put,List.setIfInBounds_toArray,List.set_cons_zero,List.set_cons_succ,qai,qaj];rfl
       refine qao (i:=8) (N:=some 20) (v:=?_) (a':=?_) #[true,false,true,true,true,true,false,false,true,false,false,false,false,false,false,false,false] rfl rfl (qak HT_.out (by kernel_rfl)) (fun _ _ _ h=>h) (Or.inl ⟨by rfl,?_⟩) ?_ ?_;rotate_left
       ·intro w';go_simp
        with_reducible rfl
       rotate_left
       ·simp only[Act.put,List.setIfInBounds_toArray,List.set_cons_zero,List.set_cons_succ,qai,qaj];rfl
       refine qao (i:=9) (N:=some 21) (v:=?_) (a':=?_) #[true,false,true,true,true,true,false,false,true,true,false,false,false,false,false,false,false] rfl rfl (qak HT_.out (by kernel_rfl)) (fun _ _ _ h=>h) (Or.inl ⟨by rfl,?_⟩) ?_ ?_;rotate_left
       ·intro w';go_simp
        with_reducible rfl
       rotate_left
       ·simp only[Act.put,List.setIfInBounds_toArray,List.set_cons_zero,List.set_cons_succ,qai,qaj];rfl
       refine qao (i:=10) (N:=some 22) (v:=?_) (a':=?_) #[true,false,true,true,true,true,false,false,true,true,true,false,false,false,false,false,false] rfl rfl (qak HT_.out (by kernel_rfl)) (fun _ _ _ h=>h) (Or.inl ⟨by rfl,?_⟩) ?_ ?_;rotate_left
       ·intro w';go_simp
        with_reducible rfl
       rotate_left
       ·simp only[Act.put,List.setIfInBounds_toArray,List.set_cons_zero,List.set_cons_succ,qai,qaj];rfl
       refine qao (i:=11) (N:=some 23) (v:=?_) (a':=?_) #[true,false,true,true,true,true,false,false,true,true,true,true,false,false,false,false,false] rfl rfl (qak HT_.out (by kernel_rfl)) (fun _ _ _ h=>h) (Or.inl ⟨by rfl,?_⟩) ?_ ?_;rotate_left
       ·intro w';go_simp
        with_reducible rfl
       rotate_left
       ·simp only[Act.put,List.setIfInBounds_toArray,List.set_cons_zero,List.set_cons_succ,qai,qaj];rfl
       refine take_ (i:=6) (N:=some 18) (v:=?_) (a':=?_) #[true,false,true,true,true,true,true,false,true,true,true,true,false,false,false,false,false] rfl rfl (qav HT_.out HW_.out (by kernel_rfl)) (fun _ _ _ h=>h) (Or.inl ⟨by rfl,?_⟩) hHeld ?_ ?_;rotate_left
       ·rintro w' ⟨s0,s1,s2,s3⟩;go_simp
        with_reducible rfl
       rotate_left
       ·simp only[Act.put,List.setIfInBounds_toArray,List.set_cons_zero,List.set_cons_succ,qai,qaj];rfl
       refine take_ (i:=12) (N:=some 24) (v:=?_) (a':=?_) #[true,false,true,true,true,true,true,false,true,true,true,true,true,false,false,false,false] rfl rfl (qav HT_.out HW_.out (by kernel_rfl)) (fun _ _ _ h=>h) (Or.inl ⟨by rfl,?_⟩) hHeld ?_ ?_;rotate_left
       ·rintro w' ⟨s0,s1,s2,s3⟩;go_simp
        with_reducible rfl
       rotate_left
       ·simp only[Act.put,List.setIfInBounds_toArray,List.set_cons_zero,List.set_cons_succ,qai,qaj];rfl
       refine one_ (i:=1) (N:=some 13) #[true,true,true,true,true,true,true,false,true,true,true,true,true,false,false,false,false] rfl rfl (one_of HT_.out (by kernel_rfl)) (by decide) (fun K hK=>?_);refine Kd.R_lit_step (Kd.int .i64) _ 3 (by rfl) (N:=13) (by rfl) (xs:=([]:List Int)) (inner:=[]) (ok:=fun _=>True) (okp:=fun _=>True) (by first|(go_simp;done)|(go_simp;rfl)) (Reps.none _ _) (fun _ hk=>hk) trivial (Below.refl _ _) (Nat.le_refl _) (by simp) ?_;intro v144 w9 ho10 hb hg_ hnew_;clear hg_ hnew_;(first|rw[←Ny143.out] at ho10|(simp only[Int.reduceToNat] at ho10;rw[←Ny143.out] at ho10));replace HO_3:=qaf.mk (Kd.S_elder' (za24 HO_3) (Kd.R_base ho10) hb);have HO145:=qaf.mk (Kd.R_lower ho10 (qan (za2 HB)));replace HB:=qaf.mk (qad (za2 HB) hb);clear hb ho10;refine hK.out _ _ ⟨((HB.out.cell (World.block_lt_of_cell? w _ hw146_0)).trans hw146_0),((HB.out.cell (World.block_lt_of_cell? w _ hw146_1)).trans hw146_1),((HB.out.cell (World.block_lt_of_cell? w _ hw150_0)).trans hw150_0),((HB.out.cell (World.block_lt_of_cell? w _ hw150_1)).trans hw150_1)⟩ (fun hHeld=>?_);clear hK K;refine qbb (a':=?_) ?_ ?_;rotate_left
       ·show Act.put _ (some 13) _=_;simp only[Act.put,List.setIfInBounds_toArray,List.set_cons_zero,List.set_cons_succ,qai,qaj];rfl
       refine one_ (i:=7) (N:=some 19) #[true,true,true,true,true,true,true,true,true,true,true,true,true,false,false,false,false] rfl rfl (one_of HT_.out (by kernel_rfl)) (by decide) (fun K hK=>?_);refine Kd.R_append_rows_step (Kd.int .i64) (w0:=w) w.heap.size (by rfl) (.tmp 13) (.tmp 18) 30 3 (.int .i64 0) 8 rfl Try.underlying30 info3 rfl (by decide) (by omega) v144 y143 ((rd_T81 l0 x4_1).f0) _ _ _ (fun _=>True) (fun _=>False) rfl rfl ?aO ?aR (fun _ _ h=>h) (fun _ h=>h.elim) ?aF ?aB ?aS ?aL ?_;(case aR=>repeat(first|exact(Kd.C_below HR146_0.out HB.out)|(with_reducible refine Kd.C_alloc ?_ _)|(with_reducible refine Kd.C_drewN ?_ _)|(with_reducible refine Kd.C_drew ?_)));(case aB=>exact(za2 HB));(case aF=>exact(fun _ _=>trivial));(case aO=>exact(za1 HO145));(case aS=>exact(qan (za2 HB)));(case aL=>have:=LMc6.out;omega);intro v148 w11 ho hb hg hat;rw[←Ny147.out] at ho;replace HO_3:=qaf.mk (Kd.S_after (ok:=(fun _=>True)) (za24 HO_3) hg hat);replace HB:=qaf.mk hb;have HO149:=qaf.mk ho;clear HO145;clear ho hb hg hat;obtain⟨Ao12,co12,eo12⟩:=Kd.R_slice HO149.out;(first|subst eo12|(injection eo12 with f1_ f2_ f3_;have f4_:=f1_.symm;have f5_:=f3_.symm;clear f1_ f2_ f3_;subst f4_;subst f5_))
       refine hK.out _ _ ⟨((HB.out.cell (World.block_lt_of_cell? w _ hw146_0)).trans hw146_0),((HB.out.cell (World.block_lt_of_cell? w _ hw146_1)).trans hw146_1),((HB.out.cell (World.block_lt_of_cell? w _ hw150_0)).trans hw150_0),((HB.out.cell (World.block_lt_of_cell? w _ hw150_1)).trans hw150_1)⟩ (fun hHeld=>?_);clear hK K;refine qbb (a':=?_) ?_ ?_;rotate_left
       ·show Act.put _ (some 19) _=_;simp only[Act.put,List.setIfInBounds_toArray,List.set_cons_zero,List.set_cons_succ,qai,qaj];rfl
       refine qao (i:=13) (N:=some 25) (v:=?_) (a':=?_) #[true,true,true,true,true,true,true,true,true,true,true,true,true,true,false,false,false] rfl rfl (qak HT_.out (by kernel_rfl)) (fun _ _ _ h=>h) (Or.inl ⟨by rfl,?_⟩) ?_ ?_;rotate_left
       ·intro w';go_simp
        with_reducible rfl
       rotate_left
       ·simp only[Act.put,List.setIfInBounds_toArray,List.set_cons_zero,List.set_cons_succ,qai,qaj];rfl
       refine one_ (i:=14) (N:=some 26) #[true,true,true,true,true,true,true,true,true,true,true,true,true,true,true,false,false] rfl rfl (one_of HT_.out (by kernel_rfl)) (by decide) (fun K hK=>?_);refine value_ (w1:=?_) (v:=?_) (by rfl) rfl ?_ ?_;rotate_left 2
       ·go_simp;constructor
        ·rfl
        ·rfl
       refine hK.out _ _ ⟨(World.cell?_alloc_lt _ _ _ (World.block_lt_of_cell? _ _ (((HB.out.cell (World.block_lt_of_cell? w _ hw146_0)).trans hw146_0)))).trans (((HB.out.cell (World.block_lt_of_cell? w _ hw146_0)).trans hw146_0)),(World.cell?_alloc_lt _ _ _ (World.block_lt_of_cell? _ _ (((HB.out.cell (World.block_lt_of_cell? w _ hw146_1)).trans hw146_1)))).trans (((HB.out.cell (World.block_lt_of_cell? w _ hw146_1)).trans hw146_1)),(World.cell?_alloc_lt _ _ _ (World.block_lt_of_cell? _ _ (((HB.out.cell (World.block_lt_of_cell? w _ hw150_0)).trans hw150_0)))).trans (((HB.out.cell (World.block_lt_of_cell? w _ hw150_0)).trans hw150_0)),(World.cell?_alloc_lt _ _ _ (World.block_lt_of_cell? _ _ (((HB.out.cell (World.block_lt_of_cell? w _ hw150_1)).trans hw150_1)))).trans (((HB.out.cell (World.block_lt_of_cell? w _ hw150_1)).trans hw150_1))⟩ (fun hHeld=>?_)
       clear hK K;refine qbb (a':=?_) ?_ ?_;rotate_left
       ·show Act.put _ (some 26) _=_;simp only[Act.put,List.setIfInBounds_toArray,List.set_cons_zero,List.set_cons_succ,qai,qaj];rfl
       refine one_ (i:=15) (N:=some 27) #[true,true,true,true,true,true,true,true,true,true,true,true,true,true,true,true,false] rfl rfl (one_of HT_.out (by kernel_rfl)) (by decide) (fun K hK=>?_);refine Kd.S_append_step k81 (w0:=w) w.heap.size (by rfl) (.tmp 12) (.tmp 26) 25 81 (.agg #[(.slice none 0 0),(.int .i64 0)]) 32 rfl Try.underlying25 info81 rfl (by decide) (by omega) u3 x3_1 (⟨y147,(rd_T81 l0 x4_1).f1⟩:S81) [.slice Ao12 y147.length co12,.int .i64 ((rd_T81 l0 x4_1).f1)] (fun _=>True) (fun k_=>some k_=(.slice Ao12 y147.length co12:Value).ownBlock) rfl rfl ?aP (fun k_ hk_=>((Kd.R_mono (ok':=fun k_=>((fun _=>True)) k_∧some k_≠(u3:Value).ownBlock) (Kd.R_apart' (HO149.out) (Kd.S_typed HO_3.out) (by decide)) (fun k_ hk=>⟨trivial,hk.2⟩))).1 k_ hk_.symm) ?aF ?aO ?aB ?aS ?aL ?_;(case aP=>exact k81_mkM _ _ _ (⟨y147,(rd_T81 l0 x4_1).f1⟩:S81) (Kd.R_mono (Kd.R_tight rfl (Kd.R_mono (ok':=fun k_=>((fun _=>True)) k_∧some k_≠(u3:Value).ownBlock) (Kd.R_apart' (HO149.out) (Kd.S_typed HO_3.out) (by decide)) (fun k_ hk=>⟨trivial,hk.2⟩))) (fun _ h_=>h_)));(case aB=>exact(za2 HB));(case aF=>exact(fun _ _=>trivial));(case aO=>exact(by(with_reducible repeat(first|apply Kd.S_alloc|apply Kd.S_drewN|apply Kd.S_drew));exact Kd.S_mono HO_3.out (fun k_ hk=>⟨trivial,fun e_=>hk.2 e_⟩)));(case aS=>exact(qan (za2 HB)))
       (case aL=>have:=LMc7.out;omega);intro v152 w13 ho hb hg hat;rw[←Ny151.out] at ho;replace HB:=qaf.mk hb;have HO153:=qaf.mk ho;clear HO_3 HO149;clear ho hb hg hat;refine hK.out _ _ ⟨((HB.out.cell (World.block_lt_of_cell? w _ hw146_0)).trans hw146_0),((HB.out.cell (World.block_lt_of_cell? w _ hw146_1)).trans hw146_1),((HB.out.cell (World.block_lt_of_cell? w _ hw150_0)).trans hw150_0),((HB.out.cell (World.block_lt_of_cell? w _ hw150_1)).trans hw150_1)⟩ (fun hHeld=>?_);clear hK K;refine qbb (a':=?_) ?_ ?_;rotate_left
       ·show Act.put _ (some 27) _=_;simp only[Act.put,List.setIfInBounds_toArray,List.set_cons_zero,List.set_cons_succ,qai,qaj];rfl
       refine qao (i:=16) (N:=some 3) (v:=?_) (a':=?_) #[true,true,true,true,true,true,true,true,true,true,true,true,true,true,true,true,true] rfl rfl (qak HT_.out (by kernel_rfl)) (fun _ _ _ h=>h) (Or.inl ⟨by rfl,?_⟩) ?_ ?_;rotate_left
       ·intro w';go_simp
        with_reducible rfl
       rotate_left
       ·simp only[Act.put,List.setIfInBounds_toArray,List.set_cons_zero,List.set_cons_succ,qai,qaj];rfl
       refine done_ (done_of HT_.out (by kernel_rfl)) ?_
       try go_wp2
       go_roundg k1
       case measure=>have:=HK1.out;omega
       case rel=>exact⟨(y151),(wrap64 (x4_1+1)),(za38),H',⟨by have:=HK1.out;omega⟩,⟨za24 HO153⟩,⟨za2 HB⟩⟩
      ·rw[if_neg c7] at H;exact absurd H (by simp)
     ·rw[if_neg c6] at H;exact absurd H (by simp)
    ·rw[if_neg c5] at H;exact absurd H (by simp)
   ·rw[if_neg c4] at H;have c4b0:decide (x4_1<(l0.length:Int))=false:=decide_eq_false c4;clear c4;obtain rfl:=Option.some.inj H;go_wp2;go_ret;exact⟨_,za12,za24 HO_3,za2 HB⟩
def spec_TripsDo.f (k:Nat) (l0:List (S81)) (a1_0:Int) (a1_1:Int) (l1_2:List Int):Option ((List (S81)) × Bool):=(spec_TripsMay.f k l0 a1_0 a1_1 l1_2).bind fun t155=>(if t155=true then((spec_l12Copy.f k l0).bind fun t156=>((spec_l12Do.f t156 a1_0 a1_1 l1_2).bind fun t159=>(some (t159,true)))) else(some ((([]:List (S81))),false)))
theorem spec_TripsDo.mono:∀a0 a1 a2 a3 k,LeO (spec_TripsDo.f k a0 a1 a2 a3) (spec_TripsDo.f (k+1) a0 a1 a2 a3):=by
 intro a0 a1 a2 a3 k;unfold spec_TripsDo.f
 repeat' first|(with_reducible exact spec_TripsMay.mono _ _ _ _ _)|(with_reducible exact spec_l12Copy.mono _ _)|(with_reducible exact LeO.refl _)|(with_reducible exact LeO.none _)|(with_reducible refine LeO.ite ?_ ?_)|(with_reducible refine LeO.bind ?_ (fun _=>?_))|exact spec_TripsMay.mono _ _ _ _ _|exact spec_l12Copy.mono _ _|exact LeO.none _|refine LeO.ite ?_ ?_|refine LeO.bind ?_ (fun _=>?_)
set_option maxHeartbeats 8000000 in
set_option maxRecDepth 100000 in
theorem spec_TripsDo.calls (k:Nat) (A0:Option Addr) (c0:Nat) (l0:List (S81)) (a1_0:Int) (a1_1:Int) (A1_2:Option Addr) (c1_2:Nat) (l1_2:List Int) (r1:List (S81)) (r2:Bool) (w:World) (hr0:Kd.C k81 w A0 l0.length l0) (hc0:l0.length≤c0) (hr1_2:Kd.C (Kd.int .i64) w A1_2 l1_2.length l1_2) (hc1_2:l1_2.length≤c1_2) (h:spec_TripsDo.f k l0 a1_0 a1_1 l1_2=some (r1,r2)) :
  Calls Try.prog 82 #[.slice A0 l0.length c0,.agg #[.int .i64 a1_0,.int .i64 a1_1,.slice A1_2 l1_2.length c1_2]] w fun e w'=>∃v0_:Value,e=.returned (.tuple #[v0_,.bool r2])∧Kd.S k81 81 w' w.heap.size (fun _=>True) v0_ r1∧Below w.heap.size w w':=by
 have hu32:=Try.underlying32;have HR0:=qaf.mk hr0;have HC0:=qaf.mk hc0;clear hr0 hc0;have HR1_2:=qaf.mk hr1_2;have HC1_2:=qaf.mk hc1_2;clear hr1_2 hc1_2;have HB:=qaf.mk (Below.refl w.heap.size w);have H:((spec_TripsMay.f k l0 a1_0 a1_1 l1_2).bind fun t155=>(if t155=true then((spec_l12Copy.f k l0).bind fun t156=>((spec_l12Do.f t156 a1_0 a1_1 l1_2).bind fun t159=>(some (t159,true)))) else(some ((([]:List (S81))),false))))=some (r1,r2):=h;clear h;replace H:=Option.bind_eq_some_iff.mp H;obtain⟨t155,A30,H⟩:=H;replace H:(if t155=true then((spec_l12Copy.f k l0).bind fun t156=>((spec_l12Do.f t156 a1_0 a1_1 l1_2).bind fun t159=>(some (t159,true)))) else(some ((([]:List (S81))),false)))=some (r1,r2):=H;have A3:=qaf.mk A30;clear A30;by_cases c4:t155=true
 ·subst c4
  have H1:((spec_l12Copy.f k l0).bind fun t156=>((spec_l12Do.f t156 a1_0 a1_1 l1_2).bind fun t159=>(some (t159,true))))=some (r1,r2):=by rw[if_pos rfl] at H;exact H
  clear H;have H:=H1;clear H1;replace H:=Option.bind_eq_some_iff.mp H;obtain⟨t156,A50,H⟩:=H;replace H:((spec_l12Do.f t156 a1_0 a1_1 l1_2).bind fun t159=>(some (t159,true)))=some (r1,r2):=H;have A5:=qaf.mk A50;clear A50;replace H:=Option.bind_eq_some_iff.mp H;obtain⟨t159,A60,H⟩:=H;replace H:(some (t159,true))=some (r1,r2):=H;have A6:=qaf.mk A60;clear A60;simp only[Option.some.injEq,Prod.mk.injEq] at H;obtain⟨rfl,rfl⟩:=H;go_enter Try.func82,Try.ntmps82
  try go_wp2_with(first|((with_reducible refine qam (N:=3) rfl ?_);refine zX (N:=3) (cs:=#[.int .i64 a1_0,.int .i64 a1_1,.slice A1_2 l1_2.length c1_2]) (t:=32) ?_;intro gb154 hg w7 hbox hb;have BK154:=qaf.mk hbox;have GW154:=zH (w:=w) hg (za2 HB);have GE154:=GW154;replace HB:=qaf.mk (qad (za2 HB) hb);clear hb hbox hg;obtain⟨hcz8_0,hcz8_1,hcz8_2,hfz8_0,hfz8_1,hfz8_2⟩:=zC3 BK154)|((with_reducible refine qag (f:=100) rfl ?_);refine zF (some 8) Try.func100 #[.slice A0 l0.length c0,.agg #[.int .i64 a1_0,.int .i64 a1_1,.slice A1_2 l1_2.length c1_2]] ?_;(with_reducible refine(spec_TripsMay.calls k _ _ l0 a1_0 a1_1 _ _ l1_2 true _ ?side1 ?side2 ?side3 ?side4 A3.out).mono ?_);(case side1=>exact zR HR0 HB);(case side2=>exact HC0.out);(case side3=>exact zR HR1_2 HB);(case side4=>exact HC1_2.out);rintro e w9 ⟨rfl,hb⟩;refine⟨_,rfl,?_⟩;replace BK154:=zY BK154 hb;replace HB:=qaf.mk (qad (za3 HB GE154) hb);(try clear hb)))
  replace BK154:=qaf.mk (qaa BK154.out);replace HB:=qaf.mk (qas HB.out);refine start_ (n:=6) (S:=fun w'=>w'.cell? ⟨gb154,0,none⟩=some (.int .i64 a1_0)∧w'.cell? ⟨gb154,1,none⟩=some (.int .i64 a1_1)∧w'.cell? ⟨gb154,2,none⟩=some (.slice A1_2 l1_2.length c1_2)) (ds:=[]) #[false,false,false,false,false,false] (by kernel_rfl) rfl rfl ⟨(qae BK154.out 0).trans rfl,(qae BK154.out 1).trans rfl,(qae BK154.out 2).trans rfl⟩ (fun hHeld=>?_);generalize w9.drew=w10 at BK154 HB hHeld ⊢;refine qao (i:=0) (N:=some 11) (v:=?_) (a':=?_) #[true,false,false,false,false,false] rfl rfl (by kernel_rfl) (fun _ _ _ h=>h) (Or.inl ⟨by rfl,?_⟩) ?_ ?_;rotate_left
  ·intro w';go_simp
   with_reducible rfl
  rotate_left
  ·simp only[Act.put,List.setIfInBounds_toArray,List.set_cons_zero,List.set_cons_succ,qai,qaj];rfl
  refine take_ (i:=2) (N:=some 13) (v:=?_) (a':=?_) #[true,false,true,false,false,false] rfl rfl (by kernel_rfl) (fun _ _ _ h=>h) (Or.inl ⟨by rfl,?_⟩) hHeld ?_ ?_;rotate_left
  ·rintro w' ⟨s0,s1,s2⟩;go_simp
   with_reducible rfl
  rotate_left
  ·simp only[Act.put,List.setIfInBounds_toArray,List.set_cons_zero,List.set_cons_succ,qai,qaj];rfl
  refine one_ (i:=1) (N:=some 12) #[true,true,true,false,false,false] rfl rfl (by kernel_rfl) (by decide) (fun K hK=>?_);refine goes_ Try.func101 (by kernel_rfl) rfl #[.slice A0 l0.length c0] (by rfl) rfl rfl (by(try simp only[List.map_toArray,List.map_cons,List.map_nil]);first|done|rfl|(simp only[List.length_drop,List.length_take];rfl)) ?_
  with_reducible refine(spec_l12Copy.calls k _ _ l0 t156 _ ?side1 ?side2 A5.out).mono ?_
  (case side1=>exact zR HR0 HB);(case side2=>exact HC0.out);rintro e w11 ⟨v157,rfl,ho0,hb⟩;refine⟨_,rfl,?_⟩;have HO158:=qaf.mk (Kd.S_lower ho0 (qan (za3 HB GE154)));replace BK154:=zY BK154 hb;replace HB:=qaf.mk (qad (za3 HB GE154) hb);(try clear hb);(try clear hb2);(try clear hk);(try clear hi);(try clear ho0);obtain⟨Ao12,co12,eo12⟩:=Kd.S_slice HO158.out;(first|subst eo12|(injection eo12 with f1_ f2_ f3_;have f4_:=f1_.symm;have f5_:=f3_.symm;clear f1_ f2_ f3_;subst f4_;subst f5_));refine hK.out _ _ ⟨(qae BK154.out 0).trans rfl,(qae BK154.out 1).trans rfl,(qae BK154.out 2).trans rfl⟩ (fun hHeld=>?_);clear hK K;refine qbb (a':=?_) ?_ ?_;rotate_left
  ·show Act.put _ (some 12) _=_;simp only[Act.put,List.setIfInBounds_toArray,List.set_cons_zero,List.set_cons_succ,qai,qaj];rfl
  refine one_ (i:=3) (N:=some 14) #[true,true,true,true,false,false] rfl rfl (by kernel_rfl) (by decide) (fun K hK=>?_);refine goes_ Try.func86 (by kernel_rfl) rfl #[.slice Ao12 t156.length co12,.agg #[.int .i64 a1_0,.int .i64 a1_1,.slice A1_2 l1_2.length c1_2]] (by rfl) rfl rfl (by(try simp only[List.map_toArray,List.map_cons,List.map_nil]);first|done|rfl|(simp only[List.length_drop,List.length_take];rfl)) ?_
  with_reducible refine(spec_l12Do.calls ?pw (.slice Ao12 t156.length co12) t156 a1_0 a1_1 _ _ l1_2 t159 w _ ?side1 ?side2 ?side3 ?side4 A6.out).mono ?_
  (case side1=>exact(za3 HB GE154));(case side2=>exact Kd.S_wide HO158.out);(case side3=>exact Kd.C_kept_came (Kd.heap_int .i64) HR1_2.out (za3 HB GE154) (fun k_ hs_=>(fun e_=>e_.1) hs_));(case side4=>exact HC1_2.out);rintro e w13 ⟨v160,rfl,ho0,hb,hkp⟩;refine⟨_,rfl,?_⟩;replace BK154:=qaf.mk (blk_kept (zB BK154) hkp (fun hs_=>(fun e_=>(WideP.not_blk (zB BK154) (by decide)) e_) hs_));have HO161:=qaf.mk (Kd.S_mono (ok':=fun k_=>True) ho0 (fun k_ hk_=>trivial));replace HB:=qaf.mk hb;clear HO158;(try clear hb);(try clear hkp);(try clear ho0);refine hK.out _ _ ⟨(qae BK154.out 0).trans rfl,(qae BK154.out 1).trans rfl,(qae BK154.out 2).trans rfl⟩ (fun hHeld=>?_);clear hK K;refine qbb (a':=?_) ?_ ?_;rotate_left
  ·show Act.put _ (some 14) _=_;simp only[Act.put,List.setIfInBounds_toArray,List.set_cons_zero,List.set_cons_succ,qai,qaj];rfl
  refine qao (i:=4) (N:=some 4) (v:=?_) (a':=?_) #[true,true,true,true,true,false] rfl rfl (by kernel_rfl) (fun _ _ _ h=>h) (Or.inl ⟨by rfl,?_⟩) ?_ ?_;rotate_left
  ·intro w';go_simp
   with_reducible rfl
  rotate_left
  ·simp only[Act.put,List.setIfInBounds_toArray,List.set_cons_zero,List.set_cons_succ,qai,qaj];rfl
  refine qao (i:=5) (N:=some 5) (v:=?_) (a':=?_) #[true,true,true,true,true,true] rfl rfl (by kernel_rfl) (fun _ _ _ h=>h) (Or.inl ⟨by rfl,?_⟩) ?_ ?_;rotate_left
  ·intro w';go_simp
   with_reducible rfl
  rotate_left
  ·simp only[Act.put,List.setIfInBounds_toArray,List.set_cons_zero,List.set_cons_succ,qai,qaj];rfl
  refine done_ (by kernel_rfl) ?_
  try go_wp2
  go_ret2
  exact⟨_,za12,za24 HO161,za3 HB GE154⟩
 ·replace c4:=Bool.eq_false_iff.mpr c4;subst c4
  have H1:(some ((([]:List (S81))),false))=some (r1,r2):=by rw[if_neg (show ¬(false=true) by decide)] at H;exact H
  clear H;have H:=H1;clear H1;obtain⟨y162,hy162⟩:∃y_:List (S81),y_=(([]:List (S81))):=⟨_,rfl⟩
  replace H:(some (y162,false))=some (r1,r2):=by first|(rw[hy162];with_reducible exact H)|(have H2_:=(Option.bind_some _ _).symm.trans H;rw[hy162];with_reducible exact H2_)|(have H2_:=(Option.bind_some _ _).symm.trans H;with_reducible exact H2_)|with_reducible exact H|(rw[hy162];exact H)|exact H
  have Ny162:=qaf.mk hy162;clear hy162;simp only[Option.some.injEq,Prod.mk.injEq] at H;obtain⟨rfl,rfl⟩:=H;go_enter Try.func82,Try.ntmps82
  go_wp2_with(first|((with_reducible refine qam (N:=3) rfl ?_);refine zX (N:=3) (cs:=#[.int .i64 a1_0,.int .i64 a1_1,.slice A1_2 l1_2.length c1_2]) (t:=32) ?_;intro gb154 hg w14 hbox hb;have BK154:=qaf.mk hbox;have GW154:=zH (w:=w) hg (za2 HB);have GE154:=GW154;replace HB:=qaf.mk (qad (za2 HB) hb);clear hb hbox hg;obtain⟨hcz15_0,hcz15_1,hcz15_2,hfz15_0,hfz15_1,hfz15_2⟩:=zC3 BK154)|((with_reducible refine qag (f:=100) rfl ?_);refine zF (some 8) Try.func100 #[.slice A0 l0.length c0,.agg #[.int .i64 a1_0,.int .i64 a1_1,.slice A1_2 l1_2.length c1_2]] ?_;(with_reducible refine(spec_TripsMay.calls k _ _ l0 a1_0 a1_1 _ _ l1_2 false _ ?side1 ?side2 ?side3 ?side4 A3.out).mono ?_);(case side1=>exact zR HR0 HB);(case side2=>exact HC0.out);(case side3=>exact zR HR1_2 HB);(case side4=>exact HC1_2.out);rintro e w16 ⟨rfl,hb⟩;refine⟨_,rfl,?_⟩;replace BK154:=zY BK154 hb;replace HB:=qaf.mk (qad (za3 HB GE154) hb);(try clear hb))|((with_reducible refine qam (N:=10) rfl ?_);refine Kd.S_lit k81 _ 81 (by rfl) (N:=10) (by rfl) (xs:=([]:List (S81))) (inner:=[]) (ok:=fun _=>True) (okp:=fun _=>True) (by first|(go_simp;done)|(go_simp;rfl)) (Reps.none _ _) (fun _ hk=>hk) trivial (Below.refl _ _) (Nat.le_refl _) (by simp) ?_;intro v163 w17 ho18 hb hg_ hnew_;clear hg_ hnew_;(first|rw[←Ny162.out] at ho18|(simp only[Int.reduceToNat] at ho18;rw[←Ny162.out] at ho18));have HO164:=qaf.mk (Kd.S_lower ho18 (qan (za3 HB GE154)));replace BK154:=zY BK154 hb;replace HB:=qaf.mk (qad (za3 HB GE154) hb);clear hb ho18))
  go_ret2
  exact⟨_,za12,za24 HO164,za3 HB GE154⟩
end Go.Proofs.Ytmbdphefnalenaa.Print
