-- Written by squeeze.py, a program of this session, out of what print.sh and myprint.py had printed: cut to what is used, narrowed. Not trusted, Lean checks it.
import Derived.Test.YtbomcadjkcmcgaaZK
import Derived.Test.YtbomcadjkcmcgaaZa11
import Derived.Test.YtbomcadjkcmcgaaZa7
import Derived.Test.YtbomcadjkcmcgaaZa8
import Derived.Test.YtbomcadjkcmcgaaZa9
namespace Go.Proofs.Ytbomcadjkcmcgaa.Print
open Go.RowKit Go.Proofs.YtbomcadjkcmcgaaW.PrintWords Go.Proofs.YtbomcadjkcmcgaaW.PrintLast Go.Proofs.YtbomcadjkcmcgaaW.PrintMore
attribute [local go_sem] max2_int min2_int max_two min_two max_three min_three max_four min_four
set_option linter.unusedVariables false
set_option linter.unusedSimpArgs false
def impl_StockOf.l0:Nat→List (S62)→Bool→Int→Int→List (S72)→Option (Int × (List (S72)) × Bool)
 |0,_,_,_,_,_=>none
 |k+1,x1,x7,x8,x262000,x262001=>if x7=true then(if x8<(x1.length:Int) then(if 0≤x8 then((impl_StockDo.f k x262000 x262001 ((rd_T62 x1 x8).f0) ((rd_T62 x1 x8).f1) ((rd_T62 x1 x8).f2)).bind fun bt263=>(impl_StockOf.l0 k x1 bt263.2.2 (wrap64 (x8+1)) bt263.1 bt263.2.1)) else(none)) else(some (x262000,x262001,x7))) else(some (x262000,x262001,x7))
def impl_StockOf.f (k:Nat) (a0:Int) (l1:List (S62)):Option (Int × (List (S72)) × Bool):=(impl_StockNew.f a0).bind fun bt256=>(impl_StockOf.l0 k l1 bt256.2.2 0 bt256.1 bt256.2.1)
theorem impl_StockOf.mono_l:∀k,(∀y0 y1 y2 y3 y4,LeO (impl_StockOf.l0 k y0 y1 y2 y3 y4) (impl_StockOf.l0 (k+1) y0 y1 y2 y3 y4))
 |0=>fun _ _ _ _ _ r h=>by simp[impl_StockOf.l0] at h
 |k+1=>by
  have ih0:=impl_StockOf.mono_l k
  ·intro y0 y1 y2 y3 y4
   unfold impl_StockOf.l0
   repeat' first
   |(with_reducible exact ih0 _ _ _ _ _)
   |(with_reducible exact impl_StockDo.mono _ _ _ _ _ _)
   |(with_reducible exact LeO.refl _)
   |(with_reducible exact LeO.none _)
   |(with_reducible refine LeO.ite ?_ ?_)
   |(with_reducible refine LeO.bind ?_ (fun _=>?_))
   |exact ih0 _ _ _ _ _
   |exact impl_StockDo.mono _ _ _ _ _ _
   |exact LeO.none _
   |refine LeO.ite ?_ ?_
   |refine LeO.bind ?_ (fun _=>?_)
theorem impl_StockOf.mono:∀a0 a1 k,LeO (impl_StockOf.f k a0 a1) (impl_StockOf.f (k+1) a0 a1):=by
 intro a0 a1 k
 have ih0:=impl_StockOf.mono_l k
 unfold impl_StockOf.f
 repeat' first
   |(with_reducible exact ih0 _ _ _ _ _)
   |(with_reducible exact impl_StockDo.mono _ _ _ _ _ _)
   |(with_reducible exact LeO.refl _)
   |(with_reducible exact LeO.none _)
   |(with_reducible refine LeO.ite ?_ ?_)
   |(with_reducible refine LeO.bind ?_ (fun _=>?_))
   |exact ih0 _ _ _ _ _
   |exact impl_StockDo.mono _ _ _ _ _ _
   |exact LeO.none _
   |refine LeO.ite ?_ ?_
   |refine LeO.bind ?_ (fun _=>?_)
def impl_StockOf.T5:Bool × List (List Nat × List Nat):=(true,[([],[]),([],[]),([],[]),([1,2],[1,2]),([3],[3]),([0,4],[0,4]),([5],[5]),([6],[6]),([6],[6]),([7,5,0,1,2,3,4,5,6,7],[7]),([8,9,0,1,2,3,4,5,6,7,8,9],[8])])
def impl_StockOf.B5:List Nat:=[0,0,0,6,14,31,63,127,127,255,1023]
theorem impl_StockOf.tab5:rtab .any (opsOf Try.f23 5)=impl_StockOf.T5:=by kernel_rfl
theorem impl_StockOf.bits5:waitsOk impl_StockOf.T5.2 impl_StockOf.B5=true:=by kernel_rfl
set_option maxHeartbeats 8000000 in
set_option maxRecDepth 100000 in
theorem impl_StockOf.calls (k:Nat) (a0:Int) (A1:Option Addr) (c1:Nat) (l1:List (S62)) (r1:Int) (r2:List (S72)) (r3:Bool) (w:World) (hr1:Kd.C k62 w A1 l1.length l1) (hc1:l1.length≤c1) (h:impl_StockOf.f k a0 l1=some (r1,r2,r3)) :
  Calls Try.prog 23 #[.int .i64 a0,.slice A1 l1.length c1] w fun e w'=>∃v1_:Value,e=.returned (.tuple #[.agg #[.int .i64 r1,v1_],.bool r3])∧Kd.R k72 72 w' w.heap.size (fun _=>True) v1_ r2∧Below w.heap.size w w':=by
 have hu39:=Try.underlying39
 have hu62:=Try.underlying62
 have HR1:=qam.mk hr1
 have HC1:=qam.mk hc1
 clear hr1 hc1
 have HB:=qam.mk (Below.refl w.heap.size w)
 have H:((impl_StockNew.f a0).bind fun bt256=>(impl_StockOf.l0 k l1 bt256.2.2 0 bt256.1 bt256.2.1))=some (r1,r2,r3):=h
 clear h
 replace H:=Option.bind_eq_some_iff.mp H
 obtain⟨⟨t256,t257,t260⟩,A30,H⟩:=H
 replace H:(impl_StockOf.l0 k l1 t260 0 t256 t257)=some (r1,r2,r3):=H
 have A3:=qam.mk A30
 clear A30
 have H':=qam.mk H
 clear H
 go_enter Try.func23,Try.ntmps23
 go_wp2_with(first|((with_reducible refine qak (N:=4) rfl ?_);(try(refine gate_guard (by rfl) ?_;dsimp only));refine qai ?hg (N:=4) ?hd (cs:=#[.int .i64 0,.slice none 0 0]) (t:=39) ?hr ?_;(case hd=>rfl);(case hg=>rfl);(case hr=>first|(go_simp;done)|(go_simp;rfl));intro gb255 hg w4 hbox hb;have n0_:=qam.mk (qad (za2 HB) hb);have n1_:=qam.mk (hbox);have n2_:=qam.mk ((by rw[hg];exact(qac (za2 HB)):w.heap.size≤gb255));have n3_:=qam.mk ((by rw[hg];exact(qac (za2 HB)):w.heap.size≤gb255));clear HB;have HB:=n0_;have BK255:=n1_;have GW255:=n2_;have GE255:=n3_;clear n0_ n1_ n2_ n3_;clear hb hbox hg)|((with_reducible refine qaj (f:=41) rfl ?_);refine goesL_ (some 11) rfl rfl Try.func41 (by kernel_rfl) rfl #[.int .i64 a0] rfl (by(try simp only[List.map_toArray,List.map_cons,List.map_nil]);first|done|rfl|(simp only[List.length_drop,List.length_take];rfl)) ?_;(with_reducible refine(impl_StockNew.calls a0 t256 t257 t260 _ A3.out).mono ?_);rintro e w5 ⟨v258,rfl,ho0,hb⟩;refine⟨_,rfl,?_⟩;have n0_:=qam.mk (Kd.R_lower ho0 (qac (za1 HB GE255)));have n1_:=qam.mk (qae (g:=gb255) (o:=.cells #[.int .i64 0,.slice none 0 0] 39 (0,0)) (za0 BK255) hb);have n2_:=qam.mk (qad (za1 HB GE255) hb);clear BK255;clear HB;have HO259:=n0_;have BK255:=n1_;have HB:=n2_;clear n0_ n1_ n2_;(try clear hb);(try clear hb2);(try clear hk);(try clear hi);(try clear ho0))|((with_reducible refine qak (N:=6) rfl ?_);(try(refine gate_guard (by rfl) ?_;dsimp only));refine qai ?hg (N:=6) ?hd (cs:=#[.int .i64 0,.slice none 0 0]) (t:=39) ?hr ?_;(case hd=>rfl);(case hg=>rfl);(case hr=>first|(go_simp;done)|(go_simp;rfl));intro gb261 hg w6 hbox hb;have n0_:=qam.mk (Kd.R_below (za9 HO259) hb);have n1_:=qam.mk (qae (g:=gb255) (o:=.cells #[.int .i64 0,.slice none 0 0] 39 (0,0)) (za0 BK255) hb);have n2_:=qam.mk (qad (za1 HB GE255) hb);have n3_:=qam.mk (hbox);have n4_:=qam.mk ((by rw[hg];exact(qac (za1 HB GE255)):w.heap.size≤gb261));have n5_:=qam.mk ((by rw[hg];exact(qac (za1 HB GE255)):w.heap.size≤gb261));have n6_:=qam.mk ((by rw[hg];exact Nat.ne_of_lt (qal (g:=gb255) (o:=.cells #[.int .i64 0,.slice none 0 0] 39 (0,0)) (za0 BK255)):gb255≠gb261));have n7_:=qam.mk ((by rw[hg];exact Nat.ne_of_gt (qal (g:=gb255) (o:=.cells #[.int .i64 0,.slice none 0 0] 39 (0,0)) (za0 BK255)):gb261≠gb255));clear HO259;clear BK255;clear HB;have HO259:=n0_;have BK255:=n1_;have HB:=n2_;have BK261:=n3_;have GW261:=n4_;have GE261:=n5_;have NB255_261:=n6_;have NB261_255:=n7_;clear n0_ n1_ n2_ n3_ n4_ n5_ n6_ n7_;clear hb hbox hg;have hnb7:=NB261_255.out;have hnc7:=NB255_261.out;have hcz8_0:w6.cell? ⟨gb261,0,none⟩=some (.int .i64 0):=(qab BK261.out 0).trans rfl;have hcz8_1:w6.cell? ⟨gb261,1,none⟩=some (.slice none 0 0):=(qab BK261.out 1).trans rfl;have hfz8_0:=qaa BK261.out 0;have hfz8_1:=qaa BK261.out 1;obtain⟨Ao9,co9,eo9⟩:=Kd.R_slice HO259.out;subst eo9))
 go_loopg [7,8] k (fun kq v7 v8 w'=>∃(x7_1:Bool) (x8_1:Int) (x262000_1:Int) (x262001_1:List (S72)) (u262001:Value),v7=.bool x7_1∧v8=.int .i64 x8_1∧qam (impl_StockOf.l0 kq l1 x7_1 x8_1 x262000_1 x262001_1=some (r1,r2,r3))∧qam (kq≤k)∧qam (Kd.R k72 72 w' w.heap.size (fun _=>True) u262001 x262001_1)∧qam (w'.heap[gb255]?=some (.cells #[.int .i64 0,(.slice none 0 0)] 39 (0,0)))∧qam (w'.heap[gb261]?=some (.cells #[.int .i64 x262000_1,u262001] 39 (0,0)))∧qam (Below w.heap.size w w'))
 case atStart=>exact⟨(t260),(0),(t256),(t257),(.slice Ao9 t257.length co9),(za11),(za11),H',⟨Nat.le_refl _⟩,⟨by(with_reducible repeat(first|apply Kd.R_alloc|apply Kd.R_drewN|apply Kd.R_drew));exact Kd.R_mono (Kd.R_far (p:=⟨gb261,1,none⟩) (Kd.R_far (p:=⟨gb261,0,none⟩) (Kd.R_types HO259.out BK261.out (by decide)) (fun _ hk=>hk.2) (.int .i64 t256)) (fun _ hk=>hk.2) (.slice Ao9 t257.length co9)) (fun _ hk=>trivial)⟩,⟨za4 NB255_261 BK255⟩,⟨by(with_reducible repeat(first|refine qah ?_ _|refine qaf ?_|refine qag ?_ _));refine qan (cs:=#[.int .i64 t256,.slice none 0 0]) ?_ 1 _ rfl;(with_reducible repeat(first|refine qah ?_ _|refine qaf ?_|refine qag ?_ _));refine qan (cs:=#[.int .i64 0,.slice none 0 0]) ?_ 0 _ rfl;(with_reducible repeat(first|refine qah ?_ _|refine qaf ?_|refine qag ?_ _));exact BK261.out⟩,⟨za3 HB GE255 GE261⟩⟩
 case round=>
  clear H'
  try clear c1
  try clear c2
  try clear p2
  try clear c4
  try clear c7
  try clear hcz8_0
  try clear hcz8_1
  try clear hfz8_0
  try clear hfz8_1
  obtain⟨x7_1,x8_1,x262000_1,x262001_1,u262001,rfl,rfl,HA,HK1,HO_262001,BK255,BK261,HB⟩:=hrel
  cases gk with
  |zero=>exact absurd HA.out (by simp[impl_StockOf.l0])
  |succ k1=>
   have H:=HA.out
   clear HA
   simp only[impl_StockOf.l0] at H
   by_cases c10:x7_1=true
   ·subst c10
    have H1:(if x8_1<(l1.length:Int) then(if 0≤x8_1 then((impl_StockDo.f k1 x262000_1 x262001_1 ((rd_T62 l1 x8_1).f0) ((rd_T62 l1 x8_1).f1) ((rd_T62 l1 x8_1).f2)).bind fun bt263=>(impl_StockOf.l0 k1 l1 bt263.2.2 (wrap64 (x8_1+1)) bt263.1 bt263.2.1)) else(none)) else(some (x262000_1,x262001_1,true)))=some (r1,r2,r3):=by rw[if_pos rfl] at H;exact H
    clear H
    have H:=H1
    clear H1
    by_cases c11:x8_1<(l1.length:Int)
    ·rw[if_pos c11] at H
     have c11b0:decide (x8_1<(l1.length:Int))=true:=decide_eq_true c11
     clear c11
     by_cases c12:0≤x8_1
     ·rw[if_pos c12] at H
      have c12b0:decide (0≤x8_1)=true:=decide_eq_true c12
      clear c12
      replace H:=Option.bind_eq_some_iff.mp H
      obtain⟨⟨t263,t264,t267⟩,A130,H⟩:=H
      replace H:(impl_StockOf.l0 k1 l1 t267 (wrap64 (x8_1+1)) t263 t264)=some (r1,r2,r3):=H
      have A13:=qam.mk A130
      clear A130
      have H':=qam.mk H
      clear H
      try go_wp2
      have n0_:=qam.mk (Kd.R_drew HO_262001.out)
      have n1_:=qam.mk (qaf BK255.out)
      have n2_:=qam.mk (qaf BK261.out)
      have n3_:=qam.mk (below_drew1 HB.out)
      clear HO_262001
      clear BK255
      clear BK261
      clear HB
      have HO_262001:=n0_
      have BK255:=n1_
      have BK261:=n2_
      have HB:=n3_
      clear n0_ n1_ n2_ n3_
      have p262:0≤(x8_1:Int):=of_decide_eq_true (za6)
      have q262:x8_1<(l1.length:Int):=of_decide_eq_true (za6)
      obtain⟨ad262,A262_2,c262_2,e262,hx262_0,hx262_1,hx262_2,hl262_2,hi262_2⟩:=at_T62 HR1.out x8_1 p262 q262
      have hw262_2:=hx262_2
      have hw262_1:=hx262_1
      have hw262_0:=hx262_0
      cases e262
      have hxo262_2:=qam.mk hx262_2
      replace hx262_0:=(HB.out.cell (World.block_lt_of_cell? w _ hx262_0)).trans hx262_0
      replace hx262_1:=(HB.out.cell (World.block_lt_of_cell? w _ hx262_1)).trans hx262_1
      replace hx262_2:=(HB.out.cell (World.block_lt_of_cell? w _ hx262_2)).trans hx262_2
      have HR262_2:=qam.mk hi262_2
      have HC262_2:=qam.mk hl262_2
      clear hi262_2 hl262_2
      replace p262:=eq_true p262
      replace q262:=eq_true q262
      obtain⟨Ao15,co15,eo15⟩:=Kd.R_slice HO_262001.out
      (first|subst eo15|(injection eo15 with f1_ f2_ f3_;have f4_:=f1_.symm;have f5_:=f3_.symm;clear f1_ f2_ f3_;subst f4_;subst f5_))
      refine start_ (n:=11) (S:=fun w'=>w'.cell? ⟨gb261,0,none⟩=some (.int .i64 x262000_1)∧w'.cell? ⟨gb261,1,none⟩=some (.slice Ao15 x262001_1.length co15)∧w'.cell? (ad262.add ((x8_1).toNat*3))=some (.int .i64 ((rd_T62 l1 x8_1).f0))∧w'.cell? ⟨(ad262.add ((x8_1).toNat*3)).block,(ad262.add ((x8_1).toNat*3)).off+1,none⟩=some (.int .i64 ((rd_T62 l1 x8_1).f1))∧w'.cell? ⟨(ad262.add ((x8_1).toNat*3)).block,(ad262.add ((x8_1).toNat*3)).off+2,none⟩=some (.slice A262_2 ((rd_T62 l1 x8_1).f2).length c262_2)) (ds:=[9]) #[false,false,false,false,false,false,false,false,false,false,false] (by kernel_rfl) rfl rfl ⟨(qab BK261.out 0).trans rfl,(qab BK261.out 1).trans rfl,((HB.out.cell (World.block_lt_of_cell? w _ hw262_0)).trans hw262_0),((HB.out.cell (World.block_lt_of_cell? w _ hw262_1)).trans hw262_1),((HB.out.cell (World.block_lt_of_cell? w _ hw262_2)).trans hw262_2)⟩ (fun hHeld=>?_);refine with_tabW impl_StockOf.tab5 impl_StockOf.bits5 (fun HT_ HW_=>?_)
      generalize wr.drew=w14 at HO_262001 BK255 BK261 HB HR262_2 hx262_0 hx262_1 hx262_2 hHeld ⊢
      refine pure_ (i:=1) (N:=some 25) (v:=?_) (a':=?_) #[false,true,false,false,false,false,false,false,false,false,false] rfl rfl (qas HT_.out (by kernel_rfl)) (fun _ _ _ h=>h) (Or.inl ⟨by rfl,?_⟩) ?_ ?_
      rotate_left
      ·intro w'
       go_simp
       with_reducible rfl
      rotate_left
      ·simp only[Act.put,List.setIfInBounds_toArray,List.set_cons_zero,List.set_cons_succ,qao,qap]
       rfl
      refine pure_ (i:=2) (N:=some 26) (v:=?_) (a':=?_) #[false,true,true,false,false,false,false,false,false,false,false] rfl rfl (qas HT_.out (by kernel_rfl)) (fun _ _ _ h=>h) (Or.inl ⟨by rfl,?_⟩) ?_ ?_
      rotate_left
      ·intro w'
       go_simp
       with_reducible rfl
      rotate_left
      ·simp only[Act.put,List.setIfInBounds_toArray,List.set_cons_zero,List.set_cons_succ,qao,qap]
       rfl
      refine pure_ (i:=3) (N:=some 27) (v:=?_) (a':=?_) #[false,true,true,true,false,false,false,false,false,false,false] rfl rfl (qas HT_.out (by kernel_rfl)) (fun _ _ _ h=>h) (Or.inl ⟨by rfl,?_⟩) ?_ ?_
      rotate_left
      ·intro w'
       go_simp
       with_reducible rfl
      rotate_left
      ·simp only[Act.put,List.setIfInBounds_toArray,List.set_cons_zero,List.set_cons_succ,qao,qap]
       rfl
      refine take_ (i:=0) (N:=some 24) (v:=?_) (a':=?_) #[true,true,true,true,false,false,false,false,false,false,false] rfl rfl (take_ofW HT_.out HW_.out (by kernel_rfl)) (fun _ _ _ h=>h) (Or.inl ⟨by rfl,?_⟩) hHeld ?_ ?_
      rotate_left
      ·rintro w' ⟨s0,s1,s2,s3,s4⟩
       go_simp
       with_reducible rfl
      rotate_left
      ·simp only[Act.put,List.setIfInBounds_toArray,List.set_cons_zero,List.set_cons_succ,qao,qap]
       rfl
      refine take_ (i:=4) (N:=some 28) (v:=?_) (a':=?_) #[true,true,true,true,true,false,false,false,false,false,false] rfl rfl (take_ofW HT_.out HW_.out (by kernel_rfl)) (fun _ _ _ h=>h) (Or.inl ⟨by rfl,?_⟩) hHeld ?_ ?_
      rotate_left
      ·rintro w' ⟨s0,s1,s2,s3,s4⟩
       go_simp
       with_reducible rfl
      rotate_left
      ·simp only[Act.put,List.setIfInBounds_toArray,List.set_cons_zero,List.set_cons_succ,qao,qap]
       rfl
      refine one_ (i:=5) (N:=some 29) #[true,true,true,true,true,true,false,false,false,false,false] rfl rfl (one_of HT_.out (by kernel_rfl)) (by decide) (fun K hK=>?_)
      refine goes_ Try.func42 (by kernel_rfl) rfl #[.agg #[.int .i64 x262000_1,.slice Ao15 x262001_1.length co15],.agg #[.int .i64 ((rd_T62 l1 x8_1).f0),.int .i64 ((rd_T62 l1 x8_1).f1),.slice A262_2 ((rd_T62 l1 x8_1).f2).length c262_2]] (by rfl) rfl rfl (by(try simp only[List.map_toArray,List.map_cons,List.map_nil]);first|done|rfl|(simp only[List.length_drop,List.length_take];rfl)) ?_
      with_reducible refine(impl_StockDo.calls k1 x262000_1 _ _ x262001_1 ((rd_T62 l1 x8_1).f0) ((rd_T62 l1 x8_1).f1) _ _ ((rd_T62 l1 x8_1).f2) t263 t264 t267 _ ?side1 ?side2 ?side3 ?side4 A13.out).mono ?_
      (case side1=>repeat(first|exact(Kd.R_reads' HO_262001.out).2.2|(with_reducible refine Kd.C_alloc ?_ _)|(with_reducible refine Kd.C_drewN ?_ _)|(with_reducible refine Kd.C_drew ?_)))
      (case side2=>exact(Kd.R_reads' HO_262001.out).2.1)
      (case side3=>repeat(first|exact(Kd.C_below HR262_2.out HB.out)|(with_reducible refine Kd.C_alloc ?_ _)|(with_reducible refine Kd.C_drewN ?_ _)|(with_reducible refine Kd.C_drew ?_)))
      (case side4=>exact HC262_2.out)
      rintro e w16 ⟨v265,rfl,ho0,hb⟩
      refine⟨_,rfl,?_⟩
      have n0_:=qam.mk (Kd.R_elder' (za9 HO_262001) (Kd.R_base ho0) hb)
      have n1_:=qam.mk (Kd.R_lower (Kd.R_new' ho0 (Kd.R_lt (za9 HO_262001))) (qac (za3 HB GE255 GE261)))
      have n2_:=qam.mk (qae (g:=gb255) (o:=.cells #[.int .i64 0,.slice none 0 0] 39 (0,0)) (za0 BK255) hb)
      have n3_:=qam.mk (qae (g:=gb261) (o:=.cells #[.int .i64 x262000_1,.slice Ao15 x262001_1.length co15] 39 (0,0)) (za0 BK261) hb)
      have n4_:=qam.mk (qad (za3 HB GE255 GE261) hb)
      clear HO_262001
      clear BK255
      clear BK261
      clear HB
      have HO_262001:=n0_
      have HO266:=n1_
      have BK255:=n2_
      have BK261:=n3_
      have HB:=n4_
      clear n0_ n1_ n2_ n3_ n4_
      (try clear hb)
      (try clear hb2)
      (try clear hk)
      (try clear hi)
      (try clear ho0)
      obtain⟨Ao18,co18,eo18⟩:=Kd.R_slice HO266.out
      (first|subst eo18|(injection eo18 with f1_ f2_ f3_;have f4_:=f1_.symm;have f5_:=f3_.symm;clear f1_ f2_ f3_;subst f4_;subst f5_))
      refine hK.out _ _ ⟨(qab BK261.out 0).trans rfl,(qab BK261.out 1).trans rfl,((HB.out.cell (World.block_lt_of_cell? w _ hw262_0)).trans hw262_0),((HB.out.cell (World.block_lt_of_cell? w _ hw262_1)).trans hw262_1),((HB.out.cell (World.block_lt_of_cell? w _ hw262_2)).trans hw262_2)⟩ (fun hHeld=>?_)
      clear hK K
      refine norm_ (a':=?_) ?_ ?_
      rotate_left
      ·show Act.put _ (some 29) _=_
       simp only[Act.put,List.setIfInBounds_toArray,List.set_cons_zero,List.set_cons_succ,qao,qap]
       rfl
      refine pure_ (i:=6) (N:=some 23) (v:=?_) (a':=?_) #[true,true,true,true,true,true,true,false,false,false,false] rfl rfl (qas HT_.out (by kernel_rfl)) (fun _ _ _ h=>h) (Or.inl ⟨by rfl,?_⟩) ?_ ?_
      rotate_left
      ·intro w'
       go_simp
       with_reducible rfl
      rotate_left
      ·simp only[Act.put,List.setIfInBounds_toArray,List.set_cons_zero,List.set_cons_succ,qao,qap]
       rfl
      refine pure_ (i:=7) (N:=some 30) (v:=?_) (a':=?_) #[true,true,true,true,true,true,true,true,false,false,false] rfl rfl (qas HT_.out (by kernel_rfl)) (fun _ _ _ h=>h) (Or.inl ⟨by rfl,?_⟩) ?_ ?_
      rotate_left
      ·intro w'
       go_simp
       with_reducible rfl
      rotate_left
      ·simp only[Act.put,List.setIfInBounds_toArray,List.set_cons_zero,List.set_cons_succ,qao,qap]
       rfl
      refine pure_ (i:=8) (N:=some 31) (v:=?_) (a':=?_) #[true,true,true,true,true,true,true,true,true,false,false] rfl rfl (qas HT_.out (by kernel_rfl)) (fun _ _ _ h=>h) (Or.inl ⟨by rfl,?_⟩) ?_ ?_
      rotate_left
      ·intro w'
       go_simp
       with_reducible rfl
      rotate_left
      ·simp only[Act.put,List.setIfInBounds_toArray,List.set_cons_zero,List.set_cons_succ,qao,qap]
       rfl
      refine last_ (i:=9) (N:=none) #[true,true,true,true,true,true,true,true,true,true,false] rfl rfl (one_of HT_.out (by kernel_rfl)) (by decide) (fun K hK=>?_)
      have hs17:w16.cell? ⟨gb261,0,none⟩=some (.int .i64 x262000_1):=(qab BK261.out 0).trans rfl
      have hfs17:=qaa BK261.out 0
      have hns17_0:=NB255_261.out
      have hms17_0:=NB261_255.out
      have hs19:w16.cell? ⟨gb261,1,none⟩=some (.slice Ao15 x262001_1.length co15):=(qab BK261.out 1).trans rfl
      have hfs19:=qaa BK261.out 1
      have hns19_0:=NB255_261.out
      have hms19_0:=NB261_255.out
      refine skip_ (w1:=?_) (by rfl) rfl ?_ ?_
      rotate_left
      ·go_simp
       rfl
      refine hK.out _ _ ?_
      clear hK K
      refine pure_ (i:=10) (N:=some 7) (v:=?_) (a':=?_) #[true,true,true,true,true,true,true,true,true,true,true] rfl rfl (qas HT_.out (by kernel_rfl)) (fun _ _ _ h=>h) (Or.inl ⟨by rfl,?_⟩) ?_ ?_
      rotate_left
      ·intro w'
       go_simp
       with_reducible rfl
      rotate_left
      ·simp only[Act.put,List.setIfInBounds_toArray,List.set_cons_zero,List.set_cons_succ,qao,qap]
       rfl
      refine done_ (done_of HT_.out (by kernel_rfl)) ?_
      try go_wp2
      go_roundg k1
      case measure=>have:=HK1.out;omega
      case rel=>exact⟨(t267),(wrap64 (x8_1+1)),(t263),(t264),(.slice Ao18 t264.length co18),(za11),(za11),H',⟨by have:=HK1.out;omega⟩,⟨by(with_reducible repeat(first|apply Kd.R_alloc|apply Kd.R_drewN|apply Kd.R_drew));exact Kd.R_mono (Kd.R_far (p:=⟨gb261,1,none⟩) (Kd.R_far (p:=⟨gb261,0,none⟩) (Kd.R_types HO266.out BK261.out (by decide)) (fun _ hk=>hk.2) (.int .i64 t263)) (fun _ hk=>hk.2) (.slice Ao18 t264.length co18)) (fun _ hk=>trivial)⟩,⟨za4 NB255_261 BK255⟩,⟨by(with_reducible repeat(first|refine qah ?_ _|refine qaf ?_|refine qag ?_ _));refine qan (cs:=#[.int .i64 t263,.slice Ao15 x262001_1.length co15]) ?_ 1 _ rfl;(with_reducible repeat(first|refine qah ?_ _|refine qaf ?_|refine qag ?_ _));refine qan (cs:=#[.int .i64 x262000_1,.slice Ao15 x262001_1.length co15]) ?_ 0 _ rfl;(with_reducible repeat(first|refine qah ?_ _|refine qaf ?_|refine qag ?_ _));exact BK261.out⟩,⟨za3 HB GE255 GE261⟩⟩
     ·rw[if_neg c12] at H
      exact absurd H (by simp)
    ·rw[if_neg c11] at H
     have c11b0:decide (x8_1<(l1.length:Int))=false:=decide_eq_false c11
     clear c11
     simp only[Option.some.injEq,Prod.mk.injEq] at H
     obtain⟨rfl,rfl,rfl⟩:=H
     have hnb20:=NB261_255.out
     have hnc20:=NB255_261.out
     have hcz21_0:wr.cell? ⟨gb261,0,none⟩=some (.int .i64 x262000_1):=(qab BK261.out 0).trans rfl
     have hcz21_1:wr.cell? ⟨gb261,1,none⟩=some (u262001):=(qab BK261.out 1).trans rfl
     have hfz21_0:=qaa BK261.out 0
     have hfz21_1:=qaa BK261.out 1
     have hcz22_0:wr.cell? ⟨gb255,0,none⟩=some (.int .i64 0):=(qab BK255.out 0).trans rfl
     have hcz22_1:wr.cell? ⟨gb255,1,none⟩=some (.slice none 0 0):=(qab BK255.out 1).trans rfl
     have hfz22_0:=qaa BK255.out 0
     have hfz22_1:=qaa BK255.out 1
     obtain⟨Ao23,co23,eo23⟩:=Kd.R_slice HO_262001.out
     subst eo23
     go_wp2
     refine bodyPost_ret (results_ct rfl _ _ gb255 39 #[.int .i64 x262000_1,.slice Ao23 x262001_1.length co23] (0,0) _ rfl (by(with_reducible repeat(first|refine qah ?_ _|refine qaf ?_|refine qag ?_ _));refine qan (cs:=#[.int .i64 x262000_1,.slice none 0 0]) ?_ 1 _ rfl;(with_reducible repeat(first|refine qah ?_ _|refine qaf ?_|refine qag ?_ _));refine qan (cs:=#[.int .i64 0,.slice none 0 0]) ?_ 0 _ rfl;(with_reducible repeat(first|refine qah ?_ _|refine qaf ?_|refine qag ?_ _));exact BK255.out) Try.underlying39 rfl (by kernel_rfl)) rfl ?_
     exact⟨_,za8,by(with_reducible repeat(first|apply Kd.R_alloc|apply Kd.R_drewN|apply Kd.R_drew));exact Kd.R_mono (Kd.R_far (p:=⟨gb255,1,none⟩) (Kd.R_far (p:=⟨gb255,0,none⟩) (Kd.R_types HO_262001.out BK255.out (by decide)) (fun _ hk=>hk.2) (.int .i64 x262000_1)) (fun _ hk=>hk.2) (.slice Ao23 x262001_1.length co23)) (fun _ hk=>trivial),za3 HB GE255 GE261⟩
   ·replace c10:=Bool.eq_false_iff.mpr c10
    subst c10
    have H1:(some (x262000_1,x262001_1,false))=some (r1,r2,r3):=by rw[if_neg (show ¬(false=true) by decide)] at H;exact H
    clear H
    have H:=H1
    clear H1
    simp only[Option.some.injEq,Prod.mk.injEq] at H
    obtain⟨rfl,rfl,rfl⟩:=H
    have hnb24:=NB261_255.out
    have hnc24:=NB255_261.out
    have hcz25_0:wr.cell? ⟨gb261,0,none⟩=some (.int .i64 x262000_1):=(qab BK261.out 0).trans rfl
    have hcz25_1:wr.cell? ⟨gb261,1,none⟩=some (u262001):=(qab BK261.out 1).trans rfl
    have hfz25_0:=qaa BK261.out 0
    have hfz25_1:=qaa BK261.out 1
    have hcz26_0:wr.cell? ⟨gb255,0,none⟩=some (.int .i64 0):=(qab BK255.out 0).trans rfl
    have hcz26_1:wr.cell? ⟨gb255,1,none⟩=some (.slice none 0 0):=(qab BK255.out 1).trans rfl
    have hfz26_0:=qaa BK255.out 0
    have hfz26_1:=qaa BK255.out 1
    obtain⟨Ao27,co27,eo27⟩:=Kd.R_slice HO_262001.out
    subst eo27
    go_wp2
    refine bodyPost_ret (results_ct rfl _ _ gb255 39 #[.int .i64 x262000_1,.slice Ao27 x262001_1.length co27] (0,0) _ rfl (by(with_reducible repeat(first|refine qah ?_ _|refine qaf ?_|refine qag ?_ _));refine qan (cs:=#[.int .i64 x262000_1,.slice none 0 0]) ?_ 1 _ rfl;(with_reducible repeat(first|refine qah ?_ _|refine qaf ?_|refine qag ?_ _));refine qan (cs:=#[.int .i64 0,.slice none 0 0]) ?_ 0 _ rfl;(with_reducible repeat(first|refine qah ?_ _|refine qaf ?_|refine qag ?_ _));exact BK255.out) Try.underlying39 rfl (by kernel_rfl)) rfl ?_
    exact⟨_,za8,by(with_reducible repeat(first|apply Kd.R_alloc|apply Kd.R_drewN|apply Kd.R_drew));exact Kd.R_mono (Kd.R_far (p:=⟨gb255,1,none⟩) (Kd.R_far (p:=⟨gb255,0,none⟩) (Kd.R_types HO_262001.out BK255.out (by decide)) (fun _ hk=>hk.2) (.int .i64 x262000_1)) (fun _ hk=>hk.2) (.slice Ao27 x262001_1.length co27)) (fun _ hk=>trivial),za3 HB GE255 GE261⟩
def impl_HouseOk.f (k:Nat) (a0_0:Int) (a0_1:Bool) (a0_2:Int) (l0_3:List (S62)) (a0_4:Int):Option (Bool):=(impl_isHouse.f a0_0).bind fun t269=>(if t269=true then((impl_LogOk.f l0_3 a0_4).bind fun t270=>(if t270=true then((impl_StockOf.f k a0_2 l0_3).bind fun bt271=>(some bt271.2.2)) else(some false))) else(some false))
theorem impl_HouseOk.mono:∀a0 a1 a2 a3 a4 k,LeO (impl_HouseOk.f k a0 a1 a2 a3 a4) (impl_HouseOk.f (k+1) a0 a1 a2 a3 a4):=by
 intro a0 a1 a2 a3 a4 k
 unfold impl_HouseOk.f
 repeat' first
   |(with_reducible exact impl_StockOf.mono _ _ _)
   |(with_reducible exact LeO.refl _)
   |(with_reducible exact LeO.none _)
   |(with_reducible refine LeO.ite ?_ ?_)
   |(with_reducible refine LeO.bind ?_ (fun _=>?_))
   |exact impl_StockOf.mono _ _ _
   |exact LeO.none _
   |refine LeO.ite ?_ ?_
   |refine LeO.bind ?_ (fun _=>?_)
set_option maxHeartbeats 8000000 in
set_option maxRecDepth 100000 in
theorem impl_HouseOk.calls (k:Nat) (a0_0:Int) (a0_1:Bool) (a0_2:Int) (A0_3:Option Addr) (c0_3:Nat) (l0_3:List (S62)) (a0_4:Int) (r:Bool) (w:World) (hr0_3:Kd.C k62 w A0_3 l0_3.length l0_3) (hc0_3:l0_3.length≤c0_3) (h:impl_HouseOk.f k a0_0 a0_1 a0_2 l0_3 a0_4=some r) :
  Calls Try.prog 8 #[.agg #[.int .i64 a0_0,.bool a0_1,.int .i64 a0_2,.slice A0_3 l0_3.length c0_3,.int .i64 a0_4]] w fun e w'=>e=.returned (.bool r)∧Below w.heap.size w w':=by
 have hu33:=Try.underlying33
 have hu31:=Try.underlying31
 have hu39:=Try.underlying39
 have HR0_3:=qam.mk hr0_3
 have HC0_3:=qam.mk hc0_3
 clear hr0_3 hc0_3
 have HB:=qam.mk (Below.refl w.heap.size w)
 have H:((impl_isHouse.f a0_0).bind fun t269=>(if t269=true then((impl_LogOk.f l0_3 a0_4).bind fun t270=>(if t270=true then((impl_StockOf.f k a0_2 l0_3).bind fun bt271=>(some bt271.2.2)) else(some false))) else(some false)))=some r:=h
 clear h
 replace H:=Option.bind_eq_some_iff.mp H
 obtain⟨t269,A20,H⟩:=H
 replace H:(if t269=true then((impl_LogOk.f l0_3 a0_4).bind fun t270=>(if t270=true then((impl_StockOf.f k a0_2 l0_3).bind fun bt271=>(some bt271.2.2)) else(some false))) else(some false))=some r:=H
 have A2:=qam.mk A20
 clear A20
 by_cases c3:t269=true
 ·subst c3
  have H1:((impl_LogOk.f l0_3 a0_4).bind fun t270=>(if t270=true then((impl_StockOf.f k a0_2 l0_3).bind fun bt271=>(some bt271.2.2)) else(some false)))=some r:=by rw[if_pos rfl] at H;exact H
  clear H
  have H:=H1
  clear H1
  replace H:=Option.bind_eq_some_iff.mp H
  obtain⟨t270,A40,H⟩:=H
  replace H:(if t270=true then((impl_StockOf.f k a0_2 l0_3).bind fun bt271=>(some bt271.2.2)) else(some false))=some r:=H
  have A4:=qam.mk A40
  clear A40
  by_cases c5:t270=true
  ·subst c5
   have H1:((impl_StockOf.f k a0_2 l0_3).bind fun bt271=>(some bt271.2.2))=some r:=by rw[if_pos rfl] at H;exact H
   clear H
   have H:=H1
   clear H1
   replace H:=Option.bind_eq_some_iff.mp H
   obtain⟨⟨t271,t272,t275⟩,A60,H⟩:=H
   replace H:(some t275)=some r:=H
   have A6:=qam.mk A60
   clear A60
   obtain rfl:=Option.some.inj H
   go_enter Try.func8,Try.ntmps8
   go_wp2_with(first|((with_reducible refine qak (N:=1) rfl ?_);refine qai ?hg (N:=1) ?hd (cs:=#[.int .i64 a0_0,.bool a0_1,.int .i64 a0_2,.slice A0_3 l0_3.length c0_3,.int .i64 a0_4]) (t:=33) ?hr ?_;(case hd=>rfl);(case hg=>rfl);(case hr=>first|(go_simp;done)|(go_simp;rfl));intro gb268 hg w7 hbox hb;have n0_:=qam.mk (qad (za2 HB) hb);have n1_:=qam.mk (hbox);have n2_:=qam.mk ((by rw[hg];exact(qac (za2 HB)):w.heap.size≤gb268));have n3_:=qam.mk ((by rw[hg];exact(qac (za2 HB)):w.heap.size≤gb268));clear HB;have HB:=n0_;have BK268:=n1_;have GW268:=n2_;have GE268:=n3_;clear n0_ n1_ n2_ n3_;clear hb hbox hg;have hcz8_0:w7.cell? ⟨gb268,0,none⟩=some (.int .i64 a0_0):=(qab BK268.out 0).trans rfl;have hcz8_1:w7.cell? ⟨gb268,1,none⟩=some (.bool a0_1):=(qab BK268.out 1).trans rfl;have hcz8_2:w7.cell? ⟨gb268,2,none⟩=some (.int .i64 a0_2):=(qab BK268.out 2).trans rfl;have hcz8_3:w7.cell? ⟨gb268,3,none⟩=some (.slice A0_3 l0_3.length c0_3):=(qab BK268.out 3).trans rfl;have hcz8_4:w7.cell? ⟨gb268,4,none⟩=some (.int .i64 a0_4):=(qab BK268.out 4).trans rfl;have hfz8_0:=qaa BK268.out 0;have hfz8_1:=qaa BK268.out 1;have hfz8_2:=qaa BK268.out 2;have hfz8_3:=qaa BK268.out 3;have hfz8_4:=qaa BK268.out 4)|((with_reducible refine qaj (f:=21) rfl ?_);refine goesL_ (some 7) rfl rfl Try.func21 (by kernel_rfl) rfl #[.int .i64 a0_0] rfl (by(try simp only[List.map_toArray,List.map_cons,List.map_nil]);first|done|rfl|(simp only[List.length_drop,List.length_take];rfl)) ?_;(with_reducible refine(impl_isHouse.calls a0_0 true _ A2.out).mono ?_);rintro e w' ⟨rfl,⟨nd,rfl⟩⟩;refine⟨_,rfl,?_⟩;(try(rw[drewN_self w7];generalize hq_:World.drewN w7 _=w7;have n0_:qam (w7.heap[gb268]?=some (.cells #[.int .i64 a0_0,.bool a0_1,.int .i64 a0_2,.slice A0_3 l0_3.length c0_3,.int .i64 a0_4] 33 (0,0))):=⟨by rw[←hq_];exact(za0 BK268)⟩;have n1_:qam (Below w.heap.size w w7):=⟨by rw[←hq_];exact(za1 HB GE268)⟩;clear BK268 HB hq_;have BK268:=n0_;have HB:=n1_;clear n0_ n1_;have hczugb268_0:w7.cell? ⟨gb268,0,none⟩=some _:=(qab BK268.out 0).trans rfl;have hfzugb268_0:=qaa BK268.out 0;have hczugb268_1:w7.cell? ⟨gb268,1,none⟩=some _:=(qab BK268.out 1).trans rfl;have hfzugb268_1:=qaa BK268.out 1;have hczugb268_2:w7.cell? ⟨gb268,2,none⟩=some _:=(qab BK268.out 2).trans rfl;have hfzugb268_2:=qaa BK268.out 2;have hczugb268_3:w7.cell? ⟨gb268,3,none⟩=some _:=(qab BK268.out 3).trans rfl;have hfzugb268_3:=qaa BK268.out 3;have hczugb268_4:w7.cell? ⟨gb268,4,none⟩=some _:=(qab BK268.out 4).trans rfl;have hfzugb268_4:=qaa BK268.out 4)))|(go_at_call 22;(with_reducible refine(impl_LogOk.calls _ _ l0_3 a0_4 true _ ?side1 ?side2 A4.out).mono ?_);(case side1=>repeat(first|exact(Kd.C_below HR0_3.out HB.out)|(with_reducible refine Kd.C_alloc ?_ _)|(with_reducible refine Kd.C_drewN ?_ _)|(with_reducible refine Kd.C_drew ?_)));(case side2=>exact HC0_3.out);rintro e w9 ⟨rfl,hb⟩;have n0_:=qam.mk (qae (g:=gb268) (o:=.cells #[.int .i64 a0_0,.bool a0_1,.int .i64 a0_2,.slice A0_3 l0_3.length c0_3,.int .i64 a0_4] 33 (0,0)) (za0 BK268) hb);have n1_:=qam.mk (qad (za1 HB GE268) hb);clear BK268;clear HB;have BK268:=n0_;have HB:=n1_;clear n0_ n1_;(try clear hb);(try clear hb2);(try clear hk);(try clear hi);have hcz10_0:w9.cell? ⟨gb268,0,none⟩=some (.int .i64 a0_0):=(qab BK268.out 0).trans rfl;have hcz10_1:w9.cell? ⟨gb268,1,none⟩=some (.bool a0_1):=(qab BK268.out 1).trans rfl;have hcz10_2:w9.cell? ⟨gb268,2,none⟩=some (.int .i64 a0_2):=(qab BK268.out 2).trans rfl;have hcz10_3:w9.cell? ⟨gb268,3,none⟩=some (.slice A0_3 l0_3.length c0_3):=(qab BK268.out 3).trans rfl;have hcz10_4:w9.cell? ⟨gb268,4,none⟩=some (.int .i64 a0_4):=(qab BK268.out 4).trans rfl;have hfz10_0:=qaa BK268.out 0;have hfz10_1:=qaa BK268.out 1;have hfz10_2:=qaa BK268.out 2;have hfz10_3:=qaa BK268.out 3;have hfz10_4:=qaa BK268.out 4)|((with_reducible refine qaj (f:=23) rfl ?_);refine goesL_ (some 21) rfl rfl Try.func23 (by kernel_rfl) rfl #[.int .i64 a0_2,.slice A0_3 l0_3.length c0_3] rfl (by(try simp only[List.map_toArray,List.map_cons,List.map_nil]);first|done|rfl|(simp only[List.length_drop,List.length_take];rfl)) ?_;(with_reducible refine(impl_StockOf.calls k a0_2 _ _ l0_3 t271 t272 t275 _ ?side1 ?side2 A6.out).mono ?_);(case side1=>repeat(first|exact(Kd.C_below HR0_3.out HB.out)|(with_reducible refine Kd.C_alloc ?_ _)|(with_reducible refine Kd.C_drewN ?_ _)|(with_reducible refine Kd.C_drew ?_)));(case side2=>exact HC0_3.out);rintro e w11 ⟨v273,rfl,ho0,hb⟩;refine⟨_,rfl,?_⟩;have n0_:=qam.mk (Kd.R_lower ho0 (qac (za1 HB GE268)));have n1_:=qam.mk (qae (g:=gb268) (o:=.cells #[.int .i64 a0_0,.bool a0_1,.int .i64 a0_2,.slice A0_3 l0_3.length c0_3,.int .i64 a0_4] 33 (0,0)) (za0 BK268) hb);have n2_:=qam.mk (qad (za1 HB GE268) hb);clear BK268;clear HB;have HO274:=n0_;have BK268:=n1_;have HB:=n2_;clear n0_ n1_ n2_;(try clear hb);(try clear hb2);(try clear hk);(try clear hi);(try clear ho0))|((with_reducible refine qak (N:=3) rfl ?_);refine qai ?hg (N:=3) ?hd (cs:=#[.int .i64 0,.slice none 0 0]) (t:=39) ?hr ?_;(case hd=>rfl);(case hg=>rfl);(case hr=>first|(go_simp;done)|(go_simp;rfl));intro gb276 hg w12 hbox hb;have n0_:=qam.mk (Kd.R_below (za9 HO274) hb);have n1_:=qam.mk (qae (g:=gb268) (o:=.cells #[.int .i64 a0_0,.bool a0_1,.int .i64 a0_2,.slice A0_3 l0_3.length c0_3,.int .i64 a0_4] 33 (0,0)) (za0 BK268) hb);have n2_:=qam.mk (qad (za1 HB GE268) hb);have n3_:=qam.mk (hbox);have n4_:=qam.mk ((by rw[hg];exact(qac (za1 HB GE268)):w.heap.size≤gb276));have n5_:=qam.mk ((by rw[hg];exact(qac (za1 HB GE268)):w.heap.size≤gb276));have n6_:=qam.mk ((by rw[hg];exact Nat.ne_of_lt (qal (g:=gb268) (o:=.cells #[.int .i64 a0_0,.bool a0_1,.int .i64 a0_2,.slice A0_3 l0_3.length c0_3,.int .i64 a0_4] 33 (0,0)) (za0 BK268)):gb268≠gb276));have n7_:=qam.mk ((by rw[hg];exact Nat.ne_of_gt (qal (g:=gb268) (o:=.cells #[.int .i64 a0_0,.bool a0_1,.int .i64 a0_2,.slice A0_3 l0_3.length c0_3,.int .i64 a0_4] 33 (0,0)) (za0 BK268)):gb276≠gb268));clear HO274;clear BK268;clear HB;have HO274:=n0_;have BK268:=n1_;have HB:=n2_;have BK276:=n3_;have GW276:=n4_;have GE276:=n5_;have NB268_276:=n6_;have NB276_268:=n7_;clear n0_ n1_ n2_ n3_ n4_ n5_ n6_ n7_;clear hb hbox hg;have hnb13:=NB276_268.out;have hnc13:=NB268_276.out;have hcz14_0:w12.cell? ⟨gb276,0,none⟩=some (.int .i64 0):=(qab BK276.out 0).trans rfl;have hcz14_1:w12.cell? ⟨gb276,1,none⟩=some (.slice none 0 0):=(qab BK276.out 1).trans rfl;have hfz14_0:=qaa BK276.out 0;have hfz14_1:=qaa BK276.out 1;obtain⟨Ao15,co15,eo15⟩:=Kd.R_slice HO274.out;subst eo15))
   go_ret
   exact⟨za8,za3 HB GE268 GE276⟩
  ·replace c5:=Bool.eq_false_iff.mpr c5
   subst c5
   have H1:(some false)=some r:=by rw[if_neg (show ¬(false=true) by decide)] at H;exact H
   clear H
   have H:=H1
   clear H1
   obtain rfl:=Option.some.inj H
   go_enter Try.func8,Try.ntmps8
   go_wp2_with(first|((with_reducible refine qak (N:=1) rfl ?_);refine qai ?hg (N:=1) ?hd (cs:=#[.int .i64 a0_0,.bool a0_1,.int .i64 a0_2,.slice A0_3 l0_3.length c0_3,.int .i64 a0_4]) (t:=33) ?hr ?_;(case hd=>rfl);(case hg=>rfl);(case hr=>first|(go_simp;done)|(go_simp;rfl));intro gb268 hg w16 hbox hb;have n0_:=qam.mk (qad (za2 HB) hb);have n1_:=qam.mk (hbox);have n2_:=qam.mk ((by rw[hg];exact(qac (za2 HB)):w.heap.size≤gb268));have n3_:=qam.mk ((by rw[hg];exact(qac (za2 HB)):w.heap.size≤gb268));clear HB;have HB:=n0_;have BK268:=n1_;have GW268:=n2_;have GE268:=n3_;clear n0_ n1_ n2_ n3_;clear hb hbox hg;have hcz17_0:w16.cell? ⟨gb268,0,none⟩=some (.int .i64 a0_0):=(qab BK268.out 0).trans rfl;have hcz17_1:w16.cell? ⟨gb268,1,none⟩=some (.bool a0_1):=(qab BK268.out 1).trans rfl;have hcz17_2:w16.cell? ⟨gb268,2,none⟩=some (.int .i64 a0_2):=(qab BK268.out 2).trans rfl;have hcz17_3:w16.cell? ⟨gb268,3,none⟩=some (.slice A0_3 l0_3.length c0_3):=(qab BK268.out 3).trans rfl;have hcz17_4:w16.cell? ⟨gb268,4,none⟩=some (.int .i64 a0_4):=(qab BK268.out 4).trans rfl;have hfz17_0:=qaa BK268.out 0;have hfz17_1:=qaa BK268.out 1;have hfz17_2:=qaa BK268.out 2;have hfz17_3:=qaa BK268.out 3;have hfz17_4:=qaa BK268.out 4)|((with_reducible refine qaj (f:=21) rfl ?_);refine goesL_ (some 7) rfl rfl Try.func21 (by kernel_rfl) rfl #[.int .i64 a0_0] rfl (by(try simp only[List.map_toArray,List.map_cons,List.map_nil]);first|done|rfl|(simp only[List.length_drop,List.length_take];rfl)) ?_;(with_reducible refine(impl_isHouse.calls a0_0 true _ A2.out).mono ?_);rintro e w' ⟨rfl,⟨nd,rfl⟩⟩;refine⟨_,rfl,?_⟩)|(go_at_call 22;(with_reducible refine(impl_LogOk.calls _ _ l0_3 a0_4 false _ ?side1 ?side2 A4.out).mono ?_);(case side1=>repeat(first|exact(Kd.C_below HR0_3.out (za1 HB GE268))|(with_reducible refine Kd.C_alloc ?_ _)|(with_reducible refine Kd.C_drewN ?_ _)|(with_reducible refine Kd.C_drew ?_)));(case side2=>exact HC0_3.out);rintro e w18 ⟨rfl,hb⟩;have n0_:=qam.mk (qae (g:=gb268) (o:=.cells #[.int .i64 a0_0,.bool a0_1,.int .i64 a0_2,.slice A0_3 l0_3.length c0_3,.int .i64 a0_4] 33 (0,0)) (za0 BK268) hb);have n1_:=qam.mk (qad (za1 HB GE268) hb);clear BK268;clear HB;have BK268:=n0_;have HB:=n1_;clear n0_ n1_;(try clear hb);(try clear hb2);(try clear hk);(try clear hi)))
   go_ret
   exact⟨za8,za1 HB GE268⟩
 ·replace c3:=Bool.eq_false_iff.mpr c3
  subst c3
  have H1:(some false)=some r:=by rw[if_neg (show ¬(false=true) by decide)] at H;exact H
  clear H
  have H:=H1
  clear H1
  obtain rfl:=Option.some.inj H
  go_enter Try.func8,Try.ntmps8
  go_wp2_with(first|((with_reducible refine qak (N:=1) rfl ?_);refine qai ?hg (N:=1) ?hd (cs:=#[.int .i64 a0_0,.bool a0_1,.int .i64 a0_2,.slice A0_3 l0_3.length c0_3,.int .i64 a0_4]) (t:=33) ?hr ?_;(case hd=>rfl);(case hg=>rfl);(case hr=>first|(go_simp;done)|(go_simp;rfl));intro gb268 hg w19 hbox hb;have n0_:=qam.mk (qad (za2 HB) hb);have n1_:=qam.mk (hbox);have n2_:=qam.mk ((by rw[hg];exact(qac (za2 HB)):w.heap.size≤gb268));have n3_:=qam.mk ((by rw[hg];exact(qac (za2 HB)):w.heap.size≤gb268));clear HB;have HB:=n0_;have BK268:=n1_;have GW268:=n2_;have GE268:=n3_;clear n0_ n1_ n2_ n3_;clear hb hbox hg;have hcz20_0:w19.cell? ⟨gb268,0,none⟩=some (.int .i64 a0_0):=(qab BK268.out 0).trans rfl;have hcz20_1:w19.cell? ⟨gb268,1,none⟩=some (.bool a0_1):=(qab BK268.out 1).trans rfl;have hcz20_2:w19.cell? ⟨gb268,2,none⟩=some (.int .i64 a0_2):=(qab BK268.out 2).trans rfl;have hcz20_3:w19.cell? ⟨gb268,3,none⟩=some (.slice A0_3 l0_3.length c0_3):=(qab BK268.out 3).trans rfl;have hcz20_4:w19.cell? ⟨gb268,4,none⟩=some (.int .i64 a0_4):=(qab BK268.out 4).trans rfl;have hfz20_0:=qaa BK268.out 0;have hfz20_1:=qaa BK268.out 1;have hfz20_2:=qaa BK268.out 2;have hfz20_3:=qaa BK268.out 3;have hfz20_4:=qaa BK268.out 4)|((with_reducible refine qaj (f:=21) rfl ?_);refine goesL_ (some 7) rfl rfl Try.func21 (by kernel_rfl) rfl #[.int .i64 a0_0] rfl (by(try simp only[List.map_toArray,List.map_cons,List.map_nil]);first|done|rfl|(simp only[List.length_drop,List.length_take];rfl)) ?_;(with_reducible refine(impl_isHouse.calls a0_0 false _ A2.out).mono ?_);rintro e w' ⟨rfl,⟨nd,rfl⟩⟩;refine⟨_,rfl,?_⟩))
  go_ret
  exact⟨za8,za1 HB GE268⟩
end Go.Proofs.Ytbomcadjkcmcgaa.Print
