-- Written by squeeze.py: not trusted, Lean checks it.
import Derived.Test.YtbomcadjkcmcgaaZK
import Derived.Test.YtbomcadjkcmcgaaZa5
import Derived.Test.YtbomcadjkcmcgaaZa6
import Derived.Test.YtbomcadjkcmcgaaZa9
namespace Go.Proofs.Ytbomcadjkcmcgaa.Print
open Go.RowKit Go.Proofs.YtbomcadjkcmcgaaW.PrintWords Go.Proofs.YtbomcadjkcmcgaaW.PrintLast Go.Proofs.YtbomcadjkcmcgaaW.PrintMore
attribute [local go_sem] max2_int min2_int max_two min_two max_three min_three max_four min_four
set_option linter.unusedVariables false
set_option linter.unusedSimpArgs false
def impl_StockOf.l0:Nat→List (S62)→Bool→Int→Int→List (S72)→Option (Int × (List (S72)) × Bool)
 |0,_,_,_,_,_=>none
 |k+1,x1,x7,x8,x262000,x262001=>if x7=true then(if x8<(x1.length:Int) then(if 0≤x8 then((impl_StockDo.f k x262000 x262001 ((rd_T62 x1 x8).f0) ((rd_T62 x1 x8).f1) ((rd_T62 x1 x8).f2)).bind fun bt263=>(impl_StockOf.l0 k x1 bt263.2.2 (wrap64 (x8+1)) bt263.1 bt263.2.1)) else(none)) else(some (x262000,x262001,x7))) else(some (x262000,x262001,x7))
def impl_StockOf.f (k:Nat) (a0:Int) (l1:List (S62)):Option (Int × (List (S72)) × Bool):=(impl_StockNew.f a0).bind fun bt256=>(impl_StockOf.l0 k l1 bt256.2.2 0 bt256.1 bt256.2.1)
theorem impl_StockOf.mono_l:∀k,(∀y0 y1 y2 y3 y4,LeO (impl_StockOf.l0 k y0 y1 y2 y3 y4) (impl_StockOf.l0 (k+1) y0 y1 y2 y3 y4))
 |0=>fun _ _ _ _ _ r h=>by simp[impl_StockOf.l0] at h
 |k+1=>by
  have ih0:=impl_StockOf.mono_l k
  ·intro y0 y1 y2 y3 y4;unfold impl_StockOf.l0
   repeat' first|(with_reducible exact ih0 _ _ _ _ _)|(with_reducible exact impl_StockDo.mono _ _ _ _ _ _)|(with_reducible exact LeO.refl _)|(with_reducible exact LeO.none _)|(with_reducible refine LeO.ite ?_ ?_)|(with_reducible refine LeO.bind ?_ (fun _=>?_))|exact ih0 _ _ _ _ _|exact impl_StockDo.mono _ _ _ _ _ _|exact LeO.none _|refine LeO.ite ?_ ?_|refine LeO.bind ?_ (fun _=>?_)
theorem impl_StockOf.mono:∀a0 a1 k,LeO (impl_StockOf.f k a0 a1) (impl_StockOf.f (k+1) a0 a1):=by
 intro a0 a1 k;have ih0:=impl_StockOf.mono_l k;unfold impl_StockOf.f
 repeat' first|(with_reducible exact ih0 _ _ _ _ _)|(with_reducible exact impl_StockDo.mono _ _ _ _ _ _)|(with_reducible exact LeO.refl _)|(with_reducible exact LeO.none _)|(with_reducible refine LeO.ite ?_ ?_)|(with_reducible refine LeO.bind ?_ (fun _=>?_))|exact ih0 _ _ _ _ _|exact impl_StockDo.mono _ _ _ _ _ _|exact LeO.none _|refine LeO.ite ?_ ?_|refine LeO.bind ?_ (fun _=>?_)
def impl_StockOf.T5:Bool × List (List Nat × List Nat):=(true,[([],[]),([],[]),([],[]),([1,2],[1,2]),([3],[3]),([0,4],[0,4]),([5],[5]),([6],[6]),([6],[6]),([7,5,0,1,2,3,4,5,6,7],[7]),([8,9,0,1,2,3,4,5,6,7,8,9],[8])])
def impl_StockOf.B5:List Nat:=[0,0,0,6,14,31,63,127,127,255,1023]
theorem impl_StockOf.tab5:rtab .any (opsOf Try.f23 5)=impl_StockOf.T5:=by kernel_rfl
theorem impl_StockOf.bits5:waitsOk impl_StockOf.T5.2 impl_StockOf.B5=true:=by kernel_rfl
set_option maxHeartbeats 8000000 in
set_option maxRecDepth 100000 in
theorem impl_StockOf.calls (k:Nat) (a0:Int) (A1:Option Addr) (c1:Nat) (l1:List (S62)) (r1:Int) (r2:List (S72)) (r3:Bool) (w:World) (hr1:Kd.C k62 w A1 l1.length l1) (hc1:l1.length≤c1) (h:impl_StockOf.f k a0 l1=some (r1,r2,r3)) :
  Calls Try.prog 23 #[.int .i64 a0,.slice A1 l1.length c1] w fun e w'=>∃v1_:Value,e=.returned (.tuple #[.agg #[.int .i64 r1,v1_],.bool r3])∧Kd.R k72 72 w' w.heap.size (fun _=>True) v1_ r2∧Below w.heap.size w w':=by
 have hu39:=Try.underlying39;have hu62:=Try.underlying62;have HR1:=qah.mk hr1;have HC1:=qah.mk hc1;clear hr1 hc1;have HB:=qah.mk (Below.refl w.heap.size w);have H:((impl_StockNew.f a0).bind fun bt256=>(impl_StockOf.l0 k l1 bt256.2.2 0 bt256.1 bt256.2.1))=some (r1,r2,r3):=h;clear h;replace H:=Option.bind_eq_some_iff.mp H;obtain⟨⟨t256,t257,t260⟩,A30,H⟩:=H;replace H:(impl_StockOf.l0 k l1 t260 0 t256 t257)=some (r1,r2,r3):=H;have A3:=qah.mk A30;clear A30;have H':=qah.mk H;clear H;go_enter Try.func23,Try.ntmps23
 go_wp2_with(first|((with_reducible refine qag (N:=4) rfl ?_);(try(refine gate_guard (by rfl) ?_;dsimp only));refine zX (N:=4) (cs:=#[.int .i64 0,.slice none 0 0]) (t:=39) ?_;intro gb255 hg w4 hbox hb;have BK255:=qah.mk hbox;have GW255:=zH (w:=w) hg (za1 HB);have GE255:=GW255;replace HB:=qah.mk (qaa (za1 HB) hb);clear hb hbox hg)|((with_reducible refine qaf (f:=41) rfl ?_);refine zF (some 11) Try.func41 #[.int .i64 a0] ?_;(with_reducible refine(impl_StockNew.calls a0 t256 t257 t260 _ A3.out).mono ?_);rintro e w5 ⟨v258,rfl,ho0,hb⟩;refine⟨_,rfl,?_⟩;have HO259:=qah.mk (Kd.R_lower ho0 (qam (za0 HB GE255)));replace BK255:=zY BK255 hb;replace HB:=qah.mk (qaa (za0 HB GE255) hb);(try clear hb);(try clear ho0))|((with_reducible refine qag (N:=6) rfl ?_);(try(refine gate_guard (by rfl) ?_;dsimp only));refine zX (N:=6) (cs:=#[.int .i64 0,.slice none 0 0]) (t:=39) ?_;intro gb261 hg w6 hbox hb;replace HO259:=qah.mk (Kd.R_below (za5 HO259) hb);have BK261:=qah.mk hbox;have GW261:=zH (w:=w) hg (za0 HB GE255);have GE261:=GW261;replace HB:=qah.mk (qaa (za0 HB GE255) hb);have NB255_261:=zL BK255 hg;have NB261_255:=zG BK255 hg;replace BK255:=zY BK255 hb;clear hb hbox hg;have hnb7:=NB261_255.out;have hnc7:=NB255_261.out;obtain⟨hcz8_0,hcz8_1,hfz8_0,hfz8_1⟩:=zC2 BK261;obtain⟨Ao9,co9,eo9⟩:=Kd.R_slice HO259.out;subst eo9))
 go_loopg [7,8] k (fun kq v7 v8 w'=>∃(x7_1:Bool) (x8_1:Int) (x262000_1:Int) (x262001_1:List (S72)) (u262001:Value),v7=.bool x7_1∧v8=.int .i64 x8_1∧qah (impl_StockOf.l0 kq l1 x7_1 x8_1 x262000_1 x262001_1=some (r1,r2,r3))∧qah (kq≤k)∧qah (Kd.R k72 72 w' w.heap.size (fun _=>True) u262001 x262001_1)∧qah (w'.heap[gb255]?=some (.cells #[.int .i64 0,(.slice none 0 0)] 39 (0,0)))∧qah (w'.heap[gb261]?=some (.cells #[.int .i64 x262000_1,u262001] 39 (0,0)))∧qah (Below w.heap.size w w'))
 case atStart=>exact⟨(t260),(0),(t256),(t257),(.slice Ao9 t257.length co9),(za11),(za11),H',⟨Nat.le_refl _⟩,⟨by(with_reducible repeat(first|apply Kd.R_alloc|apply Kd.R_drewN|apply Kd.R_drew));exact Kd.R_mono (Kd.R_far (p:=⟨gb261,1,none⟩) (Kd.R_far (p:=⟨gb261,0,none⟩) (Kd.R_types HO259.out BK261.out (by decide)) (fun _ hk=>hk.2) (.int .i64 t256)) (fun _ hk=>hk.2) (.slice Ao9 t257.length co9)) (fun _ hk=>trivial)⟩,⟨za4 NB255_261 BK255⟩,⟨by(with_reducible repeat(first|refine qae ?_ _|refine qac ?_|refine qad ?_ _));refine qai (cs:=#[.int .i64 t256,.slice none 0 0]) ?_ 1 _ rfl;(with_reducible repeat(first|refine qae ?_ _|refine qac ?_|refine qad ?_ _));refine qai (cs:=#[.int .i64 0,.slice none 0 0]) ?_ 0 _ rfl;(with_reducible repeat(first|refine qae ?_ _|refine qac ?_|refine qad ?_ _));exact BK261.out⟩,⟨za2 HB GE255 GE261⟩⟩
 case round=>
  clear H'
  try clear c1
  try clear c2
  try clear p2
  try clear c4
  try clear c7
  try clear hcz8_0
  try clear hcz8_1
  try clear hfz8_0
  try clear hfz8_1
  obtain⟨x7_1,x8_1,x262000_1,x262001_1,u262001,rfl,rfl,HA,HK1,HO_262001,BK255,BK261,HB⟩:=hrel
  cases gk with
  |zero=>exact absurd HA.out (by simp[impl_StockOf.l0])
  |succ k1=>
   have H:=HA.out;clear HA;simp only[impl_StockOf.l0] at H;by_cases c10:x7_1=true
   ·subst c10
    have H1:(if x8_1<(l1.length:Int) then(if 0≤x8_1 then((impl_StockDo.f k1 x262000_1 x262001_1 ((rd_T62 l1 x8_1).f0) ((rd_T62 l1 x8_1).f1) ((rd_T62 l1 x8_1).f2)).bind fun bt263=>(impl_StockOf.l0 k1 l1 bt263.2.2 (wrap64 (x8_1+1)) bt263.1 bt263.2.1)) else(none)) else(some (x262000_1,x262001_1,true)))=some (r1,r2,r3):=by rw[if_pos rfl] at H;exact H
    clear H;have H:=H1;clear H1;by_cases c11:x8_1<(l1.length:Int)
    ·rw[if_pos c11] at H;have c11b0:decide (x8_1<(l1.length:Int))=true:=decide_eq_true c11;clear c11;by_cases c12:0≤x8_1
     ·rw[if_pos c12] at H;have c12b0:decide (0≤x8_1)=true:=decide_eq_true c12;clear c12;replace H:=Option.bind_eq_some_iff.mp H;obtain⟨⟨t263,t264,t267⟩,A130,H⟩:=H;replace H:(impl_StockOf.l0 k1 l1 t267 (wrap64 (x8_1+1)) t263 t264)=some (r1,r2,r3):=H;have A13:=qah.mk A130;clear A130;have H':=qah.mk H;clear H
      try go_wp2
      replace HO_262001:=qah.mk (Kd.R_drew HO_262001.out);replace BK255:=qah.mk (qac BK255.out);replace BK261:=qah.mk (qac BK261.out);replace HB:=qah.mk (below_drew1 HB.out);have p262:0≤(x8_1:Int):=of_decide_eq_true (za7);have q262:x8_1<(l1.length:Int):=of_decide_eq_true (za7);obtain⟨ad262,A262_2,c262_2,e262,hx262_0,hx262_1,hx262_2,hl262_2,hi262_2⟩:=at_T62 HR1.out x8_1 p262 q262;have hw262_2:=hx262_2;have hw262_1:=hx262_1;have hw262_0:=hx262_0
      cases e262
      have hxo262_2:=qah.mk hx262_2;replace hx262_0:=(HB.out.cell (World.block_lt_of_cell? w _ hx262_0)).trans hx262_0;replace hx262_1:=(HB.out.cell (World.block_lt_of_cell? w _ hx262_1)).trans hx262_1;replace hx262_2:=(HB.out.cell (World.block_lt_of_cell? w _ hx262_2)).trans hx262_2;have HR262_2:=qah.mk hi262_2;have HC262_2:=qah.mk hl262_2;clear hi262_2 hl262_2;replace p262:=eq_true p262;replace q262:=eq_true q262;obtain⟨Ao15,co15,eo15⟩:=Kd.R_slice HO_262001.out;(first|subst eo15|(injection eo15 with f1_ f2_ f3_;have f4_:=f1_.symm;have f5_:=f3_.symm;clear f1_ f2_ f3_;subst f4_;subst f5_))
      refine start_ (n:=11) (S:=fun w'=>w'.cell? ⟨gb261,0,none⟩=some (.int .i64 x262000_1)∧w'.cell? ⟨gb261,1,none⟩=some (.slice Ao15 x262001_1.length co15)∧w'.cell? (ad262.add ((x8_1).toNat*3))=some (.int .i64 ((rd_T62 l1 x8_1).f0))∧w'.cell? ⟨(ad262.add ((x8_1).toNat*3)).block,(ad262.add ((x8_1).toNat*3)).off+1,none⟩=some (.int .i64 ((rd_T62 l1 x8_1).f1))∧w'.cell? ⟨(ad262.add ((x8_1).toNat*3)).block,(ad262.add ((x8_1).toNat*3)).off+2,none⟩=some (.slice A262_2 ((rd_T62 l1 x8_1).f2).length c262_2)) (ds:=[9]) #[false,false,false,false,false,false,false,false,false,false,false] (by kernel_rfl) rfl rfl ⟨(qab BK261.out 0).trans rfl,(qab BK261.out 1).trans rfl,((HB.out.cell (World.block_lt_of_cell? w _ hw262_0)).trans hw262_0),((HB.out.cell (World.block_lt_of_cell? w _ hw262_1)).trans hw262_1),((HB.out.cell (World.block_lt_of_cell? w _ hw262_2)).trans hw262_2)⟩ (fun hHeld=>?_);refine with_tabW impl_StockOf.tab5 impl_StockOf.bits5 (fun HT_ HW_=>?_)
      generalize wr.drew=w14 at HO_262001 BK255 BK261 HB HR262_2 hx262_0 hx262_1 hx262_2 hHeld ⊢;refine qaq (i:=1) (N:=some 25) (v:=?_) (a':=?_) #[false,true,false,false,false,false,false,false,false,false,false] rfl rfl (qal HT_.out (by kernel_rfl)) (fun _ _ _ h=>h) (Or.inl ⟨by rfl,?_⟩) ?_ ?_;rotate_left
      ·intro w';go_simp
       with_reducible rfl
      rotate_left
      ·simp only[Act.put,List.setIfInBounds_toArray,List.set_cons_zero,List.set_cons_succ,qaj,qak];rfl
      refine qaq (i:=2) (N:=some 26) (v:=?_) (a':=?_) #[false,true,true,false,false,false,false,false,false,false,false] rfl rfl (qal HT_.out (by kernel_rfl)) (fun _ _ _ h=>h) (Or.inl ⟨by rfl,?_⟩) ?_ ?_;rotate_left
      ·intro w';go_simp
       with_reducible rfl
      rotate_left
      ·simp only[Act.put,List.setIfInBounds_toArray,List.set_cons_zero,List.set_cons_succ,qaj,qak];rfl
      refine qaq (i:=3) (N:=some 27) (v:=?_) (a':=?_) #[false,true,true,true,false,false,false,false,false,false,false] rfl rfl (qal HT_.out (by kernel_rfl)) (fun _ _ _ h=>h) (Or.inl ⟨by rfl,?_⟩) ?_ ?_;rotate_left
      ·intro w';go_simp
       with_reducible rfl
      rotate_left
      ·simp only[Act.put,List.setIfInBounds_toArray,List.set_cons_zero,List.set_cons_succ,qaj,qak];rfl
      refine take_ (i:=0) (N:=some 24) (v:=?_) (a':=?_) #[true,true,true,true,false,false,false,false,false,false,false] rfl rfl (take_ofW HT_.out HW_.out (by kernel_rfl)) (fun _ _ _ h=>h) (Or.inl ⟨by rfl,?_⟩) hHeld ?_ ?_;rotate_left
      ·rintro w' ⟨s0,s1,s2,s3,s4⟩;go_simp
       with_reducible rfl
      rotate_left
      ·simp only[Act.put,List.setIfInBounds_toArray,List.set_cons_zero,List.set_cons_succ,qaj,qak];rfl
      refine take_ (i:=4) (N:=some 28) (v:=?_) (a':=?_) #[true,true,true,true,true,false,false,false,false,false,false] rfl rfl (take_ofW HT_.out HW_.out (by kernel_rfl)) (fun _ _ _ h=>h) (Or.inl ⟨by rfl,?_⟩) hHeld ?_ ?_;rotate_left
      ·rintro w' ⟨s0,s1,s2,s3,s4⟩;go_simp
       with_reducible rfl
      rotate_left
      ·simp only[Act.put,List.setIfInBounds_toArray,List.set_cons_zero,List.set_cons_succ,qaj,qak];rfl
      refine one_ (i:=5) (N:=some 29) #[true,true,true,true,true,true,false,false,false,false,false] rfl rfl (one_of HT_.out (by kernel_rfl)) (by decide) (fun K hK=>?_);refine goes_ Try.func42 (by kernel_rfl) rfl #[.agg #[.int .i64 x262000_1,.slice Ao15 x262001_1.length co15],.agg #[.int .i64 ((rd_T62 l1 x8_1).f0),.int .i64 ((rd_T62 l1 x8_1).f1),.slice A262_2 ((rd_T62 l1 x8_1).f2).length c262_2]] (by rfl) rfl rfl (by(try simp only[List.map_toArray,List.map_cons,List.map_nil]);first|done|rfl|(simp only[List.length_drop,List.length_take];rfl)) ?_
      with_reducible refine(impl_StockDo.calls k1 x262000_1 _ _ x262001_1 ((rd_T62 l1 x8_1).f0) ((rd_T62 l1 x8_1).f1) _ _ ((rd_T62 l1 x8_1).f2) t263 t264 t267 _ ?side1 ?side2 ?side3 ?side4 A13.out).mono ?_
      (case side1=>repeat(first|exact(Kd.R_reads' HO_262001.out).2.2|(with_reducible refine Kd.C_alloc ?_ _)|(with_reducible refine Kd.C_drewN ?_ _)|(with_reducible refine Kd.C_drew ?_)));(case side2=>exact(Kd.R_reads' HO_262001.out).2.1);(case side3=>exact zR HR262_2 HB);(case side4=>exact HC262_2.out);rintro e w16 ⟨v265,rfl,ho0,hb⟩;refine⟨_,rfl,?_⟩;have HO266:=qah.mk (Kd.R_lower (Kd.R_new' ho0 (Kd.R_lt (za5 HO_262001))) (qam (za2 HB GE255 GE261)));replace HO_262001:=qah.mk (Kd.R_elder' (za5 HO_262001) (Kd.R_base ho0) hb);replace BK255:=zY BK255 hb;replace BK261:=zY BK261 hb;replace HB:=qah.mk (qaa (za2 HB GE255 GE261) hb);(try clear hb);(try clear hb2);(try clear hk);(try clear hi);(try clear ho0);obtain⟨Ao18,co18,eo18⟩:=Kd.R_slice HO266.out;(first|subst eo18|(injection eo18 with f1_ f2_ f3_;have f4_:=f1_.symm;have f5_:=f3_.symm;clear f1_ f2_ f3_;subst f4_;subst f5_));refine hK.out _ _ ⟨(qab BK261.out 0).trans rfl,(qab BK261.out 1).trans rfl,((HB.out.cell (World.block_lt_of_cell? w _ hw262_0)).trans hw262_0),((HB.out.cell (World.block_lt_of_cell? w _ hw262_1)).trans hw262_1),((HB.out.cell (World.block_lt_of_cell? w _ hw262_2)).trans hw262_2)⟩ (fun hHeld=>?_)
      clear hK K;refine norm_ (a':=?_) ?_ ?_;rotate_left
      ·show Act.put _ (some 29) _=_;simp only[Act.put,List.setIfInBounds_toArray,List.set_cons_zero,List.set_cons_succ,qaj,qak];rfl
      refine qaq (i:=6) (N:=some 23) (v:=?_) (a':=?_) #[true,true,true,true,true,true,true,false,false,false,false] rfl rfl (qal HT_.out (by kernel_rfl)) (fun _ _ _ h=>h) (Or.inl ⟨by rfl,?_⟩) ?_ ?_;rotate_left
      ·intro w';go_simp
       with_reducible rfl
      rotate_left
      ·simp only[Act.put,List.setIfInBounds_toArray,List.set_cons_zero,List.set_cons_succ,qaj,qak];rfl
      refine qaq (i:=7) (N:=some 30) (v:=?_) (a':=?_) #[true,true,true,true,true,true,true,true,false,false,false] rfl rfl (qal HT_.out (by kernel_rfl)) (fun _ _ _ h=>h) (Or.inl ⟨by rfl,?_⟩) ?_ ?_;rotate_left
      ·intro w';go_simp
       with_reducible rfl
      rotate_left
      ·simp only[Act.put,List.setIfInBounds_toArray,List.set_cons_zero,List.set_cons_succ,qaj,qak];rfl
      refine qaq (i:=8) (N:=some 31) (v:=?_) (a':=?_) #[true,true,true,true,true,true,true,true,true,false,false] rfl rfl (qal HT_.out (by kernel_rfl)) (fun _ _ _ h=>h) (Or.inl ⟨by rfl,?_⟩) ?_ ?_;rotate_left
      ·intro w';go_simp
       with_reducible rfl
      rotate_left
      ·simp only[Act.put,List.setIfInBounds_toArray,List.set_cons_zero,List.set_cons_succ,qaj,qak];rfl
      refine last_ (i:=9) (N:=none) #[true,true,true,true,true,true,true,true,true,true,false] rfl rfl (one_of HT_.out (by kernel_rfl)) (by decide) (fun K hK=>?_);have hs17:w16.cell? ⟨gb261,0,none⟩=some (.int .i64 x262000_1):=(qab BK261.out 0).trans rfl;have hfs17:=blk_frozen BK261.out 0;have hns17_0:=NB255_261.out;have hms17_0:=NB261_255.out;have hs19:w16.cell? ⟨gb261,1,none⟩=some (.slice Ao15 x262001_1.length co15):=(qab BK261.out 1).trans rfl;have hfs19:=blk_frozen BK261.out 1;have hns19_0:=NB255_261.out;have hms19_0:=NB261_255.out;refine skip_ (w1:=?_) (by rfl) rfl ?_ ?_;rotate_left
      ·go_simp;rfl
      refine hK.out _ _ ?_;clear hK K;refine qaq (i:=10) (N:=some 7) (v:=?_) (a':=?_) #[true,true,true,true,true,true,true,true,true,true,true] rfl rfl (qal HT_.out (by kernel_rfl)) (fun _ _ _ h=>h) (Or.inl ⟨by rfl,?_⟩) ?_ ?_;rotate_left
      ·intro w';go_simp
       with_reducible rfl
      rotate_left
      ·simp only[Act.put,List.setIfInBounds_toArray,List.set_cons_zero,List.set_cons_succ,qaj,qak];rfl
      refine done_ (done_of HT_.out (by kernel_rfl)) ?_
      try go_wp2
      go_roundg k1
      case measure=>have:=HK1.out;omega
      case rel=>exact⟨(t267),(wrap64 (x8_1+1)),(t263),(t264),(.slice Ao18 t264.length co18),(za11),(za11),H',⟨by have:=HK1.out;omega⟩,⟨by(with_reducible repeat(first|apply Kd.R_alloc|apply Kd.R_drewN|apply Kd.R_drew));exact Kd.R_mono (Kd.R_far (p:=⟨gb261,1,none⟩) (Kd.R_far (p:=⟨gb261,0,none⟩) (Kd.R_types HO266.out BK261.out (by decide)) (fun _ hk=>hk.2) (.int .i64 t263)) (fun _ hk=>hk.2) (.slice Ao18 t264.length co18)) (fun _ hk=>trivial)⟩,⟨za4 NB255_261 BK255⟩,⟨by(with_reducible repeat(first|refine qae ?_ _|refine qac ?_|refine qad ?_ _));refine qai (cs:=#[.int .i64 t263,.slice Ao15 x262001_1.length co15]) ?_ 1 _ rfl;(with_reducible repeat(first|refine qae ?_ _|refine qac ?_|refine qad ?_ _));refine qai (cs:=#[.int .i64 x262000_1,.slice Ao15 x262001_1.length co15]) ?_ 0 _ rfl;(with_reducible repeat(first|refine qae ?_ _|refine qac ?_|refine qad ?_ _));exact BK261.out⟩,⟨za2 HB GE255 GE261⟩⟩
     ·rw[if_neg c12] at H;exact absurd H (by simp)
    ·rw[if_neg c11] at H;have c11b0:decide (x8_1<(l1.length:Int))=false:=decide_eq_false c11;clear c11;simp only[Option.some.injEq,Prod.mk.injEq] at H;obtain⟨rfl,rfl,rfl⟩:=H;have hnb20:=NB261_255.out;have hnc20:=NB255_261.out;obtain⟨hcz21_0,hcz21_1,hfz21_0,hfz21_1⟩:=zC2 BK261;obtain⟨hcz22_0,hcz22_1,hfz22_0,hfz22_1⟩:=zC2 BK255;obtain⟨Ao23,co23,eo23⟩:=Kd.R_slice HO_262001.out;subst eo23;go_wp2;refine bodyPost_ret (results_ct rfl _ _ gb255 39 #[.int .i64 x262000_1,.slice Ao23 x262001_1.length co23] (0,0) _ rfl (by(with_reducible repeat(first|refine qae ?_ _|refine qac ?_|refine qad ?_ _));refine qai (cs:=#[.int .i64 x262000_1,.slice none 0 0]) ?_ 1 _ rfl;(with_reducible repeat(first|refine qae ?_ _|refine qac ?_|refine qad ?_ _));refine qai (cs:=#[.int .i64 0,.slice none 0 0]) ?_ 0 _ rfl;(with_reducible repeat(first|refine qae ?_ _|refine qac ?_|refine qad ?_ _));exact BK255.out) Try.underlying39 rfl (by kernel_rfl)) rfl ?_;exact⟨_,za8,by(with_reducible repeat(first|apply Kd.R_alloc|apply Kd.R_drewN|apply Kd.R_drew));exact Kd.R_mono (Kd.R_far (p:=⟨gb255,1,none⟩) (Kd.R_far (p:=⟨gb255,0,none⟩) (Kd.R_types HO_262001.out BK255.out (by decide)) (fun _ hk=>hk.2) (.int .i64 x262000_1)) (fun _ hk=>hk.2) (.slice Ao23 x262001_1.length co23)) (fun _ hk=>trivial),za2 HB GE255 GE261⟩
   ·replace c10:=Bool.eq_false_iff.mpr c10;subst c10
    have H1:(some (x262000_1,x262001_1,false))=some (r1,r2,r3):=by rw[if_neg (show ¬(false=true) by decide)] at H;exact H
    clear H;have H:=H1;clear H1;simp only[Option.some.injEq,Prod.mk.injEq] at H;obtain⟨rfl,rfl,rfl⟩:=H;have hnb24:=NB261_255.out;have hnc24:=NB255_261.out;obtain⟨hcz25_0,hcz25_1,hfz25_0,hfz25_1⟩:=zC2 BK261;obtain⟨hcz26_0,hcz26_1,hfz26_0,hfz26_1⟩:=zC2 BK255;obtain⟨Ao27,co27,eo27⟩:=Kd.R_slice HO_262001.out;subst eo27;go_wp2;refine bodyPost_ret (results_ct rfl _ _ gb255 39 #[.int .i64 x262000_1,.slice Ao27 x262001_1.length co27] (0,0) _ rfl (by(with_reducible repeat(first|refine qae ?_ _|refine qac ?_|refine qad ?_ _));refine qai (cs:=#[.int .i64 x262000_1,.slice none 0 0]) ?_ 1 _ rfl;(with_reducible repeat(first|refine qae ?_ _|refine qac ?_|refine qad ?_ _));refine qai (cs:=#[.int .i64 0,.slice none 0 0]) ?_ 0 _ rfl;(with_reducible repeat(first|refine qae ?_ _|refine qac ?_|refine qad ?_ _));exact BK255.out) Try.underlying39 rfl (by kernel_rfl)) rfl ?_;exact⟨_,za8,by(with_reducible repeat(first|apply Kd.R_alloc|apply Kd.R_drewN|apply Kd.R_drew));exact Kd.R_mono (Kd.R_far (p:=⟨gb255,1,none⟩) (Kd.R_far (p:=⟨gb255,0,none⟩) (Kd.R_types HO_262001.out BK255.out (by decide)) (fun _ hk=>hk.2) (.int .i64 x262000_1)) (fun _ hk=>hk.2) (.slice Ao27 x262001_1.length co27)) (fun _ hk=>trivial),za2 HB GE255 GE261⟩
def impl_HouseOk.f (k:Nat) (a0_0:Int) (a0_1:Bool) (a0_2:Int) (l0_3:List (S62)) (a0_4:Int):Option (Bool):=(impl_isHouse.f a0_0).bind fun t269=>(if t269=true then((impl_LogOk.f l0_3 a0_4).bind fun t270=>(if t270=true then((impl_StockOf.f k a0_2 l0_3).bind fun bt271=>(some bt271.2.2)) else(some false))) else(some false))
theorem impl_HouseOk.mono:∀a0 a1 a2 a3 a4 k,LeO (impl_HouseOk.f k a0 a1 a2 a3 a4) (impl_HouseOk.f (k+1) a0 a1 a2 a3 a4):=by
 intro a0 a1 a2 a3 a4 k;unfold impl_HouseOk.f
 repeat' first|(with_reducible exact impl_StockOf.mono _ _ _)|(with_reducible exact LeO.refl _)|(with_reducible exact LeO.none _)|(with_reducible refine LeO.ite ?_ ?_)|(with_reducible refine LeO.bind ?_ (fun _=>?_))|exact impl_StockOf.mono _ _ _|exact LeO.none _|refine LeO.ite ?_ ?_|refine LeO.bind ?_ (fun _=>?_)
set_option maxHeartbeats 8000000 in
set_option maxRecDepth 100000 in
theorem impl_HouseOk.calls (k:Nat) (a0_0:Int) (a0_1:Bool) (a0_2:Int) (A0_3:Option Addr) (c0_3:Nat) (l0_3:List (S62)) (a0_4:Int) (r:Bool) (w:World) (hr0_3:Kd.C k62 w A0_3 l0_3.length l0_3) (hc0_3:l0_3.length≤c0_3) (h:impl_HouseOk.f k a0_0 a0_1 a0_2 l0_3 a0_4=some r) :
  Calls Try.prog 8 #[.agg #[.int .i64 a0_0,.bool a0_1,.int .i64 a0_2,.slice A0_3 l0_3.length c0_3,.int .i64 a0_4]] w fun e w'=>e=.returned (.bool r)∧Below w.heap.size w w':=by
 have hu33:=Try.underlying33;have hu31:=Try.underlying31;have hu39:=Try.underlying39;have HR0_3:=qah.mk hr0_3;have HC0_3:=qah.mk hc0_3;clear hr0_3 hc0_3;have HB:=qah.mk (Below.refl w.heap.size w);have H:((impl_isHouse.f a0_0).bind fun t269=>(if t269=true then((impl_LogOk.f l0_3 a0_4).bind fun t270=>(if t270=true then((impl_StockOf.f k a0_2 l0_3).bind fun bt271=>(some bt271.2.2)) else(some false))) else(some false)))=some r:=h;clear h;replace H:=Option.bind_eq_some_iff.mp H;obtain⟨t269,A20,H⟩:=H;replace H:(if t269=true then((impl_LogOk.f l0_3 a0_4).bind fun t270=>(if t270=true then((impl_StockOf.f k a0_2 l0_3).bind fun bt271=>(some bt271.2.2)) else(some false))) else(some false))=some r:=H;have A2:=qah.mk A20;clear A20;by_cases c3:t269=true
 ·subst c3
  have H1:((impl_LogOk.f l0_3 a0_4).bind fun t270=>(if t270=true then((impl_StockOf.f k a0_2 l0_3).bind fun bt271=>(some bt271.2.2)) else(some false)))=some r:=by rw[if_pos rfl] at H;exact H
  clear H;have H:=H1;clear H1;replace H:=Option.bind_eq_some_iff.mp H;obtain⟨t270,A40,H⟩:=H;replace H:(if t270=true then((impl_StockOf.f k a0_2 l0_3).bind fun bt271=>(some bt271.2.2)) else(some false))=some r:=H;have A4:=qah.mk A40;clear A40;by_cases c5:t270=true
  ·subst c5
   have H1:((impl_StockOf.f k a0_2 l0_3).bind fun bt271=>(some bt271.2.2))=some r:=by rw[if_pos rfl] at H;exact H
   clear H;have H:=H1;clear H1;replace H:=Option.bind_eq_some_iff.mp H;obtain⟨⟨t271,t272,t275⟩,A60,H⟩:=H;replace H:(some t275)=some r:=H;have A6:=qah.mk A60;clear A60;obtain rfl:=Option.some.inj H;go_enter Try.func8,Try.ntmps8
   go_wp2_with(first|((with_reducible refine qag (N:=1) rfl ?_);refine zX (N:=1) (cs:=#[.int .i64 a0_0,.bool a0_1,.int .i64 a0_2,.slice A0_3 l0_3.length c0_3,.int .i64 a0_4]) (t:=33) ?_;intro gb268 hg w7 hbox hb;have BK268:=qah.mk hbox;have GW268:=zH (w:=w) hg (za1 HB);have GE268:=GW268;replace HB:=qah.mk (qaa (za1 HB) hb);clear hb hbox hg;obtain⟨hcz8_0,hcz8_1,hcz8_2,hcz8_3,hcz8_4,hfz8_0,hfz8_1,hfz8_2,hfz8_3,hfz8_4⟩:=zC5 BK268)|((with_reducible refine qaf (f:=21) rfl ?_);refine zF (some 7) Try.func21 #[.int .i64 a0_0] ?_;(with_reducible refine(impl_isHouse.calls a0_0 true _ A2.out).mono ?_);rintro e w' ⟨rfl,⟨nd,rfl⟩⟩;refine⟨_,rfl,?_⟩;(try(rw[drewN_self w7];generalize hq_:World.drewN w7 _=w7;replace BK268:qah (w7.heap[gb268]?=some (.cells #[.int .i64 a0_0,.bool a0_1,.int .i64 a0_2,.slice A0_3 l0_3.length c0_3,.int .i64 a0_4] 33 (0,0))):=⟨by rw[←hq_];exact(zB BK268)⟩;replace HB:qah (Below w.heap.size w w7):=⟨by rw[←hq_];exact(za0 HB GE268)⟩;clear hq_;have hczugb268_0:w7.cell? ⟨gb268,0,none⟩=some _:=(qab BK268.out 0).trans rfl;have hfzugb268_0:=blk_frozen BK268.out 0;have hczugb268_1:w7.cell? ⟨gb268,1,none⟩=some _:=(qab BK268.out 1).trans rfl;have hfzugb268_1:=blk_frozen BK268.out 1;have hczugb268_2:w7.cell? ⟨gb268,2,none⟩=some _:=(qab BK268.out 2).trans rfl;have hfzugb268_2:=blk_frozen BK268.out 2;have hczugb268_3:w7.cell? ⟨gb268,3,none⟩=some _:=(qab BK268.out 3).trans rfl;have hfzugb268_3:=blk_frozen BK268.out 3;have hczugb268_4:w7.cell? ⟨gb268,4,none⟩=some _:=(qab BK268.out 4).trans rfl;have hfzugb268_4:=blk_frozen BK268.out 4)))|(go_at_call 22;(with_reducible refine(impl_LogOk.calls _ _ l0_3 a0_4 true _ ?side1 ?side2 A4.out).mono ?_);(case side1=>exact zR HR0_3 HB);(case side2=>exact HC0_3.out);rintro e w9 ⟨rfl,hb⟩;replace BK268:=zY BK268 hb;replace HB:=qah.mk (qaa (za0 HB GE268) hb);(try clear hb);obtain⟨hcz10_0,hcz10_1,hcz10_2,hcz10_3,hcz10_4,hfz10_0,hfz10_1,hfz10_2,hfz10_3,hfz10_4⟩:=zC5 BK268)|((with_reducible refine qaf (f:=23) rfl ?_);refine zF (some 21) Try.func23 #[.int .i64 a0_2,.slice A0_3 l0_3.length c0_3] ?_;(with_reducible refine(impl_StockOf.calls k a0_2 _ _ l0_3 t271 t272 t275 _ ?side1 ?side2 A6.out).mono ?_);(case side1=>exact zR HR0_3 HB);(case side2=>exact HC0_3.out);rintro e w11 ⟨v273,rfl,ho0,hb⟩;refine⟨_,rfl,?_⟩;have HO274:=qah.mk (Kd.R_lower ho0 (qam (za0 HB GE268)));replace BK268:=zY BK268 hb;replace HB:=qah.mk (qaa (za0 HB GE268) hb);(try clear hb);(try clear ho0))|((with_reducible refine qag (N:=3) rfl ?_);refine zX (N:=3) (cs:=#[.int .i64 0,.slice none 0 0]) (t:=39) ?_;intro gb276 hg w12 hbox hb;replace HO274:=qah.mk (Kd.R_below (za5 HO274) hb);have BK276:=qah.mk hbox;have GW276:=zH (w:=w) hg (za0 HB GE268);have GE276:=GW276;replace HB:=qah.mk (qaa (za0 HB GE268) hb);have NB268_276:=zL BK268 hg;have NB276_268:=zG BK268 hg;replace BK268:=zY BK268 hb;clear hb hbox hg;have hnb13:=NB276_268.out;have hnc13:=NB268_276.out;obtain⟨hcz14_0,hcz14_1,hfz14_0,hfz14_1⟩:=zC2 BK276;obtain⟨Ao15,co15,eo15⟩:=Kd.R_slice HO274.out;subst eo15))
   go_ret;exact⟨za8,za2 HB GE268 GE276⟩
  ·replace c5:=Bool.eq_false_iff.mpr c5;subst c5
   have H1:(some false)=some r:=by rw[if_neg (show ¬(false=true) by decide)] at H;exact H
   clear H;have H:=H1;clear H1;obtain rfl:=Option.some.inj H;go_enter Try.func8,Try.ntmps8
   go_wp2_with(first|((with_reducible refine qag (N:=1) rfl ?_);refine zX (N:=1) (cs:=#[.int .i64 a0_0,.bool a0_1,.int .i64 a0_2,.slice A0_3 l0_3.length c0_3,.int .i64 a0_4]) (t:=33) ?_;intro gb268 hg w16 hbox hb;have BK268:=qah.mk hbox;have GW268:=zH (w:=w) hg (za1 HB);have GE268:=GW268;replace HB:=qah.mk (qaa (za1 HB) hb);clear hb hbox hg;obtain⟨hcz17_0,hcz17_1,hcz17_2,hcz17_3,hcz17_4,hfz17_0,hfz17_1,hfz17_2,hfz17_3,hfz17_4⟩:=zC5 BK268)|((with_reducible refine qaf (f:=21) rfl ?_);refine zF (some 7) Try.func21 #[.int .i64 a0_0] ?_;(with_reducible refine(impl_isHouse.calls a0_0 true _ A2.out).mono ?_);rintro e w' ⟨rfl,⟨nd,rfl⟩⟩;refine⟨_,rfl,?_⟩)|(go_at_call 22;(with_reducible refine(impl_LogOk.calls _ _ l0_3 a0_4 false _ ?side1 ?side2 A4.out).mono ?_);(case side1=>repeat(first|exact(Kd.C_below HR0_3.out (za0 HB GE268))|(with_reducible refine Kd.C_alloc ?_ _)|(with_reducible refine Kd.C_drewN ?_ _)|(with_reducible refine Kd.C_drew ?_)));(case side2=>exact HC0_3.out);rintro e w18 ⟨rfl,hb⟩;replace BK268:=zY BK268 hb;replace HB:=qah.mk (qaa (za0 HB GE268) hb);(try clear hb)))
   go_ret;exact⟨za8,za0 HB GE268⟩
 ·replace c3:=Bool.eq_false_iff.mpr c3;subst c3
  have H1:(some false)=some r:=by rw[if_neg (show ¬(false=true) by decide)] at H;exact H
  clear H;have H:=H1;clear H1;obtain rfl:=Option.some.inj H;go_enter Try.func8,Try.ntmps8
  go_wp2_with(first|((with_reducible refine qag (N:=1) rfl ?_);refine zX (N:=1) (cs:=#[.int .i64 a0_0,.bool a0_1,.int .i64 a0_2,.slice A0_3 l0_3.length c0_3,.int .i64 a0_4]) (t:=33) ?_;intro gb268 hg w19 hbox hb;have BK268:=qah.mk hbox;have GW268:=zH (w:=w) hg (za1 HB);have GE268:=GW268;replace HB:=qah.mk (qaa (za1 HB) hb);clear hb hbox hg;obtain⟨hcz20_0,hcz20_1,hcz20_2,hcz20_3,hcz20_4,hfz20_0,hfz20_1,hfz20_2,hfz20_3,hfz20_4⟩:=zC5 BK268)|((with_reducible refine qaf (f:=21) rfl ?_);refine zF (some 7) Try.func21 #[.int .i64 a0_0] ?_;(with_reducible refine(impl_isHouse.calls a0_0 false _ A2.out).mono ?_);rintro e w' ⟨rfl,⟨nd,rfl⟩⟩;refine⟨_,rfl,?_⟩))
  go_ret;exact⟨za8,za0 HB GE268⟩
def laws_eqIntS.l0:Nat→List Int→List Int→Int→Option (Bool)
 |0,_,_,_=>none
 |k+1,x0,x1,x5=>if x5<(x0.length:Int) then(if 0≤x5 then(if x5<(x1.length:Int) then(if(rd x0 x5)=(rd x1 x5) then(laws_eqIntS.l0 k x0 x1 (wrap64 (x5+1))) else(some false)) else(none)) else(none)) else(some true)
def laws_eqIntS.f (k:Nat) (l0:List Int) (l1:List Int):Option (Bool):=if(l0.length:Int)=(l1.length:Int) then(laws_eqIntS.l0 k l0 l1 0) else(some false)
theorem laws_eqIntS.mono_l:∀k,(∀y0 y1 y2,LeO (laws_eqIntS.l0 k y0 y1 y2) (laws_eqIntS.l0 (k+1) y0 y1 y2))
 |0=>fun _ _ _ r h=>by simp[laws_eqIntS.l0] at h
 |k+1=>by
  have ih0:=laws_eqIntS.mono_l k
  ·intro y0 y1 y2;unfold laws_eqIntS.l0
   repeat' first|(with_reducible exact ih0 _ _ _)|(with_reducible exact LeO.refl _)|(with_reducible exact LeO.none _)|(with_reducible refine LeO.ite ?_ ?_)|(with_reducible refine LeO.bind ?_ (fun _=>?_))|exact ih0 _ _ _|exact LeO.none _|refine LeO.ite ?_ ?_|refine LeO.bind ?_ (fun _=>?_)
theorem laws_eqIntS.mono:∀a0 a1 k,LeO (laws_eqIntS.f k a0 a1) (laws_eqIntS.f (k+1) a0 a1):=by
 intro a0 a1 k;have ih0:=laws_eqIntS.mono_l k;unfold laws_eqIntS.f
 repeat' first|(with_reducible exact ih0 _ _ _)|(with_reducible exact LeO.refl _)|(with_reducible exact LeO.none _)|(with_reducible refine LeO.ite ?_ ?_)|(with_reducible refine LeO.bind ?_ (fun _=>?_))|exact ih0 _ _ _|exact LeO.none _|refine LeO.ite ?_ ?_|refine LeO.bind ?_ (fun _=>?_)
set_option maxHeartbeats 8000000 in
set_option maxRecDepth 100000 in
theorem laws_eqIntS.calls (k:Nat) (A0:Option Addr) (c0:Nat) (l0:List Int) (A1:Option Addr) (c1:Nat) (l1:List Int) (r:Bool) (w:World) (hr0:Kd.C (Kd.int .i64) w A0 l0.length l0) (hc0:l0.length≤c0) (hr1:Kd.C (Kd.int .i64) w A1 l1.length l1) (hc1:l1.length≤c1) (h:laws_eqIntS.f k l0 l1=some r) :
  Calls Try.prog 65 #[.slice A0 l0.length c0,.slice A1 l1.length c1] w fun e w'=>e=.returned (.bool r)∧Drawn0 w w':=by
 have HR0:=qah.mk hr0;have HC0:=qah.mk hc0;clear hr0 hc0;have HR1:=qah.mk hr1;have HC1:=qah.mk hc1;clear hr1 hc1;have H:(if(l0.length:Int)=(l1.length:Int) then(laws_eqIntS.l0 k l0 l1 0) else(some false))=some r:=h;clear h;by_cases c3:(l0.length:Int)=(l1.length:Int)
 ·rw[if_pos c3] at H;have c3b0:((l0.length:Int) == (l1.length:Int))=true:=beq_iff_eq.mpr c3;have c3b1:((l0.length:Int) != (l1.length:Int))=false:=bne_eq_false_iff_eq.mpr c3
  have c3b2:(l0.length == l1.length)=true:=by first|simpa using c3|(simp at c3 ⊢;omega)
  clear c3;have H':=qah.mk H;clear H;go_enter Try.func65,Try.ntmps65;go_wp2
  repeat(go_quiet(fail);try go_wp2)
  go_loopg [5] k (fun kq v5 w'=>∃(x5_1:Int),v5=.int .i64 x5_1∧qah (laws_eqIntS.l0 kq l0 l1 x5_1=some r)∧qah (kq≤k)∧Drawn0 w w')
  case atStart=>exact⟨(0),(za11),H',⟨Nat.le_refl _⟩,za14⟩
  case round=>
   clear H'
   try clear c1
   try clear p2
   try clear c3
   try clear c3b0
   try clear c3b1
   try clear c3b2
   obtain⟨x5_1,rfl,HA,HK1,⟨m1,rfl⟩⟩:=hrel
   cases gk with
   |zero=>exact absurd HA.out (by simp[laws_eqIntS.l0])
   |succ k1=>
    have H:=HA.out;clear HA;simp only[laws_eqIntS.l0] at H;by_cases c4:x5_1<(l0.length:Int)
    ·rw[if_pos c4] at H;have c4b0:decide (x5_1<(l0.length:Int))=true:=decide_eq_true c4;clear c4;by_cases c5:0≤x5_1
     ·rw[if_pos c5] at H;have c5b0:decide (0≤x5_1)=true:=decide_eq_true c5;clear c5;by_cases c6:x5_1<(l1.length:Int)
      ·rw[if_pos c6] at H;have c6b0:decide (x5_1<(l1.length:Int))=true:=decide_eq_true c6;clear c6;by_cases c7:(rd l0 x5_1)=(rd l1 x5_1)
       ·rw[if_pos c7] at H;have c7b0:((rd l0 x5_1) == (rd l1 x5_1))=true:=beq_iff_eq.mpr c7;have c7b1:((rd l0 x5_1) != (rd l1 x5_1))=false:=bne_eq_false_iff_eq.mpr c7;clear c7;have H':=qah.mk H;clear H;have p277:0≤(x5_1:Int):=of_decide_eq_true (za7);have q277:x5_1<(l0.length:Int):=of_decide_eq_true (za7);obtain⟨ad277,e277,hx277_0⟩:=Kd.at_int HR0.out x5_1 p277 q277
        cases e277
        replace p277:=eq_true p277;replace q277:=eq_true q277;have p278:0≤(x5_1:Int):=of_decide_eq_true (za7);have q278:x5_1<(l1.length:Int):=of_decide_eq_true (za7);obtain⟨ad278,e278,hx278_0⟩:=Kd.at_int HR1.out x5_1 p278 q278
        cases e278
        replace p278:=eq_true p278;replace q278:=eq_true q278;go_wp2
        repeat(go_quiet(fail);try go_wp2)
        go_roundg k1
        case measure=>have:=HK1.out;omega
        case rel=>exact⟨(wrap64 (x5_1+1)),(za11),H',⟨by have:=HK1.out;omega⟩,za14⟩
       ·rw[if_neg c7] at H;have c7b0:((rd l0 x5_1) == (rd l1 x5_1))=false:=beq_eq_false_iff_ne.mpr c7;have c7b1:((rd l0 x5_1) != (rd l1 x5_1))=true:=bne_iff_ne.mpr c7;obtain rfl:=Option.some.inj H;have p277:0≤(x5_1:Int):=of_decide_eq_true (za7);have q277:x5_1<(l0.length:Int):=of_decide_eq_true (za7);obtain⟨ad277,e277,hx277_0⟩:=Kd.at_int HR0.out x5_1 p277 q277
        cases e277
        replace p277:=eq_true p277;replace q277:=eq_true q277;have p278:0≤(x5_1:Int):=of_decide_eq_true (za7);have q278:x5_1<(l1.length:Int):=of_decide_eq_true (za7);obtain⟨ad278,e278,hx278_0⟩:=Kd.at_int HR1.out x5_1 p278 q278
        cases e278
        replace p278:=eq_true p278;replace q278:=eq_true q278;go_wp2
        repeat(go_quiet(fail);try go_wp2)
        go_ret;exact⟨za11,za14⟩
      ·rw[if_neg c6] at H;exact absurd H (by simp)
     ·rw[if_neg c5] at H;exact absurd H (by simp)
    ·rw[if_neg c4] at H;have c4b0:decide (x5_1<(l0.length:Int))=false:=decide_eq_false c4;clear c4;obtain rfl:=Option.some.inj H;go_wp2
     repeat(go_quiet(fail);try go_wp2)
     go_ret;exact⟨za11,za14⟩
 ·rw[if_neg c3] at H;have c3b0:((l0.length:Int) == (l1.length:Int))=false:=beq_eq_false_iff_ne.mpr c3;have c3b1:((l0.length:Int) != (l1.length:Int))=true:=bne_iff_ne.mpr c3
  have c3b2:(l0.length == l1.length)=false:=by first|simpa using c3|(simp at c3 ⊢;omega)
  obtain rfl:=Option.some.inj H;go_enter Try.func65,Try.ntmps65;go_wp2
  repeat(go_quiet(fail);try go_wp2)
  go_ret;exact⟨za11,za14⟩
def laws_eqRec.f (k:Nat) (a0_0:Int) (a0_1:Int) (l0_2:List Int) (a1_0:Int) (a1_1:Int) (l1_2:List Int):Option (Bool):=if a0_0=a1_0 then(if a0_1=a1_1 then((laws_eqIntS.f k l0_2 l1_2).bind fun t281=>(if t281=true then(some true) else(some false))) else(some false)) else(some false)
theorem laws_eqRec.mono:∀a0 a1 a2 a3 a4 a5 k,LeO (laws_eqRec.f k a0 a1 a2 a3 a4 a5) (laws_eqRec.f (k+1) a0 a1 a2 a3 a4 a5):=by
 intro a0 a1 a2 a3 a4 a5 k;unfold laws_eqRec.f
 repeat' first|(with_reducible exact laws_eqIntS.mono _ _ _)|(with_reducible exact LeO.refl _)|(with_reducible exact LeO.none _)|(with_reducible refine LeO.ite ?_ ?_)|(with_reducible refine LeO.bind ?_ (fun _=>?_))|exact laws_eqIntS.mono _ _ _|exact LeO.none _|refine LeO.ite ?_ ?_|refine LeO.bind ?_ (fun _=>?_)
set_option maxHeartbeats 8000000 in
set_option maxRecDepth 100000 in
theorem laws_eqRec.calls (k:Nat) (a0_0:Int) (a0_1:Int) (A0_2:Option Addr) (c0_2:Nat) (l0_2:List Int) (a1_0:Int) (a1_1:Int) (A1_2:Option Addr) (c1_2:Nat) (l1_2:List Int) (r:Bool) (w:World) (hr0_2:Kd.C (Kd.int .i64) w A0_2 l0_2.length l0_2) (hc0_2:l0_2.length≤c0_2) (hr1_2:Kd.C (Kd.int .i64) w A1_2 l1_2.length l1_2) (hc1_2:l1_2.length≤c1_2) (h:laws_eqRec.f k a0_0 a0_1 l0_2 a1_0 a1_1 l1_2=some r) :
  Calls Try.prog 56 #[.agg #[.int .i64 a0_0,.int .i64 a0_1,.slice A0_2 l0_2.length c0_2],.agg #[.int .i64 a1_0,.int .i64 a1_1,.slice A1_2 l1_2.length c1_2]] w fun e w'=>e=.returned (.bool r)∧Below w.heap.size w w':=by
 have hu62:=Try.underlying62;have HR0_2:=qah.mk hr0_2;have HC0_2:=qah.mk hc0_2;clear hr0_2 hc0_2;have HR1_2:=qah.mk hr1_2;have HC1_2:=qah.mk hc1_2;clear hr1_2 hc1_2;have HB:=qah.mk (Below.refl w.heap.size w);have H:(if a0_0=a1_0 then(if a0_1=a1_1 then((laws_eqIntS.f k l0_2 l1_2).bind fun t281=>(if t281=true then(some true) else(some false))) else(some false)) else(some false))=some r:=h;clear h;by_cases c3:a0_0=a1_0
 ·rw[if_pos c3] at H;have c3b0:(a0_0 == a1_0)=true:=beq_iff_eq.mpr c3;have c3b1:(a0_0 != a1_0)=false:=bne_eq_false_iff_eq.mpr c3;clear c3;by_cases c4:a0_1=a1_1
  ·rw[if_pos c4] at H;have c4b0:(a0_1 == a1_1)=true:=beq_iff_eq.mpr c4;have c4b1:(a0_1 != a1_1)=false:=bne_eq_false_iff_eq.mpr c4;clear c4;replace H:=Option.bind_eq_some_iff.mp H;obtain⟨t281,A50,H⟩:=H;replace H:(if t281=true then(some true) else(some false))=some r:=H;have A5:=qah.mk A50;clear A50;by_cases c6:t281=true
   ·subst c6
    have H1:(some true)=some r:=by rw[if_pos rfl] at H;exact H
    clear H;have H:=H1;clear H1;obtain rfl:=Option.some.inj H;go_enter Try.func56,Try.ntmps56
    go_wp2_with(first|((with_reducible refine qag (N:=2) rfl ?_);refine zX (N:=2) (cs:=#[.int .i64 a0_0,.int .i64 a0_1,.slice A0_2 l0_2.length c0_2]) (t:=62) ?_;intro gb279 hg w7 hbox hb;have BK279:=qah.mk hbox;have GW279:=zH (w:=w) hg (za1 HB);have GE279:=GW279;replace HB:=qah.mk (qaa (za1 HB) hb);clear hb hbox hg)|((with_reducible refine qag (N:=3) rfl ?_);refine zX (N:=3) (cs:=#[.int .i64 a1_0,.int .i64 a1_1,.slice A1_2 l1_2.length c1_2]) (t:=62) ?_;intro gb280 hg w8 hbox hb;have BK280:=qah.mk hbox;have GW280:=zH (w:=w) hg (za0 HB GE279);have GE280:=GW280;replace HB:=qah.mk (qaa (za0 HB GE279) hb);have NB279_280:=zL BK279 hg;have NB280_279:=zG BK279 hg;replace BK279:=zY BK279 hb;clear hb hbox hg;have hnb9:=NB279_280.out;have hnc9:=NB280_279.out;obtain⟨hcz10_0,hcz10_1,hcz10_2,hfz10_0,hfz10_1,hfz10_2⟩:=zC3 BK279;obtain⟨hcz11_0,hcz11_1,hcz11_2,hfz11_0,hfz11_1,hfz11_2⟩:=zC3 BK280)|((with_reducible refine qaf (f:=65) rfl ?_);refine zF (some 19) Try.func65 #[.slice A0_2 l0_2.length c0_2,.slice A1_2 l1_2.length c1_2] ?_;(with_reducible refine(laws_eqIntS.calls k _ _ l0_2 _ _ l1_2 true _ ?side1 ?side2 ?side3 ?side4 A5.out).mono ?_);(case side1=>exact zR HR0_2 HB);(case side2=>exact HC0_2.out);(case side3=>exact zR HR1_2 HB);(case side4=>exact HC1_2.out);rintro e w' ⟨rfl,⟨nd,rfl⟩⟩;refine⟨_,rfl,?_⟩))
    go_ret;exact⟨za8,za2 HB GE279 GE280⟩
   ·replace c6:=Bool.eq_false_iff.mpr c6;subst c6
    have H1:(some false)=some r:=by rw[if_neg (show ¬(false=true) by decide)] at H;exact H
    clear H;have H:=H1;clear H1;obtain rfl:=Option.some.inj H;go_enter Try.func56,Try.ntmps56
    go_wp2_with(first|((with_reducible refine qag (N:=2) rfl ?_);refine zX (N:=2) (cs:=#[.int .i64 a0_0,.int .i64 a0_1,.slice A0_2 l0_2.length c0_2]) (t:=62) ?_;intro gb279 hg w12 hbox hb;have BK279:=qah.mk hbox;have GW279:=zH (w:=w) hg (za1 HB);have GE279:=GW279;replace HB:=qah.mk (qaa (za1 HB) hb);clear hb hbox hg)|((with_reducible refine qag (N:=3) rfl ?_);refine zX (N:=3) (cs:=#[.int .i64 a1_0,.int .i64 a1_1,.slice A1_2 l1_2.length c1_2]) (t:=62) ?_;intro gb280 hg w13 hbox hb;have BK280:=qah.mk hbox;have GW280:=zH (w:=w) hg (za0 HB GE279);have GE280:=GW280;replace HB:=qah.mk (qaa (za0 HB GE279) hb);have NB279_280:=zL BK279 hg;have NB280_279:=zG BK279 hg;replace BK279:=zY BK279 hb;clear hb hbox hg;have hnb14:=NB279_280.out;have hnc14:=NB280_279.out;obtain⟨hcz15_0,hcz15_1,hcz15_2,hfz15_0,hfz15_1,hfz15_2⟩:=zC3 BK279;obtain⟨hcz16_0,hcz16_1,hcz16_2,hfz16_0,hfz16_1,hfz16_2⟩:=zC3 BK280)|((with_reducible refine qaf (f:=65) rfl ?_);refine zF (some 19) Try.func65 #[.slice A0_2 l0_2.length c0_2,.slice A1_2 l1_2.length c1_2] ?_;(with_reducible refine(laws_eqIntS.calls k _ _ l0_2 _ _ l1_2 false _ ?side1 ?side2 ?side3 ?side4 A5.out).mono ?_);(case side1=>exact zR HR0_2 HB);(case side2=>exact HC0_2.out);(case side3=>exact zR HR1_2 HB);(case side4=>exact HC1_2.out);rintro e w' ⟨rfl,⟨nd,rfl⟩⟩;refine⟨_,rfl,?_⟩))
    go_ret;exact⟨za8,za2 HB GE279 GE280⟩
  ·rw[if_neg c4] at H;have c4b0:(a0_1 == a1_1)=false:=beq_eq_false_iff_ne.mpr c4;have c4b1:(a0_1 != a1_1)=true:=bne_iff_ne.mpr c4;obtain rfl:=Option.some.inj H;go_enter Try.func56,Try.ntmps56
   go_wp2_with(first|((with_reducible refine qag (N:=2) rfl ?_);refine zX (N:=2) (cs:=#[.int .i64 a0_0,.int .i64 a0_1,.slice A0_2 l0_2.length c0_2]) (t:=62) ?_;intro gb279 hg w17 hbox hb;have BK279:=qah.mk hbox;have GW279:=zH (w:=w) hg (za1 HB);have GE279:=GW279;replace HB:=qah.mk (qaa (za1 HB) hb);clear hb hbox hg)|((with_reducible refine qag (N:=3) rfl ?_);refine zX (N:=3) (cs:=#[.int .i64 a1_0,.int .i64 a1_1,.slice A1_2 l1_2.length c1_2]) (t:=62) ?_;intro gb280 hg w18 hbox hb;have BK280:=qah.mk hbox;have GW280:=zH (w:=w) hg (za0 HB GE279);have GE280:=GW280;replace HB:=qah.mk (qaa (za0 HB GE279) hb);have NB279_280:=zL BK279 hg;have NB280_279:=zG BK279 hg;replace BK279:=zY BK279 hb;clear hb hbox hg;have hnb19:=NB279_280.out;have hnc19:=NB280_279.out;obtain⟨hcz20_0,hcz20_1,hcz20_2,hfz20_0,hfz20_1,hfz20_2⟩:=zC3 BK279;obtain⟨hcz21_0,hcz21_1,hcz21_2,hfz21_0,hfz21_1,hfz21_2⟩:=zC3 BK280))
   go_ret;exact⟨za8,za2 HB GE279 GE280⟩
 ·rw[if_neg c3] at H;have c3b0:(a0_0 == a1_0)=false:=beq_eq_false_iff_ne.mpr c3;have c3b1:(a0_0 != a1_0)=true:=bne_iff_ne.mpr c3;obtain rfl:=Option.some.inj H;go_enter Try.func56,Try.ntmps56
  go_wp2_with(first|((with_reducible refine qag (N:=2) rfl ?_);refine zX (N:=2) (cs:=#[.int .i64 a0_0,.int .i64 a0_1,.slice A0_2 l0_2.length c0_2]) (t:=62) ?_;intro gb279 hg w22 hbox hb;have BK279:=qah.mk hbox;have GW279:=zH (w:=w) hg (za1 HB);have GE279:=GW279;replace HB:=qah.mk (qaa (za1 HB) hb);clear hb hbox hg)|((with_reducible refine qag (N:=3) rfl ?_);refine zX (N:=3) (cs:=#[.int .i64 a1_0,.int .i64 a1_1,.slice A1_2 l1_2.length c1_2]) (t:=62) ?_;intro gb280 hg w23 hbox hb;have BK280:=qah.mk hbox;have GW280:=zH (w:=w) hg (za0 HB GE279);have GE280:=GW280;replace HB:=qah.mk (qaa (za0 HB GE279) hb);have NB279_280:=zL BK279 hg;have NB280_279:=zG BK279 hg;replace BK279:=zY BK279 hb;clear hb hbox hg;have hnb24:=NB279_280.out;have hnc24:=NB280_279.out;obtain⟨hcz25_0,hcz25_1,hcz25_2,hfz25_0,hfz25_1,hfz25_2⟩:=zC3 BK279;obtain⟨hcz26_0,hcz26_1,hcz26_2,hfz26_0,hfz26_1,hfz26_2⟩:=zC3 BK280))
  go_ret;exact⟨za8,za2 HB GE279 GE280⟩
end Go.Proofs.Ytbomcadjkcmcgaa.Print
