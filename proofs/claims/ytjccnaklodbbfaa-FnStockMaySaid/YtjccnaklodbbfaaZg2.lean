-- Written by squeeze.py: not trusted, Lean checks it.
import Derived.Test.YtjccnaklodbbfaaZK
import Derived.Test.YtjccnaklodbbfaaZg0
import Derived.Test.YtjccnaklodbbfaaZg1
namespace Go.Proofs.Ytjccnaklodbbfaa.Print
open Go.RowKit Go.Proofs.YtjccnaklodbbfaaW.PrintWords Go.Proofs.YtjccnaklodbbfaaW.PrintLast Go.Proofs.YtjccnaklodbbfaaW.PrintMore
attribute [local go_sem] max2_int min2_int max_two min_two max_three min_three max_four min_four
set_option linter.unusedVariables false
set_option linter.unusedSimpArgs false
def impl_StockOf.l0:Nat→List (S62)→Bool→Int→Int→List (S46)→Option (Int × (List (S46)) × Bool)
 |0,_,_,_,_,_=>none
 |k+1,x1,x7,x8,x234000,x234001=>if x7=true then(if x8<(x1.length:Int) then(if 0≤x8 then((impl_StockDo.f k x234000 x234001 ((rd_T62 x1 x8).f0) ((rd_T62 x1 x8).f1) ((rd_T62 x1 x8).f2)).bind fun bt235=>(impl_StockOf.l0 k x1 bt235.2.2 (wrap64 (x8+1)) bt235.1 bt235.2.1)) else(none)) else(some (x234000,x234001,x7))) else(some (x234000,x234001,x7))
def impl_StockOf.f (k:Nat) (a0:Int) (l1:List (S62)):Option (Int × (List (S46)) × Bool):=(impl_StockNew.f a0).bind fun bt228=>(impl_StockOf.l0 k l1 bt228.2.2 0 bt228.1 bt228.2.1)
theorem impl_StockOf.mono_l:∀k,(∀y0 y1 y2 y3 y4,LeO (impl_StockOf.l0 k y0 y1 y2 y3 y4) (impl_StockOf.l0 (k+1) y0 y1 y2 y3 y4))
 |0=>fun _ _ _ _ _ r h=>by simp[impl_StockOf.l0] at h
 |k+1=>by
  have ih0:=impl_StockOf.mono_l k
  ·intro y0 y1 y2 y3 y4
   unfold impl_StockOf.l0
   repeat' first
   |(with_reducible exact ih0 _ _ _ _ _)
   |(with_reducible exact impl_StockDo.mono _ _ _ _ _ _)
   |(with_reducible exact LeO.refl _)
   |(with_reducible exact LeO.none _)
   |(with_reducible refine LeO.ite ?_ ?_)
   |(with_reducible refine LeO.bind ?_ (fun _=>?_))
   |exact ih0 _ _ _ _ _
   |exact impl_StockDo.mono _ _ _ _ _ _
   |exact LeO.none _
   |refine LeO.ite ?_ ?_
   |refine LeO.bind ?_ (fun _=>?_)
theorem impl_StockOf.mono:∀a0 a1 k,LeO (impl_StockOf.f k a0 a1) (impl_StockOf.f (k+1) a0 a1):=by
 intro a0 a1 k
 have ih0:=impl_StockOf.mono_l k
 unfold impl_StockOf.f
 repeat' first
   |(with_reducible exact ih0 _ _ _ _ _)
   |(with_reducible exact impl_StockDo.mono _ _ _ _ _ _)
   |(with_reducible exact LeO.refl _)
   |(with_reducible exact LeO.none _)
   |(with_reducible refine LeO.ite ?_ ?_)
   |(with_reducible refine LeO.bind ?_ (fun _=>?_))
   |exact ih0 _ _ _ _ _
   |exact impl_StockDo.mono _ _ _ _ _ _
   |exact LeO.none _
   |refine LeO.ite ?_ ?_
   |refine LeO.bind ?_ (fun _=>?_)
def impl_StockOf.T5:Bool × List (List Nat × List Nat):=(true,[([],[]),([],[]),([],[]),([1,2],[1,2]),([3],[3]),([0,4],[0,4]),([5],[5]),([6],[6]),([6],[6]),([7,5,0,1,2,3,4,5,6,7],[7]),([8,9,0,1,2,3,4,5,6,7,8,9],[8])])
def impl_StockOf.B5:List Nat:=[0,0,0,6,14,31,63,127,127,255,1023]
theorem impl_StockOf.tab5:rtab .any (opsOf Try.f24 5)=impl_StockOf.T5:=by kernel_rfl
theorem impl_StockOf.bits5:waitsOk impl_StockOf.T5.2 impl_StockOf.B5=true:=by kernel_rfl
set_option maxHeartbeats 8000000 in
set_option maxRecDepth 100000 in
theorem impl_StockOf.calls (k:Nat) (a0:Int) (A1:Option Addr) (c1:Nat) (l1:List (S62)) (r1:Int) (r2:List (S46)) (r3:Bool) (w:World) (hr1:Kd.C k62 w A1 l1.length l1) (hc1:l1.length≤c1) (h:impl_StockOf.f k a0 l1=some (r1,r2,r3)) :
  Calls Try.prog 24 #[.int .i64 a0,.slice A1 l1.length c1] w fun e w'=>∃v1_:Value,e=.returned (.tuple #[.agg #[.int .i64 r1,v1_],.bool r3])∧Kd.R k46 46 w' w.heap.size (fun _=>True) v1_ r2∧Below w.heap.size w w':=by
 have hu36:=Try.underlying36
 have hu62:=Try.underlying62
 have HR1:=Aside0.mk hr1
 have HC1:=Aside0.mk hc1
 clear hr1 hc1
 have HB:=Aside0.mk (Below.refl w.heap.size w)
 have H:((impl_StockNew.f a0).bind fun bt228=>(impl_StockOf.l0 k l1 bt228.2.2 0 bt228.1 bt228.2.1))=some (r1,r2,r3):=h
 clear h
 replace H:=Option.bind_eq_some_iff.mp H
 obtain⟨⟨t228,t229,t232⟩,A30,H⟩:=H
 replace H:(impl_StockOf.l0 k l1 t232 0 t228 t229)=some (r1,r2,r3):=H
 have A3:=Aside0.mk A30
 clear A30
 have H':=Aside0.mk H
 clear H
 go_enter Try.func24,Try.ntmps24
 go_wp2_with(first|((with_reducible refine qah (N:=4) rfl ?_);(try(refine qaq (by rfl) ?_;dsimp only));refine zX (N:=4) (cs:=#[.int .i64 0,.slice none 0 0]) (t:=36) ?_;intro gb227 hg w4 hbox hb;have BK227:=Aside0.mk hbox;have GW227:=zH (w:=w) hg (za1 HB);have GE227:=GW227;replace HB:=Aside0.mk (qab (za1 HB) hb);clear hb hbox hg)|((with_reducible refine qaf (f:=22) rfl ?_);refine zF (some 11) Try.func22 #[.int .i64 a0] ?_;(with_reducible refine(impl_StockNew.calls a0 t228 t229 t232 _ A3.out).mono ?_);rintro e w5 ⟨v230,rfl,ho0,hb⟩;refine⟨_,rfl,?_⟩;have HO231:=Aside0.mk (Kd.R_lower ho0 (below_size (za0 HB GE227)));replace BK227:=Aside0.mk (qaa (zB BK227) hb);replace HB:=Aside0.mk (qab (za0 HB GE227) hb);(try clear hb);(try clear ho0))|((with_reducible refine qah (N:=6) rfl ?_);(try(refine qaq (by rfl) ?_;dsimp only));refine zX (N:=6) (cs:=#[.int .i64 0,.slice none 0 0]) (t:=36) ?_;intro gb233 hg w6 hbox hb;replace HO231:=Aside0.mk (Kd.R_below (za3 HO231) hb);have BK233:=Aside0.mk hbox;have GW233:=zH (w:=w) hg (za0 HB GE227);have GE233:=GW233;replace HB:=Aside0.mk (qab (za0 HB GE227) hb);have NB227_233:=zL BK227 hg;have NB233_227:=zG BK227 hg;replace BK227:=Aside0.mk (qaa (zB BK227) hb);clear hb hbox hg;have hnb7:=NB233_227.out;have hnc7:=NB227_233.out;obtain⟨hcz8_0,hcz8_1,hfz8_0,hfz8_1⟩:=zC2 BK233;obtain⟨Ao9,co9,eo9⟩:=Kd.R_slice HO231.out;subst eo9))
 go_loopg [7,8] k (fun kq v7 v8 w'=>∃(x7_1:Bool) (x8_1:Int) (x234000_1:Int) (x234001_1:List (S46)) (u234001:Value),v7=.bool x7_1∧v8=.int .i64 x8_1∧Aside0 (impl_StockOf.l0 kq l1 x7_1 x8_1 x234000_1 x234001_1=some (r1,r2,r3))∧Aside0 (kq≤k)∧Aside0 (Kd.R k46 46 w' w.heap.size (fun _=>True) u234001 x234001_1)∧Aside0 (w'.heap[gb227]?=some (.cells #[.int .i64 0,(.slice none 0 0)] 36 (0,0)))∧Aside0 (w'.heap[gb233]?=some (.cells #[.int .i64 x234000_1,u234001] 36 (0,0)))∧Aside0 (Below w.heap.size w w'))
 case atStart=>exact⟨(t232),(0),(t228),(t229),(.slice Ao9 t229.length co9),(za17),(za17),H',⟨Nat.le_refl _⟩,⟨by(with_reducible repeat(first|apply Kd.R_alloc|apply Kd.R_drewN|apply Kd.R_drew));exact Kd.R_mono (Kd.R_far (p:=⟨gb233,1,none⟩) (Kd.R_far (p:=⟨gb233,0,none⟩) (Kd.R_types HO231.out BK233.out (by decide)) (fun _ hk=>hk.2) (.int .i64 t228)) (fun _ hk=>hk.2) (.slice Ao9 t229.length co9)) (fun _ hk=>trivial)⟩,⟨za4 NB227_233 BK227⟩,⟨by(with_reducible repeat(first|refine blk_drewN ?_ _|refine blk_drew ?_|refine blk_alloc ?_ _));refine qai (cs:=#[.int .i64 t228,.slice none 0 0]) ?_ 1 _ rfl;(with_reducible repeat(first|refine blk_drewN ?_ _|refine blk_drew ?_|refine blk_alloc ?_ _));refine qai (cs:=#[.int .i64 0,.slice none 0 0]) ?_ 0 _ rfl;(with_reducible repeat(first|refine blk_drewN ?_ _|refine blk_drew ?_|refine blk_alloc ?_ _));exact BK233.out⟩,⟨za2 HB GE227 GE233⟩⟩
 case round=>
  clear H'
  try clear c1
  try clear c2
  try clear p2
  try clear c7
  try clear hcz8_0
  try clear hcz8_1
  try clear hfz8_0
  try clear hfz8_1
  obtain⟨x7_1,x8_1,x234000_1,x234001_1,u234001,rfl,rfl,HA,HK1,HO_234001,BK227,BK233,HB⟩:=hrel
  cases gk with
  |zero=>exact absurd HA.out (by simp[impl_StockOf.l0])
  |succ k1=>
   have H:=HA.out
   clear HA
   simp only[impl_StockOf.l0] at H
   by_cases c10:x7_1=true
   ·subst c10
    have H1:(if x8_1<(l1.length:Int) then(if 0≤x8_1 then((impl_StockDo.f k1 x234000_1 x234001_1 ((rd_T62 l1 x8_1).f0) ((rd_T62 l1 x8_1).f1) ((rd_T62 l1 x8_1).f2)).bind fun bt235=>(impl_StockOf.l0 k1 l1 bt235.2.2 (wrap64 (x8_1+1)) bt235.1 bt235.2.1)) else(none)) else(some (x234000_1,x234001_1,true)))=some (r1,r2,r3):=by rw[if_pos rfl] at H;exact H
    clear H
    have H:=H1
    clear H1
    by_cases c11:x8_1<(l1.length:Int)
    ·rw[if_pos c11] at H
     have c11b0:decide (x8_1<(l1.length:Int))=true:=decide_eq_true c11
     clear c11
     by_cases c12:0≤x8_1
     ·rw[if_pos c12] at H
      have c12b0:decide (0≤x8_1)=true:=decide_eq_true c12
      clear c12
      replace H:=Option.bind_eq_some_iff.mp H
      obtain⟨⟨t235,t236,t239⟩,A130,H⟩:=H
      replace H:(impl_StockOf.l0 k1 l1 t239 (wrap64 (x8_1+1)) t235 t236)=some (r1,r2,r3):=H
      have A13:=Aside0.mk A130
      clear A130
      have H':=Aside0.mk H
      clear H
      try go_wp2
      replace HO_234001:=Aside0.mk (Kd.R_drew HO_234001.out)
      replace BK227:=Aside0.mk (blk_drew BK227.out)
      replace BK233:=Aside0.mk (blk_drew BK233.out)
      replace HB:=Aside0.mk (qae HB.out)
      have p234:0≤(x8_1:Int):=of_decide_eq_true (za5)
      have q234:x8_1<(l1.length:Int):=of_decide_eq_true (za5)
      obtain⟨ad234,A234_2,c234_2,e234,hx234_0,hx234_1,hx234_2,hl234_2,hi234_2⟩:=at_T62 HR1.out x8_1 p234 q234
      have hw234_2:=hx234_2
      have hw234_1:=hx234_1
      have hw234_0:=hx234_0
      cases e234
      have hxo234_2:=Aside0.mk hx234_2
      replace hx234_0:=(HB.out.cell (World.block_lt_of_cell? w _ hx234_0)).trans hx234_0
      replace hx234_1:=(HB.out.cell (World.block_lt_of_cell? w _ hx234_1)).trans hx234_1
      replace hx234_2:=(HB.out.cell (World.block_lt_of_cell? w _ hx234_2)).trans hx234_2
      have HR234_2:=Aside0.mk hi234_2
      have HC234_2:=Aside0.mk hl234_2
      clear hi234_2 hl234_2
      replace p234:=eq_true p234
      replace q234:=eq_true q234
      obtain⟨Ao15,co15,eo15⟩:=Kd.R_slice HO_234001.out
      (first|subst eo15|(injection eo15 with f1_ f2_ f3_;have f4_:=f1_.symm;have f5_:=f3_.symm;clear f1_ f2_ f3_;subst f4_;subst f5_))
      refine start_ (n:=11) (S:=fun w'=>w'.cell? ⟨gb233,0,none⟩=some (.int .i64 x234000_1)∧w'.cell? ⟨gb233,1,none⟩=some (.slice Ao15 x234001_1.length co15)∧w'.cell? (ad234.add ((x8_1).toNat*3))=some (.int .i64 ((rd_T62 l1 x8_1).f0))∧w'.cell? ⟨(ad234.add ((x8_1).toNat*3)).block,(ad234.add ((x8_1).toNat*3)).off+1,none⟩=some (.int .i64 ((rd_T62 l1 x8_1).f1))∧w'.cell? ⟨(ad234.add ((x8_1).toNat*3)).block,(ad234.add ((x8_1).toNat*3)).off+2,none⟩=some (.slice A234_2 ((rd_T62 l1 x8_1).f2).length c234_2)) (ds:=[9]) #[false,false,false,false,false,false,false,false,false,false,false] (by kernel_rfl) rfl rfl ⟨(blk_cell BK233.out 0).trans rfl,(blk_cell BK233.out 1).trans rfl,((HB.out.cell (World.block_lt_of_cell? w _ hw234_0)).trans hw234_0),((HB.out.cell (World.block_lt_of_cell? w _ hw234_1)).trans hw234_1),((HB.out.cell (World.block_lt_of_cell? w _ hw234_2)).trans hw234_2)⟩ (fun hHeld=>?_);refine with_tabW impl_StockOf.tab5 impl_StockOf.bits5 (fun HT_ HW_=>?_)
      generalize wr.drew=w14 at HO_234001 BK227 BK233 HB HR234_2 hx234_0 hx234_1 hx234_2 hHeld ⊢
      refine qar (i:=1) (N:=some 25) (v:=?_) (a':=?_) #[false,true,false,false,false,false,false,false,false,false,false] rfl rfl (qan HT_.out (by kernel_rfl)) (fun _ _ _ h=>h) (Or.inl ⟨by rfl,?_⟩) ?_ ?_
      rotate_left
      ·intro w'
       go_simp
       with_reducible rfl
      rotate_left
      ·simp only[Act.put,List.setIfInBounds_toArray,List.set_cons_zero,List.set_cons_succ,qaj,qak]
       rfl
      refine qar (i:=2) (N:=some 26) (v:=?_) (a':=?_) #[false,true,true,false,false,false,false,false,false,false,false] rfl rfl (qan HT_.out (by kernel_rfl)) (fun _ _ _ h=>h) (Or.inl ⟨by rfl,?_⟩) ?_ ?_
      rotate_left
      ·intro w'
       go_simp
       with_reducible rfl
      rotate_left
      ·simp only[Act.put,List.setIfInBounds_toArray,List.set_cons_zero,List.set_cons_succ,qaj,qak]
       rfl
      refine qar (i:=3) (N:=some 27) (v:=?_) (a':=?_) #[false,true,true,true,false,false,false,false,false,false,false] rfl rfl (qan HT_.out (by kernel_rfl)) (fun _ _ _ h=>h) (Or.inl ⟨by rfl,?_⟩) ?_ ?_
      rotate_left
      ·intro w'
       go_simp
       with_reducible rfl
      rotate_left
      ·simp only[Act.put,List.setIfInBounds_toArray,List.set_cons_zero,List.set_cons_succ,qaj,qak]
       rfl
      refine take_ (i:=0) (N:=some 24) (v:=?_) (a':=?_) #[true,true,true,true,false,false,false,false,false,false,false] rfl rfl (take_ofW HT_.out HW_.out (by kernel_rfl)) (fun _ _ _ h=>h) (Or.inl ⟨by rfl,?_⟩) hHeld ?_ ?_
      rotate_left
      ·rintro w' ⟨s0,s1,s2,s3,s4⟩
       go_simp
       with_reducible rfl
      rotate_left
      ·simp only[Act.put,List.setIfInBounds_toArray,List.set_cons_zero,List.set_cons_succ,qaj,qak]
       rfl
      refine take_ (i:=4) (N:=some 28) (v:=?_) (a':=?_) #[true,true,true,true,true,false,false,false,false,false,false] rfl rfl (take_ofW HT_.out HW_.out (by kernel_rfl)) (fun _ _ _ h=>h) (Or.inl ⟨by rfl,?_⟩) hHeld ?_ ?_
      rotate_left
      ·rintro w' ⟨s0,s1,s2,s3,s4⟩
       go_simp
       with_reducible rfl
      rotate_left
      ·simp only[Act.put,List.setIfInBounds_toArray,List.set_cons_zero,List.set_cons_succ,qaj,qak]
       rfl
      refine one_ (i:=5) (N:=some 29) #[true,true,true,true,true,true,false,false,false,false,false] rfl rfl (one_of HT_.out (by kernel_rfl)) (by decide) (fun K hK=>?_)
      refine goes_ Try.func66 (by kernel_rfl) rfl #[.agg #[.int .i64 x234000_1,.slice Ao15 x234001_1.length co15],.agg #[.int .i64 ((rd_T62 l1 x8_1).f0),.int .i64 ((rd_T62 l1 x8_1).f1),.slice A234_2 ((rd_T62 l1 x8_1).f2).length c234_2]] (by rfl) rfl rfl (by(try simp only[List.map_toArray,List.map_cons,List.map_nil]);first|done|rfl|(simp only[List.length_drop,List.length_take];rfl)) ?_
      with_reducible refine(impl_StockDo.calls k1 x234000_1 _ _ x234001_1 ((rd_T62 l1 x8_1).f0) ((rd_T62 l1 x8_1).f1) _ _ ((rd_T62 l1 x8_1).f2) t235 t236 t239 _ ?side1 ?side2 ?side3 ?side4 A13.out).mono ?_
      (case side1=>repeat(first|exact(Kd.R_reads' HO_234001.out).2.2|(with_reducible refine Kd.C_alloc ?_ _)|(with_reducible refine Kd.C_drewN ?_ _)|(with_reducible refine Kd.C_drew ?_)))
      (case side2=>exact(Kd.R_reads' HO_234001.out).2.1)
      (case side3=>exact zR HR234_2 HB)
      (case side4=>exact HC234_2.out)
      rintro e w16 ⟨v237,rfl,ho0,hb⟩
      refine⟨_,rfl,?_⟩
      have HO238:=Aside0.mk (Kd.R_lower (Kd.R_new' ho0 (Kd.R_lt (za3 HO_234001))) (below_size (za2 HB GE227 GE233)))
      replace HO_234001:=Aside0.mk (Kd.R_elder' (za3 HO_234001) (Kd.R_base ho0) hb)
      replace BK227:=Aside0.mk (qaa (zB BK227) hb)
      replace BK233:=Aside0.mk (qaa (zB BK233) hb)
      replace HB:=Aside0.mk (qab (za2 HB GE227 GE233) hb)
      (try clear hb)
      (try clear hb2)
      (try clear hk)
      (try clear hi)
      (try clear ho0)
      obtain⟨Ao18,co18,eo18⟩:=Kd.R_slice HO238.out
      (first|subst eo18|(injection eo18 with f1_ f2_ f3_;have f4_:=f1_.symm;have f5_:=f3_.symm;clear f1_ f2_ f3_;subst f4_;subst f5_))
      refine hK.out _ _ ⟨(blk_cell BK233.out 0).trans rfl,(blk_cell BK233.out 1).trans rfl,((HB.out.cell (World.block_lt_of_cell? w _ hw234_0)).trans hw234_0),((HB.out.cell (World.block_lt_of_cell? w _ hw234_1)).trans hw234_1),((HB.out.cell (World.block_lt_of_cell? w _ hw234_2)).trans hw234_2)⟩ (fun hHeld=>?_)
      clear hK K
      refine norm_ (a':=?_) ?_ ?_
      rotate_left
      ·show Act.put _ (some 29) _=_
       simp only[Act.put,List.setIfInBounds_toArray,List.set_cons_zero,List.set_cons_succ,qaj,qak]
       rfl
      refine qar (i:=6) (N:=some 23) (v:=?_) (a':=?_) #[true,true,true,true,true,true,true,false,false,false,false] rfl rfl (qan HT_.out (by kernel_rfl)) (fun _ _ _ h=>h) (Or.inl ⟨by rfl,?_⟩) ?_ ?_
      rotate_left
      ·intro w'
       go_simp
       with_reducible rfl
      rotate_left
      ·simp only[Act.put,List.setIfInBounds_toArray,List.set_cons_zero,List.set_cons_succ,qaj,qak]
       rfl
      refine qar (i:=7) (N:=some 30) (v:=?_) (a':=?_) #[true,true,true,true,true,true,true,true,false,false,false] rfl rfl (qan HT_.out (by kernel_rfl)) (fun _ _ _ h=>h) (Or.inl ⟨by rfl,?_⟩) ?_ ?_
      rotate_left
      ·intro w'
       go_simp
       with_reducible rfl
      rotate_left
      ·simp only[Act.put,List.setIfInBounds_toArray,List.set_cons_zero,List.set_cons_succ,qaj,qak]
       rfl
      refine qar (i:=8) (N:=some 31) (v:=?_) (a':=?_) #[true,true,true,true,true,true,true,true,true,false,false] rfl rfl (qan HT_.out (by kernel_rfl)) (fun _ _ _ h=>h) (Or.inl ⟨by rfl,?_⟩) ?_ ?_
      rotate_left
      ·intro w'
       go_simp
       with_reducible rfl
      rotate_left
      ·simp only[Act.put,List.setIfInBounds_toArray,List.set_cons_zero,List.set_cons_succ,qaj,qak]
       rfl
      refine last_ (i:=9) (N:=none) #[true,true,true,true,true,true,true,true,true,true,false] rfl rfl (one_of HT_.out (by kernel_rfl)) (by decide) (fun K hK=>?_)
      have hs17:w16.cell? ⟨gb233,0,none⟩=some (.int .i64 x234000_1):=(blk_cell BK233.out 0).trans rfl
      have hfs17:=blk_frozen BK233.out 0
      have hns17_0:=NB227_233.out
      have hms17_0:=NB233_227.out
      have hs19:w16.cell? ⟨gb233,1,none⟩=some (.slice Ao15 x234001_1.length co15):=(blk_cell BK233.out 1).trans rfl
      have hfs19:=blk_frozen BK233.out 1
      have hns19_0:=NB227_233.out
      have hms19_0:=NB233_227.out
      refine skip_ (w1:=?_) (by rfl) rfl ?_ ?_
      rotate_left
      ·go_simp
       rfl
      refine hK.out _ _ ?_
      clear hK K
      refine qar (i:=10) (N:=some 7) (v:=?_) (a':=?_) #[true,true,true,true,true,true,true,true,true,true,true] rfl rfl (qan HT_.out (by kernel_rfl)) (fun _ _ _ h=>h) (Or.inl ⟨by rfl,?_⟩) ?_ ?_
      rotate_left
      ·intro w'
       go_simp
       with_reducible rfl
      rotate_left
      ·simp only[Act.put,List.setIfInBounds_toArray,List.set_cons_zero,List.set_cons_succ,qaj,qak]
       rfl
      refine done_ (done_of HT_.out (by kernel_rfl)) ?_
      try go_wp2
      go_roundg k1
      case measure=>have:=HK1.out;omega
      case rel=>exact⟨(t239),(wrap64 (x8_1+1)),(t235),(t236),(.slice Ao18 t236.length co18),(za17),(za17),H',⟨by have:=HK1.out;omega⟩,⟨by(with_reducible repeat(first|apply Kd.R_alloc|apply Kd.R_drewN|apply Kd.R_drew));exact Kd.R_mono (Kd.R_far (p:=⟨gb233,1,none⟩) (Kd.R_far (p:=⟨gb233,0,none⟩) (Kd.R_types HO238.out BK233.out (by decide)) (fun _ hk=>hk.2) (.int .i64 t235)) (fun _ hk=>hk.2) (.slice Ao18 t236.length co18)) (fun _ hk=>trivial)⟩,⟨za4 NB227_233 BK227⟩,⟨by(with_reducible repeat(first|refine blk_drewN ?_ _|refine blk_drew ?_|refine blk_alloc ?_ _));refine qai (cs:=#[.int .i64 t235,.slice Ao15 x234001_1.length co15]) ?_ 1 _ rfl;(with_reducible repeat(first|refine blk_drewN ?_ _|refine blk_drew ?_|refine blk_alloc ?_ _));refine qai (cs:=#[.int .i64 x234000_1,.slice Ao15 x234001_1.length co15]) ?_ 0 _ rfl;(with_reducible repeat(first|refine blk_drewN ?_ _|refine blk_drew ?_|refine blk_alloc ?_ _));exact BK233.out⟩,⟨za2 HB GE227 GE233⟩⟩
     ·rw[if_neg c12] at H
      exact absurd H (by simp)
    ·rw[if_neg c11] at H
     have c11b0:decide (x8_1<(l1.length:Int))=false:=decide_eq_false c11
     clear c11
     simp only[Option.some.injEq,Prod.mk.injEq] at H
     obtain⟨rfl,rfl,rfl⟩:=H
     have hnb20:=NB233_227.out
     have hnc20:=NB227_233.out
     obtain⟨hcz21_0,hcz21_1,hfz21_0,hfz21_1⟩:=zC2 BK233
     obtain⟨hcz22_0,hcz22_1,hfz22_0,hfz22_1⟩:=zC2 BK227
     obtain⟨Ao23,co23,eo23⟩:=Kd.R_slice HO_234001.out
     subst eo23
     go_wp2
     refine bodyPost_ret (results_ct rfl _ _ gb227 36 #[.int .i64 x234000_1,.slice Ao23 x234001_1.length co23] (0,0) _ rfl (by(with_reducible repeat(first|refine blk_drewN ?_ _|refine blk_drew ?_|refine blk_alloc ?_ _));refine qai (cs:=#[.int .i64 x234000_1,.slice none 0 0]) ?_ 1 _ rfl;(with_reducible repeat(first|refine blk_drewN ?_ _|refine blk_drew ?_|refine blk_alloc ?_ _));refine qai (cs:=#[.int .i64 0,.slice none 0 0]) ?_ 0 _ rfl;(with_reducible repeat(first|refine blk_drewN ?_ _|refine blk_drew ?_|refine blk_alloc ?_ _));exact BK227.out) Try.underlying36 rfl (by kernel_rfl)) rfl ?_
     exact⟨_,za9,by(with_reducible repeat(first|apply Kd.R_alloc|apply Kd.R_drewN|apply Kd.R_drew));exact Kd.R_mono (Kd.R_far (p:=⟨gb227,1,none⟩) (Kd.R_far (p:=⟨gb227,0,none⟩) (Kd.R_types HO_234001.out BK227.out (by decide)) (fun _ hk=>hk.2) (.int .i64 x234000_1)) (fun _ hk=>hk.2) (.slice Ao23 x234001_1.length co23)) (fun _ hk=>trivial),za2 HB GE227 GE233⟩
   ·replace c10:=Bool.eq_false_iff.mpr c10
    subst c10
    have H1:(some (x234000_1,x234001_1,false))=some (r1,r2,r3):=by rw[if_neg (show ¬(false=true) by decide)] at H;exact H
    clear H
    have H:=H1
    clear H1
    simp only[Option.some.injEq,Prod.mk.injEq] at H
    obtain⟨rfl,rfl,rfl⟩:=H
    have hnb24:=NB233_227.out
    have hnc24:=NB227_233.out
    obtain⟨hcz25_0,hcz25_1,hfz25_0,hfz25_1⟩:=zC2 BK233
    obtain⟨hcz26_0,hcz26_1,hfz26_0,hfz26_1⟩:=zC2 BK227
    obtain⟨Ao27,co27,eo27⟩:=Kd.R_slice HO_234001.out
    subst eo27
    go_wp2
    refine bodyPost_ret (results_ct rfl _ _ gb227 36 #[.int .i64 x234000_1,.slice Ao27 x234001_1.length co27] (0,0) _ rfl (by(with_reducible repeat(first|refine blk_drewN ?_ _|refine blk_drew ?_|refine blk_alloc ?_ _));refine qai (cs:=#[.int .i64 x234000_1,.slice none 0 0]) ?_ 1 _ rfl;(with_reducible repeat(first|refine blk_drewN ?_ _|refine blk_drew ?_|refine blk_alloc ?_ _));refine qai (cs:=#[.int .i64 0,.slice none 0 0]) ?_ 0 _ rfl;(with_reducible repeat(first|refine blk_drewN ?_ _|refine blk_drew ?_|refine blk_alloc ?_ _));exact BK227.out) Try.underlying36 rfl (by kernel_rfl)) rfl ?_
    exact⟨_,za9,by(with_reducible repeat(first|apply Kd.R_alloc|apply Kd.R_drewN|apply Kd.R_drew));exact Kd.R_mono (Kd.R_far (p:=⟨gb227,1,none⟩) (Kd.R_far (p:=⟨gb227,0,none⟩) (Kd.R_types HO_234001.out BK227.out (by decide)) (fun _ hk=>hk.2) (.int .i64 x234000_1)) (fun _ hk=>hk.2) (.slice Ao27 x234001_1.length co27)) (fun _ hk=>trivial),za2 HB GE227 GE233⟩
end Go.Proofs.Ytjccnaklodbbfaa.Print
