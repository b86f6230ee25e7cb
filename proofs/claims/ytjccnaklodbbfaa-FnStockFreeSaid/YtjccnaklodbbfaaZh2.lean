-- Written by squeeze.py, a program of this session, out of what print.sh and myprint.py had printed: cut to what is used, narrowed. Not trusted, Lean checks it.
import Derived.Test.YtjccnaklodbbfaaZK
import Derived.Test.YtjccnaklodbbfaaZh0
import Derived.Test.YtjccnaklodbbfaaZh1
namespace Go.Proofs.Ytjccnaklodbbfaa.Print
open Go.RowKit Go.Proofs.YtjccnaklodbbfaaW.PrintWords Go.Proofs.YtjccnaklodbbfaaW.PrintLast Go.Proofs.YtjccnaklodbbfaaW.PrintMore
attribute [local go_sem] max2_int min2_int max_two min_two max_three min_three max_four min_four
set_option linter.unusedVariables false
set_option linter.unusedSimpArgs false
def impl_StockOf.l0:Nat→List (S62)→Bool→Int→Int→List (S46)→Option (Int × (List (S46)) × Bool)
 |0,_,_,_,_,_=>none
 |k+1,x1,x7,x8,x249000,x249001=>if x7=true then(if x8<(x1.length:Int) then(if 0≤x8 then((impl_StockDo.f k x249000 x249001 ((rd_T62 x1 x8).f0) ((rd_T62 x1 x8).f1) ((rd_T62 x1 x8).f2)).bind fun bt250=>(impl_StockOf.l0 k x1 bt250.2.2 (wrap64 (x8+1)) bt250.1 bt250.2.1)) else(none)) else(some (x249000,x249001,x7))) else(some (x249000,x249001,x7))
def impl_StockOf.f (k:Nat) (a0:Int) (l1:List (S62)):Option (Int × (List (S46)) × Bool):=(impl_StockNew.f a0).bind fun bt243=>(impl_StockOf.l0 k l1 bt243.2.2 0 bt243.1 bt243.2.1)
theorem impl_StockOf.mono_l:∀k,(∀y0 y1 y2 y3 y4,LeO (impl_StockOf.l0 k y0 y1 y2 y3 y4) (impl_StockOf.l0 (k+1) y0 y1 y2 y3 y4))
 |0=>fun _ _ _ _ _ r h=>by simp[impl_StockOf.l0] at h
 |k+1=>by
  have ih0:=impl_StockOf.mono_l k
  ·intro y0 y1 y2 y3 y4
   unfold impl_StockOf.l0
   repeat' first
   |(with_reducible exact ih0 _ _ _ _ _)
   |(with_reducible exact impl_StockDo.mono _ _ _ _ _ _)
   |(with_reducible exact LeO.refl _)
   |(with_reducible exact LeO.none _)
   |(with_reducible refine LeO.ite ?_ ?_)
   |(with_reducible refine LeO.bind ?_ (fun _=>?_))
   |exact ih0 _ _ _ _ _
   |exact impl_StockDo.mono _ _ _ _ _ _
   |exact LeO.none _
   |refine LeO.ite ?_ ?_
   |refine LeO.bind ?_ (fun _=>?_)
theorem impl_StockOf.mono:∀a0 a1 k,LeO (impl_StockOf.f k a0 a1) (impl_StockOf.f (k+1) a0 a1):=by
 intro a0 a1 k
 have ih0:=impl_StockOf.mono_l k
 unfold impl_StockOf.f
 repeat' first
   |(with_reducible exact ih0 _ _ _ _ _)
   |(with_reducible exact impl_StockDo.mono _ _ _ _ _ _)
   |(with_reducible exact LeO.refl _)
   |(with_reducible exact LeO.none _)
   |(with_reducible refine LeO.ite ?_ ?_)
   |(with_reducible refine LeO.bind ?_ (fun _=>?_))
   |exact ih0 _ _ _ _ _
   |exact impl_StockDo.mono _ _ _ _ _ _
   |exact LeO.none _
   |refine LeO.ite ?_ ?_
   |refine LeO.bind ?_ (fun _=>?_)
def impl_StockOf.T5:Bool × List (List Nat × List Nat):=(true,[([],[]),([],[]),([],[]),([1,2],[1,2]),([3],[3]),([0,4],[0,4]),([5],[5]),([6],[6]),([6],[6]),([7,5,0,1,2,3,4,5,6,7],[7]),([8,9,0,1,2,3,4,5,6,7,8,9],[8])])
def impl_StockOf.B5:List Nat:=[0,0,0,6,14,31,63,127,127,255,1023]
theorem impl_StockOf.tab5:rtab .any (opsOf Try.f24 5)=impl_StockOf.T5:=by kernel_rfl
theorem impl_StockOf.bits5:waitsOk impl_StockOf.T5.2 impl_StockOf.B5=true:=by kernel_rfl
set_option maxHeartbeats 8000000 in
set_option maxRecDepth 100000 in
theorem impl_StockOf.calls (k:Nat) (a0:Int) (A1:Option Addr) (c1:Nat) (l1:List (S62)) (r1:Int) (r2:List (S46)) (r3:Bool) (w:World) (hr1:Kd.C k62 w A1 l1.length l1) (hc1:l1.length≤c1) (h:impl_StockOf.f k a0 l1=some (r1,r2,r3)) :
  Calls Try.prog 24 #[.int .i64 a0,.slice A1 l1.length c1] w fun e w'=>∃v1_:Value,e=.returned (.tuple #[.agg #[.int .i64 r1,v1_],.bool r3])∧Kd.R k46 46 w' w.heap.size (fun _=>True) v1_ r2∧Below w.heap.size w w':=by
 have hu36:=Try.underlying36
 have hu62:=Try.underlying62
 have HR1:=qal.mk hr1
 have HC1:=qal.mk hc1
 clear hr1 hc1
 have HB:=qal.mk (Below.refl w.heap.size w)
 have H:((impl_StockNew.f a0).bind fun bt243=>(impl_StockOf.l0 k l1 bt243.2.2 0 bt243.1 bt243.2.1))=some (r1,r2,r3):=h
 clear h
 replace H:=Option.bind_eq_some_iff.mp H
 obtain⟨⟨t243,t244,t247⟩,A30,H⟩:=H
 replace H:(impl_StockOf.l0 k l1 t247 0 t243 t244)=some (r1,r2,r3):=H
 have A3:=qal.mk A30
 clear A30
 have H':=qal.mk H
 clear H
 go_enter Try.func24,Try.ntmps24
 go_wp2_with(first|((with_reducible refine qak (N:=4) rfl ?_);(try(refine qbc (by rfl) ?_;dsimp only));refine qaj ?hg (N:=4) ?hd (cs:=#[.int .i64 0,.slice none 0 0]) (t:=36) ?hr ?_;(case hd=>rfl);(case hg=>rfl);(case hr=>first|(go_simp;done)|(go_simp;rfl));intro gb242 hg w4 hbox hb;have n0_:=qal.mk (qae (za2 HB) hb);have n1_:=qal.mk (hbox);have n2_:=qal.mk ((by rw[hg];exact(qad (za2 HB)):w.heap.size≤gb242));have n3_:=qal.mk ((by rw[hg];exact(qad (za2 HB)):w.heap.size≤gb242));clear HB;have HB:=n0_;have BK242:=n1_;have GW242:=n2_;have GE242:=n3_;clear n0_ n1_ n2_ n3_;clear hb hbox hg)|((with_reducible refine qai (f:=22) rfl ?_);refine qau (some 11) rfl rfl Try.func22 (by kernel_rfl) rfl #[.int .i64 a0] rfl (by(try simp only[List.map_toArray,List.map_cons,List.map_nil]);first|done|rfl|(simp only[List.length_drop,List.length_take];rfl)) ?_;(with_reducible refine(impl_StockNew.calls a0 t243 t244 t247 _ A3.out).mono ?_);rintro e w5 ⟨v245,rfl,ho0,hb⟩;refine⟨_,rfl,?_⟩;have n0_:=qal.mk (Kd.R_lower ho0 (qad (za1 HB GE242)));have n1_:=qal.mk (qac (g:=gb242) (o:=.cells #[.int .i64 0,.slice none 0 0] 36 (0,0)) (za0 BK242) hb);have n2_:=qal.mk (qae (za1 HB GE242) hb);clear BK242;clear HB;have HO246:=n0_;have BK242:=n1_;have HB:=n2_;clear n0_ n1_ n2_;(try clear hb);(try clear hb2);(try clear hk);(try clear hi);(try clear ho0))|((with_reducible refine qak (N:=6) rfl ?_);(try(refine qbc (by rfl) ?_;dsimp only));refine qaj ?hg (N:=6) ?hd (cs:=#[.int .i64 0,.slice none 0 0]) (t:=36) ?hr ?_;(case hd=>rfl);(case hg=>rfl);(case hr=>first|(go_simp;done)|(go_simp;rfl));intro gb248 hg w6 hbox hb;have n0_:=qal.mk (Kd.R_below (za4 HO246) hb);have n1_:=qal.mk (qac (g:=gb242) (o:=.cells #[.int .i64 0,.slice none 0 0] 36 (0,0)) (za0 BK242) hb);have n2_:=qal.mk (qae (za1 HB GE242) hb);have n3_:=qal.mk (hbox);have n4_:=qal.mk ((by rw[hg];exact(qad (za1 HB GE242)):w.heap.size≤gb248));have n5_:=qal.mk ((by rw[hg];exact(qad (za1 HB GE242)):w.heap.size≤gb248));have n6_:=qal.mk ((by rw[hg];exact Nat.ne_of_lt (qao (g:=gb242) (o:=.cells #[.int .i64 0,.slice none 0 0] 36 (0,0)) (za0 BK242)):gb242≠gb248));have n7_:=qal.mk ((by rw[hg];exact Nat.ne_of_gt (qao (g:=gb242) (o:=.cells #[.int .i64 0,.slice none 0 0] 36 (0,0)) (za0 BK242)):gb248≠gb242));clear HO246;clear BK242;clear HB;have HO246:=n0_;have BK242:=n1_;have HB:=n2_;have BK248:=n3_;have GW248:=n4_;have GE248:=n5_;have NB242_248:=n6_;have NB248_242:=n7_;clear n0_ n1_ n2_ n3_ n4_ n5_ n6_ n7_;clear hb hbox hg;have hnb7:=NB248_242.out;have hnc7:=NB242_248.out;have hcz8_0:w6.cell? ⟨gb248,0,none⟩=some (.int .i64 0):=(qab BK248.out 0).trans rfl;have hcz8_1:w6.cell? ⟨gb248,1,none⟩=some (.slice none 0 0):=(qab BK248.out 1).trans rfl;have hfz8_0:=qaa BK248.out 0;have hfz8_1:=qaa BK248.out 1;obtain⟨Ao9,co9,eo9⟩:=Kd.R_slice HO246.out;subst eo9))
 go_loopg [7,8] k (fun kq v7 v8 w'=>∃(x7_1:Bool) (x8_1:Int) (x249000_1:Int) (x249001_1:List (S46)) (u249001:Value),v7=.bool x7_1∧v8=.int .i64 x8_1∧qal (impl_StockOf.l0 kq l1 x7_1 x8_1 x249000_1 x249001_1=some (r1,r2,r3))∧qal (kq≤k)∧qal (Kd.R k46 46 w' w.heap.size (fun _=>True) u249001 x249001_1)∧qal (w'.heap[gb242]?=some (.cells #[.int .i64 0,(.slice none 0 0)] 36 (0,0)))∧qal (w'.heap[gb248]?=some (.cells #[.int .i64 x249000_1,u249001] 36 (0,0)))∧qal (Below w.heap.size w w'))
 case atStart=>exact⟨(t247),(0),(t243),(t244),(.slice Ao9 t244.length co9),(za22),(za22),H',⟨Nat.le_refl _⟩,⟨by(with_reducible repeat(first|apply Kd.R_alloc|apply Kd.R_drewN|apply Kd.R_drew));exact Kd.R_mono (Kd.R_far (p:=⟨gb248,1,none⟩) (Kd.R_far (p:=⟨gb248,0,none⟩) (Kd.R_types HO246.out BK248.out (by decide)) (fun _ hk=>hk.2) (.int .i64 t243)) (fun _ hk=>hk.2) (.slice Ao9 t244.length co9)) (fun _ hk=>trivial)⟩,⟨za5 NB242_248 BK242⟩,⟨by(with_reducible repeat(first|refine qag ?_ _|refine qah ?_|refine qaf ?_ _));refine qan (cs:=#[.int .i64 t243,.slice none 0 0]) ?_ 1 _ rfl;(with_reducible repeat(first|refine qag ?_ _|refine qah ?_|refine qaf ?_ _));refine qan (cs:=#[.int .i64 0,.slice none 0 0]) ?_ 0 _ rfl;(with_reducible repeat(first|refine qag ?_ _|refine qah ?_|refine qaf ?_ _));exact BK248.out⟩,⟨za3 HB GE242 GE248⟩⟩
 case round=>
  clear H'
  try clear c1
  try clear c2
  try clear p2
  try clear c7
  try clear hcz8_0
  try clear hcz8_1
  try clear hfz8_0
  try clear hfz8_1
  obtain⟨x7_1,x8_1,x249000_1,x249001_1,u249001,rfl,rfl,HA,HK1,HO_249001,BK242,BK248,HB⟩:=hrel
  cases gk with
  |zero=>exact absurd HA.out (by simp[impl_StockOf.l0])
  |succ k1=>
   have H:=HA.out
   clear HA
   simp only[impl_StockOf.l0] at H
   by_cases c10:x7_1=true
   ·subst c10
    have H1:(if x8_1<(l1.length:Int) then(if 0≤x8_1 then((impl_StockDo.f k1 x249000_1 x249001_1 ((rd_T62 l1 x8_1).f0) ((rd_T62 l1 x8_1).f1) ((rd_T62 l1 x8_1).f2)).bind fun bt250=>(impl_StockOf.l0 k1 l1 bt250.2.2 (wrap64 (x8_1+1)) bt250.1 bt250.2.1)) else(none)) else(some (x249000_1,x249001_1,true)))=some (r1,r2,r3):=by rw[if_pos rfl] at H;exact H
    clear H
    have H:=H1
    clear H1
    by_cases c11:x8_1<(l1.length:Int)
    ·rw[if_pos c11] at H
     have c11b0:decide (x8_1<(l1.length:Int))=true:=decide_eq_true c11
     clear c11
     by_cases c12:0≤x8_1
     ·rw[if_pos c12] at H
      have c12b0:decide (0≤x8_1)=true:=decide_eq_true c12
      clear c12
      replace H:=Option.bind_eq_some_iff.mp H
      obtain⟨⟨t250,t251,t254⟩,A130,H⟩:=H
      replace H:(impl_StockOf.l0 k1 l1 t254 (wrap64 (x8_1+1)) t250 t251)=some (r1,r2,r3):=H
      have A13:=qal.mk A130
      clear A130
      have H':=qal.mk H
      clear H
      try go_wp2
      have n0_:=qal.mk (Kd.R_drew HO_249001.out)
      have n1_:=qal.mk (qah BK242.out)
      have n2_:=qal.mk (qah BK248.out)
      have n3_:=qal.mk (qaq HB.out)
      clear HO_249001
      clear BK242
      clear BK248
      clear HB
      have HO_249001:=n0_
      have BK242:=n1_
      have BK248:=n2_
      have HB:=n3_
      clear n0_ n1_ n2_ n3_
      have p249:0≤(x8_1:Int):=of_decide_eq_true (za8)
      have q249:x8_1<(l1.length:Int):=of_decide_eq_true (za8)
      obtain⟨ad249,A249_2,c249_2,e249,hx249_0,hx249_1,hx249_2,hl249_2,hi249_2⟩:=at_T62 HR1.out x8_1 p249 q249
      have hw249_2:=hx249_2
      have hw249_1:=hx249_1
      have hw249_0:=hx249_0
      cases e249
      have hxo249_2:=qal.mk hx249_2
      replace hx249_0:=(HB.out.cell (World.block_lt_of_cell? w _ hx249_0)).trans hx249_0
      replace hx249_1:=(HB.out.cell (World.block_lt_of_cell? w _ hx249_1)).trans hx249_1
      replace hx249_2:=(HB.out.cell (World.block_lt_of_cell? w _ hx249_2)).trans hx249_2
      have HR249_2:=qal.mk hi249_2
      have HC249_2:=qal.mk hl249_2
      clear hi249_2 hl249_2
      replace p249:=eq_true p249
      replace q249:=eq_true q249
      obtain⟨Ao15,co15,eo15⟩:=Kd.R_slice HO_249001.out
      (first|subst eo15|(injection eo15 with f1_ f2_ f3_;have f4_:=f1_.symm;have f5_:=f3_.symm;clear f1_ f2_ f3_;subst f4_;subst f5_))
      refine start_ (n:=11) (S:=fun w'=>w'.cell? ⟨gb248,0,none⟩=some (.int .i64 x249000_1)∧w'.cell? ⟨gb248,1,none⟩=some (.slice Ao15 x249001_1.length co15)∧w'.cell? (ad249.add ((x8_1).toNat*3))=some (.int .i64 ((rd_T62 l1 x8_1).f0))∧w'.cell? ⟨(ad249.add ((x8_1).toNat*3)).block,(ad249.add ((x8_1).toNat*3)).off+1,none⟩=some (.int .i64 ((rd_T62 l1 x8_1).f1))∧w'.cell? ⟨(ad249.add ((x8_1).toNat*3)).block,(ad249.add ((x8_1).toNat*3)).off+2,none⟩=some (.slice A249_2 ((rd_T62 l1 x8_1).f2).length c249_2)) (ds:=[9]) #[false,false,false,false,false,false,false,false,false,false,false] (by kernel_rfl) rfl rfl ⟨(qab BK248.out 0).trans rfl,(qab BK248.out 1).trans rfl,((HB.out.cell (World.block_lt_of_cell? w _ hw249_0)).trans hw249_0),((HB.out.cell (World.block_lt_of_cell? w _ hw249_1)).trans hw249_1),((HB.out.cell (World.block_lt_of_cell? w _ hw249_2)).trans hw249_2)⟩ (fun hHeld=>?_);refine with_tabW impl_StockOf.tab5 impl_StockOf.bits5 (fun HT_ HW_=>?_)
      generalize wr.drew=w14 at HO_249001 BK242 BK248 HB HR249_2 hx249_0 hx249_1 hx249_2 hHeld ⊢
      refine qaz (i:=1) (N:=some 25) (v:=?_) (a':=?_) #[false,true,false,false,false,false,false,false,false,false,false] rfl rfl (qax HT_.out (by kernel_rfl)) (fun _ _ _ h=>h) (Or.inl ⟨by rfl,?_⟩) ?_ ?_
      rotate_left
      ·intro w'
       go_simp
       with_reducible rfl
      rotate_left
      ·simp only[Act.put,List.setIfInBounds_toArray,List.set_cons_zero,List.set_cons_succ,qas,qat]
       rfl
      refine qaz (i:=2) (N:=some 26) (v:=?_) (a':=?_) #[false,true,true,false,false,false,false,false,false,false,false] rfl rfl (qax HT_.out (by kernel_rfl)) (fun _ _ _ h=>h) (Or.inl ⟨by rfl,?_⟩) ?_ ?_
      rotate_left
      ·intro w'
       go_simp
       with_reducible rfl
      rotate_left
      ·simp only[Act.put,List.setIfInBounds_toArray,List.set_cons_zero,List.set_cons_succ,qas,qat]
       rfl
      refine qaz (i:=3) (N:=some 27) (v:=?_) (a':=?_) #[false,true,true,true,false,false,false,false,false,false,false] rfl rfl (qax HT_.out (by kernel_rfl)) (fun _ _ _ h=>h) (Or.inl ⟨by rfl,?_⟩) ?_ ?_
      rotate_left
      ·intro w'
       go_simp
       with_reducible rfl
      rotate_left
      ·simp only[Act.put,List.setIfInBounds_toArray,List.set_cons_zero,List.set_cons_succ,qas,qat]
       rfl
      refine take_ (i:=0) (N:=some 24) (v:=?_) (a':=?_) #[true,true,true,true,false,false,false,false,false,false,false] rfl rfl (take_ofW HT_.out HW_.out (by kernel_rfl)) (fun _ _ _ h=>h) (Or.inl ⟨by rfl,?_⟩) hHeld ?_ ?_
      rotate_left
      ·rintro w' ⟨s0,s1,s2,s3,s4⟩
       go_simp
       with_reducible rfl
      rotate_left
      ·simp only[Act.put,List.setIfInBounds_toArray,List.set_cons_zero,List.set_cons_succ,qas,qat]
       rfl
      refine take_ (i:=4) (N:=some 28) (v:=?_) (a':=?_) #[true,true,true,true,true,false,false,false,false,false,false] rfl rfl (take_ofW HT_.out HW_.out (by kernel_rfl)) (fun _ _ _ h=>h) (Or.inl ⟨by rfl,?_⟩) hHeld ?_ ?_
      rotate_left
      ·rintro w' ⟨s0,s1,s2,s3,s4⟩
       go_simp
       with_reducible rfl
      rotate_left
      ·simp only[Act.put,List.setIfInBounds_toArray,List.set_cons_zero,List.set_cons_succ,qas,qat]
       rfl
      refine one_ (i:=5) (N:=some 29) #[true,true,true,true,true,true,false,false,false,false,false] rfl rfl (one_of HT_.out (by kernel_rfl)) (by decide) (fun K hK=>?_)
      refine goes_ Try.func66 (by kernel_rfl) rfl #[.agg #[.int .i64 x249000_1,.slice Ao15 x249001_1.length co15],.agg #[.int .i64 ((rd_T62 l1 x8_1).f0),.int .i64 ((rd_T62 l1 x8_1).f1),.slice A249_2 ((rd_T62 l1 x8_1).f2).length c249_2]] (by rfl) rfl rfl (by(try simp only[List.map_toArray,List.map_cons,List.map_nil]);first|done|rfl|(simp only[List.length_drop,List.length_take];rfl)) ?_
      with_reducible refine(impl_StockDo.calls k1 x249000_1 _ _ x249001_1 ((rd_T62 l1 x8_1).f0) ((rd_T62 l1 x8_1).f1) _ _ ((rd_T62 l1 x8_1).f2) t250 t251 t254 _ ?side1 ?side2 ?side3 ?side4 A13.out).mono ?_
      (case side1=>repeat(first|exact(Kd.R_reads' HO_249001.out).2.2|(with_reducible refine Kd.C_alloc ?_ _)|(with_reducible refine Kd.C_drewN ?_ _)|(with_reducible refine Kd.C_drew ?_)))
      (case side2=>exact(Kd.R_reads' HO_249001.out).2.1)
      (case side3=>repeat(first|exact(Kd.C_below HR249_2.out HB.out)|(with_reducible refine Kd.C_alloc ?_ _)|(with_reducible refine Kd.C_drewN ?_ _)|(with_reducible refine Kd.C_drew ?_)))
      (case side4=>exact HC249_2.out)
      rintro e w16 ⟨v252,rfl,ho0,hb⟩
      refine⟨_,rfl,?_⟩
      have n0_:=qal.mk (Kd.R_elder' (za4 HO_249001) (Kd.R_base ho0) hb)
      have n1_:=qal.mk (Kd.R_lower (Kd.R_new' ho0 (Kd.R_lt (za4 HO_249001))) (qad (za3 HB GE242 GE248)))
      have n2_:=qal.mk (qac (g:=gb242) (o:=.cells #[.int .i64 0,.slice none 0 0] 36 (0,0)) (za0 BK242) hb)
      have n3_:=qal.mk (qac (g:=gb248) (o:=.cells #[.int .i64 x249000_1,.slice Ao15 x249001_1.length co15] 36 (0,0)) (za0 BK248) hb)
      have n4_:=qal.mk (qae (za3 HB GE242 GE248) hb)
      clear HO_249001
      clear BK242
      clear BK248
      clear HB
      have HO_249001:=n0_
      have HO253:=n1_
      have BK242:=n2_
      have BK248:=n3_
      have HB:=n4_
      clear n0_ n1_ n2_ n3_ n4_
      (try clear hb)
      (try clear hb2)
      (try clear hk)
      (try clear hi)
      (try clear ho0)
      obtain⟨Ao18,co18,eo18⟩:=Kd.R_slice HO253.out
      (first|subst eo18|(injection eo18 with f1_ f2_ f3_;have f4_:=f1_.symm;have f5_:=f3_.symm;clear f1_ f2_ f3_;subst f4_;subst f5_))
      refine hK.out _ _ ⟨(qab BK248.out 0).trans rfl,(qab BK248.out 1).trans rfl,((HB.out.cell (World.block_lt_of_cell? w _ hw249_0)).trans hw249_0),((HB.out.cell (World.block_lt_of_cell? w _ hw249_1)).trans hw249_1),((HB.out.cell (World.block_lt_of_cell? w _ hw249_2)).trans hw249_2)⟩ (fun hHeld=>?_)
      clear hK K
      refine norm_ (a':=?_) ?_ ?_
      rotate_left
      ·show Act.put _ (some 29) _=_
       simp only[Act.put,List.setIfInBounds_toArray,List.set_cons_zero,List.set_cons_succ,qas,qat]
       rfl
      refine qaz (i:=6) (N:=some 23) (v:=?_) (a':=?_) #[true,true,true,true,true,true,true,false,false,false,false] rfl rfl (qax HT_.out (by kernel_rfl)) (fun _ _ _ h=>h) (Or.inl ⟨by rfl,?_⟩) ?_ ?_
      rotate_left
      ·intro w'
       go_simp
       with_reducible rfl
      rotate_left
      ·simp only[Act.put,List.setIfInBounds_toArray,List.set_cons_zero,List.set_cons_succ,qas,qat]
       rfl
      refine qaz (i:=7) (N:=some 30) (v:=?_) (a':=?_) #[true,true,true,true,true,true,true,true,false,false,false] rfl rfl (qax HT_.out (by kernel_rfl)) (fun _ _ _ h=>h) (Or.inl ⟨by rfl,?_⟩) ?_ ?_
      rotate_left
      ·intro w'
       go_simp
       with_reducible rfl
      rotate_left
      ·simp only[Act.put,List.setIfInBounds_toArray,List.set_cons_zero,List.set_cons_succ,qas,qat]
       rfl
      refine qaz (i:=8) (N:=some 31) (v:=?_) (a':=?_) #[true,true,true,true,true,true,true,true,true,false,false] rfl rfl (qax HT_.out (by kernel_rfl)) (fun _ _ _ h=>h) (Or.inl ⟨by rfl,?_⟩) ?_ ?_
      rotate_left
      ·intro w'
       go_simp
       with_reducible rfl
      rotate_left
      ·simp only[Act.put,List.setIfInBounds_toArray,List.set_cons_zero,List.set_cons_succ,qas,qat]
       rfl
      refine last_ (i:=9) (N:=none) #[true,true,true,true,true,true,true,true,true,true,false] rfl rfl (one_of HT_.out (by kernel_rfl)) (by decide) (fun K hK=>?_)
      have hs17:w16.cell? ⟨gb248,0,none⟩=some (.int .i64 x249000_1):=(qab BK248.out 0).trans rfl
      have hfs17:=qaa BK248.out 0
      have hns17_0:=NB242_248.out
      have hms17_0:=NB248_242.out
      have hs19:w16.cell? ⟨gb248,1,none⟩=some (.slice Ao15 x249001_1.length co15):=(qab BK248.out 1).trans rfl
      have hfs19:=qaa BK248.out 1
      have hns19_0:=NB242_248.out
      have hms19_0:=NB248_242.out
      refine skip_ (w1:=?_) (by rfl) rfl ?_ ?_
      rotate_left
      ·go_simp
       rfl
      refine hK.out _ _ ?_
      clear hK K
      refine qaz (i:=10) (N:=some 7) (v:=?_) (a':=?_) #[true,true,true,true,true,true,true,true,true,true,true] rfl rfl (qax HT_.out (by kernel_rfl)) (fun _ _ _ h=>h) (Or.inl ⟨by rfl,?_⟩) ?_ ?_
      rotate_left
      ·intro w'
       go_simp
       with_reducible rfl
      rotate_left
      ·simp only[Act.put,List.setIfInBounds_toArray,List.set_cons_zero,List.set_cons_succ,qas,qat]
       rfl
      refine done_ (done_of HT_.out (by kernel_rfl)) ?_
      try go_wp2
      go_roundg k1
      case measure=>have:=HK1.out;omega
      case rel=>exact⟨(t254),(wrap64 (x8_1+1)),(t250),(t251),(.slice Ao18 t251.length co18),(za22),(za22),H',⟨by have:=HK1.out;omega⟩,⟨by(with_reducible repeat(first|apply Kd.R_alloc|apply Kd.R_drewN|apply Kd.R_drew));exact Kd.R_mono (Kd.R_far (p:=⟨gb248,1,none⟩) (Kd.R_far (p:=⟨gb248,0,none⟩) (Kd.R_types HO253.out BK248.out (by decide)) (fun _ hk=>hk.2) (.int .i64 t250)) (fun _ hk=>hk.2) (.slice Ao18 t251.length co18)) (fun _ hk=>trivial)⟩,⟨za5 NB242_248 BK242⟩,⟨by(with_reducible repeat(first|refine qag ?_ _|refine qah ?_|refine qaf ?_ _));refine qan (cs:=#[.int .i64 t250,.slice Ao15 x249001_1.length co15]) ?_ 1 _ rfl;(with_reducible repeat(first|refine qag ?_ _|refine qah ?_|refine qaf ?_ _));refine qan (cs:=#[.int .i64 x249000_1,.slice Ao15 x249001_1.length co15]) ?_ 0 _ rfl;(with_reducible repeat(first|refine qag ?_ _|refine qah ?_|refine qaf ?_ _));exact BK248.out⟩,⟨za3 HB GE242 GE248⟩⟩
     ·rw[if_neg c12] at H
      exact absurd H (by simp)
    ·rw[if_neg c11] at H
     have c11b0:decide (x8_1<(l1.length:Int))=false:=decide_eq_false c11
     clear c11
     simp only[Option.some.injEq,Prod.mk.injEq] at H
     obtain⟨rfl,rfl,rfl⟩:=H
     have hnb20:=NB248_242.out
     have hnc20:=NB242_248.out
     have hcz21_0:wr.cell? ⟨gb248,0,none⟩=some (.int .i64 x249000_1):=(qab BK248.out 0).trans rfl
     have hcz21_1:wr.cell? ⟨gb248,1,none⟩=some (u249001):=(qab BK248.out 1).trans rfl
     have hfz21_0:=qaa BK248.out 0
     have hfz21_1:=qaa BK248.out 1
     have hcz22_0:wr.cell? ⟨gb242,0,none⟩=some (.int .i64 0):=(qab BK242.out 0).trans rfl
     have hcz22_1:wr.cell? ⟨gb242,1,none⟩=some (.slice none 0 0):=(qab BK242.out 1).trans rfl
     have hfz22_0:=qaa BK242.out 0
     have hfz22_1:=qaa BK242.out 1
     obtain⟨Ao23,co23,eo23⟩:=Kd.R_slice HO_249001.out
     subst eo23
     go_wp2
     refine bodyPost_ret (results_ct rfl _ _ gb242 36 #[.int .i64 x249000_1,.slice Ao23 x249001_1.length co23] (0,0) _ rfl (by(with_reducible repeat(first|refine qag ?_ _|refine qah ?_|refine qaf ?_ _));refine qan (cs:=#[.int .i64 x249000_1,.slice none 0 0]) ?_ 1 _ rfl;(with_reducible repeat(first|refine qag ?_ _|refine qah ?_|refine qaf ?_ _));refine qan (cs:=#[.int .i64 0,.slice none 0 0]) ?_ 0 _ rfl;(with_reducible repeat(first|refine qag ?_ _|refine qah ?_|refine qaf ?_ _));exact BK242.out) Try.underlying36 rfl (by kernel_rfl)) rfl ?_
     exact⟨_,za9,by(with_reducible repeat(first|apply Kd.R_alloc|apply Kd.R_drewN|apply Kd.R_drew));exact Kd.R_mono (Kd.R_far (p:=⟨gb242,1,none⟩) (Kd.R_far (p:=⟨gb242,0,none⟩) (Kd.R_types HO_249001.out BK242.out (by decide)) (fun _ hk=>hk.2) (.int .i64 x249000_1)) (fun _ hk=>hk.2) (.slice Ao23 x249001_1.length co23)) (fun _ hk=>trivial),za3 HB GE242 GE248⟩
   ·replace c10:=Bool.eq_false_iff.mpr c10
    subst c10
    have H1:(some (x249000_1,x249001_1,false))=some (r1,r2,r3):=by rw[if_neg (show ¬(false=true) by decide)] at H;exact H
    clear H
    have H:=H1
    clear H1
    simp only[Option.some.injEq,Prod.mk.injEq] at H
    obtain⟨rfl,rfl,rfl⟩:=H
    have hnb24:=NB248_242.out
    have hnc24:=NB242_248.out
    have hcz25_0:wr.cell? ⟨gb248,0,none⟩=some (.int .i64 x249000_1):=(qab BK248.out 0).trans rfl
    have hcz25_1:wr.cell? ⟨gb248,1,none⟩=some (u249001):=(qab BK248.out 1).trans rfl
    have hfz25_0:=qaa BK248.out 0
    have hfz25_1:=qaa BK248.out 1
    have hcz26_0:wr.cell? ⟨gb242,0,none⟩=some (.int .i64 0):=(qab BK242.out 0).trans rfl
    have hcz26_1:wr.cell? ⟨gb242,1,none⟩=some (.slice none 0 0):=(qab BK242.out 1).trans rfl
    have hfz26_0:=qaa BK242.out 0
    have hfz26_1:=qaa BK242.out 1
    obtain⟨Ao27,co27,eo27⟩:=Kd.R_slice HO_249001.out
    subst eo27
    go_wp2
    refine bodyPost_ret (results_ct rfl _ _ gb242 36 #[.int .i64 x249000_1,.slice Ao27 x249001_1.length co27] (0,0) _ rfl (by(with_reducible repeat(first|refine qag ?_ _|refine qah ?_|refine qaf ?_ _));refine qan (cs:=#[.int .i64 x249000_1,.slice none 0 0]) ?_ 1 _ rfl;(with_reducible repeat(first|refine qag ?_ _|refine qah ?_|refine qaf ?_ _));refine qan (cs:=#[.int .i64 0,.slice none 0 0]) ?_ 0 _ rfl;(with_reducible repeat(first|refine qag ?_ _|refine qah ?_|refine qaf ?_ _));exact BK242.out) Try.underlying36 rfl (by kernel_rfl)) rfl ?_
    exact⟨_,za9,by(with_reducible repeat(first|apply Kd.R_alloc|apply Kd.R_drewN|apply Kd.R_drew));exact Kd.R_mono (Kd.R_far (p:=⟨gb242,1,none⟩) (Kd.R_far (p:=⟨gb242,0,none⟩) (Kd.R_types HO_249001.out BK242.out (by decide)) (fun _ hk=>hk.2) (.int .i64 x249000_1)) (fun _ hk=>hk.2) (.slice Ao27 x249001_1.length co27)) (fun _ hk=>trivial),za3 HB GE242 GE248⟩
end Go.Proofs.Ytjccnaklodbbfaa.Print
