-- Written by squeeze.py, a program of this session, out of what print.sh and myprint.py had printed: cut to what is used, narrowed. Not trusted, Lean checks it.
import Derived.Test.YtjccnaklodbbfaaZK
import Derived.Test.YtjccnaklodbbfaaZh2
import Derived.Test.YtjccnaklodbbfaaZq3
namespace Go.Proofs.Ytjccnaklodbbfaa.Print
open Go.RowKit Go.Proofs.YtjccnaklodbbfaaW.PrintWords Go.Proofs.YtjccnaklodbbfaaW.PrintLast Go.Proofs.YtjccnaklodbbfaaW.PrintMore
attribute [local go_sem] max2_int min2_int max_two min_two max_three min_three max_four min_four
set_option linter.unusedVariables false
set_option linter.unusedSimpArgs false
def impl_House_stock.f (k:Nat) (a0_0:Int) (a0_1:Bool) (a0_2:Int) (l0_3:List (S62)) (a0_4:Int) (a1:Bool):Option (Int × (List (S46))):=(impl_Log_known.f l0_3 a0_4 a1).bind fun t537=>((impl_StockOf.f k a0_2 t537).bind fun bt540=>(some (bt540.1,bt540.2.1)))
theorem impl_House_stock.mono:∀a0 a1 a2 a3 a4 a5 k,LeO (impl_House_stock.f k a0 a1 a2 a3 a4 a5) (impl_House_stock.f (k+1) a0 a1 a2 a3 a4 a5):=by
 intro a0 a1 a2 a3 a4 a5 k
 unfold impl_House_stock.f
 repeat' first
   |(with_reducible exact impl_StockOf.mono _ _ _)
   |(with_reducible exact LeO.refl _)
   |(with_reducible exact LeO.none _)
   |(with_reducible refine LeO.ite ?_ ?_)
   |(with_reducible refine LeO.bind ?_ (fun _=>?_))
   |exact impl_StockOf.mono _ _ _
   |exact LeO.none _
   |refine LeO.ite ?_ ?_
   |refine LeO.bind ?_ (fun _=>?_)
def impl_House_stock.T1:Bool × List (List Nat × List Nat):=(true,[([],[]),([0],[0]),([],[]),([2],[2]),([],[]),([3,4],[3,4]),([1,5,5],[1,5]),([6],[6]),([7],[7]),([7],[7]),([],[]),([10,8,6,0,1,2,3,4,5,6,7,8,10],[8,10]),([9,11,0,1,2,3,4,5,6,7,8,9,10,11],[9])])
def impl_House_stock.B1:List Nat:=[0,1,0,4,0,28,63,127,255,255,0,1535,4095]
theorem impl_House_stock.tab1:rtab .any (opsOf Try.f76 1)=impl_House_stock.T1:=by kernel_rfl
theorem impl_House_stock.bits1:waitsOk impl_House_stock.T1.2 impl_House_stock.B1=true:=by kernel_rfl
set_option maxHeartbeats 8000000 in
set_option maxRecDepth 100000 in
theorem impl_House_stock.calls (k:Nat) (a0_0:Int) (a0_1:Bool) (a0_2:Int) (A0_3:Option Addr) (c0_3:Nat) (l0_3:List (S62)) (a0_4:Int) (a1:Bool) (r1:Int) (r2:List (S46)) (w:World) (hr0_3:Kd.C k62 w A0_3 l0_3.length l0_3) (hc0_3:l0_3.length≤c0_3) (h:impl_House_stock.f k a0_0 a0_1 a0_2 l0_3 a0_4 a1=some (r1,r2)) :
  Calls Try.prog 76 #[.agg #[.int .i64 a0_0,.bool a0_1,.int .i64 a0_2,.slice A0_3 l0_3.length c0_3,.int .i64 a0_4],.bool a1] w fun e w'=>∃v1_:Value,e=.returned (.agg #[.int .i64 r1,v1_])∧Kd.R k46 46 w' w.heap.size (fun _=>True) v1_ r2∧Below w.heap.size w w':=by
 have hu26:=Try.underlying26
 have hu36:=Try.underlying36
 have hu24:=Try.underlying24
 have HR0_3:=qal.mk hr0_3
 have HC0_3:=qal.mk hc0_3
 clear hr0_3 hc0_3
 have HB:=qal.mk (Below.refl w.heap.size w)
 have H:((impl_Log_known.f l0_3 a0_4 a1).bind fun t537=>((impl_StockOf.f k a0_2 t537).bind fun bt540=>(some (bt540.1,bt540.2.1))))=some (r1,r2):=h
 clear h
 replace H:=Option.bind_eq_some_iff.mp H
 obtain⟨t537,A30,H⟩:=H
 replace H:((impl_StockOf.f k a0_2 t537).bind fun bt540=>(some (bt540.1,bt540.2.1)))=some (r1,r2):=H
 have A3:=qal.mk A30
 clear A30
 replace H:=Option.bind_eq_some_iff.mp H
 obtain⟨⟨t540,t541,t544⟩,A40,H⟩:=H
 replace H:(some (t540,t541))=some (r1,r2):=H
 have A4:=qal.mk A40
 clear A40
 simp only[Option.some.injEq,Prod.mk.injEq] at H
 obtain⟨rfl,rfl⟩:=H
 go_enter Try.func76,Try.ntmps76
 try go_wp2_with(first|((with_reducible refine qak (N:=2) rfl ?_);refine qaj ?hg (N:=2) ?hd (cs:=#[.int .i64 a0_0,.bool a0_1,.int .i64 a0_2,.slice A0_3 l0_3.length c0_3,.int .i64 a0_4]) (t:=26) ?hr ?_;(case hd=>rfl);(case hg=>rfl);(case hr=>first|(go_simp;done)|(go_simp;rfl));intro gb535 hg w5 hbox hb;have n0_:=qal.mk (qae (za2 HB) hb);have n1_:=qal.mk (hbox);have n2_:=qal.mk ((by rw[hg];exact(qad (za2 HB)):w.heap.size≤gb535));have n3_:=qal.mk ((by rw[hg];exact(qad (za2 HB)):w.heap.size≤gb535));clear HB;have HB:=n0_;have BK535:=n1_;have GW535:=n2_;have GE535:=n3_;clear n0_ n1_ n2_ n3_;clear hb hbox hg)|((with_reducible refine qak (N:=4) rfl ?_);refine qaj ?hg (N:=4) ?hd (cs:=#[.int .i64 0,.slice none 0 0]) (t:=36) ?hr ?_;(case hd=>rfl);(case hg=>rfl);(case hr=>first|(go_simp;done)|(go_simp;rfl));intro gb536 hg w6 hbox hb;have n0_:=qal.mk (qac (g:=gb535) (o:=.cells #[.int .i64 a0_0,.bool a0_1,.int .i64 a0_2,.slice A0_3 l0_3.length c0_3,.int .i64 a0_4] 26 (0,0)) (za0 BK535) hb);have n1_:=qal.mk (qae (za1 HB GE535) hb);have n2_:=qal.mk (hbox);have n3_:=qal.mk ((by rw[hg];exact(qad (za1 HB GE535)):w.heap.size≤gb536));have n4_:=qal.mk ((by rw[hg];exact(qad (za1 HB GE535)):w.heap.size≤gb536));have n5_:=qal.mk ((by rw[hg];exact Nat.ne_of_lt (qao (g:=gb535) (o:=.cells #[.int .i64 a0_0,.bool a0_1,.int .i64 a0_2,.slice A0_3 l0_3.length c0_3,.int .i64 a0_4] 26 (0,0)) (za0 BK535)):gb535≠gb536));have n6_:=qal.mk ((by rw[hg];exact Nat.ne_of_gt (qao (g:=gb535) (o:=.cells #[.int .i64 a0_0,.bool a0_1,.int .i64 a0_2,.slice A0_3 l0_3.length c0_3,.int .i64 a0_4] 26 (0,0)) (za0 BK535)):gb536≠gb535));clear BK535;clear HB;have BK535:=n0_;have HB:=n1_;have BK536:=n2_;have GW536:=n3_;have GE536:=n4_;have NB535_536:=n5_;have NB536_535:=n6_;clear n0_ n1_ n2_ n3_ n4_ n5_ n6_;clear hb hbox hg))
 have n0_:=qal.mk (qah BK535.out)
 have n1_:=qal.mk (qah BK536.out)
 have n2_:=qal.mk (qaq HB.out)
 clear BK535
 clear BK536
 clear HB
 have BK535:=n0_
 have BK536:=n1_
 have HB:=n2_
 clear n0_ n1_ n2_
 refine start_ (n:=13) (S:=fun w'=>w'.cell? ⟨gb535,0,none⟩=some (.int .i64 a0_0)∧w'.cell? ⟨gb535,1,none⟩=some (.bool a0_1)∧w'.cell? ⟨gb535,2,none⟩=some (.int .i64 a0_2)∧w'.cell? ⟨gb535,3,none⟩=some (.slice A0_3 l0_3.length c0_3)∧w'.cell? ⟨gb535,4,none⟩=some (.int .i64 a0_4)) (ds:=[]) #[false,false,false,false,false,false,false,false,false,false,false,false,false] (by kernel_rfl) rfl rfl ⟨(qab BK535.out 0).trans rfl,(qab BK535.out 1).trans rfl,(qab BK535.out 2).trans rfl,(qab BK535.out 3).trans rfl,(qab BK535.out 4).trans rfl⟩ (fun hHeld=>?_);refine with_tabW impl_House_stock.tab1 impl_House_stock.bits1 (fun HT_ HW_=>?_)
 generalize w6.drew=w7 at BK535 BK536 HB hHeld ⊢
 refine qaz (i:=0) (N:=some 8) (v:=?_) (a':=?_) #[true,false,false,false,false,false,false,false,false,false,false,false,false] rfl rfl (qax HT_.out (by kernel_rfl)) (fun _ _ _ h=>h) (Or.inl ⟨by rfl,?_⟩) ?_ ?_
 rotate_left
 ·intro w'
  go_simp
  with_reducible rfl
 rotate_left
 ·simp only[Act.put,List.setIfInBounds_toArray,List.set_cons_zero,List.set_cons_succ,qas,qat]
  rfl
 refine qaz (i:=2) (N:=some 10) (v:=?_) (a':=?_) #[true,false,true,false,false,false,false,false,false,false,false,false,false] rfl rfl (qax HT_.out (by kernel_rfl)) (fun _ _ _ h=>h) (Or.inl ⟨by rfl,?_⟩) ?_ ?_
 rotate_left
 ·intro w'
  go_simp
  with_reducible rfl
 rotate_left
 ·simp only[Act.put,List.setIfInBounds_toArray,List.set_cons_zero,List.set_cons_succ,qas,qat]
  rfl
 refine qaz (i:=4) (N:=some 12) (v:=?_) (a':=?_) #[true,false,true,false,true,false,false,false,false,false,false,false,false] rfl rfl (qax HT_.out (by kernel_rfl)) (fun _ _ _ h=>h) (Or.inl ⟨by rfl,?_⟩) ?_ ?_
 rotate_left
 ·intro w'
  go_simp
  with_reducible rfl
 rotate_left
 ·simp only[Act.put,List.setIfInBounds_toArray,List.set_cons_zero,List.set_cons_succ,qas,qat]
  rfl
 refine take_ (i:=1) (N:=some 9) (v:=?_) (a':=?_) #[true,true,true,false,true,false,false,false,false,false,false,false,false] rfl rfl (take_ofW HT_.out HW_.out (by kernel_rfl)) (fun _ _ _ h=>h) (Or.inl ⟨by rfl,?_⟩) hHeld ?_ ?_
 rotate_left
 ·rintro w' ⟨s0,s1,s2,s3,s4⟩
  go_simp
  with_reducible rfl
 rotate_left
 ·simp only[Act.put,List.setIfInBounds_toArray,List.set_cons_zero,List.set_cons_succ,qas,qat]
  rfl
 refine take_ (i:=3) (N:=some 11) (v:=?_) (a':=?_) #[true,true,true,true,true,false,false,false,false,false,false,false,false] rfl rfl (take_ofW HT_.out HW_.out (by kernel_rfl)) (fun _ _ _ h=>h) (Or.inl ⟨by rfl,?_⟩) hHeld ?_ ?_
 rotate_left
 ·rintro w' ⟨s0,s1,s2,s3,s4⟩
  go_simp
  with_reducible rfl
 rotate_left
 ·simp only[Act.put,List.setIfInBounds_toArray,List.set_cons_zero,List.set_cons_succ,qas,qat]
  rfl
 refine join_ (σ:=Value × Value × Nat) 2 #[true,true,true,true,true,true,true,true,true,true,true,false,false] (fun s_=>[(13,s_.1),(14,.tuple #[.agg #[.int .i64 t540,s_.2.1],.bool t544]),(5,.pointer (some ⟨s_.2.2,0,none⟩)),(7,.tuple #[.agg #[.int .i64 t540,s_.2.1],.bool t544]),(15,.agg #[.int .i64 t540,s_.2.1]),(16,.bool t544)]) (fun s_ w'=>(w'.cell? ⟨gb535,0,none⟩=some (.int .i64 a0_0)∧w'.cell? ⟨gb535,1,none⟩=some (.bool a0_1)∧w'.cell? ⟨gb535,2,none⟩=some (.int .i64 a0_2)∧w'.cell? ⟨gb535,3,none⟩=some (.slice A0_3 l0_3.length c0_3)∧w'.cell? ⟨gb535,4,none⟩=some (.int .i64 a0_4))∧(Kd.V k62 62 w' w.heap.size (fun k_=>some k_≠(s_.2.1:Value).ownBlock∧k_≠gb535∧k_≠gb536∧k_≠s_.2.2) s_.1 t537)∧(Kd.R k46 46 w' w.heap.size (fun _=>True) s_.2.1 t541)∧(w'.heap[gb535]?=some (.cells #[.int .i64 a0_0,.bool a0_1,.int .i64 a0_2,.slice A0_3 l0_3.length c0_3,.int .i64 a0_4] 26 (0,0)))∧(w'.heap[gb536]?=some (.cells #[.int .i64 0,.slice none 0 0] 36 (0,0)))∧(w'.heap[s_.2.2]?=some (.cells #[.int .i64 0,.slice none 0 0] 36 (0,0)))∧(w.heap.size≤s_.2.2)∧(w.heap.size≤s_.2.2)∧(gb535≠s_.2.2)∧(s_.2.2≠gb535)∧(gb536≠s_.2.2)∧(s_.2.2≠gb536)∧(Below w.heap.size w w')) ?_ ?_
 rotate_left
 ·intro hCont
  refine two_ (i:=5) (j:=10) (Ni:=some 13) (Nj:=some 5) #[true,true,true,true,true,true,false,false,false,false,false,false,false] #[true,true,true,true,true,false,false,false,false,false,true,false,false] rfl rfl rfl rfl (two_of HT_.out (by kernel_rfl)) (by decide) (by decide) (fun K hK=>?_) (fun K hK=>?_)
  ·skip
   refine goes_ Try.func111 (by kernel_rfl) rfl #[.agg #[.slice A0_3 l0_3.length c0_3,.int .i64 a0_4],.bool a1] (by rfl) rfl rfl (by(try simp only[List.map_toArray,List.map_cons,List.map_nil]);first|done|rfl|(simp only[List.length_drop,List.length_take];rfl)) ?_
   with_reducible refine(impl_Log_known.calls (fun k_=>k_<w.heap.size) _ _ l0_3 a0_4 a1 t537 _ ?side1 A3.out).mono ?_
   (case side1=>exact Kd.V_mk HC0_3.out (Kd.F_below (Kd.C_F k62_heap HR0_3.out) (za3 HB GE535 GE536)))
   rintro e w8 ⟨v538,rfl,ho0,hb⟩
   refine⟨_,rfl,?_⟩
   have n0_:=qal.mk (Kd.V_lower (Kd.V_mono (ok':=fun k_=>k_≠gb535∧k_≠gb536) ho0 (fun k_ hk_=>⟨Or.elim hk_ (fun hs_=>fun e_=>Nat.not_le.2 hs_ (by rw[e_];exact GW535.out)) (fun hn_=>(Kd.freshB (g:=gb535) (o:=.cells #[.int .i64 a0_0,.bool a0_1,.int .i64 a0_2,.slice A0_3 l0_3.length c0_3,.int .i64 a0_4] 26 (0,0)) (za0 BK535) k_ hn_)),Or.elim hk_ (fun hs_=>fun e_=>Nat.not_le.2 hs_ (by rw[e_];exact GW536.out)) (fun hn_=>(Kd.freshB (g:=gb536) (o:=.cells #[.int .i64 0,.slice none 0 0] 36 (0,0)) (za0 BK536) k_ hn_))⟩)) (qad (za3 HB GE535 GE536)))
   have n1_:=qal.mk (qac (g:=gb535) (o:=.cells #[.int .i64 a0_0,.bool a0_1,.int .i64 a0_2,.slice A0_3 l0_3.length c0_3,.int .i64 a0_4] 26 (0,0)) (za0 BK535) hb)
   have n2_:=qal.mk (qac (g:=gb536) (o:=.cells #[.int .i64 0,.slice none 0 0] 36 (0,0)) (za0 BK536) hb)
   have n3_:=qal.mk (qae (za3 HB GE535 GE536) hb)
   clear BK535
   clear BK536
   clear HB
   have HO539:=n0_
   have BK535:=n1_
   have BK536:=n2_
   have HB:=n3_
   clear n0_ n1_ n2_ n3_
   (try clear hb)
   (try clear hb2)
   (try clear hk)
   (try clear hi)
   (try clear ho0)
   obtain⟨Ao9,co9,eo9⟩:=Kd.V_slice HO539.out
   (first|subst eo9|(injection eo9 with f1_ f2_ f3_;have f4_:=f1_.symm;have f5_:=f3_.symm;clear f1_ f2_ f3_;subst f4_;subst f5_))
   refine hK.out _ _ ⟨(qab BK535.out 0).trans rfl,(qab BK535.out 1).trans rfl,(qab BK535.out 2).trans rfl,(qab BK535.out 3).trans rfl,(qab BK535.out 4).trans rfl⟩ (fun hHeld=>?_)
   clear hK K
   refine norm_ (a':=?_) ?_ ?_
   rotate_left
   ·show Act.put _ (some 13) _=_
    simp only[Act.put,List.setIfInBounds_toArray,List.set_cons_zero,List.set_cons_succ,qas,qat]
    rfl
   refine two_ (i:=6) (j:=10) (Ni:=some 14) (Nj:=some 5) #[true,true,true,true,true,true,true,false,false,false,false,false,false] #[true,true,true,true,true,true,false,false,false,false,true,false,false] rfl rfl rfl rfl (two_of HT_.out (by kernel_rfl)) (by decide) (by decide) (fun K hK=>?_) (fun K hK=>?_)
   ·skip
    refine goes_ Try.func24 (by kernel_rfl) rfl #[.int .i64 a0_2,.slice Ao9 t537.length co9] (by rfl) rfl rfl (by(try simp only[List.map_toArray,List.map_cons,List.map_nil]);first|done|rfl|(simp only[List.length_drop,List.length_take];rfl)) ?_
    with_reducible refine(impl_StockOf.calls k a0_2 _ _ t537 t540 t541 t544 _ ?side1 ?side2 A4.out).mono ?_
    (case side1=>repeat(first|exact(Kd.V_reads' HO539.out).2.2|(with_reducible refine Kd.C_alloc ?_ _)|(with_reducible refine Kd.C_drewN ?_ _)|(with_reducible refine Kd.C_drew ?_)))
    (case side2=>exact(Kd.V_reads' HO539.out).2.1)
    rintro e w10 ⟨v542,rfl,ho0,hb⟩
    refine⟨_,rfl,?_⟩
    have n0_:=qal.mk (Kd.V_elder' (za45 HO539) (Kd.R_base ho0) hb)
    have n1_:=qal.mk (Kd.R_lower ho0 (qad (za3 HB GE535 GE536)))
    have n2_:=qal.mk (qac (g:=gb535) (o:=.cells #[.int .i64 a0_0,.bool a0_1,.int .i64 a0_2,.slice A0_3 l0_3.length c0_3,.int .i64 a0_4] 26 (0,0)) (za0 BK535) hb)
    have n3_:=qal.mk (qac (g:=gb536) (o:=.cells #[.int .i64 0,.slice none 0 0] 36 (0,0)) (za0 BK536) hb)
    have n4_:=qal.mk (qae (za3 HB GE535 GE536) hb)
    clear HO539
    clear BK535
    clear BK536
    clear HB
    have HO539:=n0_
    have HO543:=n1_
    have BK535:=n2_
    have BK536:=n3_
    have HB:=n4_
    clear n0_ n1_ n2_ n3_ n4_
    (try clear hb)
    (try clear hb2)
    (try clear hk)
    (try clear hi)
    (try clear ho0)
    refine hK.out _ _ ⟨(qab BK535.out 0).trans rfl,(qab BK535.out 1).trans rfl,(qab BK535.out 2).trans rfl,(qab BK535.out 3).trans rfl,(qab BK535.out 4).trans rfl⟩ (fun hHeld=>?_)
    clear hK K
    refine norm_ (a':=?_) ?_ ?_
    rotate_left
    ·show Act.put _ (some 14) _=_
     simp only[Act.put,List.setIfInBounds_toArray,List.set_cons_zero,List.set_cons_succ,qas,qat]
     rfl
    refine qaz (i:=7) (N:=some 7) (v:=?_) (a':=?_) #[true,true,true,true,true,true,true,true,false,false,false,false,false] rfl rfl (qax HT_.out (by kernel_rfl)) (fun _ _ _ h=>h) (Or.inl ⟨by rfl,?_⟩) ?_ ?_
    rotate_left
    ·intro w'
     go_simp
     with_reducible rfl
    rotate_left
    ·simp only[Act.put,List.setIfInBounds_toArray,List.set_cons_zero,List.set_cons_succ,qas,qat]
     rfl
    refine qaz (i:=8) (N:=some 15) (v:=?_) (a':=?_) #[true,true,true,true,true,true,true,true,true,false,false,false,false] rfl rfl (qax HT_.out (by kernel_rfl)) (fun _ _ _ h=>h) (Or.inl ⟨by rfl,?_⟩) ?_ ?_
    rotate_left
    ·intro w'
     go_simp
     with_reducible rfl
    rotate_left
    ·simp only[Act.put,List.setIfInBounds_toArray,List.set_cons_zero,List.set_cons_succ,qas,qat]
     rfl
    refine qaz (i:=9) (N:=some 16) (v:=?_) (a':=?_) #[true,true,true,true,true,true,true,true,true,true,false,false,false] rfl rfl (qax HT_.out (by kernel_rfl)) (fun _ _ _ h=>h) (Or.inl ⟨by rfl,?_⟩) ?_ ?_
    rotate_left
    ·intro w'
     go_simp
     with_reducible rfl
    rotate_left
    ·simp only[Act.put,List.setIfInBounds_toArray,List.set_cons_zero,List.set_cons_succ,qas,qat]
     rfl
    refine one_ (i:=10) (N:=some 5) #[true,true,true,true,true,true,true,true,true,true,true,false,false] rfl rfl (one_of HT_.out (by kernel_rfl)) (by decide) (fun K hK=>?_)
    refine box_step ?hg (N:=5) ?hd (cs:=#[.int .i64 0,.slice none 0 0]) (t:=36) ?hr ?_;(case hd=>rfl);(case hg=>rfl);(case hr=>first|(go_simp;done)|(go_simp;rfl))
    intro gb545 hg w11 hbox hb
    have n0_:=qal.mk (Kd.V_below (Kd.V_elderB (za45 HO539) gb545 (Nat.le_of_eq hg.symm)) hb)
    have n1_:=qal.mk (Kd.R_below (za4 HO543) hb)
    have n2_:=qal.mk (qac (g:=gb535) (o:=.cells #[.int .i64 a0_0,.bool a0_1,.int .i64 a0_2,.slice A0_3 l0_3.length c0_3,.int .i64 a0_4] 26 (0,0)) (za0 BK535) hb)
    have n3_:=qal.mk (qac (g:=gb536) (o:=.cells #[.int .i64 0,.slice none 0 0] 36 (0,0)) (za0 BK536) hb)
    have n4_:=qal.mk (qae (za3 HB GE535 GE536) hb)
    have n5_:=qal.mk (hbox)
    have n6_:=qal.mk ((by rw[hg];exact(qad (za3 HB GE535 GE536)):w.heap.size≤gb545))
    have n7_:=qal.mk ((by rw[hg];exact(qad (za3 HB GE535 GE536)):w.heap.size≤gb545))
    have n8_:=qal.mk ((by rw[hg];exact Nat.ne_of_lt (qao (g:=gb535) (o:=.cells #[.int .i64 a0_0,.bool a0_1,.int .i64 a0_2,.slice A0_3 l0_3.length c0_3,.int .i64 a0_4] 26 (0,0)) (za0 BK535)):gb535≠gb545))
    have n9_:=qal.mk ((by rw[hg];exact Nat.ne_of_gt (qao (g:=gb535) (o:=.cells #[.int .i64 a0_0,.bool a0_1,.int .i64 a0_2,.slice A0_3 l0_3.length c0_3,.int .i64 a0_4] 26 (0,0)) (za0 BK535)):gb545≠gb535))
    have n10_:=qal.mk ((by rw[hg];exact Nat.ne_of_lt (qao (g:=gb536) (o:=.cells #[.int .i64 0,.slice none 0 0] 36 (0,0)) (za0 BK536)):gb536≠gb545))
    have n11_:=qal.mk ((by rw[hg];exact Nat.ne_of_gt (qao (g:=gb536) (o:=.cells #[.int .i64 0,.slice none 0 0] 36 (0,0)) (za0 BK536)):gb545≠gb536))
    clear HO539
    clear HO543
    clear BK535
    clear BK536
    clear HB
    have HO539:=n0_
    have HO543:=n1_
    have BK535:=n2_
    have BK536:=n3_
    have HB:=n4_
    have BK545:=n5_
    have GW545:=n6_
    have GE545:=n7_
    have NB535_545:=n8_
    have NB545_535:=n9_
    have NB536_545:=n10_
    have NB545_536:=n11_
    clear n0_ n1_ n2_ n3_ n4_ n5_ n6_ n7_ n8_ n9_ n10_ n11_
    clear hb hbox hg
    refine hK.out _ _ ⟨(qab BK535.out 0).trans rfl,(qab BK535.out 1).trans rfl,(qab BK535.out 2).trans rfl,(qab BK535.out 3).trans rfl,(qab BK535.out 4).trans rfl⟩ (fun hHeld=>?_)
    clear hK K
    refine norm_ (a':=?_) ?_ ?_
    rotate_left
    ·show Act.put _ (some 5) _=_
     simp only[Act.put,List.setIfInBounds_toArray,List.set_cons_zero,List.set_cons_succ,qas,qat]
     rfl
    exact norm_ (by simp only[putAll,Act.put,List.setIfInBounds_toArray,List.set_cons_zero,List.set_cons_succ]) (hCont (.slice Ao9 t537.length co9,v542,gb545) _ ⟨hHeld,(by(with_reducible repeat(first|apply Kd.V_alloc|apply Kd.V_drewN|apply Kd.V_drew));exact Kd.V_mono HO539.out (fun _ hk=>⟨hk.1.2,⟨hk.1.1.1,⟨hk.1.1.2,hk.2⟩⟩⟩)),(za4 HO543),(za0 BK535),(za0 BK536),(za0 BK545),GW545.out,GE545.out,NB535_545.out,NB545_535.out,NB536_545.out,NB545_536.out,(za6 HB GE535 GE536 GE545)⟩)
   ·skip
    refine box_step ?hg (N:=5) ?hd (cs:=#[.int .i64 0,.slice none 0 0]) (t:=36) ?hr ?_;(case hd=>rfl);(case hg=>rfl);(case hr=>first|(go_simp;done)|(go_simp;rfl))
    intro gb545 hg w9 hbox hb
    have n0_:=qal.mk (Kd.V_below (Kd.V_elderB (za45 HO539) gb545 (Nat.le_of_eq hg.symm)) hb)
    have n1_:=qal.mk (qac (g:=gb535) (o:=.cells #[.int .i64 a0_0,.bool a0_1,.int .i64 a0_2,.slice A0_3 l0_3.length c0_3,.int .i64 a0_4] 26 (0,0)) (za0 BK535) hb)
    have n2_:=qal.mk (qac (g:=gb536) (o:=.cells #[.int .i64 0,.slice none 0 0] 36 (0,0)) (za0 BK536) hb)
    have n3_:=qal.mk (qae (za3 HB GE535 GE536) hb)
    have n4_:=qal.mk (hbox)
    have n5_:=qal.mk ((by rw[hg];exact(qad (za3 HB GE535 GE536)):w.heap.size≤gb545))
    have n6_:=qal.mk ((by rw[hg];exact(qad (za3 HB GE535 GE536)):w.heap.size≤gb545))
    have n7_:=qal.mk ((by rw[hg];exact Nat.ne_of_lt (qao (g:=gb535) (o:=.cells #[.int .i64 a0_0,.bool a0_1,.int .i64 a0_2,.slice A0_3 l0_3.length c0_3,.int .i64 a0_4] 26 (0,0)) (za0 BK535)):gb535≠gb545))
    have n8_:=qal.mk ((by rw[hg];exact Nat.ne_of_gt (qao (g:=gb535) (o:=.cells #[.int .i64 a0_0,.bool a0_1,.int .i64 a0_2,.slice A0_3 l0_3.length c0_3,.int .i64 a0_4] 26 (0,0)) (za0 BK535)):gb545≠gb535))
    have n9_:=qal.mk ((by rw[hg];exact Nat.ne_of_lt (qao (g:=gb536) (o:=.cells #[.int .i64 0,.slice none 0 0] 36 (0,0)) (za0 BK536)):gb536≠gb545))
    have n10_:=qal.mk ((by rw[hg];exact Nat.ne_of_gt (qao (g:=gb536) (o:=.cells #[.int .i64 0,.slice none 0 0] 36 (0,0)) (za0 BK536)):gb545≠gb536))
    clear HO539
    clear BK535
    clear BK536
    clear HB
    have HO539:=n0_
    have BK535:=n1_
    have BK536:=n2_
    have HB:=n3_
    have BK545:=n4_
    have GW545:=n5_
    have GE545:=n6_
    have NB535_545:=n7_
    have NB545_535:=n8_
    have NB536_545:=n9_
    have NB545_536:=n10_
    clear n0_ n1_ n2_ n3_ n4_ n5_ n6_ n7_ n8_ n9_ n10_
    clear hb hbox hg
    obtain⟨Ao10,co10,eo10⟩:=Kd.V_slice HO539.out
    (first|subst eo10|(injection eo10 with f1_ f2_ f3_;have f4_:=f1_.symm;have f5_:=f3_.symm;clear f1_ f2_ f3_;subst f4_;subst f5_))
    refine hK.out _ _ ⟨(qab BK535.out 0).trans rfl,(qab BK535.out 1).trans rfl,(qab BK535.out 2).trans rfl,(qab BK535.out 3).trans rfl,(qab BK535.out 4).trans rfl⟩ (fun hHeld=>?_)
    clear hK K
    refine norm_ (a':=?_) ?_ ?_
    rotate_left
    ·show Act.put _ (some 5) _=_
     simp only[Act.put,List.setIfInBounds_toArray,List.set_cons_zero,List.set_cons_succ,qas,qat]
     rfl
    refine one_ (i:=6) (N:=some 14) #[true,true,true,true,true,true,true,false,false,false,true,false,false] rfl rfl (one_of HT_.out (by kernel_rfl)) (by decide) (fun K hK=>?_)
    refine goes_ Try.func24 (by kernel_rfl) rfl #[.int .i64 a0_2,.slice Ao10 t537.length co10] (by rfl) rfl rfl (by(try simp only[List.map_toArray,List.map_cons,List.map_nil]);first|done|rfl|(simp only[List.length_drop,List.length_take];rfl)) ?_
    with_reducible refine(impl_StockOf.calls k a0_2 _ _ t537 t540 t541 t544 _ ?side1 ?side2 A4.out).mono ?_
    (case side1=>repeat(first|exact(Kd.V_reads' HO539.out).2.2|(with_reducible refine Kd.C_alloc ?_ _)|(with_reducible refine Kd.C_drewN ?_ _)|(with_reducible refine Kd.C_drew ?_)))
    (case side2=>exact(Kd.V_reads' HO539.out).2.1)
    rintro e w11 ⟨v542,rfl,ho0,hb⟩
    refine⟨_,rfl,?_⟩
    have n0_:=qal.mk (Kd.V_elder' (za45 HO539) (Kd.R_base ho0) hb)
    have n1_:=qal.mk (Kd.R_lower ho0 (qad (za6 HB GE535 GE536 GE545)))
    have n2_:=qal.mk (qac (g:=gb535) (o:=.cells #[.int .i64 a0_0,.bool a0_1,.int .i64 a0_2,.slice A0_3 l0_3.length c0_3,.int .i64 a0_4] 26 (0,0)) (za0 BK535) hb)
    have n3_:=qal.mk (qac (g:=gb536) (o:=.cells #[.int .i64 0,.slice none 0 0] 36 (0,0)) (za0 BK536) hb)
    have n4_:=qal.mk (qac (g:=gb545) (o:=.cells #[.int .i64 0,.slice none 0 0] 36 (0,0)) (za0 BK545) hb)
    have n5_:=qal.mk (qae (za6 HB GE535 GE536 GE545) hb)
    clear HO539
    clear BK535
    clear BK536
    clear BK545
    clear HB
    have HO539:=n0_
    have HO543:=n1_
    have BK535:=n2_
    have BK536:=n3_
    have BK545:=n4_
    have HB:=n5_
    clear n0_ n1_ n2_ n3_ n4_ n5_
    (try clear hb)
    (try clear hb2)
    (try clear hk)
    (try clear hi)
    (try clear ho0)
    refine hK.out _ _ ⟨(qab BK535.out 0).trans rfl,(qab BK535.out 1).trans rfl,(qab BK535.out 2).trans rfl,(qab BK535.out 3).trans rfl,(qab BK535.out 4).trans rfl⟩ (fun hHeld=>?_)
    clear hK K
    refine norm_ (a':=?_) ?_ ?_
    rotate_left
    ·show Act.put _ (some 14) _=_
     simp only[Act.put,List.setIfInBounds_toArray,List.set_cons_zero,List.set_cons_succ,qas,qat]
     rfl
    refine qaz (i:=7) (N:=some 7) (v:=?_) (a':=?_) #[true,true,true,true,true,true,true,true,false,false,true,false,false] rfl rfl (qax HT_.out (by kernel_rfl)) (fun _ _ _ h=>h) (Or.inl ⟨by rfl,?_⟩) ?_ ?_
    rotate_left
    ·intro w'
     go_simp
     with_reducible rfl
    rotate_left
    ·simp only[Act.put,List.setIfInBounds_toArray,List.set_cons_zero,List.set_cons_succ,qas,qat]
     rfl
    refine qaz (i:=8) (N:=some 15) (v:=?_) (a':=?_) #[true,true,true,true,true,true,true,true,true,false,true,false,false] rfl rfl (qax HT_.out (by kernel_rfl)) (fun _ _ _ h=>h) (Or.inl ⟨by rfl,?_⟩) ?_ ?_
    rotate_left
    ·intro w'
     go_simp
     with_reducible rfl
    rotate_left
    ·simp only[Act.put,List.setIfInBounds_toArray,List.set_cons_zero,List.set_cons_succ,qas,qat]
     rfl
    refine qaz (i:=9) (N:=some 16) (v:=?_) (a':=?_) #[true,true,true,true,true,true,true,true,true,true,true,false,false] rfl rfl (qax HT_.out (by kernel_rfl)) (fun _ _ _ h=>h) (Or.inl ⟨by rfl,?_⟩) ?_ ?_
    rotate_left
    ·intro w'
     go_simp
     with_reducible rfl
    rotate_left
    ·simp only[Act.put,List.setIfInBounds_toArray,List.set_cons_zero,List.set_cons_succ,qas,qat]
     rfl
    exact norm_ (by simp only[putAll,Act.put,List.setIfInBounds_toArray,List.set_cons_zero,List.set_cons_succ]) (hCont (.slice Ao10 t537.length co10,v542,gb545) _ ⟨hHeld,(by(with_reducible repeat(first|apply Kd.V_alloc|apply Kd.V_drewN|apply Kd.V_drew));exact Kd.V_mono HO539.out (fun _ hk=>⟨hk.2,⟨hk.1.1.1,⟨hk.1.1.2,hk.1.2⟩⟩⟩)),(za4 HO543),(za0 BK535),(za0 BK536),(za0 BK545),GW545.out,GE545.out,NB535_545.out,NB545_535.out,NB536_545.out,NB545_536.out,(za6 HB GE535 GE536 GE545)⟩)
  ·skip
   refine box_step ?hg (N:=5) ?hd (cs:=#[.int .i64 0,.slice none 0 0]) (t:=36) ?hr ?_;(case hd=>rfl);(case hg=>rfl);(case hr=>first|(go_simp;done)|(go_simp;rfl))
   intro gb545 hg w8 hbox hb
   have n0_:=qal.mk (qac (g:=gb535) (o:=.cells #[.int .i64 a0_0,.bool a0_1,.int .i64 a0_2,.slice A0_3 l0_3.length c0_3,.int .i64 a0_4] 26 (0,0)) (za0 BK535) hb)
   have n1_:=qal.mk (qac (g:=gb536) (o:=.cells #[.int .i64 0,.slice none 0 0] 36 (0,0)) (za0 BK536) hb)
   have n2_:=qal.mk (qae (za3 HB GE535 GE536) hb)
   have n3_:=qal.mk (hbox)
   have n4_:=qal.mk ((by rw[hg];exact(qad (za3 HB GE535 GE536)):w.heap.size≤gb545))
   have n5_:=qal.mk ((by rw[hg];exact(qad (za3 HB GE535 GE536)):w.heap.size≤gb545))
   have n6_:=qal.mk ((by rw[hg];exact Nat.ne_of_lt (qao (g:=gb535) (o:=.cells #[.int .i64 a0_0,.bool a0_1,.int .i64 a0_2,.slice A0_3 l0_3.length c0_3,.int .i64 a0_4] 26 (0,0)) (za0 BK535)):gb535≠gb545))
   have n7_:=qal.mk ((by rw[hg];exact Nat.ne_of_gt (qao (g:=gb535) (o:=.cells #[.int .i64 a0_0,.bool a0_1,.int .i64 a0_2,.slice A0_3 l0_3.length c0_3,.int .i64 a0_4] 26 (0,0)) (za0 BK535)):gb545≠gb535))
   have n8_:=qal.mk ((by rw[hg];exact Nat.ne_of_lt (qao (g:=gb536) (o:=.cells #[.int .i64 0,.slice none 0 0] 36 (0,0)) (za0 BK536)):gb536≠gb545))
   have n9_:=qal.mk ((by rw[hg];exact Nat.ne_of_gt (qao (g:=gb536) (o:=.cells #[.int .i64 0,.slice none 0 0] 36 (0,0)) (za0 BK536)):gb545≠gb536))
   clear BK535
   clear BK536
   clear HB
   have BK535:=n0_
   have BK536:=n1_
   have HB:=n2_
   have BK545:=n3_
   have GW545:=n4_
   have GE545:=n5_
   have NB535_545:=n6_
   have NB545_535:=n7_
   have NB536_545:=n8_
   have NB545_536:=n9_
   clear n0_ n1_ n2_ n3_ n4_ n5_ n6_ n7_ n8_ n9_
   clear hb hbox hg
   refine hK.out _ _ ⟨(qab BK535.out 0).trans rfl,(qab BK535.out 1).trans rfl,(qab BK535.out 2).trans rfl,(qab BK535.out 3).trans rfl,(qab BK535.out 4).trans rfl⟩ (fun hHeld=>?_)
   clear hK K
   refine norm_ (a':=?_) ?_ ?_
   rotate_left
   ·show Act.put _ (some 5) _=_
    simp only[Act.put,List.setIfInBounds_toArray,List.set_cons_zero,List.set_cons_succ,qas,qat]
    rfl
   refine one_ (i:=5) (N:=some 13) #[true,true,true,true,true,true,false,false,false,false,true,false,false] rfl rfl (one_of HT_.out (by kernel_rfl)) (by decide) (fun K hK=>?_)
   refine goes_ Try.func111 (by kernel_rfl) rfl #[.agg #[.slice A0_3 l0_3.length c0_3,.int .i64 a0_4],.bool a1] (by rfl) rfl rfl (by(try simp only[List.map_toArray,List.map_cons,List.map_nil]);first|done|rfl|(simp only[List.length_drop,List.length_take];rfl)) ?_
   with_reducible refine(impl_Log_known.calls (fun k_=>k_<w.heap.size) _ _ l0_3 a0_4 a1 t537 _ ?side1 A3.out).mono ?_
   (case side1=>exact Kd.V_mk HC0_3.out (Kd.F_below (Kd.C_F k62_heap HR0_3.out) (za6 HB GE535 GE536 GE545)))
   rintro e w9 ⟨v538,rfl,ho0,hb⟩
   refine⟨_,rfl,?_⟩
   have n0_:=qal.mk (Kd.V_lower (Kd.V_mono (ok':=fun k_=>k_≠gb535∧k_≠gb536∧k_≠gb545) ho0 (fun k_ hk_=>⟨Or.elim hk_ (fun hs_=>fun e_=>Nat.not_le.2 hs_ (by rw[e_];exact GW535.out)) (fun hn_=>(Kd.freshB (g:=gb535) (o:=.cells #[.int .i64 a0_0,.bool a0_1,.int .i64 a0_2,.slice A0_3 l0_3.length c0_3,.int .i64 a0_4] 26 (0,0)) (za0 BK535) k_ hn_)),Or.elim hk_ (fun hs_=>fun e_=>Nat.not_le.2 hs_ (by rw[e_];exact GW536.out)) (fun hn_=>(Kd.freshB (g:=gb536) (o:=.cells #[.int .i64 0,.slice none 0 0] 36 (0,0)) (za0 BK536) k_ hn_)),Or.elim hk_ (fun hs_=>fun e_=>Nat.not_le.2 hs_ (by rw[e_];exact GW545.out)) (fun hn_=>(Kd.freshB (g:=gb545) (o:=.cells #[.int .i64 0,.slice none 0 0] 36 (0,0)) (za0 BK545) k_ hn_))⟩)) (qad (za6 HB GE535 GE536 GE545)))
   have n1_:=qal.mk (qac (g:=gb535) (o:=.cells #[.int .i64 a0_0,.bool a0_1,.int .i64 a0_2,.slice A0_3 l0_3.length c0_3,.int .i64 a0_4] 26 (0,0)) (za0 BK535) hb)
   have n2_:=qal.mk (qac (g:=gb536) (o:=.cells #[.int .i64 0,.slice none 0 0] 36 (0,0)) (za0 BK536) hb)
   have n3_:=qal.mk (qac (g:=gb545) (o:=.cells #[.int .i64 0,.slice none 0 0] 36 (0,0)) (za0 BK545) hb)
   have n4_:=qal.mk (qae (za6 HB GE535 GE536 GE545) hb)
   clear BK535
   clear BK536
   clear BK545
   clear HB
   have HO539:=n0_
   have BK535:=n1_
   have BK536:=n2_
   have BK545:=n3_
   have HB:=n4_
   clear n0_ n1_ n2_ n3_ n4_
   (try clear hb)
   (try clear hb2)
   (try clear hk)
   (try clear hi)
   (try clear ho0)
   obtain⟨Ao10,co10,eo10⟩:=Kd.V_slice HO539.out
   (first|subst eo10|(injection eo10 with f1_ f2_ f3_;have f4_:=f1_.symm;have f5_:=f3_.symm;clear f1_ f2_ f3_;subst f4_;subst f5_))
   refine hK.out _ _ ⟨(qab BK535.out 0).trans rfl,(qab BK535.out 1).trans rfl,(qab BK535.out 2).trans rfl,(qab BK535.out 3).trans rfl,(qab BK535.out 4).trans rfl⟩ (fun hHeld=>?_)
   clear hK K
   refine norm_ (a':=?_) ?_ ?_
   rotate_left
   ·show Act.put _ (some 13) _=_
    simp only[Act.put,List.setIfInBounds_toArray,List.set_cons_zero,List.set_cons_succ,qas,qat]
    rfl
   refine one_ (i:=6) (N:=some 14) #[true,true,true,true,true,true,true,false,false,false,true,false,false] rfl rfl (one_of HT_.out (by kernel_rfl)) (by decide) (fun K hK=>?_)
   refine goes_ Try.func24 (by kernel_rfl) rfl #[.int .i64 a0_2,.slice Ao10 t537.length co10] (by rfl) rfl rfl (by(try simp only[List.map_toArray,List.map_cons,List.map_nil]);first|done|rfl|(simp only[List.length_drop,List.length_take];rfl)) ?_
   with_reducible refine(impl_StockOf.calls k a0_2 _ _ t537 t540 t541 t544 _ ?side1 ?side2 A4.out).mono ?_
   (case side1=>repeat(first|exact(Kd.V_reads' HO539.out).2.2|(with_reducible refine Kd.C_alloc ?_ _)|(with_reducible refine Kd.C_drewN ?_ _)|(with_reducible refine Kd.C_drew ?_)))
   (case side2=>exact(Kd.V_reads' HO539.out).2.1)
   rintro e w11 ⟨v542,rfl,ho0,hb⟩
   refine⟨_,rfl,?_⟩
   have n0_:=qal.mk (Kd.V_elder' (za45 HO539) (Kd.R_base ho0) hb)
   have n1_:=qal.mk (Kd.R_lower ho0 (qad (za6 HB GE535 GE536 GE545)))
   have n2_:=qal.mk (qac (g:=gb535) (o:=.cells #[.int .i64 a0_0,.bool a0_1,.int .i64 a0_2,.slice A0_3 l0_3.length c0_3,.int .i64 a0_4] 26 (0,0)) (za0 BK535) hb)
   have n3_:=qal.mk (qac (g:=gb536) (o:=.cells #[.int .i64 0,.slice none 0 0] 36 (0,0)) (za0 BK536) hb)
   have n4_:=qal.mk (qac (g:=gb545) (o:=.cells #[.int .i64 0,.slice none 0 0] 36 (0,0)) (za0 BK545) hb)
   have n5_:=qal.mk (qae (za6 HB GE535 GE536 GE545) hb)
   clear HO539
   clear BK535
   clear BK536
   clear BK545
   clear HB
   have HO539:=n0_
   have HO543:=n1_
   have BK535:=n2_
   have BK536:=n3_
   have BK545:=n4_
   have HB:=n5_
   clear n0_ n1_ n2_ n3_ n4_ n5_
   (try clear hb)
   (try clear hb2)
   (try clear hk)
   (try clear hi)
   (try clear ho0)
   refine hK.out _ _ ⟨(qab BK535.out 0).trans rfl,(qab BK535.out 1).trans rfl,(qab BK535.out 2).trans rfl,(qab BK535.out 3).trans rfl,(qab BK535.out 4).trans rfl⟩ (fun hHeld=>?_)
   clear hK K
   refine norm_ (a':=?_) ?_ ?_
   rotate_left
   ·show Act.put _ (some 14) _=_
    simp only[Act.put,List.setIfInBounds_toArray,List.set_cons_zero,List.set_cons_succ,qas,qat]
    rfl
   refine qaz (i:=7) (N:=some 7) (v:=?_) (a':=?_) #[true,true,true,true,true,true,true,true,false,false,true,false,false] rfl rfl (qax HT_.out (by kernel_rfl)) (fun _ _ _ h=>h) (Or.inl ⟨by rfl,?_⟩) ?_ ?_
   rotate_left
   ·intro w'
    go_simp
    with_reducible rfl
   rotate_left
   ·simp only[Act.put,List.setIfInBounds_toArray,List.set_cons_zero,List.set_cons_succ,qas,qat]
    rfl
   refine qaz (i:=8) (N:=some 15) (v:=?_) (a':=?_) #[true,true,true,true,true,true,true,true,true,false,true,false,false] rfl rfl (qax HT_.out (by kernel_rfl)) (fun _ _ _ h=>h) (Or.inl ⟨by rfl,?_⟩) ?_ ?_
   rotate_left
   ·intro w'
    go_simp
    with_reducible rfl
   rotate_left
   ·simp only[Act.put,List.setIfInBounds_toArray,List.set_cons_zero,List.set_cons_succ,qas,qat]
    rfl
   refine qaz (i:=9) (N:=some 16) (v:=?_) (a':=?_) #[true,true,true,true,true,true,true,true,true,true,true,false,false] rfl rfl (qax HT_.out (by kernel_rfl)) (fun _ _ _ h=>h) (Or.inl ⟨by rfl,?_⟩) ?_ ?_
   rotate_left
   ·intro w'
    go_simp
    with_reducible rfl
   rotate_left
   ·simp only[Act.put,List.setIfInBounds_toArray,List.set_cons_zero,List.set_cons_succ,qas,qat]
    rfl
   exact norm_ (by simp only[putAll,Act.put,List.setIfInBounds_toArray,List.set_cons_zero,List.set_cons_succ]) (hCont (.slice Ao10 t537.length co10,v542,gb545) _ ⟨hHeld,(by(with_reducible repeat(first|apply Kd.V_alloc|apply Kd.V_drewN|apply Kd.V_drew));exact Kd.V_mono HO539.out (fun _ hk=>⟨hk.2,⟨hk.1.1,⟨hk.1.2.1,hk.1.2.2⟩⟩⟩)),(za4 HO543),(za0 BK535),(za0 BK536),(za0 BK545),GW545.out,GE545.out,NB535_545.out,NB545_535.out,NB536_545.out,NB545_536.out,(za6 HB GE535 GE536 GE545)⟩)
 rintro⟨v538,v542,gb545⟩ w12 ⟨hS_,h0_,h1_,h2_,h3_,h4_,h5_,h6_,h7_,h8_,h9_,h10_,h11_⟩
 have n0_:qal (Kd.V k62 62 w12 w.heap.size (fun k_=>some k_≠(v542:Value).ownBlock∧k_≠gb535∧k_≠gb536∧k_≠gb545) v538 t537):=⟨h0_⟩
 have n1_:qal (Kd.R k46 46 w12 w.heap.size (fun _=>True) v542 t541):=⟨h1_⟩
 have n2_:qal (w12.heap[gb535]?=some (.cells #[.int .i64 a0_0,.bool a0_1,.int .i64 a0_2,.slice A0_3 l0_3.length c0_3,.int .i64 a0_4] 26 (0,0))):=⟨h2_⟩
 have n3_:qal (w12.heap[gb536]?=some (.cells #[.int .i64 0,.slice none 0 0] 36 (0,0))):=⟨h3_⟩
 have n4_:qal (w12.heap[gb545]?=some (.cells #[.int .i64 0,.slice none 0 0] 36 (0,0))):=⟨h4_⟩
 have n5_:qal (w.heap.size≤gb545):=⟨h5_⟩
 have n6_:qal (w.heap.size≤gb545):=⟨h6_⟩
 have n7_:qal (gb535≠gb545):=⟨h7_⟩
 have n8_:qal (gb545≠gb535):=⟨h8_⟩
 have n9_:qal (gb536≠gb545):=⟨h9_⟩
 have n10_:qal (gb545≠gb536):=⟨h10_⟩
 have n11_:qal (Below w.heap.size w w12):=⟨h11_⟩
 clear BK535
 clear BK536
 clear HB
 clear h0_ h1_ h2_ h3_ h4_ h5_ h6_ h7_ h8_ h9_ h10_ h11_
 have HO539:=n0_
 have HO543:=n1_
 have BK535:=n2_
 have BK536:=n3_
 have BK545:=n4_
 have GW545:=n5_
 have GE545:=n6_
 have NB535_545:=n7_
 have NB545_535:=n8_
 have NB536_545:=n9_
 have NB545_536:=n10_
 have HB:=n11_
 clear n0_ n1_ n2_ n3_ n4_ n5_ n6_ n7_ n8_ n9_ n10_ n11_
 have hHeld:w12.cell? ⟨gb535,0,none⟩=some (.int .i64 a0_0)∧w12.cell? ⟨gb535,1,none⟩=some (.bool a0_1)∧w12.cell? ⟨gb535,2,none⟩=some (.int .i64 a0_2)∧w12.cell? ⟨gb535,3,none⟩=some (.slice A0_3 l0_3.length c0_3)∧w12.cell? ⟨gb535,4,none⟩=some (.int .i64 a0_4):=hS_
 obtain⟨Ao14,co14,eo14⟩:=Kd.R_slice HO543.out
 (first|subst eo14|(injection eo14 with f1_ f2_ f3_;have f4_:=f1_.symm;have f5_:=f3_.symm;clear f1_ f2_ f3_;subst f4_;subst f5_))
 refine norm_ (a':=?_) ?_ ?_
 rotate_left
 ·simp only[putAll,Act.put,List.setIfInBounds_toArray,List.set_cons_zero,List.set_cons_succ]
  rfl
 refine one_ (i:=11) (N:=none) #[true,true,true,true,true,true,true,true,true,true,true,true,false] rfl rfl (one_of HT_.out (by kernel_rfl)) (by decide) (fun K hK=>?_)
 have hs13:w12.cell? ⟨gb545,0,none⟩=some (.int .i64 0):=(qab BK545.out 0).trans rfl
 have hfs13:=qaa BK545.out 0
 have hns13_0:=NB535_545.out
 have hns13_1:=NB536_545.out
 have hms13_0:=NB545_535.out
 have hms13_1:=NB545_536.out
 have hs15:w12.cell? ⟨gb545,1,none⟩=some (.slice none 0 0):=(qab BK545.out 1).trans rfl
 have hfs15:=qaa BK545.out 1
 have hns15_0:=NB535_545.out
 have hns15_1:=NB536_545.out
 have hms15_0:=NB545_535.out
 have hms15_1:=NB545_536.out
 refine skip_ (w1:=?_) (by rfl) rfl ?_ ?_
 rotate_left
 ·go_simp
  rfl
 refine hK.out _ _ ⟨((qay (p:=⟨gb545,_,none⟩) NB535_545.out _).trans (((qay (p:=⟨gb545,_,none⟩) NB535_545.out _).trans (hHeld.1)))),((qay (p:=⟨gb545,_,none⟩) NB535_545.out _).trans (((qay (p:=⟨gb545,_,none⟩) NB535_545.out _).trans (hHeld.2.1)))),((qay (p:=⟨gb545,_,none⟩) NB535_545.out _).trans (((qay (p:=⟨gb545,_,none⟩) NB535_545.out _).trans (hHeld.2.2.1)))),((qay (p:=⟨gb545,_,none⟩) NB535_545.out _).trans (((qay (p:=⟨gb545,_,none⟩) NB535_545.out _).trans (hHeld.2.2.2.1)))),((qay (p:=⟨gb545,_,none⟩) NB535_545.out _).trans (((qay (p:=⟨gb545,_,none⟩) NB535_545.out _).trans (hHeld.2.2.2.2))))⟩ (fun hHeld=>?_)
 clear hK K
 refine qaz (i:=12) (N:=some 6) (v:=?_) (a':=?_) #[true,true,true,true,true,true,true,true,true,true,true,true,true] rfl rfl (qax HT_.out (by kernel_rfl)) (fun _ _ _ h=>h) (Or.inl ⟨by rfl,?_⟩) ?_ ?_
 rotate_left
 ·intro w'
  go_simp
  with_reducible rfl
 rotate_left
 ·simp only[Act.put,List.setIfInBounds_toArray,List.set_cons_zero,List.set_cons_succ,qas,qat]
  rfl
 refine done_ (done_of HT_.out (by kernel_rfl)) ?_
 have hnb16:=NB545_535.out
 have hnc16:=NB535_545.out
 have hnb17:=NB545_536.out
 have hnc17:=NB536_545.out
 have hcz18_0:w12.cell? ⟨gb545,0,none⟩=some (.int .i64 0):=(qab BK545.out 0).trans rfl
 have hcz18_1:w12.cell? ⟨gb545,1,none⟩=some (.slice none 0 0):=(qab BK545.out 1).trans rfl
 have hfz18_0:=qaa BK545.out 0
 have hfz18_1:=qaa BK545.out 1
 have hnb19:=NB536_535.out
 have hnc19:=NB535_536.out
 have hcz20_0:w12.cell? ⟨gb536,0,none⟩=some (.int .i64 0):=(qab BK536.out 0).trans rfl
 have hcz20_1:w12.cell? ⟨gb536,1,none⟩=some (.slice none 0 0):=(qab BK536.out 1).trans rfl
 have hfz20_0:=qaa BK536.out 0
 have hfz20_1:=qaa BK536.out 1
 try go_wp2
 refine bodyPost_ret (results_cell_row rfl _ _ gb536 36 #[.int .i64 t540,.slice Ao14 t541.length co14] (0,0) _ rfl (by(with_reducible repeat(first|refine qag ?_ _|refine qah ?_|refine qaf ?_ _));refine qan (cs:=#[.int .i64 t540,.slice none 0 0]) ?_ 1 _ rfl;(with_reducible repeat(first|refine qag ?_ _|refine qah ?_|refine qaf ?_ _));refine qan (cs:=#[.int .i64 0,.slice none 0 0]) ?_ 0 _ rfl;(with_reducible repeat(first|refine qag ?_ _|refine qah ?_|refine qaf ?_ _));refine blk_far ?_ NB536_545.out _;(with_reducible repeat(first|refine qag ?_ _|refine qah ?_|refine qaf ?_ _));refine blk_far ?_ NB536_545.out _;(with_reducible repeat(first|refine qag ?_ _|refine qah ?_|refine qaf ?_ _));exact BK536.out) Try.underlying36 rfl (by kernel_rfl)) rfl ?_
 exact⟨_,za9,by(with_reducible repeat(first|apply Kd.R_alloc|apply Kd.R_drewN|apply Kd.R_drew));exact Kd.R_mono (Kd.R_far (p:=⟨gb536,1,none⟩) (Kd.R_far (p:=⟨gb536,0,none⟩) (Kd.R_far (p:=⟨gb545,1,none⟩) (Kd.R_far (p:=⟨gb545,0,none⟩) (Kd.R_types (Kd.R_types HO543.out BK545.out (by decide)) BK536.out (by decide)) (fun _ hk=>hk.1.2) (.int .i64 t540)) (fun _ hk=>hk.1.2) (.slice Ao14 t541.length co14)) (fun _ hk=>hk.2) (.int .i64 t540)) (fun _ hk=>hk.2) (.slice Ao14 t541.length co14)) (fun _ hk=>trivial),za6 HB GE535 GE536 GE545⟩
end Go.Proofs.Ytjccnaklodbbfaa.Print
