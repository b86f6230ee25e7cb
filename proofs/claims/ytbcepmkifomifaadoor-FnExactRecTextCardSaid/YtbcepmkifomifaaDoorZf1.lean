-- Written by squeeze.py: not trusted, Lean checks it.
import Derived.Test.YtbcepmkifomifaaDoorZK
import Derived.Test.YtbcepmkifomifaaDoorZe0
import Derived.Test.YtbcepmkifomifaaDoorZf0
namespace Go.Proofs.YtbcepmkifomifaaDoor.Print
open Go.RowKit Go.Proofs.YtbcepmkifomifaaDoorW.PrintWords Go.Proofs.YtbcepmkifomifaaDoorW.PrintLast Go.Proofs.YtbcepmkifomifaaDoorW.PrintMore
attribute [local go_sem] max2_int min2_int max_two min_two max_three min_three max_four min_four
set_option linter.unusedVariables false
set_option linter.unusedSimpArgs false
def impl_RecText.T3:Bool × List (List Nat × List Nat):=(true,[([],[]),([],[]),([1],[1]),([0,2],[0,2]),([3],[3]),([],[]),([5],[5]),([6],[6]),([],[]),([8],[8]),([7,9,0],[7,9]),([4,10,10],[4,10]),([11,11,0,1,2,3,4,5,6,7,8,9,10,11],[11])])
def impl_RecText.B3:List Nat:=[0,0,2,7,15,0,32,96,0,256,993,2047,4095]
theorem impl_RecText.tab3:rtab .any (opsOf Tryd.f16 3)=impl_RecText.T3:=by kernel_rfl
theorem impl_RecText.bits3:waitsOk impl_RecText.T3.2 impl_RecText.B3=true:=by kernel_rfl
def impl_RecText.f (a0_0:Int) (a0_1:Int) (l0_2:List Int):Option (ByteArray):=(impl_RecOk.f a0_0 a0_1 l0_2).bind fun t=>if t=true then(impl_recWords.f).bind fun ws=>if 0≤a0_0∧a0_0<(ws.length:Int)∧l0_2.length≤100 then impl_joined.f (rdOf ByteArray.empty ws a0_0) (a0_1 :: l0_2) else none else some ⟨#[]⟩
set_option maxHeartbeats 8000000 in
set_option maxRecDepth 100000 in
theorem impl_RecText.calls (a0_0:Int) (a0_1:Int) (A0_2:Option Addr) (c0_2:Nat) (l0_2:List Int) (r:ByteArray) (w:World) (hr0_2:Kd.C (Kd.int .i64) w A0_2 l0_2.length l0_2) (hc0_2:l0_2.length≤c0_2) (h:impl_RecText.f a0_0 a0_1 l0_2=some r) :
  Calls Tryd.prog 16 #[.agg #[.int .i64 a0_0,.int .i64 a0_1,.slice A0_2 l0_2.length c0_2]] w fun e w'=>e=.returned (.string r)∧Below w.heap.size w w':=by
 have hu25:=Tryd.underlying25;have HR:=qaj.mk hr0_2;have HC:=qaj.mk hc0_2;clear hr0_2 hc0_2;have HB:=qaj.mk (Below.refl w.heap.size w);unfold impl_RecText.f at h;obtain⟨t,A2,h⟩:=Option.bind_eq_some_iff.mp h;have A2:=qaj.mk A2;by_cases c3:t=true
 ·subst c3;rw[if_pos rfl] at h;obtain⟨ws,A4,h⟩:=Option.bind_eq_some_iff.mp h;have A4:=qaj.mk A4;by_cases c5:0≤a0_0∧a0_0<(ws.length:Int)∧l0_2.length≤100
  ·rw[if_pos c5] at h;have A5:=qaj.mk h;clear h;obtain⟨p436,q436,hlen⟩:=c5;have c5b:decide (0≤a0_0)=true:=decide_eq_true p436;have c6b:decide (a0_0<(ws.length:Int))=true:=decide_eq_true q436;go_enter Tryd.func16,Tryd.ntmps16
   try go_wp2_with(first|((with_reducible refine qai (N:=1) rfl ?_);refine zX (N:=1) (cs:=#[.int .i64 a0_0,.int .i64 a0_1,.slice A0_2 l0_2.length c0_2]) (t:=25) ?_;intro gb hg w10 hbox hb;have n0_:=qaj.mk (qaa HB.out hb);have BK:=qaj.mk hbox;clear HB;have HB:=n0_;clear n0_;clear hb hbox hg;have hcz11_0:w10.cell? ⟨gb,0,none⟩=some (.int .i64 a0_0):=(qag BK.out 0).trans rfl;have hcz11_1:w10.cell? ⟨gb,1,none⟩=some (.int .i64 a0_1):=(qag BK.out 1).trans rfl;have hcz11_2:w10.cell? ⟨gb,2,none⟩=some (.slice A0_2 l0_2.length c0_2):=(qag BK.out 2).trans rfl;have hfz11_0:=qao BK.out 0;have hfz11_1:=qao BK.out 1;have hfz11_2:=qao BK.out 2)|((with_reducible refine qae (f:=25) rfl ?_);refine goesL_ (some 4) rfl rfl Tryd.func25 (by kernel_rfl) rfl #[.agg #[.int .i64 a0_0,.int .i64 a0_1,.slice A0_2 l0_2.length c0_2]] rfl (by(try simp only[List.map_toArray,List.map_cons,List.map_nil]);first|done|rfl) ?_;(with_reducible refine(impl_RecOk.calls a0_0 a0_1 _ _ l0_2 true _ ?side1 ?side2 A2.out).mono ?_);(case side1=>exact zR HR HB);(case side2=>exact HC.out);rintro e w12 ⟨rfl,hb⟩;refine⟨_,rfl,?_⟩;replace BK:=qaj.mk (qah (g:=gb) (o:=.cells #[.int .i64 a0_0,.int .i64 a0_1,.slice A0_2 l0_2.length c0_2] 25 (0,0)) BK.out (hb));replace HB:=qaj.mk (qaa HB.out (hb));clear hb;have hcw0_:w12.cell? ⟨gb,0,none⟩=some (.int .i64 a0_0):=(qag BK.out 0).trans rfl;have hcw1_:w12.cell? ⟨gb,1,none⟩=some (.int .i64 a0_1):=(qag BK.out 1).trans rfl;have hcw2_:w12.cell? ⟨gb,2,none⟩=some (.slice A0_2 l0_2.length c0_2):=(qag BK.out 2).trans rfl))
   replace BK:=qaj.mk (qad BK.out);replace HB:=qaj.mk (qar HB.out);clear hcw0_ hcw1_ hcw2_;refine start_ (n:=13) (S:=fun w'=>w'.cell? ⟨gb,0,none⟩=some (.int .i64 a0_0)∧w'.cell? ⟨gb,1,none⟩=some (.int .i64 a0_1)∧w'.cell? ⟨gb,2,none⟩=some (.slice A0_2 l0_2.length c0_2)) (ds:=[]) #[false,false,false,false,false,false,false,false,false,false,false,false,false] (by kernel_rfl) rfl rfl ⟨(qag BK.out 0).trans rfl,(qag BK.out 1).trans rfl,(qag BK.out 2).trans rfl⟩ (fun hHeld=>?_);refine with_tabW impl_RecText.tab3 impl_RecText.bits3 (fun HT_ HW_=>?_);generalize w12.drew=w13 at BK HB hHeld ⊢;refine qaq (i:=1) (N:=some 7) (v:=?_) (a':=?_) #[false,true,false,false,false,false,false,false,false,false,false,false,false] rfl rfl (qan HT_.out (by kernel_rfl)) (fun _ _ _ h=>h) (Or.inl ⟨by rfl,?_⟩) ?_ ?_;rotate_left
   ·intro w';go_simp
    with_reducible rfl
   rotate_left
   ·simp only[Act.put,List.setIfInBounds_toArray,List.set_cons_zero,List.set_cons_succ,qak,qal];rfl
   refine qaq (i:=5) (N:=some 11) (v:=?_) (a':=?_) #[false,true,false,false,false,true,false,false,false,false,false,false,false] rfl rfl (qan HT_.out (by kernel_rfl)) (fun _ _ _ h=>h) (Or.inl ⟨by rfl,?_⟩) ?_ ?_;rotate_left
   ·intro w';go_simp
    with_reducible rfl
   rotate_left
   ·simp only[Act.put,List.setIfInBounds_toArray,List.set_cons_zero,List.set_cons_succ,qak,qal];rfl
   refine qaq (i:=8) (N:=some 14) (v:=?_) (a':=?_) #[false,true,false,false,false,true,false,false,true,false,false,false,false] rfl rfl (qan HT_.out (by kernel_rfl)) (fun _ _ _ h=>h) (Or.inl ⟨by rfl,?_⟩) ?_ ?_;rotate_left
   ·intro w';go_simp
    with_reducible rfl
   rotate_left
   ·simp only[Act.put,List.setIfInBounds_toArray,List.set_cons_zero,List.set_cons_succ,qak,qal];rfl
   refine take_ (i:=2) (N:=some 8) (v:=?_) (a':=?_) #[false,true,true,false,false,true,false,false,true,false,false,false,false] rfl rfl (take_ofW HT_.out HW_.out (by kernel_rfl)) (fun _ _ _ h=>h) (Or.inl ⟨by rfl,?_⟩) hHeld ?_ ?_;rotate_left
   ·rintro w' ⟨s0,s1,s2⟩;go_simp
    with_reducible rfl
   rotate_left
   ·simp only[Act.put,List.setIfInBounds_toArray,List.set_cons_zero,List.set_cons_succ,qak,qal];rfl
   refine take_ (i:=6) (N:=some 12) (v:=?_) (a':=?_) #[false,true,true,false,false,true,true,false,true,false,false,false,false] rfl rfl (take_ofW HT_.out HW_.out (by kernel_rfl)) (fun _ _ _ h=>h) (Or.inl ⟨by rfl,?_⟩) hHeld ?_ ?_;rotate_left
   ·rintro w' ⟨s0,s1,s2⟩;go_simp
    with_reducible rfl
   rotate_left
   ·simp only[Act.put,List.setIfInBounds_toArray,List.set_cons_zero,List.set_cons_succ,qak,qal];rfl
   refine take_ (i:=9) (N:=some 15) (v:=?_) (a':=?_) #[false,true,true,false,false,true,true,false,true,true,false,false,false] rfl rfl (take_ofW HT_.out HW_.out (by kernel_rfl)) (fun _ _ _ h=>h) (Or.inl ⟨by rfl,?_⟩) hHeld ?_ ?_;rotate_left
   ·rintro w' ⟨s0,s1,s2⟩;go_simp
    with_reducible rfl
   rotate_left
   ·simp only[Act.put,List.setIfInBounds_toArray,List.set_cons_zero,List.set_cons_succ,qak,qal];rfl
   refine two_ (i:=0) (j:=7) (Ni:=some 6) (Nj:=some 13) #[true,true,true,false,false,true,true,false,true,true,false,false,false] #[false,true,true,false,false,true,true,true,true,true,false,false,false] rfl rfl rfl rfl (two_of HT_.out (by kernel_rfl)) (by decide) (by decide) (fun K hK=>?pa3) (fun K hK=>?pb3)
   case' pa3=>
    refine goes_ Tryd.func40 (by kernel_rfl) rfl #[] (by rfl) rfl rfl (by(try simp only[List.map_toArray,List.map_cons,List.map_nil]);first|done|rfl) ?_
    with_reducible refine(impl_recWords.calls ws _ A4.out).mono ?_
    rintro e w21 ⟨v434,rfl,ho0,hb⟩;refine⟨_,rfl,?_⟩;have n0_:=qaj.mk (Kd.R_lower ho0 (qam HB.out));have n1_:=qaj.mk (qah (g:=gb) (o:=.cells #[.int .i64 a0_0,.int .i64 a0_1,.slice A0_2 l0_2.length c0_2] 25 (0,0)) BK.out hb);have n2_:=qaj.mk (qaa HB.out hb);clear BK HB;have HO:=n0_;have BK:=n1_;have HB:=n2_;obtain⟨Ao,co,eo⟩:=Kd.R_slice HO.out;subst eo;obtain⟨ad,e436,hx⟩:=Kd.at_string (Kd.R_reads' HO.out).2.2 a0_0 p436 q436
    cases e436
    refine hK.out _ _ ⟨(qag BK.out 0).trans rfl,(qag BK.out 1).trans rfl,(qag BK.out 2).trans rfl⟩ (fun hHeld=>?_);clear hK K;refine norm_ (a':=?_) ?_ ?_;rotate_left
    ·show Act.put _ (some 6) _=_;simp only[Act.put,List.setIfInBounds_toArray,List.set_cons_zero,List.set_cons_succ,qak,qal];rfl
    refine qaq (i:=3) (N:=some 9) (v:=?_) (a':=?_) #[true,true,true,true,false,true,true,false,true,true,false,false,false] rfl rfl (qan HT_.out (by kernel_rfl)) (fun _ _ _ h=>h) (Or.inl ⟨by rfl,?_⟩) ?_ ?_;rotate_left
    ·intro w';go_simp
     with_reducible rfl
    rotate_left
    ·simp only[Act.put,List.setIfInBounds_toArray,List.set_cons_zero,List.set_cons_succ,qak,qal];rfl
    refine more_ (S2:=fun w'=>w'.cell? ⟨gb,0,none⟩=some (.int .i64 a0_0)∧w'.cell? ⟨gb,1,none⟩=some (.int .i64 a0_1)∧w'.cell? ⟨gb,2,none⟩=some (.slice A0_2 l0_2.length c0_2)∧w'.cell? (ad.add (a0_0).toNat)=some (.string (rdOf ByteArray.empty ws a0_0))) (fun _ h=>⟨h.1,h.2.1,h.2.2.1⟩) ⟨hHeld.1,hHeld.2.1,hHeld.2.2,hx⟩ (fun hHeld=>?_);refine take_ (i:=4) (N:=some 10) (v:=?_) (a':=?_) #[true,true,true,true,true,true,true,false,true,true,false,false,false] rfl rfl (take_ofW HT_.out HW_.out (by kernel_rfl)) (fun _ _ _ h=>h) (Or.inl ⟨by rfl,?_⟩) hHeld ?_ ?_;rotate_left
    ·rintro w' ⟨s0,s1,s2,s3⟩;go_simp
     with_reducible rfl
    rotate_left
    ·simp only[Act.put,List.setIfInBounds_toArray,List.set_cons_zero,List.set_cons_succ,qak,qal];rfl
    refine one_ (i:=7) (N:=some 13) #[true,true,true,true,true,true,true,true,true,true,false,false,false] rfl rfl (one_of HT_.out (by kernel_rfl)) (by decide) (fun K hK=>?_);refine Kd.R_lit_step (Kd.int .i64) _ 3 (by rfl) (N:=13) (by rfl) (xs:=([a0_1]:List Int)) (inner:=[.int .i64 a0_1]) (ok:=fun _=>True) (okp:=fun _=>True) (by first|(go_simp;done)|(go_simp;rfl)) ?hp (fun _ hk=>hk) trivial (Below.refl _ _) (Nat.le_refl _) (by simp) ?_;(case hp=>exact(Reps.one (show Kd.M (Kd.int .i64) _ _ _ a0_1 [.int .i64 a0_1] from rfl) (Reps.none _ _)));intro v13 w15 ho16 hb hg_ hnew_;clear hg_ hnew_;have n0_:=qaj.mk (Kd.R_lower ho16 (qam HB.out));have n1_:=qaj.mk (qah (g:=gb) (o:=.cells #[.int .i64 a0_0,.int .i64 a0_1,.slice A0_2 l0_2.length c0_2] 25 (0,0)) BK.out hb);have n2_:=qaj.mk (qaa HB.out hb);have n3_:=qaj.mk (Kd.R_below HO.out hb);clear HO;have HO:=n3_;have HS_:=(hb.cell (World.block_lt_of_cell? _ _ hHeld.2.2.2)).trans hHeld.2.2.2;clear BK HB ho16 hb;have HL:=n0_;have BK:=n1_;have HB:=n2_;refine hK.out _ _ ⟨(qag BK.out 0).trans rfl,(qag BK.out 1).trans rfl,(qag BK.out 2).trans rfl,HS_⟩ (fun hHeld=>?_);clear hK K;refine norm_ (a':=?_) ?_ ?_;rotate_left
    ·show Act.put _ (some 13) _=_;simp only[Act.put,List.setIfInBounds_toArray,List.set_cons_zero,List.set_cons_succ,qak,qal];rfl
   case' pb3=>
    refine Kd.R_lit_step (Kd.int .i64) _ 3 (by rfl) (N:=13) (by rfl) (xs:=([a0_1]:List Int)) (inner:=[.int .i64 a0_1]) (ok:=fun _=>True) (okp:=fun _=>True) (by first|(go_simp;done)|(go_simp;rfl)) ?hp (fun _ hk=>hk) trivial (Below.refl _ _) (Nat.le_refl _) (by simp) ?_;(case hp=>exact(Reps.one (show Kd.M (Kd.int .i64) _ _ _ a0_1 [.int .i64 a0_1] from rfl) (Reps.none _ _)));intro v13 w15 ho16 hb hg_ hnew_;clear hg_ hnew_;have n0_:=qaj.mk (Kd.R_lower ho16 (qam HB.out));have n1_:=qaj.mk (qah (g:=gb) (o:=.cells #[.int .i64 a0_0,.int .i64 a0_1,.slice A0_2 l0_2.length c0_2] 25 (0,0)) BK.out hb);have n2_:=qaj.mk (qaa HB.out hb);clear BK HB ho16 hb;have HL:=n0_;have BK:=n1_;have HB:=n2_;refine hK.out _ _ ⟨(qag BK.out 0).trans rfl,(qag BK.out 1).trans rfl,(qag BK.out 2).trans rfl⟩ (fun hHeld=>?_);clear hK K;refine norm_ (a':=?_) ?_ ?_;rotate_left
    ·show Act.put _ (some 13) _=_;simp only[Act.put,List.setIfInBounds_toArray,List.set_cons_zero,List.set_cons_succ,qak,qal];rfl
    refine one_ (i:=0) (N:=some 6) #[true,true,true,false,false,true,true,true,true,true,false,false,false] rfl rfl (one_of HT_.out (by kernel_rfl)) (by decide) (fun K hK=>?_);refine goes_ Tryd.func40 (by kernel_rfl) rfl #[] (by rfl) rfl rfl (by(try simp only[List.map_toArray,List.map_cons,List.map_nil]);first|done|rfl) ?_
    with_reducible refine(impl_recWords.calls ws _ A4.out).mono ?_
    rintro e w21 ⟨v434,rfl,ho0,hb⟩;refine⟨_,rfl,?_⟩;have n0_:=qaj.mk (Kd.R_lower ho0 (qam HB.out));have n1_:=qaj.mk (qah (g:=gb) (o:=.cells #[.int .i64 a0_0,.int .i64 a0_1,.slice A0_2 l0_2.length c0_2] 25 (0,0)) BK.out hb);have n2_:=qaj.mk (qaa HB.out hb);have n3_:=qaj.mk (Kd.R_below HL.out hb);clear HL;have HL:=n3_;clear BK HB;have HO:=n0_;have BK:=n1_;have HB:=n2_;obtain⟨Ao,co,eo⟩:=Kd.R_slice HO.out;subst eo;obtain⟨ad,e436,hx⟩:=Kd.at_string (Kd.R_reads' HO.out).2.2 a0_0 p436 q436
    cases e436
    refine hK.out _ _ ⟨(qag BK.out 0).trans rfl,(qag BK.out 1).trans rfl,(qag BK.out 2).trans rfl⟩ (fun hHeld=>?_);clear hK K;refine norm_ (a':=?_) ?_ ?_;rotate_left
    ·show Act.put _ (some 6) _=_;simp only[Act.put,List.setIfInBounds_toArray,List.set_cons_zero,List.set_cons_succ,qak,qal];rfl
    refine qaq (i:=3) (N:=some 9) (v:=?_) (a':=?_) #[true,true,true,true,false,true,true,true,true,true,false,false,false] rfl rfl (qan HT_.out (by kernel_rfl)) (fun _ _ _ h=>h) (Or.inl ⟨by rfl,?_⟩) ?_ ?_;rotate_left
    ·intro w';go_simp
     with_reducible rfl
    rotate_left
    ·simp only[Act.put,List.setIfInBounds_toArray,List.set_cons_zero,List.set_cons_succ,qak,qal];rfl
    refine more_ (S2:=fun w'=>w'.cell? ⟨gb,0,none⟩=some (.int .i64 a0_0)∧w'.cell? ⟨gb,1,none⟩=some (.int .i64 a0_1)∧w'.cell? ⟨gb,2,none⟩=some (.slice A0_2 l0_2.length c0_2)∧w'.cell? (ad.add (a0_0).toNat)=some (.string (rdOf ByteArray.empty ws a0_0))) (fun _ h=>⟨h.1,h.2.1,h.2.2.1⟩) ⟨hHeld.1,hHeld.2.1,hHeld.2.2,hx⟩ (fun hHeld=>?_);refine take_ (i:=4) (N:=some 10) (v:=?_) (a':=?_) #[true,true,true,true,true,true,true,true,true,true,false,false,false] rfl rfl (take_ofW HT_.out HW_.out (by kernel_rfl)) (fun _ _ _ h=>h) (Or.inl ⟨by rfl,?_⟩) hHeld ?_ ?_;rotate_left
    ·rintro w' ⟨s0,s1,s2,s3⟩;go_simp
     with_reducible rfl
    rotate_left
    ·simp only[Act.put,List.setIfInBounds_toArray,List.set_cons_zero,List.set_cons_succ,qak,qal];rfl
   all_goals
    refine one_ (i:=10) (N:=some 16) #[true,true,true,true,true,true,true,true,true,true,true,false,false] rfl rfl (one_of HT_.out (by kernel_rfl)) (by decide) (fun K hK=>?_);refine Kd.R_append_rows_step (Kd.int .i64) (Rr:=(Kd.int .i64).K _) (w0:=w) w.heap.size (by rfl) (.tmp 13) (.tmp 15) 23 3 (.int .i64 0) 8 rfl Tryd.underlying23 info3 rfl (by decide) (by omega) v13 [a0_1] l0_2 A0_2 l0_2.length c0_2 (fun _=>True) (fun _=>False) rfl rfl HL.out (Kd.C_below HR.out HB.out) (fun _ _ h=>h) (fun _ hk=>hk.elim) (fun _ _=>trivial) HB.out (qam HB.out) (by simp;omega) ?_;intro v16 w30 ho hb hg hat;have n1_:=qaj.mk (blk_grown (g:=gb) (o:=.cells #[.int .i64 a0_0,.int .i64 a0_1,.slice A0_2 l0_2.length c0_2] 25 (0,0)) BK.out hg (Kd.R_ne HL.out BK.out (by decide)));obtain⟨inner_,hown_⟩:=Kd.R_own HO.out;obtain⟨cells_,hcl_⟩:=own_typed hown_ ad.block rfl
    have HS_:w30.cell? (ad.add (a0_0).toNat)=some (.string (rdOf ByteArray.empty ws a0_0)):=by
     have hk_:=hg.block ad.block (Array.getElem?_eq_some_iff.1 hcl_).1 (Kd.R_ne HL.out hcl_ (by decide));have h4_:=hHeld.2.2.2;unfold World.cell? at h4_ ⊢;rw[show(ad.add (a0_0).toNat).block=ad.block from by unfold Addr.add;split<;>rfl] at h4_ ⊢;rw[hk_];exact h4_
    clear BK HB HL;have BK:=n1_;have HB:=qaj.mk hb;have HL:=qaj.mk ho;clear n1_ hb ho hg hat;refine hK.out _ _ ⟨(qag BK.out 0).trans rfl,(qag BK.out 1).trans rfl,(qag BK.out 2).trans rfl,HS_⟩ (fun hHeld=>?_);clear hK K;refine norm_ (a':=?_) ?_ ?_;rotate_left
    ·show Act.put _ (some 16) _=_;simp only[Act.put,List.setIfInBounds_toArray,List.set_cons_zero,List.set_cons_succ,qak,qal];rfl
    refine one_ (i:=11) (N:=some 17) #[true,true,true,true,true,true,true,true,true,true,true,true,false] rfl rfl (one_of HT_.out (by kernel_rfl)) (by decide) (fun K hK=>?_);obtain⟨A1,c1,e1,hc1,hC1⟩:=Kd.R_reads HL.out;subst e1;refine goes_ Tryd.func39 (by kernel_rfl) rfl #[.string (rdOf ByteArray.empty ws a0_0),.slice A1 ([a0_1]++l0_2:List Int).length c1] (by rfl) rfl rfl (by(try simp only[List.map_toArray,List.map_cons,List.map_nil]);first|done|rfl) ?_
    with_reducible refine(impl_joined.calls _ _ _ ([a0_1]++l0_2) r _ hC1 hc1 A5.out).mono ?_
    rintro e w31 ⟨rfl,hb⟩;refine⟨_,rfl,?_⟩;have HS_:=(hb.cell (World.block_lt_of_cell? _ _ hHeld.2.2.2)).trans hHeld.2.2.2;have n1_:=qaj.mk (qah (g:=gb) (o:=.cells #[.int .i64 a0_0,.int .i64 a0_1,.slice A0_2 l0_2.length c0_2] 25 (0,0)) BK.out hb);have n2_:=qaj.mk (qaa HB.out hb);clear BK HB;have BK:=n1_;have HB:=n2_;refine hK.out _ _ ⟨(qag BK.out 0).trans rfl,(qag BK.out 1).trans rfl,(qag BK.out 2).trans rfl,HS_⟩ (fun hHeld=>?_);clear hK K;refine norm_ (a':=?_) ?_ ?_;rotate_left
    ·show Act.put _ (some 17) _=_;simp only[Act.put,List.setIfInBounds_toArray,List.set_cons_zero,List.set_cons_succ,qak,qal];rfl
    refine qaq (i:=12) (N:=some 2) (v:=?_) (a':=?_) #[true,true,true,true,true,true,true,true,true,true,true,true,true] rfl rfl (qan HT_.out (by kernel_rfl)) (fun _ _ _ h=>h) (Or.inl ⟨by rfl,?_⟩) ?_ ?_;rotate_left
    ·intro w';go_simp
     with_reducible rfl
    rotate_left
    ·simp only[Act.put,List.setIfInBounds_toArray,List.set_cons_zero,List.set_cons_succ,qak,qal];rfl
    refine done_ (by kernel_rfl) ?_;go_wp2;go_ret;exact⟨rfl,HB.out⟩
  ·rw[if_neg c5] at h
   cases h
 ·rw[if_neg c3] at h;obtain rfl:=Option.some.inj h
  have c3b:t=false:=by simpa using c3
  subst c3b;go_enter Tryd.func16,Tryd.ntmps16
  go_wp2_with(first|((with_reducible refine qai (N:=1) rfl ?_);refine zX (N:=1) (cs:=#[.int .i64 a0_0,.int .i64 a0_1,.slice A0_2 l0_2.length c0_2]) (t:=25) ?_;intro gb hg w10 hbox hb;have n0_:=qaj.mk (qaa HB.out hb);have BK:=qaj.mk hbox;clear HB;have HB:=n0_;clear n0_;clear hb hbox hg;have hcz11_0:w10.cell? ⟨gb,0,none⟩=some (.int .i64 a0_0):=(qag BK.out 0).trans rfl;have hcz11_1:w10.cell? ⟨gb,1,none⟩=some (.int .i64 a0_1):=(qag BK.out 1).trans rfl;have hcz11_2:w10.cell? ⟨gb,2,none⟩=some (.slice A0_2 l0_2.length c0_2):=(qag BK.out 2).trans rfl;have hfz11_0:=qao BK.out 0;have hfz11_1:=qao BK.out 1;have hfz11_2:=qao BK.out 2)|((with_reducible refine qae (f:=25) rfl ?_);refine goesL_ (some 4) rfl rfl Tryd.func25 (by kernel_rfl) rfl #[.agg #[.int .i64 a0_0,.int .i64 a0_1,.slice A0_2 l0_2.length c0_2]] rfl (by(try simp only[List.map_toArray,List.map_cons,List.map_nil]);first|done|rfl) ?_;(with_reducible refine(impl_RecOk.calls a0_0 a0_1 _ _ l0_2 false _ ?side1 ?side2 A2.out).mono ?_);(case side1=>exact zR HR HB);(case side2=>exact HC.out);rintro e w12 ⟨rfl,hb⟩;refine⟨_,rfl,?_⟩;replace BK:=qaj.mk (qah (g:=gb) (o:=.cells #[.int .i64 a0_0,.int .i64 a0_1,.slice A0_2 l0_2.length c0_2] 25 (0,0)) BK.out (hb));replace HB:=qaj.mk (qaa HB.out (hb));clear hb;have hcw0_:w12.cell? ⟨gb,0,none⟩=some (.int .i64 a0_0):=(qag BK.out 0).trans rfl;have hcw1_:w12.cell? ⟨gb,1,none⟩=some (.int .i64 a0_1):=(qag BK.out 1).trans rfl;have hcw2_:w12.cell? ⟨gb,2,none⟩=some (.slice A0_2 l0_2.length c0_2):=(qag BK.out 2).trans rfl))
  go_ret;exact⟨rfl,HB.out⟩
def spec_l1Many.l0:Nat→List Int→Int→Int→Option (Bool)
 |0,_,_,_=>none
 |k+1,x0,x3,x4=>if x4<(x0.length:Int) then(if 0≤x4 then((spec_l6In.f (rd x0 x4) 0 3).bind fun t200=>(if t200=true then(spec_l1Many.l0 k x0 (wrap64 (x3+(rd x0 x4))) (wrap64 (x4+1))) else(some false))) else(none)) else(if(x0.length:Int)=3 then(some (decide (x3>0))) else(some false))
def spec_l1Many.f (k:Nat) (l0:List Int):Option (Bool):=spec_l1Many.l0 k l0 0 0
theorem spec_l1Many.mono_l:∀k,(∀y0 y1 y2,LeO (spec_l1Many.l0 k y0 y1 y2) (spec_l1Many.l0 (k+1) y0 y1 y2))
 |0=>fun _ _ _ r h=>by simp[spec_l1Many.l0] at h
 |k+1=>by
  have ih0:=spec_l1Many.mono_l k
  ·intro y0 y1 y2;unfold spec_l1Many.l0
   repeat' first|(with_reducible exact ih0 _ _ _)|(with_reducible exact LeO.refl _)|(with_reducible exact LeO.none _)|(with_reducible refine LeO.ite ?_ ?_)|(with_reducible refine LeO.bind ?_ (fun _=>?_))|exact ih0 _ _ _|exact LeO.none _|refine LeO.ite ?_ ?_|refine LeO.bind ?_ (fun _=>?_)
theorem spec_l1Many.mono:∀a0 k,LeO (spec_l1Many.f k a0) (spec_l1Many.f (k+1) a0):=by
 intro a0 k;have ih0:=spec_l1Many.mono_l k;unfold spec_l1Many.f
 repeat' first|(with_reducible exact ih0 _ _ _)|(with_reducible exact LeO.refl _)|(with_reducible exact LeO.none _)|(with_reducible refine LeO.ite ?_ ?_)|(with_reducible refine LeO.bind ?_ (fun _=>?_))|exact ih0 _ _ _|exact LeO.none _|refine LeO.ite ?_ ?_|refine LeO.bind ?_ (fun _=>?_)
set_option maxHeartbeats 8000000 in
set_option maxRecDepth 100000 in
theorem spec_l1Many.calls (k:Nat) (A0:Option Addr) (c0:Nat) (l0:List Int) (r:Bool) (w:World) (hr0:Kd.C (Kd.int .i64) w A0 l0.length l0) (hc0:l0.length≤c0) (h:spec_l1Many.f k l0=some r) :
  Calls Tryd.prog 69 #[.slice A0 l0.length c0] w fun e w'=>e=.returned (.bool r)∧Drawn0 w w':=by
 have HR0:=qaj.mk hr0;have HC0:=qaj.mk hc0;clear hr0 hc0;have H:(spec_l1Many.l0 k l0 0 0)=some r:=h;clear h;have H':=qaj.mk H;clear H;go_enter Tryd.func69,Tryd.ntmps69;go_wp2
 go_loopg [3,4] k (fun kq v3 v4 w'=>∃(x3_1:Int) (x4_1:Int),v3=.int .i64 x3_1∧v4=.int .i64 x4_1∧qaj (spec_l1Many.l0 kq l0 x3_1 x4_1=some r)∧qaj (kq≤k)∧Drawn0 w w')
 case atStart=>exact⟨(0),(0),(za23),(za23),H',⟨Nat.le_refl _⟩,za32⟩
 case round=>
  clear H';obtain⟨x3_1,x4_1,rfl,rfl,HA,HK1,⟨m1,rfl⟩⟩:=hrel
  cases gk with
  |zero=>exact absurd HA.out (by simp[spec_l1Many.l0])
  |succ k1=>
   have H:=HA.out;clear HA;simp only[spec_l1Many.l0] at H;by_cases c2:x4_1<(l0.length:Int)
   ·rw[if_pos c2] at H;have c2b0:decide (x4_1<(l0.length:Int))=true:=decide_eq_true c2;clear c2;by_cases c3:0≤x4_1
    ·rw[if_pos c3] at H;have c3b0:decide (0≤x4_1)=true:=decide_eq_true c3;clear c3;replace H:=Option.bind_eq_some_iff.mp H;obtain⟨t200,A40,H⟩:=H;replace H:(if t200=true then(spec_l1Many.l0 k1 l0 (wrap64 (x3_1+(rd l0 x4_1))) (wrap64 (x4_1+1))) else(some false))=some r:=H;have A4:=qaj.mk A40;clear A40;by_cases c5:t200=true
     ·subst c5
      have H1:(spec_l1Many.l0 k1 l0 (wrap64 (x3_1+(rd l0 x4_1))) (wrap64 (x4_1+1)))=some r:=by rw[if_pos rfl] at H;exact H
      clear H;have H:=H1;clear H1;have H':=qaj.mk H;clear H;have p199:0≤(x4_1:Int):=of_decide_eq_true (za13);have q199:x4_1<(l0.length:Int):=of_decide_eq_true (za13);obtain⟨ad199,e199,hx199_0⟩:=Kd.at_int HR0.out x4_1 p199 q199
      cases e199
      replace p199:=eq_true p199;replace q199:=eq_true q199
      go_wp2_with(first|((with_reducible refine qae (f:=64) rfl ?_);refine zF (some 15) Tryd.func64 #[.int .i64 (rd l0 x4_1),.int .i64 0,.int .i64 3] ?_;(with_reducible refine(spec_l6In.calls (rd l0 x4_1) 0 3 true _ A4.out).mono ?_);rintro e w' ⟨rfl,⟨nd,rfl⟩⟩;refine⟨_,rfl,?_⟩;have p201:0≤(x4_1:Int):=of_decide_eq_true (za13);have q201:x4_1<(l0.length:Int):=of_decide_eq_true (za13);obtain⟨ad201,e201,hx201_0⟩:=Kd.at_int HR0.out x4_1 p201 q201;obtain rfl:ad199=ad201:=(by injection e201);replace p201:=eq_true p201;replace q201:=eq_true q201))
      go_roundg k1
      case measure=>have:=HK1.out;omega
      case rel=>exact⟨(wrap64 (x3_1+(rd l0 x4_1))),(wrap64 (x4_1+1)),(za23),(za23),H',⟨by have:=HK1.out;omega⟩,za32⟩
     ·replace c5:=Bool.eq_false_iff.mpr c5;subst c5
      have H1:(some false)=some r:=by rw[if_neg (show ¬(false=true) by decide)] at H;exact H
      clear H;have H:=H1;clear H1;obtain rfl:=Option.some.inj H;have p199:0≤(x4_1:Int):=of_decide_eq_true (za13);have q199:x4_1<(l0.length:Int):=of_decide_eq_true (za13);obtain⟨ad199,e199,hx199_0⟩:=Kd.at_int HR0.out x4_1 p199 q199
      cases e199
      replace p199:=eq_true p199;replace q199:=eq_true q199
      go_wp2_with(first|((with_reducible refine qae (f:=64) rfl ?_);refine zF (some 15) Tryd.func64 #[.int .i64 (rd l0 x4_1),.int .i64 0,.int .i64 3] ?_;(with_reducible refine(spec_l6In.calls (rd l0 x4_1) 0 3 false _ A4.out).mono ?_);rintro e w' ⟨rfl,⟨nd,rfl⟩⟩;refine⟨_,rfl,?_⟩))
      go_ret;exact⟨za23,za32⟩
    ·rw[if_neg c3] at H;exact absurd H (by simp)
   ·rw[if_neg c2] at H;have c2b0:decide (x4_1<(l0.length:Int))=false:=decide_eq_false c2;clear c2;by_cases c6:(l0.length:Int)=3
    ·rw[if_pos c6] at H;have c6b0:((l0.length:Int) == 3)=true:=beq_iff_eq.mpr c6;have c6b1:((l0.length:Int) != 3)=false:=bne_eq_false_iff_eq.mpr c6;clear c6;obtain rfl:=Option.some.inj H;go_wp2;go_ret;exact⟨za23,za32⟩
    ·rw[if_neg c6] at H;have c6b0:((l0.length:Int) == 3)=false:=beq_eq_false_iff_ne.mpr c6;have c6b1:((l0.length:Int) != 3)=true:=bne_iff_ne.mpr c6;obtain rfl:=Option.some.inj H;go_wp2;go_ret;exact⟨za23,za32⟩
def spec_RecOk.f (k:Nat) (a0_0:Int) (a0_1:Int) (l0_2:List Int):Option (Bool):=(spec_l6In.f a0_1 1 6).bind fun t203=>(if t203=true then(if a0_0=1 then(if(l0_2.length:Int)=1 then(if 0<(l0_2.length:Int) then((spec_l6In.f (rd l0_2 0) 1 3).bind fun t205=>(some t205)) else(none)) else(some false)) else(if a0_0=4 then((spec_l1Many.f k l0_2).bind fun t206=>(some t206)) else((spec_l6In.f a0_0 2 7).bind fun t207=>(if t207=true then(some ((l0_2.length:Int) == 0)) else(some false))))) else(some false))
theorem spec_RecOk.mono:∀a0 a1 a2 k,LeO (spec_RecOk.f k a0 a1 a2) (spec_RecOk.f (k+1) a0 a1 a2):=by
 intro a0 a1 a2 k;unfold spec_RecOk.f
 repeat' first|(with_reducible exact spec_l1Many.mono _ _)|(with_reducible exact LeO.refl _)|(with_reducible exact LeO.none _)|(with_reducible refine LeO.ite ?_ ?_)|(with_reducible refine LeO.bind ?_ (fun _=>?_))|exact spec_l1Many.mono _ _|exact LeO.none _|refine LeO.ite ?_ ?_|refine LeO.bind ?_ (fun _=>?_)
set_option maxHeartbeats 8000000 in
set_option maxRecDepth 100000 in
theorem spec_RecOk.calls (k:Nat) (a0_0:Int) (a0_1:Int) (A0_2:Option Addr) (c0_2:Nat) (l0_2:List Int) (r:Bool) (w:World) (hr0_2:Kd.C (Kd.int .i64) w A0_2 l0_2.length l0_2) (hc0_2:l0_2.length≤c0_2) (h:spec_RecOk.f k a0_0 a0_1 l0_2=some r) :
  Calls Tryd.prog 41 #[.agg #[.int .i64 a0_0,.int .i64 a0_1,.slice A0_2 l0_2.length c0_2]] w fun e w'=>e=.returned (.bool r)∧Below w.heap.size w w':=by
 have hu25:=Tryd.underlying25;have HR0_2:=qaj.mk hr0_2;have HC0_2:=qaj.mk hc0_2;clear hr0_2 hc0_2;have HB:=qaj.mk (Below.refl w.heap.size w);have H:((spec_l6In.f a0_1 1 6).bind fun t203=>(if t203=true then(if a0_0=1 then(if(l0_2.length:Int)=1 then(if 0<(l0_2.length:Int) then((spec_l6In.f (rd l0_2 0) 1 3).bind fun t205=>(some t205)) else(none)) else(some false)) else(if a0_0=4 then((spec_l1Many.f k l0_2).bind fun t206=>(some t206)) else((spec_l6In.f a0_0 2 7).bind fun t207=>(if t207=true then(some ((l0_2.length:Int) == 0)) else(some false))))) else(some false)))=some r:=h;clear h;replace H:=Option.bind_eq_some_iff.mp H;obtain⟨t203,A20,H⟩:=H;replace H:(if t203=true then(if a0_0=1 then(if(l0_2.length:Int)=1 then(if 0<(l0_2.length:Int) then((spec_l6In.f (rd l0_2 0) 1 3).bind fun t205=>(some t205)) else(none)) else(some false)) else(if a0_0=4 then((spec_l1Many.f k l0_2).bind fun t206=>(some t206)) else((spec_l6In.f a0_0 2 7).bind fun t207=>(if t207=true then(some ((l0_2.length:Int) == 0)) else(some false))))) else(some false))=some r:=H;have A2:=qaj.mk A20;clear A20;by_cases c3:t203=true
 ·subst c3
  have H1:(if a0_0=1 then(if(l0_2.length:Int)=1 then(if 0<(l0_2.length:Int) then((spec_l6In.f (rd l0_2 0) 1 3).bind fun t205=>(some t205)) else(none)) else(some false)) else(if a0_0=4 then((spec_l1Many.f k l0_2).bind fun t206=>(some t206)) else((spec_l6In.f a0_0 2 7).bind fun t207=>(if t207=true then(some ((l0_2.length:Int) == 0)) else(some false)))))=some r:=by rw[if_pos rfl] at H;exact H
  clear H;have H:=H1;clear H1;by_cases c4:a0_0=1
  ·rw[if_pos c4] at H;have c4b0:(a0_0 == 1)=true:=beq_iff_eq.mpr c4;have c4b1:(a0_0 != 1)=false:=bne_eq_false_iff_eq.mpr c4;clear c4;by_cases c5:(l0_2.length:Int)=1
   ·rw[if_pos c5] at H;have c5b0:((l0_2.length:Int) == 1)=true:=beq_iff_eq.mpr c5;have c5b1:((l0_2.length:Int) != 1)=false:=bne_eq_false_iff_eq.mpr c5;clear c5;by_cases c6:0<(l0_2.length:Int)
    ·rw[if_pos c6] at H;have c6b0:decide (0<(l0_2.length:Int))=true:=decide_eq_true c6;have c6b1:decide (0<l0_2.length)=true:=decide_eq_true (by omega);clear c6;replace H:=Option.bind_eq_some_iff.mp H;obtain⟨t205,A70,H⟩:=H;replace H:(some t205)=some r:=H;have A7:=qaj.mk A70;clear A70;obtain rfl:=Option.some.inj H;go_enter Tryd.func41,Tryd.ntmps41
     go_wp2_with(first|((with_reducible refine qai (N:=1) rfl ?_);(try(refine gate_guard (by rfl) ?_;dsimp only));refine zX (N:=1) (cs:=#[.int .i64 a0_0,.int .i64 a0_1,.slice A0_2 l0_2.length c0_2]) (t:=25) ?_;intro gb202 hg w8 hbox hb;have BK202:=qaj.mk hbox;have GW202:=zH (w:=w) hg (za2 HB);have GE202:=GW202;replace HB:=qaj.mk (qaa (za2 HB) hb);clear hb hbox hg;obtain⟨hcz9_0,hcz9_1,hcz9_2,hfz9_0,hfz9_1,hfz9_2⟩:=zC3 BK202)|((with_reducible refine qae (f:=64) rfl ?_);refine zF (some 5) Tryd.func64 #[.int .i64 a0_1,.int .i64 1,.int .i64 6] ?_;(with_reducible refine(spec_l6In.calls a0_1 1 6 true _ A2.out).mono ?_);rintro e w' ⟨rfl,⟨nd,rfl⟩⟩;refine⟨_,rfl,?_⟩;have p204:0≤(0:Int):=(by omega);have q204:0<(l0_2.length:Int):=of_decide_eq_true (za13);obtain⟨ad204,e204,hx204_0⟩:=Kd.at_int HR0_2.out 0 p204 q204;cases e204;have qi204:(0<l0_2.length)=True:=eq_true (by omega);(try rw[show((0:Int)).toNat=0 from rfl] at hx204_0);(try rw[Addr.add_zero'] at hx204_0);replace hx204_0:=(HB.out.cell (World.block_lt_of_cell? w _ hx204_0)).trans hx204_0;replace p204:=eq_true p204;replace q204:=eq_true q204)|(go_at_call 64;(with_reducible refine(spec_l6In.calls (rd l0_2 0) 1 3 t205 _ A7.out).mono ?_);rintro e w' ⟨rfl,⟨nd,rfl⟩⟩))
     go_ret;exact⟨za10,za0 HB GE202⟩
    ·rw[if_neg c6] at H;exact absurd H (by simp)
   ·rw[if_neg c5] at H;have c5b0:((l0_2.length:Int) == 1)=false:=beq_eq_false_iff_ne.mpr c5;have c5b1:((l0_2.length:Int) != 1)=true:=bne_iff_ne.mpr c5;obtain rfl:=Option.some.inj H;go_enter Tryd.func41,Tryd.ntmps41
    go_wp2_with(first|((with_reducible refine qai (N:=1) rfl ?_);(try(refine gate_guard (by rfl) ?_;dsimp only));refine zX (N:=1) (cs:=#[.int .i64 a0_0,.int .i64 a0_1,.slice A0_2 l0_2.length c0_2]) (t:=25) ?_;intro gb202 hg w10 hbox hb;have BK202:=qaj.mk hbox;have GW202:=zH (w:=w) hg (za2 HB);have GE202:=GW202;replace HB:=qaj.mk (qaa (za2 HB) hb);clear hb hbox hg;obtain⟨hcz11_0,hcz11_1,hcz11_2,hfz11_0,hfz11_1,hfz11_2⟩:=zC3 BK202)|((with_reducible refine qae (f:=64) rfl ?_);refine zF (some 5) Tryd.func64 #[.int .i64 a0_1,.int .i64 1,.int .i64 6] ?_;(with_reducible refine(spec_l6In.calls a0_1 1 6 true _ A2.out).mono ?_);rintro e w' ⟨rfl,⟨nd,rfl⟩⟩;refine⟨_,rfl,?_⟩))
    go_ret;exact⟨za10,za0 HB GE202⟩
  ·rw[if_neg c4] at H;have c4b0:(a0_0 == 1)=false:=beq_eq_false_iff_ne.mpr c4;have c4b1:(a0_0 != 1)=true:=bne_iff_ne.mpr c4;by_cases c12:a0_0=4
   ·rw[if_pos c12] at H;have c12b0:(a0_0 == 4)=true:=beq_iff_eq.mpr c12;have c12b1:(a0_0 != 4)=false:=bne_eq_false_iff_eq.mpr c12;clear c12;replace H:=Option.bind_eq_some_iff.mp H;obtain⟨t206,A130,H⟩:=H;replace H:(some t206)=some r:=H;have A13:=qaj.mk A130;clear A130;obtain rfl:=Option.some.inj H;go_enter Tryd.func41,Tryd.ntmps41
    go_wp2_with(first|((with_reducible refine qai (N:=1) rfl ?_);(try(refine gate_guard (by rfl) ?_;dsimp only));refine zX (N:=1) (cs:=#[.int .i64 a0_0,.int .i64 a0_1,.slice A0_2 l0_2.length c0_2]) (t:=25) ?_;intro gb202 hg w14 hbox hb;have BK202:=qaj.mk hbox;have GW202:=zH (w:=w) hg (za2 HB);have GE202:=GW202;replace HB:=qaj.mk (qaa (za2 HB) hb);clear hb hbox hg;obtain⟨hcz15_0,hcz15_1,hcz15_2,hfz15_0,hfz15_1,hfz15_2⟩:=zC3 BK202)|((with_reducible refine qae (f:=64) rfl ?_);refine zF (some 5) Tryd.func64 #[.int .i64 a0_1,.int .i64 1,.int .i64 6] ?_;(with_reducible refine(spec_l6In.calls a0_1 1 6 true _ A2.out).mono ?_);rintro e w' ⟨rfl,⟨nd,rfl⟩⟩;refine⟨_,rfl,?_⟩)|((with_reducible refine qae (f:=69) rfl ?_);refine zF (some 26) Tryd.func69 #[.slice A0_2 l0_2.length c0_2] ?_;(with_reducible refine(spec_l1Many.calls k _ _ l0_2 t206 _ ?side1 ?side2 A13.out).mono ?_);(case side1=>repeat(first|exact(Kd.C_below HR0_2.out (za0 HB GE202))|(with_reducible refine Kd.C_alloc ?_ _)|(with_reducible refine Kd.C_drewN ?_ _)|(with_reducible refine Kd.C_drew ?_)));(case side2=>exact HC0_2.out);rintro e w' ⟨rfl,⟨nd,rfl⟩⟩;refine⟨_,rfl,?_⟩))
    go_ret;exact⟨za10,za0 HB GE202⟩
   ·rw[if_neg c12] at H;have c12b0:(a0_0 == 4)=false:=beq_eq_false_iff_ne.mpr c12;have c12b1:(a0_0 != 4)=true:=bne_iff_ne.mpr c12;replace H:=Option.bind_eq_some_iff.mp H;obtain⟨t207,A160,H⟩:=H;replace H:(if t207=true then(some ((l0_2.length:Int) == 0)) else(some false))=some r:=H;have A16:=qaj.mk A160;clear A160;by_cases c17:t207=true
    ·subst c17
     have H1:(some ((l0_2.length:Int) == 0))=some r:=by rw[if_pos rfl] at H;exact H
     clear H;have H:=H1;clear H1;obtain rfl:=Option.some.inj H;go_enter Tryd.func41,Tryd.ntmps41
     go_wp2_with(first|((with_reducible refine qai (N:=1) rfl ?_);(try(refine gate_guard (by rfl) ?_;dsimp only));refine zX (N:=1) (cs:=#[.int .i64 a0_0,.int .i64 a0_1,.slice A0_2 l0_2.length c0_2]) (t:=25) ?_;intro gb202 hg w18 hbox hb;have BK202:=qaj.mk hbox;have GW202:=zH (w:=w) hg (za2 HB);have GE202:=GW202;replace HB:=qaj.mk (qaa (za2 HB) hb);clear hb hbox hg;obtain⟨hcz19_0,hcz19_1,hcz19_2,hfz19_0,hfz19_1,hfz19_2⟩:=zC3 BK202)|((with_reducible refine qae (f:=64) rfl ?_);refine zF (some 5) Tryd.func64 #[.int .i64 a0_1,.int .i64 1,.int .i64 6] ?_;(with_reducible refine(spec_l6In.calls a0_1 1 6 true _ A2.out).mono ?_);rintro e w' ⟨rfl,⟨nd,rfl⟩⟩;refine⟨_,rfl,?_⟩)|((with_reducible refine qae (f:=64) rfl ?_);refine zF (some 29) Tryd.func64 #[.int .i64 a0_0,.int .i64 2,.int .i64 7] ?_;(with_reducible refine(spec_l6In.calls a0_0 2 7 true _ A16.out).mono ?_);rintro e w' ⟨rfl,⟨nd,rfl⟩⟩;refine⟨_,rfl,?_⟩))
     go_ret;exact⟨za10,za0 HB GE202⟩
    ·replace c17:=Bool.eq_false_iff.mpr c17;subst c17
     have H1:(some false)=some r:=by rw[if_neg (show ¬(false=true) by decide)] at H;exact H
     clear H;have H:=H1;clear H1;obtain rfl:=Option.some.inj H;go_enter Tryd.func41,Tryd.ntmps41
     go_wp2_with(first|((with_reducible refine qai (N:=1) rfl ?_);(try(refine gate_guard (by rfl) ?_;dsimp only));refine zX (N:=1) (cs:=#[.int .i64 a0_0,.int .i64 a0_1,.slice A0_2 l0_2.length c0_2]) (t:=25) ?_;intro gb202 hg w20 hbox hb;have BK202:=qaj.mk hbox;have GW202:=zH (w:=w) hg (za2 HB);have GE202:=GW202;replace HB:=qaj.mk (qaa (za2 HB) hb);clear hb hbox hg;obtain⟨hcz21_0,hcz21_1,hcz21_2,hfz21_0,hfz21_1,hfz21_2⟩:=zC3 BK202)|((with_reducible refine qae (f:=64) rfl ?_);refine zF (some 5) Tryd.func64 #[.int .i64 a0_1,.int .i64 1,.int .i64 6] ?_;(with_reducible refine(spec_l6In.calls a0_1 1 6 true _ A2.out).mono ?_);rintro e w' ⟨rfl,⟨nd,rfl⟩⟩;refine⟨_,rfl,?_⟩)|((with_reducible refine qae (f:=64) rfl ?_);refine zF (some 29) Tryd.func64 #[.int .i64 a0_0,.int .i64 2,.int .i64 7] ?_;(with_reducible refine(spec_l6In.calls a0_0 2 7 false _ A16.out).mono ?_);rintro e w' ⟨rfl,⟨nd,rfl⟩⟩;refine⟨_,rfl,?_⟩))
     go_ret;exact⟨za10,za0 HB GE202⟩
 ·replace c3:=Bool.eq_false_iff.mpr c3;subst c3
  have H1:(some false)=some r:=by rw[if_neg (show ¬(false=true) by decide)] at H;exact H
  clear H;have H:=H1;clear H1;obtain rfl:=Option.some.inj H;go_enter Tryd.func41,Tryd.ntmps41
  go_wp2_with(first|((with_reducible refine qai (N:=1) rfl ?_);(try(refine gate_guard (by rfl) ?_;dsimp only));refine zX (N:=1) (cs:=#[.int .i64 a0_0,.int .i64 a0_1,.slice A0_2 l0_2.length c0_2]) (t:=25) ?_;intro gb202 hg w22 hbox hb;have BK202:=qaj.mk hbox;have GW202:=zH (w:=w) hg (za2 HB);have GE202:=GW202;replace HB:=qaj.mk (qaa (za2 HB) hb);clear hb hbox hg;obtain⟨hcz23_0,hcz23_1,hcz23_2,hfz23_0,hfz23_1,hfz23_2⟩:=zC3 BK202)|((with_reducible refine qae (f:=64) rfl ?_);refine zF (some 5) Tryd.func64 #[.int .i64 a0_1,.int .i64 1,.int .i64 6] ?_;(with_reducible refine(spec_l6In.calls a0_1 1 6 false _ A2.out).mono ?_);rintro e w' ⟨rfl,⟨nd,rfl⟩⟩;refine⟨_,rfl,?_⟩))
  go_ret;exact⟨za10,za0 HB GE202⟩
def spec_l1Names.f :Option (List ByteArray):=some (([(⟨#[]⟩:ByteArray),(⟨#[104,111,108,100]⟩:ByteArray),(⟨#[99,108,111,115,101]⟩:ByteArray),(⟨#[117,110,100,111]⟩:ByteArray),(⟨#[98,101,103,105,110]⟩:ByteArray),(⟨#[121,101,115]⟩:ByteArray),(⟨#[110,111]⟩:ByteArray),(⟨#[101,110,100]⟩:ByteArray)]:List ByteArray))
set_option maxHeartbeats 8000000 in
set_option maxRecDepth 100000 in
theorem spec_l1Names.calls  (r:List ByteArray) (w:World) (h:spec_l1Names.f =some r) :
  Calls Tryd.prog 42 #[] w fun e w'=>∃v0_:Value,e=.returned (v0_)∧Kd.R Kd.string 9 w' w.heap.size (fun _=>True) v0_ r∧Below w.heap.size w w':=by
 have HB:=qaj.mk (Below.refl w.heap.size w);have H:(some (([(⟨#[]⟩:ByteArray),(⟨#[104,111,108,100]⟩:ByteArray),(⟨#[99,108,111,115,101]⟩:ByteArray),(⟨#[117,110,100,111]⟩:ByteArray),(⟨#[98,101,103,105,110]⟩:ByteArray),(⟨#[121,101,115]⟩:ByteArray),(⟨#[110,111]⟩:ByteArray),(⟨#[101,110,100]⟩:ByteArray)]:List ByteArray)))=some r:=h;clear h;obtain⟨y208,hy208⟩:∃y_:List ByteArray,y_=(([(⟨#[]⟩:ByteArray),(⟨#[104,111,108,100]⟩:ByteArray),(⟨#[99,108,111,115,101]⟩:ByteArray),(⟨#[117,110,100,111]⟩:ByteArray),(⟨#[98,101,103,105,110]⟩:ByteArray),(⟨#[121,101,115]⟩:ByteArray),(⟨#[110,111]⟩:ByteArray),(⟨#[101,110,100]⟩:ByteArray)]:List ByteArray)):=⟨_,rfl⟩
 replace H:(some y208)=some r:=by first|(rw[hy208];with_reducible exact H)|(have H2_:=(Option.bind_some _ _).symm.trans H;rw[hy208];with_reducible exact H2_)|(have H2_:=(Option.bind_some _ _).symm.trans H;with_reducible exact H2_)|with_reducible exact H|(rw[hy208];exact H)|exact H
 have Ny208:=qaj.mk hy208;clear hy208;obtain rfl:=Option.some.inj H;go_enter Tryd.func42,Tryd.ntmps42
 go_wp2_with(first|((with_reducible refine qai (N:=1) rfl ?_);refine Kd.R_lit Kd.string _ 9 (by rfl) (N:=1) (by rfl) (xs:=([(⟨#[]⟩:ByteArray),(⟨#[104,111,108,100]⟩:ByteArray),(⟨#[99,108,111,115,101]⟩:ByteArray),(⟨#[117,110,100,111]⟩:ByteArray),(⟨#[98,101,103,105,110]⟩:ByteArray),(⟨#[121,101,115]⟩:ByteArray),(⟨#[110,111]⟩:ByteArray),(⟨#[101,110,100]⟩:ByteArray)]:List ByteArray)) (inner:=[.string (⟨#[]⟩:ByteArray),.string (⟨#[104,111,108,100]⟩:ByteArray),.string (⟨#[99,108,111,115,101]⟩:ByteArray),.string (⟨#[117,110,100,111]⟩:ByteArray),.string (⟨#[98,101,103,105,110]⟩:ByteArray),.string (⟨#[121,101,115]⟩:ByteArray),.string (⟨#[110,111]⟩:ByteArray),.string (⟨#[101,110,100]⟩:ByteArray)]) (ok:=fun _=>True) (okp:=fun _=>True) (by first|(go_simp;done)|(go_simp;rfl)) ?hp (fun _ hk=>hk) trivial (Below.refl _ _) (Nat.le_refl _) (by simp) ?_;(case hp=>exact(Reps.one (show Kd.M Kd.string _ _ _ (⟨#[]⟩:ByteArray) [.string (⟨#[]⟩:ByteArray)] from rfl) (Reps.one (show Kd.M Kd.string _ _ _ (⟨#[104,111,108,100]⟩:ByteArray) [.string (⟨#[104,111,108,100]⟩:ByteArray)] from rfl) (Reps.one (show Kd.M Kd.string _ _ _ (⟨#[99,108,111,115,101]⟩:ByteArray) [.string (⟨#[99,108,111,115,101]⟩:ByteArray)] from rfl) (Reps.one (show Kd.M Kd.string _ _ _ (⟨#[117,110,100,111]⟩:ByteArray) [.string (⟨#[117,110,100,111]⟩:ByteArray)] from rfl) (Reps.one (show Kd.M Kd.string _ _ _ (⟨#[98,101,103,105,110]⟩:ByteArray) [.string (⟨#[98,101,103,105,110]⟩:ByteArray)] from rfl) (Reps.one (show Kd.M Kd.string _ _ _ (⟨#[121,101,115]⟩:ByteArray) [.string (⟨#[121,101,115]⟩:ByteArray)] from rfl) (Reps.one (show Kd.M Kd.string _ _ _ (⟨#[110,111]⟩:ByteArray) [.string (⟨#[110,111]⟩:ByteArray)] from rfl) (Reps.one (show Kd.M Kd.string _ _ _ (⟨#[101,110,100]⟩:ByteArray) [.string (⟨#[101,110,100]⟩:ByteArray)] from rfl) (Reps.none _ _))))))))));intro v209 w1 ho2 hb hg_ hnew_;clear hg_ hnew_;(first|rw[←Ny208.out] at ho2|(simp only[Int.reduceToNat] at ho2;rw[←Ny208.out] at ho2));have HO210:=qaj.mk (Kd.R_lower ho2 (qam (za2 HB)));replace HB:=qaj.mk (qaa (za2 HB) hb);clear hb ho2))
 go_ret;exact⟨_,za10,za3 HO210,za2 HB⟩
end Go.Proofs.YtbcepmkifomifaaDoor.Print
