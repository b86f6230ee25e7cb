-- Written by squeeze.py: not trusted, Lean checks it.
import Derived.Test.YtbcepmkifomifaaDoorZK
import Derived.Test.YtbcepmkifomifaaDoorZe0
import Derived.Test.YtbcepmkifomifaaDoorZp2
namespace Go.Proofs.YtbcepmkifomifaaDoor.Print
open Go.RowKit Go.Proofs.YtbcepmkifomifaaDoorW.PrintWords Go.Proofs.YtbcepmkifomifaaDoorW.PrintLast Go.Proofs.YtbcepmkifomifaaDoorW.PrintMore
attribute [local go_sem] max2_int min2_int max_two min_two max_three min_three max_four min_four
set_option linter.unusedVariables false
set_option linter.unusedSimpArgs false
def impl_WordText.T4:Bool × List (List Nat × List Nat):=(true,[([],[]),([],[]),([1],[1]),([0,2],[0,2]),([3],[3]),([],[]),([5],[5]),([],[]),([7],[7]),([],[]),([9],[9]),([6,8,10],[6,8,10]),([4,11,0],[4,11]),([12,12,0,1,2,3,4,5,6,7,8,9,10,11,12],[12])])
def impl_WordText.B4:List Nat:=[0,0,2,7,15,0,32,0,128,0,512,2016,4095,8191]
theorem impl_WordText.tab4:rtab .any (opsOf Tryd.f28 4)=impl_WordText.T4:=by kernel_rfl
theorem impl_WordText.bits4:waitsOk impl_WordText.T4.2 impl_WordText.B4=true:=by kernel_rfl
def impl_WordText.T5:Bool × List (List Nat × List Nat):=(true,[([],[]),([],[]),([1],[1]),([0,2],[0,2]),([3],[3]),([],[]),([5],[5]),([],[]),([7],[7]),([6,8],[6,8]),([4,9,0],[4,9]),([10,10,0,1,2,3,4,5,6,7,8,9,10],[10])])
def impl_WordText.B5:List Nat:=[0,0,2,7,15,0,32,0,128,480,1023,2047]
theorem impl_WordText.tab5:rtab .any (opsOf Tryd.f28 5)=impl_WordText.T5:=by kernel_rfl
theorem impl_WordText.bits5:waitsOk impl_WordText.T5.2 impl_WordText.B5=true:=by kernel_rfl
def impl_WordText.f (a0_0:Int) (a0_1:Int) (a0_2:Int) (a0_3:Int):Option (ByteArray):=(impl_WordOk.f a0_0 a0_1 a0_2 a0_3).bind fun t=>if t=true then(impl_wordWords.f).bind fun ws=>if 0≤a0_0∧a0_0<(ws.length:Int) then(if a0_0=1 then impl_joined.f (rdOf ByteArray.empty ws a0_0) [a0_1,a0_2,a0_3] else impl_joined.f (rdOf ByteArray.empty ws a0_0) [a0_1,a0_2]) else none else some ⟨#[]⟩
set_option maxHeartbeats 8000000 in
set_option maxRecDepth 100000 in
theorem impl_WordText.calls (a0_0:Int) (a0_1:Int) (a0_2:Int) (a0_3:Int) (r:ByteArray) (w:World) (h:impl_WordText.f a0_0 a0_1 a0_2 a0_3=some r) :
  Calls Tryd.prog 28 #[.agg #[.int .i64 a0_0,.int .i64 a0_1,.int .i64 a0_2,.int .i64 a0_3]] w fun e w'=>e=.returned (.string r)∧Below w.heap.size w w':=by
 have hu39:=Tryd.underlying39;have HB:=qaj.mk (Below.refl w.heap.size w);unfold impl_WordText.f at h;obtain⟨t,A2,h⟩:=Option.bind_eq_some_iff.mp h;have A2:=qaj.mk A2;by_cases c3:t=true
 ·subst c3;rw[if_pos rfl] at h;obtain⟨ws,A4,h⟩:=Option.bind_eq_some_iff.mp h;have A4:=qaj.mk A4;by_cases c5:0≤a0_0∧a0_0<(ws.length:Int)
  ·rw[if_pos c5] at h;obtain⟨p436,q436⟩:=c5;have c5b:decide (0≤a0_0)=true:=decide_eq_true p436;have c6b:decide (a0_0<(ws.length:Int))=true:=decide_eq_true q436;by_cases c7:a0_0=1
   ·rw[if_pos c7] at h;have c7b:(a0_0 == 1)=true:=beq_iff_eq.mpr c7;clear c7;have A5:=qaj.mk h;clear h;go_enter Tryd.func28,Tryd.ntmps28
    try go_wp2_with(first|((with_reducible refine qai (N:=1) rfl ?_);refine zX (N:=1) (cs:=#[.int .i64 a0_0,.int .i64 a0_1,.int .i64 a0_2,.int .i64 a0_3]) (t:=39) ?_;intro gb hg w10 hbox hb;have n0_:=qaj.mk (qaa HB.out hb);have BK:=qaj.mk hbox;clear HB;have HB:=n0_;clear n0_;clear hb hbox hg;have hcz11_0:w10.cell? ⟨gb,0,none⟩=some (.int .i64 a0_0):=(qag BK.out 0).trans rfl;have hcz11_1:w10.cell? ⟨gb,1,none⟩=some (.int .i64 a0_1):=(qag BK.out 1).trans rfl;have hcz11_2:w10.cell? ⟨gb,2,none⟩=some (.int .i64 a0_2):=(qag BK.out 2).trans rfl;have hcz11_3:w10.cell? ⟨gb,3,none⟩=some (.int .i64 a0_3):=(qag BK.out 3).trans rfl;have hfz11_0:=qao BK.out 0;have hfz11_1:=qao BK.out 1;have hfz11_2:=qao BK.out 2;have hfz11_3:=qao BK.out 3)|((with_reducible refine qae (f:=33) rfl ?_);refine goesL_ (some 5) rfl rfl Tryd.func33 (by kernel_rfl) rfl #[.agg #[.int .i64 a0_0,.int .i64 a0_1,.int .i64 a0_2,.int .i64 a0_3]] rfl (by(try simp only[List.map_toArray,List.map_cons,List.map_nil]);first|done|rfl) ?_;(with_reducible refine(impl_WordOk.calls a0_0 a0_1 a0_2 a0_3 true _ A2.out).mono ?_);rintro e w12 ⟨rfl,hb⟩;refine⟨_,rfl,?_⟩;replace BK:=qaj.mk (qah (g:=gb) (o:=.cells #[.int .i64 a0_0,.int .i64 a0_1,.int .i64 a0_2,.int .i64 a0_3] 39 (0,0)) BK.out hb);replace HB:=qaj.mk (qaa HB.out hb);clear hb;have hcw0_:w12.cell? ⟨gb,0,none⟩=some (.int .i64 a0_0):=(qag BK.out 0).trans rfl;have hcw1_:w12.cell? ⟨gb,1,none⟩=some (.int .i64 a0_1):=(qag BK.out 1).trans rfl;have hcw2_:w12.cell? ⟨gb,2,none⟩=some (.int .i64 a0_2):=(qag BK.out 2).trans rfl;have hcw3_:w12.cell? ⟨gb,3,none⟩=some (.int .i64 a0_3):=(qag BK.out 3).trans rfl))
    replace BK:=qaj.mk (qad BK.out);replace HB:=qaj.mk (qar HB.out);clear hcw0_ hcw1_ hcw2_ hcw3_;refine start_ (n:=14) (S:=fun w'=>w'.cell? ⟨gb,0,none⟩=some (.int .i64 a0_0)∧w'.cell? ⟨gb,1,none⟩=some (.int .i64 a0_1)∧w'.cell? ⟨gb,2,none⟩=some (.int .i64 a0_2)∧w'.cell? ⟨gb,3,none⟩=some (.int .i64 a0_3)) (ds:=[]) #[false,false,false,false,false,false,false,false,false,false,false,false,false,false] (by kernel_rfl) rfl rfl ⟨(qag BK.out 0).trans rfl,(qag BK.out 1).trans rfl,(qag BK.out 2).trans rfl,(qag BK.out 3).trans rfl⟩ (fun hHeld=>?_);refine with_tabW impl_WordText.tab4 impl_WordText.bits4 (fun HT_ HW_=>?_);generalize w12.drew=w13 at BK HB hHeld ⊢;refine qaq (i:=1) (N:=some 12) (v:=?_) (a':=?_) #[false,true,false,false,false,false,false,false,false,false,false,false,false,false] rfl rfl (qan HT_.out (by kernel_rfl)) (fun _ _ _ h=>h) (Or.inl ⟨by rfl,?_⟩) ?_ ?_;rotate_left
    ·intro w';go_simp
     with_reducible rfl
    rotate_left
    ·simp only[Act.put,List.setIfInBounds_toArray,List.set_cons_zero,List.set_cons_succ,qak,qal];rfl
    refine qaq (i:=5) (N:=some 16) (v:=?_) (a':=?_) #[false,true,false,false,false,true,false,false,false,false,false,false,false,false] rfl rfl (qan HT_.out (by kernel_rfl)) (fun _ _ _ h=>h) (Or.inl ⟨by rfl,?_⟩) ?_ ?_;rotate_left
    ·intro w';go_simp
     with_reducible rfl
    rotate_left
    ·simp only[Act.put,List.setIfInBounds_toArray,List.set_cons_zero,List.set_cons_succ,qak,qal];rfl
    refine qaq (i:=7) (N:=some 18) (v:=?_) (a':=?_) #[false,true,false,false,false,true,false,true,false,false,false,false,false,false] rfl rfl (qan HT_.out (by kernel_rfl)) (fun _ _ _ h=>h) (Or.inl ⟨by rfl,?_⟩) ?_ ?_;rotate_left
    ·intro w';go_simp
     with_reducible rfl
    rotate_left
    ·simp only[Act.put,List.setIfInBounds_toArray,List.set_cons_zero,List.set_cons_succ,qak,qal];rfl
    refine qaq (i:=9) (N:=some 20) (v:=?_) (a':=?_) #[false,true,false,false,false,true,false,true,false,true,false,false,false,false] rfl rfl (qan HT_.out (by kernel_rfl)) (fun _ _ _ h=>h) (Or.inl ⟨by rfl,?_⟩) ?_ ?_;rotate_left
    ·intro w';go_simp
     with_reducible rfl
    rotate_left
    ·simp only[Act.put,List.setIfInBounds_toArray,List.set_cons_zero,List.set_cons_succ,qak,qal];rfl
    refine take_ (i:=2) (N:=some 13) (v:=?_) (a':=?_) #[false,true,true,false,false,true,false,true,false,true,false,false,false,false] rfl rfl (take_ofW HT_.out HW_.out (by kernel_rfl)) (fun _ _ _ h=>h) (Or.inl ⟨by rfl,?_⟩) hHeld ?_ ?_;rotate_left
    ·rintro w' ⟨s0,s1,s2,s3⟩;go_simp
     with_reducible rfl
    rotate_left
    ·simp only[Act.put,List.setIfInBounds_toArray,List.set_cons_zero,List.set_cons_succ,qak,qal];rfl
    refine take_ (i:=6) (N:=some 17) (v:=?_) (a':=?_) #[false,true,true,false,false,true,true,true,false,true,false,false,false,false] rfl rfl (take_ofW HT_.out HW_.out (by kernel_rfl)) (fun _ _ _ h=>h) (Or.inl ⟨by rfl,?_⟩) hHeld ?_ ?_;rotate_left
    ·rintro w' ⟨s0,s1,s2,s3⟩;go_simp
     with_reducible rfl
    rotate_left
    ·simp only[Act.put,List.setIfInBounds_toArray,List.set_cons_zero,List.set_cons_succ,qak,qal];rfl
    refine take_ (i:=8) (N:=some 19) (v:=?_) (a':=?_) #[false,true,true,false,false,true,true,true,true,true,false,false,false,false] rfl rfl (take_ofW HT_.out HW_.out (by kernel_rfl)) (fun _ _ _ h=>h) (Or.inl ⟨by rfl,?_⟩) hHeld ?_ ?_;rotate_left
    ·rintro w' ⟨s0,s1,s2,s3⟩;go_simp
     with_reducible rfl
    rotate_left
    ·simp only[Act.put,List.setIfInBounds_toArray,List.set_cons_zero,List.set_cons_succ,qak,qal];rfl
    refine take_ (i:=10) (N:=some 21) (v:=?_) (a':=?_) #[false,true,true,false,false,true,true,true,true,true,true,false,false,false] rfl rfl (take_ofW HT_.out HW_.out (by kernel_rfl)) (fun _ _ _ h=>h) (Or.inl ⟨by rfl,?_⟩) hHeld ?_ ?_;rotate_left
    ·rintro w' ⟨s0,s1,s2,s3⟩;go_simp
     with_reducible rfl
    rotate_left
    ·simp only[Act.put,List.setIfInBounds_toArray,List.set_cons_zero,List.set_cons_succ,qak,qal];rfl
    refine two_ (i:=0) (j:=11) (Ni:=some 11) (Nj:=some 22) #[true,true,true,false,false,true,true,true,true,true,true,false,false,false] #[false,true,true,false,false,true,true,true,true,true,true,true,false,false] rfl rfl rfl rfl (two_of HT_.out (by kernel_rfl)) (by decide) (by decide) (fun K hK=>?pa4) (fun K hK=>?pb4)
    case' pa4=>
     refine goes_ Tryd.func59 (by kernel_rfl) rfl #[] (by rfl) rfl rfl (by(try simp only[List.map_toArray,List.map_cons,List.map_nil]);first|done|rfl) ?_
     with_reducible refine(impl_wordWords.calls ws _ A4.out).mono ?_
     rintro e w21 ⟨v434,rfl,ho0,hb⟩;refine⟨_,rfl,?_⟩;have n0_:=qaj.mk (Kd.R_lower ho0 (qam HB.out));have n1_:=qaj.mk (qah (g:=gb) (o:=.cells #[.int .i64 a0_0,.int .i64 a0_1,.int .i64 a0_2,.int .i64 a0_3] 39 (0,0)) BK.out hb);have n2_:=qaj.mk (qaa HB.out hb);clear BK HB;have HO:=n0_;have BK:=n1_;have HB:=n2_;obtain⟨Ao,co,eo⟩:=Kd.R_slice HO.out;subst eo;obtain⟨ad,e436,hx⟩:=Kd.at_string (Kd.R_reads' HO.out).2.2 a0_0 p436 q436
     cases e436
     refine hK.out _ _ ⟨(qag BK.out 0).trans rfl,(qag BK.out 1).trans rfl,(qag BK.out 2).trans rfl,(qag BK.out 3).trans rfl⟩ (fun hHeld=>?_);clear hK K;refine norm_ (a':=?_) ?_ ?_;rotate_left
     ·show Act.put _ (some 11) _=_;simp only[Act.put,List.setIfInBounds_toArray,List.set_cons_zero,List.set_cons_succ,qak,qal];rfl
     refine qaq (i:=3) (N:=some 14) (v:=?_) (a':=?_) #[true,true,true,true,false,true,true,true,true,true,true,false,false,false] rfl rfl (qan HT_.out (by kernel_rfl)) (fun _ _ _ h=>h) (Or.inl ⟨by rfl,?_⟩) ?_ ?_;rotate_left
     ·intro w';go_simp
      with_reducible rfl
     rotate_left
     ·simp only[Act.put,List.setIfInBounds_toArray,List.set_cons_zero,List.set_cons_succ,qak,qal];rfl
     refine more_ (S2:=fun w'=>w'.cell? ⟨gb,0,none⟩=some (.int .i64 a0_0)∧w'.cell? ⟨gb,1,none⟩=some (.int .i64 a0_1)∧w'.cell? ⟨gb,2,none⟩=some (.int .i64 a0_2)∧w'.cell? ⟨gb,3,none⟩=some (.int .i64 a0_3)∧w'.cell? (ad.add (a0_0).toNat)=some (.string (rdOf ByteArray.empty ws a0_0))) (fun _ h=>⟨h.1,h.2.1,h.2.2.1,h.2.2.2.1⟩) ⟨hHeld.1,hHeld.2.1,hHeld.2.2.1,hHeld.2.2.2,hx⟩ (fun hHeld=>?_);refine take_ (i:=4) (N:=some 15) (v:=?_) (a':=?_) #[true,true,true,true,true,true,true,true,true,true,true,false,false,false] rfl rfl (take_ofW HT_.out HW_.out (by kernel_rfl)) (fun _ _ _ h=>h) (Or.inl ⟨by rfl,?_⟩) hHeld ?_ ?_;rotate_left
     ·rintro w' ⟨s0,s1,s2,s3,s4⟩;go_simp
      with_reducible rfl
     rotate_left
     ·simp only[Act.put,List.setIfInBounds_toArray,List.set_cons_zero,List.set_cons_succ,qak,qal];rfl
     refine one_ (i:=11) (N:=some 22) #[true,true,true,true,true,true,true,true,true,true,true,true,false,false] rfl rfl (one_of HT_.out (by kernel_rfl)) (by decide) (fun K hK=>?_);refine Kd.R_lit_step (Kd.int .i64) _ 3 (by rfl) (N:=22) (by rfl) (xs:=([a0_1,a0_2,a0_3]:List Int)) (inner:=[.int .i64 a0_1,.int .i64 a0_2,.int .i64 a0_3]) (ok:=fun _=>True) (okp:=fun _=>True) (by first|(go_simp;done)|(go_simp;rfl)) ?hp (fun _ hk=>hk) trivial (Below.refl _ _) (Nat.le_refl _) (by simp) ?_;(case hp=>exact(Reps.one (show Kd.M (Kd.int .i64) _ _ _ a0_1 [.int .i64 a0_1] from rfl) (Reps.one (show Kd.M (Kd.int .i64) _ _ _ a0_2 [.int .i64 a0_2] from rfl) (Reps.one (show Kd.M (Kd.int .i64) _ _ _ a0_3 [.int .i64 a0_3] from rfl) (Reps.none _ _)))));intro v13 w15 ho16 hb hg_ hnew_;clear hg_ hnew_;have n0_:=qaj.mk (Kd.R_lower ho16 (qam HB.out));have n1_:=qaj.mk (qah (g:=gb) (o:=.cells #[.int .i64 a0_0,.int .i64 a0_1,.int .i64 a0_2,.int .i64 a0_3] 39 (0,0)) BK.out hb);have n2_:=qaj.mk (qaa HB.out hb);have n3_:=qaj.mk (Kd.R_below HO.out hb);clear HO;have HO:=n3_;have HS_:=(hb.cell (World.block_lt_of_cell? _ _ hHeld.2.2.2.2)).trans hHeld.2.2.2.2;clear BK HB ho16 hb;have HL:=n0_;have BK:=n1_;have HB:=n2_;refine hK.out _ _ ⟨(qag BK.out 0).trans rfl,(qag BK.out 1).trans rfl,(qag BK.out 2).trans rfl,(qag BK.out 3).trans rfl,HS_⟩ (fun hHeld=>?_);clear hK K;refine norm_ (a':=?_) ?_ ?_;rotate_left
     ·show Act.put _ (some 22) _=_;simp only[Act.put,List.setIfInBounds_toArray,List.set_cons_zero,List.set_cons_succ,qak,qal];rfl
    case' pb4=>
     refine Kd.R_lit_step (Kd.int .i64) _ 3 (by rfl) (N:=22) (by rfl) (xs:=([a0_1,a0_2,a0_3]:List Int)) (inner:=[.int .i64 a0_1,.int .i64 a0_2,.int .i64 a0_3]) (ok:=fun _=>True) (okp:=fun _=>True) (by first|(go_simp;done)|(go_simp;rfl)) ?hp (fun _ hk=>hk) trivial (Below.refl _ _) (Nat.le_refl _) (by simp) ?_;(case hp=>exact(Reps.one (show Kd.M (Kd.int .i64) _ _ _ a0_1 [.int .i64 a0_1] from rfl) (Reps.one (show Kd.M (Kd.int .i64) _ _ _ a0_2 [.int .i64 a0_2] from rfl) (Reps.one (show Kd.M (Kd.int .i64) _ _ _ a0_3 [.int .i64 a0_3] from rfl) (Reps.none _ _)))));intro v13 w15 ho16 hb hg_ hnew_;clear hg_ hnew_;have n0_:=qaj.mk (Kd.R_lower ho16 (qam HB.out));have n1_:=qaj.mk (qah (g:=gb) (o:=.cells #[.int .i64 a0_0,.int .i64 a0_1,.int .i64 a0_2,.int .i64 a0_3] 39 (0,0)) BK.out hb);have n2_:=qaj.mk (qaa HB.out hb);clear BK HB ho16 hb;have HL:=n0_;have BK:=n1_;have HB:=n2_;refine hK.out _ _ ⟨(qag BK.out 0).trans rfl,(qag BK.out 1).trans rfl,(qag BK.out 2).trans rfl,(qag BK.out 3).trans rfl⟩ (fun hHeld=>?_);clear hK K;refine norm_ (a':=?_) ?_ ?_;rotate_left
     ·show Act.put _ (some 22) _=_;simp only[Act.put,List.setIfInBounds_toArray,List.set_cons_zero,List.set_cons_succ,qak,qal];rfl
     refine one_ (i:=0) (N:=some 11) #[true,true,true,false,false,true,true,true,true,true,true,true,false,false] rfl rfl (one_of HT_.out (by kernel_rfl)) (by decide) (fun K hK=>?_);refine goes_ Tryd.func59 (by kernel_rfl) rfl #[] (by rfl) rfl rfl (by(try simp only[List.map_toArray,List.map_cons,List.map_nil]);first|done|rfl) ?_
     with_reducible refine(impl_wordWords.calls ws _ A4.out).mono ?_
     rintro e w21 ⟨v434,rfl,ho0,hb⟩;refine⟨_,rfl,?_⟩;have n0_:=qaj.mk (Kd.R_lower ho0 (qam HB.out));have n1_:=qaj.mk (qah (g:=gb) (o:=.cells #[.int .i64 a0_0,.int .i64 a0_1,.int .i64 a0_2,.int .i64 a0_3] 39 (0,0)) BK.out hb);have n2_:=qaj.mk (qaa HB.out hb);have n3_:=qaj.mk (Kd.R_below HL.out hb);clear HL;have HL:=n3_;clear BK HB;have HO:=n0_;have BK:=n1_;have HB:=n2_;obtain⟨Ao,co,eo⟩:=Kd.R_slice HO.out;subst eo;obtain⟨ad,e436,hx⟩:=Kd.at_string (Kd.R_reads' HO.out).2.2 a0_0 p436 q436
     cases e436
     refine hK.out _ _ ⟨(qag BK.out 0).trans rfl,(qag BK.out 1).trans rfl,(qag BK.out 2).trans rfl,(qag BK.out 3).trans rfl⟩ (fun hHeld=>?_);clear hK K;refine norm_ (a':=?_) ?_ ?_;rotate_left
     ·show Act.put _ (some 11) _=_;simp only[Act.put,List.setIfInBounds_toArray,List.set_cons_zero,List.set_cons_succ,qak,qal];rfl
     refine qaq (i:=3) (N:=some 14) (v:=?_) (a':=?_) #[true,true,true,true,false,true,true,true,true,true,true,true,false,false] rfl rfl (qan HT_.out (by kernel_rfl)) (fun _ _ _ h=>h) (Or.inl ⟨by rfl,?_⟩) ?_ ?_;rotate_left
     ·intro w';go_simp
      with_reducible rfl
     rotate_left
     ·simp only[Act.put,List.setIfInBounds_toArray,List.set_cons_zero,List.set_cons_succ,qak,qal];rfl
     refine more_ (S2:=fun w'=>w'.cell? ⟨gb,0,none⟩=some (.int .i64 a0_0)∧w'.cell? ⟨gb,1,none⟩=some (.int .i64 a0_1)∧w'.cell? ⟨gb,2,none⟩=some (.int .i64 a0_2)∧w'.cell? ⟨gb,3,none⟩=some (.int .i64 a0_3)∧w'.cell? (ad.add (a0_0).toNat)=some (.string (rdOf ByteArray.empty ws a0_0))) (fun _ h=>⟨h.1,h.2.1,h.2.2.1,h.2.2.2.1⟩) ⟨hHeld.1,hHeld.2.1,hHeld.2.2.1,hHeld.2.2.2,hx⟩ (fun hHeld=>?_);refine take_ (i:=4) (N:=some 15) (v:=?_) (a':=?_) #[true,true,true,true,true,true,true,true,true,true,true,true,false,false] rfl rfl (take_ofW HT_.out HW_.out (by kernel_rfl)) (fun _ _ _ h=>h) (Or.inl ⟨by rfl,?_⟩) hHeld ?_ ?_;rotate_left
     ·rintro w' ⟨s0,s1,s2,s3,s4⟩;go_simp
      with_reducible rfl
     rotate_left
     ·simp only[Act.put,List.setIfInBounds_toArray,List.set_cons_zero,List.set_cons_succ,qak,qal];rfl
    all_goals
     refine one_ (i:=12) (N:=some 23) #[true,true,true,true,true,true,true,true,true,true,true,true,true,false] rfl rfl (one_of HT_.out (by kernel_rfl)) (by decide) (fun K hK=>?_);obtain⟨A1,c1,e1,hc1,hC1⟩:=Kd.R_reads HL.out;subst e1;refine goes_ Tryd.func39 (by kernel_rfl) rfl #[.string (rdOf ByteArray.empty ws a0_0),.slice A1 ([a0_1,a0_2,a0_3]:List Int).length c1] (by rfl) rfl rfl (by(try simp only[List.map_toArray,List.map_cons,List.map_nil]);first|done|rfl) ?_
     with_reducible refine(impl_joined.calls _ _ _ ([a0_1,a0_2,a0_3]) r _ hC1 hc1 A5.out).mono ?_
     rintro e w31 ⟨rfl,hb⟩;refine⟨_,rfl,?_⟩;have HS_:=(hb.cell (World.block_lt_of_cell? _ _ hHeld.2.2.2.2)).trans hHeld.2.2.2.2;have n1_:=qaj.mk (qah (g:=gb) (o:=.cells #[.int .i64 a0_0,.int .i64 a0_1,.int .i64 a0_2,.int .i64 a0_3] 39 (0,0)) BK.out hb);have n2_:=qaj.mk (qaa HB.out hb);clear BK HB;have BK:=n1_;have HB:=n2_;refine hK.out _ _ ⟨(qag BK.out 0).trans rfl,(qag BK.out 1).trans rfl,(qag BK.out 2).trans rfl,(qag BK.out 3).trans rfl,HS_⟩ (fun hHeld=>?_);clear hK K;refine norm_ (a':=?_) ?_ ?_;rotate_left
     ·show Act.put _ (some 23) _=_;simp only[Act.put,List.setIfInBounds_toArray,List.set_cons_zero,List.set_cons_succ,qak,qal];rfl
     refine qaq (i:=13) (N:=some 2) (v:=?_) (a':=?_) #[true,true,true,true,true,true,true,true,true,true,true,true,true,true] rfl rfl (qan HT_.out (by kernel_rfl)) (fun _ _ _ h=>h) (Or.inl ⟨by rfl,?_⟩) ?_ ?_;rotate_left
     ·intro w';go_simp
      with_reducible rfl
     rotate_left
     ·simp only[Act.put,List.setIfInBounds_toArray,List.set_cons_zero,List.set_cons_succ,qak,qal];rfl
     refine done_ (by kernel_rfl) ?_;go_wp2;go_ret;exact⟨rfl,HB.out⟩
   ·rw[if_neg c7] at h;have c7b:(a0_0 == 1)=false:=beq_eq_false_iff_ne.mpr c7;clear c7;have A5:=qaj.mk h;clear h;go_enter Tryd.func28,Tryd.ntmps28
    try go_wp2_with(first|((with_reducible refine qai (N:=1) rfl ?_);refine zX (N:=1) (cs:=#[.int .i64 a0_0,.int .i64 a0_1,.int .i64 a0_2,.int .i64 a0_3]) (t:=39) ?_;intro gb hg w10 hbox hb;have n0_:=qaj.mk (qaa HB.out hb);have BK:=qaj.mk hbox;clear HB;have HB:=n0_;clear n0_;clear hb hbox hg;have hcz11_0:w10.cell? ⟨gb,0,none⟩=some (.int .i64 a0_0):=(qag BK.out 0).trans rfl;have hcz11_1:w10.cell? ⟨gb,1,none⟩=some (.int .i64 a0_1):=(qag BK.out 1).trans rfl;have hcz11_2:w10.cell? ⟨gb,2,none⟩=some (.int .i64 a0_2):=(qag BK.out 2).trans rfl;have hcz11_3:w10.cell? ⟨gb,3,none⟩=some (.int .i64 a0_3):=(qag BK.out 3).trans rfl;have hfz11_0:=qao BK.out 0;have hfz11_1:=qao BK.out 1;have hfz11_2:=qao BK.out 2;have hfz11_3:=qao BK.out 3)|((with_reducible refine qae (f:=33) rfl ?_);refine goesL_ (some 5) rfl rfl Tryd.func33 (by kernel_rfl) rfl #[.agg #[.int .i64 a0_0,.int .i64 a0_1,.int .i64 a0_2,.int .i64 a0_3]] rfl (by(try simp only[List.map_toArray,List.map_cons,List.map_nil]);first|done|rfl) ?_;(with_reducible refine(impl_WordOk.calls a0_0 a0_1 a0_2 a0_3 true _ A2.out).mono ?_);rintro e w12 ⟨rfl,hb⟩;refine⟨_,rfl,?_⟩;replace BK:=qaj.mk (qah (g:=gb) (o:=.cells #[.int .i64 a0_0,.int .i64 a0_1,.int .i64 a0_2,.int .i64 a0_3] 39 (0,0)) BK.out hb);replace HB:=qaj.mk (qaa HB.out hb);clear hb;have hcw0_:w12.cell? ⟨gb,0,none⟩=some (.int .i64 a0_0):=(qag BK.out 0).trans rfl;have hcw1_:w12.cell? ⟨gb,1,none⟩=some (.int .i64 a0_1):=(qag BK.out 1).trans rfl;have hcw2_:w12.cell? ⟨gb,2,none⟩=some (.int .i64 a0_2):=(qag BK.out 2).trans rfl;have hcw3_:w12.cell? ⟨gb,3,none⟩=some (.int .i64 a0_3):=(qag BK.out 3).trans rfl))
    replace BK:=qaj.mk (qad BK.out);replace HB:=qaj.mk (qar HB.out);clear hcw0_ hcw1_ hcw2_ hcw3_;refine start_ (n:=12) (S:=fun w'=>w'.cell? ⟨gb,0,none⟩=some (.int .i64 a0_0)∧w'.cell? ⟨gb,1,none⟩=some (.int .i64 a0_1)∧w'.cell? ⟨gb,2,none⟩=some (.int .i64 a0_2)∧w'.cell? ⟨gb,3,none⟩=some (.int .i64 a0_3)) (ds:=[]) #[false,false,false,false,false,false,false,false,false,false,false,false] (by kernel_rfl) rfl rfl ⟨(qag BK.out 0).trans rfl,(qag BK.out 1).trans rfl,(qag BK.out 2).trans rfl,(qag BK.out 3).trans rfl⟩ (fun hHeld=>?_);refine with_tabW impl_WordText.tab5 impl_WordText.bits5 (fun HT_ HW_=>?_);generalize w12.drew=w13 at BK HB hHeld ⊢;refine qaq (i:=1) (N:=some 25) (v:=?_) (a':=?_) #[false,true,false,false,false,false,false,false,false,false,false,false] rfl rfl (qan HT_.out (by kernel_rfl)) (fun _ _ _ h=>h) (Or.inl ⟨by rfl,?_⟩) ?_ ?_;rotate_left
    ·intro w';go_simp
     with_reducible rfl
    rotate_left
    ·simp only[Act.put,List.setIfInBounds_toArray,List.set_cons_zero,List.set_cons_succ,qak,qal];rfl
    refine qaq (i:=5) (N:=some 29) (v:=?_) (a':=?_) #[false,true,false,false,false,true,false,false,false,false,false,false] rfl rfl (qan HT_.out (by kernel_rfl)) (fun _ _ _ h=>h) (Or.inl ⟨by rfl,?_⟩) ?_ ?_;rotate_left
    ·intro w';go_simp
     with_reducible rfl
    rotate_left
    ·simp only[Act.put,List.setIfInBounds_toArray,List.set_cons_zero,List.set_cons_succ,qak,qal];rfl
    refine qaq (i:=7) (N:=some 31) (v:=?_) (a':=?_) #[false,true,false,false,false,true,false,true,false,false,false,false] rfl rfl (qan HT_.out (by kernel_rfl)) (fun _ _ _ h=>h) (Or.inl ⟨by rfl,?_⟩) ?_ ?_;rotate_left
    ·intro w';go_simp
     with_reducible rfl
    rotate_left
    ·simp only[Act.put,List.setIfInBounds_toArray,List.set_cons_zero,List.set_cons_succ,qak,qal];rfl
    refine take_ (i:=2) (N:=some 26) (v:=?_) (a':=?_) #[false,true,true,false,false,true,false,true,false,false,false,false] rfl rfl (take_ofW HT_.out HW_.out (by kernel_rfl)) (fun _ _ _ h=>h) (Or.inl ⟨by rfl,?_⟩) hHeld ?_ ?_;rotate_left
    ·rintro w' ⟨s0,s1,s2,s3⟩;go_simp
     with_reducible rfl
    rotate_left
    ·simp only[Act.put,List.setIfInBounds_toArray,List.set_cons_zero,List.set_cons_succ,qak,qal];rfl
    refine take_ (i:=6) (N:=some 30) (v:=?_) (a':=?_) #[false,true,true,false,false,true,true,true,false,false,false,false] rfl rfl (take_ofW HT_.out HW_.out (by kernel_rfl)) (fun _ _ _ h=>h) (Or.inl ⟨by rfl,?_⟩) hHeld ?_ ?_;rotate_left
    ·rintro w' ⟨s0,s1,s2,s3⟩;go_simp
     with_reducible rfl
    rotate_left
    ·simp only[Act.put,List.setIfInBounds_toArray,List.set_cons_zero,List.set_cons_succ,qak,qal];rfl
    refine take_ (i:=8) (N:=some 32) (v:=?_) (a':=?_) #[false,true,true,false,false,true,true,true,true,false,false,false] rfl rfl (take_ofW HT_.out HW_.out (by kernel_rfl)) (fun _ _ _ h=>h) (Or.inl ⟨by rfl,?_⟩) hHeld ?_ ?_;rotate_left
    ·rintro w' ⟨s0,s1,s2,s3⟩;go_simp
     with_reducible rfl
    rotate_left
    ·simp only[Act.put,List.setIfInBounds_toArray,List.set_cons_zero,List.set_cons_succ,qak,qal];rfl
    refine two_ (i:=0) (j:=9) (Ni:=some 24) (Nj:=some 33) #[true,true,true,false,false,true,true,true,true,false,false,false] #[false,true,true,false,false,true,true,true,true,true,false,false] rfl rfl rfl rfl (two_of HT_.out (by kernel_rfl)) (by decide) (by decide) (fun K hK=>?pa5) (fun K hK=>?pb5)
    case' pa5=>
     refine goes_ Tryd.func59 (by kernel_rfl) rfl #[] (by rfl) rfl rfl (by(try simp only[List.map_toArray,List.map_cons,List.map_nil]);first|done|rfl) ?_
     with_reducible refine(impl_wordWords.calls ws _ A4.out).mono ?_
     rintro e w21 ⟨v434,rfl,ho0,hb⟩;refine⟨_,rfl,?_⟩;have n0_:=qaj.mk (Kd.R_lower ho0 (qam HB.out));have n1_:=qaj.mk (qah (g:=gb) (o:=.cells #[.int .i64 a0_0,.int .i64 a0_1,.int .i64 a0_2,.int .i64 a0_3] 39 (0,0)) BK.out hb);have n2_:=qaj.mk (qaa HB.out hb);clear BK HB;have HO:=n0_;have BK:=n1_;have HB:=n2_;obtain⟨Ao,co,eo⟩:=Kd.R_slice HO.out;subst eo;obtain⟨ad,e436,hx⟩:=Kd.at_string (Kd.R_reads' HO.out).2.2 a0_0 p436 q436
     cases e436
     refine hK.out _ _ ⟨(qag BK.out 0).trans rfl,(qag BK.out 1).trans rfl,(qag BK.out 2).trans rfl,(qag BK.out 3).trans rfl⟩ (fun hHeld=>?_);clear hK K;refine norm_ (a':=?_) ?_ ?_;rotate_left
     ·show Act.put _ (some 24) _=_;simp only[Act.put,List.setIfInBounds_toArray,List.set_cons_zero,List.set_cons_succ,qak,qal];rfl
     refine qaq (i:=3) (N:=some 27) (v:=?_) (a':=?_) #[true,true,true,true,false,true,true,true,true,false,false,false] rfl rfl (qan HT_.out (by kernel_rfl)) (fun _ _ _ h=>h) (Or.inl ⟨by rfl,?_⟩) ?_ ?_;rotate_left
     ·intro w';go_simp
      with_reducible rfl
     rotate_left
     ·simp only[Act.put,List.setIfInBounds_toArray,List.set_cons_zero,List.set_cons_succ,qak,qal];rfl
     refine more_ (S2:=fun w'=>w'.cell? ⟨gb,0,none⟩=some (.int .i64 a0_0)∧w'.cell? ⟨gb,1,none⟩=some (.int .i64 a0_1)∧w'.cell? ⟨gb,2,none⟩=some (.int .i64 a0_2)∧w'.cell? ⟨gb,3,none⟩=some (.int .i64 a0_3)∧w'.cell? (ad.add (a0_0).toNat)=some (.string (rdOf ByteArray.empty ws a0_0))) (fun _ h=>⟨h.1,h.2.1,h.2.2.1,h.2.2.2.1⟩) ⟨hHeld.1,hHeld.2.1,hHeld.2.2.1,hHeld.2.2.2,hx⟩ (fun hHeld=>?_);refine take_ (i:=4) (N:=some 28) (v:=?_) (a':=?_) #[true,true,true,true,true,true,true,true,true,false,false,false] rfl rfl (take_ofW HT_.out HW_.out (by kernel_rfl)) (fun _ _ _ h=>h) (Or.inl ⟨by rfl,?_⟩) hHeld ?_ ?_;rotate_left
     ·rintro w' ⟨s0,s1,s2,s3,s4⟩;go_simp
      with_reducible rfl
     rotate_left
     ·simp only[Act.put,List.setIfInBounds_toArray,List.set_cons_zero,List.set_cons_succ,qak,qal];rfl
     refine one_ (i:=9) (N:=some 33) #[true,true,true,true,true,true,true,true,true,true,false,false] rfl rfl (one_of HT_.out (by kernel_rfl)) (by decide) (fun K hK=>?_);refine Kd.R_lit_step (Kd.int .i64) _ 3 (by rfl) (N:=33) (by rfl) (xs:=([a0_1,a0_2]:List Int)) (inner:=[.int .i64 a0_1,.int .i64 a0_2]) (ok:=fun _=>True) (okp:=fun _=>True) (by first|(go_simp;done)|(go_simp;rfl)) ?hp (fun _ hk=>hk) trivial (Below.refl _ _) (Nat.le_refl _) (by simp) ?_;(case hp=>exact(Reps.one (show Kd.M (Kd.int .i64) _ _ _ a0_1 [.int .i64 a0_1] from rfl) (Reps.one (show Kd.M (Kd.int .i64) _ _ _ a0_2 [.int .i64 a0_2] from rfl) (Reps.none _ _))));intro v13 w15 ho16 hb hg_ hnew_;clear hg_ hnew_;have n0_:=qaj.mk (Kd.R_lower ho16 (qam HB.out));have n1_:=qaj.mk (qah (g:=gb) (o:=.cells #[.int .i64 a0_0,.int .i64 a0_1,.int .i64 a0_2,.int .i64 a0_3] 39 (0,0)) BK.out hb);have n2_:=qaj.mk (qaa HB.out hb);have n3_:=qaj.mk (Kd.R_below HO.out hb);clear HO;have HO:=n3_;have HS_:=(hb.cell (World.block_lt_of_cell? _ _ hHeld.2.2.2.2)).trans hHeld.2.2.2.2;clear BK HB ho16 hb;have HL:=n0_;have BK:=n1_;have HB:=n2_;refine hK.out _ _ ⟨(qag BK.out 0).trans rfl,(qag BK.out 1).trans rfl,(qag BK.out 2).trans rfl,(qag BK.out 3).trans rfl,HS_⟩ (fun hHeld=>?_);clear hK K;refine norm_ (a':=?_) ?_ ?_;rotate_left
     ·show Act.put _ (some 33) _=_;simp only[Act.put,List.setIfInBounds_toArray,List.set_cons_zero,List.set_cons_succ,qak,qal];rfl
    case' pb5=>
     refine Kd.R_lit_step (Kd.int .i64) _ 3 (by rfl) (N:=33) (by rfl) (xs:=([a0_1,a0_2]:List Int)) (inner:=[.int .i64 a0_1,.int .i64 a0_2]) (ok:=fun _=>True) (okp:=fun _=>True) (by first|(go_simp;done)|(go_simp;rfl)) ?hp (fun _ hk=>hk) trivial (Below.refl _ _) (Nat.le_refl _) (by simp) ?_;(case hp=>exact(Reps.one (show Kd.M (Kd.int .i64) _ _ _ a0_1 [.int .i64 a0_1] from rfl) (Reps.one (show Kd.M (Kd.int .i64) _ _ _ a0_2 [.int .i64 a0_2] from rfl) (Reps.none _ _))));intro v13 w15 ho16 hb hg_ hnew_;clear hg_ hnew_;have n0_:=qaj.mk (Kd.R_lower ho16 (qam HB.out));have n1_:=qaj.mk (qah (g:=gb) (o:=.cells #[.int .i64 a0_0,.int .i64 a0_1,.int .i64 a0_2,.int .i64 a0_3] 39 (0,0)) BK.out hb);have n2_:=qaj.mk (qaa HB.out hb);clear BK HB ho16 hb;have HL:=n0_;have BK:=n1_;have HB:=n2_;refine hK.out _ _ ⟨(qag BK.out 0).trans rfl,(qag BK.out 1).trans rfl,(qag BK.out 2).trans rfl,(qag BK.out 3).trans rfl⟩ (fun hHeld=>?_);clear hK K;refine norm_ (a':=?_) ?_ ?_;rotate_left
     ·show Act.put _ (some 33) _=_;simp only[Act.put,List.setIfInBounds_toArray,List.set_cons_zero,List.set_cons_succ,qak,qal];rfl
     refine one_ (i:=0) (N:=some 24) #[true,true,true,false,false,true,true,true,true,true,false,false] rfl rfl (one_of HT_.out (by kernel_rfl)) (by decide) (fun K hK=>?_);refine goes_ Tryd.func59 (by kernel_rfl) rfl #[] (by rfl) rfl rfl (by(try simp only[List.map_toArray,List.map_cons,List.map_nil]);first|done|rfl) ?_
     with_reducible refine(impl_wordWords.calls ws _ A4.out).mono ?_
     rintro e w21 ⟨v434,rfl,ho0,hb⟩;refine⟨_,rfl,?_⟩;have n0_:=qaj.mk (Kd.R_lower ho0 (qam HB.out));have n1_:=qaj.mk (qah (g:=gb) (o:=.cells #[.int .i64 a0_0,.int .i64 a0_1,.int .i64 a0_2,.int .i64 a0_3] 39 (0,0)) BK.out hb);have n2_:=qaj.mk (qaa HB.out hb);have n3_:=qaj.mk (Kd.R_below HL.out hb);clear HL;have HL:=n3_;clear BK HB;have HO:=n0_;have BK:=n1_;have HB:=n2_;obtain⟨Ao,co,eo⟩:=Kd.R_slice HO.out;subst eo;obtain⟨ad,e436,hx⟩:=Kd.at_string (Kd.R_reads' HO.out).2.2 a0_0 p436 q436
     cases e436
     refine hK.out _ _ ⟨(qag BK.out 0).trans rfl,(qag BK.out 1).trans rfl,(qag BK.out 2).trans rfl,(qag BK.out 3).trans rfl⟩ (fun hHeld=>?_);clear hK K;refine norm_ (a':=?_) ?_ ?_;rotate_left
     ·show Act.put _ (some 24) _=_;simp only[Act.put,List.setIfInBounds_toArray,List.set_cons_zero,List.set_cons_succ,qak,qal];rfl
     refine qaq (i:=3) (N:=some 27) (v:=?_) (a':=?_) #[true,true,true,true,false,true,true,true,true,true,false,false] rfl rfl (qan HT_.out (by kernel_rfl)) (fun _ _ _ h=>h) (Or.inl ⟨by rfl,?_⟩) ?_ ?_;rotate_left
     ·intro w';go_simp
      with_reducible rfl
     rotate_left
     ·simp only[Act.put,List.setIfInBounds_toArray,List.set_cons_zero,List.set_cons_succ,qak,qal];rfl
     refine more_ (S2:=fun w'=>w'.cell? ⟨gb,0,none⟩=some (.int .i64 a0_0)∧w'.cell? ⟨gb,1,none⟩=some (.int .i64 a0_1)∧w'.cell? ⟨gb,2,none⟩=some (.int .i64 a0_2)∧w'.cell? ⟨gb,3,none⟩=some (.int .i64 a0_3)∧w'.cell? (ad.add (a0_0).toNat)=some (.string (rdOf ByteArray.empty ws a0_0))) (fun _ h=>⟨h.1,h.2.1,h.2.2.1,h.2.2.2.1⟩) ⟨hHeld.1,hHeld.2.1,hHeld.2.2.1,hHeld.2.2.2,hx⟩ (fun hHeld=>?_);refine take_ (i:=4) (N:=some 28) (v:=?_) (a':=?_) #[true,true,true,true,true,true,true,true,true,true,false,false] rfl rfl (take_ofW HT_.out HW_.out (by kernel_rfl)) (fun _ _ _ h=>h) (Or.inl ⟨by rfl,?_⟩) hHeld ?_ ?_;rotate_left
     ·rintro w' ⟨s0,s1,s2,s3,s4⟩;go_simp
      with_reducible rfl
     rotate_left
     ·simp only[Act.put,List.setIfInBounds_toArray,List.set_cons_zero,List.set_cons_succ,qak,qal];rfl
    all_goals
     refine one_ (i:=10) (N:=some 34) #[true,true,true,true,true,true,true,true,true,true,true,false] rfl rfl (one_of HT_.out (by kernel_rfl)) (by decide) (fun K hK=>?_);obtain⟨A1,c1,e1,hc1,hC1⟩:=Kd.R_reads HL.out;subst e1;refine goes_ Tryd.func39 (by kernel_rfl) rfl #[.string (rdOf ByteArray.empty ws a0_0),.slice A1 ([a0_1,a0_2]:List Int).length c1] (by rfl) rfl rfl (by(try simp only[List.map_toArray,List.map_cons,List.map_nil]);first|done|rfl) ?_
     with_reducible refine(impl_joined.calls _ _ _ ([a0_1,a0_2]) r _ hC1 hc1 A5.out).mono ?_
     rintro e w31 ⟨rfl,hb⟩;refine⟨_,rfl,?_⟩;have HS_:=(hb.cell (World.block_lt_of_cell? _ _ hHeld.2.2.2.2)).trans hHeld.2.2.2.2;have n1_:=qaj.mk (qah (g:=gb) (o:=.cells #[.int .i64 a0_0,.int .i64 a0_1,.int .i64 a0_2,.int .i64 a0_3] 39 (0,0)) BK.out hb);have n2_:=qaj.mk (qaa HB.out hb);clear BK HB;have BK:=n1_;have HB:=n2_;refine hK.out _ _ ⟨(qag BK.out 0).trans rfl,(qag BK.out 1).trans rfl,(qag BK.out 2).trans rfl,(qag BK.out 3).trans rfl,HS_⟩ (fun hHeld=>?_);clear hK K;refine norm_ (a':=?_) ?_ ?_;rotate_left
     ·show Act.put _ (some 34) _=_;simp only[Act.put,List.setIfInBounds_toArray,List.set_cons_zero,List.set_cons_succ,qak,qal];rfl
     refine qaq (i:=11) (N:=some 2) (v:=?_) (a':=?_) #[true,true,true,true,true,true,true,true,true,true,true,true] rfl rfl (qan HT_.out (by kernel_rfl)) (fun _ _ _ h=>h) (Or.inl ⟨by rfl,?_⟩) ?_ ?_;rotate_left
     ·intro w';go_simp
      with_reducible rfl
     rotate_left
     ·simp only[Act.put,List.setIfInBounds_toArray,List.set_cons_zero,List.set_cons_succ,qak,qal];rfl
     refine done_ (by kernel_rfl) ?_;go_wp2;go_ret;exact⟨rfl,HB.out⟩
  ·rw[if_neg c5] at h
   cases h
 ·rw[if_neg c3] at h;obtain rfl:=Option.some.inj h
  have c3b:t=false:=by simpa using c3
  subst c3b;go_enter Tryd.func28,Tryd.ntmps28
  go_wp2_with(first|((with_reducible refine qai (N:=1) rfl ?_);refine zX (N:=1) (cs:=#[.int .i64 a0_0,.int .i64 a0_1,.int .i64 a0_2,.int .i64 a0_3]) (t:=39) ?_;intro gb hg w10 hbox hb;have n0_:=qaj.mk (qaa HB.out hb);have BK:=qaj.mk hbox;clear HB;have HB:=n0_;clear n0_;clear hb hbox hg;have hcz11_0:w10.cell? ⟨gb,0,none⟩=some (.int .i64 a0_0):=(qag BK.out 0).trans rfl;have hcz11_1:w10.cell? ⟨gb,1,none⟩=some (.int .i64 a0_1):=(qag BK.out 1).trans rfl;have hcz11_2:w10.cell? ⟨gb,2,none⟩=some (.int .i64 a0_2):=(qag BK.out 2).trans rfl;have hcz11_3:w10.cell? ⟨gb,3,none⟩=some (.int .i64 a0_3):=(qag BK.out 3).trans rfl;have hfz11_0:=qao BK.out 0;have hfz11_1:=qao BK.out 1;have hfz11_2:=qao BK.out 2;have hfz11_3:=qao BK.out 3)|((with_reducible refine qae (f:=33) rfl ?_);refine goesL_ (some 5) rfl rfl Tryd.func33 (by kernel_rfl) rfl #[.agg #[.int .i64 a0_0,.int .i64 a0_1,.int .i64 a0_2,.int .i64 a0_3]] rfl (by(try simp only[List.map_toArray,List.map_cons,List.map_nil]);first|done|rfl) ?_;(with_reducible refine(impl_WordOk.calls a0_0 a0_1 a0_2 a0_3 false _ A2.out).mono ?_);rintro e w12 ⟨rfl,hb⟩;refine⟨_,rfl,?_⟩;replace BK:=qaj.mk (qah (g:=gb) (o:=.cells #[.int .i64 a0_0,.int .i64 a0_1,.int .i64 a0_2,.int .i64 a0_3] 39 (0,0)) BK.out hb);replace HB:=qaj.mk (qaa HB.out hb);clear hb;have hcw0_:w12.cell? ⟨gb,0,none⟩=some (.int .i64 a0_0):=(qag BK.out 0).trans rfl;have hcw1_:w12.cell? ⟨gb,1,none⟩=some (.int .i64 a0_1):=(qag BK.out 1).trans rfl;have hcw2_:w12.cell? ⟨gb,2,none⟩=some (.int .i64 a0_2):=(qag BK.out 2).trans rfl;have hcw3_:w12.cell? ⟨gb,3,none⟩=some (.int .i64 a0_3):=(qag BK.out 3).trans rfl))
  go_ret;exact⟨rfl,HB.out⟩
end Go.Proofs.YtbcepmkifomifaaDoor.Print
