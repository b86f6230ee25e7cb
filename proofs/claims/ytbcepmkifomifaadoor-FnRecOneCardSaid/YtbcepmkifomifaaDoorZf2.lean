-- Written by squeeze.py: not trusted, Lean checks it.
import Derived.Test.YtbcepmkifomifaaDoorZK
import Derived.Test.YtbcepmkifomifaaDoorZe0
import Derived.Test.YtbcepmkifomifaaDoorZf1
namespace Go.Proofs.YtbcepmkifomifaaDoor.Print
open Go.RowKit Go.Proofs.YtbcepmkifomifaaDoorW.PrintWords Go.Proofs.YtbcepmkifomifaaDoorW.PrintLast Go.Proofs.YtbcepmkifomifaaDoorW.PrintMore
attribute [local go_sem] max2_int min2_int max_two min_two max_three min_three max_four min_four
set_option linter.unusedVariables false
set_option linter.unusedSimpArgs false
def spec_RecText.l0:Nat→ByteArray→Int→Int→Int→List Int→Option (ByteArray)
 |0,_,_,_,_,_=>none
 |k+1,x3,x4,x220000,x220001,x220002=>if x4<(x220002.length:Int) then(if x3.size+1≤9223372036854775807 then(if 0≤x4 then((spec_l6Dec.f k (rd x220002 x4)).bind fun t227=>(if(x3++(⟨#[32]⟩:ByteArray)).size+t227.size≤9223372036854775807 then(spec_RecText.l0 k ((x3++(⟨#[32]⟩:ByteArray))++t227) (wrap64 (x4+1)) x220000 x220001 x220002) else(none))) else(none)) else(none)) else(some x3)
def spec_RecText.f (k:Nat) (a0_0:Int) (a0_1:Int) (l0_2:List Int):Option (ByteArray):=(spec_RecOk.f k a0_0 a0_1 l0_2).bind fun t220=>(if t220=true then((spec_l1Names.f).bind fun t221=>(if 0≤a0_0 then(if a0_0<(t221.length:Int) then(if(rdOf ByteArray.empty t221 a0_0).size+1≤9223372036854775807 then((spec_l6Dec.f k a0_1).bind fun t225=>(if((rdOf ByteArray.empty t221 a0_0)++(⟨#[32]⟩:ByteArray)).size+t225.size≤9223372036854775807 then(spec_RecText.l0 k (((rdOf ByteArray.empty t221 a0_0)++(⟨#[32]⟩:ByteArray))++t225) 0 a0_0 a0_1 l0_2) else(none))) else(none)) else(none)) else(none))) else(some (⟨#[]⟩:ByteArray)))
theorem spec_RecText.mono_l:∀k,(∀y0 y1 y2 y3 y4,LeO (spec_RecText.l0 k y0 y1 y2 y3 y4) (spec_RecText.l0 (k+1) y0 y1 y2 y3 y4))
 |0=>fun _ _ _ _ _ r h=>by simp[spec_RecText.l0] at h
 |k+1=>by
  have ih0:=spec_RecText.mono_l k
  ·intro y0 y1 y2 y3 y4;unfold spec_RecText.l0
   repeat' first|(with_reducible exact ih0 _ _ _ _ _)|(with_reducible exact spec_RecOk.mono _ _ _ _)|(with_reducible exact spec_l6Dec.mono _ _)|(with_reducible exact LeO.refl _)|(with_reducible exact LeO.none _)|(with_reducible refine LeO.ite ?_ ?_)|(with_reducible refine LeO.bind ?_ (fun _=>?_))|exact ih0 _ _ _ _ _|exact spec_RecOk.mono _ _ _ _|exact spec_l6Dec.mono _ _|exact LeO.none _|refine LeO.ite ?_ ?_|refine LeO.bind ?_ (fun _=>?_)
theorem spec_RecText.mono:∀a0 a1 a2 k,LeO (spec_RecText.f k a0 a1 a2) (spec_RecText.f (k+1) a0 a1 a2):=by
 intro a0 a1 a2 k;have ih0:=spec_RecText.mono_l k;unfold spec_RecText.f
 repeat' first|(with_reducible exact ih0 _ _ _ _ _)|(with_reducible exact spec_RecOk.mono _ _ _ _)|(with_reducible exact spec_l6Dec.mono _ _)|(with_reducible exact LeO.refl _)|(with_reducible exact LeO.none _)|(with_reducible refine LeO.ite ?_ ?_)|(with_reducible refine LeO.bind ?_ (fun _=>?_))|exact ih0 _ _ _ _ _|exact spec_RecOk.mono _ _ _ _|exact spec_l6Dec.mono _ _|exact LeO.none _|refine LeO.ite ?_ ?_|refine LeO.bind ?_ (fun _=>?_)
def spec_RecText.T3:Bool × List (List Nat × List Nat):=(true,[([],[]),([],[]),([1],[1]),([0,2],[0,2]),([3],[3]),([4],[4]),([],[]),([6],[6]),([7,0],[7]),([5,8],[5,8]),([9,8,0,1,2,3,4,5,6,7,8,9],[9])])
def spec_RecText.B3:List Nat:=[0,0,2,7,15,31,0,64,193,511,1023]
theorem spec_RecText.tab3:rtab .any (opsOf Tryd.f17 3)=spec_RecText.T3:=by kernel_rfl
theorem spec_RecText.bits3:waitsOk spec_RecText.T3.2 spec_RecText.B3=true:=by kernel_rfl
set_option maxHeartbeats 8000000 in
set_option maxRecDepth 100000 in
theorem spec_RecText.calls (k:Nat) (a0_0:Int) (a0_1:Int) (A0_2:Option Addr) (c0_2:Nat) (l0_2:List Int) (r:ByteArray) (w:World) (hr0_2:Kd.C (Kd.int .i64) w A0_2 l0_2.length l0_2) (hc0_2:l0_2.length≤c0_2) (h:spec_RecText.f k a0_0 a0_1 l0_2=some r) :
  Calls Tryd.prog 17 #[.agg #[.int .i64 a0_0,.int .i64 a0_1,.slice A0_2 l0_2.length c0_2]] w fun e w'=>e=.returned (.string r)∧Below w.heap.size w w':=by
 have hu25:=Tryd.underlying25;have HR0_2:=qaj.mk hr0_2;have HC0_2:=qaj.mk hc0_2;clear hr0_2 hc0_2;have HB:=qaj.mk (Below.refl w.heap.size w);have H:((spec_RecOk.f k a0_0 a0_1 l0_2).bind fun t220=>(if t220=true then((spec_l1Names.f).bind fun t221=>(if 0≤a0_0 then(if a0_0<(t221.length:Int) then(if(rdOf ByteArray.empty t221 a0_0).size+1≤9223372036854775807 then((spec_l6Dec.f k a0_1).bind fun t225=>(if((rdOf ByteArray.empty t221 a0_0)++(⟨#[32]⟩:ByteArray)).size+t225.size≤9223372036854775807 then(spec_RecText.l0 k (((rdOf ByteArray.empty t221 a0_0)++(⟨#[32]⟩:ByteArray))++t225) 0 a0_0 a0_1 l0_2) else(none))) else(none)) else(none)) else(none))) else(some (⟨#[]⟩:ByteArray))))=some r:=h;clear h;replace H:=Option.bind_eq_some_iff.mp H;obtain⟨t220,A20,H⟩:=H;replace H:(if t220=true then((spec_l1Names.f).bind fun t221=>(if 0≤a0_0 then(if a0_0<(t221.length:Int) then(if(rdOf ByteArray.empty t221 a0_0).size+1≤9223372036854775807 then((spec_l6Dec.f k a0_1).bind fun t225=>(if((rdOf ByteArray.empty t221 a0_0)++(⟨#[32]⟩:ByteArray)).size+t225.size≤9223372036854775807 then(spec_RecText.l0 k (((rdOf ByteArray.empty t221 a0_0)++(⟨#[32]⟩:ByteArray))++t225) 0 a0_0 a0_1 l0_2) else(none))) else(none)) else(none)) else(none))) else(some (⟨#[]⟩:ByteArray)))=some r:=H;have A2:=qaj.mk A20;clear A20;by_cases c3:t220=true
 ·subst c3
  have H1:((spec_l1Names.f).bind fun t221=>(if 0≤a0_0 then(if a0_0<(t221.length:Int) then(if(rdOf ByteArray.empty t221 a0_0).size+1≤9223372036854775807 then((spec_l6Dec.f k a0_1).bind fun t225=>(if((rdOf ByteArray.empty t221 a0_0)++(⟨#[32]⟩:ByteArray)).size+t225.size≤9223372036854775807 then(spec_RecText.l0 k (((rdOf ByteArray.empty t221 a0_0)++(⟨#[32]⟩:ByteArray))++t225) 0 a0_0 a0_1 l0_2) else(none))) else(none)) else(none)) else(none)))=some r:=by rw[if_pos rfl] at H;exact H
  clear H;have H:=H1;clear H1;replace H:=Option.bind_eq_some_iff.mp H;obtain⟨t221,A40,H⟩:=H;replace H:(if 0≤a0_0 then(if a0_0<(t221.length:Int) then(if(rdOf ByteArray.empty t221 a0_0).size+1≤9223372036854775807 then((spec_l6Dec.f k a0_1).bind fun t225=>(if((rdOf ByteArray.empty t221 a0_0)++(⟨#[32]⟩:ByteArray)).size+t225.size≤9223372036854775807 then(spec_RecText.l0 k (((rdOf ByteArray.empty t221 a0_0)++(⟨#[32]⟩:ByteArray))++t225) 0 a0_0 a0_1 l0_2) else(none))) else(none)) else(none)) else(none))=some r:=H;have A4:=qaj.mk A40;clear A40;by_cases c5:0≤a0_0
  ·rw[if_pos c5] at H;have c5b0:decide (0≤a0_0)=true:=decide_eq_true c5;clear c5;by_cases c6:a0_0<(t221.length:Int)
   ·rw[if_pos c6] at H;have c6b0:decide (a0_0<(t221.length:Int))=true:=decide_eq_true c6;clear c6;by_cases c7:(rdOf ByteArray.empty t221 a0_0).size+1≤9223372036854775807
    ·rw[if_pos c7] at H;have c7b0:=eq_true c7;have c7b1:decide ((rdOf ByteArray.empty t221 a0_0).size+1≤9223372036854775807)=true:=decide_eq_true c7
     try have c7b2:(9223372036854775807<(rdOf ByteArray.empty t221 a0_0).size+1)=False:=eq_false (Nat.not_lt.2 c7)
     try(have c7b3:=c7b2;simp only[ByteArray.size_append,show(⟨#[32]⟩:ByteArray).size=1 from rfl] at c7b3)
     replace H:=Option.bind_eq_some_iff.mp H;obtain⟨t225,A80,H⟩:=H;replace H:(if((rdOf ByteArray.empty t221 a0_0)++(⟨#[32]⟩:ByteArray)).size+t225.size≤9223372036854775807 then(spec_RecText.l0 k (((rdOf ByteArray.empty t221 a0_0)++(⟨#[32]⟩:ByteArray))++t225) 0 a0_0 a0_1 l0_2) else(none))=some r:=H;have A8:=qaj.mk A80;clear A80;by_cases c9:((rdOf ByteArray.empty t221 a0_0)++(⟨#[32]⟩:ByteArray)).size+t225.size≤9223372036854775807
     ·rw[if_pos c9] at H;have c9b0:=eq_true c9;have c9b1:decide (((rdOf ByteArray.empty t221 a0_0)++(⟨#[32]⟩:ByteArray)).size+t225.size≤9223372036854775807)=true:=decide_eq_true c9
      try have c9b2:(9223372036854775807<((rdOf ByteArray.empty t221 a0_0)++(⟨#[32]⟩:ByteArray)).size+t225.size)=False:=eq_false (Nat.not_lt.2 c9)
      try(have c9b3:=c9b2;simp only[ByteArray.size_append,show(⟨#[32]⟩:ByteArray).size=1 from rfl] at c9b3)
      have H':=qaj.mk H;clear H;go_enter Tryd.func17,Tryd.ntmps17
      try go_wp2_with(first|((with_reducible refine qai (N:=1) rfl ?_);refine zX (N:=1) (cs:=#[.int .i64 a0_0,.int .i64 a0_1,.slice A0_2 l0_2.length c0_2]) (t:=25) ?_;intro gb219 hg w10 hbox hb;have BK219:=qaj.mk hbox;have GW219:=zH (w:=w) hg (za2 HB);have GE219:=GW219;replace HB:=qaj.mk (qaa (za2 HB) hb);clear hb hbox hg;obtain⟨hcz11_0,hcz11_1,hcz11_2,hfz11_0,hfz11_1,hfz11_2⟩:=zC3 BK219)|((with_reducible refine qae (f:=41) rfl ?_);refine zF (some 6) Tryd.func41 #[.agg #[.int .i64 a0_0,.int .i64 a0_1,.slice A0_2 l0_2.length c0_2]] ?_;(with_reducible refine(spec_RecOk.calls k a0_0 a0_1 _ _ l0_2 true _ ?side1 ?side2 A2.out).mono ?_);(case side1=>exact zR HR0_2 HB);(case side2=>exact HC0_2.out);rintro e w12 ⟨rfl,hb⟩;refine⟨_,rfl,?_⟩;replace BK219:=zY BK219 hb;replace HB:=qaj.mk (qaa (za0 HB GE219) hb);(try clear hb)))
      replace BK219:=qaj.mk (qad BK219.out);replace HB:=qaj.mk (qar HB.out);refine start_ (n:=11) (S:=fun w'=>w'.cell? ⟨gb219,0,none⟩=some (.int .i64 a0_0)∧w'.cell? ⟨gb219,1,none⟩=some (.int .i64 a0_1)∧w'.cell? ⟨gb219,2,none⟩=some (.slice A0_2 l0_2.length c0_2)) (ds:=[]) #[false,false,false,false,false,false,false,false,false,false,false] (by kernel_rfl) rfl rfl ⟨(qag BK219.out 0).trans rfl,(qag BK219.out 1).trans rfl,(qag BK219.out 2).trans rfl⟩ (fun hHeld=>?_);refine with_tabW spec_RecText.tab3 spec_RecText.bits3 (fun HT_ HW_=>?_);generalize w12.drew=w13 at BK219 HB hHeld ⊢;refine qaq (i:=1) (N:=some 9) (v:=?_) (a':=?_) #[false,true,false,false,false,false,false,false,false,false,false] rfl rfl (qan HT_.out (by kernel_rfl)) (fun _ _ _ h=>h) (Or.inl ⟨by rfl,?_⟩) ?_ ?_;rotate_left
      ·intro w';go_simp
       with_reducible rfl
      rotate_left
      ·simp only[Act.put,List.setIfInBounds_toArray,List.set_cons_zero,List.set_cons_succ,qak,qal];rfl
      refine qaq (i:=6) (N:=some 14) (v:=?_) (a':=?_) #[false,true,false,false,false,false,true,false,false,false,false] rfl rfl (qan HT_.out (by kernel_rfl)) (fun _ _ _ h=>h) (Or.inl ⟨by rfl,?_⟩) ?_ ?_;rotate_left
      ·intro w';go_simp
       with_reducible rfl
      rotate_left
      ·simp only[Act.put,List.setIfInBounds_toArray,List.set_cons_zero,List.set_cons_succ,qak,qal];rfl
      refine take_ (i:=2) (N:=some 10) (v:=?_) (a':=?_) #[false,true,true,false,false,false,true,false,false,false,false] rfl rfl (take_ofW HT_.out HW_.out (by kernel_rfl)) (fun _ _ _ h=>h) (Or.inl ⟨by rfl,?_⟩) hHeld ?_ ?_;rotate_left
      ·rintro w' ⟨s0,s1,s2⟩;go_simp
       with_reducible rfl
      rotate_left
      ·simp only[Act.put,List.setIfInBounds_toArray,List.set_cons_zero,List.set_cons_succ,qak,qal];rfl
      refine take_ (i:=7) (N:=some 15) (v:=?_) (a':=?_) #[false,true,true,false,false,false,true,true,false,false,false] rfl rfl (take_ofW HT_.out HW_.out (by kernel_rfl)) (fun _ _ _ h=>h) (Or.inl ⟨by rfl,?_⟩) hHeld ?_ ?_;rotate_left
      ·rintro w' ⟨s0,s1,s2⟩;go_simp
       with_reducible rfl
      rotate_left
      ·simp only[Act.put,List.setIfInBounds_toArray,List.set_cons_zero,List.set_cons_succ,qak,qal];rfl
      refine one_ (i:=0) (N:=some 8) #[true,true,true,false,false,false,true,true,false,false,false] rfl rfl (one_of HT_.out (by kernel_rfl)) (by decide) (fun K hK=>?_);refine goes_ Tryd.func42 (by kernel_rfl) rfl #[] (by rfl) rfl rfl (by(try simp only[List.map_toArray,List.map_cons,List.map_nil]);first|done|rfl|(simp only[List.length_drop,List.length_take];rfl)) ?_
      with_reducible refine(spec_l1Names.calls  t221 _ A4.out).mono ?_
      rintro e w14 ⟨v222,rfl,ho0,hb⟩;refine⟨_,rfl,?_⟩;have HO223:=qaj.mk (Kd.R_lower ho0 (qam (za0 HB GE219)));replace BK219:=zY BK219 hb;replace HB:=qaj.mk (qaa (za0 HB GE219) hb);(try clear hb);(try clear hb2);(try clear hk);(try clear hi);(try clear ho0);obtain⟨Ao15,co15,eo15⟩:=Kd.R_slice HO223.out;(first|subst eo15|(injection eo15 with f1_ f2_ f3_;have f4_:=f1_.symm;have f5_:=f3_.symm;clear f1_ f2_ f3_;subst f4_;subst f5_));have p224:0≤(a0_0:Int):=of_decide_eq_true (za13);have q224:a0_0<(t221.length:Int):=of_decide_eq_true (za13);obtain⟨ad224,e224,hx224_0⟩:=Kd.at_string (Kd.R_reads' HO223.out).2.2 a0_0 p224 q224
      cases e224
      replace p224:=eq_true p224;replace q224:=eq_true q224;refine hK.out _ _ ⟨(qag BK219.out 0).trans rfl,(qag BK219.out 1).trans rfl,(qag BK219.out 2).trans rfl⟩ (fun hHeld=>?_);clear hK K;refine more_ (S2:=fun w'=>w'.cell? ⟨gb219,0,none⟩=some (.int .i64 a0_0)∧w'.cell? ⟨gb219,1,none⟩=some (.int .i64 a0_1)∧w'.cell? ⟨gb219,2,none⟩=some (.slice A0_2 l0_2.length c0_2)∧w'.cell? (ad224.add (a0_0).toNat)=some (.string (rdOf ByteArray.empty t221 a0_0))) (fun _ h=>⟨h.1,h.2.1,h.2.2.1⟩) ⟨hHeld.1,hHeld.2.1,hHeld.2.2,hx224_0⟩ (fun hHeld=>?_);refine norm_ (a':=?_) ?_ ?_;rotate_left
      ·show Act.put _ (some 8) _=_;simp only[Act.put,List.setIfInBounds_toArray,List.set_cons_zero,List.set_cons_succ,qak,qal];rfl
      refine qaq (i:=3) (N:=some 11) (v:=?_) (a':=?_) #[true,true,true,true,false,false,true,true,false,false,false] rfl rfl (qan HT_.out (by kernel_rfl)) (fun _ _ _ h=>h) (Or.inl ⟨by rfl,?_⟩) ?_ ?_;rotate_left
      ·intro w';go_simp
       with_reducible rfl
      rotate_left
      ·simp only[Act.put,List.setIfInBounds_toArray,List.set_cons_zero,List.set_cons_succ,qak,qal];rfl
      refine take_ (i:=4) (N:=some 12) (v:=?_) (a':=?_) #[true,true,true,true,true,false,true,true,false,false,false] rfl rfl (take_ofW HT_.out HW_.out (by kernel_rfl)) (fun _ _ _ h=>h) (Or.inl ⟨by rfl,?_⟩) hHeld ?_ ?_;rotate_left
      ·rintro w' ⟨s0,s1,s2,s3⟩;go_simp
       with_reducible rfl
      rotate_left
      ·simp only[Act.put,List.setIfInBounds_toArray,List.set_cons_zero,List.set_cons_succ,qak,qal];rfl
      refine qaq (i:=5) (N:=some 13) (v:=?_) (a':=?_) #[true,true,true,true,true,true,true,true,false,false,false] rfl rfl (qan HT_.out (by kernel_rfl)) (fun _ _ _ h=>h) (Or.inl ⟨by rfl,?_⟩) ?_ ?_;rotate_left
      ·intro w';go_simp
       with_reducible rfl
      rotate_left
      ·simp only[Act.put,List.setIfInBounds_toArray,List.set_cons_zero,List.set_cons_succ,qak,qal];rfl
      refine one_ (i:=8) (N:=some 16) #[true,true,true,true,true,true,true,true,true,false,false] rfl rfl (one_of HT_.out (by kernel_rfl)) (by decide) (fun K hK=>?_);refine goes_ Tryd.func43 (by kernel_rfl) rfl #[.int .i64 a0_1] (by rfl) rfl rfl (by(try simp only[List.map_toArray,List.map_cons,List.map_nil]);first|done|rfl|(simp only[List.length_drop,List.length_take];rfl)) ?_
      with_reducible refine(spec_l6Dec.calls k a0_1 t225 _ A8.out).mono ?_
      rintro e w16 ⟨rfl,hb⟩;have HS3_:=(hb.cell (World.block_lt_of_cell? _ _ (hHeld.2.2.2))).trans (hHeld.2.2.2);refine⟨_,rfl,?_⟩;replace HO223:=qaj.mk (Kd.R_below (za3 HO223) hb);replace BK219:=zY BK219 hb;replace HB:=qaj.mk (qaa (za0 HB GE219) hb);(try clear hb);(try clear hb2);(try clear hk);(try clear hi);refine hK.out _ _ ⟨(qag BK219.out 0).trans rfl,(qag BK219.out 1).trans rfl,(qag BK219.out 2).trans rfl,HS3_⟩ (fun hHeld=>?_);clear hK K;refine norm_ (a':=?_) ?_ ?_;rotate_left
      ·show Act.put _ (some 16) _=_;simp only[Act.put,List.setIfInBounds_toArray,List.set_cons_zero,List.set_cons_succ,qak,qal];rfl
      refine qaq (i:=9) (N:=some 17) (v:=?_) (a':=?_) #[true,true,true,true,true,true,true,true,true,true,false] rfl rfl (qan HT_.out (by kernel_rfl)) (fun _ _ _ h=>h) (Or.inl ⟨by rfl,?_⟩) ?_ ?_;rotate_left
      ·intro w';go_simp
       with_reducible rfl
      rotate_left
      ·simp only[Act.put,List.setIfInBounds_toArray,List.set_cons_zero,List.set_cons_succ,qak,qal];rfl
      refine qaq (i:=10) (N:=some 3) (v:=?_) (a':=?_) #[true,true,true,true,true,true,true,true,true,true,true] rfl rfl (qan HT_.out (by kernel_rfl)) (fun _ _ _ h=>h) (Or.inl ⟨by rfl,?_⟩) ?_ ?_;rotate_left
      ·intro w';go_simp
       with_reducible rfl
      rotate_left
      ·simp only[Act.put,List.setIfInBounds_toArray,List.set_cons_zero,List.set_cons_succ,qak,qal];rfl
      refine done_ (done_of HT_.out (by kernel_rfl)) ?_
      try go_wp2
      go_loopg [3,4] k (fun kq v3 v4 w'=>∃(x3_1:ByteArray) (x4_1:Int),v3=.string x3_1∧v4=.int .i64 x4_1∧qaj (spec_RecText.l0 kq x3_1 x4_1 a0_0 a0_1 l0_2=some r)∧qaj (kq≤k)∧qaj (w'.heap[gb219]?=some (.cells #[.int .i64 a0_0,.int .i64 a0_1,(.slice A0_2 l0_2.length c0_2)] 25 (0,0)))∧qaj (Below w.heap.size w w'))
      case atStart=>exact⟨(((rdOf ByteArray.empty t221 a0_0)++(⟨#[32]⟩:ByteArray))++t225),(0),(za23),(za23),H',⟨Nat.le_refl _⟩,⟨za18 BK219⟩,⟨za0 HB GE219⟩⟩
      case round=>
       clear H'
       try clear c1
       try clear p2
       try clear q2
       try clear hx2
       try clear c3
       try clear c4
       try clear c5
       try clear c5b0
       try clear c6
       try clear c6b0
       try clear c7
       try clear c7b0
       try clear c7b1
       try clear c7b2
       try clear c9
       try clear c9b0
       try clear c9b1
       try clear c9b2
       try clear hcz11_0
       try clear hcz11_1
       try clear hcz11_2
       try clear hfz11_0
       try clear hfz11_1
       try clear hfz11_2
       try clear hx224_0
       try clear p224
       try clear q224
       obtain⟨x3_1,x4_1,rfl,rfl,HA,HK1,BK219,HB⟩:=hrel
       cases gk with
       |zero=>exact absurd HA.out (by simp[spec_RecText.l0])
       |succ k1=>
        have H:=HA.out;clear HA;simp only[spec_RecText.l0] at H;by_cases c17:x4_1<(l0_2.length:Int)
        ·rw[if_pos c17] at H;have c17b0:decide (x4_1<(l0_2.length:Int))=true:=decide_eq_true c17;clear c17;by_cases c18:x3_1.size+1≤9223372036854775807
         ·rw[if_pos c18] at H;have c18b0:=eq_true c18;have c18b1:decide (x3_1.size+1≤9223372036854775807)=true:=decide_eq_true c18
          try have c18b2:(9223372036854775807<x3_1.size+1)=False:=eq_false (Nat.not_lt.2 c18)
          try(have c18b3:=c18b2;simp only[ByteArray.size_append,show(⟨#[32]⟩:ByteArray).size=1 from rfl] at c18b3)
          by_cases c19:0≤x4_1
          ·rw[if_pos c19] at H;have c19b0:decide (0≤x4_1)=true:=decide_eq_true c19;clear c19;replace H:=Option.bind_eq_some_iff.mp H;obtain⟨t227,A200,H⟩:=H;replace H:(if(x3_1++(⟨#[32]⟩:ByteArray)).size+t227.size≤9223372036854775807 then(spec_RecText.l0 k1 ((x3_1++(⟨#[32]⟩:ByteArray))++t227) (wrap64 (x4_1+1)) a0_0 a0_1 l0_2) else(none))=some r:=H;have A20:=qaj.mk A200;clear A200;by_cases c21:(x3_1++(⟨#[32]⟩:ByteArray)).size+t227.size≤9223372036854775807
           ·rw[if_pos c21] at H;have c21b0:=eq_true c21;have c21b1:decide ((x3_1++(⟨#[32]⟩:ByteArray)).size+t227.size≤9223372036854775807)=true:=decide_eq_true c21
            try have c21b2:(9223372036854775807<(x3_1++(⟨#[32]⟩:ByteArray)).size+t227.size)=False:=eq_false (Nat.not_lt.2 c21)
            try(have c21b3:=c21b2;simp only[ByteArray.size_append,show(⟨#[32]⟩:ByteArray).size=1 from rfl] at c21b3)
            have H':=qaj.mk H;clear H;obtain⟨hcz22_0,hcz22_1,hcz22_2,hfz22_0,hfz22_1,hfz22_2⟩:=zC3 BK219;have p226:0≤(x4_1:Int):=of_decide_eq_true (za13);have q226:x4_1<(l0_2.length:Int):=of_decide_eq_true (za13);obtain⟨ad226,e226,hx226_0⟩:=Kd.at_int HR0_2.out x4_1 p226 q226
            cases e226
            replace hx226_0:=(HB.out.cell (World.block_lt_of_cell? w _ hx226_0)).trans hx226_0;replace p226:=eq_true p226;replace q226:=eq_true q226
            go_wp2_with(first|((with_reducible refine qae (f:=43) rfl ?_);refine zF (some 32) Tryd.func43 #[.int .i64 (rd l0_2 x4_1)] ?_;(with_reducible refine(spec_l6Dec.calls k1 (rd l0_2 x4_1) t227 _ A20.out).mono ?_);rintro e w23 ⟨rfl,hb⟩;refine⟨_,rfl,?_⟩;replace BK219:=zY BK219 hb;replace HB:=qaj.mk (qaa (za0 HB GE219) hb);(try clear hb)))
            go_roundg k1
            case measure=>have:=HK1.out;omega
            case rel=>exact⟨((x3_1++(⟨#[32]⟩:ByteArray))++t227),(wrap64 (x4_1+1)),(za23),(za23),H',⟨by have:=HK1.out;omega⟩,⟨za18 BK219⟩,⟨za0 HB GE219⟩⟩
           ·rw[if_neg c21] at H;exact absurd H (by simp)
          ·rw[if_neg c19] at H;exact absurd H (by simp)
         ·rw[if_neg c18] at H;exact absurd H (by simp)
        ·rw[if_neg c17] at H;have c17b0:decide (x4_1<(l0_2.length:Int))=false:=decide_eq_false c17;clear c17;obtain rfl:=Option.some.inj H;obtain⟨hcz24_0,hcz24_1,hcz24_2,hfz24_0,hfz24_1,hfz24_2⟩:=zC3 BK219;go_wp2;go_ret;exact⟨za10,za0 HB GE219⟩
     ·rw[if_neg c9] at H;exact absurd H (by simp)
    ·rw[if_neg c7] at H;exact absurd H (by simp)
   ·rw[if_neg c6] at H;exact absurd H (by simp)
  ·rw[if_neg c5] at H;exact absurd H (by simp)
 ·replace c3:=Bool.eq_false_iff.mpr c3;subst c3
  have H1:(some (⟨#[]⟩:ByteArray))=some r:=by rw[if_neg (show ¬(false=true) by decide)] at H;exact H
  clear H;have H:=H1;clear H1;obtain rfl:=Option.some.inj H;go_enter Tryd.func17,Tryd.ntmps17
  go_wp2_with(first|((with_reducible refine qai (N:=1) rfl ?_);refine zX (N:=1) (cs:=#[.int .i64 a0_0,.int .i64 a0_1,.slice A0_2 l0_2.length c0_2]) (t:=25) ?_;intro gb219 hg w25 hbox hb;have BK219:=qaj.mk hbox;have GW219:=zH (w:=w) hg (za2 HB);have GE219:=GW219;replace HB:=qaj.mk (qaa (za2 HB) hb);clear hb hbox hg;obtain⟨hcz26_0,hcz26_1,hcz26_2,hfz26_0,hfz26_1,hfz26_2⟩:=zC3 BK219)|((with_reducible refine qae (f:=41) rfl ?_);refine zF (some 6) Tryd.func41 #[.agg #[.int .i64 a0_0,.int .i64 a0_1,.slice A0_2 l0_2.length c0_2]] ?_;(with_reducible refine(spec_RecOk.calls k a0_0 a0_1 _ _ l0_2 false _ ?side1 ?side2 A2.out).mono ?_);(case side1=>exact zR HR0_2 HB);(case side2=>exact HC0_2.out);rintro e w27 ⟨rfl,hb⟩;refine⟨_,rfl,?_⟩;replace BK219:=zY BK219 hb;replace HB:=qaj.mk (qaa (za0 HB GE219) hb);(try clear hb)))
  go_ret;exact⟨za10,za0 HB GE219⟩
end Go.Proofs.YtbcepmkifomifaaDoor.Print
