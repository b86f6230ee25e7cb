-- Written by squeeze.py: not trusted, Lean checks it.
import Derived.Test.YtbomcadjkcmcgaaZK
import Derived.Test.YtbomcadjkcmcgaaZa3
namespace Go.Proofs.Ytbomcadjkcmcgaa.Print
open Go.RowKit Go.Proofs.YtbomcadjkcmcgaaW.PrintWords Go.Proofs.YtbomcadjkcmcgaaW.PrintLast Go.Proofs.YtbomcadjkcmcgaaW.PrintMore
attribute [local go_sem] max2_int min2_int max_two min_two max_three min_three max_four min_four
set_option linter.unusedVariables false
set_option linter.unusedSimpArgs false
def spec_l11Stock.f (k:Nat) (a0_0:Int) (a0_1:Bool) (a0_2:Int) (l0_3:List (S62)) (a0_4:Int) (a1:Bool):Option (Int × (List (S72))):=if a1=true then(if 0≤a0_4 then(if a0_4≤(l0_3.length:Int) then((spec_l2Of.f k a0_2 (l0_3.take (a0_4:Int).toNat)).bind fun bt324=>(some (bt324.1,bt324.2.1))) else(none)) else(none)) else(if 0≤(l0_3.length:Int) then(if(l0_3.length:Int)≤(l0_3.length:Int) then((spec_l2Of.f k a0_2 (l0_3.take ((l0_3.length:Int):Int).toNat)).bind fun bt334=>(some (bt334.1,bt334.2.1))) else(none)) else(none))
theorem spec_l11Stock.mono:∀a0 a1 a2 a3 a4 a5 k,LeO (spec_l11Stock.f k a0 a1 a2 a3 a4 a5) (spec_l11Stock.f (k+1) a0 a1 a2 a3 a4 a5):=by
 intro a0 a1 a2 a3 a4 a5 k;unfold spec_l11Stock.f
 repeat' first|(with_reducible exact spec_l2Of.mono _ _ _)|(with_reducible exact LeO.refl _)|(with_reducible exact LeO.none _)|(with_reducible refine LeO.ite ?_ ?_)|(with_reducible refine LeO.bind ?_ (fun _=>?_))|exact spec_l2Of.mono _ _ _|exact LeO.none _|refine LeO.ite ?_ ?_|refine LeO.bind ?_ (fun _=>?_)
def spec_l11Stock.T4:Bool × List (List Nat × List Nat):=(true,[([],[]),([0],[0]),([],[]),([2],[2]),([3],[3]),([],[]),([4,5],[4,5]),([1,6],[1,6]),([7],[7]),([8],[8]),([8],[8]),([],[]),([11,9,7,0,1,2,3,4,5,6,7,8,9,11],[9,11]),([10,12,0,1,2,3,4,5,6,7,8,9,10,11,12],[10])])
def spec_l11Stock.B4:List Nat:=[0,1,0,4,12,0,60,127,255,511,511,0,3071,8191]
theorem spec_l11Stock.tab4:rtab .any (opsOf Try.f25 4)=spec_l11Stock.T4:=by kernel_rfl
theorem spec_l11Stock.bits4:waitsOk spec_l11Stock.T4.2 spec_l11Stock.B4=true:=by kernel_rfl
set_option maxHeartbeats 8000000 in
set_option maxRecDepth 100000 in
theorem spec_l11Stock.calls (k:Nat) (a0_0:Int) (a0_1:Bool) (a0_2:Int) (A0_3:Option Addr) (c0_3:Nat) (l0_3:List (S62)) (a0_4:Int) (a1:Bool) (r1:Int) (r2:List (S72)) (w:World) (hr0_3:Kd.C k62 w A0_3 l0_3.length l0_3) (hc0_3:l0_3.length≤c0_3) (h:spec_l11Stock.f k a0_0 a0_1 a0_2 l0_3 a0_4 a1=some (r1,r2)) :
  Calls Try.prog 25 #[.agg #[.int .i64 a0_0,.bool a0_1,.int .i64 a0_2,.slice A0_3 l0_3.length c0_3,.int .i64 a0_4],.bool a1] w fun e w'=>∃v1_:Value,e=.returned (.agg #[.int .i64 r1,v1_])∧Kd.R k72 72 w' w.heap.size (fun _=>True) v1_ r2∧Below w.heap.size w w':=by
 have hu33:=Try.underlying33;have hu39:=Try.underlying39;have HR0_3:=qah.mk hr0_3;have HC0_3:=qah.mk hc0_3;clear hr0_3 hc0_3;have HB:=qah.mk (Below.refl w.heap.size w);have H:(if a1=true then(if 0≤a0_4 then(if a0_4≤(l0_3.length:Int) then((spec_l2Of.f k a0_2 (l0_3.take (a0_4:Int).toNat)).bind fun bt324=>(some (bt324.1,bt324.2.1))) else(none)) else(none)) else(if 0≤(l0_3.length:Int) then(if(l0_3.length:Int)≤(l0_3.length:Int) then((spec_l2Of.f k a0_2 (l0_3.take ((l0_3.length:Int):Int).toNat)).bind fun bt334=>(some (bt334.1,bt334.2.1))) else(none)) else(none)))=some (r1,r2):=h;clear h;by_cases c3:a1=true
 ·subst c3
  have H1:(if 0≤a0_4 then(if a0_4≤(l0_3.length:Int) then((spec_l2Of.f k a0_2 (l0_3.take (a0_4:Int).toNat)).bind fun bt324=>(some (bt324.1,bt324.2.1))) else(none)) else(none))=some (r1,r2):=by rw[if_pos rfl] at H;exact H
  clear H;have H:=H1;clear H1;by_cases c4:0≤a0_4
  ·rw[if_pos c4] at H;have c4b0:=eq_true c4;have c4b1:decide (0≤a0_4)=true:=decide_eq_true c4;clear c4;by_cases c5:a0_4≤(l0_3.length:Int)
   ·rw[if_pos c5] at H;have c5b0:=eq_true c5;have c5b1:decide (a0_4≤(l0_3.length:Int))=true:=decide_eq_true c5;clear c5;obtain⟨y320,hy320⟩:∃y_:List (S62),y_=(l0_3.take (a0_4:Int).toNat):=⟨_,rfl⟩
    replace H:((spec_l2Of.f k a0_2 y320).bind fun bt324=>(some (bt324.1,bt324.2.1)))=some (r1,r2):=by first|(rw[hy320];with_reducible exact H)|(have H2_:=(Option.bind_some _ _).symm.trans H;rw[hy320];with_reducible exact H2_)|(have H2_:=(Option.bind_some _ _).symm.trans H;with_reducible exact H2_)|with_reducible exact H|(rw[hy320];exact H)|exact H
    have Ny320:=qah.mk hy320;clear hy320;replace H:=Option.bind_eq_some_iff.mp H;obtain⟨⟨t324,t325,t328⟩,A60,H⟩:=H;replace H:(some (t324,t325))=some (r1,r2):=H;have A6:=qah.mk A60;clear A60;simp only[Option.some.injEq,Prod.mk.injEq] at H;obtain⟨rfl,rfl⟩:=H;go_enter Try.func25,Try.ntmps25
    try go_wp2_with(first|((with_reducible refine qag (N:=2) rfl ?_);refine zX (N:=2) (cs:=#[.int .i64 a0_0,.bool a0_1,.int .i64 a0_2,.slice A0_3 l0_3.length c0_3,.int .i64 a0_4]) (t:=33) ?_;intro gb318 hg w7 hbox hb;have BK318:=qah.mk hbox;have GW318:=zH (w:=w) hg (za1 HB);have GE318:=GW318;replace HB:=qah.mk (qaa (za1 HB) hb);clear hb hbox hg)|((with_reducible refine qag (N:=4) rfl ?_);refine zX (N:=4) (cs:=#[.int .i64 0,.slice none 0 0]) (t:=39) ?_;intro gb319 hg w8 hbox hb;have BK319:=qah.mk hbox;have GW319:=zH (w:=w) hg (za0 HB GE318);have GE319:=GW319;replace HB:=qah.mk (qaa (za0 HB GE318) hb);have NB318_319:=zL BK318 hg;have NB319_318:=zG BK318 hg;replace BK318:=zY BK318 hb;clear hb hbox hg;have hnb9:=NB318_319.out;have hnc9:=NB319_318.out;obtain⟨hcz10_0,hcz10_1,hcz10_2,hcz10_3,hcz10_4,hfz10_0,hfz10_1,hfz10_2,hfz10_3,hfz10_4⟩:=zC5 BK318))
    replace BK318:=qah.mk (qac BK318.out);replace BK319:=qah.mk (qac BK319.out);replace HB:=qah.mk (below_drew1 HB.out);have q12:(a0_4:Int)≤((l0_3.length:Int):Int):=of_decide_eq_true (za7);obtain⟨i012,hi012,_,hsz12,_⟩:=info_parts info62;have hroom12:l0_3.length≤c0_3:=HC0_3.out;have hC12:Kd.C k62 _ A0_3 l0_3.length l0_3:=HR0_3.out;have hcut12:=cut_to (P:=Try.prog) 29 62 .i64 Try.underlying29 hi012 A0_3 l0_3.length c0_3 a0_4 (of_decide_eq_true (za7)) q12 hroom12;have hr12:=Kd.C_take (m:=(a0_4:Int).toNat) hC12 (by omega);have hy12:y320.length=(a0_4:Int).toNat:=(by rw[Ny320.out,List.length_take];omega);rw[←Ny320.out] at hr12;rw[←hy12] at hcut12;have HR323:=qah.mk hr12;have HC323:=qah.mk (show y320.length≤c0_3 from by omega);clear hr12 hC12 hroom12 hi012 hsz12;have KY12:=qah.mk hy12;clear hy12;replace q12:=eq_true q12;refine start_ (n:=14) (S:=fun w'=>w'.cell? ⟨gb318,0,none⟩=some (.int .i64 a0_0)∧w'.cell? ⟨gb318,1,none⟩=some (.bool a0_1)∧w'.cell? ⟨gb318,2,none⟩=some (.int .i64 a0_2)∧w'.cell? ⟨gb318,3,none⟩=some (.slice A0_3 l0_3.length c0_3)∧w'.cell? ⟨gb318,4,none⟩=some (.int .i64 a0_4)) (ds:=[]) #[false,false,false,false,false,false,false,false,false,false,false,false,false,false] (by kernel_rfl) rfl rfl ⟨(qab BK318.out 0).trans rfl,(qab BK318.out 1).trans rfl,(qab BK318.out 2).trans rfl,(qab BK318.out 3).trans rfl,(qab BK318.out 4).trans rfl⟩ (fun hHeld=>?_);refine with_tabW spec_l11Stock.tab4 spec_l11Stock.bits4 (fun HT_ HW_=>?_)
    generalize w8.drew=w11 at BK318 BK319 HB HR323 hHeld ⊢;refine qaq (i:=0) (N:=some 17) (v:=?_) (a':=?_) #[true,false,false,false,false,false,false,false,false,false,false,false,false,false] rfl rfl (qal HT_.out (by kernel_rfl)) (fun _ _ _ h=>h) (Or.inl ⟨by rfl,?_⟩) ?_ ?_;rotate_left
    ·intro w';go_simp
     with_reducible rfl
    rotate_left
    ·simp only[Act.put,List.setIfInBounds_toArray,List.set_cons_zero,List.set_cons_succ,qaj,qak];rfl
    refine qaq (i:=2) (N:=some 19) (v:=?_) (a':=?_) #[true,false,true,false,false,false,false,false,false,false,false,false,false,false] rfl rfl (qal HT_.out (by kernel_rfl)) (fun _ _ _ h=>h) (Or.inl ⟨by rfl,?_⟩) ?_ ?_;rotate_left
    ·intro w';go_simp
     with_reducible rfl
    rotate_left
    ·simp only[Act.put,List.setIfInBounds_toArray,List.set_cons_zero,List.set_cons_succ,qaj,qak];rfl
    refine qaq (i:=3) (N:=some 20) (v:=?_) (a':=?_) #[true,false,true,true,false,false,false,false,false,false,false,false,false,false] rfl rfl (qal HT_.out (by kernel_rfl)) (fun _ _ _ h=>h) (Or.inl ⟨by rfl,?_⟩) ?_ ?_;rotate_left
    ·intro w';go_simp
     with_reducible rfl
    rotate_left
    ·simp only[Act.put,List.setIfInBounds_toArray,List.set_cons_zero,List.set_cons_succ,qaj,qak];rfl
    refine qaq (i:=5) (N:=some 22) (v:=?_) (a':=?_) #[true,false,true,true,false,true,false,false,false,false,false,false,false,false] rfl rfl (qal HT_.out (by kernel_rfl)) (fun _ _ _ h=>h) (Or.inl ⟨by rfl,?_⟩) ?_ ?_;rotate_left
    ·intro w';go_simp
     with_reducible rfl
    rotate_left
    ·simp only[Act.put,List.setIfInBounds_toArray,List.set_cons_zero,List.set_cons_succ,qaj,qak];rfl
    refine take_ (i:=1) (N:=some 18) (v:=?_) (a':=?_) #[true,true,true,true,false,true,false,false,false,false,false,false,false,false] rfl rfl (take_ofW HT_.out HW_.out (by kernel_rfl)) (fun _ _ _ h=>h) (Or.inl ⟨by rfl,?_⟩) hHeld ?_ ?_;rotate_left
    ·rintro w' ⟨s0,s1,s2,s3,s4⟩;go_simp
     with_reducible rfl
    rotate_left
    ·simp only[Act.put,List.setIfInBounds_toArray,List.set_cons_zero,List.set_cons_succ,qaj,qak];rfl
    refine take_ (i:=4) (N:=some 21) (v:=?_) (a':=?_) #[true,true,true,true,true,true,false,false,false,false,false,false,false,false] rfl rfl (take_ofW HT_.out HW_.out (by kernel_rfl)) (fun _ _ _ h=>h) (Or.inl ⟨by rfl,?_⟩) hHeld ?_ ?_;rotate_left
    ·rintro w' ⟨s0,s1,s2,s3,s4⟩;go_simp
     with_reducible rfl
    rotate_left
    ·simp only[Act.put,List.setIfInBounds_toArray,List.set_cons_zero,List.set_cons_succ,qaj,qak];rfl
    refine qaq (i:=6) (N:=some 23) (v:=?_) (a':=?_) #[true,true,true,true,true,true,true,false,false,false,false,false,false,false] rfl rfl (qal HT_.out (by kernel_rfl)) (fun _ _ _ h=>h) (Or.inl ⟨by rfl,?_⟩) ?_ ?_;rotate_left
    ·intro w';go_simp
     with_reducible rfl
    rotate_left
    ·simp only[Act.put,List.setIfInBounds_toArray,List.set_cons_zero,List.set_cons_succ,qaj,qak];rfl
    refine join_ (σ:=Value × Nat) 2 #[true,true,true,true,true,true,true,true,true,true,true,true,false,false] (fun s_=>[(24,.tuple #[.agg #[.int .i64 t324,s_.1],.bool t328]),(6,.pointer (some ⟨s_.2,0,none⟩)),(16,.tuple #[.agg #[.int .i64 t324,s_.1],.bool t328]),(25,.agg #[.int .i64 t324,s_.1]),(26,.bool t328)]) (fun s_ w'=>(w'.cell? ⟨gb318,0,none⟩=some (.int .i64 a0_0)∧w'.cell? ⟨gb318,1,none⟩=some (.bool a0_1)∧w'.cell? ⟨gb318,2,none⟩=some (.int .i64 a0_2)∧w'.cell? ⟨gb318,3,none⟩=some (.slice A0_3 l0_3.length c0_3)∧w'.cell? ⟨gb318,4,none⟩=some (.int .i64 a0_4))∧(Kd.R k72 72 w' w.heap.size (fun _=>True) s_.1 t325)∧(w'.heap[gb318]?=some (.cells #[.int .i64 a0_0,.bool a0_1,.int .i64 a0_2,.slice A0_3 l0_3.length c0_3,.int .i64 a0_4] 33 (0,0)))∧(w'.heap[gb319]?=some (.cells #[.int .i64 0,.slice none 0 0] 39 (0,0)))∧(w'.heap[s_.2]?=some (.cells #[.int .i64 0,.slice none 0 0] 39 (0,0)))∧(w.heap.size≤s_.2)∧(w.heap.size≤s_.2)∧(gb318≠s_.2)∧(s_.2≠gb318)∧(gb319≠s_.2)∧(s_.2≠gb319)∧(Below w.heap.size w w')) ?_ ?_
    rotate_left
    ·intro hCont;refine two_ (i:=7) (j:=11) (Ni:=some 24) (Nj:=some 6) #[true,true,true,true,true,true,true,true,false,false,false,false,false,false] #[true,true,true,true,true,true,true,false,false,false,false,true,false,false] rfl rfl rfl rfl (two_of HT_.out (by kernel_rfl)) (by decide) (by decide) (fun K hK=>?_) (fun K hK=>?_)
     ·skip;refine goes_ Try.func17 (by kernel_rfl) rfl #[.int .i64 a0_2,.slice A0_3 y320.length c0_3] (by rfl) rfl rfl (by(try simp only[List.map_toArray,List.map_cons,List.map_nil]);first|done|rfl|(simp only[List.length_drop,List.length_take];rfl)) ?_
      with_reducible refine(spec_l2Of.calls k a0_2 _ _ y320 t324 t325 t328 _ ?side1 ?side2 A6.out).mono ?_
      (case side1=>exact zR HR323 HB);(case side2=>exact HC323.out);rintro e w13 ⟨v326,rfl,ho0,hb⟩;refine⟨_,rfl,?_⟩;have HO327:=qah.mk (Kd.R_lower ho0 (qam (za2 HB GE318 GE319)));replace BK318:=zY BK318 hb;replace BK319:=zY BK319 hb;replace HB:=qah.mk (qaa (za2 HB GE318 GE319) hb);(try clear hb);(try clear hb2);(try clear hk);(try clear hi);(try clear ho0);refine hK.out _ _ ⟨(qab BK318.out 0).trans rfl,(qab BK318.out 1).trans rfl,(qab BK318.out 2).trans rfl,(qab BK318.out 3).trans rfl,(qab BK318.out 4).trans rfl⟩ (fun hHeld=>?_);clear hK K;refine norm_ (a':=?_) ?_ ?_;rotate_left
      ·show Act.put _ (some 24) _=_;simp only[Act.put,List.setIfInBounds_toArray,List.set_cons_zero,List.set_cons_succ,qaj,qak];rfl
      refine qaq (i:=8) (N:=some 16) (v:=?_) (a':=?_) #[true,true,true,true,true,true,true,true,true,false,false,false,false,false] rfl rfl (qal HT_.out (by kernel_rfl)) (fun _ _ _ h=>h) (Or.inl ⟨by rfl,?_⟩) ?_ ?_;rotate_left
      ·intro w';go_simp
       with_reducible rfl
      rotate_left
      ·simp only[Act.put,List.setIfInBounds_toArray,List.set_cons_zero,List.set_cons_succ,qaj,qak];rfl
      refine qaq (i:=9) (N:=some 25) (v:=?_) (a':=?_) #[true,true,true,true,true,true,true,true,true,true,false,false,false,false] rfl rfl (qal HT_.out (by kernel_rfl)) (fun _ _ _ h=>h) (Or.inl ⟨by rfl,?_⟩) ?_ ?_;rotate_left
      ·intro w';go_simp
       with_reducible rfl
      rotate_left
      ·simp only[Act.put,List.setIfInBounds_toArray,List.set_cons_zero,List.set_cons_succ,qaj,qak];rfl
      refine qaq (i:=10) (N:=some 26) (v:=?_) (a':=?_) #[true,true,true,true,true,true,true,true,true,true,true,false,false,false] rfl rfl (qal HT_.out (by kernel_rfl)) (fun _ _ _ h=>h) (Or.inl ⟨by rfl,?_⟩) ?_ ?_;rotate_left
      ·intro w';go_simp
       with_reducible rfl
      rotate_left
      ·simp only[Act.put,List.setIfInBounds_toArray,List.set_cons_zero,List.set_cons_succ,qaj,qak];rfl
      refine one_ (i:=11) (N:=some 6) #[true,true,true,true,true,true,true,true,true,true,true,true,false,false] rfl rfl (one_of HT_.out (by kernel_rfl)) (by decide) (fun K hK=>?_);refine box_step (by rfl) (N:=6) (by rfl) (cs:=#[.int .i64 0,.slice none 0 0]) (t:=39) (by first|(go_simp;done)|(go_simp;rfl)) ?_;intro gb329 hg w14 hbox hb;replace HO327:=qah.mk (Kd.R_below (za5 HO327) hb);have BK329:=qah.mk hbox;have GW329:=zH (w:=w) hg (za2 HB GE318 GE319);have GE329:=GW329;replace HB:=qah.mk (qaa (za2 HB GE318 GE319) hb);have NB318_329:=zL BK318 hg;have NB329_318:=zG BK318 hg;replace BK318:=zY BK318 hb;have NB319_329:=zL BK319 hg;have NB329_319:=zG BK319 hg;replace BK319:=zY BK319 hb;clear hb hbox hg;refine hK.out _ _ ⟨(qab BK318.out 0).trans rfl,(qab BK318.out 1).trans rfl,(qab BK318.out 2).trans rfl,(qab BK318.out 3).trans rfl,(qab BK318.out 4).trans rfl⟩ (fun hHeld=>?_);clear hK K;refine norm_ (a':=?_) ?_ ?_;rotate_left
      ·show Act.put _ (some 6) _=_;simp only[Act.put,List.setIfInBounds_toArray,List.set_cons_zero,List.set_cons_succ,qaj,qak];rfl
      exact norm_ (by simp only[putAll,Act.put,List.setIfInBounds_toArray,List.set_cons_zero,List.set_cons_succ]) (hCont (v326,gb329) _ ⟨hHeld,(za5 HO327),(zB BK318),(zB BK319),(zB BK329),GW329.out,GE329.out,NB318_329.out,NB329_318.out,NB319_329.out,NB329_319.out,(za3 HB GE318 GE319 GE329)⟩)
     ·skip;refine box_step (by rfl) (N:=6) (by rfl) (cs:=#[.int .i64 0,.slice none 0 0]) (t:=39) (by first|(go_simp;done)|(go_simp;rfl)) ?_;intro gb329 hg w13 hbox hb;have BK329:=qah.mk hbox;have GW329:=zH (w:=w) hg (za2 HB GE318 GE319);have GE329:=GW329;replace HB:=qah.mk (qaa (za2 HB GE318 GE319) hb);have NB318_329:=zL BK318 hg;have NB329_318:=zG BK318 hg;replace BK318:=zY BK318 hb;have NB319_329:=zL BK319 hg;have NB329_319:=zG BK319 hg;replace BK319:=zY BK319 hb;clear hb hbox hg;refine hK.out _ _ ⟨(qab BK318.out 0).trans rfl,(qab BK318.out 1).trans rfl,(qab BK318.out 2).trans rfl,(qab BK318.out 3).trans rfl,(qab BK318.out 4).trans rfl⟩ (fun hHeld=>?_);clear hK K;refine norm_ (a':=?_) ?_ ?_;rotate_left
      ·show Act.put _ (some 6) _=_;simp only[Act.put,List.setIfInBounds_toArray,List.set_cons_zero,List.set_cons_succ,qaj,qak];rfl
      refine one_ (i:=7) (N:=some 24) #[true,true,true,true,true,true,true,true,false,false,false,true,false,false] rfl rfl (one_of HT_.out (by kernel_rfl)) (by decide) (fun K hK=>?_);refine goes_ Try.func17 (by kernel_rfl) rfl #[.int .i64 a0_2,.slice A0_3 y320.length c0_3] (by rfl) rfl rfl (by(try simp only[List.map_toArray,List.map_cons,List.map_nil]);first|done|rfl|(simp only[List.length_drop,List.length_take];rfl)) ?_
      with_reducible refine(spec_l2Of.calls k a0_2 _ _ y320 t324 t325 t328 _ ?side1 ?side2 A6.out).mono ?_
      (case side1=>exact zR HR323 HB);(case side2=>exact HC323.out);rintro e w14 ⟨v326,rfl,ho0,hb⟩;refine⟨_,rfl,?_⟩;have HO327:=qah.mk (Kd.R_lower ho0 (qam (za3 HB GE318 GE319 GE329)));replace BK318:=zY BK318 hb;replace BK319:=zY BK319 hb;replace BK329:=zY BK329 hb;replace HB:=qah.mk (qaa (za3 HB GE318 GE319 GE329) hb);(try clear hb);(try clear hb2);(try clear hk);(try clear hi);(try clear ho0);refine hK.out _ _ ⟨(qab BK318.out 0).trans rfl,(qab BK318.out 1).trans rfl,(qab BK318.out 2).trans rfl,(qab BK318.out 3).trans rfl,(qab BK318.out 4).trans rfl⟩ (fun hHeld=>?_);clear hK K;refine norm_ (a':=?_) ?_ ?_;rotate_left
      ·show Act.put _ (some 24) _=_;simp only[Act.put,List.setIfInBounds_toArray,List.set_cons_zero,List.set_cons_succ,qaj,qak];rfl
      refine qaq (i:=8) (N:=some 16) (v:=?_) (a':=?_) #[true,true,true,true,true,true,true,true,true,false,false,true,false,false] rfl rfl (qal HT_.out (by kernel_rfl)) (fun _ _ _ h=>h) (Or.inl ⟨by rfl,?_⟩) ?_ ?_;rotate_left
      ·intro w';go_simp
       with_reducible rfl
      rotate_left
      ·simp only[Act.put,List.setIfInBounds_toArray,List.set_cons_zero,List.set_cons_succ,qaj,qak];rfl
      refine qaq (i:=9) (N:=some 25) (v:=?_) (a':=?_) #[true,true,true,true,true,true,true,true,true,true,false,true,false,false] rfl rfl (qal HT_.out (by kernel_rfl)) (fun _ _ _ h=>h) (Or.inl ⟨by rfl,?_⟩) ?_ ?_;rotate_left
      ·intro w';go_simp
       with_reducible rfl
      rotate_left
      ·simp only[Act.put,List.setIfInBounds_toArray,List.set_cons_zero,List.set_cons_succ,qaj,qak];rfl
      refine qaq (i:=10) (N:=some 26) (v:=?_) (a':=?_) #[true,true,true,true,true,true,true,true,true,true,true,true,false,false] rfl rfl (qal HT_.out (by kernel_rfl)) (fun _ _ _ h=>h) (Or.inl ⟨by rfl,?_⟩) ?_ ?_;rotate_left
      ·intro w';go_simp
       with_reducible rfl
      rotate_left
      ·simp only[Act.put,List.setIfInBounds_toArray,List.set_cons_zero,List.set_cons_succ,qaj,qak];rfl
      exact norm_ (by simp only[putAll,Act.put,List.setIfInBounds_toArray,List.set_cons_zero,List.set_cons_succ]) (hCont (v326,gb329) _ ⟨hHeld,(za5 HO327),(zB BK318),(zB BK319),(zB BK329),GW329.out,GE329.out,NB318_329.out,NB329_318.out,NB319_329.out,NB329_319.out,(za3 HB GE318 GE319 GE329)⟩)
    rintro⟨v326,gb329⟩ w15 ⟨hS_,h0_,h1_,h2_,h3_,h4_,h5_,h6_,h7_,h8_,h9_,h10_⟩;have HO327:qah (Kd.R k72 72 w15 w.heap.size (fun _=>True) v326 t325):=⟨h0_⟩;replace BK318:qah (w15.heap[gb318]?=some (.cells #[.int .i64 a0_0,.bool a0_1,.int .i64 a0_2,.slice A0_3 l0_3.length c0_3,.int .i64 a0_4] 33 (0,0))):=⟨h1_⟩;replace BK319:qah (w15.heap[gb319]?=some (.cells #[.int .i64 0,.slice none 0 0] 39 (0,0))):=⟨h2_⟩;have BK329:qah (w15.heap[gb329]?=some (.cells #[.int .i64 0,.slice none 0 0] 39 (0,0))):=⟨h3_⟩;have GW329:qah (w.heap.size≤gb329):=⟨h4_⟩;have GE329:qah (w.heap.size≤gb329):=⟨h5_⟩;have NB318_329:qah (gb318≠gb329):=⟨h6_⟩;have NB329_318:qah (gb329≠gb318):=⟨h7_⟩;have NB319_329:qah (gb319≠gb329):=⟨h8_⟩;have NB329_319:qah (gb329≠gb319):=⟨h9_⟩;replace HB:qah (Below w.heap.size w w15):=⟨h10_⟩;clear h0_ h1_ h2_ h3_ h4_ h5_ h6_ h7_ h8_ h9_ h10_;have hHeld:w15.cell? ⟨gb318,0,none⟩=some (.int .i64 a0_0)∧w15.cell? ⟨gb318,1,none⟩=some (.bool a0_1)∧w15.cell? ⟨gb318,2,none⟩=some (.int .i64 a0_2)∧w15.cell? ⟨gb318,3,none⟩=some (.slice A0_3 l0_3.length c0_3)∧w15.cell? ⟨gb318,4,none⟩=some (.int .i64 a0_4):=hS_;obtain⟨Ao17,co17,eo17⟩:=Kd.R_slice HO327.out;(first|subst eo17|(injection eo17 with f1_ f2_ f3_;have f4_:=f1_.symm;have f5_:=f3_.symm;clear f1_ f2_ f3_;subst f4_;subst f5_));refine norm_ (a':=?_) ?_ ?_;rotate_left
    ·simp only[putAll,Act.put,List.setIfInBounds_toArray,List.set_cons_zero,List.set_cons_succ];rfl
    refine one_ (i:=12) (N:=none) #[true,true,true,true,true,true,true,true,true,true,true,true,true,false] rfl rfl (one_of HT_.out (by kernel_rfl)) (by decide) (fun K hK=>?_);have hs16:w15.cell? ⟨gb329,0,none⟩=some (.int .i64 0):=(qab BK329.out 0).trans rfl;have hfs16:=blk_frozen BK329.out 0;have hns16_0:=NB318_329.out;have hns16_1:=NB319_329.out;have hms16_0:=NB329_318.out;have hms16_1:=NB329_319.out;have hs18:w15.cell? ⟨gb329,1,none⟩=some (.slice none 0 0):=(qab BK329.out 1).trans rfl;have hfs18:=blk_frozen BK329.out 1;have hns18_0:=NB318_329.out;have hns18_1:=NB319_329.out;have hms18_0:=NB329_318.out;have hms18_1:=NB329_319.out;refine skip_ (w1:=?_) (by rfl) rfl ?_ ?_;rotate_left
    ·go_simp;rfl
    refine hK.out _ _ ⟨((cell_far (p:=⟨gb329,_,none⟩) NB318_329.out _).trans (((cell_far (p:=⟨gb329,_,none⟩) NB318_329.out _).trans (hHeld.1)))),((cell_far (p:=⟨gb329,_,none⟩) NB318_329.out _).trans (((cell_far (p:=⟨gb329,_,none⟩) NB318_329.out _).trans (hHeld.2.1)))),((cell_far (p:=⟨gb329,_,none⟩) NB318_329.out _).trans (((cell_far (p:=⟨gb329,_,none⟩) NB318_329.out _).trans (hHeld.2.2.1)))),((cell_far (p:=⟨gb329,_,none⟩) NB318_329.out _).trans (((cell_far (p:=⟨gb329,_,none⟩) NB318_329.out _).trans (hHeld.2.2.2.1)))),((cell_far (p:=⟨gb329,_,none⟩) NB318_329.out _).trans (((cell_far (p:=⟨gb329,_,none⟩) NB318_329.out _).trans (hHeld.2.2.2.2))))⟩ (fun hHeld=>?_);clear hK K;refine qaq (i:=13) (N:=some 7) (v:=?_) (a':=?_) #[true,true,true,true,true,true,true,true,true,true,true,true,true,true] rfl rfl (qal HT_.out (by kernel_rfl)) (fun _ _ _ h=>h) (Or.inl ⟨by rfl,?_⟩) ?_ ?_;rotate_left
    ·intro w';go_simp
     with_reducible rfl
    rotate_left
    ·simp only[Act.put,List.setIfInBounds_toArray,List.set_cons_zero,List.set_cons_succ,qaj,qak];rfl
    refine done_ (done_of HT_.out (by kernel_rfl)) ?_;have hnb19:=NB329_318.out;have hnc19:=NB318_329.out;have hnb20:=NB329_319.out;have hnc20:=NB319_329.out;obtain⟨hcz21_0,hcz21_1,hfz21_0,hfz21_1⟩:=zC2 BK329;obtain⟨hcz22_0,hcz22_1,hfz22_0,hfz22_1⟩:=zC2 BK319
    try go_wp2
    refine bodyPost_ret (results_cell_row rfl _ _ gb319 39 #[.int .i64 t324,.slice Ao17 t325.length co17] (0,0) _ rfl (by(with_reducible repeat(first|refine qae ?_ _|refine qac ?_|refine qad ?_ _));refine qai (cs:=#[.int .i64 t324,.slice none 0 0]) ?_ 1 _ rfl;(with_reducible repeat(first|refine qae ?_ _|refine qac ?_|refine qad ?_ _));refine qai (cs:=#[.int .i64 0,.slice none 0 0]) ?_ 0 _ rfl;(with_reducible repeat(first|refine qae ?_ _|refine qac ?_|refine qad ?_ _));refine blk_far ?_ NB319_329.out _;(with_reducible repeat(first|refine qae ?_ _|refine qac ?_|refine qad ?_ _));refine blk_far ?_ NB319_329.out _;(with_reducible repeat(first|refine qae ?_ _|refine qac ?_|refine qad ?_ _));exact BK319.out) Try.underlying39 rfl (by kernel_rfl)) rfl ?_
    exact⟨_,za8,by(with_reducible repeat(first|apply Kd.R_alloc|apply Kd.R_drewN|apply Kd.R_drew));exact Kd.R_mono (Kd.R_far (p:=⟨gb319,1,none⟩) (Kd.R_far (p:=⟨gb319,0,none⟩) (Kd.R_far (p:=⟨gb329,1,none⟩) (Kd.R_far (p:=⟨gb329,0,none⟩) (Kd.R_types (Kd.R_types HO327.out BK329.out (by decide)) BK319.out (by decide)) (fun _ hk=>hk.1.2) (.int .i64 t324)) (fun _ hk=>hk.1.2) (.slice Ao17 t325.length co17)) (fun _ hk=>hk.2) (.int .i64 t324)) (fun _ hk=>hk.2) (.slice Ao17 t325.length co17)) (fun _ hk=>trivial),za3 HB GE318 GE319 GE329⟩
   ·rw[if_neg c5] at H;exact absurd H (by simp)
  ·rw[if_neg c4] at H;exact absurd H (by simp)
 ·replace c3:=Bool.eq_false_iff.mpr c3;subst c3
  have H1:(if 0≤(l0_3.length:Int) then(if(l0_3.length:Int)≤(l0_3.length:Int) then((spec_l2Of.f k a0_2 (l0_3.take ((l0_3.length:Int):Int).toNat)).bind fun bt334=>(some (bt334.1,bt334.2.1))) else(none)) else(none))=some (r1,r2):=by rw[if_neg (show ¬(false=true) by decide)] at H;exact H
  clear H;have H:=H1;clear H1;by_cases c23:0≤(l0_3.length:Int)
  ·rw[if_pos c23] at H;have c23b0:=eq_true c23;have c23b1:decide (0≤(l0_3.length:Int))=true:=decide_eq_true c23;clear c23;by_cases c24:(l0_3.length:Int)≤(l0_3.length:Int)
   ·rw[if_pos c24] at H;have c24b0:=eq_true c24;have c24b1:decide ((l0_3.length:Int)≤(l0_3.length:Int))=true:=decide_eq_true c24;clear c24;obtain⟨y330,hy330⟩:∃y_:List (S62),y_=(l0_3.take ((l0_3.length:Int):Int).toNat):=⟨_,rfl⟩
    replace H:((spec_l2Of.f k a0_2 y330).bind fun bt334=>(some (bt334.1,bt334.2.1)))=some (r1,r2):=by first|(rw[hy330];with_reducible exact H)|(have H2_:=(Option.bind_some _ _).symm.trans H;rw[hy330];with_reducible exact H2_)|(have H2_:=(Option.bind_some _ _).symm.trans H;with_reducible exact H2_)|with_reducible exact H|(rw[hy330];exact H)|exact H
    have Ny330:=qah.mk hy330;clear hy330;replace H:=Option.bind_eq_some_iff.mp H;obtain⟨⟨t334,t335,t338⟩,A250,H⟩:=H;replace H:(some (t334,t335))=some (r1,r2):=H;have A25:=qah.mk A250;clear A250;simp only[Option.some.injEq,Prod.mk.injEq] at H;obtain⟨rfl,rfl⟩:=H;go_enter Try.func25,Try.ntmps25
    try go_wp2_with(first|((with_reducible refine qag (N:=2) rfl ?_);refine zX (N:=2) (cs:=#[.int .i64 a0_0,.bool a0_1,.int .i64 a0_2,.slice A0_3 l0_3.length c0_3,.int .i64 a0_4]) (t:=33) ?_;intro gb318 hg w26 hbox hb;have BK318:=qah.mk hbox;have GW318:=zH (w:=w) hg (za1 HB);have GE318:=GW318;replace HB:=qah.mk (qaa (za1 HB) hb);clear hb hbox hg)|((with_reducible refine qag (N:=4) rfl ?_);refine zX (N:=4) (cs:=#[.int .i64 0,.slice none 0 0]) (t:=39) ?_;intro gb319 hg w27 hbox hb;have BK319:=qah.mk hbox;have GW319:=zH (w:=w) hg (za0 HB GE318);have GE319:=GW319;replace HB:=qah.mk (qaa (za0 HB GE318) hb);have NB318_319:=zL BK318 hg;have NB319_318:=zG BK318 hg;replace BK318:=zY BK318 hb;clear hb hbox hg;have hnb28:=NB318_319.out;have hnc28:=NB319_318.out;obtain⟨hcz29_0,hcz29_1,hcz29_2,hcz29_3,hcz29_4,hfz29_0,hfz29_1,hfz29_2,hfz29_3,hfz29_4⟩:=zC5 BK318))
    replace BK318:=qah.mk (qac BK318.out);replace BK319:=qah.mk (qac BK319.out);replace HB:=qah.mk (below_drew1 HB.out);have q31:((l0_3.length:Int):Int)≤((l0_3.length:Int):Int):=of_decide_eq_true (za7);obtain⟨i031,hi031,_,hsz31,_⟩:=info_parts info62;have hroom31:l0_3.length≤c0_3:=HC0_3.out;have hC31:Kd.C k62 _ A0_3 l0_3.length l0_3:=HR0_3.out;have hcut31:=cut_to (P:=Try.prog) 29 62 .i64 Try.underlying29 hi031 A0_3 l0_3.length c0_3 (l0_3.length:Int) (of_decide_eq_true (za7)) q31 hroom31;have hr31:=Kd.C_take (m:=((l0_3.length:Int):Int).toNat) hC31 (by omega);have hy31:y330.length=((l0_3.length:Int):Int).toNat:=(by rw[Ny330.out,List.length_take];omega);rw[←Ny330.out] at hr31;rw[←hy31] at hcut31;have HR333:=qah.mk hr31;have HC333:=qah.mk (show y330.length≤c0_3 from by omega);clear hr31 hC31 hroom31 hi031 hsz31;have KY31:=qah.mk hy31;clear hy31;replace q31:=eq_true q31;refine start_ (n:=14) (S:=fun w'=>w'.cell? ⟨gb318,0,none⟩=some (.int .i64 a0_0)∧w'.cell? ⟨gb318,1,none⟩=some (.bool a0_1)∧w'.cell? ⟨gb318,2,none⟩=some (.int .i64 a0_2)∧w'.cell? ⟨gb318,3,none⟩=some (.slice A0_3 l0_3.length c0_3)∧w'.cell? ⟨gb318,4,none⟩=some (.int .i64 a0_4)) (ds:=[]) #[false,false,false,false,false,false,false,false,false,false,false,false,false,false] (by kernel_rfl) rfl rfl ⟨(qab BK318.out 0).trans rfl,(qab BK318.out 1).trans rfl,(qab BK318.out 2).trans rfl,(qab BK318.out 3).trans rfl,(qab BK318.out 4).trans rfl⟩ (fun hHeld=>?_);refine with_tabW spec_l11Stock.tab4 spec_l11Stock.bits4 (fun HT_ HW_=>?_)
    generalize w27.drew=w30 at BK318 BK319 HB HR333 hHeld ⊢;refine qaq (i:=0) (N:=some 17) (v:=?_) (a':=?_) #[true,false,false,false,false,false,false,false,false,false,false,false,false,false] rfl rfl (qal HT_.out (by kernel_rfl)) (fun _ _ _ h=>h) (Or.inl ⟨by rfl,?_⟩) ?_ ?_;rotate_left
    ·intro w';go_simp
     with_reducible rfl
    rotate_left
    ·simp only[Act.put,List.setIfInBounds_toArray,List.set_cons_zero,List.set_cons_succ,qaj,qak];rfl
    refine qaq (i:=2) (N:=some 19) (v:=?_) (a':=?_) #[true,false,true,false,false,false,false,false,false,false,false,false,false,false] rfl rfl (qal HT_.out (by kernel_rfl)) (fun _ _ _ h=>h) (Or.inl ⟨by rfl,?_⟩) ?_ ?_;rotate_left
    ·intro w';go_simp
     with_reducible rfl
    rotate_left
    ·simp only[Act.put,List.setIfInBounds_toArray,List.set_cons_zero,List.set_cons_succ,qaj,qak];rfl
    refine qaq (i:=3) (N:=some 20) (v:=?_) (a':=?_) #[true,false,true,true,false,false,false,false,false,false,false,false,false,false] rfl rfl (qal HT_.out (by kernel_rfl)) (fun _ _ _ h=>h) (Or.inl ⟨by rfl,?_⟩) ?_ ?_;rotate_left
    ·intro w';go_simp
     with_reducible rfl
    rotate_left
    ·simp only[Act.put,List.setIfInBounds_toArray,List.set_cons_zero,List.set_cons_succ,qaj,qak];rfl
    refine qaq (i:=5) (N:=some 22) (v:=?_) (a':=?_) #[true,false,true,true,false,true,false,false,false,false,false,false,false,false] rfl rfl (qal HT_.out (by kernel_rfl)) (fun _ _ _ h=>h) (Or.inl ⟨by rfl,?_⟩) ?_ ?_;rotate_left
    ·intro w';go_simp
     with_reducible rfl
    rotate_left
    ·simp only[Act.put,List.setIfInBounds_toArray,List.set_cons_zero,List.set_cons_succ,qaj,qak];rfl
    refine take_ (i:=1) (N:=some 18) (v:=?_) (a':=?_) #[true,true,true,true,false,true,false,false,false,false,false,false,false,false] rfl rfl (take_ofW HT_.out HW_.out (by kernel_rfl)) (fun _ _ _ h=>h) (Or.inl ⟨by rfl,?_⟩) hHeld ?_ ?_;rotate_left
    ·rintro w' ⟨s0,s1,s2,s3,s4⟩;go_simp
     with_reducible rfl
    rotate_left
    ·simp only[Act.put,List.setIfInBounds_toArray,List.set_cons_zero,List.set_cons_succ,qaj,qak];rfl
    refine take_ (i:=4) (N:=some 21) (v:=?_) (a':=?_) #[true,true,true,true,true,true,false,false,false,false,false,false,false,false] rfl rfl (take_ofW HT_.out HW_.out (by kernel_rfl)) (fun _ _ _ h=>h) (Or.inl ⟨by rfl,?_⟩) hHeld ?_ ?_;rotate_left
    ·rintro w' ⟨s0,s1,s2,s3,s4⟩;go_simp
     with_reducible rfl
    rotate_left
    ·simp only[Act.put,List.setIfInBounds_toArray,List.set_cons_zero,List.set_cons_succ,qaj,qak];rfl
    refine qaq (i:=6) (N:=some 23) (v:=?_) (a':=?_) #[true,true,true,true,true,true,true,false,false,false,false,false,false,false] rfl rfl (qal HT_.out (by kernel_rfl)) (fun _ _ _ h=>h) (Or.inl ⟨by rfl,?_⟩) ?_ ?_;rotate_left
    ·intro w';go_simp
     with_reducible rfl
    rotate_left
    ·simp only[Act.put,List.setIfInBounds_toArray,List.set_cons_zero,List.set_cons_succ,qaj,qak];rfl
    refine join_ (σ:=Value × Nat) 2 #[true,true,true,true,true,true,true,true,true,true,true,true,false,false] (fun s_=>[(24,.tuple #[.agg #[.int .i64 t334,s_.1],.bool t338]),(6,.pointer (some ⟨s_.2,0,none⟩)),(16,.tuple #[.agg #[.int .i64 t334,s_.1],.bool t338]),(25,.agg #[.int .i64 t334,s_.1]),(26,.bool t338)]) (fun s_ w'=>(w'.cell? ⟨gb318,0,none⟩=some (.int .i64 a0_0)∧w'.cell? ⟨gb318,1,none⟩=some (.bool a0_1)∧w'.cell? ⟨gb318,2,none⟩=some (.int .i64 a0_2)∧w'.cell? ⟨gb318,3,none⟩=some (.slice A0_3 l0_3.length c0_3)∧w'.cell? ⟨gb318,4,none⟩=some (.int .i64 a0_4))∧(Kd.R k72 72 w' w.heap.size (fun _=>True) s_.1 t335)∧(w'.heap[gb318]?=some (.cells #[.int .i64 a0_0,.bool a0_1,.int .i64 a0_2,.slice A0_3 l0_3.length c0_3,.int .i64 a0_4] 33 (0,0)))∧(w'.heap[gb319]?=some (.cells #[.int .i64 0,.slice none 0 0] 39 (0,0)))∧(w'.heap[s_.2]?=some (.cells #[.int .i64 0,.slice none 0 0] 39 (0,0)))∧(w.heap.size≤s_.2)∧(w.heap.size≤s_.2)∧(gb318≠s_.2)∧(s_.2≠gb318)∧(gb319≠s_.2)∧(s_.2≠gb319)∧(Below w.heap.size w w')) ?_ ?_
    rotate_left
    ·intro hCont;refine two_ (i:=7) (j:=11) (Ni:=some 24) (Nj:=some 6) #[true,true,true,true,true,true,true,true,false,false,false,false,false,false] #[true,true,true,true,true,true,true,false,false,false,false,true,false,false] rfl rfl rfl rfl (two_of HT_.out (by kernel_rfl)) (by decide) (by decide) (fun K hK=>?_) (fun K hK=>?_)
     ·skip;refine goes_ Try.func17 (by kernel_rfl) rfl #[.int .i64 a0_2,.slice A0_3 y330.length c0_3] (by rfl) rfl rfl (by(try simp only[List.map_toArray,List.map_cons,List.map_nil]);first|done|rfl|(simp only[List.length_drop,List.length_take];rfl)) ?_
      with_reducible refine(spec_l2Of.calls k a0_2 _ _ y330 t334 t335 t338 _ ?side1 ?side2 A25.out).mono ?_
      (case side1=>exact zR HR333 HB);(case side2=>exact HC333.out);rintro e w32 ⟨v336,rfl,ho0,hb⟩;refine⟨_,rfl,?_⟩;have HO337:=qah.mk (Kd.R_lower ho0 (qam (za2 HB GE318 GE319)));replace BK318:=zY BK318 hb;replace BK319:=zY BK319 hb;replace HB:=qah.mk (qaa (za2 HB GE318 GE319) hb);(try clear hb);(try clear hb2);(try clear hk);(try clear hi);(try clear ho0);refine hK.out _ _ ⟨(qab BK318.out 0).trans rfl,(qab BK318.out 1).trans rfl,(qab BK318.out 2).trans rfl,(qab BK318.out 3).trans rfl,(qab BK318.out 4).trans rfl⟩ (fun hHeld=>?_);clear hK K;refine norm_ (a':=?_) ?_ ?_;rotate_left
      ·show Act.put _ (some 24) _=_;simp only[Act.put,List.setIfInBounds_toArray,List.set_cons_zero,List.set_cons_succ,qaj,qak];rfl
      refine qaq (i:=8) (N:=some 16) (v:=?_) (a':=?_) #[true,true,true,true,true,true,true,true,true,false,false,false,false,false] rfl rfl (qal HT_.out (by kernel_rfl)) (fun _ _ _ h=>h) (Or.inl ⟨by rfl,?_⟩) ?_ ?_;rotate_left
      ·intro w';go_simp
       with_reducible rfl
      rotate_left
      ·simp only[Act.put,List.setIfInBounds_toArray,List.set_cons_zero,List.set_cons_succ,qaj,qak];rfl
      refine qaq (i:=9) (N:=some 25) (v:=?_) (a':=?_) #[true,true,true,true,true,true,true,true,true,true,false,false,false,false] rfl rfl (qal HT_.out (by kernel_rfl)) (fun _ _ _ h=>h) (Or.inl ⟨by rfl,?_⟩) ?_ ?_;rotate_left
      ·intro w';go_simp
       with_reducible rfl
      rotate_left
      ·simp only[Act.put,List.setIfInBounds_toArray,List.set_cons_zero,List.set_cons_succ,qaj,qak];rfl
      refine qaq (i:=10) (N:=some 26) (v:=?_) (a':=?_) #[true,true,true,true,true,true,true,true,true,true,true,false,false,false] rfl rfl (qal HT_.out (by kernel_rfl)) (fun _ _ _ h=>h) (Or.inl ⟨by rfl,?_⟩) ?_ ?_;rotate_left
      ·intro w';go_simp
       with_reducible rfl
      rotate_left
      ·simp only[Act.put,List.setIfInBounds_toArray,List.set_cons_zero,List.set_cons_succ,qaj,qak];rfl
      refine one_ (i:=11) (N:=some 6) #[true,true,true,true,true,true,true,true,true,true,true,true,false,false] rfl rfl (one_of HT_.out (by kernel_rfl)) (by decide) (fun K hK=>?_);refine box_step (by rfl) (N:=6) (by rfl) (cs:=#[.int .i64 0,.slice none 0 0]) (t:=39) (by first|(go_simp;done)|(go_simp;rfl)) ?_;intro gb339 hg w33 hbox hb;replace HO337:=qah.mk (Kd.R_below (za5 HO337) hb);have BK339:=qah.mk hbox;have GW339:=zH (w:=w) hg (za2 HB GE318 GE319);have GE339:=GW339;replace HB:=qah.mk (qaa (za2 HB GE318 GE319) hb);have NB318_339:=zL BK318 hg;have NB339_318:=zG BK318 hg;replace BK318:=zY BK318 hb;have NB319_339:=zL BK319 hg;have NB339_319:=zG BK319 hg;replace BK319:=zY BK319 hb;clear hb hbox hg;refine hK.out _ _ ⟨(qab BK318.out 0).trans rfl,(qab BK318.out 1).trans rfl,(qab BK318.out 2).trans rfl,(qab BK318.out 3).trans rfl,(qab BK318.out 4).trans rfl⟩ (fun hHeld=>?_);clear hK K;refine norm_ (a':=?_) ?_ ?_;rotate_left
      ·show Act.put _ (some 6) _=_;simp only[Act.put,List.setIfInBounds_toArray,List.set_cons_zero,List.set_cons_succ,qaj,qak];rfl
      exact norm_ (by simp only[putAll,Act.put,List.setIfInBounds_toArray,List.set_cons_zero,List.set_cons_succ]) (hCont (v336,gb339) _ ⟨hHeld,(za5 HO337),(zB BK318),(zB BK319),(zB BK339),GW339.out,GE339.out,NB318_339.out,NB339_318.out,NB319_339.out,NB339_319.out,(za3 HB GE318 GE319 GE339)⟩)
     ·skip;refine box_step (by rfl) (N:=6) (by rfl) (cs:=#[.int .i64 0,.slice none 0 0]) (t:=39) (by first|(go_simp;done)|(go_simp;rfl)) ?_;intro gb339 hg w32 hbox hb;have BK339:=qah.mk hbox;have GW339:=zH (w:=w) hg (za2 HB GE318 GE319);have GE339:=GW339;replace HB:=qah.mk (qaa (za2 HB GE318 GE319) hb);have NB318_339:=zL BK318 hg;have NB339_318:=zG BK318 hg;replace BK318:=zY BK318 hb;have NB319_339:=zL BK319 hg;have NB339_319:=zG BK319 hg;replace BK319:=zY BK319 hb;clear hb hbox hg;refine hK.out _ _ ⟨(qab BK318.out 0).trans rfl,(qab BK318.out 1).trans rfl,(qab BK318.out 2).trans rfl,(qab BK318.out 3).trans rfl,(qab BK318.out 4).trans rfl⟩ (fun hHeld=>?_);clear hK K;refine norm_ (a':=?_) ?_ ?_;rotate_left
      ·show Act.put _ (some 6) _=_;simp only[Act.put,List.setIfInBounds_toArray,List.set_cons_zero,List.set_cons_succ,qaj,qak];rfl
      refine one_ (i:=7) (N:=some 24) #[true,true,true,true,true,true,true,true,false,false,false,true,false,false] rfl rfl (one_of HT_.out (by kernel_rfl)) (by decide) (fun K hK=>?_);refine goes_ Try.func17 (by kernel_rfl) rfl #[.int .i64 a0_2,.slice A0_3 y330.length c0_3] (by rfl) rfl rfl (by(try simp only[List.map_toArray,List.map_cons,List.map_nil]);first|done|rfl|(simp only[List.length_drop,List.length_take];rfl)) ?_
      with_reducible refine(spec_l2Of.calls k a0_2 _ _ y330 t334 t335 t338 _ ?side1 ?side2 A25.out).mono ?_
      (case side1=>exact zR HR333 HB);(case side2=>exact HC333.out);rintro e w33 ⟨v336,rfl,ho0,hb⟩;refine⟨_,rfl,?_⟩;have HO337:=qah.mk (Kd.R_lower ho0 (qam (za3 HB GE318 GE319 GE339)));replace BK318:=zY BK318 hb;replace BK319:=zY BK319 hb;replace BK339:=zY BK339 hb;replace HB:=qah.mk (qaa (za3 HB GE318 GE319 GE339) hb);(try clear hb);(try clear hb2);(try clear hk);(try clear hi);(try clear ho0);refine hK.out _ _ ⟨(qab BK318.out 0).trans rfl,(qab BK318.out 1).trans rfl,(qab BK318.out 2).trans rfl,(qab BK318.out 3).trans rfl,(qab BK318.out 4).trans rfl⟩ (fun hHeld=>?_);clear hK K;refine norm_ (a':=?_) ?_ ?_;rotate_left
      ·show Act.put _ (some 24) _=_;simp only[Act.put,List.setIfInBounds_toArray,List.set_cons_zero,List.set_cons_succ,qaj,qak];rfl
      refine qaq (i:=8) (N:=some 16) (v:=?_) (a':=?_) #[true,true,true,true,true,true,true,true,true,false,false,true,false,false] rfl rfl (qal HT_.out (by kernel_rfl)) (fun _ _ _ h=>h) (Or.inl ⟨by rfl,?_⟩) ?_ ?_;rotate_left
      ·intro w';go_simp
       with_reducible rfl
      rotate_left
      ·simp only[Act.put,List.setIfInBounds_toArray,List.set_cons_zero,List.set_cons_succ,qaj,qak];rfl
      refine qaq (i:=9) (N:=some 25) (v:=?_) (a':=?_) #[true,true,true,true,true,true,true,true,true,true,false,true,false,false] rfl rfl (qal HT_.out (by kernel_rfl)) (fun _ _ _ h=>h) (Or.inl ⟨by rfl,?_⟩) ?_ ?_;rotate_left
      ·intro w';go_simp
       with_reducible rfl
      rotate_left
      ·simp only[Act.put,List.setIfInBounds_toArray,List.set_cons_zero,List.set_cons_succ,qaj,qak];rfl
      refine qaq (i:=10) (N:=some 26) (v:=?_) (a':=?_) #[true,true,true,true,true,true,true,true,true,true,true,true,false,false] rfl rfl (qal HT_.out (by kernel_rfl)) (fun _ _ _ h=>h) (Or.inl ⟨by rfl,?_⟩) ?_ ?_;rotate_left
      ·intro w';go_simp
       with_reducible rfl
      rotate_left
      ·simp only[Act.put,List.setIfInBounds_toArray,List.set_cons_zero,List.set_cons_succ,qaj,qak];rfl
      exact norm_ (by simp only[putAll,Act.put,List.setIfInBounds_toArray,List.set_cons_zero,List.set_cons_succ]) (hCont (v336,gb339) _ ⟨hHeld,(za5 HO337),(zB BK318),(zB BK319),(zB BK339),GW339.out,GE339.out,NB318_339.out,NB339_318.out,NB319_339.out,NB339_319.out,(za3 HB GE318 GE319 GE339)⟩)
    rintro⟨v336,gb339⟩ w34 ⟨hS_,h0_,h1_,h2_,h3_,h4_,h5_,h6_,h7_,h8_,h9_,h10_⟩;have HO337:qah (Kd.R k72 72 w34 w.heap.size (fun _=>True) v336 t335):=⟨h0_⟩;replace BK318:qah (w34.heap[gb318]?=some (.cells #[.int .i64 a0_0,.bool a0_1,.int .i64 a0_2,.slice A0_3 l0_3.length c0_3,.int .i64 a0_4] 33 (0,0))):=⟨h1_⟩;replace BK319:qah (w34.heap[gb319]?=some (.cells #[.int .i64 0,.slice none 0 0] 39 (0,0))):=⟨h2_⟩;have BK339:qah (w34.heap[gb339]?=some (.cells #[.int .i64 0,.slice none 0 0] 39 (0,0))):=⟨h3_⟩;have GW339:qah (w.heap.size≤gb339):=⟨h4_⟩;have GE339:qah (w.heap.size≤gb339):=⟨h5_⟩;have NB318_339:qah (gb318≠gb339):=⟨h6_⟩;have NB339_318:qah (gb339≠gb318):=⟨h7_⟩;have NB319_339:qah (gb319≠gb339):=⟨h8_⟩;have NB339_319:qah (gb339≠gb319):=⟨h9_⟩;replace HB:qah (Below w.heap.size w w34):=⟨h10_⟩;clear h0_ h1_ h2_ h3_ h4_ h5_ h6_ h7_ h8_ h9_ h10_;have hHeld:w34.cell? ⟨gb318,0,none⟩=some (.int .i64 a0_0)∧w34.cell? ⟨gb318,1,none⟩=some (.bool a0_1)∧w34.cell? ⟨gb318,2,none⟩=some (.int .i64 a0_2)∧w34.cell? ⟨gb318,3,none⟩=some (.slice A0_3 l0_3.length c0_3)∧w34.cell? ⟨gb318,4,none⟩=some (.int .i64 a0_4):=hS_;obtain⟨Ao36,co36,eo36⟩:=Kd.R_slice HO337.out;(first|subst eo36|(injection eo36 with f1_ f2_ f3_;have f4_:=f1_.symm;have f5_:=f3_.symm;clear f1_ f2_ f3_;subst f4_;subst f5_));refine norm_ (a':=?_) ?_ ?_;rotate_left
    ·simp only[putAll,Act.put,List.setIfInBounds_toArray,List.set_cons_zero,List.set_cons_succ];rfl
    refine one_ (i:=12) (N:=none) #[true,true,true,true,true,true,true,true,true,true,true,true,true,false] rfl rfl (one_of HT_.out (by kernel_rfl)) (by decide) (fun K hK=>?_);have hs35:w34.cell? ⟨gb339,0,none⟩=some (.int .i64 0):=(qab BK339.out 0).trans rfl;have hfs35:=blk_frozen BK339.out 0;have hns35_0:=NB318_339.out;have hns35_1:=NB319_339.out;have hms35_0:=NB339_318.out;have hms35_1:=NB339_319.out;have hs37:w34.cell? ⟨gb339,1,none⟩=some (.slice none 0 0):=(qab BK339.out 1).trans rfl;have hfs37:=blk_frozen BK339.out 1;have hns37_0:=NB318_339.out;have hns37_1:=NB319_339.out;have hms37_0:=NB339_318.out;have hms37_1:=NB339_319.out;refine skip_ (w1:=?_) (by rfl) rfl ?_ ?_;rotate_left
    ·go_simp;rfl
    refine hK.out _ _ ⟨((cell_far (p:=⟨gb339,_,none⟩) NB318_339.out _).trans (((cell_far (p:=⟨gb339,_,none⟩) NB318_339.out _).trans (hHeld.1)))),((cell_far (p:=⟨gb339,_,none⟩) NB318_339.out _).trans (((cell_far (p:=⟨gb339,_,none⟩) NB318_339.out _).trans (hHeld.2.1)))),((cell_far (p:=⟨gb339,_,none⟩) NB318_339.out _).trans (((cell_far (p:=⟨gb339,_,none⟩) NB318_339.out _).trans (hHeld.2.2.1)))),((cell_far (p:=⟨gb339,_,none⟩) NB318_339.out _).trans (((cell_far (p:=⟨gb339,_,none⟩) NB318_339.out _).trans (hHeld.2.2.2.1)))),((cell_far (p:=⟨gb339,_,none⟩) NB318_339.out _).trans (((cell_far (p:=⟨gb339,_,none⟩) NB318_339.out _).trans (hHeld.2.2.2.2))))⟩ (fun hHeld=>?_);clear hK K;refine qaq (i:=13) (N:=some 7) (v:=?_) (a':=?_) #[true,true,true,true,true,true,true,true,true,true,true,true,true,true] rfl rfl (qal HT_.out (by kernel_rfl)) (fun _ _ _ h=>h) (Or.inl ⟨by rfl,?_⟩) ?_ ?_;rotate_left
    ·intro w';go_simp
     with_reducible rfl
    rotate_left
    ·simp only[Act.put,List.setIfInBounds_toArray,List.set_cons_zero,List.set_cons_succ,qaj,qak];rfl
    refine done_ (done_of HT_.out (by kernel_rfl)) ?_;have hnb38:=NB339_318.out;have hnc38:=NB318_339.out;have hnb39:=NB339_319.out;have hnc39:=NB319_339.out;obtain⟨hcz40_0,hcz40_1,hfz40_0,hfz40_1⟩:=zC2 BK339;obtain⟨hcz41_0,hcz41_1,hfz41_0,hfz41_1⟩:=zC2 BK319
    try go_wp2
    refine bodyPost_ret (results_cell_row rfl _ _ gb319 39 #[.int .i64 t334,.slice Ao36 t335.length co36] (0,0) _ rfl (by(with_reducible repeat(first|refine qae ?_ _|refine qac ?_|refine qad ?_ _));refine qai (cs:=#[.int .i64 t334,.slice none 0 0]) ?_ 1 _ rfl;(with_reducible repeat(first|refine qae ?_ _|refine qac ?_|refine qad ?_ _));refine qai (cs:=#[.int .i64 0,.slice none 0 0]) ?_ 0 _ rfl;(with_reducible repeat(first|refine qae ?_ _|refine qac ?_|refine qad ?_ _));refine blk_far ?_ NB319_339.out _;(with_reducible repeat(first|refine qae ?_ _|refine qac ?_|refine qad ?_ _));refine blk_far ?_ NB319_339.out _;(with_reducible repeat(first|refine qae ?_ _|refine qac ?_|refine qad ?_ _));exact BK319.out) Try.underlying39 rfl (by kernel_rfl)) rfl ?_
    exact⟨_,za8,by(with_reducible repeat(first|apply Kd.R_alloc|apply Kd.R_drewN|apply Kd.R_drew));exact Kd.R_mono (Kd.R_far (p:=⟨gb319,1,none⟩) (Kd.R_far (p:=⟨gb319,0,none⟩) (Kd.R_far (p:=⟨gb339,1,none⟩) (Kd.R_far (p:=⟨gb339,0,none⟩) (Kd.R_types (Kd.R_types HO337.out BK339.out (by decide)) BK319.out (by decide)) (fun _ hk=>hk.1.2) (.int .i64 t334)) (fun _ hk=>hk.1.2) (.slice Ao36 t335.length co36)) (fun _ hk=>hk.2) (.int .i64 t334)) (fun _ hk=>hk.2) (.slice Ao36 t335.length co36)) (fun _ hk=>trivial),za3 HB GE318 GE319 GE339⟩
   ·rw[if_neg c24] at H;exact absurd H (by simp)
  ·rw[if_neg c23] at H;exact absurd H (by simp)
end Go.Proofs.Ytbomcadjkcmcgaa.Print
