-- Written by squeeze.py: not trusted, Lean checks it.
import Derived.Test.YtjccnaklodbbfaaZK
import Derived.Test.YtjccnaklodbbfaaZg0
import Derived.Test.YtjccnaklodbbfaaZk0
namespace Go.Proofs.Ytjccnaklodbbfaa.Print
open Go.RowKit Go.Proofs.YtjccnaklodbbfaaW.PrintWords Go.Proofs.YtjccnaklodbbfaaW.PrintLast Go.Proofs.YtjccnaklodbbfaaW.PrintMore
attribute [local go_sem] max2_int min2_int max_two min_two max_three min_three max_four min_four
set_option linter.unusedVariables false
set_option linter.unusedSimpArgs false
def impl_StockDo.f (k:Nat) (a0_0:Int) (l0_1:List (S46)) (a1_0:Int) (a1_1:Int) (l1_2:List Int):Option (Int × (List (S46)) × Bool):=(impl_StockMay.f k a0_0 l0_1 a1_0 a1_1 l1_2).bind fun t218=>(if t218=true then((impl_Hold_104.f l0_1).bind fun t219=>(if 0≤(wrap64 (a1_1 - 1)) then(if(wrap64 (a1_1 - 1))<(t219.length:Int) then(if a1_0=1 then(if 0<(l1_2.length:Int) then(some (a0_0,(t219.set ((wrap64 (a1_1 - 1)):Int).toNat (⟨rd l1_2 0,1⟩:S46)),true)) else(none)) else(if a1_0=2 then(some (a0_0,(t219.set ((wrap64 (a1_1 - 1)):Int).toNat (⟨(rd_T46 t219 (wrap64 (a1_1 - 1))).f0,2⟩:S46)),true)) else(if a1_0=3 then(some (a0_0,(t219.set ((wrap64 (a1_1 - 1)):Int).toNat (⟨(rd_T46 t219 (wrap64 (a1_1 - 1))).f0,3⟩:S46)),true)) else(some (a0_0,t219,true))))) else(none)) else(none))) else(some (0,([]:List (S46)),false)))
theorem impl_StockDo.mono:∀a0 a1 a2 a3 a4 k,LeO (impl_StockDo.f k a0 a1 a2 a3 a4) (impl_StockDo.f (k+1) a0 a1 a2 a3 a4):=by
 intro a0 a1 a2 a3 a4 k
 unfold impl_StockDo.f
 repeat' first
   |(with_reducible exact impl_StockMay.mono _ _ _ _ _ _)
   |(with_reducible exact LeO.refl _)
   |(with_reducible exact LeO.none _)
   |(with_reducible refine LeO.ite ?_ ?_)
   |(with_reducible refine LeO.bind ?_ (fun _=>?_))
   |exact impl_StockMay.mono _ _ _ _ _ _
   |exact LeO.none _
   |refine LeO.ite ?_ ?_
   |refine LeO.bind ?_ (fun _=>?_)
def impl_StockDo.T3:Bool × List (List Nat × List Nat):=(true,[([],[]),([0],[0]),([],[]),([2],[2]),([3],[3]),([1,4],[1,4]),([],[]),([6,5,4,0,1,2,3,4,5,6],[5,6])])
def impl_StockDo.B3:List Nat:=[0,1,0,4,12,31,0,127]
theorem impl_StockDo.tab3:rtab .any (opsOf Try.f66 3)=impl_StockDo.T3:=by kernel_rfl
theorem impl_StockDo.bits3:waitsOk impl_StockDo.T3.2 impl_StockDo.B3=true:=by kernel_rfl
set_option maxHeartbeats 8000000 in
set_option maxRecDepth 100000 in
theorem impl_StockDo.calls (k:Nat) (a0_0:Int) (A0_1:Option Addr) (c0_1:Nat) (l0_1:List (S46)) (a1_0:Int) (a1_1:Int) (A1_2:Option Addr) (c1_2:Nat) (l1_2:List Int) (r1:Int) (r2:List (S46)) (r3:Bool) (w:World) (hr0_1:Kd.C k46 w A0_1 l0_1.length l0_1) (hc0_1:l0_1.length≤c0_1) (hr1_2:Kd.C (Kd.int .i64) w A1_2 l1_2.length l1_2) (hc1_2:l1_2.length≤c1_2) (h:impl_StockDo.f k a0_0 l0_1 a1_0 a1_1 l1_2=some (r1,r2,r3)) :
  Calls Try.prog 66 #[.agg #[.int .i64 a0_0,.slice A0_1 l0_1.length c0_1],.agg #[.int .i64 a1_0,.int .i64 a1_1,.slice A1_2 l1_2.length c1_2]] w fun e w'=>∃v1_:Value,e=.returned (.tuple #[.agg #[.int .i64 r1,v1_],.bool r3])∧Kd.R k46 46 w' w.heap.size (fun _=>True) v1_ r2∧Below w.heap.size w w':=by
 have hu36:=Try.underlying36
 have hu62:=Try.underlying62
 have hu46:=Try.underlying46
 have HR0_1:=Aside0.mk hr0_1
 have HC0_1:=Aside0.mk hc0_1
 clear hr0_1 hc0_1
 have HR1_2:=Aside0.mk hr1_2
 have HC1_2:=Aside0.mk hc1_2
 clear hr1_2 hc1_2
 have HB:=Aside0.mk (Below.refl w.heap.size w)
 have H:((impl_StockMay.f k a0_0 l0_1 a1_0 a1_1 l1_2).bind fun t218=>(if t218=true then((impl_Hold_104.f l0_1).bind fun t219=>(if 0≤(wrap64 (a1_1 - 1)) then(if(wrap64 (a1_1 - 1))<(t219.length:Int) then(if a1_0=1 then(if 0<(l1_2.length:Int) then(some (a0_0,(t219.set ((wrap64 (a1_1 - 1)):Int).toNat (⟨rd l1_2 0,1⟩:S46)),true)) else(none)) else(if a1_0=2 then(some (a0_0,(t219.set ((wrap64 (a1_1 - 1)):Int).toNat (⟨(rd_T46 t219 (wrap64 (a1_1 - 1))).f0,2⟩:S46)),true)) else(if a1_0=3 then(some (a0_0,(t219.set ((wrap64 (a1_1 - 1)):Int).toNat (⟨(rd_T46 t219 (wrap64 (a1_1 - 1))).f0,3⟩:S46)),true)) else(some (a0_0,t219,true))))) else(none)) else(none))) else(some (0,([]:List (S46)),false))))=some (r1,r2,r3):=h
 clear h
 replace H:=Option.bind_eq_some_iff.mp H
 obtain⟨t218,A30,H⟩:=H
 replace H:(if t218=true then((impl_Hold_104.f l0_1).bind fun t219=>(if 0≤(wrap64 (a1_1 - 1)) then(if(wrap64 (a1_1 - 1))<(t219.length:Int) then(if a1_0=1 then(if 0<(l1_2.length:Int) then(some (a0_0,(t219.set ((wrap64 (a1_1 - 1)):Int).toNat (⟨rd l1_2 0,1⟩:S46)),true)) else(none)) else(if a1_0=2 then(some (a0_0,(t219.set ((wrap64 (a1_1 - 1)):Int).toNat (⟨(rd_T46 t219 (wrap64 (a1_1 - 1))).f0,2⟩:S46)),true)) else(if a1_0=3 then(some (a0_0,(t219.set ((wrap64 (a1_1 - 1)):Int).toNat (⟨(rd_T46 t219 (wrap64 (a1_1 - 1))).f0,3⟩:S46)),true)) else(some (a0_0,t219,true))))) else(none)) else(none))) else(some (0,([]:List (S46)),false)))=some (r1,r2,r3):=H
 have A3:=Aside0.mk A30
 clear A30
 by_cases c4:t218=true
 ·subst c4
  have H1:((impl_Hold_104.f l0_1).bind fun t219=>(if 0≤(wrap64 (a1_1 - 1)) then(if(wrap64 (a1_1 - 1))<(t219.length:Int) then(if a1_0=1 then(if 0<(l1_2.length:Int) then(some (a0_0,(t219.set ((wrap64 (a1_1 - 1)):Int).toNat (⟨rd l1_2 0,1⟩:S46)),true)) else(none)) else(if a1_0=2 then(some (a0_0,(t219.set ((wrap64 (a1_1 - 1)):Int).toNat (⟨(rd_T46 t219 (wrap64 (a1_1 - 1))).f0,2⟩:S46)),true)) else(if a1_0=3 then(some (a0_0,(t219.set ((wrap64 (a1_1 - 1)):Int).toNat (⟨(rd_T46 t219 (wrap64 (a1_1 - 1))).f0,3⟩:S46)),true)) else(some (a0_0,t219,true))))) else(none)) else(none)))=some (r1,r2,r3):=by rw[if_pos rfl] at H;exact H
  clear H
  have H:=H1
  clear H1
  replace H:=Option.bind_eq_some_iff.mp H
  obtain⟨t219,A50,H⟩:=H
  replace H:(if 0≤(wrap64 (a1_1 - 1)) then(if(wrap64 (a1_1 - 1))<(t219.length:Int) then(if a1_0=1 then(if 0<(l1_2.length:Int) then(some (a0_0,(t219.set ((wrap64 (a1_1 - 1)):Int).toNat (⟨rd l1_2 0,1⟩:S46)),true)) else(none)) else(if a1_0=2 then(some (a0_0,(t219.set ((wrap64 (a1_1 - 1)):Int).toNat (⟨(rd_T46 t219 (wrap64 (a1_1 - 1))).f0,2⟩:S46)),true)) else(if a1_0=3 then(some (a0_0,(t219.set ((wrap64 (a1_1 - 1)):Int).toNat (⟨(rd_T46 t219 (wrap64 (a1_1 - 1))).f0,3⟩:S46)),true)) else(some (a0_0,t219,true))))) else(none)) else(none))=some (r1,r2,r3):=H
  have A5:=Aside0.mk A50
  clear A50
  obtain⟨ji6,hji6⟩:∃j_:Int,(wrap64 (a1_1 - 1))=j_:=⟨_,rfl⟩
  replace H:(if 0≤(ji6) then(if(ji6)<(t219.length:Int) then(if a1_0=1 then(if 0<(l1_2.length:Int) then(some (a0_0,(t219.set ((ji6):Int).toNat (⟨rd l1_2 0,1⟩:S46)),true)) else(none)) else(if a1_0=2 then(some (a0_0,(t219.set ((ji6):Int).toNat (⟨(rd_T46 t219 (ji6)).f0,2⟩:S46)),true)) else(if a1_0=3 then(some (a0_0,(t219.set ((ji6):Int).toNat (⟨(rd_T46 t219 (ji6)).f0,3⟩:S46)),true)) else(some (a0_0,t219,true))))) else(none)) else(none))=some (r1,r2,r3):=by first|(rw[hji6] at H;exact H)|(simp only[hji6] at H ⊢;exact H)
  (try rw[hji6] at A3)
  (try rw[hji6] at A5)
  have hji6w:(IntKind.i64.wrap (a1_1 - 1))=ji6:=(qaj _).trans hji6
  by_cases c7:0≤(ji6)
  ·rw[if_pos c7] at H
   have c7b0:decide (0≤(ji6))=true:=decide_eq_true c7
   clear c7
   by_cases c8:(ji6)<(t219.length:Int)
   ·rw[if_pos c8] at H
    have c8b0:decide ((ji6)<(t219.length:Int))=true:=decide_eq_true c8
    clear c8
    by_cases c10:a1_0=1
    ·rw[if_pos c10] at H
     have c10b0:(a1_0 == 1)=true:=beq_iff_eq.mpr c10
     have c10b1:(a1_0 != 1)=false:=bne_eq_false_iff_eq.mpr c10
     clear c10
     by_cases c11:0<(l1_2.length:Int)
     ·rw[if_pos c11] at H
      have c11b0:decide (0<(l1_2.length:Int))=true:=decide_eq_true c11
      have c11b1:decide (0<l1_2.length)=true:=decide_eq_true (by omega)
      clear c11
      obtain⟨y224,hy224⟩:∃y_:List (S46),y_=(t219.set ((ji6):Int).toNat (⟨rd l1_2 0,1⟩:S46)):=⟨_,rfl⟩
      replace H:(some (a0_0,y224,true))=some (r1,r2,r3):=by first|(rw[hy224];with_reducible exact H)|(have H2_:=(Option.bind_some _ _).symm.trans H;rw[hy224];with_reducible exact H2_)|(have H2_:=(Option.bind_some _ _).symm.trans H;with_reducible exact H2_)|with_reducible exact H|(rw[hy224];exact H)|exact H
      have Ny224:=Aside0.mk hy224
      clear hy224
      simp only[Option.some.injEq,Prod.mk.injEq] at H
      obtain⟨rfl,rfl,rfl⟩:=H
      go_enter Try.func66,Try.ntmps66
      try go_wp2_with(first|((with_reducible refine qah (N:=2) rfl ?_);refine zX (N:=2) (cs:=#[.int .i64 a0_0,.slice A0_1 l0_1.length c0_1]) (t:=36) ?_;intro gb215 hg w12 hbox hb;have BK215:=Aside0.mk hbox;have GW215:=zH (w:=w) hg (za1 HB);have GE215:=GW215;replace HB:=Aside0.mk (qab (za1 HB) hb);clear hb hbox hg)|((with_reducible refine qah (N:=3) rfl ?_);refine zX (N:=3) (cs:=#[.int .i64 a1_0,.int .i64 a1_1,.slice A1_2 l1_2.length c1_2]) (t:=62) ?_;intro gb216 hg w13 hbox hb;have BK216:=Aside0.mk hbox;have GW216:=zH (w:=w) hg (za0 HB GE215);have GE216:=GW216;replace HB:=Aside0.mk (qab (za0 HB GE215) hb);have NB215_216:=zL BK215 hg;have NB216_215:=zG BK215 hg;replace BK215:=Aside0.mk (qaa (zB BK215) hb);clear hb hbox hg)|((with_reducible refine qah (N:=4) rfl ?_);refine zX (N:=4) (cs:=#[.int .i64 0,.slice none 0 0]) (t:=36) ?_;intro gb217 hg w14 hbox hb;have BK217:=Aside0.mk hbox;have GW217:=zH (w:=w) hg (za2 HB GE215 GE216);have GE217:=GW217;replace HB:=Aside0.mk (qab (za2 HB GE215 GE216) hb);have NB215_217:=zL BK215 hg;have NB217_215:=zG BK215 hg;replace BK215:=Aside0.mk (qaa (zB BK215) hb);have NB216_217:=zL BK216 hg;have NB217_216:=zG BK216 hg;replace BK216:=Aside0.mk (qaa (zB BK216) hb);clear hb hbox hg;have hnb15:=NB215_216.out;have hnc15:=NB216_215.out;have hnb16:=NB215_217.out;have hnc16:=NB217_215.out;obtain⟨hcz17_0,hcz17_1,hfz17_0,hfz17_1⟩:=zC2 BK215;have hnb18:=NB216_217.out;have hnc18:=NB217_216.out;obtain⟨hcz19_0,hcz19_1,hcz19_2,hfz19_0,hfz19_1,hfz19_2⟩:=zC3 BK216)|((with_reducible refine qaf (f:=40) rfl ?_);refine zF (some 10) Try.func40 #[.agg #[.int .i64 a0_0,.slice A0_1 l0_1.length c0_1],.agg #[.int .i64 a1_0,.int .i64 a1_1,.slice A1_2 l1_2.length c1_2]] ?_;(with_reducible refine(impl_StockMay.calls k a0_0 _ _ l0_1 a1_0 a1_1 _ _ l1_2 true _ ?side1 ?side2 ?side3 ?side4 A3.out).mono ?_);(case side1=>exact zR HR0_1 HB);(case side2=>exact HC0_1.out);(case side3=>exact zR HR1_2 HB);(case side4=>exact HC1_2.out);rintro e w20 ⟨rfl,hb⟩;refine⟨_,rfl,?_⟩;replace BK215:=Aside0.mk (qaa (zB BK215) hb);replace BK216:=Aside0.mk (qaa (zB BK216) hb);replace BK217:=Aside0.mk (qaa (zB BK217) hb);replace HB:=Aside0.mk (qab (za7 HB GE215 GE216 GE217) hb);(try clear hb)))
      replace BK215:=Aside0.mk (blk_drew BK215.out)
      replace BK216:=Aside0.mk (blk_drew BK216.out)
      replace BK217:=Aside0.mk (blk_drew BK217.out)
      replace HB:=Aside0.mk (qae HB.out)
      refine start_ (n:=8) (S:=fun w'=>w'.cell? ⟨gb215,0,none⟩=some (.int .i64 a0_0)∧w'.cell? ⟨gb215,1,none⟩=some (.slice A0_1 l0_1.length c0_1)) (ds:=[]) #[false,false,false,false,false,false,false,false] (by kernel_rfl) rfl rfl ⟨(blk_cell BK215.out 0).trans rfl,(blk_cell BK215.out 1).trans rfl⟩ (fun hHeld=>?_);refine with_tabW impl_StockDo.tab3 impl_StockDo.bits3 (fun HT_ HW_=>?_)
      generalize w20.drew=w21 at BK215 BK216 BK217 HB hHeld ⊢
      refine qar (i:=0) (N:=some 13) (v:=?_) (a':=?_) #[true,false,false,false,false,false,false,false] rfl rfl (qan HT_.out (by kernel_rfl)) (fun _ _ _ h=>h) (Or.inl ⟨by rfl,?_⟩) ?_ ?_
      rotate_left
      ·intro w'
       go_simp
       with_reducible rfl
      rotate_left
      ·simp only[Act.put,List.setIfInBounds_toArray,List.set_cons_zero,List.set_cons_succ,qaj,qak]
       rfl
      refine qar (i:=2) (N:=some 15) (v:=?_) (a':=?_) #[true,false,true,false,false,false,false,false] rfl rfl (qan HT_.out (by kernel_rfl)) (fun _ _ _ h=>h) (Or.inl ⟨by rfl,?_⟩) ?_ ?_
      rotate_left
      ·intro w'
       go_simp
       with_reducible rfl
      rotate_left
      ·simp only[Act.put,List.setIfInBounds_toArray,List.set_cons_zero,List.set_cons_succ,qaj,qak]
       rfl
      refine take_ (i:=1) (N:=some 14) (v:=?_) (a':=?_) #[true,true,true,false,false,false,false,false] rfl rfl (take_ofW HT_.out HW_.out (by kernel_rfl)) (fun _ _ _ h=>h) (Or.inl ⟨by rfl,?_⟩) hHeld ?_ ?_
      rotate_left
      ·rintro w' ⟨s0,s1⟩
       go_simp
       with_reducible rfl
      rotate_left
      ·simp only[Act.put,List.setIfInBounds_toArray,List.set_cons_zero,List.set_cons_succ,qaj,qak]
       rfl
      refine take_ (i:=3) (N:=some 16) (v:=?_) (a':=?_) #[true,true,true,true,false,false,false,false] rfl rfl (take_ofW HT_.out HW_.out (by kernel_rfl)) (fun _ _ _ h=>h) (Or.inl ⟨by rfl,?_⟩) hHeld ?_ ?_
      rotate_left
      ·rintro w' ⟨s0,s1⟩
       go_simp
       with_reducible rfl
      rotate_left
      ·simp only[Act.put,List.setIfInBounds_toArray,List.set_cons_zero,List.set_cons_succ,qaj,qak]
       rfl
      refine join_ (σ:=Value × Nat) 1 #[true,true,true,true,true,true,true,false] (fun s_=>[(17,s_.1),(6,.pointer (some ⟨s_.2,0,none⟩)),(18,.agg #[.int .i64 a0_0,s_.1])]) (fun s_ w'=>(w'.cell? ⟨gb215,0,none⟩=some (.int .i64 a0_0)∧w'.cell? ⟨gb215,1,none⟩=some (.slice A0_1 l0_1.length c0_1))∧(Kd.R k46 46 w' w.heap.size (fun _=>True) s_.1 t219)∧(w'.heap[gb215]?=some (.cells #[.int .i64 a0_0,.slice A0_1 l0_1.length c0_1] 36 (0,0)))∧(w'.heap[gb216]?=some (.cells #[.int .i64 a1_0,.int .i64 a1_1,.slice A1_2 l1_2.length c1_2] 62 (0,0)))∧(w'.heap[gb217]?=some (.cells #[.int .i64 0,.slice none 0 0] 36 (0,0)))∧(w'.heap[s_.2]?=some (.cells #[.int .i64 0,.slice none 0 0] 36 (0,0)))∧(w.heap.size≤s_.2)∧(w.heap.size≤s_.2)∧(gb215≠s_.2)∧(s_.2≠gb215)∧(gb216≠s_.2)∧(s_.2≠gb216)∧(gb217≠s_.2)∧(s_.2≠gb217)∧(Below w.heap.size w w')) ?_ ?_
      rotate_left
      ·intro hCont
       refine two_ (i:=4) (j:=6) (Ni:=some 17) (Nj:=some 6) #[true,true,true,true,true,false,false,false] #[true,true,true,true,false,false,true,false] rfl rfl rfl rfl (two_of HT_.out (by kernel_rfl)) (by decide) (by decide) (fun K hK=>?_) (fun K hK=>?_)
       ·skip
        refine goes_ Try.func104 (by kernel_rfl) rfl #[.slice A0_1 l0_1.length c0_1] (by rfl) rfl rfl (by(try simp only[List.map_toArray,List.map_cons,List.map_nil]);first|done|rfl|(simp only[List.length_drop,List.length_take];rfl)) ?_
        with_reducible refine(impl_Hold_104.calls _ _ l0_1 t219 _ ?side1 ?side2 A5.out).mono ?_
        (case side1=>exact zR HR0_1 HB)
        (case side2=>exact HC0_1.out)
        rintro e w22 ⟨v220,rfl,ho0,hb⟩
        refine⟨_,rfl,?_⟩
        have HO221:=Aside0.mk (Kd.R_lower ho0 (below_size (za7 HB GE215 GE216 GE217)))
        replace BK215:=Aside0.mk (qaa (zB BK215) hb)
        replace BK216:=Aside0.mk (qaa (zB BK216) hb)
        replace BK217:=Aside0.mk (qaa (zB BK217) hb)
        replace HB:=Aside0.mk (qab (za7 HB GE215 GE216 GE217) hb)
        (try clear hb)
        (try clear hb2)
        (try clear hk)
        (try clear hi)
        (try clear ho0)
        obtain⟨Ao23,co23,eo23⟩:=Kd.R_slice HO221.out
        (first|subst eo23|(injection eo23 with f1_ f2_ f3_;have f4_:=f1_.symm;have f5_:=f3_.symm;clear f1_ f2_ f3_;subst f4_;subst f5_))
        refine hK.out _ _ ⟨(blk_cell BK215.out 0).trans rfl,(blk_cell BK215.out 1).trans rfl⟩ (fun hHeld=>?_)
        clear hK K
        refine norm_ (a':=?_) ?_ ?_
        rotate_left
        ·show Act.put _ (some 17) _=_
         simp only[Act.put,List.setIfInBounds_toArray,List.set_cons_zero,List.set_cons_succ,qaj,qak]
         rfl
        refine qar (i:=5) (N:=some 18) (v:=?_) (a':=?_) #[true,true,true,true,true,true,false,false] rfl rfl (qan HT_.out (by kernel_rfl)) (fun _ _ _ h=>h) (Or.inl ⟨by rfl,?_⟩) ?_ ?_
        rotate_left
        ·intro w'
         go_simp
         with_reducible rfl
        rotate_left
        ·simp only[Act.put,List.setIfInBounds_toArray,List.set_cons_zero,List.set_cons_succ,qaj,qak]
         rfl
        refine one_ (i:=6) (N:=some 6) #[true,true,true,true,true,true,true,false] rfl rfl (one_of HT_.out (by kernel_rfl)) (by decide) (fun K hK=>?_)
        refine box_step (by rfl) (N:=6) (by rfl) (cs:=#[.int .i64 0,.slice none 0 0]) (t:=36) (by first|(go_simp;done)|(go_simp;rfl)) ?_
        intro gb222 hg w24 hbox hb
        replace HO221:=Aside0.mk (Kd.R_below (za3 HO221) hb)
        have BK222:=Aside0.mk hbox
        have GW222:=zH (w:=w) hg (za7 HB GE215 GE216 GE217)
        have GE222:=GW222
        replace HB:=Aside0.mk (qab (za7 HB GE215 GE216 GE217) hb)
        have NB215_222:=zL BK215 hg
        have NB222_215:=zG BK215 hg
        replace BK215:=Aside0.mk (qaa (zB BK215) hb)
        have NB216_222:=zL BK216 hg
        have NB222_216:=zG BK216 hg
        replace BK216:=Aside0.mk (qaa (zB BK216) hb)
        have NB217_222:=zL BK217 hg
        have NB222_217:=zG BK217 hg
        replace BK217:=Aside0.mk (qaa (zB BK217) hb)
        clear hb hbox hg
        refine hK.out _ _ ⟨(blk_cell BK215.out 0).trans rfl,(blk_cell BK215.out 1).trans rfl⟩ (fun hHeld=>?_)
        clear hK K
        refine norm_ (a':=?_) ?_ ?_
        rotate_left
        ·show Act.put _ (some 6) _=_
         simp only[Act.put,List.setIfInBounds_toArray,List.set_cons_zero,List.set_cons_succ,qaj,qak]
         rfl
        exact norm_ (by simp only[putAll,Act.put,List.setIfInBounds_toArray,List.set_cons_zero,List.set_cons_succ]) (hCont (.slice Ao23 t219.length co23,gb222) _ ⟨hHeld,(za3 HO221),(zB BK215),(zB BK216),(zB BK217),(zB BK222),GW222.out,GE222.out,NB215_222.out,NB222_215.out,NB216_222.out,NB222_216.out,NB217_222.out,NB222_217.out,(za12 HB GE215 GE216 GE217 GE222)⟩)
       ·skip
        refine box_step (by rfl) (N:=6) (by rfl) (cs:=#[.int .i64 0,.slice none 0 0]) (t:=36) (by first|(go_simp;done)|(go_simp;rfl)) ?_
        intro gb222 hg w22 hbox hb
        have BK222:=Aside0.mk hbox
        have GW222:=zH (w:=w) hg (za7 HB GE215 GE216 GE217)
        have GE222:=GW222
        replace HB:=Aside0.mk (qab (za7 HB GE215 GE216 GE217) hb)
        have NB215_222:=zL BK215 hg
        have NB222_215:=zG BK215 hg
        replace BK215:=Aside0.mk (qaa (zB BK215) hb)
        have NB216_222:=zL BK216 hg
        have NB222_216:=zG BK216 hg
        replace BK216:=Aside0.mk (qaa (zB BK216) hb)
        have NB217_222:=zL BK217 hg
        have NB222_217:=zG BK217 hg
        replace BK217:=Aside0.mk (qaa (zB BK217) hb)
        clear hb hbox hg
        refine hK.out _ _ ⟨(blk_cell BK215.out 0).trans rfl,(blk_cell BK215.out 1).trans rfl⟩ (fun hHeld=>?_)
        clear hK K
        refine norm_ (a':=?_) ?_ ?_
        rotate_left
        ·show Act.put _ (some 6) _=_
         simp only[Act.put,List.setIfInBounds_toArray,List.set_cons_zero,List.set_cons_succ,qaj,qak]
         rfl
        refine one_ (i:=4) (N:=some 17) #[true,true,true,true,true,false,true,false] rfl rfl (one_of HT_.out (by kernel_rfl)) (by decide) (fun K hK=>?_)
        refine goes_ Try.func104 (by kernel_rfl) rfl #[.slice A0_1 l0_1.length c0_1] (by rfl) rfl rfl (by(try simp only[List.map_toArray,List.map_cons,List.map_nil]);first|done|rfl|(simp only[List.length_drop,List.length_take];rfl)) ?_
        with_reducible refine(impl_Hold_104.calls _ _ l0_1 t219 _ ?side1 ?side2 A5.out).mono ?_
        (case side1=>exact zR HR0_1 HB)
        (case side2=>exact HC0_1.out)
        rintro e w23 ⟨v220,rfl,ho0,hb⟩
        refine⟨_,rfl,?_⟩
        have HO221:=Aside0.mk (Kd.R_lower ho0 (below_size (za12 HB GE215 GE216 GE217 GE222)))
        replace BK215:=Aside0.mk (qaa (zB BK215) hb)
        replace BK216:=Aside0.mk (qaa (zB BK216) hb)
        replace BK217:=Aside0.mk (qaa (zB BK217) hb)
        replace BK222:=Aside0.mk (qaa (zB BK222) hb)
        replace HB:=Aside0.mk (qab (za12 HB GE215 GE216 GE217 GE222) hb)
        (try clear hb)
        (try clear hb2)
        (try clear hk)
        (try clear hi)
        (try clear ho0)
        obtain⟨Ao24,co24,eo24⟩:=Kd.R_slice HO221.out
        (first|subst eo24|(injection eo24 with f1_ f2_ f3_;have f4_:=f1_.symm;have f5_:=f3_.symm;clear f1_ f2_ f3_;subst f4_;subst f5_))
        refine hK.out _ _ ⟨(blk_cell BK215.out 0).trans rfl,(blk_cell BK215.out 1).trans rfl⟩ (fun hHeld=>?_)
        clear hK K
        refine norm_ (a':=?_) ?_ ?_
        rotate_left
        ·show Act.put _ (some 17) _=_
         simp only[Act.put,List.setIfInBounds_toArray,List.set_cons_zero,List.set_cons_succ,qaj,qak]
         rfl
        refine qar (i:=5) (N:=some 18) (v:=?_) (a':=?_) #[true,true,true,true,true,true,true,false] rfl rfl (qan HT_.out (by kernel_rfl)) (fun _ _ _ h=>h) (Or.inl ⟨by rfl,?_⟩) ?_ ?_
        rotate_left
        ·intro w'
         go_simp
         with_reducible rfl
        rotate_left
        ·simp only[Act.put,List.setIfInBounds_toArray,List.set_cons_zero,List.set_cons_succ,qaj,qak]
         rfl
        exact norm_ (by simp only[putAll,Act.put,List.setIfInBounds_toArray,List.set_cons_zero,List.set_cons_succ]) (hCont (.slice Ao24 t219.length co24,gb222) _ ⟨hHeld,(za3 HO221),(zB BK215),(zB BK216),(zB BK217),(zB BK222),GW222.out,GE222.out,NB215_222.out,NB222_215.out,NB216_222.out,NB222_216.out,NB217_222.out,NB222_217.out,(za12 HB GE215 GE216 GE217 GE222)⟩)
      rintro⟨v220,gb222⟩ w25 ⟨hS_,h0_,h1_,h2_,h3_,h4_,h5_,h6_,h7_,h8_,h9_,h10_,h11_,h12_,h13_⟩
      have HO221:Aside0 (Kd.R k46 46 w25 w.heap.size (fun _=>True) v220 t219):=⟨h0_⟩
      replace BK215:Aside0 (w25.heap[gb215]?=some (.cells #[.int .i64 a0_0,.slice A0_1 l0_1.length c0_1] 36 (0,0))):=⟨h1_⟩
      replace BK216:Aside0 (w25.heap[gb216]?=some (.cells #[.int .i64 a1_0,.int .i64 a1_1,.slice A1_2 l1_2.length c1_2] 62 (0,0))):=⟨h2_⟩
      replace BK217:Aside0 (w25.heap[gb217]?=some (.cells #[.int .i64 0,.slice none 0 0] 36 (0,0))):=⟨h3_⟩
      have BK222:Aside0 (w25.heap[gb222]?=some (.cells #[.int .i64 0,.slice none 0 0] 36 (0,0))):=⟨h4_⟩
      have GW222:Aside0 (w.heap.size≤gb222):=⟨h5_⟩
      have GE222:Aside0 (w.heap.size≤gb222):=⟨h6_⟩
      have NB215_222:Aside0 (gb215≠gb222):=⟨h7_⟩
      have NB222_215:Aside0 (gb222≠gb215):=⟨h8_⟩
      have NB216_222:Aside0 (gb216≠gb222):=⟨h9_⟩
      have NB222_216:Aside0 (gb222≠gb216):=⟨h10_⟩
      have NB217_222:Aside0 (gb217≠gb222):=⟨h11_⟩
      have NB222_217:Aside0 (gb222≠gb217):=⟨h12_⟩
      replace HB:Aside0 (Below w.heap.size w w25):=⟨h13_⟩
      clear h0_ h1_ h2_ h3_ h4_ h5_ h6_ h7_ h8_ h9_ h10_ h11_ h12_ h13_
      have hHeld:w25.cell? ⟨gb215,0,none⟩=some (.int .i64 a0_0)∧w25.cell? ⟨gb215,1,none⟩=some (.slice A0_1 l0_1.length c0_1):=hS_
      obtain⟨Ao26,co26,eo26⟩:=Kd.R_slice HO221.out
      (first|subst eo26|(injection eo26 with f1_ f2_ f3_;have f4_:=f1_.symm;have f5_:=f3_.symm;clear f1_ f2_ f3_;subst f4_;subst f5_))
      refine norm_ (a':=?_) ?_ ?_
      rotate_left
      ·simp only[putAll,Act.put,List.setIfInBounds_toArray,List.set_cons_zero,List.set_cons_succ]
       rfl
      refine one_ (i:=7) (N:=none) #[true,true,true,true,true,true,true,true] rfl rfl (one_of HT_.out (by kernel_rfl)) (by decide) (fun K hK=>?_)
      have hs27:w25.cell? ⟨gb222,0,none⟩=some (.int .i64 0):=(blk_cell BK222.out 0).trans rfl
      have hfs27:=blk_frozen BK222.out 0
      have hns27_0:=NB215_222.out
      have hns27_1:=NB216_222.out
      have hns27_2:=NB217_222.out
      have hms27_0:=NB222_215.out
      have hms27_1:=NB222_216.out
      have hms27_2:=NB222_217.out
      have hs28:w25.cell? ⟨gb222,1,none⟩=some (.slice none 0 0):=(blk_cell BK222.out 1).trans rfl
      have hfs28:=blk_frozen BK222.out 1
      have hns28_0:=NB215_222.out
      have hns28_1:=NB216_222.out
      have hns28_2:=NB217_222.out
      have hms28_0:=NB222_215.out
      have hms28_1:=NB222_216.out
      have hms28_2:=NB222_217.out
      refine skip_ (w1:=?_) (by rfl) rfl ?_ ?_
      rotate_left
      ·go_simp
       rfl
      refine hK.out _ _ ⟨((qap (p:=⟨gb222,_,none⟩) NB215_222.out _).trans (((qap (p:=⟨gb222,_,none⟩) NB215_222.out _).trans (hHeld.1)))),((qap (p:=⟨gb222,_,none⟩) NB215_222.out _).trans (((qap (p:=⟨gb222,_,none⟩) NB215_222.out _).trans (hHeld.2))))⟩ (fun hHeld=>?_)
      clear hK K
      refine done_ (done_of HT_.out (by kernel_rfl)) ?_
      have n0_:Aside0 (Kd.R k46 46 ((w25.setCell ⟨gb222,0,none⟩ (.int .i64 a0_0)).setCell ⟨gb222,1,none⟩ (.slice Ao26 t219.length co26)) w.heap.size (fun _=>True) (.slice Ao26 t219.length co26) t219):=⟨by(with_reducible repeat(first|apply Kd.R_alloc|apply Kd.R_drewN|apply Kd.R_drew));exact Kd.R_mono (Kd.R_far (p:=⟨gb222,1,none⟩) (Kd.R_far (p:=⟨gb222,0,none⟩) (Kd.R_types HO221.out BK222.out (by decide)) (fun _ hk=>hk.2) (.int .i64 a0_0)) (fun _ hk=>hk.2) (.slice Ao26 t219.length co26)) (fun _ hk=>trivial)⟩
      have n1_:Aside0 (((w25.setCell ⟨gb222,0,none⟩ (.int .i64 a0_0)).setCell ⟨gb222,1,none⟩ (.slice Ao26 t219.length co26)).heap[gb215]?=some (.cells #[.int .i64 a0_0,.slice A0_1 l0_1.length c0_1] 36 (0,0))):=⟨za4 NB215_222 BK215⟩
      have n2_:Aside0 (((w25.setCell ⟨gb222,0,none⟩ (.int .i64 a0_0)).setCell ⟨gb222,1,none⟩ (.slice Ao26 t219.length co26)).heap[gb216]?=some (.cells #[.int .i64 a1_0,.int .i64 a1_1,.slice A1_2 l1_2.length c1_2] 62 (0,0))):=⟨za4 NB216_222 BK216⟩
      have n3_:Aside0 (((w25.setCell ⟨gb222,0,none⟩ (.int .i64 a0_0)).setCell ⟨gb222,1,none⟩ (.slice Ao26 t219.length co26)).heap[gb217]?=some (.cells #[.int .i64 0,.slice none 0 0] 36 (0,0))):=⟨za4 NB217_222 BK217⟩
      have n4_:Aside0 (((w25.setCell ⟨gb222,0,none⟩ (.int .i64 a0_0)).setCell ⟨gb222,1,none⟩ (.slice Ao26 t219.length co26)).heap[gb222]?=some (.cells #[.int .i64 a0_0,.slice Ao26 t219.length co26] 36 (0,0))):=⟨by(with_reducible repeat(first|refine blk_drewN ?_ _|refine blk_drew ?_|refine blk_alloc ?_ _));refine qai (cs:=#[.int .i64 a0_0,.slice none 0 0]) ?_ 1 _ rfl;(with_reducible repeat(first|refine blk_drewN ?_ _|refine blk_drew ?_|refine blk_alloc ?_ _));refine qai (cs:=#[.int .i64 0,.slice none 0 0]) ?_ 0 _ rfl;(with_reducible repeat(first|refine blk_drewN ?_ _|refine blk_drew ?_|refine blk_alloc ?_ _));exact BK222.out⟩
      have n5_:Aside0 (Below w.heap.size w ((w25.setCell ⟨gb222,0,none⟩ (.int .i64 a0_0)).setCell ⟨gb222,1,none⟩ (.slice Ao26 t219.length co26))):=⟨za12 HB GE215 GE216 GE217 GE222⟩
      (try clear HO221)
      (try clear BK215)
      (try clear BK216)
      (try clear BK217)
      (try clear BK222)
      (try clear HB)
      generalize ((w25.setCell ⟨gb222,0,none⟩ (.int .i64 a0_0)).setCell ⟨gb222,1,none⟩ (.slice Ao26 t219.length co26))=w29 at n0_ n1_ n2_ n3_ n4_ n5_ ⊢
      have HO221:=n0_
      have BK215:=n1_
      have BK216:=n2_
      have BK217:=n3_
      have BK222:=n4_
      have HB:=n5_
      clear n0_ n1_ n2_ n3_ n4_ n5_
      have hnb30:=NB222_215.out
      have hnc30:=NB215_222.out
      have hnb31:=NB222_216.out
      have hnc31:=NB216_222.out
      have hnb32:=NB222_217.out
      have hnc32:=NB217_222.out
      obtain⟨hcz33_0,hcz33_1,hfz33_0,hfz33_1⟩:=zC2 BK222
      obtain⟨hcz34_0,hcz34_1,hcz34_2,hfz34_0,hfz34_1,hfz34_2⟩:=zC3 BK216
      have p9:0≤((ji6):Int):=of_decide_eq_true (za5)
      have q9:((ji6):Int)<((t219.length:Int):Int):=of_decide_eq_true (za5)
      obtain⟨go9,co9,eo9,gb9,gl9,cl9,HG9⟩:=Kd.R_form HO221.out (by omega)
      (first|cases eo9|(injection eo9 with ea_ en_ ec_;(first|subst ea_|(injection ea_ with ea_;subst ea_));subst ec_;clear en_))
      have GB9:=Aside0.mk gb9
      have GG9:=Aside0.mk HG9
      clear gb9 gl9 HG9
      obtain⟨ce9,hcl9,hM9,hcc9,hfr9⟩:=Kd.R_elem HO221.out z46 ((ji6):Int) p9 q9
      obtain rfl:=k46_openM hM9
      have hx9_0:w29.cell? ⟨go9,((ji6):Int).toNat*2,none⟩=some (.int .i64 ((rd_T46 t219 (ji6)).f0)):=hcc9 0 _ rfl
      have hx9_1:w29.cell? ⟨go9,((ji6):Int).toNat*2+1,none⟩=some (.int .i64 ((rd_T46 t219 (ji6)).f1)):=hcc9 1 _ rfl
      have hf9_0:w29.frozen? ⟨go9,((ji6):Int).toNat*2,none⟩=false:=hfr9 0
      have hf9_1:w29.frozen? ⟨go9,((ji6):Int).toNat*2+1,none⟩=false:=hfr9 1
      clear hcl9 hcc9 hfr9 hM9
      replace p9:=eq_true p9
      replace q9:=eq_true q9
      have p223:0≤(0:Int):=(by omega)
      have q223:0<(l1_2.length:Int):=of_decide_eq_true (za5)
      obtain⟨ad223,e223,hx223_0⟩:=Kd.at_int HR1_2.out 0 p223 q223
      cases e223
      have qi223:(0<l1_2.length)=True:=eq_true (by omega)
      (try rw[show((0:Int)).toNat=0 from rfl] at hx223_0)
      (try rw[Addr.add_zero'] at hx223_0)
      replace hx223_0:=(HB.out.cell (World.block_lt_of_cell? w _ hx223_0)).trans hx223_0
      replace p223:=eq_true p223
      replace q223:=eq_true q223
      have HX35:=Aside0.mk (show Kd.R k46 46 w29 w.heap.size (fun _=>True) (.slice (some ⟨go9,0,none⟩) t219.length co26) t219 from(za3 HO221))
      obtain⟨ce35,hcl35,hM35,hcc35,hfr35⟩:=Kd.R_elem HX35.out z46 ((ji6):Int) (of_decide_eq_true (za5)) (by have h_:((ji6):Int)<((t219.length:Int):Int):=of_decide_eq_true (za5);first|exact h_|(have e_:=(Kd.R_reads' HO221.out).1;omega)|simpa using h_)
      obtain rfl:=k46_openM hM35
      have HP35:=Kd.R_seg HX35.out ((ji6):Int) (of_decide_eq_true (za5)) (by have h_:((ji6):Int)<((t219.length:Int):Int):=of_decide_eq_true (za5);first|exact h_|(have e_:=(Kd.R_reads' HO221.out).1;omega)|simpa using h_) (seg:=[.int .i64 (rd l1_2 0),.int .i64 1]) (j:=0) hcl35 hcc35 (show 2≤2 from by decide) (x':=(⟨rd l1_2 0,1⟩:S46)) (k46_mkM _ _ _ (⟨rd l1_2 0,1⟩:S46) ) (fun _ hk=>hk)
      have hx35_0:=hcc35 0 _ rfl
      (try simp only[show(k46).sz=2 from rfl,Nat.mul_one,Nat.add_zero] at hx35_0)
      have hf35_0:=hfr35 0
      (try simp only[show(k46).sz=2 from rfl,Nat.mul_one,Nat.add_zero] at hf35_0)
      have hx35_1:=hcc35 1 _ rfl
      (try simp only[show(k46).sz=2 from rfl,Nat.mul_one,Nat.add_zero] at hx35_1)
      have hf35_1:=hfr35 1
      (try simp only[show(k46).sz=2 from rfl,Nat.mul_one,Nat.add_zero] at hf35_1)
      clear hcl35 hcc35 hfr35 hM35
      try go_wp2_with(first|((with_reducible refine gate_store (t:=46) (p:=35) rfl ?_);refine qat (t:=46) (p:=35) (v:=?vo_w36) (w1:=((w29.setCell ⟨go9,((ji6):Int).toNat*2,none⟩ (.int .i64 (rd l1_2 0))).setCell ⟨go9,((ji6):Int).toNat*2+1,none⟩ (.int .i64 1))) ?hg ?ho ?hn ?hr ?_;(case ho=>rfl);(case hg=>rfl);(case hn=>rfl);(case hr=>first|(go_simp;done)|(go_simp;rfl));intro w36 hw;have hg:w29.grownBy w36 (some go9):=(by rw[hw];exact HP35.2);have hp_:Kd.R k46 46 w36 w.heap.size (fun _=>True) (.slice (some ⟨go9,0,none⟩) t219.length co26) y224:=(by rw[hw,Ny224.out];exact HP35.1);clear HP35;replace BK215:=Aside0.mk (qas (zB BK215) hg (Kd.R_ne HO221.out BK215.out (by decide)));replace BK216:=Aside0.mk (qas (zB BK216) hg (Kd.R_ne HO221.out BK216.out (by decide)));replace BK217:=Aside0.mk (qas (zB BK217) hg (Kd.R_ne HO221.out BK217.out (by decide)));replace BK222:=Aside0.mk (qas (zB BK222) hg (Kd.R_ne HO221.out BK222.out (by decide)));replace HO221:=Aside0.mk hp_;replace HB:=Aside0.mk ((by rw[hw];exact qac (qac (HB.out) GB9.out) GB9.out:Below w.heap.size w w36));clear hg hw hp_;obtain⟨hcz37_0,hcz37_1,hfz37_0,hfz37_1⟩:=zC2 BK222;obtain⟨hcz38_0,hcz38_1,hfz38_0,hfz38_1⟩:=zC2 BK217))
      refine bodyPost_ret (results_ct rfl _ _ gb217 36 #[.int .i64 a0_0,.slice (some ⟨go9,0,none⟩) t219.length co26] (0,0) _ rfl (by(with_reducible repeat(first|refine blk_drewN ?_ _|refine blk_drew ?_|refine blk_alloc ?_ _));refine qai (cs:=#[.int .i64 a0_0,.slice none 0 0]) ?_ 1 _ rfl;(with_reducible repeat(first|refine blk_drewN ?_ _|refine blk_drew ?_|refine blk_alloc ?_ _));refine qai (cs:=#[.int .i64 0,.slice none 0 0]) ?_ 0 _ rfl;(with_reducible repeat(first|refine blk_drewN ?_ _|refine blk_drew ?_|refine blk_alloc ?_ _));exact BK217.out) Try.underlying36 rfl (by kernel_rfl)) rfl ?_
      exact⟨_,by first|rfl|(simp[qam,qal]<;>rfl)|(simp only[←hji6];first|rfl|(simp[qam,qal]<;>rfl))|(simp[*,qam,qal]<;>rfl),by(with_reducible repeat(first|apply Kd.R_alloc|apply Kd.R_drewN|apply Kd.R_drew));exact Kd.R_mono (Kd.R_far (p:=⟨gb217,1,none⟩) (Kd.R_far (p:=⟨gb217,0,none⟩) (Kd.R_types HO221.out BK217.out (by decide)) (fun _ hk=>hk.2) (.int .i64 a0_0)) (fun _ hk=>hk.2) (.slice (some ⟨go9,0,none⟩) t219.length co26)) (fun _ hk=>trivial),za12 HB GE215 GE216 GE217 GE222⟩
     ·rw[if_neg c11] at H
      exact absurd H (by simp)
    ·rw[if_neg c10] at H
     have c10b0:(a1_0 == 1)=false:=beq_eq_false_iff_ne.mpr c10
     have c10b1:(a1_0 != 1)=true:=bne_iff_ne.mpr c10
     by_cases c39:a1_0=2
     ·rw[if_pos c39] at H
      have c39b0:(a1_0 == 2)=true:=beq_iff_eq.mpr c39
      have c39b1:(a1_0 != 2)=false:=bne_eq_false_iff_eq.mpr c39
      clear c39
      obtain⟨y225,hy225⟩:∃y_:List (S46),y_=(t219.set ((ji6):Int).toNat (⟨(rd_T46 t219 (ji6)).f0,2⟩:S46)):=⟨_,rfl⟩
      replace H:(some (a0_0,y225,true))=some (r1,r2,r3):=by first|(rw[hy225];with_reducible exact H)|(have H2_:=(Option.bind_some _ _).symm.trans H;rw[hy225];with_reducible exact H2_)|(have H2_:=(Option.bind_some _ _).symm.trans H;with_reducible exact H2_)|with_reducible exact H|(rw[hy225];exact H)|exact H
      have Ny225:=Aside0.mk hy225
      clear hy225
      simp only[Option.some.injEq,Prod.mk.injEq] at H
      obtain⟨rfl,rfl,rfl⟩:=H
      go_enter Try.func66,Try.ntmps66
      try go_wp2_with(first|((with_reducible refine qah (N:=2) rfl ?_);refine zX (N:=2) (cs:=#[.int .i64 a0_0,.slice A0_1 l0_1.length c0_1]) (t:=36) ?_;intro gb215 hg w40 hbox hb;have BK215:=Aside0.mk hbox;have GW215:=zH (w:=w) hg (za1 HB);have GE215:=GW215;replace HB:=Aside0.mk (qab (za1 HB) hb);clear hb hbox hg)|((with_reducible refine qah (N:=3) rfl ?_);refine zX (N:=3) (cs:=#[.int .i64 a1_0,.int .i64 a1_1,.slice A1_2 l1_2.length c1_2]) (t:=62) ?_;intro gb216 hg w41 hbox hb;have BK216:=Aside0.mk hbox;have GW216:=zH (w:=w) hg (za0 HB GE215);have GE216:=GW216;replace HB:=Aside0.mk (qab (za0 HB GE215) hb);have NB215_216:=zL BK215 hg;have NB216_215:=zG BK215 hg;replace BK215:=Aside0.mk (qaa (zB BK215) hb);clear hb hbox hg)|((with_reducible refine qah (N:=4) rfl ?_);refine zX (N:=4) (cs:=#[.int .i64 0,.slice none 0 0]) (t:=36) ?_;intro gb217 hg w42 hbox hb;have BK217:=Aside0.mk hbox;have GW217:=zH (w:=w) hg (za2 HB GE215 GE216);have GE217:=GW217;replace HB:=Aside0.mk (qab (za2 HB GE215 GE216) hb);have NB215_217:=zL BK215 hg;have NB217_215:=zG BK215 hg;replace BK215:=Aside0.mk (qaa (zB BK215) hb);have NB216_217:=zL BK216 hg;have NB217_216:=zG BK216 hg;replace BK216:=Aside0.mk (qaa (zB BK216) hb);clear hb hbox hg;have hnb43:=NB215_216.out;have hnc43:=NB216_215.out;have hnb44:=NB215_217.out;have hnc44:=NB217_215.out;obtain⟨hcz45_0,hcz45_1,hfz45_0,hfz45_1⟩:=zC2 BK215;have hnb46:=NB216_217.out;have hnc46:=NB217_216.out;obtain⟨hcz47_0,hcz47_1,hcz47_2,hfz47_0,hfz47_1,hfz47_2⟩:=zC3 BK216)|((with_reducible refine qaf (f:=40) rfl ?_);refine zF (some 10) Try.func40 #[.agg #[.int .i64 a0_0,.slice A0_1 l0_1.length c0_1],.agg #[.int .i64 a1_0,.int .i64 a1_1,.slice A1_2 l1_2.length c1_2]] ?_;(with_reducible refine(impl_StockMay.calls k a0_0 _ _ l0_1 a1_0 a1_1 _ _ l1_2 true _ ?side1 ?side2 ?side3 ?side4 A3.out).mono ?_);(case side1=>exact zR HR0_1 HB);(case side2=>exact HC0_1.out);(case side3=>exact zR HR1_2 HB);(case side4=>exact HC1_2.out);rintro e w48 ⟨rfl,hb⟩;refine⟨_,rfl,?_⟩;replace BK215:=Aside0.mk (qaa (zB BK215) hb);replace BK216:=Aside0.mk (qaa (zB BK216) hb);replace BK217:=Aside0.mk (qaa (zB BK217) hb);replace HB:=Aside0.mk (qab (za7 HB GE215 GE216 GE217) hb);(try clear hb)))
      replace BK215:=Aside0.mk (blk_drew BK215.out)
      replace BK216:=Aside0.mk (blk_drew BK216.out)
      replace BK217:=Aside0.mk (blk_drew BK217.out)
      replace HB:=Aside0.mk (qae HB.out)
      refine start_ (n:=8) (S:=fun w'=>w'.cell? ⟨gb215,0,none⟩=some (.int .i64 a0_0)∧w'.cell? ⟨gb215,1,none⟩=some (.slice A0_1 l0_1.length c0_1)) (ds:=[]) #[false,false,false,false,false,false,false,false] (by kernel_rfl) rfl rfl ⟨(blk_cell BK215.out 0).trans rfl,(blk_cell BK215.out 1).trans rfl⟩ (fun hHeld=>?_);refine with_tabW impl_StockDo.tab3 impl_StockDo.bits3 (fun HT_ HW_=>?_)
      generalize w48.drew=w49 at BK215 BK216 BK217 HB hHeld ⊢
      refine qar (i:=0) (N:=some 13) (v:=?_) (a':=?_) #[true,false,false,false,false,false,false,false] rfl rfl (qan HT_.out (by kernel_rfl)) (fun _ _ _ h=>h) (Or.inl ⟨by rfl,?_⟩) ?_ ?_
      rotate_left
      ·intro w'
       go_simp
       with_reducible rfl
      rotate_left
      ·simp only[Act.put,List.setIfInBounds_toArray,List.set_cons_zero,List.set_cons_succ,qaj,qak]
       rfl
      refine qar (i:=2) (N:=some 15) (v:=?_) (a':=?_) #[true,false,true,false,false,false,false,false] rfl rfl (qan HT_.out (by kernel_rfl)) (fun _ _ _ h=>h) (Or.inl ⟨by rfl,?_⟩) ?_ ?_
      rotate_left
      ·intro w'
       go_simp
       with_reducible rfl
      rotate_left
      ·simp only[Act.put,List.setIfInBounds_toArray,List.set_cons_zero,List.set_cons_succ,qaj,qak]
       rfl
      refine take_ (i:=1) (N:=some 14) (v:=?_) (a':=?_) #[true,true,true,false,false,false,false,false] rfl rfl (take_ofW HT_.out HW_.out (by kernel_rfl)) (fun _ _ _ h=>h) (Or.inl ⟨by rfl,?_⟩) hHeld ?_ ?_
      rotate_left
      ·rintro w' ⟨s0,s1⟩
       go_simp
       with_reducible rfl
      rotate_left
      ·simp only[Act.put,List.setIfInBounds_toArray,List.set_cons_zero,List.set_cons_succ,qaj,qak]
       rfl
      refine take_ (i:=3) (N:=some 16) (v:=?_) (a':=?_) #[true,true,true,true,false,false,false,false] rfl rfl (take_ofW HT_.out HW_.out (by kernel_rfl)) (fun _ _ _ h=>h) (Or.inl ⟨by rfl,?_⟩) hHeld ?_ ?_
      rotate_left
      ·rintro w' ⟨s0,s1⟩
       go_simp
       with_reducible rfl
      rotate_left
      ·simp only[Act.put,List.setIfInBounds_toArray,List.set_cons_zero,List.set_cons_succ,qaj,qak]
       rfl
      refine join_ (σ:=Value × Nat) 1 #[true,true,true,true,true,true,true,false] (fun s_=>[(17,s_.1),(6,.pointer (some ⟨s_.2,0,none⟩)),(18,.agg #[.int .i64 a0_0,s_.1])]) (fun s_ w'=>(w'.cell? ⟨gb215,0,none⟩=some (.int .i64 a0_0)∧w'.cell? ⟨gb215,1,none⟩=some (.slice A0_1 l0_1.length c0_1))∧(Kd.R k46 46 w' w.heap.size (fun _=>True) s_.1 t219)∧(w'.heap[gb215]?=some (.cells #[.int .i64 a0_0,.slice A0_1 l0_1.length c0_1] 36 (0,0)))∧(w'.heap[gb216]?=some (.cells #[.int .i64 a1_0,.int .i64 a1_1,.slice A1_2 l1_2.length c1_2] 62 (0,0)))∧(w'.heap[gb217]?=some (.cells #[.int .i64 0,.slice none 0 0] 36 (0,0)))∧(w'.heap[s_.2]?=some (.cells #[.int .i64 0,.slice none 0 0] 36 (0,0)))∧(w.heap.size≤s_.2)∧(w.heap.size≤s_.2)∧(gb215≠s_.2)∧(s_.2≠gb215)∧(gb216≠s_.2)∧(s_.2≠gb216)∧(gb217≠s_.2)∧(s_.2≠gb217)∧(Below w.heap.size w w')) ?_ ?_
      rotate_left
      ·intro hCont
       refine two_ (i:=4) (j:=6) (Ni:=some 17) (Nj:=some 6) #[true,true,true,true,true,false,false,false] #[true,true,true,true,false,false,true,false] rfl rfl rfl rfl (two_of HT_.out (by kernel_rfl)) (by decide) (by decide) (fun K hK=>?_) (fun K hK=>?_)
       ·skip
        refine goes_ Try.func104 (by kernel_rfl) rfl #[.slice A0_1 l0_1.length c0_1] (by rfl) rfl rfl (by(try simp only[List.map_toArray,List.map_cons,List.map_nil]);first|done|rfl|(simp only[List.length_drop,List.length_take];rfl)) ?_
        with_reducible refine(impl_Hold_104.calls _ _ l0_1 t219 _ ?side1 ?side2 A5.out).mono ?_
        (case side1=>exact zR HR0_1 HB)
        (case side2=>exact HC0_1.out)
        rintro e w50 ⟨v220,rfl,ho0,hb⟩
        refine⟨_,rfl,?_⟩
        have HO221:=Aside0.mk (Kd.R_lower ho0 (below_size (za7 HB GE215 GE216 GE217)))
        replace BK215:=Aside0.mk (qaa (zB BK215) hb)
        replace BK216:=Aside0.mk (qaa (zB BK216) hb)
        replace BK217:=Aside0.mk (qaa (zB BK217) hb)
        replace HB:=Aside0.mk (qab (za7 HB GE215 GE216 GE217) hb)
        (try clear hb)
        (try clear hb2)
        (try clear hk)
        (try clear hi)
        (try clear ho0)
        obtain⟨Ao51,co51,eo51⟩:=Kd.R_slice HO221.out
        (first|subst eo51|(injection eo51 with f1_ f2_ f3_;have f4_:=f1_.symm;have f5_:=f3_.symm;clear f1_ f2_ f3_;subst f4_;subst f5_))
        refine hK.out _ _ ⟨(blk_cell BK215.out 0).trans rfl,(blk_cell BK215.out 1).trans rfl⟩ (fun hHeld=>?_)
        clear hK K
        refine norm_ (a':=?_) ?_ ?_
        rotate_left
        ·show Act.put _ (some 17) _=_
         simp only[Act.put,List.setIfInBounds_toArray,List.set_cons_zero,List.set_cons_succ,qaj,qak]
         rfl
        refine qar (i:=5) (N:=some 18) (v:=?_) (a':=?_) #[true,true,true,true,true,true,false,false] rfl rfl (qan HT_.out (by kernel_rfl)) (fun _ _ _ h=>h) (Or.inl ⟨by rfl,?_⟩) ?_ ?_
        rotate_left
        ·intro w'
         go_simp
         with_reducible rfl
        rotate_left
        ·simp only[Act.put,List.setIfInBounds_toArray,List.set_cons_zero,List.set_cons_succ,qaj,qak]
         rfl
        refine one_ (i:=6) (N:=some 6) #[true,true,true,true,true,true,true,false] rfl rfl (one_of HT_.out (by kernel_rfl)) (by decide) (fun K hK=>?_)
        refine box_step (by rfl) (N:=6) (by rfl) (cs:=#[.int .i64 0,.slice none 0 0]) (t:=36) (by first|(go_simp;done)|(go_simp;rfl)) ?_
        intro gb222 hg w52 hbox hb
        replace HO221:=Aside0.mk (Kd.R_below (za3 HO221) hb)
        have BK222:=Aside0.mk hbox
        have GW222:=zH (w:=w) hg (za7 HB GE215 GE216 GE217)
        have GE222:=GW222
        replace HB:=Aside0.mk (qab (za7 HB GE215 GE216 GE217) hb)
        have NB215_222:=zL BK215 hg
        have NB222_215:=zG BK215 hg
        replace BK215:=Aside0.mk (qaa (zB BK215) hb)
        have NB216_222:=zL BK216 hg
        have NB222_216:=zG BK216 hg
        replace BK216:=Aside0.mk (qaa (zB BK216) hb)
        have NB217_222:=zL BK217 hg
        have NB222_217:=zG BK217 hg
        replace BK217:=Aside0.mk (qaa (zB BK217) hb)
        clear hb hbox hg
        refine hK.out _ _ ⟨(blk_cell BK215.out 0).trans rfl,(blk_cell BK215.out 1).trans rfl⟩ (fun hHeld=>?_)
        clear hK K
        refine norm_ (a':=?_) ?_ ?_
        rotate_left
        ·show Act.put _ (some 6) _=_
         simp only[Act.put,List.setIfInBounds_toArray,List.set_cons_zero,List.set_cons_succ,qaj,qak]
         rfl
        exact norm_ (by simp only[putAll,Act.put,List.setIfInBounds_toArray,List.set_cons_zero,List.set_cons_succ]) (hCont (.slice Ao51 t219.length co51,gb222) _ ⟨hHeld,(za3 HO221),(zB BK215),(zB BK216),(zB BK217),(zB BK222),GW222.out,GE222.out,NB215_222.out,NB222_215.out,NB216_222.out,NB222_216.out,NB217_222.out,NB222_217.out,(za12 HB GE215 GE216 GE217 GE222)⟩)
       ·skip
        refine box_step (by rfl) (N:=6) (by rfl) (cs:=#[.int .i64 0,.slice none 0 0]) (t:=36) (by first|(go_simp;done)|(go_simp;rfl)) ?_
        intro gb222 hg w50 hbox hb
        have BK222:=Aside0.mk hbox
        have GW222:=zH (w:=w) hg (za7 HB GE215 GE216 GE217)
        have GE222:=GW222
        replace HB:=Aside0.mk (qab (za7 HB GE215 GE216 GE217) hb)
        have NB215_222:=zL BK215 hg
        have NB222_215:=zG BK215 hg
        replace BK215:=Aside0.mk (qaa (zB BK215) hb)
        have NB216_222:=zL BK216 hg
        have NB222_216:=zG BK216 hg
        replace BK216:=Aside0.mk (qaa (zB BK216) hb)
        have NB217_222:=zL BK217 hg
        have NB222_217:=zG BK217 hg
        replace BK217:=Aside0.mk (qaa (zB BK217) hb)
        clear hb hbox hg
        refine hK.out _ _ ⟨(blk_cell BK215.out 0).trans rfl,(blk_cell BK215.out 1).trans rfl⟩ (fun hHeld=>?_)
        clear hK K
        refine norm_ (a':=?_) ?_ ?_
        rotate_left
        ·show Act.put _ (some 6) _=_
         simp only[Act.put,List.setIfInBounds_toArray,List.set_cons_zero,List.set_cons_succ,qaj,qak]
         rfl
        refine one_ (i:=4) (N:=some 17) #[true,true,true,true,true,false,true,false] rfl rfl (one_of HT_.out (by kernel_rfl)) (by decide) (fun K hK=>?_)
        refine goes_ Try.func104 (by kernel_rfl) rfl #[.slice A0_1 l0_1.length c0_1] (by rfl) rfl rfl (by(try simp only[List.map_toArray,List.map_cons,List.map_nil]);first|done|rfl|(simp only[List.length_drop,List.length_take];rfl)) ?_
        with_reducible refine(impl_Hold_104.calls _ _ l0_1 t219 _ ?side1 ?side2 A5.out).mono ?_
        (case side1=>exact zR HR0_1 HB)
        (case side2=>exact HC0_1.out)
        rintro e w51 ⟨v220,rfl,ho0,hb⟩
        refine⟨_,rfl,?_⟩
        have HO221:=Aside0.mk (Kd.R_lower ho0 (below_size (za12 HB GE215 GE216 GE217 GE222)))
        replace BK215:=Aside0.mk (qaa (zB BK215) hb)
        replace BK216:=Aside0.mk (qaa (zB BK216) hb)
        replace BK217:=Aside0.mk (qaa (zB BK217) hb)
        replace BK222:=Aside0.mk (qaa (zB BK222) hb)
        replace HB:=Aside0.mk (qab (za12 HB GE215 GE216 GE217 GE222) hb)
        (try clear hb)
        (try clear hb2)
        (try clear hk)
        (try clear hi)
        (try clear ho0)
        obtain⟨Ao52,co52,eo52⟩:=Kd.R_slice HO221.out
        (first|subst eo52|(injection eo52 with f1_ f2_ f3_;have f4_:=f1_.symm;have f5_:=f3_.symm;clear f1_ f2_ f3_;subst f4_;subst f5_))
        refine hK.out _ _ ⟨(blk_cell BK215.out 0).trans rfl,(blk_cell BK215.out 1).trans rfl⟩ (fun hHeld=>?_)
        clear hK K
        refine norm_ (a':=?_) ?_ ?_
        rotate_left
        ·show Act.put _ (some 17) _=_
         simp only[Act.put,List.setIfInBounds_toArray,List.set_cons_zero,List.set_cons_succ,qaj,qak]
         rfl
        refine qar (i:=5) (N:=some 18) (v:=?_) (a':=?_) #[true,true,true,true,true,true,true,false] rfl rfl (qan HT_.out (by kernel_rfl)) (fun _ _ _ h=>h) (Or.inl ⟨by rfl,?_⟩) ?_ ?_
        rotate_left
        ·intro w'
         go_simp
         with_reducible rfl
        rotate_left
        ·simp only[Act.put,List.setIfInBounds_toArray,List.set_cons_zero,List.set_cons_succ,qaj,qak]
         rfl
        exact norm_ (by simp only[putAll,Act.put,List.setIfInBounds_toArray,List.set_cons_zero,List.set_cons_succ]) (hCont (.slice Ao52 t219.length co52,gb222) _ ⟨hHeld,(za3 HO221),(zB BK215),(zB BK216),(zB BK217),(zB BK222),GW222.out,GE222.out,NB215_222.out,NB222_215.out,NB216_222.out,NB222_216.out,NB217_222.out,NB222_217.out,(za12 HB GE215 GE216 GE217 GE222)⟩)
      rintro⟨v220,gb222⟩ w53 ⟨hS_,h0_,h1_,h2_,h3_,h4_,h5_,h6_,h7_,h8_,h9_,h10_,h11_,h12_,h13_⟩
      have HO221:Aside0 (Kd.R k46 46 w53 w.heap.size (fun _=>True) v220 t219):=⟨h0_⟩
      replace BK215:Aside0 (w53.heap[gb215]?=some (.cells #[.int .i64 a0_0,.slice A0_1 l0_1.length c0_1] 36 (0,0))):=⟨h1_⟩
      replace BK216:Aside0 (w53.heap[gb216]?=some (.cells #[.int .i64 a1_0,.int .i64 a1_1,.slice A1_2 l1_2.length c1_2] 62 (0,0))):=⟨h2_⟩
      replace BK217:Aside0 (w53.heap[gb217]?=some (.cells #[.int .i64 0,.slice none 0 0] 36 (0,0))):=⟨h3_⟩
      have BK222:Aside0 (w53.heap[gb222]?=some (.cells #[.int .i64 0,.slice none 0 0] 36 (0,0))):=⟨h4_⟩
      have GW222:Aside0 (w.heap.size≤gb222):=⟨h5_⟩
      have GE222:Aside0 (w.heap.size≤gb222):=⟨h6_⟩
      have NB215_222:Aside0 (gb215≠gb222):=⟨h7_⟩
      have NB222_215:Aside0 (gb222≠gb215):=⟨h8_⟩
      have NB216_222:Aside0 (gb216≠gb222):=⟨h9_⟩
      have NB222_216:Aside0 (gb222≠gb216):=⟨h10_⟩
      have NB217_222:Aside0 (gb217≠gb222):=⟨h11_⟩
      have NB222_217:Aside0 (gb222≠gb217):=⟨h12_⟩
      replace HB:Aside0 (Below w.heap.size w w53):=⟨h13_⟩
      clear h0_ h1_ h2_ h3_ h4_ h5_ h6_ h7_ h8_ h9_ h10_ h11_ h12_ h13_
      have hHeld:w53.cell? ⟨gb215,0,none⟩=some (.int .i64 a0_0)∧w53.cell? ⟨gb215,1,none⟩=some (.slice A0_1 l0_1.length c0_1):=hS_
      obtain⟨Ao54,co54,eo54⟩:=Kd.R_slice HO221.out
      (first|subst eo54|(injection eo54 with f1_ f2_ f3_;have f4_:=f1_.symm;have f5_:=f3_.symm;clear f1_ f2_ f3_;subst f4_;subst f5_))
      refine norm_ (a':=?_) ?_ ?_
      rotate_left
      ·simp only[putAll,Act.put,List.setIfInBounds_toArray,List.set_cons_zero,List.set_cons_succ]
       rfl
      refine one_ (i:=7) (N:=none) #[true,true,true,true,true,true,true,true] rfl rfl (one_of HT_.out (by kernel_rfl)) (by decide) (fun K hK=>?_)
      have hs55:w53.cell? ⟨gb222,0,none⟩=some (.int .i64 0):=(blk_cell BK222.out 0).trans rfl
      have hfs55:=blk_frozen BK222.out 0
      have hns55_0:=NB215_222.out
      have hns55_1:=NB216_222.out
      have hns55_2:=NB217_222.out
      have hms55_0:=NB222_215.out
      have hms55_1:=NB222_216.out
      have hms55_2:=NB222_217.out
      have hs56:w53.cell? ⟨gb222,1,none⟩=some (.slice none 0 0):=(blk_cell BK222.out 1).trans rfl
      have hfs56:=blk_frozen BK222.out 1
      have hns56_0:=NB215_222.out
      have hns56_1:=NB216_222.out
      have hns56_2:=NB217_222.out
      have hms56_0:=NB222_215.out
      have hms56_1:=NB222_216.out
      have hms56_2:=NB222_217.out
      refine skip_ (w1:=?_) (by rfl) rfl ?_ ?_
      rotate_left
      ·go_simp
       rfl
      refine hK.out _ _ ⟨((qap (p:=⟨gb222,_,none⟩) NB215_222.out _).trans (((qap (p:=⟨gb222,_,none⟩) NB215_222.out _).trans (hHeld.1)))),((qap (p:=⟨gb222,_,none⟩) NB215_222.out _).trans (((qap (p:=⟨gb222,_,none⟩) NB215_222.out _).trans (hHeld.2))))⟩ (fun hHeld=>?_)
      clear hK K
      refine done_ (done_of HT_.out (by kernel_rfl)) ?_
      have n0_:Aside0 (Kd.R k46 46 ((w53.setCell ⟨gb222,0,none⟩ (.int .i64 a0_0)).setCell ⟨gb222,1,none⟩ (.slice Ao54 t219.length co54)) w.heap.size (fun _=>True) (.slice Ao54 t219.length co54) t219):=⟨by(with_reducible repeat(first|apply Kd.R_alloc|apply Kd.R_drewN|apply Kd.R_drew));exact Kd.R_mono (Kd.R_far (p:=⟨gb222,1,none⟩) (Kd.R_far (p:=⟨gb222,0,none⟩) (Kd.R_types HO221.out BK222.out (by decide)) (fun _ hk=>hk.2) (.int .i64 a0_0)) (fun _ hk=>hk.2) (.slice Ao54 t219.length co54)) (fun _ hk=>trivial)⟩
      have n1_:Aside0 (((w53.setCell ⟨gb222,0,none⟩ (.int .i64 a0_0)).setCell ⟨gb222,1,none⟩ (.slice Ao54 t219.length co54)).heap[gb215]?=some (.cells #[.int .i64 a0_0,.slice A0_1 l0_1.length c0_1] 36 (0,0))):=⟨za4 NB215_222 BK215⟩
      have n2_:Aside0 (((w53.setCell ⟨gb222,0,none⟩ (.int .i64 a0_0)).setCell ⟨gb222,1,none⟩ (.slice Ao54 t219.length co54)).heap[gb216]?=some (.cells #[.int .i64 a1_0,.int .i64 a1_1,.slice A1_2 l1_2.length c1_2] 62 (0,0))):=⟨za4 NB216_222 BK216⟩
      have n3_:Aside0 (((w53.setCell ⟨gb222,0,none⟩ (.int .i64 a0_0)).setCell ⟨gb222,1,none⟩ (.slice Ao54 t219.length co54)).heap[gb217]?=some (.cells #[.int .i64 0,.slice none 0 0] 36 (0,0))):=⟨za4 NB217_222 BK217⟩
      have n4_:Aside0 (((w53.setCell ⟨gb222,0,none⟩ (.int .i64 a0_0)).setCell ⟨gb222,1,none⟩ (.slice Ao54 t219.length co54)).heap[gb222]?=some (.cells #[.int .i64 a0_0,.slice Ao54 t219.length co54] 36 (0,0))):=⟨by(with_reducible repeat(first|refine blk_drewN ?_ _|refine blk_drew ?_|refine blk_alloc ?_ _));refine qai (cs:=#[.int .i64 a0_0,.slice none 0 0]) ?_ 1 _ rfl;(with_reducible repeat(first|refine blk_drewN ?_ _|refine blk_drew ?_|refine blk_alloc ?_ _));refine qai (cs:=#[.int .i64 0,.slice none 0 0]) ?_ 0 _ rfl;(with_reducible repeat(first|refine blk_drewN ?_ _|refine blk_drew ?_|refine blk_alloc ?_ _));exact BK222.out⟩
      have n5_:Aside0 (Below w.heap.size w ((w53.setCell ⟨gb222,0,none⟩ (.int .i64 a0_0)).setCell ⟨gb222,1,none⟩ (.slice Ao54 t219.length co54))):=⟨za12 HB GE215 GE216 GE217 GE222⟩
      (try clear HO221)
      (try clear BK215)
      (try clear BK216)
      (try clear BK217)
      (try clear BK222)
      (try clear HB)
      generalize ((w53.setCell ⟨gb222,0,none⟩ (.int .i64 a0_0)).setCell ⟨gb222,1,none⟩ (.slice Ao54 t219.length co54))=w57 at n0_ n1_ n2_ n3_ n4_ n5_ ⊢
      have HO221:=n0_
      have BK215:=n1_
      have BK216:=n2_
      have BK217:=n3_
      have BK222:=n4_
      have HB:=n5_
      clear n0_ n1_ n2_ n3_ n4_ n5_
      have hnb58:=NB222_215.out
      have hnc58:=NB215_222.out
      have hnb59:=NB222_216.out
      have hnc59:=NB216_222.out
      have hnb60:=NB222_217.out
      have hnc60:=NB217_222.out
      obtain⟨hcz61_0,hcz61_1,hfz61_0,hfz61_1⟩:=zC2 BK222
      obtain⟨hcz62_0,hcz62_1,hcz62_2,hfz62_0,hfz62_1,hfz62_2⟩:=zC3 BK216
      have p9:0≤((ji6):Int):=of_decide_eq_true (za5)
      have q9:((ji6):Int)<((t219.length:Int):Int):=of_decide_eq_true (za5)
      obtain⟨go9,co9,eo9,gb9,gl9,cl9,HG9⟩:=Kd.R_form HO221.out (by omega)
      (first|cases eo9|(injection eo9 with ea_ en_ ec_;(first|subst ea_|(injection ea_ with ea_;subst ea_));subst ec_;clear en_))
      have GB9:=Aside0.mk gb9
      have GG9:=Aside0.mk HG9
      clear gb9 gl9 HG9
      obtain⟨ce9,hcl9,hM9,hcc9,hfr9⟩:=Kd.R_elem HO221.out z46 ((ji6):Int) p9 q9
      obtain rfl:=k46_openM hM9
      have hx9_0:w57.cell? ⟨go9,((ji6):Int).toNat*2,none⟩=some (.int .i64 ((rd_T46 t219 (ji6)).f0)):=hcc9 0 _ rfl
      have hx9_1:w57.cell? ⟨go9,((ji6):Int).toNat*2+1,none⟩=some (.int .i64 ((rd_T46 t219 (ji6)).f1)):=hcc9 1 _ rfl
      have hf9_0:w57.frozen? ⟨go9,((ji6):Int).toNat*2,none⟩=false:=hfr9 0
      have hf9_1:w57.frozen? ⟨go9,((ji6):Int).toNat*2+1,none⟩=false:=hfr9 1
      clear hcl9 hcc9 hfr9 hM9
      replace p9:=eq_true p9
      replace q9:=eq_true q9
      have HX63:=Aside0.mk (show Kd.R k46 46 w57 w.heap.size (fun _=>True) (.slice (some ⟨go9,0,none⟩) t219.length co54) t219 from(za3 HO221))
      obtain⟨ce63,hcl63,hM63,hcc63,hfr63⟩:=Kd.R_elem HX63.out z46 ((ji6):Int) (of_decide_eq_true (za5)) (by have h_:((ji6):Int)<((t219.length:Int):Int):=of_decide_eq_true (za5);first|exact h_|(have e_:=(Kd.R_reads' HO221.out).1;omega)|simpa using h_)
      obtain rfl:=k46_openM hM63
      have HP63:=Kd.R_seg HX63.out ((ji6):Int) (of_decide_eq_true (za5)) (by have h_:((ji6):Int)<((t219.length:Int):Int):=of_decide_eq_true (za5);first|exact h_|(have e_:=(Kd.R_reads' HO221.out).1;omega)|simpa using h_) (seg:=[.int .i64 2]) (j:=1) hcl63 hcc63 (show 2≤2 from by decide) (x':=(⟨(rd_T46 t219 (ji6)).f0,2⟩:S46)) (k46_mkM _ _ _ (⟨(rd_T46 t219 (ji6)).f0,2⟩:S46) ) (fun _ hk=>hk)
      have hx63_1:=hcc63 1 _ rfl
      (try simp only[show(k46).sz=2 from rfl,Nat.mul_one,Nat.add_zero] at hx63_1)
      have hf63_1:=hfr63 1
      (try simp only[show(k46).sz=2 from rfl,Nat.mul_one,Nat.add_zero] at hf63_1)
      clear hcl63 hcc63 hfr63 hM63
      try go_wp2_with(first|((with_reducible refine gate_store (t:=3) (p:=40) rfl ?_);refine qat (t:=3) (p:=40) (v:=?vo_w64) (w1:=(w57.setCell ⟨go9,((ji6):Int).toNat*2+1,none⟩ (.int .i64 2))) ?hg ?ho ?hn ?hr ?_;(case ho=>rfl);(case hg=>rfl);(case hn=>rfl);(case hr=>first|(go_simp;done)|(go_simp;rfl));intro w64 hw;have hg:w57.grownBy w64 (some go9):=(by rw[hw];exact HP63.2);have hp_:Kd.R k46 46 w64 w.heap.size (fun _=>True) (.slice (some ⟨go9,0,none⟩) t219.length co54) y225:=(by rw[hw,Ny225.out];exact HP63.1);clear HP63;replace BK215:=Aside0.mk (qas (zB BK215) hg (Kd.R_ne HO221.out BK215.out (by decide)));replace BK216:=Aside0.mk (qas (zB BK216) hg (Kd.R_ne HO221.out BK216.out (by decide)));replace BK217:=Aside0.mk (qas (zB BK217) hg (Kd.R_ne HO221.out BK217.out (by decide)));replace BK222:=Aside0.mk (qas (zB BK222) hg (Kd.R_ne HO221.out BK222.out (by decide)));replace HO221:=Aside0.mk hp_;replace HB:=Aside0.mk ((by rw[hw];exact qac (HB.out) GB9.out:Below w.heap.size w w64));clear hg hw hp_;obtain⟨hcz65_0,hcz65_1,hfz65_0,hfz65_1⟩:=zC2 BK222;obtain⟨hcz66_0,hcz66_1,hfz66_0,hfz66_1⟩:=zC2 BK217))
      refine bodyPost_ret (results_ct rfl _ _ gb217 36 #[.int .i64 a0_0,.slice (some ⟨go9,0,none⟩) t219.length co54] (0,0) _ rfl (by(with_reducible repeat(first|refine blk_drewN ?_ _|refine blk_drew ?_|refine blk_alloc ?_ _));refine qai (cs:=#[.int .i64 a0_0,.slice none 0 0]) ?_ 1 _ rfl;(with_reducible repeat(first|refine blk_drewN ?_ _|refine blk_drew ?_|refine blk_alloc ?_ _));refine qai (cs:=#[.int .i64 0,.slice none 0 0]) ?_ 0 _ rfl;(with_reducible repeat(first|refine blk_drewN ?_ _|refine blk_drew ?_|refine blk_alloc ?_ _));exact BK217.out) Try.underlying36 rfl (by kernel_rfl)) rfl ?_
      exact⟨_,by first|rfl|(simp[qam,qal]<;>rfl)|(simp only[←hji6];first|rfl|(simp[qam,qal]<;>rfl))|(simp[*,qam,qal]<;>rfl),by(with_reducible repeat(first|apply Kd.R_alloc|apply Kd.R_drewN|apply Kd.R_drew));exact Kd.R_mono (Kd.R_far (p:=⟨gb217,1,none⟩) (Kd.R_far (p:=⟨gb217,0,none⟩) (Kd.R_types HO221.out BK217.out (by decide)) (fun _ hk=>hk.2) (.int .i64 a0_0)) (fun _ hk=>hk.2) (.slice (some ⟨go9,0,none⟩) t219.length co54)) (fun _ hk=>trivial),za12 HB GE215 GE216 GE217 GE222⟩
     ·rw[if_neg c39] at H
      have c39b0:(a1_0 == 2)=false:=beq_eq_false_iff_ne.mpr c39
      have c39b1:(a1_0 != 2)=true:=bne_iff_ne.mpr c39
      by_cases c67:a1_0=3
      ·rw[if_pos c67] at H
       have c67b0:(a1_0 == 3)=true:=beq_iff_eq.mpr c67
       have c67b1:(a1_0 != 3)=false:=bne_eq_false_iff_eq.mpr c67
       clear c67
       obtain⟨y226,hy226⟩:∃y_:List (S46),y_=(t219.set ((ji6):Int).toNat (⟨(rd_T46 t219 (ji6)).f0,3⟩:S46)):=⟨_,rfl⟩
       replace H:(some (a0_0,y226,true))=some (r1,r2,r3):=by first|(rw[hy226];with_reducible exact H)|(have H2_:=(Option.bind_some _ _).symm.trans H;rw[hy226];with_reducible exact H2_)|(have H2_:=(Option.bind_some _ _).symm.trans H;with_reducible exact H2_)|with_reducible exact H|(rw[hy226];exact H)|exact H
       have Ny226:=Aside0.mk hy226
       clear hy226
       simp only[Option.some.injEq,Prod.mk.injEq] at H
       obtain⟨rfl,rfl,rfl⟩:=H
       go_enter Try.func66,Try.ntmps66
       try go_wp2_with(first|((with_reducible refine qah (N:=2) rfl ?_);refine zX (N:=2) (cs:=#[.int .i64 a0_0,.slice A0_1 l0_1.length c0_1]) (t:=36) ?_;intro gb215 hg w68 hbox hb;have BK215:=Aside0.mk hbox;have GW215:=zH (w:=w) hg (za1 HB);have GE215:=GW215;replace HB:=Aside0.mk (qab (za1 HB) hb);clear hb hbox hg)|((with_reducible refine qah (N:=3) rfl ?_);refine zX (N:=3) (cs:=#[.int .i64 a1_0,.int .i64 a1_1,.slice A1_2 l1_2.length c1_2]) (t:=62) ?_;intro gb216 hg w69 hbox hb;have BK216:=Aside0.mk hbox;have GW216:=zH (w:=w) hg (za0 HB GE215);have GE216:=GW216;replace HB:=Aside0.mk (qab (za0 HB GE215) hb);have NB215_216:=zL BK215 hg;have NB216_215:=zG BK215 hg;replace BK215:=Aside0.mk (qaa (zB BK215) hb);clear hb hbox hg)|((with_reducible refine qah (N:=4) rfl ?_);refine zX (N:=4) (cs:=#[.int .i64 0,.slice none 0 0]) (t:=36) ?_;intro gb217 hg w70 hbox hb;have BK217:=Aside0.mk hbox;have GW217:=zH (w:=w) hg (za2 HB GE215 GE216);have GE217:=GW217;replace HB:=Aside0.mk (qab (za2 HB GE215 GE216) hb);have NB215_217:=zL BK215 hg;have NB217_215:=zG BK215 hg;replace BK215:=Aside0.mk (qaa (zB BK215) hb);have NB216_217:=zL BK216 hg;have NB217_216:=zG BK216 hg;replace BK216:=Aside0.mk (qaa (zB BK216) hb);clear hb hbox hg;have hnb71:=NB215_216.out;have hnc71:=NB216_215.out;have hnb72:=NB215_217.out;have hnc72:=NB217_215.out;obtain⟨hcz73_0,hcz73_1,hfz73_0,hfz73_1⟩:=zC2 BK215;have hnb74:=NB216_217.out;have hnc74:=NB217_216.out;obtain⟨hcz75_0,hcz75_1,hcz75_2,hfz75_0,hfz75_1,hfz75_2⟩:=zC3 BK216)|((with_reducible refine qaf (f:=40) rfl ?_);refine zF (some 10) Try.func40 #[.agg #[.int .i64 a0_0,.slice A0_1 l0_1.length c0_1],.agg #[.int .i64 a1_0,.int .i64 a1_1,.slice A1_2 l1_2.length c1_2]] ?_;(with_reducible refine(impl_StockMay.calls k a0_0 _ _ l0_1 a1_0 a1_1 _ _ l1_2 true _ ?side1 ?side2 ?side3 ?side4 A3.out).mono ?_);(case side1=>exact zR HR0_1 HB);(case side2=>exact HC0_1.out);(case side3=>exact zR HR1_2 HB);(case side4=>exact HC1_2.out);rintro e w76 ⟨rfl,hb⟩;refine⟨_,rfl,?_⟩;replace BK215:=Aside0.mk (qaa (zB BK215) hb);replace BK216:=Aside0.mk (qaa (zB BK216) hb);replace BK217:=Aside0.mk (qaa (zB BK217) hb);replace HB:=Aside0.mk (qab (za7 HB GE215 GE216 GE217) hb);(try clear hb)))
       replace BK215:=Aside0.mk (blk_drew BK215.out)
       replace BK216:=Aside0.mk (blk_drew BK216.out)
       replace BK217:=Aside0.mk (blk_drew BK217.out)
       replace HB:=Aside0.mk (qae HB.out)
       refine start_ (n:=8) (S:=fun w'=>w'.cell? ⟨gb215,0,none⟩=some (.int .i64 a0_0)∧w'.cell? ⟨gb215,1,none⟩=some (.slice A0_1 l0_1.length c0_1)) (ds:=[]) #[false,false,false,false,false,false,false,false] (by kernel_rfl) rfl rfl ⟨(blk_cell BK215.out 0).trans rfl,(blk_cell BK215.out 1).trans rfl⟩ (fun hHeld=>?_);refine with_tabW impl_StockDo.tab3 impl_StockDo.bits3 (fun HT_ HW_=>?_)
       generalize w76.drew=w77 at BK215 BK216 BK217 HB hHeld ⊢
       refine qar (i:=0) (N:=some 13) (v:=?_) (a':=?_) #[true,false,false,false,false,false,false,false] rfl rfl (qan HT_.out (by kernel_rfl)) (fun _ _ _ h=>h) (Or.inl ⟨by rfl,?_⟩) ?_ ?_
       rotate_left
       ·intro w'
        go_simp
        with_reducible rfl
       rotate_left
       ·simp only[Act.put,List.setIfInBounds_toArray,List.set_cons_zero,List.set_cons_succ,qaj,qak]
        rfl
       refine qar (i:=2) (N:=some 15) (v:=?_) (a':=?_) #[true,false,true,false,false,false,false,false] rfl rfl (qan HT_.out (by kernel_rfl)) (fun _ _ _ h=>h) (Or.inl ⟨by rfl,?_⟩) ?_ ?_
       rotate_left
       ·intro w'
        go_simp
        with_reducible rfl
       rotate_left
       ·simp only[Act.put,List.setIfInBounds_toArray,List.set_cons_zero,List.set_cons_succ,qaj,qak]
        rfl
       refine take_ (i:=1) (N:=some 14) (v:=?_) (a':=?_) #[true,true,true,false,false,false,false,false] rfl rfl (take_ofW HT_.out HW_.out (by kernel_rfl)) (fun _ _ _ h=>h) (Or.inl ⟨by rfl,?_⟩) hHeld ?_ ?_
       rotate_left
       ·rintro w' ⟨s0,s1⟩
        go_simp
        with_reducible rfl
       rotate_left
       ·simp only[Act.put,List.setIfInBounds_toArray,List.set_cons_zero,List.set_cons_succ,qaj,qak]
        rfl
       refine take_ (i:=3) (N:=some 16) (v:=?_) (a':=?_) #[true,true,true,true,false,false,false,false] rfl rfl (take_ofW HT_.out HW_.out (by kernel_rfl)) (fun _ _ _ h=>h) (Or.inl ⟨by rfl,?_⟩) hHeld ?_ ?_
       rotate_left
       ·rintro w' ⟨s0,s1⟩
        go_simp
        with_reducible rfl
       rotate_left
       ·simp only[Act.put,List.setIfInBounds_toArray,List.set_cons_zero,List.set_cons_succ,qaj,qak]
        rfl
       refine join_ (σ:=Value × Nat) 1 #[true,true,true,true,true,true,true,false] (fun s_=>[(17,s_.1),(6,.pointer (some ⟨s_.2,0,none⟩)),(18,.agg #[.int .i64 a0_0,s_.1])]) (fun s_ w'=>(w'.cell? ⟨gb215,0,none⟩=some (.int .i64 a0_0)∧w'.cell? ⟨gb215,1,none⟩=some (.slice A0_1 l0_1.length c0_1))∧(Kd.R k46 46 w' w.heap.size (fun _=>True) s_.1 t219)∧(w'.heap[gb215]?=some (.cells #[.int .i64 a0_0,.slice A0_1 l0_1.length c0_1] 36 (0,0)))∧(w'.heap[gb216]?=some (.cells #[.int .i64 a1_0,.int .i64 a1_1,.slice A1_2 l1_2.length c1_2] 62 (0,0)))∧(w'.heap[gb217]?=some (.cells #[.int .i64 0,.slice none 0 0] 36 (0,0)))∧(w'.heap[s_.2]?=some (.cells #[.int .i64 0,.slice none 0 0] 36 (0,0)))∧(w.heap.size≤s_.2)∧(w.heap.size≤s_.2)∧(gb215≠s_.2)∧(s_.2≠gb215)∧(gb216≠s_.2)∧(s_.2≠gb216)∧(gb217≠s_.2)∧(s_.2≠gb217)∧(Below w.heap.size w w')) ?_ ?_
       rotate_left
       ·intro hCont
        refine two_ (i:=4) (j:=6) (Ni:=some 17) (Nj:=some 6) #[true,true,true,true,true,false,false,false] #[true,true,true,true,false,false,true,false] rfl rfl rfl rfl (two_of HT_.out (by kernel_rfl)) (by decide) (by decide) (fun K hK=>?_) (fun K hK=>?_)
        ·skip
         refine goes_ Try.func104 (by kernel_rfl) rfl #[.slice A0_1 l0_1.length c0_1] (by rfl) rfl rfl (by(try simp only[List.map_toArray,List.map_cons,List.map_nil]);first|done|rfl|(simp only[List.length_drop,List.length_take];rfl)) ?_
         with_reducible refine(impl_Hold_104.calls _ _ l0_1 t219 _ ?side1 ?side2 A5.out).mono ?_
         (case side1=>exact zR HR0_1 HB)
         (case side2=>exact HC0_1.out)
         rintro e w78 ⟨v220,rfl,ho0,hb⟩
         refine⟨_,rfl,?_⟩
         have HO221:=Aside0.mk (Kd.R_lower ho0 (below_size (za7 HB GE215 GE216 GE217)))
         replace BK215:=Aside0.mk (qaa (zB BK215) hb)
         replace BK216:=Aside0.mk (qaa (zB BK216) hb)
         replace BK217:=Aside0.mk (qaa (zB BK217) hb)
         replace HB:=Aside0.mk (qab (za7 HB GE215 GE216 GE217) hb)
         (try clear hb)
         (try clear hb2)
         (try clear hk)
         (try clear hi)
         (try clear ho0)
         obtain⟨Ao79,co79,eo79⟩:=Kd.R_slice HO221.out
         (first|subst eo79|(injection eo79 with f1_ f2_ f3_;have f4_:=f1_.symm;have f5_:=f3_.symm;clear f1_ f2_ f3_;subst f4_;subst f5_))
         refine hK.out _ _ ⟨(blk_cell BK215.out 0).trans rfl,(blk_cell BK215.out 1).trans rfl⟩ (fun hHeld=>?_)
         clear hK K
         refine norm_ (a':=?_) ?_ ?_
         rotate_left
         ·show Act.put _ (some 17) _=_
          simp only[Act.put,List.setIfInBounds_toArray,List.set_cons_zero,List.set_cons_succ,qaj,qak]
          rfl
         refine qar (i:=5) (N:=some 18) (v:=?_) (a':=?_) #[true,true,true,true,true,true,false,false] rfl rfl (qan HT_.out (by kernel_rfl)) (fun _ _ _ h=>h) (Or.inl ⟨by rfl,?_⟩) ?_ ?_
         rotate_left
         ·intro w'
          go_simp
          with_reducible rfl
         rotate_left
         ·simp only[Act.put,List.setIfInBounds_toArray,List.set_cons_zero,List.set_cons_succ,qaj,qak]
          rfl
         refine one_ (i:=6) (N:=some 6) #[true,true,true,true,true,true,true,false] rfl rfl (one_of HT_.out (by kernel_rfl)) (by decide) (fun K hK=>?_)
         refine box_step (by rfl) (N:=6) (by rfl) (cs:=#[.int .i64 0,.slice none 0 0]) (t:=36) (by first|(go_simp;done)|(go_simp;rfl)) ?_
         intro gb222 hg w80 hbox hb
         replace HO221:=Aside0.mk (Kd.R_below (za3 HO221) hb)
         have BK222:=Aside0.mk hbox
         have GW222:=zH (w:=w) hg (za7 HB GE215 GE216 GE217)
         have GE222:=GW222
         replace HB:=Aside0.mk (qab (za7 HB GE215 GE216 GE217) hb)
         have NB215_222:=zL BK215 hg
         have NB222_215:=zG BK215 hg
         replace BK215:=Aside0.mk (qaa (zB BK215) hb)
         have NB216_222:=zL BK216 hg
         have NB222_216:=zG BK216 hg
         replace BK216:=Aside0.mk (qaa (zB BK216) hb)
         have NB217_222:=zL BK217 hg
         have NB222_217:=zG BK217 hg
         replace BK217:=Aside0.mk (qaa (zB BK217) hb)
         clear hb hbox hg
         refine hK.out _ _ ⟨(blk_cell BK215.out 0).trans rfl,(blk_cell BK215.out 1).trans rfl⟩ (fun hHeld=>?_)
         clear hK K
         refine norm_ (a':=?_) ?_ ?_
         rotate_left
         ·show Act.put _ (some 6) _=_
          simp only[Act.put,List.setIfInBounds_toArray,List.set_cons_zero,List.set_cons_succ,qaj,qak]
          rfl
         exact norm_ (by simp only[putAll,Act.put,List.setIfInBounds_toArray,List.set_cons_zero,List.set_cons_succ]) (hCont (.slice Ao79 t219.length co79,gb222) _ ⟨hHeld,(za3 HO221),(zB BK215),(zB BK216),(zB BK217),(zB BK222),GW222.out,GE222.out,NB215_222.out,NB222_215.out,NB216_222.out,NB222_216.out,NB217_222.out,NB222_217.out,(za12 HB GE215 GE216 GE217 GE222)⟩)
        ·skip
         refine box_step (by rfl) (N:=6) (by rfl) (cs:=#[.int .i64 0,.slice none 0 0]) (t:=36) (by first|(go_simp;done)|(go_simp;rfl)) ?_
         intro gb222 hg w78 hbox hb
         have BK222:=Aside0.mk hbox
         have GW222:=zH (w:=w) hg (za7 HB GE215 GE216 GE217)
         have GE222:=GW222
         replace HB:=Aside0.mk (qab (za7 HB GE215 GE216 GE217) hb)
         have NB215_222:=zL BK215 hg
         have NB222_215:=zG BK215 hg
         replace BK215:=Aside0.mk (qaa (zB BK215) hb)
         have NB216_222:=zL BK216 hg
         have NB222_216:=zG BK216 hg
         replace BK216:=Aside0.mk (qaa (zB BK216) hb)
         have NB217_222:=zL BK217 hg
         have NB222_217:=zG BK217 hg
         replace BK217:=Aside0.mk (qaa (zB BK217) hb)
         clear hb hbox hg
         refine hK.out _ _ ⟨(blk_cell BK215.out 0).trans rfl,(blk_cell BK215.out 1).trans rfl⟩ (fun hHeld=>?_)
         clear hK K
         refine norm_ (a':=?_) ?_ ?_
         rotate_left
         ·show Act.put _ (some 6) _=_
          simp only[Act.put,List.setIfInBounds_toArray,List.set_cons_zero,List.set_cons_succ,qaj,qak]
          rfl
         refine one_ (i:=4) (N:=some 17) #[true,true,true,true,true,false,true,false] rfl rfl (one_of HT_.out (by kernel_rfl)) (by decide) (fun K hK=>?_)
         refine goes_ Try.func104 (by kernel_rfl) rfl #[.slice A0_1 l0_1.length c0_1] (by rfl) rfl rfl (by(try simp only[List.map_toArray,List.map_cons,List.map_nil]);first|done|rfl|(simp only[List.length_drop,List.length_take];rfl)) ?_
         with_reducible refine(impl_Hold_104.calls _ _ l0_1 t219 _ ?side1 ?side2 A5.out).mono ?_
         (case side1=>exact zR HR0_1 HB)
         (case side2=>exact HC0_1.out)
         rintro e w79 ⟨v220,rfl,ho0,hb⟩
         refine⟨_,rfl,?_⟩
         have HO221:=Aside0.mk (Kd.R_lower ho0 (below_size (za12 HB GE215 GE216 GE217 GE222)))
         replace BK215:=Aside0.mk (qaa (zB BK215) hb)
         replace BK216:=Aside0.mk (qaa (zB BK216) hb)
         replace BK217:=Aside0.mk (qaa (zB BK217) hb)
         replace BK222:=Aside0.mk (qaa (zB BK222) hb)
         replace HB:=Aside0.mk (qab (za12 HB GE215 GE216 GE217 GE222) hb)
         (try clear hb)
         (try clear hb2)
         (try clear hk)
         (try clear hi)
         (try clear ho0)
         obtain⟨Ao80,co80,eo80⟩:=Kd.R_slice HO221.out
         (first|subst eo80|(injection eo80 with f1_ f2_ f3_;have f4_:=f1_.symm;have f5_:=f3_.symm;clear f1_ f2_ f3_;subst f4_;subst f5_))
         refine hK.out _ _ ⟨(blk_cell BK215.out 0).trans rfl,(blk_cell BK215.out 1).trans rfl⟩ (fun hHeld=>?_)
         clear hK K
         refine norm_ (a':=?_) ?_ ?_
         rotate_left
         ·show Act.put _ (some 17) _=_
          simp only[Act.put,List.setIfInBounds_toArray,List.set_cons_zero,List.set_cons_succ,qaj,qak]
          rfl
         refine qar (i:=5) (N:=some 18) (v:=?_) (a':=?_) #[true,true,true,true,true,true,true,false] rfl rfl (qan HT_.out (by kernel_rfl)) (fun _ _ _ h=>h) (Or.inl ⟨by rfl,?_⟩) ?_ ?_
         rotate_left
         ·intro w'
          go_simp
          with_reducible rfl
         rotate_left
         ·simp only[Act.put,List.setIfInBounds_toArray,List.set_cons_zero,List.set_cons_succ,qaj,qak]
          rfl
         exact norm_ (by simp only[putAll,Act.put,List.setIfInBounds_toArray,List.set_cons_zero,List.set_cons_succ]) (hCont (.slice Ao80 t219.length co80,gb222) _ ⟨hHeld,(za3 HO221),(zB BK215),(zB BK216),(zB BK217),(zB BK222),GW222.out,GE222.out,NB215_222.out,NB222_215.out,NB216_222.out,NB222_216.out,NB217_222.out,NB222_217.out,(za12 HB GE215 GE216 GE217 GE222)⟩)
       rintro⟨v220,gb222⟩ w81 ⟨hS_,h0_,h1_,h2_,h3_,h4_,h5_,h6_,h7_,h8_,h9_,h10_,h11_,h12_,h13_⟩
       have HO221:Aside0 (Kd.R k46 46 w81 w.heap.size (fun _=>True) v220 t219):=⟨h0_⟩
       replace BK215:Aside0 (w81.heap[gb215]?=some (.cells #[.int .i64 a0_0,.slice A0_1 l0_1.length c0_1] 36 (0,0))):=⟨h1_⟩
       replace BK216:Aside0 (w81.heap[gb216]?=some (.cells #[.int .i64 a1_0,.int .i64 a1_1,.slice A1_2 l1_2.length c1_2] 62 (0,0))):=⟨h2_⟩
       replace BK217:Aside0 (w81.heap[gb217]?=some (.cells #[.int .i64 0,.slice none 0 0] 36 (0,0))):=⟨h3_⟩
       have BK222:Aside0 (w81.heap[gb222]?=some (.cells #[.int .i64 0,.slice none 0 0] 36 (0,0))):=⟨h4_⟩
       have GW222:Aside0 (w.heap.size≤gb222):=⟨h5_⟩
       have GE222:Aside0 (w.heap.size≤gb222):=⟨h6_⟩
       have NB215_222:Aside0 (gb215≠gb222):=⟨h7_⟩
       have NB222_215:Aside0 (gb222≠gb215):=⟨h8_⟩
       have NB216_222:Aside0 (gb216≠gb222):=⟨h9_⟩
       have NB222_216:Aside0 (gb222≠gb216):=⟨h10_⟩
       have NB217_222:Aside0 (gb217≠gb222):=⟨h11_⟩
       have NB222_217:Aside0 (gb222≠gb217):=⟨h12_⟩
       replace HB:Aside0 (Below w.heap.size w w81):=⟨h13_⟩
       clear h0_ h1_ h2_ h3_ h4_ h5_ h6_ h7_ h8_ h9_ h10_ h11_ h12_ h13_
       have hHeld:w81.cell? ⟨gb215,0,none⟩=some (.int .i64 a0_0)∧w81.cell? ⟨gb215,1,none⟩=some (.slice A0_1 l0_1.length c0_1):=hS_
       obtain⟨Ao82,co82,eo82⟩:=Kd.R_slice HO221.out
       (first|subst eo82|(injection eo82 with f1_ f2_ f3_;have f4_:=f1_.symm;have f5_:=f3_.symm;clear f1_ f2_ f3_;subst f4_;subst f5_))
       refine norm_ (a':=?_) ?_ ?_
       rotate_left
       ·simp only[putAll,Act.put,List.setIfInBounds_toArray,List.set_cons_zero,List.set_cons_succ]
        rfl
       refine one_ (i:=7) (N:=none) #[true,true,true,true,true,true,true,true] rfl rfl (one_of HT_.out (by kernel_rfl)) (by decide) (fun K hK=>?_)
       have hs83:w81.cell? ⟨gb222,0,none⟩=some (.int .i64 0):=(blk_cell BK222.out 0).trans rfl
       have hfs83:=blk_frozen BK222.out 0
       have hns83_0:=NB215_222.out
       have hns83_1:=NB216_222.out
       have hns83_2:=NB217_222.out
       have hms83_0:=NB222_215.out
       have hms83_1:=NB222_216.out
       have hms83_2:=NB222_217.out
       have hs84:w81.cell? ⟨gb222,1,none⟩=some (.slice none 0 0):=(blk_cell BK222.out 1).trans rfl
       have hfs84:=blk_frozen BK222.out 1
       have hns84_0:=NB215_222.out
       have hns84_1:=NB216_222.out
       have hns84_2:=NB217_222.out
       have hms84_0:=NB222_215.out
       have hms84_1:=NB222_216.out
       have hms84_2:=NB222_217.out
       refine skip_ (w1:=?_) (by rfl) rfl ?_ ?_
       rotate_left
       ·go_simp
        rfl
       refine hK.out _ _ ⟨((qap (p:=⟨gb222,_,none⟩) NB215_222.out _).trans (((qap (p:=⟨gb222,_,none⟩) NB215_222.out _).trans (hHeld.1)))),((qap (p:=⟨gb222,_,none⟩) NB215_222.out _).trans (((qap (p:=⟨gb222,_,none⟩) NB215_222.out _).trans (hHeld.2))))⟩ (fun hHeld=>?_)
       clear hK K
       refine done_ (done_of HT_.out (by kernel_rfl)) ?_
       have n0_:Aside0 (Kd.R k46 46 ((w81.setCell ⟨gb222,0,none⟩ (.int .i64 a0_0)).setCell ⟨gb222,1,none⟩ (.slice Ao82 t219.length co82)) w.heap.size (fun _=>True) (.slice Ao82 t219.length co82) t219):=⟨by(with_reducible repeat(first|apply Kd.R_alloc|apply Kd.R_drewN|apply Kd.R_drew));exact Kd.R_mono (Kd.R_far (p:=⟨gb222,1,none⟩) (Kd.R_far (p:=⟨gb222,0,none⟩) (Kd.R_types HO221.out BK222.out (by decide)) (fun _ hk=>hk.2) (.int .i64 a0_0)) (fun _ hk=>hk.2) (.slice Ao82 t219.length co82)) (fun _ hk=>trivial)⟩
       have n1_:Aside0 (((w81.setCell ⟨gb222,0,none⟩ (.int .i64 a0_0)).setCell ⟨gb222,1,none⟩ (.slice Ao82 t219.length co82)).heap[gb215]?=some (.cells #[.int .i64 a0_0,.slice A0_1 l0_1.length c0_1] 36 (0,0))):=⟨za4 NB215_222 BK215⟩
       have n2_:Aside0 (((w81.setCell ⟨gb222,0,none⟩ (.int .i64 a0_0)).setCell ⟨gb222,1,none⟩ (.slice Ao82 t219.length co82)).heap[gb216]?=some (.cells #[.int .i64 a1_0,.int .i64 a1_1,.slice A1_2 l1_2.length c1_2] 62 (0,0))):=⟨za4 NB216_222 BK216⟩
       have n3_:Aside0 (((w81.setCell ⟨gb222,0,none⟩ (.int .i64 a0_0)).setCell ⟨gb222,1,none⟩ (.slice Ao82 t219.length co82)).heap[gb217]?=some (.cells #[.int .i64 0,.slice none 0 0] 36 (0,0))):=⟨za4 NB217_222 BK217⟩
       have n4_:Aside0 (((w81.setCell ⟨gb222,0,none⟩ (.int .i64 a0_0)).setCell ⟨gb222,1,none⟩ (.slice Ao82 t219.length co82)).heap[gb222]?=some (.cells #[.int .i64 a0_0,.slice Ao82 t219.length co82] 36 (0,0))):=⟨by(with_reducible repeat(first|refine blk_drewN ?_ _|refine blk_drew ?_|refine blk_alloc ?_ _));refine qai (cs:=#[.int .i64 a0_0,.slice none 0 0]) ?_ 1 _ rfl;(with_reducible repeat(first|refine blk_drewN ?_ _|refine blk_drew ?_|refine blk_alloc ?_ _));refine qai (cs:=#[.int .i64 0,.slice none 0 0]) ?_ 0 _ rfl;(with_reducible repeat(first|refine blk_drewN ?_ _|refine blk_drew ?_|refine blk_alloc ?_ _));exact BK222.out⟩
       have n5_:Aside0 (Below w.heap.size w ((w81.setCell ⟨gb222,0,none⟩ (.int .i64 a0_0)).setCell ⟨gb222,1,none⟩ (.slice Ao82 t219.length co82))):=⟨za12 HB GE215 GE216 GE217 GE222⟩
       (try clear HO221)
       (try clear BK215)
       (try clear BK216)
       (try clear BK217)
       (try clear BK222)
       (try clear HB)
       generalize ((w81.setCell ⟨gb222,0,none⟩ (.int .i64 a0_0)).setCell ⟨gb222,1,none⟩ (.slice Ao82 t219.length co82))=w85 at n0_ n1_ n2_ n3_ n4_ n5_ ⊢
       have HO221:=n0_
       have BK215:=n1_
       have BK216:=n2_
       have BK217:=n3_
       have BK222:=n4_
       have HB:=n5_
       clear n0_ n1_ n2_ n3_ n4_ n5_
       have hnb86:=NB222_215.out
       have hnc86:=NB215_222.out
       have hnb87:=NB222_216.out
       have hnc87:=NB216_222.out
       have hnb88:=NB222_217.out
       have hnc88:=NB217_222.out
       obtain⟨hcz89_0,hcz89_1,hfz89_0,hfz89_1⟩:=zC2 BK222
       obtain⟨hcz90_0,hcz90_1,hcz90_2,hfz90_0,hfz90_1,hfz90_2⟩:=zC3 BK216
       have p9:0≤((ji6):Int):=of_decide_eq_true (za5)
       have q9:((ji6):Int)<((t219.length:Int):Int):=of_decide_eq_true (za5)
       obtain⟨go9,co9,eo9,gb9,gl9,cl9,HG9⟩:=Kd.R_form HO221.out (by omega)
       (first|cases eo9|(injection eo9 with ea_ en_ ec_;(first|subst ea_|(injection ea_ with ea_;subst ea_));subst ec_;clear en_))
       have GB9:=Aside0.mk gb9
       have GG9:=Aside0.mk HG9
       clear gb9 gl9 HG9
       obtain⟨ce9,hcl9,hM9,hcc9,hfr9⟩:=Kd.R_elem HO221.out z46 ((ji6):Int) p9 q9
       obtain rfl:=k46_openM hM9
       have hx9_0:w85.cell? ⟨go9,((ji6):Int).toNat*2,none⟩=some (.int .i64 ((rd_T46 t219 (ji6)).f0)):=hcc9 0 _ rfl
       have hx9_1:w85.cell? ⟨go9,((ji6):Int).toNat*2+1,none⟩=some (.int .i64 ((rd_T46 t219 (ji6)).f1)):=hcc9 1 _ rfl
       have hf9_0:w85.frozen? ⟨go9,((ji6):Int).toNat*2,none⟩=false:=hfr9 0
       have hf9_1:w85.frozen? ⟨go9,((ji6):Int).toNat*2+1,none⟩=false:=hfr9 1
       clear hcl9 hcc9 hfr9 hM9
       replace p9:=eq_true p9
       replace q9:=eq_true q9
       have HX91:=Aside0.mk (show Kd.R k46 46 w85 w.heap.size (fun _=>True) (.slice (some ⟨go9,0,none⟩) t219.length co82) t219 from(za3 HO221))
       obtain⟨ce91,hcl91,hM91,hcc91,hfr91⟩:=Kd.R_elem HX91.out z46 ((ji6):Int) (of_decide_eq_true (za5)) (by have h_:((ji6):Int)<((t219.length:Int):Int):=of_decide_eq_true (za5);first|exact h_|(have e_:=(Kd.R_reads' HO221.out).1;omega)|simpa using h_)
       obtain rfl:=k46_openM hM91
       have HP91:=Kd.R_seg HX91.out ((ji6):Int) (of_decide_eq_true (za5)) (by have h_:((ji6):Int)<((t219.length:Int):Int):=of_decide_eq_true (za5);first|exact h_|(have e_:=(Kd.R_reads' HO221.out).1;omega)|simpa using h_) (seg:=[.int .i64 3]) (j:=1) hcl91 hcc91 (show 2≤2 from by decide) (x':=(⟨(rd_T46 t219 (ji6)).f0,3⟩:S46)) (k46_mkM _ _ _ (⟨(rd_T46 t219 (ji6)).f0,3⟩:S46) ) (fun _ hk=>hk)
       have hx91_1:=hcc91 1 _ rfl
       (try simp only[show(k46).sz=2 from rfl,Nat.mul_one,Nat.add_zero] at hx91_1)
       have hf91_1:=hfr91 1
       (try simp only[show(k46).sz=2 from rfl,Nat.mul_one,Nat.add_zero] at hf91_1)
       clear hcl91 hcc91 hfr91 hM91
       try go_wp2_with(first|((with_reducible refine gate_store (t:=3) (p:=45) rfl ?_);refine qat (t:=3) (p:=45) (v:=?vo_w92) (w1:=(w85.setCell ⟨go9,((ji6):Int).toNat*2+1,none⟩ (.int .i64 3))) ?hg ?ho ?hn ?hr ?_;(case ho=>rfl);(case hg=>rfl);(case hn=>rfl);(case hr=>first|(go_simp;done)|(go_simp;rfl));intro w92 hw;have hg:w85.grownBy w92 (some go9):=(by rw[hw];exact HP91.2);have hp_:Kd.R k46 46 w92 w.heap.size (fun _=>True) (.slice (some ⟨go9,0,none⟩) t219.length co82) y226:=(by rw[hw,Ny226.out];exact HP91.1);clear HP91;replace BK215:=Aside0.mk (qas (zB BK215) hg (Kd.R_ne HO221.out BK215.out (by decide)));replace BK216:=Aside0.mk (qas (zB BK216) hg (Kd.R_ne HO221.out BK216.out (by decide)));replace BK217:=Aside0.mk (qas (zB BK217) hg (Kd.R_ne HO221.out BK217.out (by decide)));replace BK222:=Aside0.mk (qas (zB BK222) hg (Kd.R_ne HO221.out BK222.out (by decide)));replace HO221:=Aside0.mk hp_;replace HB:=Aside0.mk ((by rw[hw];exact qac (HB.out) GB9.out:Below w.heap.size w w92));clear hg hw hp_;obtain⟨hcz93_0,hcz93_1,hfz93_0,hfz93_1⟩:=zC2 BK222;obtain⟨hcz94_0,hcz94_1,hfz94_0,hfz94_1⟩:=zC2 BK217))
       refine bodyPost_ret (results_ct rfl _ _ gb217 36 #[.int .i64 a0_0,.slice (some ⟨go9,0,none⟩) t219.length co82] (0,0) _ rfl (by(with_reducible repeat(first|refine blk_drewN ?_ _|refine blk_drew ?_|refine blk_alloc ?_ _));refine qai (cs:=#[.int .i64 a0_0,.slice none 0 0]) ?_ 1 _ rfl;(with_reducible repeat(first|refine blk_drewN ?_ _|refine blk_drew ?_|refine blk_alloc ?_ _));refine qai (cs:=#[.int .i64 0,.slice none 0 0]) ?_ 0 _ rfl;(with_reducible repeat(first|refine blk_drewN ?_ _|refine blk_drew ?_|refine blk_alloc ?_ _));exact BK217.out) Try.underlying36 rfl (by kernel_rfl)) rfl ?_
       exact⟨_,by first|rfl|(simp[qam,qal]<;>rfl)|(simp only[←hji6];first|rfl|(simp[qam,qal]<;>rfl))|(simp[*,qam,qal]<;>rfl),by(with_reducible repeat(first|apply Kd.R_alloc|apply Kd.R_drewN|apply Kd.R_drew));exact Kd.R_mono (Kd.R_far (p:=⟨gb217,1,none⟩) (Kd.R_far (p:=⟨gb217,0,none⟩) (Kd.R_types HO221.out BK217.out (by decide)) (fun _ hk=>hk.2) (.int .i64 a0_0)) (fun _ hk=>hk.2) (.slice (some ⟨go9,0,none⟩) t219.length co82)) (fun _ hk=>trivial),za12 HB GE215 GE216 GE217 GE222⟩
      ·rw[if_neg c67] at H
       have c67b0:(a1_0 == 3)=false:=beq_eq_false_iff_ne.mpr c67
       have c67b1:(a1_0 != 3)=true:=bne_iff_ne.mpr c67
       simp only[Option.some.injEq,Prod.mk.injEq] at H
       obtain⟨rfl,rfl,rfl⟩:=H
       go_enter Try.func66,Try.ntmps66
       try go_wp2_with(first|((with_reducible refine qah (N:=2) rfl ?_);refine zX (N:=2) (cs:=#[.int .i64 a0_0,.slice A0_1 l0_1.length c0_1]) (t:=36) ?_;intro gb215 hg w95 hbox hb;have BK215:=Aside0.mk hbox;have GW215:=zH (w:=w) hg (za1 HB);have GE215:=GW215;replace HB:=Aside0.mk (qab (za1 HB) hb);clear hb hbox hg)|((with_reducible refine qah (N:=3) rfl ?_);refine zX (N:=3) (cs:=#[.int .i64 a1_0,.int .i64 a1_1,.slice A1_2 l1_2.length c1_2]) (t:=62) ?_;intro gb216 hg w96 hbox hb;have BK216:=Aside0.mk hbox;have GW216:=zH (w:=w) hg (za0 HB GE215);have GE216:=GW216;replace HB:=Aside0.mk (qab (za0 HB GE215) hb);have NB215_216:=zL BK215 hg;have NB216_215:=zG BK215 hg;replace BK215:=Aside0.mk (qaa (zB BK215) hb);clear hb hbox hg)|((with_reducible refine qah (N:=4) rfl ?_);refine zX (N:=4) (cs:=#[.int .i64 0,.slice none 0 0]) (t:=36) ?_;intro gb217 hg w97 hbox hb;have BK217:=Aside0.mk hbox;have GW217:=zH (w:=w) hg (za2 HB GE215 GE216);have GE217:=GW217;replace HB:=Aside0.mk (qab (za2 HB GE215 GE216) hb);have NB215_217:=zL BK215 hg;have NB217_215:=zG BK215 hg;replace BK215:=Aside0.mk (qaa (zB BK215) hb);have NB216_217:=zL BK216 hg;have NB217_216:=zG BK216 hg;replace BK216:=Aside0.mk (qaa (zB BK216) hb);clear hb hbox hg;have hnb98:=NB215_216.out;have hnc98:=NB216_215.out;have hnb99:=NB215_217.out;have hnc99:=NB217_215.out;obtain⟨hcz100_0,hcz100_1,hfz100_0,hfz100_1⟩:=zC2 BK215;have hnb101:=NB216_217.out;have hnc101:=NB217_216.out;obtain⟨hcz102_0,hcz102_1,hcz102_2,hfz102_0,hfz102_1,hfz102_2⟩:=zC3 BK216)|((with_reducible refine qaf (f:=40) rfl ?_);refine zF (some 10) Try.func40 #[.agg #[.int .i64 a0_0,.slice A0_1 l0_1.length c0_1],.agg #[.int .i64 a1_0,.int .i64 a1_1,.slice A1_2 l1_2.length c1_2]] ?_;(with_reducible refine(impl_StockMay.calls k a0_0 _ _ l0_1 a1_0 a1_1 _ _ l1_2 true _ ?side1 ?side2 ?side3 ?side4 A3.out).mono ?_);(case side1=>exact zR HR0_1 HB);(case side2=>exact HC0_1.out);(case side3=>exact zR HR1_2 HB);(case side4=>exact HC1_2.out);rintro e w103 ⟨rfl,hb⟩;refine⟨_,rfl,?_⟩;replace BK215:=Aside0.mk (qaa (zB BK215) hb);replace BK216:=Aside0.mk (qaa (zB BK216) hb);replace BK217:=Aside0.mk (qaa (zB BK217) hb);replace HB:=Aside0.mk (qab (za7 HB GE215 GE216 GE217) hb);(try clear hb)))
       replace BK215:=Aside0.mk (blk_drew BK215.out)
       replace BK216:=Aside0.mk (blk_drew BK216.out)
       replace BK217:=Aside0.mk (blk_drew BK217.out)
       replace HB:=Aside0.mk (qae HB.out)
       refine start_ (n:=8) (S:=fun w'=>w'.cell? ⟨gb215,0,none⟩=some (.int .i64 a0_0)∧w'.cell? ⟨gb215,1,none⟩=some (.slice A0_1 l0_1.length c0_1)) (ds:=[]) #[false,false,false,false,false,false,false,false] (by kernel_rfl) rfl rfl ⟨(blk_cell BK215.out 0).trans rfl,(blk_cell BK215.out 1).trans rfl⟩ (fun hHeld=>?_);refine with_tabW impl_StockDo.tab3 impl_StockDo.bits3 (fun HT_ HW_=>?_)
       generalize w103.drew=w104 at BK215 BK216 BK217 HB hHeld ⊢
       refine qar (i:=0) (N:=some 13) (v:=?_) (a':=?_) #[true,false,false,false,false,false,false,false] rfl rfl (qan HT_.out (by kernel_rfl)) (fun _ _ _ h=>h) (Or.inl ⟨by rfl,?_⟩) ?_ ?_
       rotate_left
       ·intro w'
        go_simp
        with_reducible rfl
       rotate_left
       ·simp only[Act.put,List.setIfInBounds_toArray,List.set_cons_zero,List.set_cons_succ,qaj,qak]
        rfl
       refine qar (i:=2) (N:=some 15) (v:=?_) (a':=?_) #[true,false,true,false,false,false,false,false] rfl rfl (qan HT_.out (by kernel_rfl)) (fun _ _ _ h=>h) (Or.inl ⟨by rfl,?_⟩) ?_ ?_
       rotate_left
       ·intro w'
        go_simp
        with_reducible rfl
       rotate_left
       ·simp only[Act.put,List.setIfInBounds_toArray,List.set_cons_zero,List.set_cons_succ,qaj,qak]
        rfl
       refine take_ (i:=1) (N:=some 14) (v:=?_) (a':=?_) #[true,true,true,false,false,false,false,false] rfl rfl (take_ofW HT_.out HW_.out (by kernel_rfl)) (fun _ _ _ h=>h) (Or.inl ⟨by rfl,?_⟩) hHeld ?_ ?_
       rotate_left
       ·rintro w' ⟨s0,s1⟩
        go_simp
        with_reducible rfl
       rotate_left
       ·simp only[Act.put,List.setIfInBounds_toArray,List.set_cons_zero,List.set_cons_succ,qaj,qak]
        rfl
       refine take_ (i:=3) (N:=some 16) (v:=?_) (a':=?_) #[true,true,true,true,false,false,false,false] rfl rfl (take_ofW HT_.out HW_.out (by kernel_rfl)) (fun _ _ _ h=>h) (Or.inl ⟨by rfl,?_⟩) hHeld ?_ ?_
       rotate_left
       ·rintro w' ⟨s0,s1⟩
        go_simp
        with_reducible rfl
       rotate_left
       ·simp only[Act.put,List.setIfInBounds_toArray,List.set_cons_zero,List.set_cons_succ,qaj,qak]
        rfl
       refine join_ (σ:=Value × Nat) 1 #[true,true,true,true,true,true,true,false] (fun s_=>[(17,s_.1),(6,.pointer (some ⟨s_.2,0,none⟩)),(18,.agg #[.int .i64 a0_0,s_.1])]) (fun s_ w'=>(w'.cell? ⟨gb215,0,none⟩=some (.int .i64 a0_0)∧w'.cell? ⟨gb215,1,none⟩=some (.slice A0_1 l0_1.length c0_1))∧(Kd.R k46 46 w' w.heap.size (fun _=>True) s_.1 t219)∧(w'.heap[gb215]?=some (.cells #[.int .i64 a0_0,.slice A0_1 l0_1.length c0_1] 36 (0,0)))∧(w'.heap[gb216]?=some (.cells #[.int .i64 a1_0,.int .i64 a1_1,.slice A1_2 l1_2.length c1_2] 62 (0,0)))∧(w'.heap[gb217]?=some (.cells #[.int .i64 0,.slice none 0 0] 36 (0,0)))∧(w'.heap[s_.2]?=some (.cells #[.int .i64 0,.slice none 0 0] 36 (0,0)))∧(w.heap.size≤s_.2)∧(w.heap.size≤s_.2)∧(gb215≠s_.2)∧(s_.2≠gb215)∧(gb216≠s_.2)∧(s_.2≠gb216)∧(gb217≠s_.2)∧(s_.2≠gb217)∧(Below w.heap.size w w')) ?_ ?_
       rotate_left
       ·intro hCont
        refine two_ (i:=4) (j:=6) (Ni:=some 17) (Nj:=some 6) #[true,true,true,true,true,false,false,false] #[true,true,true,true,false,false,true,false] rfl rfl rfl rfl (two_of HT_.out (by kernel_rfl)) (by decide) (by decide) (fun K hK=>?_) (fun K hK=>?_)
        ·skip
         refine goes_ Try.func104 (by kernel_rfl) rfl #[.slice A0_1 l0_1.length c0_1] (by rfl) rfl rfl (by(try simp only[List.map_toArray,List.map_cons,List.map_nil]);first|done|rfl|(simp only[List.length_drop,List.length_take];rfl)) ?_
         with_reducible refine(impl_Hold_104.calls _ _ l0_1 t219 _ ?side1 ?side2 A5.out).mono ?_
         (case side1=>exact zR HR0_1 HB)
         (case side2=>exact HC0_1.out)
         rintro e w105 ⟨v220,rfl,ho0,hb⟩
         refine⟨_,rfl,?_⟩
         have HO221:=Aside0.mk (Kd.R_lower ho0 (below_size (za7 HB GE215 GE216 GE217)))
         replace BK215:=Aside0.mk (qaa (zB BK215) hb)
         replace BK216:=Aside0.mk (qaa (zB BK216) hb)
         replace BK217:=Aside0.mk (qaa (zB BK217) hb)
         replace HB:=Aside0.mk (qab (za7 HB GE215 GE216 GE217) hb)
         (try clear hb)
         (try clear hb2)
         (try clear hk)
         (try clear hi)
         (try clear ho0)
         obtain⟨Ao106,co106,eo106⟩:=Kd.R_slice HO221.out
         (first|subst eo106|(injection eo106 with f1_ f2_ f3_;have f4_:=f1_.symm;have f5_:=f3_.symm;clear f1_ f2_ f3_;subst f4_;subst f5_))
         refine hK.out _ _ ⟨(blk_cell BK215.out 0).trans rfl,(blk_cell BK215.out 1).trans rfl⟩ (fun hHeld=>?_)
         clear hK K
         refine norm_ (a':=?_) ?_ ?_
         rotate_left
         ·show Act.put _ (some 17) _=_
          simp only[Act.put,List.setIfInBounds_toArray,List.set_cons_zero,List.set_cons_succ,qaj,qak]
          rfl
         refine qar (i:=5) (N:=some 18) (v:=?_) (a':=?_) #[true,true,true,true,true,true,false,false] rfl rfl (qan HT_.out (by kernel_rfl)) (fun _ _ _ h=>h) (Or.inl ⟨by rfl,?_⟩) ?_ ?_
         rotate_left
         ·intro w'
          go_simp
          with_reducible rfl
         rotate_left
         ·simp only[Act.put,List.setIfInBounds_toArray,List.set_cons_zero,List.set_cons_succ,qaj,qak]
          rfl
         refine one_ (i:=6) (N:=some 6) #[true,true,true,true,true,true,true,false] rfl rfl (one_of HT_.out (by kernel_rfl)) (by decide) (fun K hK=>?_)
         refine box_step (by rfl) (N:=6) (by rfl) (cs:=#[.int .i64 0,.slice none 0 0]) (t:=36) (by first|(go_simp;done)|(go_simp;rfl)) ?_
         intro gb222 hg w107 hbox hb
         replace HO221:=Aside0.mk (Kd.R_below (za3 HO221) hb)
         have BK222:=Aside0.mk hbox
         have GW222:=zH (w:=w) hg (za7 HB GE215 GE216 GE217)
         have GE222:=GW222
         replace HB:=Aside0.mk (qab (za7 HB GE215 GE216 GE217) hb)
         have NB215_222:=zL BK215 hg
         have NB222_215:=zG BK215 hg
         replace BK215:=Aside0.mk (qaa (zB BK215) hb)
         have NB216_222:=zL BK216 hg
         have NB222_216:=zG BK216 hg
         replace BK216:=Aside0.mk (qaa (zB BK216) hb)
         have NB217_222:=zL BK217 hg
         have NB222_217:=zG BK217 hg
         replace BK217:=Aside0.mk (qaa (zB BK217) hb)
         clear hb hbox hg
         refine hK.out _ _ ⟨(blk_cell BK215.out 0).trans rfl,(blk_cell BK215.out 1).trans rfl⟩ (fun hHeld=>?_)
         clear hK K
         refine norm_ (a':=?_) ?_ ?_
         rotate_left
         ·show Act.put _ (some 6) _=_
          simp only[Act.put,List.setIfInBounds_toArray,List.set_cons_zero,List.set_cons_succ,qaj,qak]
          rfl
         exact norm_ (by simp only[putAll,Act.put,List.setIfInBounds_toArray,List.set_cons_zero,List.set_cons_succ]) (hCont (.slice Ao106 t219.length co106,gb222) _ ⟨hHeld,(za3 HO221),(zB BK215),(zB BK216),(zB BK217),(zB BK222),GW222.out,GE222.out,NB215_222.out,NB222_215.out,NB216_222.out,NB222_216.out,NB217_222.out,NB222_217.out,(za12 HB GE215 GE216 GE217 GE222)⟩)
        ·skip
         refine box_step (by rfl) (N:=6) (by rfl) (cs:=#[.int .i64 0,.slice none 0 0]) (t:=36) (by first|(go_simp;done)|(go_simp;rfl)) ?_
         intro gb222 hg w105 hbox hb
         have BK222:=Aside0.mk hbox
         have GW222:=zH (w:=w) hg (za7 HB GE215 GE216 GE217)
         have GE222:=GW222
         replace HB:=Aside0.mk (qab (za7 HB GE215 GE216 GE217) hb)
         have NB215_222:=zL BK215 hg
         have NB222_215:=zG BK215 hg
         replace BK215:=Aside0.mk (qaa (zB BK215) hb)
         have NB216_222:=zL BK216 hg
         have NB222_216:=zG BK216 hg
         replace BK216:=Aside0.mk (qaa (zB BK216) hb)
         have NB217_222:=zL BK217 hg
         have NB222_217:=zG BK217 hg
         replace BK217:=Aside0.mk (qaa (zB BK217) hb)
         clear hb hbox hg
         refine hK.out _ _ ⟨(blk_cell BK215.out 0).trans rfl,(blk_cell BK215.out 1).trans rfl⟩ (fun hHeld=>?_)
         clear hK K
         refine norm_ (a':=?_) ?_ ?_
         rotate_left
         ·show Act.put _ (some 6) _=_
          simp only[Act.put,List.setIfInBounds_toArray,List.set_cons_zero,List.set_cons_succ,qaj,qak]
          rfl
         refine one_ (i:=4) (N:=some 17) #[true,true,true,true,true,false,true,false] rfl rfl (one_of HT_.out (by kernel_rfl)) (by decide) (fun K hK=>?_)
         refine goes_ Try.func104 (by kernel_rfl) rfl #[.slice A0_1 l0_1.length c0_1] (by rfl) rfl rfl (by(try simp only[List.map_toArray,List.map_cons,List.map_nil]);first|done|rfl|(simp only[List.length_drop,List.length_take];rfl)) ?_
         with_reducible refine(impl_Hold_104.calls _ _ l0_1 t219 _ ?side1 ?side2 A5.out).mono ?_
         (case side1=>exact zR HR0_1 HB)
         (case side2=>exact HC0_1.out)
         rintro e w106 ⟨v220,rfl,ho0,hb⟩
         refine⟨_,rfl,?_⟩
         have HO221:=Aside0.mk (Kd.R_lower ho0 (below_size (za12 HB GE215 GE216 GE217 GE222)))
         replace BK215:=Aside0.mk (qaa (zB BK215) hb)
         replace BK216:=Aside0.mk (qaa (zB BK216) hb)
         replace BK217:=Aside0.mk (qaa (zB BK217) hb)
         replace BK222:=Aside0.mk (qaa (zB BK222) hb)
         replace HB:=Aside0.mk (qab (za12 HB GE215 GE216 GE217 GE222) hb)
         (try clear hb)
         (try clear hb2)
         (try clear hk)
         (try clear hi)
         (try clear ho0)
         obtain⟨Ao107,co107,eo107⟩:=Kd.R_slice HO221.out
         (first|subst eo107|(injection eo107 with f1_ f2_ f3_;have f4_:=f1_.symm;have f5_:=f3_.symm;clear f1_ f2_ f3_;subst f4_;subst f5_))
         refine hK.out _ _ ⟨(blk_cell BK215.out 0).trans rfl,(blk_cell BK215.out 1).trans rfl⟩ (fun hHeld=>?_)
         clear hK K
         refine norm_ (a':=?_) ?_ ?_
         rotate_left
         ·show Act.put _ (some 17) _=_
          simp only[Act.put,List.setIfInBounds_toArray,List.set_cons_zero,List.set_cons_succ,qaj,qak]
          rfl
         refine qar (i:=5) (N:=some 18) (v:=?_) (a':=?_) #[true,true,true,true,true,true,true,false] rfl rfl (qan HT_.out (by kernel_rfl)) (fun _ _ _ h=>h) (Or.inl ⟨by rfl,?_⟩) ?_ ?_
         rotate_left
         ·intro w'
          go_simp
          with_reducible rfl
         rotate_left
         ·simp only[Act.put,List.setIfInBounds_toArray,List.set_cons_zero,List.set_cons_succ,qaj,qak]
          rfl
         exact norm_ (by simp only[putAll,Act.put,List.setIfInBounds_toArray,List.set_cons_zero,List.set_cons_succ]) (hCont (.slice Ao107 t219.length co107,gb222) _ ⟨hHeld,(za3 HO221),(zB BK215),(zB BK216),(zB BK217),(zB BK222),GW222.out,GE222.out,NB215_222.out,NB222_215.out,NB216_222.out,NB222_216.out,NB217_222.out,NB222_217.out,(za12 HB GE215 GE216 GE217 GE222)⟩)
       rintro⟨v220,gb222⟩ w108 ⟨hS_,h0_,h1_,h2_,h3_,h4_,h5_,h6_,h7_,h8_,h9_,h10_,h11_,h12_,h13_⟩
       have HO221:Aside0 (Kd.R k46 46 w108 w.heap.size (fun _=>True) v220 t219):=⟨h0_⟩
       replace BK215:Aside0 (w108.heap[gb215]?=some (.cells #[.int .i64 a0_0,.slice A0_1 l0_1.length c0_1] 36 (0,0))):=⟨h1_⟩
       replace BK216:Aside0 (w108.heap[gb216]?=some (.cells #[.int .i64 a1_0,.int .i64 a1_1,.slice A1_2 l1_2.length c1_2] 62 (0,0))):=⟨h2_⟩
       replace BK217:Aside0 (w108.heap[gb217]?=some (.cells #[.int .i64 0,.slice none 0 0] 36 (0,0))):=⟨h3_⟩
       have BK222:Aside0 (w108.heap[gb222]?=some (.cells #[.int .i64 0,.slice none 0 0] 36 (0,0))):=⟨h4_⟩
       have GW222:Aside0 (w.heap.size≤gb222):=⟨h5_⟩
       have GE222:Aside0 (w.heap.size≤gb222):=⟨h6_⟩
       have NB215_222:Aside0 (gb215≠gb222):=⟨h7_⟩
       have NB222_215:Aside0 (gb222≠gb215):=⟨h8_⟩
       have NB216_222:Aside0 (gb216≠gb222):=⟨h9_⟩
       have NB222_216:Aside0 (gb222≠gb216):=⟨h10_⟩
       have NB217_222:Aside0 (gb217≠gb222):=⟨h11_⟩
       have NB222_217:Aside0 (gb222≠gb217):=⟨h12_⟩
       replace HB:Aside0 (Below w.heap.size w w108):=⟨h13_⟩
       clear h0_ h1_ h2_ h3_ h4_ h5_ h6_ h7_ h8_ h9_ h10_ h11_ h12_ h13_
       have hHeld:w108.cell? ⟨gb215,0,none⟩=some (.int .i64 a0_0)∧w108.cell? ⟨gb215,1,none⟩=some (.slice A0_1 l0_1.length c0_1):=hS_
       obtain⟨Ao109,co109,eo109⟩:=Kd.R_slice HO221.out
       (first|subst eo109|(injection eo109 with f1_ f2_ f3_;have f4_:=f1_.symm;have f5_:=f3_.symm;clear f1_ f2_ f3_;subst f4_;subst f5_))
       refine norm_ (a':=?_) ?_ ?_
       rotate_left
       ·simp only[putAll,Act.put,List.setIfInBounds_toArray,List.set_cons_zero,List.set_cons_succ]
        rfl
       refine one_ (i:=7) (N:=none) #[true,true,true,true,true,true,true,true] rfl rfl (one_of HT_.out (by kernel_rfl)) (by decide) (fun K hK=>?_)
       have hs110:w108.cell? ⟨gb222,0,none⟩=some (.int .i64 0):=(blk_cell BK222.out 0).trans rfl
       have hfs110:=blk_frozen BK222.out 0
       have hns110_0:=NB215_222.out
       have hns110_1:=NB216_222.out
       have hns110_2:=NB217_222.out
       have hms110_0:=NB222_215.out
       have hms110_1:=NB222_216.out
       have hms110_2:=NB222_217.out
       have hs111:w108.cell? ⟨gb222,1,none⟩=some (.slice none 0 0):=(blk_cell BK222.out 1).trans rfl
       have hfs111:=blk_frozen BK222.out 1
       have hns111_0:=NB215_222.out
       have hns111_1:=NB216_222.out
       have hns111_2:=NB217_222.out
       have hms111_0:=NB222_215.out
       have hms111_1:=NB222_216.out
       have hms111_2:=NB222_217.out
       refine skip_ (w1:=?_) (by rfl) rfl ?_ ?_
       rotate_left
       ·go_simp
        rfl
       refine hK.out _ _ ⟨((qap (p:=⟨gb222,_,none⟩) NB215_222.out _).trans (((qap (p:=⟨gb222,_,none⟩) NB215_222.out _).trans (hHeld.1)))),((qap (p:=⟨gb222,_,none⟩) NB215_222.out _).trans (((qap (p:=⟨gb222,_,none⟩) NB215_222.out _).trans (hHeld.2))))⟩ (fun hHeld=>?_)
       clear hK K
       refine done_ (done_of HT_.out (by kernel_rfl)) ?_
       have n0_:Aside0 (Kd.R k46 46 ((w108.setCell ⟨gb222,0,none⟩ (.int .i64 a0_0)).setCell ⟨gb222,1,none⟩ (.slice Ao109 t219.length co109)) w.heap.size (fun _=>True) (.slice Ao109 t219.length co109) t219):=⟨by(with_reducible repeat(first|apply Kd.R_alloc|apply Kd.R_drewN|apply Kd.R_drew));exact Kd.R_mono (Kd.R_far (p:=⟨gb222,1,none⟩) (Kd.R_far (p:=⟨gb222,0,none⟩) (Kd.R_types HO221.out BK222.out (by decide)) (fun _ hk=>hk.2) (.int .i64 a0_0)) (fun _ hk=>hk.2) (.slice Ao109 t219.length co109)) (fun _ hk=>trivial)⟩
       have n1_:Aside0 (((w108.setCell ⟨gb222,0,none⟩ (.int .i64 a0_0)).setCell ⟨gb222,1,none⟩ (.slice Ao109 t219.length co109)).heap[gb215]?=some (.cells #[.int .i64 a0_0,.slice A0_1 l0_1.length c0_1] 36 (0,0))):=⟨za4 NB215_222 BK215⟩
       have n2_:Aside0 (((w108.setCell ⟨gb222,0,none⟩ (.int .i64 a0_0)).setCell ⟨gb222,1,none⟩ (.slice Ao109 t219.length co109)).heap[gb216]?=some (.cells #[.int .i64 a1_0,.int .i64 a1_1,.slice A1_2 l1_2.length c1_2] 62 (0,0))):=⟨za4 NB216_222 BK216⟩
       have n3_:Aside0 (((w108.setCell ⟨gb222,0,none⟩ (.int .i64 a0_0)).setCell ⟨gb222,1,none⟩ (.slice Ao109 t219.length co109)).heap[gb217]?=some (.cells #[.int .i64 0,.slice none 0 0] 36 (0,0))):=⟨za4 NB217_222 BK217⟩
       have n4_:Aside0 (((w108.setCell ⟨gb222,0,none⟩ (.int .i64 a0_0)).setCell ⟨gb222,1,none⟩ (.slice Ao109 t219.length co109)).heap[gb222]?=some (.cells #[.int .i64 a0_0,.slice Ao109 t219.length co109] 36 (0,0))):=⟨by(with_reducible repeat(first|refine blk_drewN ?_ _|refine blk_drew ?_|refine blk_alloc ?_ _));refine qai (cs:=#[.int .i64 a0_0,.slice none 0 0]) ?_ 1 _ rfl;(with_reducible repeat(first|refine blk_drewN ?_ _|refine blk_drew ?_|refine blk_alloc ?_ _));refine qai (cs:=#[.int .i64 0,.slice none 0 0]) ?_ 0 _ rfl;(with_reducible repeat(first|refine blk_drewN ?_ _|refine blk_drew ?_|refine blk_alloc ?_ _));exact BK222.out⟩
       have n5_:Aside0 (Below w.heap.size w ((w108.setCell ⟨gb222,0,none⟩ (.int .i64 a0_0)).setCell ⟨gb222,1,none⟩ (.slice Ao109 t219.length co109))):=⟨za12 HB GE215 GE216 GE217 GE222⟩
       (try clear HO221)
       (try clear BK215)
       (try clear BK216)
       (try clear BK217)
       (try clear BK222)
       (try clear HB)
       generalize ((w108.setCell ⟨gb222,0,none⟩ (.int .i64 a0_0)).setCell ⟨gb222,1,none⟩ (.slice Ao109 t219.length co109))=w112 at n0_ n1_ n2_ n3_ n4_ n5_ ⊢
       have HO221:=n0_
       have BK215:=n1_
       have BK216:=n2_
       have BK217:=n3_
       have BK222:=n4_
       have HB:=n5_
       clear n0_ n1_ n2_ n3_ n4_ n5_
       have hnb113:=NB222_215.out
       have hnc113:=NB215_222.out
       have hnb114:=NB222_216.out
       have hnc114:=NB216_222.out
       have hnb115:=NB222_217.out
       have hnc115:=NB217_222.out
       obtain⟨hcz116_0,hcz116_1,hfz116_0,hfz116_1⟩:=zC2 BK222
       obtain⟨hcz117_0,hcz117_1,hcz117_2,hfz117_0,hfz117_1,hfz117_2⟩:=zC3 BK216
       have p9:0≤((ji6):Int):=of_decide_eq_true (za5)
       have q9:((ji6):Int)<((t219.length:Int):Int):=of_decide_eq_true (za5)
       obtain⟨go9,co9,eo9,gb9,gl9,cl9,HG9⟩:=Kd.R_form HO221.out (by omega)
       (first|cases eo9|(injection eo9 with ea_ en_ ec_;(first|subst ea_|(injection ea_ with ea_;subst ea_));subst ec_;clear en_))
       have GB9:=Aside0.mk gb9
       have GG9:=Aside0.mk HG9
       clear gb9 gl9 HG9
       obtain⟨ce9,hcl9,hM9,hcc9,hfr9⟩:=Kd.R_elem HO221.out z46 ((ji6):Int) p9 q9
       obtain rfl:=k46_openM hM9
       have hx9_0:w112.cell? ⟨go9,((ji6):Int).toNat*2,none⟩=some (.int .i64 ((rd_T46 t219 (ji6)).f0)):=hcc9 0 _ rfl
       have hx9_1:w112.cell? ⟨go9,((ji6):Int).toNat*2+1,none⟩=some (.int .i64 ((rd_T46 t219 (ji6)).f1)):=hcc9 1 _ rfl
       have hf9_0:w112.frozen? ⟨go9,((ji6):Int).toNat*2,none⟩=false:=hfr9 0
       have hf9_1:w112.frozen? ⟨go9,((ji6):Int).toNat*2+1,none⟩=false:=hfr9 1
       clear hcl9 hcc9 hfr9 hM9
       replace p9:=eq_true p9
       replace q9:=eq_true q9
       obtain⟨hcz118_0,hcz118_1,hfz118_0,hfz118_1⟩:=zC2 BK217
       try go_wp2
       refine bodyPost_ret (results_ct rfl _ _ gb217 36 #[.int .i64 a0_0,.slice (some ⟨go9,0,none⟩) t219.length co109] (0,0) _ rfl (by(with_reducible repeat(first|refine blk_drewN ?_ _|refine blk_drew ?_|refine blk_alloc ?_ _));refine qai (cs:=#[.int .i64 a0_0,.slice none 0 0]) ?_ 1 _ rfl;(with_reducible repeat(first|refine blk_drewN ?_ _|refine blk_drew ?_|refine blk_alloc ?_ _));refine qai (cs:=#[.int .i64 0,.slice none 0 0]) ?_ 0 _ rfl;(with_reducible repeat(first|refine blk_drewN ?_ _|refine blk_drew ?_|refine blk_alloc ?_ _));exact BK217.out) Try.underlying36 rfl (by kernel_rfl)) rfl ?_
       exact⟨_,by first|rfl|(simp[qam,qal]<;>rfl)|(simp only[←hji6];first|rfl|(simp[qam,qal]<;>rfl))|(simp[*,qam,qal]<;>rfl),by(with_reducible repeat(first|apply Kd.R_alloc|apply Kd.R_drewN|apply Kd.R_drew));exact Kd.R_mono (Kd.R_far (p:=⟨gb217,1,none⟩) (Kd.R_far (p:=⟨gb217,0,none⟩) (Kd.R_types HO221.out BK217.out (by decide)) (fun _ hk=>hk.2) (.int .i64 a0_0)) (fun _ hk=>hk.2) (.slice (some ⟨go9,0,none⟩) t219.length co109)) (fun _ hk=>trivial),za12 HB GE215 GE216 GE217 GE222⟩
   ·rw[if_neg c8] at H
    exact absurd H (by simp)
  ·rw[if_neg c7] at H
   exact absurd H (by simp)
 ·replace c4:=Bool.eq_false_iff.mpr c4
  subst c4
  have H1:(some (0,([]:List (S46)),false))=some (r1,r2,r3):=by rw[if_neg (show ¬(false=true) by decide)] at H;exact H
  clear H
  have H:=H1
  clear H1
  simp only[Option.some.injEq,Prod.mk.injEq] at H
  obtain⟨rfl,rfl,rfl⟩:=H
  go_enter Try.func66,Try.ntmps66
  go_wp2_with(first|((with_reducible refine qah (N:=2) rfl ?_);refine zX (N:=2) (cs:=#[.int .i64 a0_0,.slice A0_1 l0_1.length c0_1]) (t:=36) ?_;intro gb215 hg w119 hbox hb;have BK215:=Aside0.mk hbox;have GW215:=zH (w:=w) hg (za1 HB);have GE215:=GW215;replace HB:=Aside0.mk (qab (za1 HB) hb);clear hb hbox hg)|((with_reducible refine qah (N:=3) rfl ?_);refine zX (N:=3) (cs:=#[.int .i64 a1_0,.int .i64 a1_1,.slice A1_2 l1_2.length c1_2]) (t:=62) ?_;intro gb216 hg w120 hbox hb;have BK216:=Aside0.mk hbox;have GW216:=zH (w:=w) hg (za0 HB GE215);have GE216:=GW216;replace HB:=Aside0.mk (qab (za0 HB GE215) hb);have NB215_216:=zL BK215 hg;have NB216_215:=zG BK215 hg;replace BK215:=Aside0.mk (qaa (zB BK215) hb);clear hb hbox hg)|((with_reducible refine qah (N:=4) rfl ?_);refine zX (N:=4) (cs:=#[.int .i64 0,.slice none 0 0]) (t:=36) ?_;intro gb217 hg w121 hbox hb;have BK217:=Aside0.mk hbox;have GW217:=zH (w:=w) hg (za2 HB GE215 GE216);have GE217:=GW217;replace HB:=Aside0.mk (qab (za2 HB GE215 GE216) hb);have NB215_217:=zL BK215 hg;have NB217_215:=zG BK215 hg;replace BK215:=Aside0.mk (qaa (zB BK215) hb);have NB216_217:=zL BK216 hg;have NB217_216:=zG BK216 hg;replace BK216:=Aside0.mk (qaa (zB BK216) hb);clear hb hbox hg;have hnb122:=NB215_216.out;have hnc122:=NB216_215.out;have hnb123:=NB215_217.out;have hnc123:=NB217_215.out;obtain⟨hcz124_0,hcz124_1,hfz124_0,hfz124_1⟩:=zC2 BK215;have hnb125:=NB216_217.out;have hnc125:=NB217_216.out;obtain⟨hcz126_0,hcz126_1,hcz126_2,hfz126_0,hfz126_1,hfz126_2⟩:=zC3 BK216)|((with_reducible refine qaf (f:=40) rfl ?_);refine zF (some 10) Try.func40 #[.agg #[.int .i64 a0_0,.slice A0_1 l0_1.length c0_1],.agg #[.int .i64 a1_0,.int .i64 a1_1,.slice A1_2 l1_2.length c1_2]] ?_;(with_reducible refine(impl_StockMay.calls k a0_0 _ _ l0_1 a1_0 a1_1 _ _ l1_2 false _ ?side1 ?side2 ?side3 ?side4 A3.out).mono ?_);(case side1=>exact zR HR0_1 HB);(case side2=>exact HC0_1.out);(case side3=>exact zR HR1_2 HB);(case side4=>exact HC1_2.out);rintro e w127 ⟨rfl,hb⟩;refine⟨_,rfl,?_⟩;replace BK215:=Aside0.mk (qaa (zB BK215) hb);replace BK216:=Aside0.mk (qaa (zB BK216) hb);replace BK217:=Aside0.mk (qaa (zB BK217) hb);replace HB:=Aside0.mk (qab (za7 HB GE215 GE216 GE217) hb);(try clear hb);obtain⟨hcz128_0,hcz128_1,hfz128_0,hfz128_1⟩:=zC2 BK217))
  refine bodyPost_ret (results_ct rfl _ _ gb217 36 #[.int .i64 0,.slice none 0 0] (0,0) _ rfl (by(with_reducible repeat(first|refine blk_drewN ?_ _|refine blk_drew ?_|refine blk_alloc ?_ _));refine qai (cs:=#[.int .i64 0,.slice none 0 0]) ?_ 1 _ rfl;(with_reducible repeat(first|refine blk_drewN ?_ _|refine blk_drew ?_|refine blk_alloc ?_ _));refine qai (cs:=#[.int .i64 0,.slice none 0 0]) ?_ 0 _ rfl;(with_reducible repeat(first|refine blk_drewN ?_ _|refine blk_drew ?_|refine blk_alloc ?_ _));exact BK217.out) Try.underlying36 rfl (by kernel_rfl)) rfl ?_
  exact⟨_,za9,za24,za7 HB GE215 GE216 GE217⟩
end Go.Proofs.Ytjccnaklodbbfaa.Print
