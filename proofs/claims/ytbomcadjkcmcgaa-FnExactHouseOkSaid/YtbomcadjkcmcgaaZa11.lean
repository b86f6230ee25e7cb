-- Written by squeeze.py, a program of this session, out of what print.sh and myprint.py had printed: cut to what is used, narrowed. Not trusted, Lean checks it.
import Derived.Test.YtbomcadjkcmcgaaZK
import Derived.Test.YtbomcadjkcmcgaaZa10
namespace Go.Proofs.Ytbomcadjkcmcgaa.Print
open Go.RowKit Go.Proofs.YtbomcadjkcmcgaaW.PrintWords Go.Proofs.YtbomcadjkcmcgaaW.PrintLast Go.Proofs.YtbomcadjkcmcgaaW.PrintMore
attribute [local go_sem] max2_int min2_int max_two min_two max_three min_three max_four min_four
set_option linter.unusedVariables false
set_option linter.unusedSimpArgs false
def impl_StockDo.f (k:Nat) (a0_0:Int) (l0_1:List (S72)) (a1_0:Int) (a1_1:Int) (l1_2:List Int):Option (Int × (List (S72)) × Bool):=(impl_StockMay.f k a0_0 l0_1 a1_0 a1_1 l1_2).bind fun t246=>(if t246=true then((impl_Hold_55.f l0_1).bind fun t247=>(if 0≤(wrap64 (a1_1 - 1)) then(if(wrap64 (a1_1 - 1))<(t247.length:Int) then(if a1_0=1 then(if 0<(l1_2.length:Int) then(some (a0_0,(t247.set ((wrap64 (a1_1 - 1)):Int).toNat (⟨rd l1_2 0,1⟩:S72)),true)) else(none)) else(if a1_0=2 then(some (a0_0,(t247.set ((wrap64 (a1_1 - 1)):Int).toNat (⟨(rd_T72 t247 (wrap64 (a1_1 - 1))).f0,2⟩:S72)),true)) else(if a1_0=3 then(some (a0_0,(t247.set ((wrap64 (a1_1 - 1)):Int).toNat (⟨(rd_T72 t247 (wrap64 (a1_1 - 1))).f0,3⟩:S72)),true)) else(some (a0_0,t247,true))))) else(none)) else(none))) else(some (0,([]:List (S72)),false)))
theorem impl_StockDo.mono:∀a0 a1 a2 a3 a4 k,LeO (impl_StockDo.f k a0 a1 a2 a3 a4) (impl_StockDo.f (k+1) a0 a1 a2 a3 a4):=by
 intro a0 a1 a2 a3 a4 k
 unfold impl_StockDo.f
 repeat' first
   |(with_reducible exact impl_StockMay.mono _ _ _ _ _ _)
   |(with_reducible exact LeO.refl _)
   |(with_reducible exact LeO.none _)
   |(with_reducible refine LeO.ite ?_ ?_)
   |(with_reducible refine LeO.bind ?_ (fun _=>?_))
   |exact impl_StockMay.mono _ _ _ _ _ _
   |exact LeO.none _
   |refine LeO.ite ?_ ?_
   |refine LeO.bind ?_ (fun _=>?_)
def impl_StockDo.T3:Bool × List (List Nat × List Nat):=(true,[([],[]),([0],[0]),([],[]),([2],[2]),([3],[3]),([1,4],[1,4]),([],[]),([6,5,4,0,1,2,3,4,5,6],[5,6])])
def impl_StockDo.B3:List Nat:=[0,1,0,4,12,31,0,127]
theorem impl_StockDo.tab3:rtab .any (opsOf Try.f42 3)=impl_StockDo.T3:=by kernel_rfl
theorem impl_StockDo.bits3:waitsOk impl_StockDo.T3.2 impl_StockDo.B3=true:=by kernel_rfl
set_option maxHeartbeats 8000000 in
set_option maxRecDepth 100000 in
theorem impl_StockDo.calls (k:Nat) (a0_0:Int) (A0_1:Option Addr) (c0_1:Nat) (l0_1:List (S72)) (a1_0:Int) (a1_1:Int) (A1_2:Option Addr) (c1_2:Nat) (l1_2:List Int) (r1:Int) (r2:List (S72)) (r3:Bool) (w:World) (hr0_1:Kd.C k72 w A0_1 l0_1.length l0_1) (hc0_1:l0_1.length≤c0_1) (hr1_2:Kd.C (Kd.int .i64) w A1_2 l1_2.length l1_2) (hc1_2:l1_2.length≤c1_2) (h:impl_StockDo.f k a0_0 l0_1 a1_0 a1_1 l1_2=some (r1,r2,r3)) :
  Calls Try.prog 42 #[.agg #[.int .i64 a0_0,.slice A0_1 l0_1.length c0_1],.agg #[.int .i64 a1_0,.int .i64 a1_1,.slice A1_2 l1_2.length c1_2]] w fun e w'=>∃v1_:Value,e=.returned (.tuple #[.agg #[.int .i64 r1,v1_],.bool r3])∧Kd.R k72 72 w' w.heap.size (fun _=>True) v1_ r2∧Below w.heap.size w w':=by
 have hu39:=Try.underlying39
 have hu62:=Try.underlying62
 have hu72:=Try.underlying72
 have HR0_1:=qam.mk hr0_1
 have HC0_1:=qam.mk hc0_1
 clear hr0_1 hc0_1
 have HR1_2:=qam.mk hr1_2
 have HC1_2:=qam.mk hc1_2
 clear hr1_2 hc1_2
 have HB:=qam.mk (Below.refl w.heap.size w)
 have H:((impl_StockMay.f k a0_0 l0_1 a1_0 a1_1 l1_2).bind fun t246=>(if t246=true then((impl_Hold_55.f l0_1).bind fun t247=>(if 0≤(wrap64 (a1_1 - 1)) then(if(wrap64 (a1_1 - 1))<(t247.length:Int) then(if a1_0=1 then(if 0<(l1_2.length:Int) then(some (a0_0,(t247.set ((wrap64 (a1_1 - 1)):Int).toNat (⟨rd l1_2 0,1⟩:S72)),true)) else(none)) else(if a1_0=2 then(some (a0_0,(t247.set ((wrap64 (a1_1 - 1)):Int).toNat (⟨(rd_T72 t247 (wrap64 (a1_1 - 1))).f0,2⟩:S72)),true)) else(if a1_0=3 then(some (a0_0,(t247.set ((wrap64 (a1_1 - 1)):Int).toNat (⟨(rd_T72 t247 (wrap64 (a1_1 - 1))).f0,3⟩:S72)),true)) else(some (a0_0,t247,true))))) else(none)) else(none))) else(some (0,([]:List (S72)),false))))=some (r1,r2,r3):=h
 clear h
 replace H:=Option.bind_eq_some_iff.mp H
 obtain⟨t246,A30,H⟩:=H
 replace H:(if t246=true then((impl_Hold_55.f l0_1).bind fun t247=>(if 0≤(wrap64 (a1_1 - 1)) then(if(wrap64 (a1_1 - 1))<(t247.length:Int) then(if a1_0=1 then(if 0<(l1_2.length:Int) then(some (a0_0,(t247.set ((wrap64 (a1_1 - 1)):Int).toNat (⟨rd l1_2 0,1⟩:S72)),true)) else(none)) else(if a1_0=2 then(some (a0_0,(t247.set ((wrap64 (a1_1 - 1)):Int).toNat (⟨(rd_T72 t247 (wrap64 (a1_1 - 1))).f0,2⟩:S72)),true)) else(if a1_0=3 then(some (a0_0,(t247.set ((wrap64 (a1_1 - 1)):Int).toNat (⟨(rd_T72 t247 (wrap64 (a1_1 - 1))).f0,3⟩:S72)),true)) else(some (a0_0,t247,true))))) else(none)) else(none))) else(some (0,([]:List (S72)),false)))=some (r1,r2,r3):=H
 have A3:=qam.mk A30
 clear A30
 by_cases c4:t246=true
 ·subst c4
  have H1:((impl_Hold_55.f l0_1).bind fun t247=>(if 0≤(wrap64 (a1_1 - 1)) then(if(wrap64 (a1_1 - 1))<(t247.length:Int) then(if a1_0=1 then(if 0<(l1_2.length:Int) then(some (a0_0,(t247.set ((wrap64 (a1_1 - 1)):Int).toNat (⟨rd l1_2 0,1⟩:S72)),true)) else(none)) else(if a1_0=2 then(some (a0_0,(t247.set ((wrap64 (a1_1 - 1)):Int).toNat (⟨(rd_T72 t247 (wrap64 (a1_1 - 1))).f0,2⟩:S72)),true)) else(if a1_0=3 then(some (a0_0,(t247.set ((wrap64 (a1_1 - 1)):Int).toNat (⟨(rd_T72 t247 (wrap64 (a1_1 - 1))).f0,3⟩:S72)),true)) else(some (a0_0,t247,true))))) else(none)) else(none)))=some (r1,r2,r3):=by rw[if_pos rfl] at H;exact H
  clear H
  have H:=H1
  clear H1
  replace H:=Option.bind_eq_some_iff.mp H
  obtain⟨t247,A50,H⟩:=H
  replace H:(if 0≤(wrap64 (a1_1 - 1)) then(if(wrap64 (a1_1 - 1))<(t247.length:Int) then(if a1_0=1 then(if 0<(l1_2.length:Int) then(some (a0_0,(t247.set ((wrap64 (a1_1 - 1)):Int).toNat (⟨rd l1_2 0,1⟩:S72)),true)) else(none)) else(if a1_0=2 then(some (a0_0,(t247.set ((wrap64 (a1_1 - 1)):Int).toNat (⟨(rd_T72 t247 (wrap64 (a1_1 - 1))).f0,2⟩:S72)),true)) else(if a1_0=3 then(some (a0_0,(t247.set ((wrap64 (a1_1 - 1)):Int).toNat (⟨(rd_T72 t247 (wrap64 (a1_1 - 1))).f0,3⟩:S72)),true)) else(some (a0_0,t247,true))))) else(none)) else(none))=some (r1,r2,r3):=H
  have A5:=qam.mk A50
  clear A50
  obtain⟨ji6,hji6⟩:∃j_:Int,(wrap64 (a1_1 - 1))=j_:=⟨_,rfl⟩
  replace H:(if 0≤(ji6) then(if(ji6)<(t247.length:Int) then(if a1_0=1 then(if 0<(l1_2.length:Int) then(some (a0_0,(t247.set ((ji6):Int).toNat (⟨rd l1_2 0,1⟩:S72)),true)) else(none)) else(if a1_0=2 then(some (a0_0,(t247.set ((ji6):Int).toNat (⟨(rd_T72 t247 (ji6)).f0,2⟩:S72)),true)) else(if a1_0=3 then(some (a0_0,(t247.set ((ji6):Int).toNat (⟨(rd_T72 t247 (ji6)).f0,3⟩:S72)),true)) else(some (a0_0,t247,true))))) else(none)) else(none))=some (r1,r2,r3):=by first|(rw[hji6] at H;exact H)|(simp only[hji6] at H ⊢;exact H)
  (try rw[hji6] at A3)
  (try rw[hji6] at A5)
  have hji6w:(IntKind.i64.wrap (a1_1 - 1))=ji6:=(qao _).trans hji6
  by_cases c7:0≤(ji6)
  ·rw[if_pos c7] at H
   have c7b0:decide (0≤(ji6))=true:=decide_eq_true c7
   clear c7
   by_cases c8:(ji6)<(t247.length:Int)
   ·rw[if_pos c8] at H
    have c8b0:decide ((ji6)<(t247.length:Int))=true:=decide_eq_true c8
    clear c8
    by_cases c10:a1_0=1
    ·rw[if_pos c10] at H
     have c10b0:(a1_0 == 1)=true:=beq_iff_eq.mpr c10
     have c10b1:(a1_0 != 1)=false:=bne_eq_false_iff_eq.mpr c10
     clear c10
     by_cases c11:0<(l1_2.length:Int)
     ·rw[if_pos c11] at H
      have c11b0:decide (0<(l1_2.length:Int))=true:=decide_eq_true c11
      have c11b1:decide (0<l1_2.length)=true:=decide_eq_true (by omega)
      clear c11
      obtain⟨y252,hy252⟩:∃y_:List (S72),y_=(t247.set ((ji6):Int).toNat (⟨rd l1_2 0,1⟩:S72)):=⟨_,rfl⟩
      replace H:(some (a0_0,y252,true))=some (r1,r2,r3):=by first|(rw[hy252];with_reducible exact H)|(have H2_:=(Option.bind_some _ _).symm.trans H;rw[hy252];with_reducible exact H2_)|(have H2_:=(Option.bind_some _ _).symm.trans H;with_reducible exact H2_)|with_reducible exact H|(rw[hy252];exact H)|exact H
      have Ny252:=qam.mk hy252
      clear hy252
      simp only[Option.some.injEq,Prod.mk.injEq] at H
      obtain⟨rfl,rfl,rfl⟩:=H
      go_enter Try.func42,Try.ntmps42
      try go_wp2_with(first|((with_reducible refine qak (N:=2) rfl ?_);refine qai ?hg (N:=2) ?hd (cs:=#[.int .i64 a0_0,.slice A0_1 l0_1.length c0_1]) (t:=39) ?hr ?_;(case hd=>rfl);(case hg=>rfl);(case hr=>first|(go_simp;done)|(go_simp;rfl));intro gb243 hg w12 hbox hb;have n0_:=qam.mk (qad (za2 HB) hb);have n1_:=qam.mk (hbox);have n2_:=qam.mk ((by rw[hg];exact(qac (za2 HB)):w.heap.size≤gb243));have n3_:=qam.mk ((by rw[hg];exact(qac (za2 HB)):w.heap.size≤gb243));clear HB;have HB:=n0_;have BK243:=n1_;have GW243:=n2_;have GE243:=n3_;clear n0_ n1_ n2_ n3_;clear hb hbox hg)|((with_reducible refine qak (N:=3) rfl ?_);refine qai ?hg (N:=3) ?hd (cs:=#[.int .i64 a1_0,.int .i64 a1_1,.slice A1_2 l1_2.length c1_2]) (t:=62) ?hr ?_;(case hd=>rfl);(case hg=>rfl);(case hr=>first|(go_simp;done)|(go_simp;rfl));intro gb244 hg w13 hbox hb;have n0_:=qam.mk (qae (g:=gb243) (o:=.cells #[.int .i64 a0_0,.slice A0_1 l0_1.length c0_1] 39 (0,0)) (za0 BK243) hb);have n1_:=qam.mk (qad (za1 HB GE243) hb);have n2_:=qam.mk (hbox);have n3_:=qam.mk ((by rw[hg];exact(qac (za1 HB GE243)):w.heap.size≤gb244));have n4_:=qam.mk ((by rw[hg];exact(qac (za1 HB GE243)):w.heap.size≤gb244));have n5_:=qam.mk ((by rw[hg];exact Nat.ne_of_lt (qal (g:=gb243) (o:=.cells #[.int .i64 a0_0,.slice A0_1 l0_1.length c0_1] 39 (0,0)) (za0 BK243)):gb243≠gb244));have n6_:=qam.mk ((by rw[hg];exact Nat.ne_of_gt (qal (g:=gb243) (o:=.cells #[.int .i64 a0_0,.slice A0_1 l0_1.length c0_1] 39 (0,0)) (za0 BK243)):gb244≠gb243));clear BK243;clear HB;have BK243:=n0_;have HB:=n1_;have BK244:=n2_;have GW244:=n3_;have GE244:=n4_;have NB243_244:=n5_;have NB244_243:=n6_;clear n0_ n1_ n2_ n3_ n4_ n5_ n6_;clear hb hbox hg)|((with_reducible refine qak (N:=4) rfl ?_);refine qai ?hg (N:=4) ?hd (cs:=#[.int .i64 0,.slice none 0 0]) (t:=39) ?hr ?_;(case hd=>rfl);(case hg=>rfl);(case hr=>first|(go_simp;done)|(go_simp;rfl));intro gb245 hg w14 hbox hb;have n0_:=qam.mk (qae (g:=gb243) (o:=.cells #[.int .i64 a0_0,.slice A0_1 l0_1.length c0_1] 39 (0,0)) (za0 BK243) hb);have n1_:=qam.mk (qae (g:=gb244) (o:=.cells #[.int .i64 a1_0,.int .i64 a1_1,.slice A1_2 l1_2.length c1_2] 62 (0,0)) (za0 BK244) hb);have n2_:=qam.mk (qad (za3 HB GE243 GE244) hb);have n3_:=qam.mk (hbox);have n4_:=qam.mk ((by rw[hg];exact(qac (za3 HB GE243 GE244)):w.heap.size≤gb245));have n5_:=qam.mk ((by rw[hg];exact(qac (za3 HB GE243 GE244)):w.heap.size≤gb245));have n6_:=qam.mk ((by rw[hg];exact Nat.ne_of_lt (qal (g:=gb243) (o:=.cells #[.int .i64 a0_0,.slice A0_1 l0_1.length c0_1] 39 (0,0)) (za0 BK243)):gb243≠gb245));have n7_:=qam.mk ((by rw[hg];exact Nat.ne_of_gt (qal (g:=gb243) (o:=.cells #[.int .i64 a0_0,.slice A0_1 l0_1.length c0_1] 39 (0,0)) (za0 BK243)):gb245≠gb243));have n8_:=qam.mk ((by rw[hg];exact Nat.ne_of_lt (qal (g:=gb244) (o:=.cells #[.int .i64 a1_0,.int .i64 a1_1,.slice A1_2 l1_2.length c1_2] 62 (0,0)) (za0 BK244)):gb244≠gb245));have n9_:=qam.mk ((by rw[hg];exact Nat.ne_of_gt (qal (g:=gb244) (o:=.cells #[.int .i64 a1_0,.int .i64 a1_1,.slice A1_2 l1_2.length c1_2] 62 (0,0)) (za0 BK244)):gb245≠gb244));clear BK243;clear BK244;clear HB;have BK243:=n0_;have BK244:=n1_;have HB:=n2_;have BK245:=n3_;have GW245:=n4_;have GE245:=n5_;have NB243_245:=n6_;have NB245_243:=n7_;have NB244_245:=n8_;have NB245_244:=n9_;clear n0_ n1_ n2_ n3_ n4_ n5_ n6_ n7_ n8_ n9_;clear hb hbox hg;have hnb15:=NB243_244.out;have hnc15:=NB244_243.out;have hnb16:=NB243_245.out;have hnc16:=NB245_243.out;have hcz17_0:w14.cell? ⟨gb243,0,none⟩=some (.int .i64 a0_0):=(qab BK243.out 0).trans rfl;have hcz17_1:w14.cell? ⟨gb243,1,none⟩=some (.slice A0_1 l0_1.length c0_1):=(qab BK243.out 1).trans rfl;have hfz17_0:=qaa BK243.out 0;have hfz17_1:=qaa BK243.out 1;have hnb18:=NB244_245.out;have hnc18:=NB245_244.out;have hcz19_0:w14.cell? ⟨gb244,0,none⟩=some (.int .i64 a1_0):=(qab BK244.out 0).trans rfl;have hcz19_1:w14.cell? ⟨gb244,1,none⟩=some (.int .i64 a1_1):=(qab BK244.out 1).trans rfl;have hcz19_2:w14.cell? ⟨gb244,2,none⟩=some (.slice A1_2 l1_2.length c1_2):=(qab BK244.out 2).trans rfl;have hfz19_0:=qaa BK244.out 0;have hfz19_1:=qaa BK244.out 1;have hfz19_2:=qaa BK244.out 2)|((with_reducible refine qaj (f:=54) rfl ?_);refine goesL_ (some 10) rfl rfl Try.func54 (by kernel_rfl) rfl #[.agg #[.int .i64 a0_0,.slice A0_1 l0_1.length c0_1],.agg #[.int .i64 a1_0,.int .i64 a1_1,.slice A1_2 l1_2.length c1_2]] rfl (by(try simp only[List.map_toArray,List.map_cons,List.map_nil]);first|done|rfl|(simp only[List.length_drop,List.length_take];rfl)) ?_;(with_reducible refine(impl_StockMay.calls k a0_0 _ _ l0_1 a1_0 a1_1 _ _ l1_2 true _ ?side1 ?side2 ?side3 ?side4 A3.out).mono ?_);(case side1=>repeat(first|exact(Kd.C_below HR0_1.out HB.out)|(with_reducible refine Kd.C_alloc ?_ _)|(with_reducible refine Kd.C_drewN ?_ _)|(with_reducible refine Kd.C_drew ?_)));(case side2=>exact HC0_1.out);(case side3=>repeat(first|exact(Kd.C_below HR1_2.out HB.out)|(with_reducible refine Kd.C_alloc ?_ _)|(with_reducible refine Kd.C_drewN ?_ _)|(with_reducible refine Kd.C_drew ?_)));(case side4=>exact HC1_2.out);rintro e w20 ⟨rfl,hb⟩;refine⟨_,rfl,?_⟩;have n0_:=qam.mk (qae (g:=gb243) (o:=.cells #[.int .i64 a0_0,.slice A0_1 l0_1.length c0_1] 39 (0,0)) (za0 BK243) hb);have n1_:=qam.mk (qae (g:=gb244) (o:=.cells #[.int .i64 a1_0,.int .i64 a1_1,.slice A1_2 l1_2.length c1_2] 62 (0,0)) (za0 BK244) hb);have n2_:=qam.mk (qae (g:=gb245) (o:=.cells #[.int .i64 0,.slice none 0 0] 39 (0,0)) (za0 BK245) hb);have n3_:=qam.mk (qad (za5 HB GE243 GE244 GE245) hb);clear BK243;clear BK244;clear BK245;clear HB;have BK243:=n0_;have BK244:=n1_;have BK245:=n2_;have HB:=n3_;clear n0_ n1_ n2_ n3_;(try clear hb);(try clear hb2);(try clear hk);(try clear hi)))
      have n0_:=qam.mk (qaf BK243.out)
      have n1_:=qam.mk (qaf BK244.out)
      have n2_:=qam.mk (qaf BK245.out)
      have n3_:=qam.mk (below_drew1 HB.out)
      clear BK243
      clear BK244
      clear BK245
      clear HB
      have BK243:=n0_
      have BK244:=n1_
      have BK245:=n2_
      have HB:=n3_
      clear n0_ n1_ n2_ n3_
      refine start_ (n:=8) (S:=fun w'=>w'.cell? ⟨gb243,0,none⟩=some (.int .i64 a0_0)∧w'.cell? ⟨gb243,1,none⟩=some (.slice A0_1 l0_1.length c0_1)) (ds:=[]) #[false,false,false,false,false,false,false,false] (by kernel_rfl) rfl rfl ⟨(qab BK243.out 0).trans rfl,(qab BK243.out 1).trans rfl⟩ (fun hHeld=>?_);refine with_tabW impl_StockDo.tab3 impl_StockDo.bits3 (fun HT_ HW_=>?_)
      generalize w20.drew=w21 at BK243 BK244 BK245 HB hHeld ⊢
      refine pure_ (i:=0) (N:=some 13) (v:=?_) (a':=?_) #[true,false,false,false,false,false,false,false] rfl rfl (qas HT_.out (by kernel_rfl)) (fun _ _ _ h=>h) (Or.inl ⟨by rfl,?_⟩) ?_ ?_
      rotate_left
      ·intro w'
       go_simp
       with_reducible rfl
      rotate_left
      ·simp only[Act.put,List.setIfInBounds_toArray,List.set_cons_zero,List.set_cons_succ,qao,qap]
       rfl
      refine pure_ (i:=2) (N:=some 15) (v:=?_) (a':=?_) #[true,false,true,false,false,false,false,false] rfl rfl (qas HT_.out (by kernel_rfl)) (fun _ _ _ h=>h) (Or.inl ⟨by rfl,?_⟩) ?_ ?_
      rotate_left
      ·intro w'
       go_simp
       with_reducible rfl
      rotate_left
      ·simp only[Act.put,List.setIfInBounds_toArray,List.set_cons_zero,List.set_cons_succ,qao,qap]
       rfl
      refine take_ (i:=1) (N:=some 14) (v:=?_) (a':=?_) #[true,true,true,false,false,false,false,false] rfl rfl (take_ofW HT_.out HW_.out (by kernel_rfl)) (fun _ _ _ h=>h) (Or.inl ⟨by rfl,?_⟩) hHeld ?_ ?_
      rotate_left
      ·rintro w' ⟨s0,s1⟩
       go_simp
       with_reducible rfl
      rotate_left
      ·simp only[Act.put,List.setIfInBounds_toArray,List.set_cons_zero,List.set_cons_succ,qao,qap]
       rfl
      refine take_ (i:=3) (N:=some 16) (v:=?_) (a':=?_) #[true,true,true,true,false,false,false,false] rfl rfl (take_ofW HT_.out HW_.out (by kernel_rfl)) (fun _ _ _ h=>h) (Or.inl ⟨by rfl,?_⟩) hHeld ?_ ?_
      rotate_left
      ·rintro w' ⟨s0,s1⟩
       go_simp
       with_reducible rfl
      rotate_left
      ·simp only[Act.put,List.setIfInBounds_toArray,List.set_cons_zero,List.set_cons_succ,qao,qap]
       rfl
      refine join_ (σ:=Value × Nat) 1 #[true,true,true,true,true,true,true,false] (fun s_=>[(17,s_.1),(6,.pointer (some ⟨s_.2,0,none⟩)),(18,.agg #[.int .i64 a0_0,s_.1])]) (fun s_ w'=>(w'.cell? ⟨gb243,0,none⟩=some (.int .i64 a0_0)∧w'.cell? ⟨gb243,1,none⟩=some (.slice A0_1 l0_1.length c0_1))∧(Kd.R k72 72 w' w.heap.size (fun _=>True) s_.1 t247)∧(w'.heap[gb243]?=some (.cells #[.int .i64 a0_0,.slice A0_1 l0_1.length c0_1] 39 (0,0)))∧(w'.heap[gb244]?=some (.cells #[.int .i64 a1_0,.int .i64 a1_1,.slice A1_2 l1_2.length c1_2] 62 (0,0)))∧(w'.heap[gb245]?=some (.cells #[.int .i64 0,.slice none 0 0] 39 (0,0)))∧(w'.heap[s_.2]?=some (.cells #[.int .i64 0,.slice none 0 0] 39 (0,0)))∧(w.heap.size≤s_.2)∧(w.heap.size≤s_.2)∧(gb243≠s_.2)∧(s_.2≠gb243)∧(gb244≠s_.2)∧(s_.2≠gb244)∧(gb245≠s_.2)∧(s_.2≠gb245)∧(Below w.heap.size w w')) ?_ ?_
      rotate_left
      ·intro hCont
       refine two_ (i:=4) (j:=6) (Ni:=some 17) (Nj:=some 6) #[true,true,true,true,true,false,false,false] #[true,true,true,true,false,false,true,false] rfl rfl rfl rfl (two_of HT_.out (by kernel_rfl)) (by decide) (by decide) (fun K hK=>?_) (fun K hK=>?_)
       ·skip
        refine goes_ Try.func55 (by kernel_rfl) rfl #[.slice A0_1 l0_1.length c0_1] (by rfl) rfl rfl (by(try simp only[List.map_toArray,List.map_cons,List.map_nil]);first|done|rfl|(simp only[List.length_drop,List.length_take];rfl)) ?_
        with_reducible refine(impl_Hold_55.calls _ _ l0_1 t247 _ ?side1 ?side2 A5.out).mono ?_
        (case side1=>repeat(first|exact(Kd.C_below HR0_1.out HB.out)|(with_reducible refine Kd.C_alloc ?_ _)|(with_reducible refine Kd.C_drewN ?_ _)|(with_reducible refine Kd.C_drew ?_)))
        (case side2=>exact HC0_1.out)
        rintro e w22 ⟨v248,rfl,ho0,hb⟩
        refine⟨_,rfl,?_⟩
        have n0_:=qam.mk (Kd.R_lower ho0 (qac (za5 HB GE243 GE244 GE245)))
        have n1_:=qam.mk (qae (g:=gb243) (o:=.cells #[.int .i64 a0_0,.slice A0_1 l0_1.length c0_1] 39 (0,0)) (za0 BK243) hb)
        have n2_:=qam.mk (qae (g:=gb244) (o:=.cells #[.int .i64 a1_0,.int .i64 a1_1,.slice A1_2 l1_2.length c1_2] 62 (0,0)) (za0 BK244) hb)
        have n3_:=qam.mk (qae (g:=gb245) (o:=.cells #[.int .i64 0,.slice none 0 0] 39 (0,0)) (za0 BK245) hb)
        have n4_:=qam.mk (qad (za5 HB GE243 GE244 GE245) hb)
        clear BK243
        clear BK244
        clear BK245
        clear HB
        have HO249:=n0_
        have BK243:=n1_
        have BK244:=n2_
        have BK245:=n3_
        have HB:=n4_
        clear n0_ n1_ n2_ n3_ n4_
        (try clear hb)
        (try clear hb2)
        (try clear hk)
        (try clear hi)
        (try clear ho0)
        obtain⟨Ao23,co23,eo23⟩:=Kd.R_slice HO249.out
        (first|subst eo23|(injection eo23 with f1_ f2_ f3_;have f4_:=f1_.symm;have f5_:=f3_.symm;clear f1_ f2_ f3_;subst f4_;subst f5_))
        refine hK.out _ _ ⟨(qab BK243.out 0).trans rfl,(qab BK243.out 1).trans rfl⟩ (fun hHeld=>?_)
        clear hK K
        refine norm_ (a':=?_) ?_ ?_
        rotate_left
        ·show Act.put _ (some 17) _=_
         simp only[Act.put,List.setIfInBounds_toArray,List.set_cons_zero,List.set_cons_succ,qao,qap]
         rfl
        refine pure_ (i:=5) (N:=some 18) (v:=?_) (a':=?_) #[true,true,true,true,true,true,false,false] rfl rfl (qas HT_.out (by kernel_rfl)) (fun _ _ _ h=>h) (Or.inl ⟨by rfl,?_⟩) ?_ ?_
        rotate_left
        ·intro w'
         go_simp
         with_reducible rfl
        rotate_left
        ·simp only[Act.put,List.setIfInBounds_toArray,List.set_cons_zero,List.set_cons_succ,qao,qap]
         rfl
        refine one_ (i:=6) (N:=some 6) #[true,true,true,true,true,true,true,false] rfl rfl (one_of HT_.out (by kernel_rfl)) (by decide) (fun K hK=>?_)
        refine box_step ?hg (N:=6) ?hd (cs:=#[.int .i64 0,.slice none 0 0]) (t:=39) ?hr ?_;(case hd=>rfl);(case hg=>rfl);(case hr=>first|(go_simp;done)|(go_simp;rfl))
        intro gb250 hg w24 hbox hb
        have n0_:=qam.mk (Kd.R_below (za9 HO249) hb)
        have n1_:=qam.mk (qae (g:=gb243) (o:=.cells #[.int .i64 a0_0,.slice A0_1 l0_1.length c0_1] 39 (0,0)) (za0 BK243) hb)
        have n2_:=qam.mk (qae (g:=gb244) (o:=.cells #[.int .i64 a1_0,.int .i64 a1_1,.slice A1_2 l1_2.length c1_2] 62 (0,0)) (za0 BK244) hb)
        have n3_:=qam.mk (qae (g:=gb245) (o:=.cells #[.int .i64 0,.slice none 0 0] 39 (0,0)) (za0 BK245) hb)
        have n4_:=qam.mk (qad (za5 HB GE243 GE244 GE245) hb)
        have n5_:=qam.mk (hbox)
        have n6_:=qam.mk ((by rw[hg];exact(qac (za5 HB GE243 GE244 GE245)):w.heap.size≤gb250))
        have n7_:=qam.mk ((by rw[hg];exact(qac (za5 HB GE243 GE244 GE245)):w.heap.size≤gb250))
        have n8_:=qam.mk ((by rw[hg];exact Nat.ne_of_lt (qal (g:=gb243) (o:=.cells #[.int .i64 a0_0,.slice A0_1 l0_1.length c0_1] 39 (0,0)) (za0 BK243)):gb243≠gb250))
        have n9_:=qam.mk ((by rw[hg];exact Nat.ne_of_gt (qal (g:=gb243) (o:=.cells #[.int .i64 a0_0,.slice A0_1 l0_1.length c0_1] 39 (0,0)) (za0 BK243)):gb250≠gb243))
        have n10_:=qam.mk ((by rw[hg];exact Nat.ne_of_lt (qal (g:=gb244) (o:=.cells #[.int .i64 a1_0,.int .i64 a1_1,.slice A1_2 l1_2.length c1_2] 62 (0,0)) (za0 BK244)):gb244≠gb250))
        have n11_:=qam.mk ((by rw[hg];exact Nat.ne_of_gt (qal (g:=gb244) (o:=.cells #[.int .i64 a1_0,.int .i64 a1_1,.slice A1_2 l1_2.length c1_2] 62 (0,0)) (za0 BK244)):gb250≠gb244))
        have n12_:=qam.mk ((by rw[hg];exact Nat.ne_of_lt (qal (g:=gb245) (o:=.cells #[.int .i64 0,.slice none 0 0] 39 (0,0)) (za0 BK245)):gb245≠gb250))
        have n13_:=qam.mk ((by rw[hg];exact Nat.ne_of_gt (qal (g:=gb245) (o:=.cells #[.int .i64 0,.slice none 0 0] 39 (0,0)) (za0 BK245)):gb250≠gb245))
        clear HO249
        clear BK243
        clear BK244
        clear BK245
        clear HB
        have HO249:=n0_
        have BK243:=n1_
        have BK244:=n2_
        have BK245:=n3_
        have HB:=n4_
        have BK250:=n5_
        have GW250:=n6_
        have GE250:=n7_
        have NB243_250:=n8_
        have NB250_243:=n9_
        have NB244_250:=n10_
        have NB250_244:=n11_
        have NB245_250:=n12_
        have NB250_245:=n13_
        clear n0_ n1_ n2_ n3_ n4_ n5_ n6_ n7_ n8_ n9_ n10_ n11_ n12_ n13_
        clear hb hbox hg
        refine hK.out _ _ ⟨(qab BK243.out 0).trans rfl,(qab BK243.out 1).trans rfl⟩ (fun hHeld=>?_)
        clear hK K
        refine norm_ (a':=?_) ?_ ?_
        rotate_left
        ·show Act.put _ (some 6) _=_
         simp only[Act.put,List.setIfInBounds_toArray,List.set_cons_zero,List.set_cons_succ,qao,qap]
         rfl
        exact norm_ (by simp only[putAll,Act.put,List.setIfInBounds_toArray,List.set_cons_zero,List.set_cons_succ]) (hCont (.slice Ao23 t247.length co23,gb250) _ ⟨hHeld,(za9 HO249),(za0 BK243),(za0 BK244),(za0 BK245),(za0 BK250),GW250.out,GE250.out,NB243_250.out,NB250_243.out,NB244_250.out,NB250_244.out,NB245_250.out,NB250_245.out,(za7 HB GE243 GE244 GE245 GE250)⟩)
       ·skip
        refine box_step ?hg (N:=6) ?hd (cs:=#[.int .i64 0,.slice none 0 0]) (t:=39) ?hr ?_;(case hd=>rfl);(case hg=>rfl);(case hr=>first|(go_simp;done)|(go_simp;rfl))
        intro gb250 hg w22 hbox hb
        have n0_:=qam.mk (qae (g:=gb243) (o:=.cells #[.int .i64 a0_0,.slice A0_1 l0_1.length c0_1] 39 (0,0)) (za0 BK243) hb)
        have n1_:=qam.mk (qae (g:=gb244) (o:=.cells #[.int .i64 a1_0,.int .i64 a1_1,.slice A1_2 l1_2.length c1_2] 62 (0,0)) (za0 BK244) hb)
        have n2_:=qam.mk (qae (g:=gb245) (o:=.cells #[.int .i64 0,.slice none 0 0] 39 (0,0)) (za0 BK245) hb)
        have n3_:=qam.mk (qad (za5 HB GE243 GE244 GE245) hb)
        have n4_:=qam.mk (hbox)
        have n5_:=qam.mk ((by rw[hg];exact(qac (za5 HB GE243 GE244 GE245)):w.heap.size≤gb250))
        have n6_:=qam.mk ((by rw[hg];exact(qac (za5 HB GE243 GE244 GE245)):w.heap.size≤gb250))
        have n7_:=qam.mk ((by rw[hg];exact Nat.ne_of_lt (qal (g:=gb243) (o:=.cells #[.int .i64 a0_0,.slice A0_1 l0_1.length c0_1] 39 (0,0)) (za0 BK243)):gb243≠gb250))
        have n8_:=qam.mk ((by rw[hg];exact Nat.ne_of_gt (qal (g:=gb243) (o:=.cells #[.int .i64 a0_0,.slice A0_1 l0_1.length c0_1] 39 (0,0)) (za0 BK243)):gb250≠gb243))
        have n9_:=qam.mk ((by rw[hg];exact Nat.ne_of_lt (qal (g:=gb244) (o:=.cells #[.int .i64 a1_0,.int .i64 a1_1,.slice A1_2 l1_2.length c1_2] 62 (0,0)) (za0 BK244)):gb244≠gb250))
        have n10_:=qam.mk ((by rw[hg];exact Nat.ne_of_gt (qal (g:=gb244) (o:=.cells #[.int .i64 a1_0,.int .i64 a1_1,.slice A1_2 l1_2.length c1_2] 62 (0,0)) (za0 BK244)):gb250≠gb244))
        have n11_:=qam.mk ((by rw[hg];exact Nat.ne_of_lt (qal (g:=gb245) (o:=.cells #[.int .i64 0,.slice none 0 0] 39 (0,0)) (za0 BK245)):gb245≠gb250))
        have n12_:=qam.mk ((by rw[hg];exact Nat.ne_of_gt (qal (g:=gb245) (o:=.cells #[.int .i64 0,.slice none 0 0] 39 (0,0)) (za0 BK245)):gb250≠gb245))
        clear BK243
        clear BK244
        clear BK245
        clear HB
        have BK243:=n0_
        have BK244:=n1_
        have BK245:=n2_
        have HB:=n3_
        have BK250:=n4_
        have GW250:=n5_
        have GE250:=n6_
        have NB243_250:=n7_
        have NB250_243:=n8_
        have NB244_250:=n9_
        have NB250_244:=n10_
        have NB245_250:=n11_
        have NB250_245:=n12_
        clear n0_ n1_ n2_ n3_ n4_ n5_ n6_ n7_ n8_ n9_ n10_ n11_ n12_
        clear hb hbox hg
        refine hK.out _ _ ⟨(qab BK243.out 0).trans rfl,(qab BK243.out 1).trans rfl⟩ (fun hHeld=>?_)
        clear hK K
        refine norm_ (a':=?_) ?_ ?_
        rotate_left
        ·show Act.put _ (some 6) _=_
         simp only[Act.put,List.setIfInBounds_toArray,List.set_cons_zero,List.set_cons_succ,qao,qap]
         rfl
        refine one_ (i:=4) (N:=some 17) #[true,true,true,true,true,false,true,false] rfl rfl (one_of HT_.out (by kernel_rfl)) (by decide) (fun K hK=>?_)
        refine goes_ Try.func55 (by kernel_rfl) rfl #[.slice A0_1 l0_1.length c0_1] (by rfl) rfl rfl (by(try simp only[List.map_toArray,List.map_cons,List.map_nil]);first|done|rfl|(simp only[List.length_drop,List.length_take];rfl)) ?_
        with_reducible refine(impl_Hold_55.calls _ _ l0_1 t247 _ ?side1 ?side2 A5.out).mono ?_
        (case side1=>repeat(first|exact(Kd.C_below HR0_1.out HB.out)|(with_reducible refine Kd.C_alloc ?_ _)|(with_reducible refine Kd.C_drewN ?_ _)|(with_reducible refine Kd.C_drew ?_)))
        (case side2=>exact HC0_1.out)
        rintro e w23 ⟨v248,rfl,ho0,hb⟩
        refine⟨_,rfl,?_⟩
        have n0_:=qam.mk (Kd.R_lower ho0 (qac (za7 HB GE243 GE244 GE245 GE250)))
        have n1_:=qam.mk (qae (g:=gb243) (o:=.cells #[.int .i64 a0_0,.slice A0_1 l0_1.length c0_1] 39 (0,0)) (za0 BK243) hb)
        have n2_:=qam.mk (qae (g:=gb244) (o:=.cells #[.int .i64 a1_0,.int .i64 a1_1,.slice A1_2 l1_2.length c1_2] 62 (0,0)) (za0 BK244) hb)
        have n3_:=qam.mk (qae (g:=gb245) (o:=.cells #[.int .i64 0,.slice none 0 0] 39 (0,0)) (za0 BK245) hb)
        have n4_:=qam.mk (qae (g:=gb250) (o:=.cells #[.int .i64 0,.slice none 0 0] 39 (0,0)) (za0 BK250) hb)
        have n5_:=qam.mk (qad (za7 HB GE243 GE244 GE245 GE250) hb)
        clear BK243
        clear BK244
        clear BK245
        clear BK250
        clear HB
        have HO249:=n0_
        have BK243:=n1_
        have BK244:=n2_
        have BK245:=n3_
        have BK250:=n4_
        have HB:=n5_
        clear n0_ n1_ n2_ n3_ n4_ n5_
        (try clear hb)
        (try clear hb2)
        (try clear hk)
        (try clear hi)
        (try clear ho0)
        obtain⟨Ao24,co24,eo24⟩:=Kd.R_slice HO249.out
        (first|subst eo24|(injection eo24 with f1_ f2_ f3_;have f4_:=f1_.symm;have f5_:=f3_.symm;clear f1_ f2_ f3_;subst f4_;subst f5_))
        refine hK.out _ _ ⟨(qab BK243.out 0).trans rfl,(qab BK243.out 1).trans rfl⟩ (fun hHeld=>?_)
        clear hK K
        refine norm_ (a':=?_) ?_ ?_
        rotate_left
        ·show Act.put _ (some 17) _=_
         simp only[Act.put,List.setIfInBounds_toArray,List.set_cons_zero,List.set_cons_succ,qao,qap]
         rfl
        refine pure_ (i:=5) (N:=some 18) (v:=?_) (a':=?_) #[true,true,true,true,true,true,true,false] rfl rfl (qas HT_.out (by kernel_rfl)) (fun _ _ _ h=>h) (Or.inl ⟨by rfl,?_⟩) ?_ ?_
        rotate_left
        ·intro w'
         go_simp
         with_reducible rfl
        rotate_left
        ·simp only[Act.put,List.setIfInBounds_toArray,List.set_cons_zero,List.set_cons_succ,qao,qap]
         rfl
        exact norm_ (by simp only[putAll,Act.put,List.setIfInBounds_toArray,List.set_cons_zero,List.set_cons_succ]) (hCont (.slice Ao24 t247.length co24,gb250) _ ⟨hHeld,(za9 HO249),(za0 BK243),(za0 BK244),(za0 BK245),(za0 BK250),GW250.out,GE250.out,NB243_250.out,NB250_243.out,NB244_250.out,NB250_244.out,NB245_250.out,NB250_245.out,(za7 HB GE243 GE244 GE245 GE250)⟩)
      rintro⟨v248,gb250⟩ w25 ⟨hS_,h0_,h1_,h2_,h3_,h4_,h5_,h6_,h7_,h8_,h9_,h10_,h11_,h12_,h13_⟩
      have n0_:qam (Kd.R k72 72 w25 w.heap.size (fun _=>True) v248 t247):=⟨h0_⟩
      have n1_:qam (w25.heap[gb243]?=some (.cells #[.int .i64 a0_0,.slice A0_1 l0_1.length c0_1] 39 (0,0))):=⟨h1_⟩
      have n2_:qam (w25.heap[gb244]?=some (.cells #[.int .i64 a1_0,.int .i64 a1_1,.slice A1_2 l1_2.length c1_2] 62 (0,0))):=⟨h2_⟩
      have n3_:qam (w25.heap[gb245]?=some (.cells #[.int .i64 0,.slice none 0 0] 39 (0,0))):=⟨h3_⟩
      have n4_:qam (w25.heap[gb250]?=some (.cells #[.int .i64 0,.slice none 0 0] 39 (0,0))):=⟨h4_⟩
      have n5_:qam (w.heap.size≤gb250):=⟨h5_⟩
      have n6_:qam (w.heap.size≤gb250):=⟨h6_⟩
      have n7_:qam (gb243≠gb250):=⟨h7_⟩
      have n8_:qam (gb250≠gb243):=⟨h8_⟩
      have n9_:qam (gb244≠gb250):=⟨h9_⟩
      have n10_:qam (gb250≠gb244):=⟨h10_⟩
      have n11_:qam (gb245≠gb250):=⟨h11_⟩
      have n12_:qam (gb250≠gb245):=⟨h12_⟩
      have n13_:qam (Below w.heap.size w w25):=⟨h13_⟩
      clear BK243
      clear BK244
      clear BK245
      clear HB
      clear h0_ h1_ h2_ h3_ h4_ h5_ h6_ h7_ h8_ h9_ h10_ h11_ h12_ h13_
      have HO249:=n0_
      have BK243:=n1_
      have BK244:=n2_
      have BK245:=n3_
      have BK250:=n4_
      have GW250:=n5_
      have GE250:=n6_
      have NB243_250:=n7_
      have NB250_243:=n8_
      have NB244_250:=n9_
      have NB250_244:=n10_
      have NB245_250:=n11_
      have NB250_245:=n12_
      have HB:=n13_
      clear n0_ n1_ n2_ n3_ n4_ n5_ n6_ n7_ n8_ n9_ n10_ n11_ n12_ n13_
      have hHeld:w25.cell? ⟨gb243,0,none⟩=some (.int .i64 a0_0)∧w25.cell? ⟨gb243,1,none⟩=some (.slice A0_1 l0_1.length c0_1):=hS_
      obtain⟨Ao26,co26,eo26⟩:=Kd.R_slice HO249.out
      (first|subst eo26|(injection eo26 with f1_ f2_ f3_;have f4_:=f1_.symm;have f5_:=f3_.symm;clear f1_ f2_ f3_;subst f4_;subst f5_))
      refine norm_ (a':=?_) ?_ ?_
      rotate_left
      ·simp only[putAll,Act.put,List.setIfInBounds_toArray,List.set_cons_zero,List.set_cons_succ]
       rfl
      refine one_ (i:=7) (N:=none) #[true,true,true,true,true,true,true,true] rfl rfl (one_of HT_.out (by kernel_rfl)) (by decide) (fun K hK=>?_)
      have hs27:w25.cell? ⟨gb250,0,none⟩=some (.int .i64 0):=(qab BK250.out 0).trans rfl
      have hfs27:=qaa BK250.out 0
      have hns27_0:=NB243_250.out
      have hns27_1:=NB244_250.out
      have hns27_2:=NB245_250.out
      have hms27_0:=NB250_243.out
      have hms27_1:=NB250_244.out
      have hms27_2:=NB250_245.out
      have hs28:w25.cell? ⟨gb250,1,none⟩=some (.slice none 0 0):=(qab BK250.out 1).trans rfl
      have hfs28:=qaa BK250.out 1
      have hns28_0:=NB243_250.out
      have hns28_1:=NB244_250.out
      have hns28_2:=NB245_250.out
      have hms28_0:=NB250_243.out
      have hms28_1:=NB250_244.out
      have hms28_2:=NB250_245.out
      refine skip_ (w1:=?_) (by rfl) rfl ?_ ?_
      rotate_left
      ·go_simp
       rfl
      refine hK.out _ _ ⟨((cell_far (p:=⟨gb250,_,none⟩) NB243_250.out _).trans (((cell_far (p:=⟨gb250,_,none⟩) NB243_250.out _).trans (hHeld.1)))),((cell_far (p:=⟨gb250,_,none⟩) NB243_250.out _).trans (((cell_far (p:=⟨gb250,_,none⟩) NB243_250.out _).trans (hHeld.2))))⟩ (fun hHeld=>?_)
      clear hK K
      refine done_ (done_of HT_.out (by kernel_rfl)) ?_
      have n0_:qam (Kd.R k72 72 ((w25.setCell ⟨gb250,0,none⟩ (.int .i64 a0_0)).setCell ⟨gb250,1,none⟩ (.slice Ao26 t247.length co26)) w.heap.size (fun _=>True) (.slice Ao26 t247.length co26) t247):=⟨by(with_reducible repeat(first|apply Kd.R_alloc|apply Kd.R_drewN|apply Kd.R_drew));exact Kd.R_mono (Kd.R_far (p:=⟨gb250,1,none⟩) (Kd.R_far (p:=⟨gb250,0,none⟩) (Kd.R_types HO249.out BK250.out (by decide)) (fun _ hk=>hk.2) (.int .i64 a0_0)) (fun _ hk=>hk.2) (.slice Ao26 t247.length co26)) (fun _ hk=>trivial)⟩
      have n1_:qam (((w25.setCell ⟨gb250,0,none⟩ (.int .i64 a0_0)).setCell ⟨gb250,1,none⟩ (.slice Ao26 t247.length co26)).heap[gb243]?=some (.cells #[.int .i64 a0_0,.slice A0_1 l0_1.length c0_1] 39 (0,0))):=⟨za4 NB243_250 BK243⟩
      have n2_:qam (((w25.setCell ⟨gb250,0,none⟩ (.int .i64 a0_0)).setCell ⟨gb250,1,none⟩ (.slice Ao26 t247.length co26)).heap[gb244]?=some (.cells #[.int .i64 a1_0,.int .i64 a1_1,.slice A1_2 l1_2.length c1_2] 62 (0,0))):=⟨za4 NB244_250 BK244⟩
      have n3_:qam (((w25.setCell ⟨gb250,0,none⟩ (.int .i64 a0_0)).setCell ⟨gb250,1,none⟩ (.slice Ao26 t247.length co26)).heap[gb245]?=some (.cells #[.int .i64 0,.slice none 0 0] 39 (0,0))):=⟨za4 NB245_250 BK245⟩
      have n4_:qam (((w25.setCell ⟨gb250,0,none⟩ (.int .i64 a0_0)).setCell ⟨gb250,1,none⟩ (.slice Ao26 t247.length co26)).heap[gb250]?=some (.cells #[.int .i64 a0_0,.slice Ao26 t247.length co26] 39 (0,0))):=⟨by(with_reducible repeat(first|refine qah ?_ _|refine qaf ?_|refine qag ?_ _));refine qan (cs:=#[.int .i64 a0_0,.slice none 0 0]) ?_ 1 _ rfl;(with_reducible repeat(first|refine qah ?_ _|refine qaf ?_|refine qag ?_ _));refine qan (cs:=#[.int .i64 0,.slice none 0 0]) ?_ 0 _ rfl;(with_reducible repeat(first|refine qah ?_ _|refine qaf ?_|refine qag ?_ _));exact BK250.out⟩
      have n5_:qam (Below w.heap.size w ((w25.setCell ⟨gb250,0,none⟩ (.int .i64 a0_0)).setCell ⟨gb250,1,none⟩ (.slice Ao26 t247.length co26))):=⟨za7 HB GE243 GE244 GE245 GE250⟩
      (try clear HO249)
      (try clear BK243)
      (try clear BK244)
      (try clear BK245)
      (try clear BK250)
      (try clear HB)
      generalize ((w25.setCell ⟨gb250,0,none⟩ (.int .i64 a0_0)).setCell ⟨gb250,1,none⟩ (.slice Ao26 t247.length co26))=w29 at n0_ n1_ n2_ n3_ n4_ n5_ ⊢
      have HO249:=n0_
      have BK243:=n1_
      have BK244:=n2_
      have BK245:=n3_
      have BK250:=n4_
      have HB:=n5_
      clear n0_ n1_ n2_ n3_ n4_ n5_
      have hnb30:=NB250_243.out
      have hnc30:=NB243_250.out
      have hnb31:=NB250_244.out
      have hnc31:=NB244_250.out
      have hnb32:=NB250_245.out
      have hnc32:=NB245_250.out
      have hcz33_0:w29.cell? ⟨gb250,0,none⟩=some (.int .i64 a0_0):=(qab BK250.out 0).trans rfl
      have hcz33_1:w29.cell? ⟨gb250,1,none⟩=some (.slice Ao26 t247.length co26):=(qab BK250.out 1).trans rfl
      have hfz33_0:=qaa BK250.out 0
      have hfz33_1:=qaa BK250.out 1
      have hcz34_0:w29.cell? ⟨gb244,0,none⟩=some (.int .i64 a1_0):=(qab BK244.out 0).trans rfl
      have hcz34_1:w29.cell? ⟨gb244,1,none⟩=some (.int .i64 a1_1):=(qab BK244.out 1).trans rfl
      have hcz34_2:w29.cell? ⟨gb244,2,none⟩=some (.slice A1_2 l1_2.length c1_2):=(qab BK244.out 2).trans rfl
      have hfz34_0:=qaa BK244.out 0
      have hfz34_1:=qaa BK244.out 1
      have hfz34_2:=qaa BK244.out 2
      have p9:0≤((ji6):Int):=of_decide_eq_true (za6)
      have q9:((ji6):Int)<((t247.length:Int):Int):=of_decide_eq_true (za6)
      obtain⟨go9,co9,eo9,gb9,gl9,cl9,HG9⟩:=Kd.R_form HO249.out (by omega)
      (first|cases eo9|(injection eo9 with ea_ en_ ec_;(first|subst ea_|(injection ea_ with ea_;subst ea_));subst ec_;clear en_))
      have GB9:=qam.mk gb9
      have GG9:=qam.mk HG9
      clear gb9 gl9 HG9
      obtain⟨ce9,hcl9,hM9,hcc9,hfr9⟩:=Kd.R_elem HO249.out z72 ((ji6):Int) p9 q9
      obtain rfl:=k72_openM hM9
      have hx9_0:w29.cell? ⟨go9,((ji6):Int).toNat*2,none⟩=some (.int .i64 ((rd_T72 t247 (ji6)).f0)):=hcc9 0 _ rfl
      have hx9_1:w29.cell? ⟨go9,((ji6):Int).toNat*2+1,none⟩=some (.int .i64 ((rd_T72 t247 (ji6)).f1)):=hcc9 1 _ rfl
      have hf9_0:w29.frozen? ⟨go9,((ji6):Int).toNat*2,none⟩=false:=hfr9 0
      have hf9_1:w29.frozen? ⟨go9,((ji6):Int).toNat*2+1,none⟩=false:=hfr9 1
      clear hcl9 hcc9 hfr9 hM9
      replace p9:=eq_true p9
      replace q9:=eq_true q9
      have p251:0≤(0:Int):=(by omega)
      have q251:0<(l1_2.length:Int):=of_decide_eq_true (za6)
      obtain⟨ad251,e251,hx251_0⟩:=Kd.at_int HR1_2.out 0 p251 q251
      cases e251
      have qi251:(0<l1_2.length)=True:=eq_true (by omega)
      (try rw[show((0:Int)).toNat=0 from rfl] at hx251_0)
      (try rw[Addr.add_zero'] at hx251_0)
      replace hx251_0:=(HB.out.cell (World.block_lt_of_cell? w _ hx251_0)).trans hx251_0
      replace p251:=eq_true p251
      replace q251:=eq_true q251
      have HX35:=qam.mk (show Kd.R k72 72 w29 w.heap.size (fun _=>True) (.slice (some ⟨go9,0,none⟩) t247.length co26) t247 from(za9 HO249))
      obtain⟨ce35,hcl35,hM35,hcc35,hfr35⟩:=Kd.R_elem HX35.out z72 ((ji6):Int) (of_decide_eq_true (za6)) (by have h_:((ji6):Int)<((t247.length:Int):Int):=of_decide_eq_true (za6);first|exact h_|(have e_:=(Kd.R_reads' HO249.out).1;omega)|simpa using h_)
      obtain rfl:=k72_openM hM35
      have HP35:=Kd.R_seg HX35.out ((ji6):Int) (of_decide_eq_true (za6)) (by have h_:((ji6):Int)<((t247.length:Int):Int):=of_decide_eq_true (za6);first|exact h_|(have e_:=(Kd.R_reads' HO249.out).1;omega)|simpa using h_) (seg:=[.int .i64 (rd l1_2 0),.int .i64 1]) (j:=0) hcl35 hcc35 (show 2≤2 from by decide) (x':=(⟨rd l1_2 0,1⟩:S72)) (k72_mkM _ _ _ (⟨rd l1_2 0,1⟩:S72) ) (fun _ hk=>hk)
      have hx35_0:=hcc35 0 _ rfl
      (try simp only[show(k72).sz=2 from rfl,Nat.mul_one,Nat.add_zero] at hx35_0)
      have hf35_0:=hfr35 0
      (try simp only[show(k72).sz=2 from rfl,Nat.mul_one,Nat.add_zero] at hf35_0)
      have hx35_1:=hcc35 1 _ rfl
      (try simp only[show(k72).sz=2 from rfl,Nat.mul_one,Nat.add_zero] at hx35_1)
      have hf35_1:=hfr35 1
      (try simp only[show(k72).sz=2 from rfl,Nat.mul_one,Nat.add_zero] at hf35_1)
      clear hcl35 hcc35 hfr35 hM35
      try go_wp2_with(first|((with_reducible refine gate_store (t:=72) (p:=35) rfl ?_);refine store_event (t:=72) (p:=35) (v:=?vo_w36) (w1:=((w29.setCell ⟨go9,((ji6):Int).toNat*2,none⟩ (.int .i64 (rd l1_2 0))).setCell ⟨go9,((ji6):Int).toNat*2+1,none⟩ (.int .i64 1))) ?hg ?ho ?hn ?hr ?_;(case ho=>rfl);(case hg=>rfl);(case hn=>rfl);(case hr=>first|(go_simp;done)|(go_simp;rfl));intro w36 hw;have hg:w29.grownBy w36 (some go9):=(by rw[hw];exact HP35.2);have hp_:Kd.R k72 72 w36 w.heap.size (fun _=>True) (.slice (some ⟨go9,0,none⟩) t247.length co26) y252:=(by rw[hw,Ny252.out];exact HP35.1);clear HP35;have n0_:=qam.mk (blk_grown (g:=gb243) (o:=.cells #[.int .i64 a0_0,.slice A0_1 l0_1.length c0_1] 39 (0,0)) (za0 BK243) hg (Kd.R_ne HO249.out BK243.out (by decide)));have n1_:=qam.mk (blk_grown (g:=gb244) (o:=.cells #[.int .i64 a1_0,.int .i64 a1_1,.slice (some ad251) l1_2.length c1_2] 62 (0,0)) (za0 BK244) hg (Kd.R_ne HO249.out BK244.out (by decide)));have n2_:=qam.mk (blk_grown (g:=gb245) (o:=.cells #[.int .i64 0,.slice none 0 0] 39 (0,0)) (za0 BK245) hg (Kd.R_ne HO249.out BK245.out (by decide)));have n3_:=qam.mk (hp_);have n4_:=qam.mk (blk_grown (g:=gb250) (o:=.cells #[.int .i64 a0_0,.slice (some ⟨go9,0,none⟩) t247.length co26] 39 (0,0)) (za0 BK250) hg (Kd.R_ne HO249.out BK250.out (by decide)));have n5_:=qam.mk ((by rw[hw];exact below_set (below_set (HB.out) GB9.out) GB9.out:Below w.heap.size w w36));clear BK243;clear BK244;clear BK245;clear HO249;clear BK250;clear HB;have BK243:=n0_;have BK244:=n1_;have BK245:=n2_;have HO249:=n3_;have BK250:=n4_;have HB:=n5_;clear n0_ n1_ n2_ n3_ n4_ n5_;clear hg hw hp_;have hcz37_0:w36.cell? ⟨gb250,0,none⟩=some (.int .i64 a0_0):=(qab BK250.out 0).trans rfl;have hcz37_1:w36.cell? ⟨gb250,1,none⟩=some (.slice (some ⟨go9,0,none⟩) t247.length co26):=(qab BK250.out 1).trans rfl;have hfz37_0:=qaa BK250.out 0;have hfz37_1:=qaa BK250.out 1;have hcz38_0:w36.cell? ⟨gb245,0,none⟩=some (.int .i64 0):=(qab BK245.out 0).trans rfl;have hcz38_1:w36.cell? ⟨gb245,1,none⟩=some (.slice none 0 0):=(qab BK245.out 1).trans rfl;have hfz38_0:=qaa BK245.out 0;have hfz38_1:=qaa BK245.out 1))
      refine bodyPost_ret (results_ct rfl _ _ gb245 39 #[.int .i64 a0_0,.slice (some ⟨go9,0,none⟩) t247.length co26] (0,0) _ rfl (by(with_reducible repeat(first|refine qah ?_ _|refine qaf ?_|refine qag ?_ _));refine qan (cs:=#[.int .i64 a0_0,.slice none 0 0]) ?_ 1 _ rfl;(with_reducible repeat(first|refine qah ?_ _|refine qaf ?_|refine qag ?_ _));refine qan (cs:=#[.int .i64 0,.slice none 0 0]) ?_ 0 _ rfl;(with_reducible repeat(first|refine qah ?_ _|refine qaf ?_|refine qag ?_ _));exact BK245.out) Try.underlying39 rfl (by kernel_rfl)) rfl ?_
      exact⟨_,by first|rfl|(simp[qaq,qar]<;>rfl)|(simp only[←hji6];first|rfl|(simp[qaq,qar]<;>rfl))|(simp[*,qaq,qar]<;>rfl),by(with_reducible repeat(first|apply Kd.R_alloc|apply Kd.R_drewN|apply Kd.R_drew));exact Kd.R_mono (Kd.R_far (p:=⟨gb245,1,none⟩) (Kd.R_far (p:=⟨gb245,0,none⟩) (Kd.R_types HO249.out BK245.out (by decide)) (fun _ hk=>hk.2) (.int .i64 a0_0)) (fun _ hk=>hk.2) (.slice (some ⟨go9,0,none⟩) t247.length co26)) (fun _ hk=>trivial),za7 HB GE243 GE244 GE245 GE250⟩
     ·rw[if_neg c11] at H
      exact absurd H (by simp)
    ·rw[if_neg c10] at H
     have c10b0:(a1_0 == 1)=false:=beq_eq_false_iff_ne.mpr c10
     have c10b1:(a1_0 != 1)=true:=bne_iff_ne.mpr c10
     by_cases c39:a1_0=2
     ·rw[if_pos c39] at H
      have c39b0:(a1_0 == 2)=true:=beq_iff_eq.mpr c39
      have c39b1:(a1_0 != 2)=false:=bne_eq_false_iff_eq.mpr c39
      clear c39
      obtain⟨y253,hy253⟩:∃y_:List (S72),y_=(t247.set ((ji6):Int).toNat (⟨(rd_T72 t247 (ji6)).f0,2⟩:S72)):=⟨_,rfl⟩
      replace H:(some (a0_0,y253,true))=some (r1,r2,r3):=by first|(rw[hy253];with_reducible exact H)|(have H2_:=(Option.bind_some _ _).symm.trans H;rw[hy253];with_reducible exact H2_)|(have H2_:=(Option.bind_some _ _).symm.trans H;with_reducible exact H2_)|with_reducible exact H|(rw[hy253];exact H)|exact H
      have Ny253:=qam.mk hy253
      clear hy253
      simp only[Option.some.injEq,Prod.mk.injEq] at H
      obtain⟨rfl,rfl,rfl⟩:=H
      go_enter Try.func42,Try.ntmps42
      try go_wp2_with(first|((with_reducible refine qak (N:=2) rfl ?_);refine qai ?hg (N:=2) ?hd (cs:=#[.int .i64 a0_0,.slice A0_1 l0_1.length c0_1]) (t:=39) ?hr ?_;(case hd=>rfl);(case hg=>rfl);(case hr=>first|(go_simp;done)|(go_simp;rfl));intro gb243 hg w40 hbox hb;have n0_:=qam.mk (qad (za2 HB) hb);have n1_:=qam.mk (hbox);have n2_:=qam.mk ((by rw[hg];exact(qac (za2 HB)):w.heap.size≤gb243));have n3_:=qam.mk ((by rw[hg];exact(qac (za2 HB)):w.heap.size≤gb243));clear HB;have HB:=n0_;have BK243:=n1_;have GW243:=n2_;have GE243:=n3_;clear n0_ n1_ n2_ n3_;clear hb hbox hg)|((with_reducible refine qak (N:=3) rfl ?_);refine qai ?hg (N:=3) ?hd (cs:=#[.int .i64 a1_0,.int .i64 a1_1,.slice A1_2 l1_2.length c1_2]) (t:=62) ?hr ?_;(case hd=>rfl);(case hg=>rfl);(case hr=>first|(go_simp;done)|(go_simp;rfl));intro gb244 hg w41 hbox hb;have n0_:=qam.mk (qae (g:=gb243) (o:=.cells #[.int .i64 a0_0,.slice A0_1 l0_1.length c0_1] 39 (0,0)) (za0 BK243) hb);have n1_:=qam.mk (qad (za1 HB GE243) hb);have n2_:=qam.mk (hbox);have n3_:=qam.mk ((by rw[hg];exact(qac (za1 HB GE243)):w.heap.size≤gb244));have n4_:=qam.mk ((by rw[hg];exact(qac (za1 HB GE243)):w.heap.size≤gb244));have n5_:=qam.mk ((by rw[hg];exact Nat.ne_of_lt (qal (g:=gb243) (o:=.cells #[.int .i64 a0_0,.slice A0_1 l0_1.length c0_1] 39 (0,0)) (za0 BK243)):gb243≠gb244));have n6_:=qam.mk ((by rw[hg];exact Nat.ne_of_gt (qal (g:=gb243) (o:=.cells #[.int .i64 a0_0,.slice A0_1 l0_1.length c0_1] 39 (0,0)) (za0 BK243)):gb244≠gb243));clear BK243;clear HB;have BK243:=n0_;have HB:=n1_;have BK244:=n2_;have GW244:=n3_;have GE244:=n4_;have NB243_244:=n5_;have NB244_243:=n6_;clear n0_ n1_ n2_ n3_ n4_ n5_ n6_;clear hb hbox hg)|((with_reducible refine qak (N:=4) rfl ?_);refine qai ?hg (N:=4) ?hd (cs:=#[.int .i64 0,.slice none 0 0]) (t:=39) ?hr ?_;(case hd=>rfl);(case hg=>rfl);(case hr=>first|(go_simp;done)|(go_simp;rfl));intro gb245 hg w42 hbox hb;have n0_:=qam.mk (qae (g:=gb243) (o:=.cells #[.int .i64 a0_0,.slice A0_1 l0_1.length c0_1] 39 (0,0)) (za0 BK243) hb);have n1_:=qam.mk (qae (g:=gb244) (o:=.cells #[.int .i64 a1_0,.int .i64 a1_1,.slice A1_2 l1_2.length c1_2] 62 (0,0)) (za0 BK244) hb);have n2_:=qam.mk (qad (za3 HB GE243 GE244) hb);have n3_:=qam.mk (hbox);have n4_:=qam.mk ((by rw[hg];exact(qac (za3 HB GE243 GE244)):w.heap.size≤gb245));have n5_:=qam.mk ((by rw[hg];exact(qac (za3 HB GE243 GE244)):w.heap.size≤gb245));have n6_:=qam.mk ((by rw[hg];exact Nat.ne_of_lt (qal (g:=gb243) (o:=.cells #[.int .i64 a0_0,.slice A0_1 l0_1.length c0_1] 39 (0,0)) (za0 BK243)):gb243≠gb245));have n7_:=qam.mk ((by rw[hg];exact Nat.ne_of_gt (qal (g:=gb243) (o:=.cells #[.int .i64 a0_0,.slice A0_1 l0_1.length c0_1] 39 (0,0)) (za0 BK243)):gb245≠gb243));have n8_:=qam.mk ((by rw[hg];exact Nat.ne_of_lt (qal (g:=gb244) (o:=.cells #[.int .i64 a1_0,.int .i64 a1_1,.slice A1_2 l1_2.length c1_2] 62 (0,0)) (za0 BK244)):gb244≠gb245));have n9_:=qam.mk ((by rw[hg];exact Nat.ne_of_gt (qal (g:=gb244) (o:=.cells #[.int .i64 a1_0,.int .i64 a1_1,.slice A1_2 l1_2.length c1_2] 62 (0,0)) (za0 BK244)):gb245≠gb244));clear BK243;clear BK244;clear HB;have BK243:=n0_;have BK244:=n1_;have HB:=n2_;have BK245:=n3_;have GW245:=n4_;have GE245:=n5_;have NB243_245:=n6_;have NB245_243:=n7_;have NB244_245:=n8_;have NB245_244:=n9_;clear n0_ n1_ n2_ n3_ n4_ n5_ n6_ n7_ n8_ n9_;clear hb hbox hg;have hnb43:=NB243_244.out;have hnc43:=NB244_243.out;have hnb44:=NB243_245.out;have hnc44:=NB245_243.out;have hcz45_0:w42.cell? ⟨gb243,0,none⟩=some (.int .i64 a0_0):=(qab BK243.out 0).trans rfl;have hcz45_1:w42.cell? ⟨gb243,1,none⟩=some (.slice A0_1 l0_1.length c0_1):=(qab BK243.out 1).trans rfl;have hfz45_0:=qaa BK243.out 0;have hfz45_1:=qaa BK243.out 1;have hnb46:=NB244_245.out;have hnc46:=NB245_244.out;have hcz47_0:w42.cell? ⟨gb244,0,none⟩=some (.int .i64 a1_0):=(qab BK244.out 0).trans rfl;have hcz47_1:w42.cell? ⟨gb244,1,none⟩=some (.int .i64 a1_1):=(qab BK244.out 1).trans rfl;have hcz47_2:w42.cell? ⟨gb244,2,none⟩=some (.slice A1_2 l1_2.length c1_2):=(qab BK244.out 2).trans rfl;have hfz47_0:=qaa BK244.out 0;have hfz47_1:=qaa BK244.out 1;have hfz47_2:=qaa BK244.out 2)|((with_reducible refine qaj (f:=54) rfl ?_);refine goesL_ (some 10) rfl rfl Try.func54 (by kernel_rfl) rfl #[.agg #[.int .i64 a0_0,.slice A0_1 l0_1.length c0_1],.agg #[.int .i64 a1_0,.int .i64 a1_1,.slice A1_2 l1_2.length c1_2]] rfl (by(try simp only[List.map_toArray,List.map_cons,List.map_nil]);first|done|rfl|(simp only[List.length_drop,List.length_take];rfl)) ?_;(with_reducible refine(impl_StockMay.calls k a0_0 _ _ l0_1 a1_0 a1_1 _ _ l1_2 true _ ?side1 ?side2 ?side3 ?side4 A3.out).mono ?_);(case side1=>repeat(first|exact(Kd.C_below HR0_1.out HB.out)|(with_reducible refine Kd.C_alloc ?_ _)|(with_reducible refine Kd.C_drewN ?_ _)|(with_reducible refine Kd.C_drew ?_)));(case side2=>exact HC0_1.out);(case side3=>repeat(first|exact(Kd.C_below HR1_2.out HB.out)|(with_reducible refine Kd.C_alloc ?_ _)|(with_reducible refine Kd.C_drewN ?_ _)|(with_reducible refine Kd.C_drew ?_)));(case side4=>exact HC1_2.out);rintro e w48 ⟨rfl,hb⟩;refine⟨_,rfl,?_⟩;have n0_:=qam.mk (qae (g:=gb243) (o:=.cells #[.int .i64 a0_0,.slice A0_1 l0_1.length c0_1] 39 (0,0)) (za0 BK243) hb);have n1_:=qam.mk (qae (g:=gb244) (o:=.cells #[.int .i64 a1_0,.int .i64 a1_1,.slice A1_2 l1_2.length c1_2] 62 (0,0)) (za0 BK244) hb);have n2_:=qam.mk (qae (g:=gb245) (o:=.cells #[.int .i64 0,.slice none 0 0] 39 (0,0)) (za0 BK245) hb);have n3_:=qam.mk (qad (za5 HB GE243 GE244 GE245) hb);clear BK243;clear BK244;clear BK245;clear HB;have BK243:=n0_;have BK244:=n1_;have BK245:=n2_;have HB:=n3_;clear n0_ n1_ n2_ n3_;(try clear hb);(try clear hb2);(try clear hk);(try clear hi)))
      have n0_:=qam.mk (qaf BK243.out)
      have n1_:=qam.mk (qaf BK244.out)
      have n2_:=qam.mk (qaf BK245.out)
      have n3_:=qam.mk (below_drew1 HB.out)
      clear BK243
      clear BK244
      clear BK245
      clear HB
      have BK243:=n0_
      have BK244:=n1_
      have BK245:=n2_
      have HB:=n3_
      clear n0_ n1_ n2_ n3_
      refine start_ (n:=8) (S:=fun w'=>w'.cell? ⟨gb243,0,none⟩=some (.int .i64 a0_0)∧w'.cell? ⟨gb243,1,none⟩=some (.slice A0_1 l0_1.length c0_1)) (ds:=[]) #[false,false,false,false,false,false,false,false] (by kernel_rfl) rfl rfl ⟨(qab BK243.out 0).trans rfl,(qab BK243.out 1).trans rfl⟩ (fun hHeld=>?_);refine with_tabW impl_StockDo.tab3 impl_StockDo.bits3 (fun HT_ HW_=>?_)
      generalize w48.drew=w49 at BK243 BK244 BK245 HB hHeld ⊢
      refine pure_ (i:=0) (N:=some 13) (v:=?_) (a':=?_) #[true,false,false,false,false,false,false,false] rfl rfl (qas HT_.out (by kernel_rfl)) (fun _ _ _ h=>h) (Or.inl ⟨by rfl,?_⟩) ?_ ?_
      rotate_left
      ·intro w'
       go_simp
       with_reducible rfl
      rotate_left
      ·simp only[Act.put,List.setIfInBounds_toArray,List.set_cons_zero,List.set_cons_succ,qao,qap]
       rfl
      refine pure_ (i:=2) (N:=some 15) (v:=?_) (a':=?_) #[true,false,true,false,false,false,false,false] rfl rfl (qas HT_.out (by kernel_rfl)) (fun _ _ _ h=>h) (Or.inl ⟨by rfl,?_⟩) ?_ ?_
      rotate_left
      ·intro w'
       go_simp
       with_reducible rfl
      rotate_left
      ·simp only[Act.put,List.setIfInBounds_toArray,List.set_cons_zero,List.set_cons_succ,qao,qap]
       rfl
      refine take_ (i:=1) (N:=some 14) (v:=?_) (a':=?_) #[true,true,true,false,false,false,false,false] rfl rfl (take_ofW HT_.out HW_.out (by kernel_rfl)) (fun _ _ _ h=>h) (Or.inl ⟨by rfl,?_⟩) hHeld ?_ ?_
      rotate_left
      ·rintro w' ⟨s0,s1⟩
       go_simp
       with_reducible rfl
      rotate_left
      ·simp only[Act.put,List.setIfInBounds_toArray,List.set_cons_zero,List.set_cons_succ,qao,qap]
       rfl
      refine take_ (i:=3) (N:=some 16) (v:=?_) (a':=?_) #[true,true,true,true,false,false,false,false] rfl rfl (take_ofW HT_.out HW_.out (by kernel_rfl)) (fun _ _ _ h=>h) (Or.inl ⟨by rfl,?_⟩) hHeld ?_ ?_
      rotate_left
      ·rintro w' ⟨s0,s1⟩
       go_simp
       with_reducible rfl
      rotate_left
      ·simp only[Act.put,List.setIfInBounds_toArray,List.set_cons_zero,List.set_cons_succ,qao,qap]
       rfl
      refine join_ (σ:=Value × Nat) 1 #[true,true,true,true,true,true,true,false] (fun s_=>[(17,s_.1),(6,.pointer (some ⟨s_.2,0,none⟩)),(18,.agg #[.int .i64 a0_0,s_.1])]) (fun s_ w'=>(w'.cell? ⟨gb243,0,none⟩=some (.int .i64 a0_0)∧w'.cell? ⟨gb243,1,none⟩=some (.slice A0_1 l0_1.length c0_1))∧(Kd.R k72 72 w' w.heap.size (fun _=>True) s_.1 t247)∧(w'.heap[gb243]?=some (.cells #[.int .i64 a0_0,.slice A0_1 l0_1.length c0_1] 39 (0,0)))∧(w'.heap[gb244]?=some (.cells #[.int .i64 a1_0,.int .i64 a1_1,.slice A1_2 l1_2.length c1_2] 62 (0,0)))∧(w'.heap[gb245]?=some (.cells #[.int .i64 0,.slice none 0 0] 39 (0,0)))∧(w'.heap[s_.2]?=some (.cells #[.int .i64 0,.slice none 0 0] 39 (0,0)))∧(w.heap.size≤s_.2)∧(w.heap.size≤s_.2)∧(gb243≠s_.2)∧(s_.2≠gb243)∧(gb244≠s_.2)∧(s_.2≠gb244)∧(gb245≠s_.2)∧(s_.2≠gb245)∧(Below w.heap.size w w')) ?_ ?_
      rotate_left
      ·intro hCont
       refine two_ (i:=4) (j:=6) (Ni:=some 17) (Nj:=some 6) #[true,true,true,true,true,false,false,false] #[true,true,true,true,false,false,true,false] rfl rfl rfl rfl (two_of HT_.out (by kernel_rfl)) (by decide) (by decide) (fun K hK=>?_) (fun K hK=>?_)
       ·skip
        refine goes_ Try.func55 (by kernel_rfl) rfl #[.slice A0_1 l0_1.length c0_1] (by rfl) rfl rfl (by(try simp only[List.map_toArray,List.map_cons,List.map_nil]);first|done|rfl|(simp only[List.length_drop,List.length_take];rfl)) ?_
        with_reducible refine(impl_Hold_55.calls _ _ l0_1 t247 _ ?side1 ?side2 A5.out).mono ?_
        (case side1=>repeat(first|exact(Kd.C_below HR0_1.out HB.out)|(with_reducible refine Kd.C_alloc ?_ _)|(with_reducible refine Kd.C_drewN ?_ _)|(with_reducible refine Kd.C_drew ?_)))
        (case side2=>exact HC0_1.out)
        rintro e w50 ⟨v248,rfl,ho0,hb⟩
        refine⟨_,rfl,?_⟩
        have n0_:=qam.mk (Kd.R_lower ho0 (qac (za5 HB GE243 GE244 GE245)))
        have n1_:=qam.mk (qae (g:=gb243) (o:=.cells #[.int .i64 a0_0,.slice A0_1 l0_1.length c0_1] 39 (0,0)) (za0 BK243) hb)
        have n2_:=qam.mk (qae (g:=gb244) (o:=.cells #[.int .i64 a1_0,.int .i64 a1_1,.slice A1_2 l1_2.length c1_2] 62 (0,0)) (za0 BK244) hb)
        have n3_:=qam.mk (qae (g:=gb245) (o:=.cells #[.int .i64 0,.slice none 0 0] 39 (0,0)) (za0 BK245) hb)
        have n4_:=qam.mk (qad (za5 HB GE243 GE244 GE245) hb)
        clear BK243
        clear BK244
        clear BK245
        clear HB
        have HO249:=n0_
        have BK243:=n1_
        have BK244:=n2_
        have BK245:=n3_
        have HB:=n4_
        clear n0_ n1_ n2_ n3_ n4_
        (try clear hb)
        (try clear hb2)
        (try clear hk)
        (try clear hi)
        (try clear ho0)
        obtain⟨Ao51,co51,eo51⟩:=Kd.R_slice HO249.out
        (first|subst eo51|(injection eo51 with f1_ f2_ f3_;have f4_:=f1_.symm;have f5_:=f3_.symm;clear f1_ f2_ f3_;subst f4_;subst f5_))
        refine hK.out _ _ ⟨(qab BK243.out 0).trans rfl,(qab BK243.out 1).trans rfl⟩ (fun hHeld=>?_)
        clear hK K
        refine norm_ (a':=?_) ?_ ?_
        rotate_left
        ·show Act.put _ (some 17) _=_
         simp only[Act.put,List.setIfInBounds_toArray,List.set_cons_zero,List.set_cons_succ,qao,qap]
         rfl
        refine pure_ (i:=5) (N:=some 18) (v:=?_) (a':=?_) #[true,true,true,true,true,true,false,false] rfl rfl (qas HT_.out (by kernel_rfl)) (fun _ _ _ h=>h) (Or.inl ⟨by rfl,?_⟩) ?_ ?_
        rotate_left
        ·intro w'
         go_simp
         with_reducible rfl
        rotate_left
        ·simp only[Act.put,List.setIfInBounds_toArray,List.set_cons_zero,List.set_cons_succ,qao,qap]
         rfl
        refine one_ (i:=6) (N:=some 6) #[true,true,true,true,true,true,true,false] rfl rfl (one_of HT_.out (by kernel_rfl)) (by decide) (fun K hK=>?_)
        refine box_step ?hg (N:=6) ?hd (cs:=#[.int .i64 0,.slice none 0 0]) (t:=39) ?hr ?_;(case hd=>rfl);(case hg=>rfl);(case hr=>first|(go_simp;done)|(go_simp;rfl))
        intro gb250 hg w52 hbox hb
        have n0_:=qam.mk (Kd.R_below (za9 HO249) hb)
        have n1_:=qam.mk (qae (g:=gb243) (o:=.cells #[.int .i64 a0_0,.slice A0_1 l0_1.length c0_1] 39 (0,0)) (za0 BK243) hb)
        have n2_:=qam.mk (qae (g:=gb244) (o:=.cells #[.int .i64 a1_0,.int .i64 a1_1,.slice A1_2 l1_2.length c1_2] 62 (0,0)) (za0 BK244) hb)
        have n3_:=qam.mk (qae (g:=gb245) (o:=.cells #[.int .i64 0,.slice none 0 0] 39 (0,0)) (za0 BK245) hb)
        have n4_:=qam.mk (qad (za5 HB GE243 GE244 GE245) hb)
        have n5_:=qam.mk (hbox)
        have n6_:=qam.mk ((by rw[hg];exact(qac (za5 HB GE243 GE244 GE245)):w.heap.size≤gb250))
        have n7_:=qam.mk ((by rw[hg];exact(qac (za5 HB GE243 GE244 GE245)):w.heap.size≤gb250))
        have n8_:=qam.mk ((by rw[hg];exact Nat.ne_of_lt (qal (g:=gb243) (o:=.cells #[.int .i64 a0_0,.slice A0_1 l0_1.length c0_1] 39 (0,0)) (za0 BK243)):gb243≠gb250))
        have n9_:=qam.mk ((by rw[hg];exact Nat.ne_of_gt (qal (g:=gb243) (o:=.cells #[.int .i64 a0_0,.slice A0_1 l0_1.length c0_1] 39 (0,0)) (za0 BK243)):gb250≠gb243))
        have n10_:=qam.mk ((by rw[hg];exact Nat.ne_of_lt (qal (g:=gb244) (o:=.cells #[.int .i64 a1_0,.int .i64 a1_1,.slice A1_2 l1_2.length c1_2] 62 (0,0)) (za0 BK244)):gb244≠gb250))
        have n11_:=qam.mk ((by rw[hg];exact Nat.ne_of_gt (qal (g:=gb244) (o:=.cells #[.int .i64 a1_0,.int .i64 a1_1,.slice A1_2 l1_2.length c1_2] 62 (0,0)) (za0 BK244)):gb250≠gb244))
        have n12_:=qam.mk ((by rw[hg];exact Nat.ne_of_lt (qal (g:=gb245) (o:=.cells #[.int .i64 0,.slice none 0 0] 39 (0,0)) (za0 BK245)):gb245≠gb250))
        have n13_:=qam.mk ((by rw[hg];exact Nat.ne_of_gt (qal (g:=gb245) (o:=.cells #[.int .i64 0,.slice none 0 0] 39 (0,0)) (za0 BK245)):gb250≠gb245))
        clear HO249
        clear BK243
        clear BK244
        clear BK245
        clear HB
        have HO249:=n0_
        have BK243:=n1_
        have BK244:=n2_
        have BK245:=n3_
        have HB:=n4_
        have BK250:=n5_
        have GW250:=n6_
        have GE250:=n7_
        have NB243_250:=n8_
        have NB250_243:=n9_
        have NB244_250:=n10_
        have NB250_244:=n11_
        have NB245_250:=n12_
        have NB250_245:=n13_
        clear n0_ n1_ n2_ n3_ n4_ n5_ n6_ n7_ n8_ n9_ n10_ n11_ n12_ n13_
        clear hb hbox hg
        refine hK.out _ _ ⟨(qab BK243.out 0).trans rfl,(qab BK243.out 1).trans rfl⟩ (fun hHeld=>?_)
        clear hK K
        refine norm_ (a':=?_) ?_ ?_
        rotate_left
        ·show Act.put _ (some 6) _=_
         simp only[Act.put,List.setIfInBounds_toArray,List.set_cons_zero,List.set_cons_succ,qao,qap]
         rfl
        exact norm_ (by simp only[putAll,Act.put,List.setIfInBounds_toArray,List.set_cons_zero,List.set_cons_succ]) (hCont (.slice Ao51 t247.length co51,gb250) _ ⟨hHeld,(za9 HO249),(za0 BK243),(za0 BK244),(za0 BK245),(za0 BK250),GW250.out,GE250.out,NB243_250.out,NB250_243.out,NB244_250.out,NB250_244.out,NB245_250.out,NB250_245.out,(za7 HB GE243 GE244 GE245 GE250)⟩)
       ·skip
        refine box_step ?hg (N:=6) ?hd (cs:=#[.int .i64 0,.slice none 0 0]) (t:=39) ?hr ?_;(case hd=>rfl);(case hg=>rfl);(case hr=>first|(go_simp;done)|(go_simp;rfl))
        intro gb250 hg w50 hbox hb
        have n0_:=qam.mk (qae (g:=gb243) (o:=.cells #[.int .i64 a0_0,.slice A0_1 l0_1.length c0_1] 39 (0,0)) (za0 BK243) hb)
        have n1_:=qam.mk (qae (g:=gb244) (o:=.cells #[.int .i64 a1_0,.int .i64 a1_1,.slice A1_2 l1_2.length c1_2] 62 (0,0)) (za0 BK244) hb)
        have n2_:=qam.mk (qae (g:=gb245) (o:=.cells #[.int .i64 0,.slice none 0 0] 39 (0,0)) (za0 BK245) hb)
        have n3_:=qam.mk (qad (za5 HB GE243 GE244 GE245) hb)
        have n4_:=qam.mk (hbox)
        have n5_:=qam.mk ((by rw[hg];exact(qac (za5 HB GE243 GE244 GE245)):w.heap.size≤gb250))
        have n6_:=qam.mk ((by rw[hg];exact(qac (za5 HB GE243 GE244 GE245)):w.heap.size≤gb250))
        have n7_:=qam.mk ((by rw[hg];exact Nat.ne_of_lt (qal (g:=gb243) (o:=.cells #[.int .i64 a0_0,.slice A0_1 l0_1.length c0_1] 39 (0,0)) (za0 BK243)):gb243≠gb250))
        have n8_:=qam.mk ((by rw[hg];exact Nat.ne_of_gt (qal (g:=gb243) (o:=.cells #[.int .i64 a0_0,.slice A0_1 l0_1.length c0_1] 39 (0,0)) (za0 BK243)):gb250≠gb243))
        have n9_:=qam.mk ((by rw[hg];exact Nat.ne_of_lt (qal (g:=gb244) (o:=.cells #[.int .i64 a1_0,.int .i64 a1_1,.slice A1_2 l1_2.length c1_2] 62 (0,0)) (za0 BK244)):gb244≠gb250))
        have n10_:=qam.mk ((by rw[hg];exact Nat.ne_of_gt (qal (g:=gb244) (o:=.cells #[.int .i64 a1_0,.int .i64 a1_1,.slice A1_2 l1_2.length c1_2] 62 (0,0)) (za0 BK244)):gb250≠gb244))
        have n11_:=qam.mk ((by rw[hg];exact Nat.ne_of_lt (qal (g:=gb245) (o:=.cells #[.int .i64 0,.slice none 0 0] 39 (0,0)) (za0 BK245)):gb245≠gb250))
        have n12_:=qam.mk ((by rw[hg];exact Nat.ne_of_gt (qal (g:=gb245) (o:=.cells #[.int .i64 0,.slice none 0 0] 39 (0,0)) (za0 BK245)):gb250≠gb245))
        clear BK243
        clear BK244
        clear BK245
        clear HB
        have BK243:=n0_
        have BK244:=n1_
        have BK245:=n2_
        have HB:=n3_
        have BK250:=n4_
        have GW250:=n5_
        have GE250:=n6_
        have NB243_250:=n7_
        have NB250_243:=n8_
        have NB244_250:=n9_
        have NB250_244:=n10_
        have NB245_250:=n11_
        have NB250_245:=n12_
        clear n0_ n1_ n2_ n3_ n4_ n5_ n6_ n7_ n8_ n9_ n10_ n11_ n12_
        clear hb hbox hg
        refine hK.out _ _ ⟨(qab BK243.out 0).trans rfl,(qab BK243.out 1).trans rfl⟩ (fun hHeld=>?_)
        clear hK K
        refine norm_ (a':=?_) ?_ ?_
        rotate_left
        ·show Act.put _ (some 6) _=_
         simp only[Act.put,List.setIfInBounds_toArray,List.set_cons_zero,List.set_cons_succ,qao,qap]
         rfl
        refine one_ (i:=4) (N:=some 17) #[true,true,true,true,true,false,true,false] rfl rfl (one_of HT_.out (by kernel_rfl)) (by decide) (fun K hK=>?_)
        refine goes_ Try.func55 (by kernel_rfl) rfl #[.slice A0_1 l0_1.length c0_1] (by rfl) rfl rfl (by(try simp only[List.map_toArray,List.map_cons,List.map_nil]);first|done|rfl|(simp only[List.length_drop,List.length_take];rfl)) ?_
        with_reducible refine(impl_Hold_55.calls _ _ l0_1 t247 _ ?side1 ?side2 A5.out).mono ?_
        (case side1=>repeat(first|exact(Kd.C_below HR0_1.out HB.out)|(with_reducible refine Kd.C_alloc ?_ _)|(with_reducible refine Kd.C_drewN ?_ _)|(with_reducible refine Kd.C_drew ?_)))
        (case side2=>exact HC0_1.out)
        rintro e w51 ⟨v248,rfl,ho0,hb⟩
        refine⟨_,rfl,?_⟩
        have n0_:=qam.mk (Kd.R_lower ho0 (qac (za7 HB GE243 GE244 GE245 GE250)))
        have n1_:=qam.mk (qae (g:=gb243) (o:=.cells #[.int .i64 a0_0,.slice A0_1 l0_1.length c0_1] 39 (0,0)) (za0 BK243) hb)
        have n2_:=qam.mk (qae (g:=gb244) (o:=.cells #[.int .i64 a1_0,.int .i64 a1_1,.slice A1_2 l1_2.length c1_2] 62 (0,0)) (za0 BK244) hb)
        have n3_:=qam.mk (qae (g:=gb245) (o:=.cells #[.int .i64 0,.slice none 0 0] 39 (0,0)) (za0 BK245) hb)
        have n4_:=qam.mk (qae (g:=gb250) (o:=.cells #[.int .i64 0,.slice none 0 0] 39 (0,0)) (za0 BK250) hb)
        have n5_:=qam.mk (qad (za7 HB GE243 GE244 GE245 GE250) hb)
        clear BK243
        clear BK244
        clear BK245
        clear BK250
        clear HB
        have HO249:=n0_
        have BK243:=n1_
        have BK244:=n2_
        have BK245:=n3_
        have BK250:=n4_
        have HB:=n5_
        clear n0_ n1_ n2_ n3_ n4_ n5_
        (try clear hb)
        (try clear hb2)
        (try clear hk)
        (try clear hi)
        (try clear ho0)
        obtain⟨Ao52,co52,eo52⟩:=Kd.R_slice HO249.out
        (first|subst eo52|(injection eo52 with f1_ f2_ f3_;have f4_:=f1_.symm;have f5_:=f3_.symm;clear f1_ f2_ f3_;subst f4_;subst f5_))
        refine hK.out _ _ ⟨(qab BK243.out 0).trans rfl,(qab BK243.out 1).trans rfl⟩ (fun hHeld=>?_)
        clear hK K
        refine norm_ (a':=?_) ?_ ?_
        rotate_left
        ·show Act.put _ (some 17) _=_
         simp only[Act.put,List.setIfInBounds_toArray,List.set_cons_zero,List.set_cons_succ,qao,qap]
         rfl
        refine pure_ (i:=5) (N:=some 18) (v:=?_) (a':=?_) #[true,true,true,true,true,true,true,false] rfl rfl (qas HT_.out (by kernel_rfl)) (fun _ _ _ h=>h) (Or.inl ⟨by rfl,?_⟩) ?_ ?_
        rotate_left
        ·intro w'
         go_simp
         with_reducible rfl
        rotate_left
        ·simp only[Act.put,List.setIfInBounds_toArray,List.set_cons_zero,List.set_cons_succ,qao,qap]
         rfl
        exact norm_ (by simp only[putAll,Act.put,List.setIfInBounds_toArray,List.set_cons_zero,List.set_cons_succ]) (hCont (.slice Ao52 t247.length co52,gb250) _ ⟨hHeld,(za9 HO249),(za0 BK243),(za0 BK244),(za0 BK245),(za0 BK250),GW250.out,GE250.out,NB243_250.out,NB250_243.out,NB244_250.out,NB250_244.out,NB245_250.out,NB250_245.out,(za7 HB GE243 GE244 GE245 GE250)⟩)
      rintro⟨v248,gb250⟩ w53 ⟨hS_,h0_,h1_,h2_,h3_,h4_,h5_,h6_,h7_,h8_,h9_,h10_,h11_,h12_,h13_⟩
      have n0_:qam (Kd.R k72 72 w53 w.heap.size (fun _=>True) v248 t247):=⟨h0_⟩
      have n1_:qam (w53.heap[gb243]?=some (.cells #[.int .i64 a0_0,.slice A0_1 l0_1.length c0_1] 39 (0,0))):=⟨h1_⟩
      have n2_:qam (w53.heap[gb244]?=some (.cells #[.int .i64 a1_0,.int .i64 a1_1,.slice A1_2 l1_2.length c1_2] 62 (0,0))):=⟨h2_⟩
      have n3_:qam (w53.heap[gb245]?=some (.cells #[.int .i64 0,.slice none 0 0] 39 (0,0))):=⟨h3_⟩
      have n4_:qam (w53.heap[gb250]?=some (.cells #[.int .i64 0,.slice none 0 0] 39 (0,0))):=⟨h4_⟩
      have n5_:qam (w.heap.size≤gb250):=⟨h5_⟩
      have n6_:qam (w.heap.size≤gb250):=⟨h6_⟩
      have n7_:qam (gb243≠gb250):=⟨h7_⟩
      have n8_:qam (gb250≠gb243):=⟨h8_⟩
      have n9_:qam (gb244≠gb250):=⟨h9_⟩
      have n10_:qam (gb250≠gb244):=⟨h10_⟩
      have n11_:qam (gb245≠gb250):=⟨h11_⟩
      have n12_:qam (gb250≠gb245):=⟨h12_⟩
      have n13_:qam (Below w.heap.size w w53):=⟨h13_⟩
      clear BK243
      clear BK244
      clear BK245
      clear HB
      clear h0_ h1_ h2_ h3_ h4_ h5_ h6_ h7_ h8_ h9_ h10_ h11_ h12_ h13_
      have HO249:=n0_
      have BK243:=n1_
      have BK244:=n2_
      have BK245:=n3_
      have BK250:=n4_
      have GW250:=n5_
      have GE250:=n6_
      have NB243_250:=n7_
      have NB250_243:=n8_
      have NB244_250:=n9_
      have NB250_244:=n10_
      have NB245_250:=n11_
      have NB250_245:=n12_
      have HB:=n13_
      clear n0_ n1_ n2_ n3_ n4_ n5_ n6_ n7_ n8_ n9_ n10_ n11_ n12_ n13_
      have hHeld:w53.cell? ⟨gb243,0,none⟩=some (.int .i64 a0_0)∧w53.cell? ⟨gb243,1,none⟩=some (.slice A0_1 l0_1.length c0_1):=hS_
      obtain⟨Ao54,co54,eo54⟩:=Kd.R_slice HO249.out
      (first|subst eo54|(injection eo54 with f1_ f2_ f3_;have f4_:=f1_.symm;have f5_:=f3_.symm;clear f1_ f2_ f3_;subst f4_;subst f5_))
      refine norm_ (a':=?_) ?_ ?_
      rotate_left
      ·simp only[putAll,Act.put,List.setIfInBounds_toArray,List.set_cons_zero,List.set_cons_succ]
       rfl
      refine one_ (i:=7) (N:=none) #[true,true,true,true,true,true,true,true] rfl rfl (one_of HT_.out (by kernel_rfl)) (by decide) (fun K hK=>?_)
      have hs55:w53.cell? ⟨gb250,0,none⟩=some (.int .i64 0):=(qab BK250.out 0).trans rfl
      have hfs55:=qaa BK250.out 0
      have hns55_0:=NB243_250.out
      have hns55_1:=NB244_250.out
      have hns55_2:=NB245_250.out
      have hms55_0:=NB250_243.out
      have hms55_1:=NB250_244.out
      have hms55_2:=NB250_245.out
      have hs56:w53.cell? ⟨gb250,1,none⟩=some (.slice none 0 0):=(qab BK250.out 1).trans rfl
      have hfs56:=qaa BK250.out 1
      have hns56_0:=NB243_250.out
      have hns56_1:=NB244_250.out
      have hns56_2:=NB245_250.out
      have hms56_0:=NB250_243.out
      have hms56_1:=NB250_244.out
      have hms56_2:=NB250_245.out
      refine skip_ (w1:=?_) (by rfl) rfl ?_ ?_
      rotate_left
      ·go_simp
       rfl
      refine hK.out _ _ ⟨((cell_far (p:=⟨gb250,_,none⟩) NB243_250.out _).trans (((cell_far (p:=⟨gb250,_,none⟩) NB243_250.out _).trans (hHeld.1)))),((cell_far (p:=⟨gb250,_,none⟩) NB243_250.out _).trans (((cell_far (p:=⟨gb250,_,none⟩) NB243_250.out _).trans (hHeld.2))))⟩ (fun hHeld=>?_)
      clear hK K
      refine done_ (done_of HT_.out (by kernel_rfl)) ?_
      have n0_:qam (Kd.R k72 72 ((w53.setCell ⟨gb250,0,none⟩ (.int .i64 a0_0)).setCell ⟨gb250,1,none⟩ (.slice Ao54 t247.length co54)) w.heap.size (fun _=>True) (.slice Ao54 t247.length co54) t247):=⟨by(with_reducible repeat(first|apply Kd.R_alloc|apply Kd.R_drewN|apply Kd.R_drew));exact Kd.R_mono (Kd.R_far (p:=⟨gb250,1,none⟩) (Kd.R_far (p:=⟨gb250,0,none⟩) (Kd.R_types HO249.out BK250.out (by decide)) (fun _ hk=>hk.2) (.int .i64 a0_0)) (fun _ hk=>hk.2) (.slice Ao54 t247.length co54)) (fun _ hk=>trivial)⟩
      have n1_:qam (((w53.setCell ⟨gb250,0,none⟩ (.int .i64 a0_0)).setCell ⟨gb250,1,none⟩ (.slice Ao54 t247.length co54)).heap[gb243]?=some (.cells #[.int .i64 a0_0,.slice A0_1 l0_1.length c0_1] 39 (0,0))):=⟨za4 NB243_250 BK243⟩
      have n2_:qam (((w53.setCell ⟨gb250,0,none⟩ (.int .i64 a0_0)).setCell ⟨gb250,1,none⟩ (.slice Ao54 t247.length co54)).heap[gb244]?=some (.cells #[.int .i64 a1_0,.int .i64 a1_1,.slice A1_2 l1_2.length c1_2] 62 (0,0))):=⟨za4 NB244_250 BK244⟩
      have n3_:qam (((w53.setCell ⟨gb250,0,none⟩ (.int .i64 a0_0)).setCell ⟨gb250,1,none⟩ (.slice Ao54 t247.length co54)).heap[gb245]?=some (.cells #[.int .i64 0,.slice none 0 0] 39 (0,0))):=⟨za4 NB245_250 BK245⟩
      have n4_:qam (((w53.setCell ⟨gb250,0,none⟩ (.int .i64 a0_0)).setCell ⟨gb250,1,none⟩ (.slice Ao54 t247.length co54)).heap[gb250]?=some (.cells #[.int .i64 a0_0,.slice Ao54 t247.length co54] 39 (0,0))):=⟨by(with_reducible repeat(first|refine qah ?_ _|refine qaf ?_|refine qag ?_ _));refine qan (cs:=#[.int .i64 a0_0,.slice none 0 0]) ?_ 1 _ rfl;(with_reducible repeat(first|refine qah ?_ _|refine qaf ?_|refine qag ?_ _));refine qan (cs:=#[.int .i64 0,.slice none 0 0]) ?_ 0 _ rfl;(with_reducible repeat(first|refine qah ?_ _|refine qaf ?_|refine qag ?_ _));exact BK250.out⟩
      have n5_:qam (Below w.heap.size w ((w53.setCell ⟨gb250,0,none⟩ (.int .i64 a0_0)).setCell ⟨gb250,1,none⟩ (.slice Ao54 t247.length co54))):=⟨za7 HB GE243 GE244 GE245 GE250⟩
      (try clear HO249)
      (try clear BK243)
      (try clear BK244)
      (try clear BK245)
      (try clear BK250)
      (try clear HB)
      generalize ((w53.setCell ⟨gb250,0,none⟩ (.int .i64 a0_0)).setCell ⟨gb250,1,none⟩ (.slice Ao54 t247.length co54))=w57 at n0_ n1_ n2_ n3_ n4_ n5_ ⊢
      have HO249:=n0_
      have BK243:=n1_
      have BK244:=n2_
      have BK245:=n3_
      have BK250:=n4_
      have HB:=n5_
      clear n0_ n1_ n2_ n3_ n4_ n5_
      have hnb58:=NB250_243.out
      have hnc58:=NB243_250.out
      have hnb59:=NB250_244.out
      have hnc59:=NB244_250.out
      have hnb60:=NB250_245.out
      have hnc60:=NB245_250.out
      have hcz61_0:w57.cell? ⟨gb250,0,none⟩=some (.int .i64 a0_0):=(qab BK250.out 0).trans rfl
      have hcz61_1:w57.cell? ⟨gb250,1,none⟩=some (.slice Ao54 t247.length co54):=(qab BK250.out 1).trans rfl
      have hfz61_0:=qaa BK250.out 0
      have hfz61_1:=qaa BK250.out 1
      have hcz62_0:w57.cell? ⟨gb244,0,none⟩=some (.int .i64 a1_0):=(qab BK244.out 0).trans rfl
      have hcz62_1:w57.cell? ⟨gb244,1,none⟩=some (.int .i64 a1_1):=(qab BK244.out 1).trans rfl
      have hcz62_2:w57.cell? ⟨gb244,2,none⟩=some (.slice A1_2 l1_2.length c1_2):=(qab BK244.out 2).trans rfl
      have hfz62_0:=qaa BK244.out 0
      have hfz62_1:=qaa BK244.out 1
      have hfz62_2:=qaa BK244.out 2
      have p9:0≤((ji6):Int):=of_decide_eq_true (za6)
      have q9:((ji6):Int)<((t247.length:Int):Int):=of_decide_eq_true (za6)
      obtain⟨go9,co9,eo9,gb9,gl9,cl9,HG9⟩:=Kd.R_form HO249.out (by omega)
      (first|cases eo9|(injection eo9 with ea_ en_ ec_;(first|subst ea_|(injection ea_ with ea_;subst ea_));subst ec_;clear en_))
      have GB9:=qam.mk gb9
      have GG9:=qam.mk HG9
      clear gb9 gl9 HG9
      obtain⟨ce9,hcl9,hM9,hcc9,hfr9⟩:=Kd.R_elem HO249.out z72 ((ji6):Int) p9 q9
      obtain rfl:=k72_openM hM9
      have hx9_0:w57.cell? ⟨go9,((ji6):Int).toNat*2,none⟩=some (.int .i64 ((rd_T72 t247 (ji6)).f0)):=hcc9 0 _ rfl
      have hx9_1:w57.cell? ⟨go9,((ji6):Int).toNat*2+1,none⟩=some (.int .i64 ((rd_T72 t247 (ji6)).f1)):=hcc9 1 _ rfl
      have hf9_0:w57.frozen? ⟨go9,((ji6):Int).toNat*2,none⟩=false:=hfr9 0
      have hf9_1:w57.frozen? ⟨go9,((ji6):Int).toNat*2+1,none⟩=false:=hfr9 1
      clear hcl9 hcc9 hfr9 hM9
      replace p9:=eq_true p9
      replace q9:=eq_true q9
      have HX63:=qam.mk (show Kd.R k72 72 w57 w.heap.size (fun _=>True) (.slice (some ⟨go9,0,none⟩) t247.length co54) t247 from(za9 HO249))
      obtain⟨ce63,hcl63,hM63,hcc63,hfr63⟩:=Kd.R_elem HX63.out z72 ((ji6):Int) (of_decide_eq_true (za6)) (by have h_:((ji6):Int)<((t247.length:Int):Int):=of_decide_eq_true (za6);first|exact h_|(have e_:=(Kd.R_reads' HO249.out).1;omega)|simpa using h_)
      obtain rfl:=k72_openM hM63
      have HP63:=Kd.R_seg HX63.out ((ji6):Int) (of_decide_eq_true (za6)) (by have h_:((ji6):Int)<((t247.length:Int):Int):=of_decide_eq_true (za6);first|exact h_|(have e_:=(Kd.R_reads' HO249.out).1;omega)|simpa using h_) (seg:=[.int .i64 2]) (j:=1) hcl63 hcc63 (show 2≤2 from by decide) (x':=(⟨(rd_T72 t247 (ji6)).f0,2⟩:S72)) (k72_mkM _ _ _ (⟨(rd_T72 t247 (ji6)).f0,2⟩:S72) ) (fun _ hk=>hk)
      have hx63_1:=hcc63 1 _ rfl
      (try simp only[show(k72).sz=2 from rfl,Nat.mul_one,Nat.add_zero] at hx63_1)
      have hf63_1:=hfr63 1
      (try simp only[show(k72).sz=2 from rfl,Nat.mul_one,Nat.add_zero] at hf63_1)
      clear hcl63 hcc63 hfr63 hM63
      try go_wp2_with(first|((with_reducible refine gate_store (t:=3) (p:=40) rfl ?_);refine store_event (t:=3) (p:=40) (v:=?vo_w64) (w1:=(w57.setCell ⟨go9,((ji6):Int).toNat*2+1,none⟩ (.int .i64 2))) ?hg ?ho ?hn ?hr ?_;(case ho=>rfl);(case hg=>rfl);(case hn=>rfl);(case hr=>first|(go_simp;done)|(go_simp;rfl));intro w64 hw;have hg:w57.grownBy w64 (some go9):=(by rw[hw];exact HP63.2);have hp_:Kd.R k72 72 w64 w.heap.size (fun _=>True) (.slice (some ⟨go9,0,none⟩) t247.length co54) y253:=(by rw[hw,Ny253.out];exact HP63.1);clear HP63;have n0_:=qam.mk (blk_grown (g:=gb243) (o:=.cells #[.int .i64 a0_0,.slice A0_1 l0_1.length c0_1] 39 (0,0)) (za0 BK243) hg (Kd.R_ne HO249.out BK243.out (by decide)));have n1_:=qam.mk (blk_grown (g:=gb244) (o:=.cells #[.int .i64 a1_0,.int .i64 a1_1,.slice A1_2 l1_2.length c1_2] 62 (0,0)) (za0 BK244) hg (Kd.R_ne HO249.out BK244.out (by decide)));have n2_:=qam.mk (blk_grown (g:=gb245) (o:=.cells #[.int .i64 0,.slice none 0 0] 39 (0,0)) (za0 BK245) hg (Kd.R_ne HO249.out BK245.out (by decide)));have n3_:=qam.mk (hp_);have n4_:=qam.mk (blk_grown (g:=gb250) (o:=.cells #[.int .i64 a0_0,.slice (some ⟨go9,0,none⟩) t247.length co54] 39 (0,0)) (za0 BK250) hg (Kd.R_ne HO249.out BK250.out (by decide)));have n5_:=qam.mk ((by rw[hw];exact below_set (HB.out) GB9.out:Below w.heap.size w w64));clear BK243;clear BK244;clear BK245;clear HO249;clear BK250;clear HB;have BK243:=n0_;have BK244:=n1_;have BK245:=n2_;have HO249:=n3_;have BK250:=n4_;have HB:=n5_;clear n0_ n1_ n2_ n3_ n4_ n5_;clear hg hw hp_;have hcz65_0:w64.cell? ⟨gb250,0,none⟩=some (.int .i64 a0_0):=(qab BK250.out 0).trans rfl;have hcz65_1:w64.cell? ⟨gb250,1,none⟩=some (.slice (some ⟨go9,0,none⟩) t247.length co54):=(qab BK250.out 1).trans rfl;have hfz65_0:=qaa BK250.out 0;have hfz65_1:=qaa BK250.out 1;have hcz66_0:w64.cell? ⟨gb245,0,none⟩=some (.int .i64 0):=(qab BK245.out 0).trans rfl;have hcz66_1:w64.cell? ⟨gb245,1,none⟩=some (.slice none 0 0):=(qab BK245.out 1).trans rfl;have hfz66_0:=qaa BK245.out 0;have hfz66_1:=qaa BK245.out 1))
      refine bodyPost_ret (results_ct rfl _ _ gb245 39 #[.int .i64 a0_0,.slice (some ⟨go9,0,none⟩) t247.length co54] (0,0) _ rfl (by(with_reducible repeat(first|refine qah ?_ _|refine qaf ?_|refine qag ?_ _));refine qan (cs:=#[.int .i64 a0_0,.slice none 0 0]) ?_ 1 _ rfl;(with_reducible repeat(first|refine qah ?_ _|refine qaf ?_|refine qag ?_ _));refine qan (cs:=#[.int .i64 0,.slice none 0 0]) ?_ 0 _ rfl;(with_reducible repeat(first|refine qah ?_ _|refine qaf ?_|refine qag ?_ _));exact BK245.out) Try.underlying39 rfl (by kernel_rfl)) rfl ?_
      exact⟨_,by first|rfl|(simp[qaq,qar]<;>rfl)|(simp only[←hji6];first|rfl|(simp[qaq,qar]<;>rfl))|(simp[*,qaq,qar]<;>rfl),by(with_reducible repeat(first|apply Kd.R_alloc|apply Kd.R_drewN|apply Kd.R_drew));exact Kd.R_mono (Kd.R_far (p:=⟨gb245,1,none⟩) (Kd.R_far (p:=⟨gb245,0,none⟩) (Kd.R_types HO249.out BK245.out (by decide)) (fun _ hk=>hk.2) (.int .i64 a0_0)) (fun _ hk=>hk.2) (.slice (some ⟨go9,0,none⟩) t247.length co54)) (fun _ hk=>trivial),za7 HB GE243 GE244 GE245 GE250⟩
     ·rw[if_neg c39] at H
      have c39b0:(a1_0 == 2)=false:=beq_eq_false_iff_ne.mpr c39
      have c39b1:(a1_0 != 2)=true:=bne_iff_ne.mpr c39
      by_cases c67:a1_0=3
      ·rw[if_pos c67] at H
       have c67b0:(a1_0 == 3)=true:=beq_iff_eq.mpr c67
       have c67b1:(a1_0 != 3)=false:=bne_eq_false_iff_eq.mpr c67
       clear c67
       obtain⟨y254,hy254⟩:∃y_:List (S72),y_=(t247.set ((ji6):Int).toNat (⟨(rd_T72 t247 (ji6)).f0,3⟩:S72)):=⟨_,rfl⟩
       replace H:(some (a0_0,y254,true))=some (r1,r2,r3):=by first|(rw[hy254];with_reducible exact H)|(have H2_:=(Option.bind_some _ _).symm.trans H;rw[hy254];with_reducible exact H2_)|(have H2_:=(Option.bind_some _ _).symm.trans H;with_reducible exact H2_)|with_reducible exact H|(rw[hy254];exact H)|exact H
       have Ny254:=qam.mk hy254
       clear hy254
       simp only[Option.some.injEq,Prod.mk.injEq] at H
       obtain⟨rfl,rfl,rfl⟩:=H
       go_enter Try.func42,Try.ntmps42
       try go_wp2_with(first|((with_reducible refine qak (N:=2) rfl ?_);refine qai ?hg (N:=2) ?hd (cs:=#[.int .i64 a0_0,.slice A0_1 l0_1.length c0_1]) (t:=39) ?hr ?_;(case hd=>rfl);(case hg=>rfl);(case hr=>first|(go_simp;done)|(go_simp;rfl));intro gb243 hg w68 hbox hb;have n0_:=qam.mk (qad (za2 HB) hb);have n1_:=qam.mk (hbox);have n2_:=qam.mk ((by rw[hg];exact(qac (za2 HB)):w.heap.size≤gb243));have n3_:=qam.mk ((by rw[hg];exact(qac (za2 HB)):w.heap.size≤gb243));clear HB;have HB:=n0_;have BK243:=n1_;have GW243:=n2_;have GE243:=n3_;clear n0_ n1_ n2_ n3_;clear hb hbox hg)|((with_reducible refine qak (N:=3) rfl ?_);refine qai ?hg (N:=3) ?hd (cs:=#[.int .i64 a1_0,.int .i64 a1_1,.slice A1_2 l1_2.length c1_2]) (t:=62) ?hr ?_;(case hd=>rfl);(case hg=>rfl);(case hr=>first|(go_simp;done)|(go_simp;rfl));intro gb244 hg w69 hbox hb;have n0_:=qam.mk (qae (g:=gb243) (o:=.cells #[.int .i64 a0_0,.slice A0_1 l0_1.length c0_1] 39 (0,0)) (za0 BK243) hb);have n1_:=qam.mk (qad (za1 HB GE243) hb);have n2_:=qam.mk (hbox);have n3_:=qam.mk ((by rw[hg];exact(qac (za1 HB GE243)):w.heap.size≤gb244));have n4_:=qam.mk ((by rw[hg];exact(qac (za1 HB GE243)):w.heap.size≤gb244));have n5_:=qam.mk ((by rw[hg];exact Nat.ne_of_lt (qal (g:=gb243) (o:=.cells #[.int .i64 a0_0,.slice A0_1 l0_1.length c0_1] 39 (0,0)) (za0 BK243)):gb243≠gb244));have n6_:=qam.mk ((by rw[hg];exact Nat.ne_of_gt (qal (g:=gb243) (o:=.cells #[.int .i64 a0_0,.slice A0_1 l0_1.length c0_1] 39 (0,0)) (za0 BK243)):gb244≠gb243));clear BK243;clear HB;have BK243:=n0_;have HB:=n1_;have BK244:=n2_;have GW244:=n3_;have GE244:=n4_;have NB243_244:=n5_;have NB244_243:=n6_;clear n0_ n1_ n2_ n3_ n4_ n5_ n6_;clear hb hbox hg)|((with_reducible refine qak (N:=4) rfl ?_);refine qai ?hg (N:=4) ?hd (cs:=#[.int .i64 0,.slice none 0 0]) (t:=39) ?hr ?_;(case hd=>rfl);(case hg=>rfl);(case hr=>first|(go_simp;done)|(go_simp;rfl));intro gb245 hg w70 hbox hb;have n0_:=qam.mk (qae (g:=gb243) (o:=.cells #[.int .i64 a0_0,.slice A0_1 l0_1.length c0_1] 39 (0,0)) (za0 BK243) hb);have n1_:=qam.mk (qae (g:=gb244) (o:=.cells #[.int .i64 a1_0,.int .i64 a1_1,.slice A1_2 l1_2.length c1_2] 62 (0,0)) (za0 BK244) hb);have n2_:=qam.mk (qad (za3 HB GE243 GE244) hb);have n3_:=qam.mk (hbox);have n4_:=qam.mk ((by rw[hg];exact(qac (za3 HB GE243 GE244)):w.heap.size≤gb245));have n5_:=qam.mk ((by rw[hg];exact(qac (za3 HB GE243 GE244)):w.heap.size≤gb245));have n6_:=qam.mk ((by rw[hg];exact Nat.ne_of_lt (qal (g:=gb243) (o:=.cells #[.int .i64 a0_0,.slice A0_1 l0_1.length c0_1] 39 (0,0)) (za0 BK243)):gb243≠gb245));have n7_:=qam.mk ((by rw[hg];exact Nat.ne_of_gt (qal (g:=gb243) (o:=.cells #[.int .i64 a0_0,.slice A0_1 l0_1.length c0_1] 39 (0,0)) (za0 BK243)):gb245≠gb243));have n8_:=qam.mk ((by rw[hg];exact Nat.ne_of_lt (qal (g:=gb244) (o:=.cells #[.int .i64 a1_0,.int .i64 a1_1,.slice A1_2 l1_2.length c1_2] 62 (0,0)) (za0 BK244)):gb244≠gb245));have n9_:=qam.mk ((by rw[hg];exact Nat.ne_of_gt (qal (g:=gb244) (o:=.cells #[.int .i64 a1_0,.int .i64 a1_1,.slice A1_2 l1_2.length c1_2] 62 (0,0)) (za0 BK244)):gb245≠gb244));clear BK243;clear BK244;clear HB;have BK243:=n0_;have BK244:=n1_;have HB:=n2_;have BK245:=n3_;have GW245:=n4_;have GE245:=n5_;have NB243_245:=n6_;have NB245_243:=n7_;have NB244_245:=n8_;have NB245_244:=n9_;clear n0_ n1_ n2_ n3_ n4_ n5_ n6_ n7_ n8_ n9_;clear hb hbox hg;have hnb71:=NB243_244.out;have hnc71:=NB244_243.out;have hnb72:=NB243_245.out;have hnc72:=NB245_243.out;have hcz73_0:w70.cell? ⟨gb243,0,none⟩=some (.int .i64 a0_0):=(qab BK243.out 0).trans rfl;have hcz73_1:w70.cell? ⟨gb243,1,none⟩=some (.slice A0_1 l0_1.length c0_1):=(qab BK243.out 1).trans rfl;have hfz73_0:=qaa BK243.out 0;have hfz73_1:=qaa BK243.out 1;have hnb74:=NB244_245.out;have hnc74:=NB245_244.out;have hcz75_0:w70.cell? ⟨gb244,0,none⟩=some (.int .i64 a1_0):=(qab BK244.out 0).trans rfl;have hcz75_1:w70.cell? ⟨gb244,1,none⟩=some (.int .i64 a1_1):=(qab BK244.out 1).trans rfl;have hcz75_2:w70.cell? ⟨gb244,2,none⟩=some (.slice A1_2 l1_2.length c1_2):=(qab BK244.out 2).trans rfl;have hfz75_0:=qaa BK244.out 0;have hfz75_1:=qaa BK244.out 1;have hfz75_2:=qaa BK244.out 2)|((with_reducible refine qaj (f:=54) rfl ?_);refine goesL_ (some 10) rfl rfl Try.func54 (by kernel_rfl) rfl #[.agg #[.int .i64 a0_0,.slice A0_1 l0_1.length c0_1],.agg #[.int .i64 a1_0,.int .i64 a1_1,.slice A1_2 l1_2.length c1_2]] rfl (by(try simp only[List.map_toArray,List.map_cons,List.map_nil]);first|done|rfl|(simp only[List.length_drop,List.length_take];rfl)) ?_;(with_reducible refine(impl_StockMay.calls k a0_0 _ _ l0_1 a1_0 a1_1 _ _ l1_2 true _ ?side1 ?side2 ?side3 ?side4 A3.out).mono ?_);(case side1=>repeat(first|exact(Kd.C_below HR0_1.out HB.out)|(with_reducible refine Kd.C_alloc ?_ _)|(with_reducible refine Kd.C_drewN ?_ _)|(with_reducible refine Kd.C_drew ?_)));(case side2=>exact HC0_1.out);(case side3=>repeat(first|exact(Kd.C_below HR1_2.out HB.out)|(with_reducible refine Kd.C_alloc ?_ _)|(with_reducible refine Kd.C_drewN ?_ _)|(with_reducible refine Kd.C_drew ?_)));(case side4=>exact HC1_2.out);rintro e w76 ⟨rfl,hb⟩;refine⟨_,rfl,?_⟩;have n0_:=qam.mk (qae (g:=gb243) (o:=.cells #[.int .i64 a0_0,.slice A0_1 l0_1.length c0_1] 39 (0,0)) (za0 BK243) hb);have n1_:=qam.mk (qae (g:=gb244) (o:=.cells #[.int .i64 a1_0,.int .i64 a1_1,.slice A1_2 l1_2.length c1_2] 62 (0,0)) (za0 BK244) hb);have n2_:=qam.mk (qae (g:=gb245) (o:=.cells #[.int .i64 0,.slice none 0 0] 39 (0,0)) (za0 BK245) hb);have n3_:=qam.mk (qad (za5 HB GE243 GE244 GE245) hb);clear BK243;clear BK244;clear BK245;clear HB;have BK243:=n0_;have BK244:=n1_;have BK245:=n2_;have HB:=n3_;clear n0_ n1_ n2_ n3_;(try clear hb);(try clear hb2);(try clear hk);(try clear hi)))
       have n0_:=qam.mk (qaf BK243.out)
       have n1_:=qam.mk (qaf BK244.out)
       have n2_:=qam.mk (qaf BK245.out)
       have n3_:=qam.mk (below_drew1 HB.out)
       clear BK243
       clear BK244
       clear BK245
       clear HB
       have BK243:=n0_
       have BK244:=n1_
       have BK245:=n2_
       have HB:=n3_
       clear n0_ n1_ n2_ n3_
       refine start_ (n:=8) (S:=fun w'=>w'.cell? ⟨gb243,0,none⟩=some (.int .i64 a0_0)∧w'.cell? ⟨gb243,1,none⟩=some (.slice A0_1 l0_1.length c0_1)) (ds:=[]) #[false,false,false,false,false,false,false,false] (by kernel_rfl) rfl rfl ⟨(qab BK243.out 0).trans rfl,(qab BK243.out 1).trans rfl⟩ (fun hHeld=>?_);refine with_tabW impl_StockDo.tab3 impl_StockDo.bits3 (fun HT_ HW_=>?_)
       generalize w76.drew=w77 at BK243 BK244 BK245 HB hHeld ⊢
       refine pure_ (i:=0) (N:=some 13) (v:=?_) (a':=?_) #[true,false,false,false,false,false,false,false] rfl rfl (qas HT_.out (by kernel_rfl)) (fun _ _ _ h=>h) (Or.inl ⟨by rfl,?_⟩) ?_ ?_
       rotate_left
       ·intro w'
        go_simp
        with_reducible rfl
       rotate_left
       ·simp only[Act.put,List.setIfInBounds_toArray,List.set_cons_zero,List.set_cons_succ,qao,qap]
        rfl
       refine pure_ (i:=2) (N:=some 15) (v:=?_) (a':=?_) #[true,false,true,false,false,false,false,false] rfl rfl (qas HT_.out (by kernel_rfl)) (fun _ _ _ h=>h) (Or.inl ⟨by rfl,?_⟩) ?_ ?_
       rotate_left
       ·intro w'
        go_simp
        with_reducible rfl
       rotate_left
       ·simp only[Act.put,List.setIfInBounds_toArray,List.set_cons_zero,List.set_cons_succ,qao,qap]
        rfl
       refine take_ (i:=1) (N:=some 14) (v:=?_) (a':=?_) #[true,true,true,false,false,false,false,false] rfl rfl (take_ofW HT_.out HW_.out (by kernel_rfl)) (fun _ _ _ h=>h) (Or.inl ⟨by rfl,?_⟩) hHeld ?_ ?_
       rotate_left
       ·rintro w' ⟨s0,s1⟩
        go_simp
        with_reducible rfl
       rotate_left
       ·simp only[Act.put,List.setIfInBounds_toArray,List.set_cons_zero,List.set_cons_succ,qao,qap]
        rfl
       refine take_ (i:=3) (N:=some 16) (v:=?_) (a':=?_) #[true,true,true,true,false,false,false,false] rfl rfl (take_ofW HT_.out HW_.out (by kernel_rfl)) (fun _ _ _ h=>h) (Or.inl ⟨by rfl,?_⟩) hHeld ?_ ?_
       rotate_left
       ·rintro w' ⟨s0,s1⟩
        go_simp
        with_reducible rfl
       rotate_left
       ·simp only[Act.put,List.setIfInBounds_toArray,List.set_cons_zero,List.set_cons_succ,qao,qap]
        rfl
       refine join_ (σ:=Value × Nat) 1 #[true,true,true,true,true,true,true,false] (fun s_=>[(17,s_.1),(6,.pointer (some ⟨s_.2,0,none⟩)),(18,.agg #[.int .i64 a0_0,s_.1])]) (fun s_ w'=>(w'.cell? ⟨gb243,0,none⟩=some (.int .i64 a0_0)∧w'.cell? ⟨gb243,1,none⟩=some (.slice A0_1 l0_1.length c0_1))∧(Kd.R k72 72 w' w.heap.size (fun _=>True) s_.1 t247)∧(w'.heap[gb243]?=some (.cells #[.int .i64 a0_0,.slice A0_1 l0_1.length c0_1] 39 (0,0)))∧(w'.heap[gb244]?=some (.cells #[.int .i64 a1_0,.int .i64 a1_1,.slice A1_2 l1_2.length c1_2] 62 (0,0)))∧(w'.heap[gb245]?=some (.cells #[.int .i64 0,.slice none 0 0] 39 (0,0)))∧(w'.heap[s_.2]?=some (.cells #[.int .i64 0,.slice none 0 0] 39 (0,0)))∧(w.heap.size≤s_.2)∧(w.heap.size≤s_.2)∧(gb243≠s_.2)∧(s_.2≠gb243)∧(gb244≠s_.2)∧(s_.2≠gb244)∧(gb245≠s_.2)∧(s_.2≠gb245)∧(Below w.heap.size w w')) ?_ ?_
       rotate_left
       ·intro hCont
        refine two_ (i:=4) (j:=6) (Ni:=some 17) (Nj:=some 6) #[true,true,true,true,true,false,false,false] #[true,true,true,true,false,false,true,false] rfl rfl rfl rfl (two_of HT_.out (by kernel_rfl)) (by decide) (by decide) (fun K hK=>?_) (fun K hK=>?_)
        ·skip
         refine goes_ Try.func55 (by kernel_rfl) rfl #[.slice A0_1 l0_1.length c0_1] (by rfl) rfl rfl (by(try simp only[List.map_toArray,List.map_cons,List.map_nil]);first|done|rfl|(simp only[List.length_drop,List.length_take];rfl)) ?_
         with_reducible refine(impl_Hold_55.calls _ _ l0_1 t247 _ ?side1 ?side2 A5.out).mono ?_
         (case side1=>repeat(first|exact(Kd.C_below HR0_1.out HB.out)|(with_reducible refine Kd.C_alloc ?_ _)|(with_reducible refine Kd.C_drewN ?_ _)|(with_reducible refine Kd.C_drew ?_)))
         (case side2=>exact HC0_1.out)
         rintro e w78 ⟨v248,rfl,ho0,hb⟩
         refine⟨_,rfl,?_⟩
         have n0_:=qam.mk (Kd.R_lower ho0 (qac (za5 HB GE243 GE244 GE245)))
         have n1_:=qam.mk (qae (g:=gb243) (o:=.cells #[.int .i64 a0_0,.slice A0_1 l0_1.length c0_1] 39 (0,0)) (za0 BK243) hb)
         have n2_:=qam.mk (qae (g:=gb244) (o:=.cells #[.int .i64 a1_0,.int .i64 a1_1,.slice A1_2 l1_2.length c1_2] 62 (0,0)) (za0 BK244) hb)
         have n3_:=qam.mk (qae (g:=gb245) (o:=.cells #[.int .i64 0,.slice none 0 0] 39 (0,0)) (za0 BK245) hb)
         have n4_:=qam.mk (qad (za5 HB GE243 GE244 GE245) hb)
         clear BK243
         clear BK244
         clear BK245
         clear HB
         have HO249:=n0_
         have BK243:=n1_
         have BK244:=n2_
         have BK245:=n3_
         have HB:=n4_
         clear n0_ n1_ n2_ n3_ n4_
         (try clear hb)
         (try clear hb2)
         (try clear hk)
         (try clear hi)
         (try clear ho0)
         obtain⟨Ao79,co79,eo79⟩:=Kd.R_slice HO249.out
         (first|subst eo79|(injection eo79 with f1_ f2_ f3_;have f4_:=f1_.symm;have f5_:=f3_.symm;clear f1_ f2_ f3_;subst f4_;subst f5_))
         refine hK.out _ _ ⟨(qab BK243.out 0).trans rfl,(qab BK243.out 1).trans rfl⟩ (fun hHeld=>?_)
         clear hK K
         refine norm_ (a':=?_) ?_ ?_
         rotate_left
         ·show Act.put _ (some 17) _=_
          simp only[Act.put,List.setIfInBounds_toArray,List.set_cons_zero,List.set_cons_succ,qao,qap]
          rfl
         refine pure_ (i:=5) (N:=some 18) (v:=?_) (a':=?_) #[true,true,true,true,true,true,false,false] rfl rfl (qas HT_.out (by kernel_rfl)) (fun _ _ _ h=>h) (Or.inl ⟨by rfl,?_⟩) ?_ ?_
         rotate_left
         ·intro w'
          go_simp
          with_reducible rfl
         rotate_left
         ·simp only[Act.put,List.setIfInBounds_toArray,List.set_cons_zero,List.set_cons_succ,qao,qap]
          rfl
         refine one_ (i:=6) (N:=some 6) #[true,true,true,true,true,true,true,false] rfl rfl (one_of HT_.out (by kernel_rfl)) (by decide) (fun K hK=>?_)
         refine box_step ?hg (N:=6) ?hd (cs:=#[.int .i64 0,.slice none 0 0]) (t:=39) ?hr ?_;(case hd=>rfl);(case hg=>rfl);(case hr=>first|(go_simp;done)|(go_simp;rfl))
         intro gb250 hg w80 hbox hb
         have n0_:=qam.mk (Kd.R_below (za9 HO249) hb)
         have n1_:=qam.mk (qae (g:=gb243) (o:=.cells #[.int .i64 a0_0,.slice A0_1 l0_1.length c0_1] 39 (0,0)) (za0 BK243) hb)
         have n2_:=qam.mk (qae (g:=gb244) (o:=.cells #[.int .i64 a1_0,.int .i64 a1_1,.slice A1_2 l1_2.length c1_2] 62 (0,0)) (za0 BK244) hb)
         have n3_:=qam.mk (qae (g:=gb245) (o:=.cells #[.int .i64 0,.slice none 0 0] 39 (0,0)) (za0 BK245) hb)
         have n4_:=qam.mk (qad (za5 HB GE243 GE244 GE245) hb)
         have n5_:=qam.mk (hbox)
         have n6_:=qam.mk ((by rw[hg];exact(qac (za5 HB GE243 GE244 GE245)):w.heap.size≤gb250))
         have n7_:=qam.mk ((by rw[hg];exact(qac (za5 HB GE243 GE244 GE245)):w.heap.size≤gb250))
         have n8_:=qam.mk ((by rw[hg];exact Nat.ne_of_lt (qal (g:=gb243) (o:=.cells #[.int .i64 a0_0,.slice A0_1 l0_1.length c0_1] 39 (0,0)) (za0 BK243)):gb243≠gb250))
         have n9_:=qam.mk ((by rw[hg];exact Nat.ne_of_gt (qal (g:=gb243) (o:=.cells #[.int .i64 a0_0,.slice A0_1 l0_1.length c0_1] 39 (0,0)) (za0 BK243)):gb250≠gb243))
         have n10_:=qam.mk ((by rw[hg];exact Nat.ne_of_lt (qal (g:=gb244) (o:=.cells #[.int .i64 a1_0,.int .i64 a1_1,.slice A1_2 l1_2.length c1_2] 62 (0,0)) (za0 BK244)):gb244≠gb250))
         have n11_:=qam.mk ((by rw[hg];exact Nat.ne_of_gt (qal (g:=gb244) (o:=.cells #[.int .i64 a1_0,.int .i64 a1_1,.slice A1_2 l1_2.length c1_2] 62 (0,0)) (za0 BK244)):gb250≠gb244))
         have n12_:=qam.mk ((by rw[hg];exact Nat.ne_of_lt (qal (g:=gb245) (o:=.cells #[.int .i64 0,.slice none 0 0] 39 (0,0)) (za0 BK245)):gb245≠gb250))
         have n13_:=qam.mk ((by rw[hg];exact Nat.ne_of_gt (qal (g:=gb245) (o:=.cells #[.int .i64 0,.slice none 0 0] 39 (0,0)) (za0 BK245)):gb250≠gb245))
         clear HO249
         clear BK243
         clear BK244
         clear BK245
         clear HB
         have HO249:=n0_
         have BK243:=n1_
         have BK244:=n2_
         have BK245:=n3_
         have HB:=n4_
         have BK250:=n5_
         have GW250:=n6_
         have GE250:=n7_
         have NB243_250:=n8_
         have NB250_243:=n9_
         have NB244_250:=n10_
         have NB250_244:=n11_
         have NB245_250:=n12_
         have NB250_245:=n13_
         clear n0_ n1_ n2_ n3_ n4_ n5_ n6_ n7_ n8_ n9_ n10_ n11_ n12_ n13_
         clear hb hbox hg
         refine hK.out _ _ ⟨(qab BK243.out 0).trans rfl,(qab BK243.out 1).trans rfl⟩ (fun hHeld=>?_)
         clear hK K
         refine norm_ (a':=?_) ?_ ?_
         rotate_left
         ·show Act.put _ (some 6) _=_
          simp only[Act.put,List.setIfInBounds_toArray,List.set_cons_zero,List.set_cons_succ,qao,qap]
          rfl
         exact norm_ (by simp only[putAll,Act.put,List.setIfInBounds_toArray,List.set_cons_zero,List.set_cons_succ]) (hCont (.slice Ao79 t247.length co79,gb250) _ ⟨hHeld,(za9 HO249),(za0 BK243),(za0 BK244),(za0 BK245),(za0 BK250),GW250.out,GE250.out,NB243_250.out,NB250_243.out,NB244_250.out,NB250_244.out,NB245_250.out,NB250_245.out,(za7 HB GE243 GE244 GE245 GE250)⟩)
        ·skip
         refine box_step ?hg (N:=6) ?hd (cs:=#[.int .i64 0,.slice none 0 0]) (t:=39) ?hr ?_;(case hd=>rfl);(case hg=>rfl);(case hr=>first|(go_simp;done)|(go_simp;rfl))
         intro gb250 hg w78 hbox hb
         have n0_:=qam.mk (qae (g:=gb243) (o:=.cells #[.int .i64 a0_0,.slice A0_1 l0_1.length c0_1] 39 (0,0)) (za0 BK243) hb)
         have n1_:=qam.mk (qae (g:=gb244) (o:=.cells #[.int .i64 a1_0,.int .i64 a1_1,.slice A1_2 l1_2.length c1_2] 62 (0,0)) (za0 BK244) hb)
         have n2_:=qam.mk (qae (g:=gb245) (o:=.cells #[.int .i64 0,.slice none 0 0] 39 (0,0)) (za0 BK245) hb)
         have n3_:=qam.mk (qad (za5 HB GE243 GE244 GE245) hb)
         have n4_:=qam.mk (hbox)
         have n5_:=qam.mk ((by rw[hg];exact(qac (za5 HB GE243 GE244 GE245)):w.heap.size≤gb250))
         have n6_:=qam.mk ((by rw[hg];exact(qac (za5 HB GE243 GE244 GE245)):w.heap.size≤gb250))
         have n7_:=qam.mk ((by rw[hg];exact Nat.ne_of_lt (qal (g:=gb243) (o:=.cells #[.int .i64 a0_0,.slice A0_1 l0_1.length c0_1] 39 (0,0)) (za0 BK243)):gb243≠gb250))
         have n8_:=qam.mk ((by rw[hg];exact Nat.ne_of_gt (qal (g:=gb243) (o:=.cells #[.int .i64 a0_0,.slice A0_1 l0_1.length c0_1] 39 (0,0)) (za0 BK243)):gb250≠gb243))
         have n9_:=qam.mk ((by rw[hg];exact Nat.ne_of_lt (qal (g:=gb244) (o:=.cells #[.int .i64 a1_0,.int .i64 a1_1,.slice A1_2 l1_2.length c1_2] 62 (0,0)) (za0 BK244)):gb244≠gb250))
         have n10_:=qam.mk ((by rw[hg];exact Nat.ne_of_gt (qal (g:=gb244) (o:=.cells #[.int .i64 a1_0,.int .i64 a1_1,.slice A1_2 l1_2.length c1_2] 62 (0,0)) (za0 BK244)):gb250≠gb244))
         have n11_:=qam.mk ((by rw[hg];exact Nat.ne_of_lt (qal (g:=gb245) (o:=.cells #[.int .i64 0,.slice none 0 0] 39 (0,0)) (za0 BK245)):gb245≠gb250))
         have n12_:=qam.mk ((by rw[hg];exact Nat.ne_of_gt (qal (g:=gb245) (o:=.cells #[.int .i64 0,.slice none 0 0] 39 (0,0)) (za0 BK245)):gb250≠gb245))
         clear BK243
         clear BK244
         clear BK245
         clear HB
         have BK243:=n0_
         have BK244:=n1_
         have BK245:=n2_
         have HB:=n3_
         have BK250:=n4_
         have GW250:=n5_
         have GE250:=n6_
         have NB243_250:=n7_
         have NB250_243:=n8_
         have NB244_250:=n9_
         have NB250_244:=n10_
         have NB245_250:=n11_
         have NB250_245:=n12_
         clear n0_ n1_ n2_ n3_ n4_ n5_ n6_ n7_ n8_ n9_ n10_ n11_ n12_
         clear hb hbox hg
         refine hK.out _ _ ⟨(qab BK243.out 0).trans rfl,(qab BK243.out 1).trans rfl⟩ (fun hHeld=>?_)
         clear hK K
         refine norm_ (a':=?_) ?_ ?_
         rotate_left
         ·show Act.put _ (some 6) _=_
          simp only[Act.put,List.setIfInBounds_toArray,List.set_cons_zero,List.set_cons_succ,qao,qap]
          rfl
         refine one_ (i:=4) (N:=some 17) #[true,true,true,true,true,false,true,false] rfl rfl (one_of HT_.out (by kernel_rfl)) (by decide) (fun K hK=>?_)
         refine goes_ Try.func55 (by kernel_rfl) rfl #[.slice A0_1 l0_1.length c0_1] (by rfl) rfl rfl (by(try simp only[List.map_toArray,List.map_cons,List.map_nil]);first|done|rfl|(simp only[List.length_drop,List.length_take];rfl)) ?_
         with_reducible refine(impl_Hold_55.calls _ _ l0_1 t247 _ ?side1 ?side2 A5.out).mono ?_
         (case side1=>repeat(first|exact(Kd.C_below HR0_1.out HB.out)|(with_reducible refine Kd.C_alloc ?_ _)|(with_reducible refine Kd.C_drewN ?_ _)|(with_reducible refine Kd.C_drew ?_)))
         (case side2=>exact HC0_1.out)
         rintro e w79 ⟨v248,rfl,ho0,hb⟩
         refine⟨_,rfl,?_⟩
         have n0_:=qam.mk (Kd.R_lower ho0 (qac (za7 HB GE243 GE244 GE245 GE250)))
         have n1_:=qam.mk (qae (g:=gb243) (o:=.cells #[.int .i64 a0_0,.slice A0_1 l0_1.length c0_1] 39 (0,0)) (za0 BK243) hb)
         have n2_:=qam.mk (qae (g:=gb244) (o:=.cells #[.int .i64 a1_0,.int .i64 a1_1,.slice A1_2 l1_2.length c1_2] 62 (0,0)) (za0 BK244) hb)
         have n3_:=qam.mk (qae (g:=gb245) (o:=.cells #[.int .i64 0,.slice none 0 0] 39 (0,0)) (za0 BK245) hb)
         have n4_:=qam.mk (qae (g:=gb250) (o:=.cells #[.int .i64 0,.slice none 0 0] 39 (0,0)) (za0 BK250) hb)
         have n5_:=qam.mk (qad (za7 HB GE243 GE244 GE245 GE250) hb)
         clear BK243
         clear BK244
         clear BK245
         clear BK250
         clear HB
         have HO249:=n0_
         have BK243:=n1_
         have BK244:=n2_
         have BK245:=n3_
         have BK250:=n4_
         have HB:=n5_
         clear n0_ n1_ n2_ n3_ n4_ n5_
         (try clear hb)
         (try clear hb2)
         (try clear hk)
         (try clear hi)
         (try clear ho0)
         obtain⟨Ao80,co80,eo80⟩:=Kd.R_slice HO249.out
         (first|subst eo80|(injection eo80 with f1_ f2_ f3_;have f4_:=f1_.symm;have f5_:=f3_.symm;clear f1_ f2_ f3_;subst f4_;subst f5_))
         refine hK.out _ _ ⟨(qab BK243.out 0).trans rfl,(qab BK243.out 1).trans rfl⟩ (fun hHeld=>?_)
         clear hK K
         refine norm_ (a':=?_) ?_ ?_
         rotate_left
         ·show Act.put _ (some 17) _=_
          simp only[Act.put,List.setIfInBounds_toArray,List.set_cons_zero,List.set_cons_succ,qao,qap]
          rfl
         refine pure_ (i:=5) (N:=some 18) (v:=?_) (a':=?_) #[true,true,true,true,true,true,true,false] rfl rfl (qas HT_.out (by kernel_rfl)) (fun _ _ _ h=>h) (Or.inl ⟨by rfl,?_⟩) ?_ ?_
         rotate_left
         ·intro w'
          go_simp
          with_reducible rfl
         rotate_left
         ·simp only[Act.put,List.setIfInBounds_toArray,List.set_cons_zero,List.set_cons_succ,qao,qap]
          rfl
         exact norm_ (by simp only[putAll,Act.put,List.setIfInBounds_toArray,List.set_cons_zero,List.set_cons_succ]) (hCont (.slice Ao80 t247.length co80,gb250) _ ⟨hHeld,(za9 HO249),(za0 BK243),(za0 BK244),(za0 BK245),(za0 BK250),GW250.out,GE250.out,NB243_250.out,NB250_243.out,NB244_250.out,NB250_244.out,NB245_250.out,NB250_245.out,(za7 HB GE243 GE244 GE245 GE250)⟩)
       rintro⟨v248,gb250⟩ w81 ⟨hS_,h0_,h1_,h2_,h3_,h4_,h5_,h6_,h7_,h8_,h9_,h10_,h11_,h12_,h13_⟩
       have n0_:qam (Kd.R k72 72 w81 w.heap.size (fun _=>True) v248 t247):=⟨h0_⟩
       have n1_:qam (w81.heap[gb243]?=some (.cells #[.int .i64 a0_0,.slice A0_1 l0_1.length c0_1] 39 (0,0))):=⟨h1_⟩
       have n2_:qam (w81.heap[gb244]?=some (.cells #[.int .i64 a1_0,.int .i64 a1_1,.slice A1_2 l1_2.length c1_2] 62 (0,0))):=⟨h2_⟩
       have n3_:qam (w81.heap[gb245]?=some (.cells #[.int .i64 0,.slice none 0 0] 39 (0,0))):=⟨h3_⟩
       have n4_:qam (w81.heap[gb250]?=some (.cells #[.int .i64 0,.slice none 0 0] 39 (0,0))):=⟨h4_⟩
       have n5_:qam (w.heap.size≤gb250):=⟨h5_⟩
       have n6_:qam (w.heap.size≤gb250):=⟨h6_⟩
       have n7_:qam (gb243≠gb250):=⟨h7_⟩
       have n8_:qam (gb250≠gb243):=⟨h8_⟩
       have n9_:qam (gb244≠gb250):=⟨h9_⟩
       have n10_:qam (gb250≠gb244):=⟨h10_⟩
       have n11_:qam (gb245≠gb250):=⟨h11_⟩
       have n12_:qam (gb250≠gb245):=⟨h12_⟩
       have n13_:qam (Below w.heap.size w w81):=⟨h13_⟩
       clear BK243
       clear BK244
       clear BK245
       clear HB
       clear h0_ h1_ h2_ h3_ h4_ h5_ h6_ h7_ h8_ h9_ h10_ h11_ h12_ h13_
       have HO249:=n0_
       have BK243:=n1_
       have BK244:=n2_
       have BK245:=n3_
       have BK250:=n4_
       have GW250:=n5_
       have GE250:=n6_
       have NB243_250:=n7_
       have NB250_243:=n8_
       have NB244_250:=n9_
       have NB250_244:=n10_
       have NB245_250:=n11_
       have NB250_245:=n12_
       have HB:=n13_
       clear n0_ n1_ n2_ n3_ n4_ n5_ n6_ n7_ n8_ n9_ n10_ n11_ n12_ n13_
       have hHeld:w81.cell? ⟨gb243,0,none⟩=some (.int .i64 a0_0)∧w81.cell? ⟨gb243,1,none⟩=some (.slice A0_1 l0_1.length c0_1):=hS_
       obtain⟨Ao82,co82,eo82⟩:=Kd.R_slice HO249.out
       (first|subst eo82|(injection eo82 with f1_ f2_ f3_;have f4_:=f1_.symm;have f5_:=f3_.symm;clear f1_ f2_ f3_;subst f4_;subst f5_))
       refine norm_ (a':=?_) ?_ ?_
       rotate_left
       ·simp only[putAll,Act.put,List.setIfInBounds_toArray,List.set_cons_zero,List.set_cons_succ]
        rfl
       refine one_ (i:=7) (N:=none) #[true,true,true,true,true,true,true,true] rfl rfl (one_of HT_.out (by kernel_rfl)) (by decide) (fun K hK=>?_)
       have hs83:w81.cell? ⟨gb250,0,none⟩=some (.int .i64 0):=(qab BK250.out 0).trans rfl
       have hfs83:=qaa BK250.out 0
       have hns83_0:=NB243_250.out
       have hns83_1:=NB244_250.out
       have hns83_2:=NB245_250.out
       have hms83_0:=NB250_243.out
       have hms83_1:=NB250_244.out
       have hms83_2:=NB250_245.out
       have hs84:w81.cell? ⟨gb250,1,none⟩=some (.slice none 0 0):=(qab BK250.out 1).trans rfl
       have hfs84:=qaa BK250.out 1
       have hns84_0:=NB243_250.out
       have hns84_1:=NB244_250.out
       have hns84_2:=NB245_250.out
       have hms84_0:=NB250_243.out
       have hms84_1:=NB250_244.out
       have hms84_2:=NB250_245.out
       refine skip_ (w1:=?_) (by rfl) rfl ?_ ?_
       rotate_left
       ·go_simp
        rfl
       refine hK.out _ _ ⟨((cell_far (p:=⟨gb250,_,none⟩) NB243_250.out _).trans (((cell_far (p:=⟨gb250,_,none⟩) NB243_250.out _).trans (hHeld.1)))),((cell_far (p:=⟨gb250,_,none⟩) NB243_250.out _).trans (((cell_far (p:=⟨gb250,_,none⟩) NB243_250.out _).trans (hHeld.2))))⟩ (fun hHeld=>?_)
       clear hK K
       refine done_ (done_of HT_.out (by kernel_rfl)) ?_
       have n0_:qam (Kd.R k72 72 ((w81.setCell ⟨gb250,0,none⟩ (.int .i64 a0_0)).setCell ⟨gb250,1,none⟩ (.slice Ao82 t247.length co82)) w.heap.size (fun _=>True) (.slice Ao82 t247.length co82) t247):=⟨by(with_reducible repeat(first|apply Kd.R_alloc|apply Kd.R_drewN|apply Kd.R_drew));exact Kd.R_mono (Kd.R_far (p:=⟨gb250,1,none⟩) (Kd.R_far (p:=⟨gb250,0,none⟩) (Kd.R_types HO249.out BK250.out (by decide)) (fun _ hk=>hk.2) (.int .i64 a0_0)) (fun _ hk=>hk.2) (.slice Ao82 t247.length co82)) (fun _ hk=>trivial)⟩
       have n1_:qam (((w81.setCell ⟨gb250,0,none⟩ (.int .i64 a0_0)).setCell ⟨gb250,1,none⟩ (.slice Ao82 t247.length co82)).heap[gb243]?=some (.cells #[.int .i64 a0_0,.slice A0_1 l0_1.length c0_1] 39 (0,0))):=⟨za4 NB243_250 BK243⟩
       have n2_:qam (((w81.setCell ⟨gb250,0,none⟩ (.int .i64 a0_0)).setCell ⟨gb250,1,none⟩ (.slice Ao82 t247.length co82)).heap[gb244]?=some (.cells #[.int .i64 a1_0,.int .i64 a1_1,.slice A1_2 l1_2.length c1_2] 62 (0,0))):=⟨za4 NB244_250 BK244⟩
       have n3_:qam (((w81.setCell ⟨gb250,0,none⟩ (.int .i64 a0_0)).setCell ⟨gb250,1,none⟩ (.slice Ao82 t247.length co82)).heap[gb245]?=some (.cells #[.int .i64 0,.slice none 0 0] 39 (0,0))):=⟨za4 NB245_250 BK245⟩
       have n4_:qam (((w81.setCell ⟨gb250,0,none⟩ (.int .i64 a0_0)).setCell ⟨gb250,1,none⟩ (.slice Ao82 t247.length co82)).heap[gb250]?=some (.cells #[.int .i64 a0_0,.slice Ao82 t247.length co82] 39 (0,0))):=⟨by(with_reducible repeat(first|refine qah ?_ _|refine qaf ?_|refine qag ?_ _));refine qan (cs:=#[.int .i64 a0_0,.slice none 0 0]) ?_ 1 _ rfl;(with_reducible repeat(first|refine qah ?_ _|refine qaf ?_|refine qag ?_ _));refine qan (cs:=#[.int .i64 0,.slice none 0 0]) ?_ 0 _ rfl;(with_reducible repeat(first|refine qah ?_ _|refine qaf ?_|refine qag ?_ _));exact BK250.out⟩
       have n5_:qam (Below w.heap.size w ((w81.setCell ⟨gb250,0,none⟩ (.int .i64 a0_0)).setCell ⟨gb250,1,none⟩ (.slice Ao82 t247.length co82))):=⟨za7 HB GE243 GE244 GE245 GE250⟩
       (try clear HO249)
       (try clear BK243)
       (try clear BK244)
       (try clear BK245)
       (try clear BK250)
       (try clear HB)
       generalize ((w81.setCell ⟨gb250,0,none⟩ (.int .i64 a0_0)).setCell ⟨gb250,1,none⟩ (.slice Ao82 t247.length co82))=w85 at n0_ n1_ n2_ n3_ n4_ n5_ ⊢
       have HO249:=n0_
       have BK243:=n1_
       have BK244:=n2_
       have BK245:=n3_
       have BK250:=n4_
       have HB:=n5_
       clear n0_ n1_ n2_ n3_ n4_ n5_
       have hnb86:=NB250_243.out
       have hnc86:=NB243_250.out
       have hnb87:=NB250_244.out
       have hnc87:=NB244_250.out
       have hnb88:=NB250_245.out
       have hnc88:=NB245_250.out
       have hcz89_0:w85.cell? ⟨gb250,0,none⟩=some (.int .i64 a0_0):=(qab BK250.out 0).trans rfl
       have hcz89_1:w85.cell? ⟨gb250,1,none⟩=some (.slice Ao82 t247.length co82):=(qab BK250.out 1).trans rfl
       have hfz89_0:=qaa BK250.out 0
       have hfz89_1:=qaa BK250.out 1
       have hcz90_0:w85.cell? ⟨gb244,0,none⟩=some (.int .i64 a1_0):=(qab BK244.out 0).trans rfl
       have hcz90_1:w85.cell? ⟨gb244,1,none⟩=some (.int .i64 a1_1):=(qab BK244.out 1).trans rfl
       have hcz90_2:w85.cell? ⟨gb244,2,none⟩=some (.slice A1_2 l1_2.length c1_2):=(qab BK244.out 2).trans rfl
       have hfz90_0:=qaa BK244.out 0
       have hfz90_1:=qaa BK244.out 1
       have hfz90_2:=qaa BK244.out 2
       have p9:0≤((ji6):Int):=of_decide_eq_true (za6)
       have q9:((ji6):Int)<((t247.length:Int):Int):=of_decide_eq_true (za6)
       obtain⟨go9,co9,eo9,gb9,gl9,cl9,HG9⟩:=Kd.R_form HO249.out (by omega)
       (first|cases eo9|(injection eo9 with ea_ en_ ec_;(first|subst ea_|(injection ea_ with ea_;subst ea_));subst ec_;clear en_))
       have GB9:=qam.mk gb9
       have GG9:=qam.mk HG9
       clear gb9 gl9 HG9
       obtain⟨ce9,hcl9,hM9,hcc9,hfr9⟩:=Kd.R_elem HO249.out z72 ((ji6):Int) p9 q9
       obtain rfl:=k72_openM hM9
       have hx9_0:w85.cell? ⟨go9,((ji6):Int).toNat*2,none⟩=some (.int .i64 ((rd_T72 t247 (ji6)).f0)):=hcc9 0 _ rfl
       have hx9_1:w85.cell? ⟨go9,((ji6):Int).toNat*2+1,none⟩=some (.int .i64 ((rd_T72 t247 (ji6)).f1)):=hcc9 1 _ rfl
       have hf9_0:w85.frozen? ⟨go9,((ji6):Int).toNat*2,none⟩=false:=hfr9 0
       have hf9_1:w85.frozen? ⟨go9,((ji6):Int).toNat*2+1,none⟩=false:=hfr9 1
       clear hcl9 hcc9 hfr9 hM9
       replace p9:=eq_true p9
       replace q9:=eq_true q9
       have HX91:=qam.mk (show Kd.R k72 72 w85 w.heap.size (fun _=>True) (.slice (some ⟨go9,0,none⟩) t247.length co82) t247 from(za9 HO249))
       obtain⟨ce91,hcl91,hM91,hcc91,hfr91⟩:=Kd.R_elem HX91.out z72 ((ji6):Int) (of_decide_eq_true (za6)) (by have h_:((ji6):Int)<((t247.length:Int):Int):=of_decide_eq_true (za6);first|exact h_|(have e_:=(Kd.R_reads' HO249.out).1;omega)|simpa using h_)
       obtain rfl:=k72_openM hM91
       have HP91:=Kd.R_seg HX91.out ((ji6):Int) (of_decide_eq_true (za6)) (by have h_:((ji6):Int)<((t247.length:Int):Int):=of_decide_eq_true (za6);first|exact h_|(have e_:=(Kd.R_reads' HO249.out).1;omega)|simpa using h_) (seg:=[.int .i64 3]) (j:=1) hcl91 hcc91 (show 2≤2 from by decide) (x':=(⟨(rd_T72 t247 (ji6)).f0,3⟩:S72)) (k72_mkM _ _ _ (⟨(rd_T72 t247 (ji6)).f0,3⟩:S72) ) (fun _ hk=>hk)
       have hx91_1:=hcc91 1 _ rfl
       (try simp only[show(k72).sz=2 from rfl,Nat.mul_one,Nat.add_zero] at hx91_1)
       have hf91_1:=hfr91 1
       (try simp only[show(k72).sz=2 from rfl,Nat.mul_one,Nat.add_zero] at hf91_1)
       clear hcl91 hcc91 hfr91 hM91
       try go_wp2_with(first|((with_reducible refine gate_store (t:=3) (p:=45) rfl ?_);refine store_event (t:=3) (p:=45) (v:=?vo_w92) (w1:=(w85.setCell ⟨go9,((ji6):Int).toNat*2+1,none⟩ (.int .i64 3))) ?hg ?ho ?hn ?hr ?_;(case ho=>rfl);(case hg=>rfl);(case hn=>rfl);(case hr=>first|(go_simp;done)|(go_simp;rfl));intro w92 hw;have hg:w85.grownBy w92 (some go9):=(by rw[hw];exact HP91.2);have hp_:Kd.R k72 72 w92 w.heap.size (fun _=>True) (.slice (some ⟨go9,0,none⟩) t247.length co82) y254:=(by rw[hw,Ny254.out];exact HP91.1);clear HP91;have n0_:=qam.mk (blk_grown (g:=gb243) (o:=.cells #[.int .i64 a0_0,.slice A0_1 l0_1.length c0_1] 39 (0,0)) (za0 BK243) hg (Kd.R_ne HO249.out BK243.out (by decide)));have n1_:=qam.mk (blk_grown (g:=gb244) (o:=.cells #[.int .i64 a1_0,.int .i64 a1_1,.slice A1_2 l1_2.length c1_2] 62 (0,0)) (za0 BK244) hg (Kd.R_ne HO249.out BK244.out (by decide)));have n2_:=qam.mk (blk_grown (g:=gb245) (o:=.cells #[.int .i64 0,.slice none 0 0] 39 (0,0)) (za0 BK245) hg (Kd.R_ne HO249.out BK245.out (by decide)));have n3_:=qam.mk (hp_);have n4_:=qam.mk (blk_grown (g:=gb250) (o:=.cells #[.int .i64 a0_0,.slice (some ⟨go9,0,none⟩) t247.length co82] 39 (0,0)) (za0 BK250) hg (Kd.R_ne HO249.out BK250.out (by decide)));have n5_:=qam.mk ((by rw[hw];exact below_set (HB.out) GB9.out:Below w.heap.size w w92));clear BK243;clear BK244;clear BK245;clear HO249;clear BK250;clear HB;have BK243:=n0_;have BK244:=n1_;have BK245:=n2_;have HO249:=n3_;have BK250:=n4_;have HB:=n5_;clear n0_ n1_ n2_ n3_ n4_ n5_;clear hg hw hp_;have hcz93_0:w92.cell? ⟨gb250,0,none⟩=some (.int .i64 a0_0):=(qab BK250.out 0).trans rfl;have hcz93_1:w92.cell? ⟨gb250,1,none⟩=some (.slice (some ⟨go9,0,none⟩) t247.length co82):=(qab BK250.out 1).trans rfl;have hfz93_0:=qaa BK250.out 0;have hfz93_1:=qaa BK250.out 1;have hcz94_0:w92.cell? ⟨gb245,0,none⟩=some (.int .i64 0):=(qab BK245.out 0).trans rfl;have hcz94_1:w92.cell? ⟨gb245,1,none⟩=some (.slice none 0 0):=(qab BK245.out 1).trans rfl;have hfz94_0:=qaa BK245.out 0;have hfz94_1:=qaa BK245.out 1))
       refine bodyPost_ret (results_ct rfl _ _ gb245 39 #[.int .i64 a0_0,.slice (some ⟨go9,0,none⟩) t247.length co82] (0,0) _ rfl (by(with_reducible repeat(first|refine qah ?_ _|refine qaf ?_|refine qag ?_ _));refine qan (cs:=#[.int .i64 a0_0,.slice none 0 0]) ?_ 1 _ rfl;(with_reducible repeat(first|refine qah ?_ _|refine qaf ?_|refine qag ?_ _));refine qan (cs:=#[.int .i64 0,.slice none 0 0]) ?_ 0 _ rfl;(with_reducible repeat(first|refine qah ?_ _|refine qaf ?_|refine qag ?_ _));exact BK245.out) Try.underlying39 rfl (by kernel_rfl)) rfl ?_
       exact⟨_,by first|rfl|(simp[qaq,qar]<;>rfl)|(simp only[←hji6];first|rfl|(simp[qaq,qar]<;>rfl))|(simp[*,qaq,qar]<;>rfl),by(with_reducible repeat(first|apply Kd.R_alloc|apply Kd.R_drewN|apply Kd.R_drew));exact Kd.R_mono (Kd.R_far (p:=⟨gb245,1,none⟩) (Kd.R_far (p:=⟨gb245,0,none⟩) (Kd.R_types HO249.out BK245.out (by decide)) (fun _ hk=>hk.2) (.int .i64 a0_0)) (fun _ hk=>hk.2) (.slice (some ⟨go9,0,none⟩) t247.length co82)) (fun _ hk=>trivial),za7 HB GE243 GE244 GE245 GE250⟩
      ·rw[if_neg c67] at H
       have c67b0:(a1_0 == 3)=false:=beq_eq_false_iff_ne.mpr c67
       have c67b1:(a1_0 != 3)=true:=bne_iff_ne.mpr c67
       simp only[Option.some.injEq,Prod.mk.injEq] at H
       obtain⟨rfl,rfl,rfl⟩:=H
       go_enter Try.func42,Try.ntmps42
       try go_wp2_with(first|((with_reducible refine qak (N:=2) rfl ?_);refine qai ?hg (N:=2) ?hd (cs:=#[.int .i64 a0_0,.slice A0_1 l0_1.length c0_1]) (t:=39) ?hr ?_;(case hd=>rfl);(case hg=>rfl);(case hr=>first|(go_simp;done)|(go_simp;rfl));intro gb243 hg w95 hbox hb;have n0_:=qam.mk (qad (za2 HB) hb);have n1_:=qam.mk (hbox);have n2_:=qam.mk ((by rw[hg];exact(qac (za2 HB)):w.heap.size≤gb243));have n3_:=qam.mk ((by rw[hg];exact(qac (za2 HB)):w.heap.size≤gb243));clear HB;have HB:=n0_;have BK243:=n1_;have GW243:=n2_;have GE243:=n3_;clear n0_ n1_ n2_ n3_;clear hb hbox hg)|((with_reducible refine qak (N:=3) rfl ?_);refine qai ?hg (N:=3) ?hd (cs:=#[.int .i64 a1_0,.int .i64 a1_1,.slice A1_2 l1_2.length c1_2]) (t:=62) ?hr ?_;(case hd=>rfl);(case hg=>rfl);(case hr=>first|(go_simp;done)|(go_simp;rfl));intro gb244 hg w96 hbox hb;have n0_:=qam.mk (qae (g:=gb243) (o:=.cells #[.int .i64 a0_0,.slice A0_1 l0_1.length c0_1] 39 (0,0)) (za0 BK243) hb);have n1_:=qam.mk (qad (za1 HB GE243) hb);have n2_:=qam.mk (hbox);have n3_:=qam.mk ((by rw[hg];exact(qac (za1 HB GE243)):w.heap.size≤gb244));have n4_:=qam.mk ((by rw[hg];exact(qac (za1 HB GE243)):w.heap.size≤gb244));have n5_:=qam.mk ((by rw[hg];exact Nat.ne_of_lt (qal (g:=gb243) (o:=.cells #[.int .i64 a0_0,.slice A0_1 l0_1.length c0_1] 39 (0,0)) (za0 BK243)):gb243≠gb244));have n6_:=qam.mk ((by rw[hg];exact Nat.ne_of_gt (qal (g:=gb243) (o:=.cells #[.int .i64 a0_0,.slice A0_1 l0_1.length c0_1] 39 (0,0)) (za0 BK243)):gb244≠gb243));clear BK243;clear HB;have BK243:=n0_;have HB:=n1_;have BK244:=n2_;have GW244:=n3_;have GE244:=n4_;have NB243_244:=n5_;have NB244_243:=n6_;clear n0_ n1_ n2_ n3_ n4_ n5_ n6_;clear hb hbox hg)|((with_reducible refine qak (N:=4) rfl ?_);refine qai ?hg (N:=4) ?hd (cs:=#[.int .i64 0,.slice none 0 0]) (t:=39) ?hr ?_;(case hd=>rfl);(case hg=>rfl);(case hr=>first|(go_simp;done)|(go_simp;rfl));intro gb245 hg w97 hbox hb;have n0_:=qam.mk (qae (g:=gb243) (o:=.cells #[.int .i64 a0_0,.slice A0_1 l0_1.length c0_1] 39 (0,0)) (za0 BK243) hb);have n1_:=qam.mk (qae (g:=gb244) (o:=.cells #[.int .i64 a1_0,.int .i64 a1_1,.slice A1_2 l1_2.length c1_2] 62 (0,0)) (za0 BK244) hb);have n2_:=qam.mk (qad (za3 HB GE243 GE244) hb);have n3_:=qam.mk (hbox);have n4_:=qam.mk ((by rw[hg];exact(qac (za3 HB GE243 GE244)):w.heap.size≤gb245));have n5_:=qam.mk ((by rw[hg];exact(qac (za3 HB GE243 GE244)):w.heap.size≤gb245));have n6_:=qam.mk ((by rw[hg];exact Nat.ne_of_lt (qal (g:=gb243) (o:=.cells #[.int .i64 a0_0,.slice A0_1 l0_1.length c0_1] 39 (0,0)) (za0 BK243)):gb243≠gb245));have n7_:=qam.mk ((by rw[hg];exact Nat.ne_of_gt (qal (g:=gb243) (o:=.cells #[.int .i64 a0_0,.slice A0_1 l0_1.length c0_1] 39 (0,0)) (za0 BK243)):gb245≠gb243));have n8_:=qam.mk ((by rw[hg];exact Nat.ne_of_lt (qal (g:=gb244) (o:=.cells #[.int .i64 a1_0,.int .i64 a1_1,.slice A1_2 l1_2.length c1_2] 62 (0,0)) (za0 BK244)):gb244≠gb245));have n9_:=qam.mk ((by rw[hg];exact Nat.ne_of_gt (qal (g:=gb244) (o:=.cells #[.int .i64 a1_0,.int .i64 a1_1,.slice A1_2 l1_2.length c1_2] 62 (0,0)) (za0 BK244)):gb245≠gb244));clear BK243;clear BK244;clear HB;have BK243:=n0_;have BK244:=n1_;have HB:=n2_;have BK245:=n3_;have GW245:=n4_;have GE245:=n5_;have NB243_245:=n6_;have NB245_243:=n7_;have NB244_245:=n8_;have NB245_244:=n9_;clear n0_ n1_ n2_ n3_ n4_ n5_ n6_ n7_ n8_ n9_;clear hb hbox hg;have hnb98:=NB243_244.out;have hnc98:=NB244_243.out;have hnb99:=NB243_245.out;have hnc99:=NB245_243.out;have hcz100_0:w97.cell? ⟨gb243,0,none⟩=some (.int .i64 a0_0):=(qab BK243.out 0).trans rfl;have hcz100_1:w97.cell? ⟨gb243,1,none⟩=some (.slice A0_1 l0_1.length c0_1):=(qab BK243.out 1).trans rfl;have hfz100_0:=qaa BK243.out 0;have hfz100_1:=qaa BK243.out 1;have hnb101:=NB244_245.out;have hnc101:=NB245_244.out;have hcz102_0:w97.cell? ⟨gb244,0,none⟩=some (.int .i64 a1_0):=(qab BK244.out 0).trans rfl;have hcz102_1:w97.cell? ⟨gb244,1,none⟩=some (.int .i64 a1_1):=(qab BK244.out 1).trans rfl;have hcz102_2:w97.cell? ⟨gb244,2,none⟩=some (.slice A1_2 l1_2.length c1_2):=(qab BK244.out 2).trans rfl;have hfz102_0:=qaa BK244.out 0;have hfz102_1:=qaa BK244.out 1;have hfz102_2:=qaa BK244.out 2)|((with_reducible refine qaj (f:=54) rfl ?_);refine goesL_ (some 10) rfl rfl Try.func54 (by kernel_rfl) rfl #[.agg #[.int .i64 a0_0,.slice A0_1 l0_1.length c0_1],.agg #[.int .i64 a1_0,.int .i64 a1_1,.slice A1_2 l1_2.length c1_2]] rfl (by(try simp only[List.map_toArray,List.map_cons,List.map_nil]);first|done|rfl|(simp only[List.length_drop,List.length_take];rfl)) ?_;(with_reducible refine(impl_StockMay.calls k a0_0 _ _ l0_1 a1_0 a1_1 _ _ l1_2 true _ ?side1 ?side2 ?side3 ?side4 A3.out).mono ?_);(case side1=>repeat(first|exact(Kd.C_below HR0_1.out HB.out)|(with_reducible refine Kd.C_alloc ?_ _)|(with_reducible refine Kd.C_drewN ?_ _)|(with_reducible refine Kd.C_drew ?_)));(case side2=>exact HC0_1.out);(case side3=>repeat(first|exact(Kd.C_below HR1_2.out HB.out)|(with_reducible refine Kd.C_alloc ?_ _)|(with_reducible refine Kd.C_drewN ?_ _)|(with_reducible refine Kd.C_drew ?_)));(case side4=>exact HC1_2.out);rintro e w103 ⟨rfl,hb⟩;refine⟨_,rfl,?_⟩;have n0_:=qam.mk (qae (g:=gb243) (o:=.cells #[.int .i64 a0_0,.slice A0_1 l0_1.length c0_1] 39 (0,0)) (za0 BK243) hb);have n1_:=qam.mk (qae (g:=gb244) (o:=.cells #[.int .i64 a1_0,.int .i64 a1_1,.slice A1_2 l1_2.length c1_2] 62 (0,0)) (za0 BK244) hb);have n2_:=qam.mk (qae (g:=gb245) (o:=.cells #[.int .i64 0,.slice none 0 0] 39 (0,0)) (za0 BK245) hb);have n3_:=qam.mk (qad (za5 HB GE243 GE244 GE245) hb);clear BK243;clear BK244;clear BK245;clear HB;have BK243:=n0_;have BK244:=n1_;have BK245:=n2_;have HB:=n3_;clear n0_ n1_ n2_ n3_;(try clear hb);(try clear hb2);(try clear hk);(try clear hi)))
       have n0_:=qam.mk (qaf BK243.out)
       have n1_:=qam.mk (qaf BK244.out)
       have n2_:=qam.mk (qaf BK245.out)
       have n3_:=qam.mk (below_drew1 HB.out)
       clear BK243
       clear BK244
       clear BK245
       clear HB
       have BK243:=n0_
       have BK244:=n1_
       have BK245:=n2_
       have HB:=n3_
       clear n0_ n1_ n2_ n3_
       refine start_ (n:=8) (S:=fun w'=>w'.cell? ⟨gb243,0,none⟩=some (.int .i64 a0_0)∧w'.cell? ⟨gb243,1,none⟩=some (.slice A0_1 l0_1.length c0_1)) (ds:=[]) #[false,false,false,false,false,false,false,false] (by kernel_rfl) rfl rfl ⟨(qab BK243.out 0).trans rfl,(qab BK243.out 1).trans rfl⟩ (fun hHeld=>?_);refine with_tabW impl_StockDo.tab3 impl_StockDo.bits3 (fun HT_ HW_=>?_)
       generalize w103.drew=w104 at BK243 BK244 BK245 HB hHeld ⊢
       refine pure_ (i:=0) (N:=some 13) (v:=?_) (a':=?_) #[true,false,false,false,false,false,false,false] rfl rfl (qas HT_.out (by kernel_rfl)) (fun _ _ _ h=>h) (Or.inl ⟨by rfl,?_⟩) ?_ ?_
       rotate_left
       ·intro w'
        go_simp
        with_reducible rfl
       rotate_left
       ·simp only[Act.put,List.setIfInBounds_toArray,List.set_cons_zero,List.set_cons_succ,qao,qap]
        rfl
       refine pure_ (i:=2) (N:=some 15) (v:=?_) (a':=?_) #[true,false,true,false,false,false,false,false] rfl rfl (qas HT_.out (by kernel_rfl)) (fun _ _ _ h=>h) (Or.inl ⟨by rfl,?_⟩) ?_ ?_
       rotate_left
       ·intro w'
        go_simp
        with_reducible rfl
       rotate_left
       ·simp only[Act.put,List.setIfInBounds_toArray,List.set_cons_zero,List.set_cons_succ,qao,qap]
        rfl
       refine take_ (i:=1) (N:=some 14) (v:=?_) (a':=?_) #[true,true,true,false,false,false,false,false] rfl rfl (take_ofW HT_.out HW_.out (by kernel_rfl)) (fun _ _ _ h=>h) (Or.inl ⟨by rfl,?_⟩) hHeld ?_ ?_
       rotate_left
       ·rintro w' ⟨s0,s1⟩
        go_simp
        with_reducible rfl
       rotate_left
       ·simp only[Act.put,List.setIfInBounds_toArray,List.set_cons_zero,List.set_cons_succ,qao,qap]
        rfl
       refine take_ (i:=3) (N:=some 16) (v:=?_) (a':=?_) #[true,true,true,true,false,false,false,false] rfl rfl (take_ofW HT_.out HW_.out (by kernel_rfl)) (fun _ _ _ h=>h) (Or.inl ⟨by rfl,?_⟩) hHeld ?_ ?_
       rotate_left
       ·rintro w' ⟨s0,s1⟩
        go_simp
        with_reducible rfl
       rotate_left
       ·simp only[Act.put,List.setIfInBounds_toArray,List.set_cons_zero,List.set_cons_succ,qao,qap]
        rfl
       refine join_ (σ:=Value × Nat) 1 #[true,true,true,true,true,true,true,false] (fun s_=>[(17,s_.1),(6,.pointer (some ⟨s_.2,0,none⟩)),(18,.agg #[.int .i64 a0_0,s_.1])]) (fun s_ w'=>(w'.cell? ⟨gb243,0,none⟩=some (.int .i64 a0_0)∧w'.cell? ⟨gb243,1,none⟩=some (.slice A0_1 l0_1.length c0_1))∧(Kd.R k72 72 w' w.heap.size (fun _=>True) s_.1 t247)∧(w'.heap[gb243]?=some (.cells #[.int .i64 a0_0,.slice A0_1 l0_1.length c0_1] 39 (0,0)))∧(w'.heap[gb244]?=some (.cells #[.int .i64 a1_0,.int .i64 a1_1,.slice A1_2 l1_2.length c1_2] 62 (0,0)))∧(w'.heap[gb245]?=some (.cells #[.int .i64 0,.slice none 0 0] 39 (0,0)))∧(w'.heap[s_.2]?=some (.cells #[.int .i64 0,.slice none 0 0] 39 (0,0)))∧(w.heap.size≤s_.2)∧(w.heap.size≤s_.2)∧(gb243≠s_.2)∧(s_.2≠gb243)∧(gb244≠s_.2)∧(s_.2≠gb244)∧(gb245≠s_.2)∧(s_.2≠gb245)∧(Below w.heap.size w w')) ?_ ?_
       rotate_left
       ·intro hCont
        refine two_ (i:=4) (j:=6) (Ni:=some 17) (Nj:=some 6) #[true,true,true,true,true,false,false,false] #[true,true,true,true,false,false,true,false] rfl rfl rfl rfl (two_of HT_.out (by kernel_rfl)) (by decide) (by decide) (fun K hK=>?_) (fun K hK=>?_)
        ·skip
         refine goes_ Try.func55 (by kernel_rfl) rfl #[.slice A0_1 l0_1.length c0_1] (by rfl) rfl rfl (by(try simp only[List.map_toArray,List.map_cons,List.map_nil]);first|done|rfl|(simp only[List.length_drop,List.length_take];rfl)) ?_
         with_reducible refine(impl_Hold_55.calls _ _ l0_1 t247 _ ?side1 ?side2 A5.out).mono ?_
         (case side1=>repeat(first|exact(Kd.C_below HR0_1.out HB.out)|(with_reducible refine Kd.C_alloc ?_ _)|(with_reducible refine Kd.C_drewN ?_ _)|(with_reducible refine Kd.C_drew ?_)))
         (case side2=>exact HC0_1.out)
         rintro e w105 ⟨v248,rfl,ho0,hb⟩
         refine⟨_,rfl,?_⟩
         have n0_:=qam.mk (Kd.R_lower ho0 (qac (za5 HB GE243 GE244 GE245)))
         have n1_:=qam.mk (qae (g:=gb243) (o:=.cells #[.int .i64 a0_0,.slice A0_1 l0_1.length c0_1] 39 (0,0)) (za0 BK243) hb)
         have n2_:=qam.mk (qae (g:=gb244) (o:=.cells #[.int .i64 a1_0,.int .i64 a1_1,.slice A1_2 l1_2.length c1_2] 62 (0,0)) (za0 BK244) hb)
         have n3_:=qam.mk (qae (g:=gb245) (o:=.cells #[.int .i64 0,.slice none 0 0] 39 (0,0)) (za0 BK245) hb)
         have n4_:=qam.mk (qad (za5 HB GE243 GE244 GE245) hb)
         clear BK243
         clear BK244
         clear BK245
         clear HB
         have HO249:=n0_
         have BK243:=n1_
         have BK244:=n2_
         have BK245:=n3_
         have HB:=n4_
         clear n0_ n1_ n2_ n3_ n4_
         (try clear hb)
         (try clear hb2)
         (try clear hk)
         (try clear hi)
         (try clear ho0)
         obtain⟨Ao106,co106,eo106⟩:=Kd.R_slice HO249.out
         (first|subst eo106|(injection eo106 with f1_ f2_ f3_;have f4_:=f1_.symm;have f5_:=f3_.symm;clear f1_ f2_ f3_;subst f4_;subst f5_))
         refine hK.out _ _ ⟨(qab BK243.out 0).trans rfl,(qab BK243.out 1).trans rfl⟩ (fun hHeld=>?_)
         clear hK K
         refine norm_ (a':=?_) ?_ ?_
         rotate_left
         ·show Act.put _ (some 17) _=_
          simp only[Act.put,List.setIfInBounds_toArray,List.set_cons_zero,List.set_cons_succ,qao,qap]
          rfl
         refine pure_ (i:=5) (N:=some 18) (v:=?_) (a':=?_) #[true,true,true,true,true,true,false,false] rfl rfl (qas HT_.out (by kernel_rfl)) (fun _ _ _ h=>h) (Or.inl ⟨by rfl,?_⟩) ?_ ?_
         rotate_left
         ·intro w'
          go_simp
          with_reducible rfl
         rotate_left
         ·simp only[Act.put,List.setIfInBounds_toArray,List.set_cons_zero,List.set_cons_succ,qao,qap]
          rfl
         refine one_ (i:=6) (N:=some 6) #[true,true,true,true,true,true,true,false] rfl rfl (one_of HT_.out (by kernel_rfl)) (by decide) (fun K hK=>?_)
         refine box_step ?hg (N:=6) ?hd (cs:=#[.int .i64 0,.slice none 0 0]) (t:=39) ?hr ?_;(case hd=>rfl);(case hg=>rfl);(case hr=>first|(go_simp;done)|(go_simp;rfl))
         intro gb250 hg w107 hbox hb
         have n0_:=qam.mk (Kd.R_below (za9 HO249) hb)
         have n1_:=qam.mk (qae (g:=gb243) (o:=.cells #[.int .i64 a0_0,.slice A0_1 l0_1.length c0_1] 39 (0,0)) (za0 BK243) hb)
         have n2_:=qam.mk (qae (g:=gb244) (o:=.cells #[.int .i64 a1_0,.int .i64 a1_1,.slice A1_2 l1_2.length c1_2] 62 (0,0)) (za0 BK244) hb)
         have n3_:=qam.mk (qae (g:=gb245) (o:=.cells #[.int .i64 0,.slice none 0 0] 39 (0,0)) (za0 BK245) hb)
         have n4_:=qam.mk (qad (za5 HB GE243 GE244 GE245) hb)
         have n5_:=qam.mk (hbox)
         have n6_:=qam.mk ((by rw[hg];exact(qac (za5 HB GE243 GE244 GE245)):w.heap.size≤gb250))
         have n7_:=qam.mk ((by rw[hg];exact(qac (za5 HB GE243 GE244 GE245)):w.heap.size≤gb250))
         have n8_:=qam.mk ((by rw[hg];exact Nat.ne_of_lt (qal (g:=gb243) (o:=.cells #[.int .i64 a0_0,.slice A0_1 l0_1.length c0_1] 39 (0,0)) (za0 BK243)):gb243≠gb250))
         have n9_:=qam.mk ((by rw[hg];exact Nat.ne_of_gt (qal (g:=gb243) (o:=.cells #[.int .i64 a0_0,.slice A0_1 l0_1.length c0_1] 39 (0,0)) (za0 BK243)):gb250≠gb243))
         have n10_:=qam.mk ((by rw[hg];exact Nat.ne_of_lt (qal (g:=gb244) (o:=.cells #[.int .i64 a1_0,.int .i64 a1_1,.slice A1_2 l1_2.length c1_2] 62 (0,0)) (za0 BK244)):gb244≠gb250))
         have n11_:=qam.mk ((by rw[hg];exact Nat.ne_of_gt (qal (g:=gb244) (o:=.cells #[.int .i64 a1_0,.int .i64 a1_1,.slice A1_2 l1_2.length c1_2] 62 (0,0)) (za0 BK244)):gb250≠gb244))
         have n12_:=qam.mk ((by rw[hg];exact Nat.ne_of_lt (qal (g:=gb245) (o:=.cells #[.int .i64 0,.slice none 0 0] 39 (0,0)) (za0 BK245)):gb245≠gb250))
         have n13_:=qam.mk ((by rw[hg];exact Nat.ne_of_gt (qal (g:=gb245) (o:=.cells #[.int .i64 0,.slice none 0 0] 39 (0,0)) (za0 BK245)):gb250≠gb245))
         clear HO249
         clear BK243
         clear BK244
         clear BK245
         clear HB
         have HO249:=n0_
         have BK243:=n1_
         have BK244:=n2_
         have BK245:=n3_
         have HB:=n4_
         have BK250:=n5_
         have GW250:=n6_
         have GE250:=n7_
         have NB243_250:=n8_
         have NB250_243:=n9_
         have NB244_250:=n10_
         have NB250_244:=n11_
         have NB245_250:=n12_
         have NB250_245:=n13_
         clear n0_ n1_ n2_ n3_ n4_ n5_ n6_ n7_ n8_ n9_ n10_ n11_ n12_ n13_
         clear hb hbox hg
         refine hK.out _ _ ⟨(qab BK243.out 0).trans rfl,(qab BK243.out 1).trans rfl⟩ (fun hHeld=>?_)
         clear hK K
         refine norm_ (a':=?_) ?_ ?_
         rotate_left
         ·show Act.put _ (some 6) _=_
          simp only[Act.put,List.setIfInBounds_toArray,List.set_cons_zero,List.set_cons_succ,qao,qap]
          rfl
         exact norm_ (by simp only[putAll,Act.put,List.setIfInBounds_toArray,List.set_cons_zero,List.set_cons_succ]) (hCont (.slice Ao106 t247.length co106,gb250) _ ⟨hHeld,(za9 HO249),(za0 BK243),(za0 BK244),(za0 BK245),(za0 BK250),GW250.out,GE250.out,NB243_250.out,NB250_243.out,NB244_250.out,NB250_244.out,NB245_250.out,NB250_245.out,(za7 HB GE243 GE244 GE245 GE250)⟩)
        ·skip
         refine box_step ?hg (N:=6) ?hd (cs:=#[.int .i64 0,.slice none 0 0]) (t:=39) ?hr ?_;(case hd=>rfl);(case hg=>rfl);(case hr=>first|(go_simp;done)|(go_simp;rfl))
         intro gb250 hg w105 hbox hb
         have n0_:=qam.mk (qae (g:=gb243) (o:=.cells #[.int .i64 a0_0,.slice A0_1 l0_1.length c0_1] 39 (0,0)) (za0 BK243) hb)
         have n1_:=qam.mk (qae (g:=gb244) (o:=.cells #[.int .i64 a1_0,.int .i64 a1_1,.slice A1_2 l1_2.length c1_2] 62 (0,0)) (za0 BK244) hb)
         have n2_:=qam.mk (qae (g:=gb245) (o:=.cells #[.int .i64 0,.slice none 0 0] 39 (0,0)) (za0 BK245) hb)
         have n3_:=qam.mk (qad (za5 HB GE243 GE244 GE245) hb)
         have n4_:=qam.mk (hbox)
         have n5_:=qam.mk ((by rw[hg];exact(qac (za5 HB GE243 GE244 GE245)):w.heap.size≤gb250))
         have n6_:=qam.mk ((by rw[hg];exact(qac (za5 HB GE243 GE244 GE245)):w.heap.size≤gb250))
         have n7_:=qam.mk ((by rw[hg];exact Nat.ne_of_lt (qal (g:=gb243) (o:=.cells #[.int .i64 a0_0,.slice A0_1 l0_1.length c0_1] 39 (0,0)) (za0 BK243)):gb243≠gb250))
         have n8_:=qam.mk ((by rw[hg];exact Nat.ne_of_gt (qal (g:=gb243) (o:=.cells #[.int .i64 a0_0,.slice A0_1 l0_1.length c0_1] 39 (0,0)) (za0 BK243)):gb250≠gb243))
         have n9_:=qam.mk ((by rw[hg];exact Nat.ne_of_lt (qal (g:=gb244) (o:=.cells #[.int .i64 a1_0,.int .i64 a1_1,.slice A1_2 l1_2.length c1_2] 62 (0,0)) (za0 BK244)):gb244≠gb250))
         have n10_:=qam.mk ((by rw[hg];exact Nat.ne_of_gt (qal (g:=gb244) (o:=.cells #[.int .i64 a1_0,.int .i64 a1_1,.slice A1_2 l1_2.length c1_2] 62 (0,0)) (za0 BK244)):gb250≠gb244))
         have n11_:=qam.mk ((by rw[hg];exact Nat.ne_of_lt (qal (g:=gb245) (o:=.cells #[.int .i64 0,.slice none 0 0] 39 (0,0)) (za0 BK245)):gb245≠gb250))
         have n12_:=qam.mk ((by rw[hg];exact Nat.ne_of_gt (qal (g:=gb245) (o:=.cells #[.int .i64 0,.slice none 0 0] 39 (0,0)) (za0 BK245)):gb250≠gb245))
         clear BK243
         clear BK244
         clear BK245
         clear HB
         have BK243:=n0_
         have BK244:=n1_
         have BK245:=n2_
         have HB:=n3_
         have BK250:=n4_
         have GW250:=n5_
         have GE250:=n6_
         have NB243_250:=n7_
         have NB250_243:=n8_
         have NB244_250:=n9_
         have NB250_244:=n10_
         have NB245_250:=n11_
         have NB250_245:=n12_
         clear n0_ n1_ n2_ n3_ n4_ n5_ n6_ n7_ n8_ n9_ n10_ n11_ n12_
         clear hb hbox hg
         refine hK.out _ _ ⟨(qab BK243.out 0).trans rfl,(qab BK243.out 1).trans rfl⟩ (fun hHeld=>?_)
         clear hK K
         refine norm_ (a':=?_) ?_ ?_
         rotate_left
         ·show Act.put _ (some 6) _=_
          simp only[Act.put,List.setIfInBounds_toArray,List.set_cons_zero,List.set_cons_succ,qao,qap]
          rfl
         refine one_ (i:=4) (N:=some 17) #[true,true,true,true,true,false,true,false] rfl rfl (one_of HT_.out (by kernel_rfl)) (by decide) (fun K hK=>?_)
         refine goes_ Try.func55 (by kernel_rfl) rfl #[.slice A0_1 l0_1.length c0_1] (by rfl) rfl rfl (by(try simp only[List.map_toArray,List.map_cons,List.map_nil]);first|done|rfl|(simp only[List.length_drop,List.length_take];rfl)) ?_
         with_reducible refine(impl_Hold_55.calls _ _ l0_1 t247 _ ?side1 ?side2 A5.out).mono ?_
         (case side1=>repeat(first|exact(Kd.C_below HR0_1.out HB.out)|(with_reducible refine Kd.C_alloc ?_ _)|(with_reducible refine Kd.C_drewN ?_ _)|(with_reducible refine Kd.C_drew ?_)))
         (case side2=>exact HC0_1.out)
         rintro e w106 ⟨v248,rfl,ho0,hb⟩
         refine⟨_,rfl,?_⟩
         have n0_:=qam.mk (Kd.R_lower ho0 (qac (za7 HB GE243 GE244 GE245 GE250)))
         have n1_:=qam.mk (qae (g:=gb243) (o:=.cells #[.int .i64 a0_0,.slice A0_1 l0_1.length c0_1] 39 (0,0)) (za0 BK243) hb)
         have n2_:=qam.mk (qae (g:=gb244) (o:=.cells #[.int .i64 a1_0,.int .i64 a1_1,.slice A1_2 l1_2.length c1_2] 62 (0,0)) (za0 BK244) hb)
         have n3_:=qam.mk (qae (g:=gb245) (o:=.cells #[.int .i64 0,.slice none 0 0] 39 (0,0)) (za0 BK245) hb)
         have n4_:=qam.mk (qae (g:=gb250) (o:=.cells #[.int .i64 0,.slice none 0 0] 39 (0,0)) (za0 BK250) hb)
         have n5_:=qam.mk (qad (za7 HB GE243 GE244 GE245 GE250) hb)
         clear BK243
         clear BK244
         clear BK245
         clear BK250
         clear HB
         have HO249:=n0_
         have BK243:=n1_
         have BK244:=n2_
         have BK245:=n3_
         have BK250:=n4_
         have HB:=n5_
         clear n0_ n1_ n2_ n3_ n4_ n5_
         (try clear hb)
         (try clear hb2)
         (try clear hk)
         (try clear hi)
         (try clear ho0)
         obtain⟨Ao107,co107,eo107⟩:=Kd.R_slice HO249.out
         (first|subst eo107|(injection eo107 with f1_ f2_ f3_;have f4_:=f1_.symm;have f5_:=f3_.symm;clear f1_ f2_ f3_;subst f4_;subst f5_))
         refine hK.out _ _ ⟨(qab BK243.out 0).trans rfl,(qab BK243.out 1).trans rfl⟩ (fun hHeld=>?_)
         clear hK K
         refine norm_ (a':=?_) ?_ ?_
         rotate_left
         ·show Act.put _ (some 17) _=_
          simp only[Act.put,List.setIfInBounds_toArray,List.set_cons_zero,List.set_cons_succ,qao,qap]
          rfl
         refine pure_ (i:=5) (N:=some 18) (v:=?_) (a':=?_) #[true,true,true,true,true,true,true,false] rfl rfl (qas HT_.out (by kernel_rfl)) (fun _ _ _ h=>h) (Or.inl ⟨by rfl,?_⟩) ?_ ?_
         rotate_left
         ·intro w'
          go_simp
          with_reducible rfl
         rotate_left
         ·simp only[Act.put,List.setIfInBounds_toArray,List.set_cons_zero,List.set_cons_succ,qao,qap]
          rfl
         exact norm_ (by simp only[putAll,Act.put,List.setIfInBounds_toArray,List.set_cons_zero,List.set_cons_succ]) (hCont (.slice Ao107 t247.length co107,gb250) _ ⟨hHeld,(za9 HO249),(za0 BK243),(za0 BK244),(za0 BK245),(za0 BK250),GW250.out,GE250.out,NB243_250.out,NB250_243.out,NB244_250.out,NB250_244.out,NB245_250.out,NB250_245.out,(za7 HB GE243 GE244 GE245 GE250)⟩)
       rintro⟨v248,gb250⟩ w108 ⟨hS_,h0_,h1_,h2_,h3_,h4_,h5_,h6_,h7_,h8_,h9_,h10_,h11_,h12_,h13_⟩
       have n0_:qam (Kd.R k72 72 w108 w.heap.size (fun _=>True) v248 t247):=⟨h0_⟩
       have n1_:qam (w108.heap[gb243]?=some (.cells #[.int .i64 a0_0,.slice A0_1 l0_1.length c0_1] 39 (0,0))):=⟨h1_⟩
       have n2_:qam (w108.heap[gb244]?=some (.cells #[.int .i64 a1_0,.int .i64 a1_1,.slice A1_2 l1_2.length c1_2] 62 (0,0))):=⟨h2_⟩
       have n3_:qam (w108.heap[gb245]?=some (.cells #[.int .i64 0,.slice none 0 0] 39 (0,0))):=⟨h3_⟩
       have n4_:qam (w108.heap[gb250]?=some (.cells #[.int .i64 0,.slice none 0 0] 39 (0,0))):=⟨h4_⟩
       have n5_:qam (w.heap.size≤gb250):=⟨h5_⟩
       have n6_:qam (w.heap.size≤gb250):=⟨h6_⟩
       have n7_:qam (gb243≠gb250):=⟨h7_⟩
       have n8_:qam (gb250≠gb243):=⟨h8_⟩
       have n9_:qam (gb244≠gb250):=⟨h9_⟩
       have n10_:qam (gb250≠gb244):=⟨h10_⟩
       have n11_:qam (gb245≠gb250):=⟨h11_⟩
       have n12_:qam (gb250≠gb245):=⟨h12_⟩
       have n13_:qam (Below w.heap.size w w108):=⟨h13_⟩
       clear BK243
       clear BK244
       clear BK245
       clear HB
       clear h0_ h1_ h2_ h3_ h4_ h5_ h6_ h7_ h8_ h9_ h10_ h11_ h12_ h13_
       have HO249:=n0_
       have BK243:=n1_
       have BK244:=n2_
       have BK245:=n3_
       have BK250:=n4_
       have GW250:=n5_
       have GE250:=n6_
       have NB243_250:=n7_
       have NB250_243:=n8_
       have NB244_250:=n9_
       have NB250_244:=n10_
       have NB245_250:=n11_
       have NB250_245:=n12_
       have HB:=n13_
       clear n0_ n1_ n2_ n3_ n4_ n5_ n6_ n7_ n8_ n9_ n10_ n11_ n12_ n13_
       have hHeld:w108.cell? ⟨gb243,0,none⟩=some (.int .i64 a0_0)∧w108.cell? ⟨gb243,1,none⟩=some (.slice A0_1 l0_1.length c0_1):=hS_
       obtain⟨Ao109,co109,eo109⟩:=Kd.R_slice HO249.out
       (first|subst eo109|(injection eo109 with f1_ f2_ f3_;have f4_:=f1_.symm;have f5_:=f3_.symm;clear f1_ f2_ f3_;subst f4_;subst f5_))
       refine norm_ (a':=?_) ?_ ?_
       rotate_left
       ·simp only[putAll,Act.put,List.setIfInBounds_toArray,List.set_cons_zero,List.set_cons_succ]
        rfl
       refine one_ (i:=7) (N:=none) #[true,true,true,true,true,true,true,true] rfl rfl (one_of HT_.out (by kernel_rfl)) (by decide) (fun K hK=>?_)
       have hs110:w108.cell? ⟨gb250,0,none⟩=some (.int .i64 0):=(qab BK250.out 0).trans rfl
       have hfs110:=qaa BK250.out 0
       have hns110_0:=NB243_250.out
       have hns110_1:=NB244_250.out
       have hns110_2:=NB245_250.out
       have hms110_0:=NB250_243.out
       have hms110_1:=NB250_244.out
       have hms110_2:=NB250_245.out
       have hs111:w108.cell? ⟨gb250,1,none⟩=some (.slice none 0 0):=(qab BK250.out 1).trans rfl
       have hfs111:=qaa BK250.out 1
       have hns111_0:=NB243_250.out
       have hns111_1:=NB244_250.out
       have hns111_2:=NB245_250.out
       have hms111_0:=NB250_243.out
       have hms111_1:=NB250_244.out
       have hms111_2:=NB250_245.out
       refine skip_ (w1:=?_) (by rfl) rfl ?_ ?_
       rotate_left
       ·go_simp
        rfl
       refine hK.out _ _ ⟨((cell_far (p:=⟨gb250,_,none⟩) NB243_250.out _).trans (((cell_far (p:=⟨gb250,_,none⟩) NB243_250.out _).trans (hHeld.1)))),((cell_far (p:=⟨gb250,_,none⟩) NB243_250.out _).trans (((cell_far (p:=⟨gb250,_,none⟩) NB243_250.out _).trans (hHeld.2))))⟩ (fun hHeld=>?_)
       clear hK K
       refine done_ (done_of HT_.out (by kernel_rfl)) ?_
       have n0_:qam (Kd.R k72 72 ((w108.setCell ⟨gb250,0,none⟩ (.int .i64 a0_0)).setCell ⟨gb250,1,none⟩ (.slice Ao109 t247.length co109)) w.heap.size (fun _=>True) (.slice Ao109 t247.length co109) t247):=⟨by(with_reducible repeat(first|apply Kd.R_alloc|apply Kd.R_drewN|apply Kd.R_drew));exact Kd.R_mono (Kd.R_far (p:=⟨gb250,1,none⟩) (Kd.R_far (p:=⟨gb250,0,none⟩) (Kd.R_types HO249.out BK250.out (by decide)) (fun _ hk=>hk.2) (.int .i64 a0_0)) (fun _ hk=>hk.2) (.slice Ao109 t247.length co109)) (fun _ hk=>trivial)⟩
       have n1_:qam (((w108.setCell ⟨gb250,0,none⟩ (.int .i64 a0_0)).setCell ⟨gb250,1,none⟩ (.slice Ao109 t247.length co109)).heap[gb243]?=some (.cells #[.int .i64 a0_0,.slice A0_1 l0_1.length c0_1] 39 (0,0))):=⟨za4 NB243_250 BK243⟩
       have n2_:qam (((w108.setCell ⟨gb250,0,none⟩ (.int .i64 a0_0)).setCell ⟨gb250,1,none⟩ (.slice Ao109 t247.length co109)).heap[gb244]?=some (.cells #[.int .i64 a1_0,.int .i64 a1_1,.slice A1_2 l1_2.length c1_2] 62 (0,0))):=⟨za4 NB244_250 BK244⟩
       have n3_:qam (((w108.setCell ⟨gb250,0,none⟩ (.int .i64 a0_0)).setCell ⟨gb250,1,none⟩ (.slice Ao109 t247.length co109)).heap[gb245]?=some (.cells #[.int .i64 0,.slice none 0 0] 39 (0,0))):=⟨za4 NB245_250 BK245⟩
       have n4_:qam (((w108.setCell ⟨gb250,0,none⟩ (.int .i64 a0_0)).setCell ⟨gb250,1,none⟩ (.slice Ao109 t247.length co109)).heap[gb250]?=some (.cells #[.int .i64 a0_0,.slice Ao109 t247.length co109] 39 (0,0))):=⟨by(with_reducible repeat(first|refine qah ?_ _|refine qaf ?_|refine qag ?_ _));refine qan (cs:=#[.int .i64 a0_0,.slice none 0 0]) ?_ 1 _ rfl;(with_reducible repeat(first|refine qah ?_ _|refine qaf ?_|refine qag ?_ _));refine qan (cs:=#[.int .i64 0,.slice none 0 0]) ?_ 0 _ rfl;(with_reducible repeat(first|refine qah ?_ _|refine qaf ?_|refine qag ?_ _));exact BK250.out⟩
       have n5_:qam (Below w.heap.size w ((w108.setCell ⟨gb250,0,none⟩ (.int .i64 a0_0)).setCell ⟨gb250,1,none⟩ (.slice Ao109 t247.length co109))):=⟨za7 HB GE243 GE244 GE245 GE250⟩
       (try clear HO249)
       (try clear BK243)
       (try clear BK244)
       (try clear BK245)
       (try clear BK250)
       (try clear HB)
       generalize ((w108.setCell ⟨gb250,0,none⟩ (.int .i64 a0_0)).setCell ⟨gb250,1,none⟩ (.slice Ao109 t247.length co109))=w112 at n0_ n1_ n2_ n3_ n4_ n5_ ⊢
       have HO249:=n0_
       have BK243:=n1_
       have BK244:=n2_
       have BK245:=n3_
       have BK250:=n4_
       have HB:=n5_
       clear n0_ n1_ n2_ n3_ n4_ n5_
       have hnb113:=NB250_243.out
       have hnc113:=NB243_250.out
       have hnb114:=NB250_244.out
       have hnc114:=NB244_250.out
       have hnb115:=NB250_245.out
       have hnc115:=NB245_250.out
       have hcz116_0:w112.cell? ⟨gb250,0,none⟩=some (.int .i64 a0_0):=(qab BK250.out 0).trans rfl
       have hcz116_1:w112.cell? ⟨gb250,1,none⟩=some (.slice Ao109 t247.length co109):=(qab BK250.out 1).trans rfl
       have hfz116_0:=qaa BK250.out 0
       have hfz116_1:=qaa BK250.out 1
       have hcz117_0:w112.cell? ⟨gb244,0,none⟩=some (.int .i64 a1_0):=(qab BK244.out 0).trans rfl
       have hcz117_1:w112.cell? ⟨gb244,1,none⟩=some (.int .i64 a1_1):=(qab BK244.out 1).trans rfl
       have hcz117_2:w112.cell? ⟨gb244,2,none⟩=some (.slice A1_2 l1_2.length c1_2):=(qab BK244.out 2).trans rfl
       have hfz117_0:=qaa BK244.out 0
       have hfz117_1:=qaa BK244.out 1
       have hfz117_2:=qaa BK244.out 2
       have p9:0≤((ji6):Int):=of_decide_eq_true (za6)
       have q9:((ji6):Int)<((t247.length:Int):Int):=of_decide_eq_true (za6)
       obtain⟨go9,co9,eo9,gb9,gl9,cl9,HG9⟩:=Kd.R_form HO249.out (by omega)
       (first|cases eo9|(injection eo9 with ea_ en_ ec_;(first|subst ea_|(injection ea_ with ea_;subst ea_));subst ec_;clear en_))
       have GB9:=qam.mk gb9
       have GG9:=qam.mk HG9
       clear gb9 gl9 HG9
       obtain⟨ce9,hcl9,hM9,hcc9,hfr9⟩:=Kd.R_elem HO249.out z72 ((ji6):Int) p9 q9
       obtain rfl:=k72_openM hM9
       have hx9_0:w112.cell? ⟨go9,((ji6):Int).toNat*2,none⟩=some (.int .i64 ((rd_T72 t247 (ji6)).f0)):=hcc9 0 _ rfl
       have hx9_1:w112.cell? ⟨go9,((ji6):Int).toNat*2+1,none⟩=some (.int .i64 ((rd_T72 t247 (ji6)).f1)):=hcc9 1 _ rfl
       have hf9_0:w112.frozen? ⟨go9,((ji6):Int).toNat*2,none⟩=false:=hfr9 0
       have hf9_1:w112.frozen? ⟨go9,((ji6):Int).toNat*2+1,none⟩=false:=hfr9 1
       clear hcl9 hcc9 hfr9 hM9
       replace p9:=eq_true p9
       replace q9:=eq_true q9
       have hcz118_0:w112.cell? ⟨gb245,0,none⟩=some (.int .i64 0):=(qab BK245.out 0).trans rfl
       have hcz118_1:w112.cell? ⟨gb245,1,none⟩=some (.slice none 0 0):=(qab BK245.out 1).trans rfl
       have hfz118_0:=qaa BK245.out 0
       have hfz118_1:=qaa BK245.out 1
       try go_wp2
       refine bodyPost_ret (results_ct rfl _ _ gb245 39 #[.int .i64 a0_0,.slice (some ⟨go9,0,none⟩) t247.length co109] (0,0) _ rfl (by(with_reducible repeat(first|refine qah ?_ _|refine qaf ?_|refine qag ?_ _));refine qan (cs:=#[.int .i64 a0_0,.slice none 0 0]) ?_ 1 _ rfl;(with_reducible repeat(first|refine qah ?_ _|refine qaf ?_|refine qag ?_ _));refine qan (cs:=#[.int .i64 0,.slice none 0 0]) ?_ 0 _ rfl;(with_reducible repeat(first|refine qah ?_ _|refine qaf ?_|refine qag ?_ _));exact BK245.out) Try.underlying39 rfl (by kernel_rfl)) rfl ?_
       exact⟨_,by first|rfl|(simp[qaq,qar]<;>rfl)|(simp only[←hji6];first|rfl|(simp[qaq,qar]<;>rfl))|(simp[*,qaq,qar]<;>rfl),by(with_reducible repeat(first|apply Kd.R_alloc|apply Kd.R_drewN|apply Kd.R_drew));exact Kd.R_mono (Kd.R_far (p:=⟨gb245,1,none⟩) (Kd.R_far (p:=⟨gb245,0,none⟩) (Kd.R_types HO249.out BK245.out (by decide)) (fun _ hk=>hk.2) (.int .i64 a0_0)) (fun _ hk=>hk.2) (.slice (some ⟨go9,0,none⟩) t247.length co109)) (fun _ hk=>trivial),za7 HB GE243 GE244 GE245 GE250⟩
   ·rw[if_neg c8] at H
    exact absurd H (by simp)
  ·rw[if_neg c7] at H
   exact absurd H (by simp)
 ·replace c4:=Bool.eq_false_iff.mpr c4
  subst c4
  have H1:(some (0,([]:List (S72)),false))=some (r1,r2,r3):=by rw[if_neg (show ¬(false=true) by decide)] at H;exact H
  clear H
  have H:=H1
  clear H1
  simp only[Option.some.injEq,Prod.mk.injEq] at H
  obtain⟨rfl,rfl,rfl⟩:=H
  go_enter Try.func42,Try.ntmps42
  go_wp2_with(first|((with_reducible refine qak (N:=2) rfl ?_);refine qai ?hg (N:=2) ?hd (cs:=#[.int .i64 a0_0,.slice A0_1 l0_1.length c0_1]) (t:=39) ?hr ?_;(case hd=>rfl);(case hg=>rfl);(case hr=>first|(go_simp;done)|(go_simp;rfl));intro gb243 hg w119 hbox hb;have n0_:=qam.mk (qad (za2 HB) hb);have n1_:=qam.mk (hbox);have n2_:=qam.mk ((by rw[hg];exact(qac (za2 HB)):w.heap.size≤gb243));have n3_:=qam.mk ((by rw[hg];exact(qac (za2 HB)):w.heap.size≤gb243));clear HB;have HB:=n0_;have BK243:=n1_;have GW243:=n2_;have GE243:=n3_;clear n0_ n1_ n2_ n3_;clear hb hbox hg)|((with_reducible refine qak (N:=3) rfl ?_);refine qai ?hg (N:=3) ?hd (cs:=#[.int .i64 a1_0,.int .i64 a1_1,.slice A1_2 l1_2.length c1_2]) (t:=62) ?hr ?_;(case hd=>rfl);(case hg=>rfl);(case hr=>first|(go_simp;done)|(go_simp;rfl));intro gb244 hg w120 hbox hb;have n0_:=qam.mk (qae (g:=gb243) (o:=.cells #[.int .i64 a0_0,.slice A0_1 l0_1.length c0_1] 39 (0,0)) (za0 BK243) hb);have n1_:=qam.mk (qad (za1 HB GE243) hb);have n2_:=qam.mk (hbox);have n3_:=qam.mk ((by rw[hg];exact(qac (za1 HB GE243)):w.heap.size≤gb244));have n4_:=qam.mk ((by rw[hg];exact(qac (za1 HB GE243)):w.heap.size≤gb244));have n5_:=qam.mk ((by rw[hg];exact Nat.ne_of_lt (qal (g:=gb243) (o:=.cells #[.int .i64 a0_0,.slice A0_1 l0_1.length c0_1] 39 (0,0)) (za0 BK243)):gb243≠gb244));have n6_:=qam.mk ((by rw[hg];exact Nat.ne_of_gt (qal (g:=gb243) (o:=.cells #[.int .i64 a0_0,.slice A0_1 l0_1.length c0_1] 39 (0,0)) (za0 BK243)):gb244≠gb243));clear BK243;clear HB;have BK243:=n0_;have HB:=n1_;have BK244:=n2_;have GW244:=n3_;have GE244:=n4_;have NB243_244:=n5_;have NB244_243:=n6_;clear n0_ n1_ n2_ n3_ n4_ n5_ n6_;clear hb hbox hg)|((with_reducible refine qak (N:=4) rfl ?_);refine qai ?hg (N:=4) ?hd (cs:=#[.int .i64 0,.slice none 0 0]) (t:=39) ?hr ?_;(case hd=>rfl);(case hg=>rfl);(case hr=>first|(go_simp;done)|(go_simp;rfl));intro gb245 hg w121 hbox hb;have n0_:=qam.mk (qae (g:=gb243) (o:=.cells #[.int .i64 a0_0,.slice A0_1 l0_1.length c0_1] 39 (0,0)) (za0 BK243) hb);have n1_:=qam.mk (qae (g:=gb244) (o:=.cells #[.int .i64 a1_0,.int .i64 a1_1,.slice A1_2 l1_2.length c1_2] 62 (0,0)) (za0 BK244) hb);have n2_:=qam.mk (qad (za3 HB GE243 GE244) hb);have n3_:=qam.mk (hbox);have n4_:=qam.mk ((by rw[hg];exact(qac (za3 HB GE243 GE244)):w.heap.size≤gb245));have n5_:=qam.mk ((by rw[hg];exact(qac (za3 HB GE243 GE244)):w.heap.size≤gb245));have n6_:=qam.mk ((by rw[hg];exact Nat.ne_of_lt (qal (g:=gb243) (o:=.cells #[.int .i64 a0_0,.slice A0_1 l0_1.length c0_1] 39 (0,0)) (za0 BK243)):gb243≠gb245));have n7_:=qam.mk ((by rw[hg];exact Nat.ne_of_gt (qal (g:=gb243) (o:=.cells #[.int .i64 a0_0,.slice A0_1 l0_1.length c0_1] 39 (0,0)) (za0 BK243)):gb245≠gb243));have n8_:=qam.mk ((by rw[hg];exact Nat.ne_of_lt (qal (g:=gb244) (o:=.cells #[.int .i64 a1_0,.int .i64 a1_1,.slice A1_2 l1_2.length c1_2] 62 (0,0)) (za0 BK244)):gb244≠gb245));have n9_:=qam.mk ((by rw[hg];exact Nat.ne_of_gt (qal (g:=gb244) (o:=.cells #[.int .i64 a1_0,.int .i64 a1_1,.slice A1_2 l1_2.length c1_2] 62 (0,0)) (za0 BK244)):gb245≠gb244));clear BK243;clear BK244;clear HB;have BK243:=n0_;have BK244:=n1_;have HB:=n2_;have BK245:=n3_;have GW245:=n4_;have GE245:=n5_;have NB243_245:=n6_;have NB245_243:=n7_;have NB244_245:=n8_;have NB245_244:=n9_;clear n0_ n1_ n2_ n3_ n4_ n5_ n6_ n7_ n8_ n9_;clear hb hbox hg;have hnb122:=NB243_244.out;have hnc122:=NB244_243.out;have hnb123:=NB243_245.out;have hnc123:=NB245_243.out;have hcz124_0:w121.cell? ⟨gb243,0,none⟩=some (.int .i64 a0_0):=(qab BK243.out 0).trans rfl;have hcz124_1:w121.cell? ⟨gb243,1,none⟩=some (.slice A0_1 l0_1.length c0_1):=(qab BK243.out 1).trans rfl;have hfz124_0:=qaa BK243.out 0;have hfz124_1:=qaa BK243.out 1;have hnb125:=NB244_245.out;have hnc125:=NB245_244.out;have hcz126_0:w121.cell? ⟨gb244,0,none⟩=some (.int .i64 a1_0):=(qab BK244.out 0).trans rfl;have hcz126_1:w121.cell? ⟨gb244,1,none⟩=some (.int .i64 a1_1):=(qab BK244.out 1).trans rfl;have hcz126_2:w121.cell? ⟨gb244,2,none⟩=some (.slice A1_2 l1_2.length c1_2):=(qab BK244.out 2).trans rfl;have hfz126_0:=qaa BK244.out 0;have hfz126_1:=qaa BK244.out 1;have hfz126_2:=qaa BK244.out 2)|((with_reducible refine qaj (f:=54) rfl ?_);refine goesL_ (some 10) rfl rfl Try.func54 (by kernel_rfl) rfl #[.agg #[.int .i64 a0_0,.slice A0_1 l0_1.length c0_1],.agg #[.int .i64 a1_0,.int .i64 a1_1,.slice A1_2 l1_2.length c1_2]] rfl (by(try simp only[List.map_toArray,List.map_cons,List.map_nil]);first|done|rfl|(simp only[List.length_drop,List.length_take];rfl)) ?_;(with_reducible refine(impl_StockMay.calls k a0_0 _ _ l0_1 a1_0 a1_1 _ _ l1_2 false _ ?side1 ?side2 ?side3 ?side4 A3.out).mono ?_);(case side1=>repeat(first|exact(Kd.C_below HR0_1.out HB.out)|(with_reducible refine Kd.C_alloc ?_ _)|(with_reducible refine Kd.C_drewN ?_ _)|(with_reducible refine Kd.C_drew ?_)));(case side2=>exact HC0_1.out);(case side3=>repeat(first|exact(Kd.C_below HR1_2.out HB.out)|(with_reducible refine Kd.C_alloc ?_ _)|(with_reducible refine Kd.C_drewN ?_ _)|(with_reducible refine Kd.C_drew ?_)));(case side4=>exact HC1_2.out);rintro e w127 ⟨rfl,hb⟩;refine⟨_,rfl,?_⟩;have n0_:=qam.mk (qae (g:=gb243) (o:=.cells #[.int .i64 a0_0,.slice A0_1 l0_1.length c0_1] 39 (0,0)) (za0 BK243) hb);have n1_:=qam.mk (qae (g:=gb244) (o:=.cells #[.int .i64 a1_0,.int .i64 a1_1,.slice A1_2 l1_2.length c1_2] 62 (0,0)) (za0 BK244) hb);have n2_:=qam.mk (qae (g:=gb245) (o:=.cells #[.int .i64 0,.slice none 0 0] 39 (0,0)) (za0 BK245) hb);have n3_:=qam.mk (qad (za5 HB GE243 GE244 GE245) hb);clear BK243;clear BK244;clear BK245;clear HB;have BK243:=n0_;have BK244:=n1_;have BK245:=n2_;have HB:=n3_;clear n0_ n1_ n2_ n3_;(try clear hb);(try clear hb2);(try clear hk);(try clear hi);have hcz128_0:w127.cell? ⟨gb245,0,none⟩=some (.int .i64 0):=(qab BK245.out 0).trans rfl;have hcz128_1:w127.cell? ⟨gb245,1,none⟩=some (.slice none 0 0):=(qab BK245.out 1).trans rfl;have hfz128_0:=qaa BK245.out 0;have hfz128_1:=qaa BK245.out 1))
  refine bodyPost_ret (results_ct rfl _ _ gb245 39 #[.int .i64 0,.slice none 0 0] (0,0) _ rfl (by(with_reducible repeat(first|refine qah ?_ _|refine qaf ?_|refine qag ?_ _));refine qan (cs:=#[.int .i64 0,.slice none 0 0]) ?_ 1 _ rfl;(with_reducible repeat(first|refine qah ?_ _|refine qaf ?_|refine qag ?_ _));refine qan (cs:=#[.int .i64 0,.slice none 0 0]) ?_ 0 _ rfl;(with_reducible repeat(first|refine qah ?_ _|refine qaf ?_|refine qag ?_ _));exact BK245.out) Try.underlying39 rfl (by kernel_rfl)) rfl ?_
  exact⟨_,za8,za16,za5 HB GE243 GE244 GE245⟩
end Go.Proofs.Ytbomcadjkcmcgaa.Print
