-- Written by squeeze.py, a program of this session, out of what print.sh and myprint.py had printed: cut to what is used, narrowed. Not trusted, Lean checks it.
import Derived.Test.YtkbjgmfghhgodaaZK
import Derived.Test.YtkbjgmfghhgodaaZc2
import Derived.Test.YtkbjgmfghhgodaaZe0
import Derived.Test.YtkbjgmfghhgodaaZn0
namespace Go.Proofs.Ytkbjgmfghhgodaa.Print
open Go.RowKit Go.Proofs.YtkbjgmfghhgodaaW.PrintWords Go.Proofs.YtkbjgmfghhgodaaW.PrintLast Go.Proofs.YtkbjgmfghhgodaaW.PrintMore
attribute [local go_sem] max2_int min2_int max_two min_two max_three min_three max_four min_four
set_option linter.unusedVariables false
set_option linter.unusedSimpArgs false
def spec_l71Rec.j0:Nat→List Int→Int→Int→Int→List Int→Option (Int × Int × List Int × Int)
 |0,_,_,_,_,_=>none
 |k+1,x1000,x1001,x337000,x337001,x337002=>(spec_l6Rd_pick.f k x1000 x1001 20).bind fun bt346=>(if bt346.1=0 then((spec_l6Rd_pick.f k x1000 bt346.2 9).bind fun bt348=>(some (bt348.1,x337001,x337002,bt348.2))) else(if bt346.1=1 then((some (([0,6,7]:List Int):List Int)).bind fun y350=>((spec_l6Rd_pick.f k x1000 bt346.2 3).bind fun bt353=>(if 0≤bt353.1 then(if bt353.1<(y350.length:Int) then(some (x337000,rd y350 bt353.1,x337002,bt353.2)) else(none)) else(none)))) else(if bt346.1=2 then((spec_l6Rd_pick.f k x1000 bt346.2 5).bind fun bt356=>(if x337002.length<17592186044416 then(some (x337000,x337001,(x337002++[bt356.1]),bt356.2)) else(none))) else(some (x337000,x337001,x337002,bt346.2)))))
def spec_l71Rec.f (k:Nat) (s0_0:List Int) (s0_1:Int):Option (Int × Int × List Int × Int):=(spec_l6Rd_pick.f k s0_0 s0_1 7).bind fun bt329=>((spec_l6Rd_pick.f k s0_0 bt329.2 4).bind fun bt331=>(if(wrap64 (1+bt329.1))=1 then((spec_l6Rd_pick.f k s0_0 bt331.2 3).bind fun bt337=>(spec_l71Rec.j0 k s0_0 bt337.2 (wrap64 (1+bt329.1)) (wrap64 (1+bt331.1)) (([wrap64 (1+bt337.1)]:List Int)))) else(if(wrap64 (1+bt329.1))=4 then((spec_l71Many.f k s0_0 bt331.2).bind fun bt342=>(spec_l71Rec.j0 k s0_0 bt342.2 (wrap64 (1+bt329.1)) (wrap64 (1+bt331.1)) bt342.1)) else(spec_l71Rec.j0 k s0_0 bt331.2 (wrap64 (1+bt329.1)) (wrap64 (1+bt331.1)) (([]:List Int))))))
theorem spec_l71Rec.mono_l:∀k,(∀y0 y1 y2 y3 y4,LeO (spec_l71Rec.j0 k y0 y1 y2 y3 y4) (spec_l71Rec.j0 (k+1) y0 y1 y2 y3 y4))
 |0=>fun _ _ _ _ _ r h=>by simp[spec_l71Rec.j0] at h
 |k+1=>by
  have ih0:=spec_l71Rec.mono_l k
  ·intro y0 y1 y2 y3 y4
   unfold spec_l71Rec.j0
   repeat' first
   |(with_reducible exact ih0 _ _ _ _ _)
   |(with_reducible exact spec_l6Rd_pick.mono _ _ _ _)
   |(with_reducible exact spec_l71Many.mono _ _ _)
   |(with_reducible exact LeO.refl _)
   |(with_reducible exact LeO.none _)
   |(with_reducible refine LeO.ite ?_ ?_)
   |(with_reducible refine LeO.bind ?_ (fun _=>?_))
   |exact ih0 _ _ _ _ _
   |exact spec_l6Rd_pick.mono _ _ _ _
   |exact spec_l71Many.mono _ _ _
   |exact LeO.none _
   |refine LeO.ite ?_ ?_
   |refine LeO.bind ?_ (fun _=>?_)
theorem spec_l71Rec.mono:∀a0 a1 k,LeO (spec_l71Rec.f k a0 a1) (spec_l71Rec.f (k+1) a0 a1):=by
 intro a0 a1 k
 have ih0:=spec_l71Rec.mono_l k
 unfold spec_l71Rec.f
 repeat' first
   |(with_reducible exact ih0 _ _ _ _ _)
   |(with_reducible exact spec_l6Rd_pick.mono _ _ _ _)
   |(with_reducible exact spec_l71Many.mono _ _ _)
   |(with_reducible exact LeO.refl _)
   |(with_reducible exact LeO.none _)
   |(with_reducible refine LeO.ite ?_ ?_)
   |(with_reducible refine LeO.bind ?_ (fun _=>?_))
   |exact ih0 _ _ _ _ _
   |exact spec_l6Rd_pick.mono _ _ _ _
   |exact spec_l71Many.mono _ _ _
   |exact LeO.none _
   |refine LeO.ite ?_ ?_
   |refine LeO.bind ?_ (fun _=>?_)
def spec_l71Rec.T13:Bool × List (List Nat × List Nat):=(true,[([],[]),([0],[0]),([],[]),([2],[2]),([3],[3]),([1,4,3],[1,4]),([0,1,2,3,4,5],[]),([6,5,5,0,1,2,3,4,5],[5,6])])
def spec_l71Rec.B13:List Nat:=[0,1,0,4,12,31,63,127]
theorem spec_l71Rec.tab13:rtab .any (opsOf Try.f62 13)=spec_l71Rec.T13:=by kernel_rfl
theorem spec_l71Rec.bits13:waitsOk spec_l71Rec.T13.2 spec_l71Rec.B13=true:=by kernel_rfl
set_option maxHeartbeats 8000000 in
set_option maxRecDepth 100000 in
theorem spec_l71Rec.calls (k:Nat) (g:Nat) (s0_0:List Int) (s0_1:Int) (r1:Int) (r2:Int) (r3:List Int) (r4:Int) (w0 w:World) (hI:IsS111 w0 w g s0_0 s0_1) (hB:Below w0.heap.size w0 w) (h:spec_l71Rec.f k s0_0 s0_1=some (r1,r2,r3,r4)) :
  Calls Try.prog 62 #[.pointer (some ⟨g,0,none⟩)] w fun e w'=>∃v2_:Value,e=.returned (.agg #[.int .i64 r1,.int .i64 r2,v2_])∧Kd.Q (Kd.int .i64) 3 w' w.heap.size (fun _=>True) v2_ r3∧IsS111 w0 w' g s0_0 r4∧Below w0.heap.size w0 w'∧KeepBut w w' g none:=by
 have hu45:=Try.underlying45
 have HI0:=qbb.mk hI
 have HK:=qbb.mk (KeepBut.refl w g none)
 have HL:=qbb.mk hB.size
 clear hI
 have HW0:=qbb.mk hB.size
 have HB:=qbb.mk hB
 clear hB
 have H:((spec_l6Rd_pick.f k s0_0 s0_1 7).bind fun bt329=>((spec_l6Rd_pick.f k s0_0 bt329.2 4).bind fun bt331=>(if(wrap64 (1+bt329.1))=1 then((spec_l6Rd_pick.f k s0_0 bt331.2 3).bind fun bt337=>(spec_l71Rec.j0 k s0_0 bt337.2 (wrap64 (1+bt329.1)) (wrap64 (1+bt331.1)) (([wrap64 (1+bt337.1)]:List Int)))) else(if(wrap64 (1+bt329.1))=4 then((spec_l71Many.f k s0_0 bt331.2).bind fun bt342=>(spec_l71Rec.j0 k s0_0 bt342.2 (wrap64 (1+bt329.1)) (wrap64 (1+bt331.1)) bt342.1)) else(spec_l71Rec.j0 k s0_0 bt331.2 (wrap64 (1+bt329.1)) (wrap64 (1+bt331.1)) (([]:List Int)))))))=some (r1,r2,r3,r4):=h
 clear h
 replace H:=Option.bind_eq_some_iff.mp H
 obtain⟨⟨t329,t330⟩,A20,H⟩:=H
 replace H:((spec_l6Rd_pick.f k s0_0 t330 4).bind fun bt331=>(if(wrap64 (1+t329))=1 then((spec_l6Rd_pick.f k s0_0 bt331.2 3).bind fun bt337=>(spec_l71Rec.j0 k s0_0 bt337.2 (wrap64 (1+t329)) (wrap64 (1+bt331.1)) (([wrap64 (1+bt337.1)]:List Int)))) else(if(wrap64 (1+t329))=4 then((spec_l71Many.f k s0_0 bt331.2).bind fun bt342=>(spec_l71Rec.j0 k s0_0 bt342.2 (wrap64 (1+t329)) (wrap64 (1+bt331.1)) bt342.1)) else(spec_l71Rec.j0 k s0_0 bt331.2 (wrap64 (1+t329)) (wrap64 (1+bt331.1)) (([]:List Int))))))=some (r1,r2,r3,r4):=H
 have A2:=qbb.mk A20
 clear A20
 replace H:=Option.bind_eq_some_iff.mp H
 obtain⟨⟨t331,t332⟩,A30,H⟩:=H
 replace H:(if(wrap64 (1+t329))=1 then((spec_l6Rd_pick.f k s0_0 t332 3).bind fun bt337=>(spec_l71Rec.j0 k s0_0 bt337.2 (wrap64 (1+t329)) (wrap64 (1+t331)) (([wrap64 (1+bt337.1)]:List Int)))) else(if(wrap64 (1+t329))=4 then((spec_l71Many.f k s0_0 t332).bind fun bt342=>(spec_l71Rec.j0 k s0_0 bt342.2 (wrap64 (1+t329)) (wrap64 (1+t331)) bt342.1)) else(spec_l71Rec.j0 k s0_0 t332 (wrap64 (1+t329)) (wrap64 (1+t331)) (([]:List Int)))))=some (r1,r2,r3,r4):=H
 have A3:=qbb.mk A30
 clear A30
 obtain⟨y333,hy333⟩:∃y_:List Int,y_=(([]:List Int)):=⟨_,rfl⟩
 replace H:(if(wrap64 (1+t329))=1 then((spec_l6Rd_pick.f k s0_0 t332 3).bind fun bt337=>(spec_l71Rec.j0 k s0_0 bt337.2 (wrap64 (1+t329)) (wrap64 (1+t331)) (([wrap64 (1+bt337.1)]:List Int)))) else(if(wrap64 (1+t329))=4 then((spec_l71Many.f k s0_0 t332).bind fun bt342=>(spec_l71Rec.j0 k s0_0 bt342.2 (wrap64 (1+t329)) (wrap64 (1+t331)) bt342.1)) else(spec_l71Rec.j0 k s0_0 t332 (wrap64 (1+t329)) (wrap64 (1+t331)) y333)))=some (r1,r2,r3,r4):=by first|(rw[hy333];with_reducible exact H)|(have H2_:=(Option.bind_some _ _).symm.trans H;rw[hy333];with_reducible exact H2_)|(have H2_:=(Option.bind_some _ _).symm.trans H;with_reducible exact H2_)|with_reducible exact H|(rw[hy333];exact H)|exact H
 have Ny333:=qbb.mk hy333
 clear hy333
 have HC4:=qbb.mk H
 clear H
 go_enter Try.func62,Try.ntmps62
 go_upto_block 0 with(first|((with_reducible refine qav (N:=2) rfl ?_);refine qat ?hg (N:=2) ?hd (cs:=#[.int .i64 0,.int .i64 0,.slice none 0 0]) (t:=45) ?hr ?_;(case hd=>rfl);(case hg=>rfl);(case hr=>first|(go_simp;done)|(go_simp;rfl));intro gb328 hg w5 hbox hb;have n0_:=qbb.mk (IsS111.below (by repeat(first|(with_reducible first|exact HI0.out|apply IsS111.alloc|apply IsS111.drewN|apply IsS111.drew|apply IsS111.set_1)|exact HI0.out)) hb);have n1_:=qbb.mk (KeepBut.trans (by repeat(first|(with_reducible first|exact HK.out|apply KeepBut.set_|apply qar|apply qau|apply qas)|exact HK.out)) (KeepBut.of_below hb g none) (.inl rfl));have n2_:=qbb.mk (qak (by repeat(first|(with_reducible first|exact HB.out|apply qac|apply qaa|apply qab|refine qag ?_ (IsS111.ge HI0.out))|exact HB.out)) hb);have n3_:=qbb.mk (hbox);have n4_:=qbb.mk ((by rw[hg];exact(keep_size (w:=w) (g:=g) (row:=none) (by repeat(first|(with_reducible first|exact HK.out|apply KeepBut.set_|apply qar|apply qau|apply qas)|exact HK.out))):w.heap.size≤gb328));have n5_:=qbb.mk ((Nat.le_trans HW0.out (by rw[hg];exact(keep_size (w:=w) (g:=g) (row:=none) (by repeat(first|(with_reducible first|exact HK.out|apply KeepBut.set_|apply qar|apply qau|apply qas)|exact HK.out))):w.heap.size≤gb328):w0.heap.size≤gb328));have n6_:=qbb.mk ((by rw[hg];exact Nat.ne_of_lt (IsS111.lt (show IsS111 w0 _ g s0_0 s0_1 from by repeat(first|(with_reducible first|exact HI0.out|apply IsS111.alloc|apply IsS111.drewN|apply IsS111.drew|apply IsS111.set_1)|exact HI0.out))):g≠gb328));have n7_:=qbb.mk ((by rw[hg];exact Nat.ne_of_gt (IsS111.lt (show IsS111 w0 _ g s0_0 s0_1 from by repeat(first|(with_reducible first|exact HI0.out|apply IsS111.alloc|apply IsS111.drewN|apply IsS111.drew|apply IsS111.set_1)|exact HI0.out))):gb328≠g));clear HI0;clear HK;clear HB;have HI0:=n0_;have HK:=n1_;have HB:=n2_;have BK328:=n3_;have GW328:=n4_;have GE328:=n5_;have NB0_328:=n6_;have NB328_0:=n7_;clear n0_ n1_ n2_ n3_ n4_ n5_ n6_ n7_;clear hb hbox hg)|((with_reducible refine qao (f:=53) rfl ?_);refine qax (some 5) rfl rfl Try.func53 (by kernel_rfl) rfl #[.pointer (some ⟨g,0,none⟩),.int .i64 7] rfl (by(try simp only[List.map_toArray,List.map_cons,List.map_nil]);first|done|rfl|(simp only[List.length_drop,List.length_take];rfl)) ?_;(with_reducible refine(spec_l6Rd_pick.calls k g s0_0 s0_1 7 t329 t330 w0 _ ?side1 ?side2 A2.out).mono ?_);(case side1=>repeat(first|(with_reducible first|exact HI0.out|apply IsS111.alloc|apply IsS111.drewN|apply IsS111.drew|apply IsS111.set_1|refine IsS111.far ?_ NB0_328.out _)|exact HI0.out));(case side2=>repeat(first|(with_reducible first|exact HB.out|apply qac|apply qaa|apply qab|refine qag ?_ (IsS111.ge HI0.out)|refine qag ?_ GE328.out)|exact HB.out));rintro e w6 ⟨rfl,hi,hb,hk⟩;refine⟨_,rfl,?_⟩;have n0_:=qbb.mk (KeepBut.blk hk (g':=gb328) (o:=.cells #[.int .i64 0,.int .i64 0,.slice none 0 0] 45 (0,0)) (by(with_reducible repeat(first|refine qae ?_ _|refine qaf ?_|refine qad ?_ _));exact BK328.out) NB328_0.out (by simp));have n1_:=qbb.mk (KeepBut.trans (by repeat(first|(with_reducible first|exact HK.out|apply KeepBut.set_|apply qar|apply qau|apply qas|refine qaw ?_ GW328.out _)|exact HK.out)) hk (.inl rfl));have n2_:=qbb.mk (hb);have n3_:=qbb.mk (hi);clear BK328;clear HK;clear HB;clear HI0;have BK328:=n0_;have HK:=n1_;have HB:=n2_;have HI0:=n3_;clear n0_ n1_ n2_ n3_;(try clear hb);(try clear hb2);(try clear hk);(try clear hi))|((with_reducible refine qao (f:=53) rfl ?_);refine qax (some 8) rfl rfl Try.func53 (by kernel_rfl) rfl #[.pointer (some ⟨g,0,none⟩),.int .i64 4] rfl (by(try simp only[List.map_toArray,List.map_cons,List.map_nil]);first|done|rfl|(simp only[List.length_drop,List.length_take];rfl)) ?_;(with_reducible refine(spec_l6Rd_pick.calls k g s0_0 t330 4 t331 t332 w0 _ ?side1 ?side2 A3.out).mono ?_);(case side1=>repeat(first|(with_reducible first|exact HI0.out|apply IsS111.alloc|apply IsS111.drewN|apply IsS111.drew|apply IsS111.set_1|refine IsS111.far ?_ NB0_328.out _)|exact HI0.out));(case side2=>repeat(first|(with_reducible first|exact HB.out|apply qac|apply qaa|apply qab|refine qag ?_ (IsS111.ge HI0.out)|refine qag ?_ GE328.out)|exact HB.out));rintro e w7 ⟨rfl,hi,hb,hk⟩;refine⟨_,rfl,?_⟩;have n0_:=qbb.mk (KeepBut.blk hk (g':=gb328) (o:=.cells #[.int .i64 0,.int .i64 0,.slice none 0 0] 45 (0,0)) (by(with_reducible repeat(first|refine qae ?_ _|refine qaf ?_|refine qad ?_ _));exact BK328.out) NB328_0.out (by simp));have n1_:=qbb.mk (KeepBut.trans (by repeat(first|(with_reducible first|exact HK.out|apply KeepBut.set_|apply qar|apply qau|apply qas|refine qaw ?_ GW328.out _)|exact HK.out)) hk (.inl rfl));have n2_:=qbb.mk (hb);have n3_:=qbb.mk (hi);clear BK328;clear HK;clear HB;clear HI0;have BK328:=n0_;have HK:=n1_;have HB:=n2_;have HI0:=n3_;clear n0_ n1_ n2_ n3_;(try clear hb);(try clear hb2);(try clear hk);(try clear hi))|((with_reducible refine qav (N:=10) rfl ?_);refine Kd.R_lit (Kd.int .i64) _ 3 ?hg (N:=10) ?hd (xs:=([]:List Int)) (inner:=[]) (ok:=fun _=>True) (okp:=fun _=>True) ?hr ?hp (fun _ hk=>hk) trivial (Below.refl _ _) (Nat.le_refl _) (by simp) ?_;(case hd=>rfl);(case hg=>rfl);(case hr=>first|(go_simp;done)|(go_simp;rfl));(case hp=>exact(Reps.none _ _));intro v334 w8 ho9 hb hg_ hnew_;clear hg_ hnew_;(first|rw[←Ny333.out] at ho9|(simp only[Int.reduceToNat] at ho9;rw[←Ny333.out] at ho9));have n0_:=qbb.mk (Kd.R_lower ho9 (keep_size (w:=w) (g:=g) (row:=none) (by repeat(first|(with_reducible first|exact HK.out|apply KeepBut.set_|apply qar|apply qau|apply qas|refine qaw ?_ GW328.out _)|exact HK.out))));have n1_:=qbb.mk (IsS111.below (by repeat(first|(with_reducible first|exact HI0.out|apply IsS111.alloc|apply IsS111.drewN|apply IsS111.drew|apply IsS111.set_1|refine IsS111.far ?_ NB0_328.out _)|exact HI0.out)) hb);have n2_:=qbb.mk (qal (g:=gb328) (o:=.cells #[.int .i64 0,.int .i64 0,.slice none 0 0] 45 (0,0)) (by(with_reducible repeat(first|refine qae ?_ _|refine qaf ?_|refine qad ?_ _));exact BK328.out) hb);have n3_:=qbb.mk (KeepBut.trans (by repeat(first|(with_reducible first|exact HK.out|apply KeepBut.set_|apply qar|apply qau|apply qas|refine qaw ?_ GW328.out _)|exact HK.out)) (KeepBut.of_below hb g none) (.inl rfl));have n4_:=qbb.mk (qak (by repeat(first|(with_reducible first|exact HB.out|apply qac|apply qaa|apply qab|refine qag ?_ (IsS111.ge HI0.out)|refine qag ?_ GE328.out)|exact HB.out)) hb);clear HI0;clear BK328;clear HK;clear HB;have HO335:=n0_;have HI0:=n1_;have BK328:=n2_;have HK:=n3_;have HB:=n4_;clear n0_ n1_ n2_ n3_ n4_;clear hb ho9;obtain⟨Ao10,co10,eo10⟩:=Kd.R_slice HO335.out;subst eo10)|((with_reducible refine qav (N:=3) rfl ?_);refine qat ?hg (N:=3) ?hd (cs:=#[.int .i64 0,.int .i64 0,.slice none 0 0]) (t:=45) ?hr ?_;(case hd=>rfl);(case hg=>rfl);(case hr=>first|(go_simp;done)|(go_simp;rfl));intro gb336 hg w11 hbox hb;have n0_:=qbb.mk (Kd.R_below (by(with_reducible repeat(first|apply Kd.R_alloc|apply Kd.R_drewN|apply Kd.R_drew));exact HO335.out) hb);have n1_:=qbb.mk (IsS111.below (by repeat(first|(with_reducible first|exact HI0.out|apply IsS111.alloc|apply IsS111.drewN|apply IsS111.drew|apply IsS111.set_1|refine IsS111.far ?_ NB0_328.out _)|exact HI0.out)) hb);have n2_:=qbb.mk (qal (g:=gb328) (o:=.cells #[.int .i64 0,.int .i64 0,.slice none 0 0] 45 (0,0)) (by(with_reducible repeat(first|refine qae ?_ _|refine qaf ?_|refine qad ?_ _));exact BK328.out) hb);have n3_:=qbb.mk (KeepBut.trans (by repeat(first|(with_reducible first|exact HK.out|apply KeepBut.set_|apply qar|apply qau|apply qas|refine qaw ?_ GW328.out _)|exact HK.out)) (KeepBut.of_below hb g none) (.inl rfl));have n4_:=qbb.mk (qak (by repeat(first|(with_reducible first|exact HB.out|apply qac|apply qaa|apply qab|refine qag ?_ (IsS111.ge HI0.out)|refine qag ?_ GE328.out)|exact HB.out)) hb);have n5_:=qbb.mk (hbox);have n6_:=qbb.mk ((by rw[hg];exact(keep_size (w:=w) (g:=g) (row:=none) (by repeat(first|(with_reducible first|exact HK.out|apply KeepBut.set_|apply qar|apply qau|apply qas|refine qaw ?_ GW328.out _)|exact HK.out))):w.heap.size≤gb336));have n7_:=qbb.mk ((Nat.le_trans HW0.out (by rw[hg];exact(keep_size (w:=w) (g:=g) (row:=none) (by repeat(first|(with_reducible first|exact HK.out|apply KeepBut.set_|apply qar|apply qau|apply qas|refine qaw ?_ GW328.out _)|exact HK.out))):w.heap.size≤gb336):w0.heap.size≤gb336));have n8_:=qbb.mk ((by rw[hg];exact Nat.ne_of_lt (qbc (g:=gb328) (o:=.cells #[.int .i64 0,.int .i64 0,.slice none 0 0] 45 (0,0)) (by(with_reducible repeat(first|refine qae ?_ _|refine qaf ?_|refine qad ?_ _));exact BK328.out)):gb328≠gb336));have n9_:=qbb.mk ((by rw[hg];exact Nat.ne_of_gt (qbc (g:=gb328) (o:=.cells #[.int .i64 0,.int .i64 0,.slice none 0 0] 45 (0,0)) (by(with_reducible repeat(first|refine qae ?_ _|refine qaf ?_|refine qad ?_ _));exact BK328.out)):gb336≠gb328));have n10_:=qbb.mk ((by rw[hg];exact Nat.ne_of_lt (IsS111.lt (show IsS111 w0 _ g s0_0 t332 from by repeat(first|(with_reducible first|exact HI0.out|apply IsS111.alloc|apply IsS111.drewN|apply IsS111.drew|apply IsS111.set_1|refine IsS111.far ?_ NB0_328.out _)|exact HI0.out))):g≠gb336));have n11_:=qbb.mk ((by rw[hg];exact Nat.ne_of_gt (IsS111.lt (show IsS111 w0 _ g s0_0 t332 from by repeat(first|(with_reducible first|exact HI0.out|apply IsS111.alloc|apply IsS111.drewN|apply IsS111.drew|apply IsS111.set_1|refine IsS111.far ?_ NB0_328.out _)|exact HI0.out))):gb336≠g));clear HO335;clear HI0;clear BK328;clear HK;clear HB;have HO335:=n0_;have HI0:=n1_;have BK328:=n2_;have HK:=n3_;have HB:=n4_;have BK336:=n5_;have GW336:=n6_;have GE336:=n7_;have NB328_336:=n8_;have NB336_328:=n9_;have NB0_336:=n10_;have NB336_0:=n11_;clear n0_ n1_ n2_ n3_ n4_ n5_ n6_ n7_ n8_ n9_ n10_ n11_;clear hb hbox hg;have hnb12:=NB336_328.out;have hnc12:=NB328_336.out;have hnb13:=NB336_0.out;have hnc13:=NB0_336.out;have hcz14_0:w11.cell? ⟨gb336,0,none⟩=some (.int .i64 0):=(qai BK336.out 0).trans rfl;have hcz14_1:w11.cell? ⟨gb336,1,none⟩=some (.int .i64 0):=(qai BK336.out 1).trans rfl;have hcz14_2:w11.cell? ⟨gb336,2,none⟩=some (.slice none 0 0):=(qai BK336.out 2).trans rfl;have hfz14_0:=qah BK336.out 0;have hfz14_1:=qah BK336.out 1;have hfz14_2:=qah BK336.out 2))
 (try simp only[Act.put,List.setIfInBounds_toArray,List.set_cons_zero,List.set_cons_succ])
 go_cut [] (fun wc=>∃(kq:Nat) (x1001_3:Int) (x337002_3:List Int) (u337002:Value),qbb (spec_l71Rec.j0 kq s0_0 x1001_3 (wrap64 (1+t329)) (wrap64 (1+t331)) x337002_3=some (r1,r2,r3,r4))∧qbb (kq≤k)∧qbb (Kd.Q (Kd.int .i64) 3 wc w.heap.size (fun _=>True) u337002 x337002_3)∧qbb (wc.heap[gb328]?=some (.cells #[.int .i64 0,.int .i64 0,(.slice none 0 0)] 45 (0,0)))∧qbb (wc.heap[gb336]?=some (.cells #[.int .i64 (wrap64 (1+t329)),.int .i64 (wrap64 (1+t331)),u337002] 45 (0,0)))∧qbb (IsS111 w0 wc g s0_0 x1001_3)∧qbb (KeepBut w wc g none)∧qbb (Below w0.heap.size w0 wc))
 case first=>
  have H:=HC4.out
  clear HC4
  by_cases c15:(wrap64 (1+t329))=1
  ·rw[if_pos c15] at H
   have c15b0:((wrap64 (1+t329)) == 1)=true:=beq_iff_eq.mpr c15
   have c15b1:((wrap64 (1+t329)) != 1)=false:=bne_eq_false_iff_eq.mpr c15
   clear c15
   (first|rw[c15b0]|(simp only[qay,qaz];rw[c15b0])|skip)
   replace H:=Option.bind_eq_some_iff.mp H
   obtain⟨⟨t337,t338⟩,A160,H⟩:=H
   replace H:(spec_l71Rec.j0 k s0_0 t338 (wrap64 (1+t329)) (wrap64 (1+t331)) (([wrap64 (1+t337)]:List Int)))=some (r1,r2,r3,r4):=H
   have A16:=qbb.mk A160
   clear A160
   obtain⟨y339,hy339⟩:∃y_:List Int,y_=(([wrap64 (1+t337)]:List Int)):=⟨_,rfl⟩
   replace H:(spec_l71Rec.j0 k s0_0 t338 (wrap64 (1+t329)) (wrap64 (1+t331)) y339)=some (r1,r2,r3,r4):=by first|(rw[hy339];with_reducible exact H)|(have H2_:=(Option.bind_some _ _).symm.trans H;rw[hy339];with_reducible exact H2_)|(have H2_:=(Option.bind_some _ _).symm.trans H;with_reducible exact H2_)|with_reducible exact H|(rw[hy339];exact H)|exact H
   have Ny339:=qbb.mk hy339
   clear hy339
   have H':=qbb.mk H
   clear H
   go_wp2_with(first|((with_reducible refine qao (f:=53) rfl ?_);refine qax (some 17) rfl rfl Try.func53 (by kernel_rfl) rfl #[.pointer (some ⟨g,0,none⟩),.int .i64 3] rfl (by(try simp only[List.map_toArray,List.map_cons,List.map_nil]);first|done|rfl|(simp only[List.length_drop,List.length_take];rfl)) ?_;(with_reducible refine(spec_l6Rd_pick.calls k g s0_0 t332 3 t337 t338 w0 _ ?side1 ?side2 A16.out).mono ?_);(case side1=>repeat(first|(with_reducible first|exact HI0.out|apply IsS111.alloc|apply IsS111.drewN|apply IsS111.drew|apply IsS111.set_1|refine IsS111.far ?_ NB0_328.out _|refine IsS111.far ?_ NB0_336.out _)|exact HI0.out));(case side2=>repeat(first|(with_reducible first|exact HB.out|apply qac|apply qaa|apply qab|refine qag ?_ (IsS111.ge HI0.out)|refine qag ?_ GE328.out|refine qag ?_ GE336.out)|exact HB.out));rintro e w17 ⟨rfl,hi,hb,hk⟩;refine⟨_,rfl,?_⟩;have n0_:=qbb.mk (KeepBut.blk hk (g':=gb328) (o:=.cells #[.int .i64 0,.int .i64 0,.slice none 0 0] 45 (0,0)) (by(with_reducible repeat(first|refine qae ?_ _|refine qaf ?_|refine qad ?_ _));refine qap ?_ NB328_336.out _;(with_reducible repeat(first|refine qae ?_ _|refine qaf ?_|refine qad ?_ _));refine qap ?_ NB328_336.out _;(with_reducible repeat(first|refine qae ?_ _|refine qaf ?_|refine qad ?_ _));refine qap ?_ NB328_336.out _;(with_reducible repeat(first|refine qae ?_ _|refine qaf ?_|refine qad ?_ _));exact BK328.out) NB328_0.out (by simp));have n1_:=qbb.mk (Kd.R_mono (Kd.R_keep (IsS111.apart (show IsS111 w0 _ g s0_0 t332 from by repeat(first|(with_reducible first|exact HI0.out|apply IsS111.alloc|apply IsS111.drewN|apply IsS111.drew|apply IsS111.set_1|refine IsS111.far ?_ NB0_328.out _|refine IsS111.far ?_ NB0_336.out _)|exact HI0.out)) (by(with_reducible repeat(first|apply Kd.R_alloc|apply Kd.R_drewN|apply Kd.R_drew));exact(Kd.R_mono (Kd.R_far (p:=⟨gb336,2,none⟩) (Kd.R_far (p:=⟨gb336,1,none⟩) (Kd.R_far (p:=⟨gb336,0,none⟩) (Kd.R_types HO335.out BK336.out (by decide)) (fun _ hk=>hk.2) (.int .i64 (wrap64 (1+t329)))) (fun _ hk=>hk.2) (.int .i64 (wrap64 (1+t331)))) (fun _ hk=>hk.2) (.slice Ao10 y333.length co10)) (fun _ h_=>h_.1))) (by decide)) hk (fun _ h=>h.2)) (fun _ h=>h.1));have n2_:=qbb.mk (KeepBut.blk hk (g':=gb336) (o:=.cells #[.int .i64 (wrap64 (1+t329)),.int .i64 (wrap64 (1+t331)),.slice Ao10 y333.length co10] 45 (0,0)) (by(with_reducible repeat(first|refine qae ?_ _|refine qaf ?_|refine qad ?_ _));refine qaq (cs:=#[.int .i64 (wrap64 (1+t329)),.int .i64 (wrap64 (1+t331)),.slice none 0 0]) ?_ 2 _ rfl;(with_reducible repeat(first|refine qae ?_ _|refine qaf ?_|refine qad ?_ _));refine qaq (cs:=#[.int .i64 (wrap64 (1+t329)),.int .i64 0,.slice none 0 0]) ?_ 1 _ rfl;(with_reducible repeat(first|refine qae ?_ _|refine qaf ?_|refine qad ?_ _));refine qaq (cs:=#[.int .i64 0,.int .i64 0,.slice none 0 0]) ?_ 0 _ rfl;(with_reducible repeat(first|refine qae ?_ _|refine qaf ?_|refine qad ?_ _));exact BK336.out) NB336_0.out (by simp));have n3_:=qbb.mk (KeepBut.trans (by repeat(first|(with_reducible first|exact HK.out|apply KeepBut.set_|apply qar|apply qau|apply qas|refine qaw ?_ GW328.out _|refine qaw ?_ GW336.out _)|exact HK.out)) hk (.inl rfl));have n4_:=qbb.mk (hb);have n5_:=qbb.mk (hi);clear BK328;clear HO335;clear BK336;clear HK;clear HB;clear HI0;have BK328:=n0_;have HO335:=n1_;have BK336:=n2_;have HK:=n3_;have HB:=n4_;have HI0:=n5_;clear n0_ n1_ n2_ n3_ n4_ n5_;(try clear hb);(try clear hb2);(try clear hk);(try clear hi))|((with_reducible refine qav (N:=19) rfl ?_);refine Kd.R_lit (Kd.int .i64) _ 3 ?hg (N:=19) ?hd (xs:=([wrap64 (1+t337)]:List Int)) (inner:=[.int .i64 (wrap64 (1+t337))]) (ok:=fun _=>True) (okp:=fun _=>True) ?hr ?hp (fun _ hk=>hk) trivial (Below.refl _ _) (Nat.le_refl _) (by simp) ?_;(case hd=>rfl);(case hg=>rfl);(case hr=>first|(go_simp;done)|(go_simp;rfl));(case hp=>exact(Reps.one (show Kd.M (Kd.int .i64) _ _ _ (wrap64 (1+t337)) [.int .i64 (wrap64 (1+t337))] from rfl) (Reps.none _ _)));intro v340 w18 ho19 hb hg_ hnew_;clear hg_ hnew_;(first|rw[←Ny339.out] at ho19|(simp only[Int.reduceToNat] at ho19;rw[←Ny339.out] at ho19));have n0_:=qbb.mk (Kd.R_elder' (by(with_reducible repeat(first|apply Kd.R_alloc|apply Kd.R_drewN|apply Kd.R_drew));exact HO335.out) (Kd.R_base ho19) hb);have n1_:=qbb.mk (Kd.R_lower (Kd.R_new' ho19 (Kd.R_lt (by(with_reducible repeat(first|apply Kd.R_alloc|apply Kd.R_drewN|apply Kd.R_drew));exact HO335.out))) (keep_size (w:=w) (g:=g) (row:=none) (by repeat(first|(with_reducible first|exact HK.out|apply KeepBut.set_|apply qar|apply qau|apply qas|refine qaw ?_ GW328.out _|refine qaw ?_ GW336.out _)|exact HK.out))));have n2_:=qbb.mk (IsS111.below (by repeat(first|(with_reducible first|exact HI0.out|apply IsS111.alloc|apply IsS111.drewN|apply IsS111.drew|apply IsS111.set_1|refine IsS111.far ?_ NB0_328.out _|refine IsS111.far ?_ NB0_336.out _)|exact HI0.out)) hb);have n3_:=qbb.mk (qal (g:=gb328) (o:=.cells #[.int .i64 0,.int .i64 0,.slice none 0 0] 45 (0,0)) (by(with_reducible repeat(first|refine qae ?_ _|refine qaf ?_|refine qad ?_ _));exact BK328.out) hb);have n4_:=qbb.mk (qal (g:=gb336) (o:=.cells #[.int .i64 (wrap64 (1+t329)),.int .i64 (wrap64 (1+t331)),.slice Ao10 y333.length co10] 45 (0,0)) (by(with_reducible repeat(first|refine qae ?_ _|refine qaf ?_|refine qad ?_ _));exact BK336.out) hb);have n5_:=qbb.mk (KeepBut.trans (by repeat(first|(with_reducible first|exact HK.out|apply KeepBut.set_|apply qar|apply qau|apply qas|refine qaw ?_ GW328.out _|refine qaw ?_ GW336.out _)|exact HK.out)) (KeepBut.of_below hb g none) (.inl rfl));have n6_:=qbb.mk (qak (by repeat(first|(with_reducible first|exact HB.out|apply qac|apply qaa|apply qab|refine qag ?_ (IsS111.ge HI0.out)|refine qag ?_ GE328.out|refine qag ?_ GE336.out)|exact HB.out)) hb);clear HO335;clear HI0;clear BK328;clear BK336;clear HK;clear HB;have HO335:=n0_;have HO341:=n1_;have HI0:=n2_;have BK328:=n3_;have BK336:=n4_;have HK:=n5_;have HB:=n6_;clear n0_ n1_ n2_ n3_ n4_ n5_ n6_;clear hb ho19;obtain⟨Ao20,co20,eo20⟩:=Kd.R_slice HO341.out;subst eo20;have hnb21:=NB336_328.out;have hnc21:=NB328_336.out;have hnb22:=NB336_0.out;have hnc22:=NB0_336.out;have hcz23_0:w18.cell? ⟨gb336,0,none⟩=some (.int .i64 (wrap64 (1+t329))):=(qai BK336.out 0).trans rfl;have hcz23_1:w18.cell? ⟨gb336,1,none⟩=some (.int .i64 (wrap64 (1+t331))):=(qai BK336.out 1).trans rfl;have hcz23_2:w18.cell? ⟨gb336,2,none⟩=some (.slice Ao10 y333.length co10):=(qai BK336.out 2).trans rfl;have hfz23_0:=qah BK336.out 0;have hfz23_1:=qah BK336.out 1;have hfz23_2:=qah BK336.out 2))
   go_meet
   case rel=>exact⟨_,(t338),(y339),(.slice Ao20 y339.length co20),H',⟨by first|omega|exact Nat.le_refl _⟩,⟨Kd.Q_of_R (by(with_reducible repeat(first|apply Kd.R_alloc|apply Kd.R_drewN|apply Kd.R_drew));exact Kd.R_mono (Kd.R_far (p:=⟨gb336,2,none⟩) (Kd.R_types HO341.out BK336.out (by decide)) (fun _ hk=>hk.2) (.slice Ao20 y339.length co20)) (fun _ hk=>trivial))⟩,⟨by(with_reducible repeat(first|refine qae ?_ _|refine qaf ?_|refine qad ?_ _));refine qap ?_ NB328_336.out _;(with_reducible repeat(first|refine qae ?_ _|refine qaf ?_|refine qad ?_ _));exact BK328.out⟩,⟨by(with_reducible repeat(first|refine qae ?_ _|refine qaf ?_|refine qad ?_ _));refine qaq (cs:=#[.int .i64 (wrap64 (1+t329)),.int .i64 (wrap64 (1+t331)),.slice Ao10 y333.length co10]) ?_ 2 _ rfl;(with_reducible repeat(first|refine qae ?_ _|refine qaf ?_|refine qad ?_ _));exact BK336.out⟩,⟨by repeat(first|(with_reducible first|exact HI0.out|apply IsS111.alloc|apply IsS111.drewN|apply IsS111.drew|apply IsS111.set_1|refine IsS111.far ?_ NB0_328.out _|refine IsS111.far ?_ NB0_336.out _)|exact HI0.out)⟩,⟨by repeat(first|(with_reducible first|exact HK.out|apply KeepBut.set_|apply qar|apply qau|apply qas|refine qaw ?_ GW328.out _|refine qaw ?_ GW336.out _)|exact HK.out)⟩,⟨by repeat(first|(with_reducible first|exact HB.out|apply qac|apply qaa|apply qab|refine qag ?_ (IsS111.ge HI0.out)|refine qag ?_ GE328.out|refine qag ?_ GE336.out)|exact HB.out)⟩⟩
  ·rw[if_neg c15] at H
   have c15b0:((wrap64 (1+t329)) == 1)=false:=beq_eq_false_iff_ne.mpr c15
   have c15b1:((wrap64 (1+t329)) != 1)=true:=bne_iff_ne.mpr c15
   (first|rw[c15b0]|(simp only[qay,qaz];rw[c15b0])|skip)
   by_cases c24:(wrap64 (1+t329))=4
   ·rw[if_pos c24] at H
    have c24b0:((wrap64 (1+t329)) == 4)=true:=beq_iff_eq.mpr c24
    have c24b1:((wrap64 (1+t329)) != 4)=false:=bne_eq_false_iff_eq.mpr c24
    clear c24
    replace H:=Option.bind_eq_some_iff.mp H
    obtain⟨⟨t342,t345⟩,A250,H⟩:=H
    replace H:(spec_l71Rec.j0 k s0_0 t345 (wrap64 (1+t329)) (wrap64 (1+t331)) t342)=some (r1,r2,r3,r4):=H
    have A25:=qbb.mk A250
    clear A250
    have H':=qbb.mk H
    clear H
    go_wp2_with(first|((with_reducible refine qao (f:=86) rfl ?_);refine qax (some 24) rfl rfl Try.func86 (by kernel_rfl) rfl #[.pointer (some ⟨g,0,none⟩)] rfl (by(try simp only[List.map_toArray,List.map_cons,List.map_nil]);first|done|rfl|(simp only[List.length_drop,List.length_take];rfl)) ?_;(with_reducible refine(spec_l71Many.calls k g s0_0 t332 t342 t345 w0 _ ?side1 ?side2 A25.out).mono ?_);(case side1=>repeat(first|(with_reducible first|exact HI0.out|apply IsS111.alloc|apply IsS111.drewN|apply IsS111.drew|apply IsS111.set_1|refine IsS111.far ?_ NB0_328.out _|refine IsS111.far ?_ NB0_336.out _)|exact HI0.out));(case side2=>repeat(first|(with_reducible first|exact HB.out|apply qac|apply qaa|apply qab|refine qag ?_ (IsS111.ge HI0.out)|refine qag ?_ GE328.out|refine qag ?_ GE336.out)|exact HB.out));rintro e w26 ⟨v343,rfl,ho0,hi,hb,hk⟩;refine⟨_,rfl,?_⟩;have n0_:=qbb.mk (KeepBut.blk hk (g':=gb328) (o:=.cells #[.int .i64 0,.int .i64 0,.slice none 0 0] 45 (0,0)) (by(with_reducible repeat(first|refine qae ?_ _|refine qaf ?_|refine qad ?_ _));refine qap ?_ NB328_336.out _;(with_reducible repeat(first|refine qae ?_ _|refine qaf ?_|refine qad ?_ _));refine qap ?_ NB328_336.out _;(with_reducible repeat(first|refine qae ?_ _|refine qaf ?_|refine qad ?_ _));refine qap ?_ NB328_336.out _;(with_reducible repeat(first|refine qae ?_ _|refine qaf ?_|refine qad ?_ _));exact BK328.out) NB328_0.out (by simp));have n1_:=qbb.mk (Kd.R_mono (Kd.R_told (Kd.R_oldK (IsS111.apart (show IsS111 w0 _ g s0_0 t332 from by repeat(first|(with_reducible first|exact HI0.out|apply IsS111.alloc|apply IsS111.drewN|apply IsS111.drew|apply IsS111.set_1|refine IsS111.far ?_ NB0_328.out _|refine IsS111.far ?_ NB0_336.out _)|exact HI0.out)) (by(with_reducible repeat(first|apply Kd.R_alloc|apply Kd.R_drewN|apply Kd.R_drew));exact(Kd.R_mono (Kd.R_far (p:=⟨gb336,2,none⟩) (Kd.R_far (p:=⟨gb336,1,none⟩) (Kd.R_far (p:=⟨gb336,0,none⟩) (Kd.R_types HO335.out BK336.out (by decide)) (fun _ hk=>hk.2) (.int .i64 (wrap64 (1+t329)))) (fun _ hk=>hk.2) (.int .i64 (wrap64 (1+t331)))) (fun _ hk=>hk.2) (.slice Ao10 y333.length co10)) (fun _ h_=>h_.1))) (by decide)) hk) (Kd.Q_base ho0)) (fun _ h_=>h_.1));have n2_:=qbb.mk (KeepBut.blk hk (g':=gb336) (o:=.cells #[.int .i64 (wrap64 (1+t329)),.int .i64 (wrap64 (1+t331)),.slice Ao10 y333.length co10] 45 (0,0)) (by(with_reducible repeat(first|refine qae ?_ _|refine qaf ?_|refine qad ?_ _));refine qaq (cs:=#[.int .i64 (wrap64 (1+t329)),.int .i64 (wrap64 (1+t331)),.slice none 0 0]) ?_ 2 _ rfl;(with_reducible repeat(first|refine qae ?_ _|refine qaf ?_|refine qad ?_ _));refine qaq (cs:=#[.int .i64 (wrap64 (1+t329)),.int .i64 0,.slice none 0 0]) ?_ 1 _ rfl;(with_reducible repeat(first|refine qae ?_ _|refine qaf ?_|refine qad ?_ _));refine qaq (cs:=#[.int .i64 0,.int .i64 0,.slice none 0 0]) ?_ 0 _ rfl;(with_reducible repeat(first|refine qae ?_ _|refine qaf ?_|refine qad ?_ _));exact BK336.out) NB336_0.out (by simp));have n3_:=qbb.mk (Kd.Q_lower (Kd.Q_new' ho0 (Kd.R_lt (by(with_reducible repeat(first|apply Kd.R_alloc|apply Kd.R_drewN|apply Kd.R_drew));exact(Kd.R_mono (Kd.R_far (p:=⟨gb336,2,none⟩) (Kd.R_far (p:=⟨gb336,1,none⟩) (Kd.R_far (p:=⟨gb336,0,none⟩) (Kd.R_types HO335.out BK336.out (by decide)) (fun _ hk=>hk.2) (.int .i64 (wrap64 (1+t329)))) (fun _ hk=>hk.2) (.int .i64 (wrap64 (1+t331)))) (fun _ hk=>hk.2) (.slice Ao10 y333.length co10)) (fun _ h_=>h_.1))))) (keep_size (w:=w) (g:=g) (row:=none) (by repeat(first|(with_reducible first|exact HK.out|apply KeepBut.set_|apply qar|apply qau|apply qas|refine qaw ?_ GW328.out _|refine qaw ?_ GW336.out _)|exact HK.out))));have n4_:=qbb.mk (KeepBut.trans (by repeat(first|(with_reducible first|exact HK.out|apply KeepBut.set_|apply qar|apply qau|apply qas|refine qaw ?_ GW328.out _|refine qaw ?_ GW336.out _)|exact HK.out)) hk (.inl rfl));have n5_:=qbb.mk (hb);have n6_:=qbb.mk (hi);clear BK328;clear HO335;clear BK336;clear HK;clear HB;clear HI0;have BK328:=n0_;have HO335:=n1_;have BK336:=n2_;have HO344:=n3_;have HK:=n4_;have HB:=n5_;have HI0:=n6_;clear n0_ n1_ n2_ n3_ n4_ n5_ n6_;(try clear hb);(try clear hb2);(try clear hk);(try clear hi);(try clear ho0);obtain⟨Ao27,co27,eo27,_⟩:=Kd.Q_slice HO344.out;subst eo27;have hnb28:=NB336_328.out;have hnc28:=NB328_336.out;have hnb29:=NB336_0.out;have hnc29:=NB0_336.out;have hcz30_0:w26.cell? ⟨gb336,0,none⟩=some (.int .i64 (wrap64 (1+t329))):=(qai BK336.out 0).trans rfl;have hcz30_1:w26.cell? ⟨gb336,1,none⟩=some (.int .i64 (wrap64 (1+t331))):=(qai BK336.out 1).trans rfl;have hcz30_2:w26.cell? ⟨gb336,2,none⟩=some (.slice Ao10 y333.length co10):=(qai BK336.out 2).trans rfl;have hfz30_0:=qah BK336.out 0;have hfz30_1:=qah BK336.out 1;have hfz30_2:=qah BK336.out 2))
    go_meet
    case rel=>exact⟨_,(t345),(t342),(.slice Ao27 t342.length co27),H',⟨by first|omega|exact Nat.le_refl _⟩,⟨by(with_reducible repeat(first|apply Kd.Q_alloc|apply Kd.Q_drewN|apply Kd.Q_drew));exact Kd.Q_mono (Kd.Q_far (p:=⟨gb336,2,none⟩) (Kd.Q_types HO344.out BK336.out (by decide)) (fun _ hk=>hk.2) (.slice Ao27 t342.length co27)) (fun _ hk=>trivial)⟩,⟨by(with_reducible repeat(first|refine qae ?_ _|refine qaf ?_|refine qad ?_ _));refine qap ?_ NB328_336.out _;(with_reducible repeat(first|refine qae ?_ _|refine qaf ?_|refine qad ?_ _));exact BK328.out⟩,⟨by(with_reducible repeat(first|refine qae ?_ _|refine qaf ?_|refine qad ?_ _));refine qaq (cs:=#[.int .i64 (wrap64 (1+t329)),.int .i64 (wrap64 (1+t331)),.slice Ao10 y333.length co10]) ?_ 2 _ rfl;(with_reducible repeat(first|refine qae ?_ _|refine qaf ?_|refine qad ?_ _));exact BK336.out⟩,⟨by repeat(first|(with_reducible first|exact HI0.out|apply IsS111.alloc|apply IsS111.drewN|apply IsS111.drew|apply IsS111.set_1|refine IsS111.far ?_ NB0_328.out _|refine IsS111.far ?_ NB0_336.out _)|exact HI0.out)⟩,⟨by repeat(first|(with_reducible first|exact HK.out|apply KeepBut.set_|apply qar|apply qau|apply qas|refine qaw ?_ GW328.out _|refine qaw ?_ GW336.out _)|exact HK.out)⟩,⟨by repeat(first|(with_reducible first|exact HB.out|apply qac|apply qaa|apply qab|refine qag ?_ (IsS111.ge HI0.out)|refine qag ?_ GE328.out|refine qag ?_ GE336.out)|exact HB.out)⟩⟩
   ·rw[if_neg c24] at H
    have c24b0:((wrap64 (1+t329)) == 4)=false:=beq_eq_false_iff_ne.mpr c24
    have c24b1:((wrap64 (1+t329)) != 4)=true:=bne_iff_ne.mpr c24
    have H':=qbb.mk H
    clear H
    go_wp2
    go_meet
    case rel=>exact⟨_,(t332),(y333),(.slice Ao10 y333.length co10),H',⟨by first|omega|exact Nat.le_refl _⟩,⟨Kd.Q_of_R (by(with_reducible repeat(first|apply Kd.R_alloc|apply Kd.R_drewN|apply Kd.R_drew));exact Kd.R_mono (Kd.R_far (p:=⟨gb336,2,none⟩) (Kd.R_far (p:=⟨gb336,1,none⟩) (Kd.R_far (p:=⟨gb336,0,none⟩) (Kd.R_types HO335.out BK336.out (by decide)) (fun _ hk=>hk.2) (.int .i64 (wrap64 (1+t329)))) (fun _ hk=>hk.2) (.int .i64 (wrap64 (1+t331)))) (fun _ hk=>hk.2) (.slice Ao10 y333.length co10)) (fun _ hk=>trivial))⟩,⟨by(with_reducible repeat(first|refine qae ?_ _|refine qaf ?_|refine qad ?_ _));refine qap ?_ NB328_336.out _;(with_reducible repeat(first|refine qae ?_ _|refine qaf ?_|refine qad ?_ _));refine qap ?_ NB328_336.out _;(with_reducible repeat(first|refine qae ?_ _|refine qaf ?_|refine qad ?_ _));refine qap ?_ NB328_336.out _;(with_reducible repeat(first|refine qae ?_ _|refine qaf ?_|refine qad ?_ _));exact BK328.out⟩,⟨by(with_reducible repeat(first|refine qae ?_ _|refine qaf ?_|refine qad ?_ _));refine qaq (cs:=#[.int .i64 (wrap64 (1+t329)),.int .i64 (wrap64 (1+t331)),.slice none 0 0]) ?_ 2 _ rfl;(with_reducible repeat(first|refine qae ?_ _|refine qaf ?_|refine qad ?_ _));refine qaq (cs:=#[.int .i64 (wrap64 (1+t329)),.int .i64 0,.slice none 0 0]) ?_ 1 _ rfl;(with_reducible repeat(first|refine qae ?_ _|refine qaf ?_|refine qad ?_ _));refine qaq (cs:=#[.int .i64 0,.int .i64 0,.slice none 0 0]) ?_ 0 _ rfl;(with_reducible repeat(first|refine qae ?_ _|refine qaf ?_|refine qad ?_ _));exact BK336.out⟩,⟨by repeat(first|(with_reducible first|exact HI0.out|apply IsS111.alloc|apply IsS111.drewN|apply IsS111.drew|apply IsS111.set_1|refine IsS111.far ?_ NB0_328.out _|refine IsS111.far ?_ NB0_336.out _)|exact HI0.out)⟩,⟨by repeat(first|(with_reducible first|exact HK.out|apply KeepBut.set_|apply qar|apply qau|apply qas|refine qaw ?_ GW328.out _|refine qaw ?_ GW336.out _)|exact HK.out)⟩,⟨by repeat(first|(with_reducible first|exact HB.out|apply qac|apply qaa|apply qab|refine qag ?_ (IsS111.ge HI0.out)|refine qag ?_ GE328.out|refine qag ?_ GE336.out)|exact HB.out)⟩⟩
 case rest=>
  clear HC4
  try clear c1
  try clear c2
  try clear p2
  try clear c5
  try clear c6
  try clear p6
  try clear c8
  try clear c12
  try clear c13
  try clear c15
  try clear c15b0
  try clear c15b1
  try clear c21
  try clear c22
  try clear c24
  try clear c24b0
  try clear c24b1
  try clear c28
  try clear c29
  try clear hcz14_0
  try clear hcz14_1
  try clear hcz14_2
  try clear hcz23_0
  try clear hcz23_1
  try clear hcz23_2
  try clear hcz30_0
  try clear hcz30_1
  try clear hcz30_2
  try clear hfz14_0
  try clear hfz14_1
  try clear hfz14_2
  try clear hfz23_0
  try clear hfz23_1
  try clear hfz23_2
  try clear hfz30_0
  try clear hfz30_1
  try clear hfz30_2
  obtain⟨kq,x1001_3,x337002_3,u337002,HA,HJ3,HO_337002,BK328,BK336,HI0,HK,HB⟩:=hcut
  cases kq with
  |zero=>exact absurd HA.out (by simp[spec_l71Rec.j0])
  |succ kj3=>
   have H:=HA.out
   clear HA
   simp only[spec_l71Rec.j0] at H
   replace H:=Option.bind_eq_some_iff.mp H
   obtain⟨⟨t346,t347⟩,A310,H⟩:=H
   replace H:(if t346=0 then((spec_l6Rd_pick.f kj3 s0_0 t347 9).bind fun bt348=>(some (bt348.1,(wrap64 (1+t331)),x337002_3,bt348.2))) else(if t346=1 then((some (([0,6,7]:List Int):List Int)).bind fun y350=>((spec_l6Rd_pick.f kj3 s0_0 t347 3).bind fun bt353=>(if 0≤bt353.1 then(if bt353.1<(y350.length:Int) then(some ((wrap64 (1+t329)),rd y350 bt353.1,x337002_3,bt353.2)) else(none)) else(none)))) else(if t346=2 then((spec_l6Rd_pick.f kj3 s0_0 t347 5).bind fun bt356=>(if x337002_3.length<17592186044416 then(some ((wrap64 (1+t329)),(wrap64 (1+t331)),(x337002_3++[bt356.1]),bt356.2)) else(none))) else(some ((wrap64 (1+t329)),(wrap64 (1+t331)),x337002_3,t347)))))=some (r1,r2,r3,r4):=H
   have A31:=qbb.mk A310
   clear A310
   by_cases c32:t346=0
   ·rw[if_pos c32] at H
    have c32b0:(t346 == 0)=true:=beq_iff_eq.mpr c32
    have c32b1:(t346 != 0)=false:=bne_eq_false_iff_eq.mpr c32
    clear c32
    replace H:=Option.bind_eq_some_iff.mp H
    obtain⟨⟨t348,t349⟩,A330,H⟩:=H
    replace H:(some (t348,(wrap64 (1+t331)),x337002_3,t349))=some (r1,r2,r3,r4):=H
    have A33:=qbb.mk A330
    clear A330
    simp only[Option.some.injEq,Prod.mk.injEq] at H
    obtain⟨rfl,rfl,rfl,rfl⟩:=H
    go_wp2_with(first|((with_reducible refine qao (f:=53) rfl ?_);refine qax (some 27) rfl rfl Try.func53 (by kernel_rfl) rfl #[.pointer (some ⟨g,0,none⟩),.int .i64 20] rfl (by(try simp only[List.map_toArray,List.map_cons,List.map_nil]);first|done|rfl|(simp only[List.length_drop,List.length_take];rfl)) ?_;(with_reducible refine(spec_l6Rd_pick.calls kj3 g s0_0 x1001_3 20 t346 t347 w0 _ ?side1 ?side2 A31.out).mono ?_);(case side1=>repeat(first|(with_reducible first|exact HI0.out|apply IsS111.alloc|apply IsS111.drewN|apply IsS111.drew|apply IsS111.set_1|refine IsS111.far ?_ NB0_328.out _|refine IsS111.far ?_ NB0_336.out _)|exact HI0.out));(case side2=>repeat(first|(with_reducible first|exact HB.out|apply qac|apply qaa|apply qab|refine qag ?_ (IsS111.ge HI0.out)|refine qag ?_ GE328.out|refine qag ?_ GE336.out)|exact HB.out));rintro e w34 ⟨rfl,hi,hb,hk⟩;refine⟨_,rfl,?_⟩;have n0_:=qbb.mk (Kd.Q_mono (Kd.Q_keep (IsS111.apartQ (show IsS111 w0 _ g s0_0 x1001_3 from by repeat(first|(with_reducible first|exact HI0.out|apply IsS111.alloc|apply IsS111.drewN|apply IsS111.drew|apply IsS111.set_1|refine IsS111.far ?_ NB0_328.out _|refine IsS111.far ?_ NB0_336.out _)|exact HI0.out)) (by(with_reducible repeat(first|apply Kd.Q_alloc|apply Kd.Q_drewN|apply Kd.Q_drew));exact HO_337002.out) (by decide)) hk (fun _ h=>h.2)) (fun _ h=>h.1));have n1_:=qbb.mk (KeepBut.blk hk (g':=gb328) (o:=.cells #[.int .i64 0,.int .i64 0,.slice none 0 0] 45 (0,0)) (by(with_reducible repeat(first|refine qae ?_ _|refine qaf ?_|refine qad ?_ _));exact BK328.out) NB328_0.out (by simp));have n2_:=qbb.mk (KeepBut.blk hk (g':=gb336) (o:=.cells #[.int .i64 (wrap64 (1+t329)),.int .i64 (wrap64 (1+t331)),u337002] 45 (0,0)) (by(with_reducible repeat(first|refine qae ?_ _|refine qaf ?_|refine qad ?_ _));exact BK336.out) NB336_0.out (by simp));have n3_:=qbb.mk (KeepBut.trans (by repeat(first|(with_reducible first|exact HK.out|apply KeepBut.set_|apply qar|apply qau|apply qas|refine qaw ?_ GW328.out _|refine qaw ?_ GW336.out _)|exact HK.out)) hk (.inl rfl));have n4_:=qbb.mk (hb);have n5_:=qbb.mk (hi);clear HO_337002;clear BK328;clear BK336;clear HK;clear HB;clear HI0;have HO_337002:=n0_;have BK328:=n1_;have BK336:=n2_;have HK:=n3_;have HB:=n4_;have HI0:=n5_;clear n0_ n1_ n2_ n3_ n4_ n5_;(try clear hb);(try clear hb2);(try clear hk);(try clear hi))|((with_reducible refine qao (f:=53) rfl ?_);refine qax (some 31) rfl rfl Try.func53 (by kernel_rfl) rfl #[.pointer (some ⟨g,0,none⟩),.int .i64 9] rfl (by(try simp only[List.map_toArray,List.map_cons,List.map_nil]);first|done|rfl|(simp only[List.length_drop,List.length_take];rfl)) ?_;(with_reducible refine(spec_l6Rd_pick.calls kj3 g s0_0 t347 9 t348 t349 w0 _ ?side1 ?side2 A33.out).mono ?_);(case side1=>repeat(first|(with_reducible first|exact HI0.out|apply IsS111.alloc|apply IsS111.drewN|apply IsS111.drew|apply IsS111.set_1|refine IsS111.far ?_ NB0_328.out _|refine IsS111.far ?_ NB0_336.out _)|exact HI0.out));(case side2=>repeat(first|(with_reducible first|exact HB.out|apply qac|apply qaa|apply qab|refine qag ?_ (IsS111.ge HI0.out)|refine qag ?_ GE328.out|refine qag ?_ GE336.out)|exact HB.out));rintro e w35 ⟨rfl,hi,hb,hk⟩;refine⟨_,rfl,?_⟩;have n0_:=qbb.mk (Kd.Q_mono (Kd.Q_keep (IsS111.apartQ (show IsS111 w0 _ g s0_0 t347 from by repeat(first|(with_reducible first|exact HI0.out|apply IsS111.alloc|apply IsS111.drewN|apply IsS111.drew|apply IsS111.set_1|refine IsS111.far ?_ NB0_328.out _|refine IsS111.far ?_ NB0_336.out _)|exact HI0.out)) (by(with_reducible repeat(first|apply Kd.Q_alloc|apply Kd.Q_drewN|apply Kd.Q_drew));exact HO_337002.out) (by decide)) hk (fun _ h=>h.2)) (fun _ h=>h.1));have n1_:=qbb.mk (KeepBut.blk hk (g':=gb328) (o:=.cells #[.int .i64 0,.int .i64 0,.slice none 0 0] 45 (0,0)) (by(with_reducible repeat(first|refine qae ?_ _|refine qaf ?_|refine qad ?_ _));exact BK328.out) NB328_0.out (by simp));have n2_:=qbb.mk (KeepBut.blk hk (g':=gb336) (o:=.cells #[.int .i64 (wrap64 (1+t329)),.int .i64 (wrap64 (1+t331)),u337002] 45 (0,0)) (by(with_reducible repeat(first|refine qae ?_ _|refine qaf ?_|refine qad ?_ _));exact BK336.out) NB336_0.out (by simp));have n3_:=qbb.mk (KeepBut.trans (by repeat(first|(with_reducible first|exact HK.out|apply KeepBut.set_|apply qar|apply qau|apply qas|refine qaw ?_ GW328.out _|refine qaw ?_ GW336.out _)|exact HK.out)) hk (.inl rfl));have n4_:=qbb.mk (hb);have n5_:=qbb.mk (hi);clear HO_337002;clear BK328;clear BK336;clear HK;clear HB;clear HI0;have HO_337002:=n0_;have BK328:=n1_;have BK336:=n2_;have HK:=n3_;have HB:=n4_;have HI0:=n5_;clear n0_ n1_ n2_ n3_ n4_ n5_;(try clear hb);(try clear hb2);(try clear hk);(try clear hi);have hnb36:=NB336_328.out;have hnc36:=NB328_336.out;have hnb37:=NB336_0.out;have hnc37:=NB0_336.out;have hcz38_0:w35.cell? ⟨gb336,0,none⟩=some (.int .i64 (wrap64 (1+t329))):=(qai BK336.out 0).trans rfl;have hcz38_1:w35.cell? ⟨gb336,1,none⟩=some (.int .i64 (wrap64 (1+t331))):=(qai BK336.out 1).trans rfl;have hcz38_2:w35.cell? ⟨gb336,2,none⟩=some (u337002):=(qai BK336.out 2).trans rfl;have hfz38_0:=qah BK336.out 0;have hfz38_1:=qah BK336.out 1;have hfz38_2:=qah BK336.out 2;have hnb39:=NB328_0.out;have hnc39:=NB0_328.out;have hcz40_0:w35.cell? ⟨gb328,0,none⟩=some (.int .i64 0):=(qai BK328.out 0).trans rfl;have hcz40_1:w35.cell? ⟨gb328,1,none⟩=some (.int .i64 0):=(qai BK328.out 1).trans rfl;have hcz40_2:w35.cell? ⟨gb328,2,none⟩=some (.slice none 0 0):=(qai BK328.out 2).trans rfl;have hfz40_0:=qah BK328.out 0;have hfz40_1:=qah BK328.out 1;have hfz40_2:=qah BK328.out 2;obtain⟨Ao41,co41,eo41,_⟩:=Kd.Q_slice HO_337002.out;subst eo41))
    refine bodyPost_ret (results_cell_row rfl _ _ gb328 45 #[.int .i64 t348,.int .i64 (wrap64 (1+t331)),.slice Ao41 x337002_3.length co41] (0,0) _ rfl (by(with_reducible repeat(first|refine qae ?_ _|refine qaf ?_|refine qad ?_ _));refine qaq (cs:=#[.int .i64 t348,.int .i64 (wrap64 (1+t331)),.slice none 0 0]) ?_ 2 _ rfl;(with_reducible repeat(first|refine qae ?_ _|refine qaf ?_|refine qad ?_ _));refine qaq (cs:=#[.int .i64 t348,.int .i64 0,.slice none 0 0]) ?_ 1 _ rfl;(with_reducible repeat(first|refine qae ?_ _|refine qaf ?_|refine qad ?_ _));refine qaq (cs:=#[.int .i64 0,.int .i64 0,.slice none 0 0]) ?_ 0 _ rfl;(with_reducible repeat(first|refine qae ?_ _|refine qaf ?_|refine qad ?_ _));refine qap ?_ NB328_336.out _;(with_reducible repeat(first|refine qae ?_ _|refine qaf ?_|refine qad ?_ _));exact BK328.out) Try.underlying45 rfl (by kernel_rfl)) rfl ?_
    exact⟨_,by first|rfl|(simp[qan,qam]<;>rfl)|(simp[*,qan,qam]<;>rfl),by(with_reducible repeat(first|apply Kd.Q_alloc|apply Kd.Q_drewN|apply Kd.Q_drew));exact Kd.Q_mono (Kd.Q_far (p:=⟨gb328,2,none⟩) (Kd.Q_far (p:=⟨gb328,1,none⟩) (Kd.Q_far (p:=⟨gb328,0,none⟩) (Kd.Q_far (p:=⟨gb336,0,none⟩) (Kd.Q_types (Kd.Q_types HO_337002.out BK336.out (by decide)) BK328.out (by decide)) (fun _ hk=>hk.1.2) (.int .i64 t348)) (fun _ hk=>hk.2) (.int .i64 t348)) (fun _ hk=>hk.2) (.int .i64 (wrap64 (1+t331)))) (fun _ hk=>hk.2) (.slice Ao41 x337002_3.length co41)) (fun _ hk=>trivial),by repeat(first|(with_reducible first|exact HI0.out|apply IsS111.alloc|apply IsS111.drewN|apply IsS111.drew|apply IsS111.set_1|refine IsS111.far ?_ NB0_328.out _|refine IsS111.far ?_ NB0_336.out _)|exact HI0.out),by repeat(first|(with_reducible first|exact HB.out|apply qac|apply qaa|apply qab|refine qag ?_ (IsS111.ge HI0.out)|refine qag ?_ GE328.out|refine qag ?_ GE336.out)|exact HB.out),by repeat(first|(with_reducible first|exact HK.out|apply KeepBut.set_|apply qar|apply qau|apply qas|refine qaw ?_ GW328.out _|refine qaw ?_ GW336.out _)|exact HK.out)⟩
   ·rw[if_neg c32] at H
    have c32b0:(t346 == 0)=false:=beq_eq_false_iff_ne.mpr c32
    have c32b1:(t346 != 0)=true:=bne_iff_ne.mpr c32
    by_cases c42:t346=1
    ·rw[if_pos c42] at H
     have c42b0:(t346 == 1)=true:=beq_iff_eq.mpr c42
     have c42b1:(t346 != 1)=false:=bne_eq_false_iff_eq.mpr c42
     clear c42
     obtain⟨y350,hy350⟩:∃y_:List Int,y_=(([0,6,7]:List Int)):=⟨_,rfl⟩
     replace H:((spec_l6Rd_pick.f kj3 s0_0 t347 3).bind fun bt353=>(if 0≤bt353.1 then(if bt353.1<(y350.length:Int) then(some ((wrap64 (1+t329)),rd y350 bt353.1,x337002_3,bt353.2)) else(none)) else(none)))=some (r1,r2,r3,r4):=by first|(rw[hy350];with_reducible exact H)|(have H2_:=(Option.bind_some _ _).symm.trans H;rw[hy350];with_reducible exact H2_)|(have H2_:=(Option.bind_some _ _).symm.trans H;with_reducible exact H2_)|with_reducible exact H|(rw[hy350];exact H)|exact H
     have Ny350:=qbb.mk hy350
     clear hy350
     replace H:=Option.bind_eq_some_iff.mp H
     obtain⟨⟨t353,t354⟩,A430,H⟩:=H
     replace H:(if 0≤t353 then(if t353<(y350.length:Int) then(some ((wrap64 (1+t329)),rd y350 t353,x337002_3,t354)) else(none)) else(none))=some (r1,r2,r3,r4):=H
     have A43:=qbb.mk A430
     clear A430
     by_cases c44:0≤t353
     ·rw[if_pos c44] at H
      have c44b0:decide (0≤t353)=true:=decide_eq_true c44
      clear c44
      by_cases c45:t353<(y350.length:Int)
      ·rw[if_pos c45] at H
       have c45b0:decide (t353<(y350.length:Int))=true:=decide_eq_true c45
       clear c45
       simp only[Option.some.injEq,Prod.mk.injEq] at H
       obtain⟨rfl,rfl,rfl,rfl⟩:=H
       go_wp2_with(first|((with_reducible refine qao (f:=53) rfl ?_);refine qax (some 27) rfl rfl Try.func53 (by kernel_rfl) rfl #[.pointer (some ⟨g,0,none⟩),.int .i64 20] rfl (by(try simp only[List.map_toArray,List.map_cons,List.map_nil]);first|done|rfl|(simp only[List.length_drop,List.length_take];rfl)) ?_;(with_reducible refine(spec_l6Rd_pick.calls kj3 g s0_0 x1001_3 20 t346 t347 w0 _ ?side1 ?side2 A31.out).mono ?_);(case side1=>repeat(first|(with_reducible first|exact HI0.out|apply IsS111.alloc|apply IsS111.drewN|apply IsS111.drew|apply IsS111.set_1|refine IsS111.far ?_ NB0_328.out _|refine IsS111.far ?_ NB0_336.out _)|exact HI0.out));(case side2=>repeat(first|(with_reducible first|exact HB.out|apply qac|apply qaa|apply qab|refine qag ?_ (IsS111.ge HI0.out)|refine qag ?_ GE328.out|refine qag ?_ GE336.out)|exact HB.out));rintro e w46 ⟨rfl,hi,hb,hk⟩;refine⟨_,rfl,?_⟩;have n0_:=qbb.mk (Kd.Q_mono (Kd.Q_keep (IsS111.apartQ (show IsS111 w0 _ g s0_0 x1001_3 from by repeat(first|(with_reducible first|exact HI0.out|apply IsS111.alloc|apply IsS111.drewN|apply IsS111.drew|apply IsS111.set_1|refine IsS111.far ?_ NB0_328.out _|refine IsS111.far ?_ NB0_336.out _)|exact HI0.out)) (by(with_reducible repeat(first|apply Kd.Q_alloc|apply Kd.Q_drewN|apply Kd.Q_drew));exact HO_337002.out) (by decide)) hk (fun _ h=>h.2)) (fun _ h=>h.1));have n1_:=qbb.mk (KeepBut.blk hk (g':=gb328) (o:=.cells #[.int .i64 0,.int .i64 0,.slice none 0 0] 45 (0,0)) (by(with_reducible repeat(first|refine qae ?_ _|refine qaf ?_|refine qad ?_ _));exact BK328.out) NB328_0.out (by simp));have n2_:=qbb.mk (KeepBut.blk hk (g':=gb336) (o:=.cells #[.int .i64 (wrap64 (1+t329)),.int .i64 (wrap64 (1+t331)),u337002] 45 (0,0)) (by(with_reducible repeat(first|refine qae ?_ _|refine qaf ?_|refine qad ?_ _));exact BK336.out) NB336_0.out (by simp));have n3_:=qbb.mk (KeepBut.trans (by repeat(first|(with_reducible first|exact HK.out|apply KeepBut.set_|apply qar|apply qau|apply qas|refine qaw ?_ GW328.out _|refine qaw ?_ GW336.out _)|exact HK.out)) hk (.inl rfl));have n4_:=qbb.mk (hb);have n5_:=qbb.mk (hi);clear HO_337002;clear BK328;clear BK336;clear HK;clear HB;clear HI0;have HO_337002:=n0_;have BK328:=n1_;have BK336:=n2_;have HK:=n3_;have HB:=n4_;have HI0:=n5_;clear n0_ n1_ n2_ n3_ n4_ n5_;(try clear hb);(try clear hb2);(try clear hk);(try clear hi))|((with_reducible refine qav (N:=35) rfl ?_);refine Kd.R_lit (Kd.int .i64) _ 3 ?hg (N:=35) ?hd (xs:=([0,6,7]:List Int)) (inner:=[.int .i64 0,.int .i64 6,.int .i64 7]) (ok:=fun _=>True) (okp:=fun _=>True) ?hr ?hp (fun _ hk=>hk) trivial (Below.refl _ _) (Nat.le_refl _) (by simp) ?_;(case hd=>rfl);(case hg=>rfl);(case hr=>first|(go_simp;done)|(go_simp;rfl));(case hp=>exact(Reps.one (show Kd.M (Kd.int .i64) _ _ _ 0 [.int .i64 0] from rfl) (Reps.one (show Kd.M (Kd.int .i64) _ _ _ 6 [.int .i64 6] from rfl) (Reps.one (show Kd.M (Kd.int .i64) _ _ _ 7 [.int .i64 7] from rfl) (Reps.none _ _)))));intro v351 w47 ho48 hb hg_ hnew_;clear hg_ hnew_;(first|rw[←Ny350.out] at ho48|(simp only[Int.reduceToNat] at ho48;rw[←Ny350.out] at ho48));have n0_:=qbb.mk (Kd.Q_elder' (by(with_reducible repeat(first|apply Kd.Q_alloc|apply Kd.Q_drewN|apply Kd.Q_drew));exact HO_337002.out) (Kd.R_base ho48) hb);have n1_:=qbb.mk (Kd.R_lower (Kd.R_new' ho48 (Kd.Q_lt (by(with_reducible repeat(first|apply Kd.Q_alloc|apply Kd.Q_drewN|apply Kd.Q_drew));exact HO_337002.out))) (keep_size (w:=w) (g:=g) (row:=none) (by repeat(first|(with_reducible first|exact HK.out|apply KeepBut.set_|apply qar|apply qau|apply qas|refine qaw ?_ GW328.out _|refine qaw ?_ GW336.out _)|exact HK.out))));have n2_:=qbb.mk (qal (g:=gb328) (o:=.cells #[.int .i64 0,.int .i64 0,.slice none 0 0] 45 (0,0)) (by(with_reducible repeat(first|refine qae ?_ _|refine qaf ?_|refine qad ?_ _));exact BK328.out) hb);have n3_:=qbb.mk (qal (g:=gb336) (o:=.cells #[.int .i64 (wrap64 (1+t329)),.int .i64 (wrap64 (1+t331)),u337002] 45 (0,0)) (by(with_reducible repeat(first|refine qae ?_ _|refine qaf ?_|refine qad ?_ _));exact BK336.out) hb);have n4_:=qbb.mk (IsS111.below (by repeat(first|(with_reducible first|exact HI0.out|apply IsS111.alloc|apply IsS111.drewN|apply IsS111.drew|apply IsS111.set_1|refine IsS111.far ?_ NB0_328.out _|refine IsS111.far ?_ NB0_336.out _)|exact HI0.out)) hb);have n5_:=qbb.mk (KeepBut.trans (by repeat(first|(with_reducible first|exact HK.out|apply KeepBut.set_|apply qar|apply qau|apply qas|refine qaw ?_ GW328.out _|refine qaw ?_ GW336.out _)|exact HK.out)) (KeepBut.of_below hb g none) (.inl rfl));have n6_:=qbb.mk (qak (by repeat(first|(with_reducible first|exact HB.out|apply qac|apply qaa|apply qab|refine qag ?_ (IsS111.ge HI0.out)|refine qag ?_ GE328.out|refine qag ?_ GE336.out)|exact HB.out)) hb);clear HO_337002;clear BK328;clear BK336;clear HI0;clear HK;clear HB;have HO_337002:=n0_;have HO352:=n1_;have BK328:=n2_;have BK336:=n3_;have HI0:=n4_;have HK:=n5_;have HB:=n6_;clear n0_ n1_ n2_ n3_ n4_ n5_ n6_;clear hb ho48)|((with_reducible refine qao (f:=53) rfl ?_);refine qax (some 37) rfl rfl Try.func53 (by kernel_rfl) rfl #[.pointer (some ⟨g,0,none⟩),.int .i64 3] rfl (by(try simp only[List.map_toArray,List.map_cons,List.map_nil]);first|done|rfl|(simp only[List.length_drop,List.length_take];rfl)) ?_;(with_reducible refine(spec_l6Rd_pick.calls kj3 g s0_0 t347 3 t353 t354 w0 _ ?side1 ?side2 A43.out).mono ?_);(case side1=>repeat(first|(with_reducible first|exact HI0.out|apply IsS111.alloc|apply IsS111.drewN|apply IsS111.drew|apply IsS111.set_1|refine IsS111.far ?_ NB0_328.out _|refine IsS111.far ?_ NB0_336.out _)|exact HI0.out));(case side2=>repeat(first|(with_reducible first|exact HB.out|apply qac|apply qaa|apply qab|refine qag ?_ (IsS111.ge HI0.out)|refine qag ?_ GE328.out|refine qag ?_ GE336.out)|exact HB.out));rintro e w49 ⟨rfl,hi,hb,hk⟩;refine⟨_,rfl,?_⟩;have n0_:=qbb.mk (Kd.Q_mono (Kd.Q_keep (IsS111.apartQ (show IsS111 w0 _ g s0_0 t347 from by repeat(first|(with_reducible first|exact HI0.out|apply IsS111.alloc|apply IsS111.drewN|apply IsS111.drew|apply IsS111.set_1|refine IsS111.far ?_ NB0_328.out _|refine IsS111.far ?_ NB0_336.out _)|exact HI0.out)) (by(with_reducible repeat(first|apply Kd.Q_alloc|apply Kd.Q_drewN|apply Kd.Q_drew));exact HO_337002.out) (by decide)) hk (fun _ h=>h.2)) (fun _ h=>h.1));have n1_:=qbb.mk (KeepBut.blk hk (g':=gb328) (o:=.cells #[.int .i64 0,.int .i64 0,.slice none 0 0] 45 (0,0)) (by(with_reducible repeat(first|refine qae ?_ _|refine qaf ?_|refine qad ?_ _));exact BK328.out) NB328_0.out (by simp));have n2_:=qbb.mk (KeepBut.blk hk (g':=gb336) (o:=.cells #[.int .i64 (wrap64 (1+t329)),.int .i64 (wrap64 (1+t331)),u337002] 45 (0,0)) (by(with_reducible repeat(first|refine qae ?_ _|refine qaf ?_|refine qad ?_ _));exact BK336.out) NB336_0.out (by simp));have n3_:=qbb.mk (Kd.R_mono (Kd.R_keep (IsS111.apart (show IsS111 w0 _ g s0_0 t347 from by repeat(first|(with_reducible first|exact HI0.out|apply IsS111.alloc|apply IsS111.drewN|apply IsS111.drew|apply IsS111.set_1|refine IsS111.far ?_ NB0_328.out _|refine IsS111.far ?_ NB0_336.out _)|exact HI0.out)) (by(with_reducible repeat(first|apply Kd.R_alloc|apply Kd.R_drewN|apply Kd.R_drew));exact HO352.out) (by decide)) hk (fun _ h=>h.2)) (fun _ h=>h.1));have n4_:=qbb.mk (KeepBut.trans (by repeat(first|(with_reducible first|exact HK.out|apply KeepBut.set_|apply qar|apply qau|apply qas|refine qaw ?_ GW328.out _|refine qaw ?_ GW336.out _)|exact HK.out)) hk (.inl rfl));have n5_:=qbb.mk (hb);have n6_:=qbb.mk (hi);clear HO_337002;clear BK328;clear BK336;clear HO352;clear HK;clear HB;clear HI0;have HO_337002:=n0_;have BK328:=n1_;have BK336:=n2_;have HO352:=n3_;have HK:=n4_;have HB:=n5_;have HI0:=n6_;clear n0_ n1_ n2_ n3_ n4_ n5_ n6_;(try clear hb);(try clear hb2);(try clear hk);(try clear hi);obtain⟨Ao50,co50,eo50⟩:=Kd.R_slice HO352.out;subst eo50;have p355:0≤(t353:Int):=of_decide_eq_true (by first|(with_reducible assumption)|assumption);have q355:t353<(y350.length:Int):=of_decide_eq_true (by first|(with_reducible assumption)|assumption);obtain⟨ad355,e355,hx355_0⟩:=Kd.at_int (Kd.R_reads' HO352.out).2.2 t353 p355 q355;cases e355;replace p355:=eq_true p355;replace q355:=eq_true q355;have hnb51:=NB336_328.out;have hnc51:=NB328_336.out;have hnb52:=NB336_0.out;have hnc52:=NB0_336.out;have hcz53_0:w49.cell? ⟨gb336,0,none⟩=some (.int .i64 (wrap64 (1+t329))):=(qai BK336.out 0).trans rfl;have hcz53_1:w49.cell? ⟨gb336,1,none⟩=some (.int .i64 (wrap64 (1+t331))):=(qai BK336.out 1).trans rfl;have hcz53_2:w49.cell? ⟨gb336,2,none⟩=some (u337002):=(qai BK336.out 2).trans rfl;have hfz53_0:=qah BK336.out 0;have hfz53_1:=qah BK336.out 1;have hfz53_2:=qah BK336.out 2;have hnb54:=NB328_0.out;have hnc54:=NB0_328.out;have hcz55_0:w49.cell? ⟨gb328,0,none⟩=some (.int .i64 0):=(qai BK328.out 0).trans rfl;have hcz55_1:w49.cell? ⟨gb328,1,none⟩=some (.int .i64 0):=(qai BK328.out 1).trans rfl;have hcz55_2:w49.cell? ⟨gb328,2,none⟩=some (.slice none 0 0):=(qai BK328.out 2).trans rfl;have hfz55_0:=qah BK328.out 0;have hfz55_1:=qah BK328.out 1;have hfz55_2:=qah BK328.out 2;obtain⟨Ao56,co56,eo56,_⟩:=Kd.Q_slice HO_337002.out;subst eo56))
       refine bodyPost_ret (results_cell_row rfl _ _ gb328 45 #[.int .i64 (wrap64 (1+t329)),.int .i64 (rd y350 t353),.slice Ao56 x337002_3.length co56] (0,0) _ rfl (by(with_reducible repeat(first|refine qae ?_ _|refine qaf ?_|refine qad ?_ _));refine qaq (cs:=#[.int .i64 (wrap64 (1+t329)),.int .i64 (rd y350 t353),.slice none 0 0]) ?_ 2 _ rfl;(with_reducible repeat(first|refine qae ?_ _|refine qaf ?_|refine qad ?_ _));refine qaq (cs:=#[.int .i64 (wrap64 (1+t329)),.int .i64 0,.slice none 0 0]) ?_ 1 _ rfl;(with_reducible repeat(first|refine qae ?_ _|refine qaf ?_|refine qad ?_ _));refine qaq (cs:=#[.int .i64 0,.int .i64 0,.slice none 0 0]) ?_ 0 _ rfl;(with_reducible repeat(first|refine qae ?_ _|refine qaf ?_|refine qad ?_ _));refine qap ?_ NB328_336.out _;(with_reducible repeat(first|refine qae ?_ _|refine qaf ?_|refine qad ?_ _));exact BK328.out) Try.underlying45 rfl (by kernel_rfl)) rfl ?_
       exact⟨_,by first|rfl|(simp[qan,qam]<;>rfl)|(simp[*,qan,qam]<;>rfl),by(with_reducible repeat(first|apply Kd.Q_alloc|apply Kd.Q_drewN|apply Kd.Q_drew));exact Kd.Q_mono (Kd.Q_far (p:=⟨gb328,2,none⟩) (Kd.Q_far (p:=⟨gb328,1,none⟩) (Kd.Q_far (p:=⟨gb328,0,none⟩) (Kd.Q_far (p:=⟨gb336,1,none⟩) (Kd.Q_types (Kd.Q_types HO_337002.out BK336.out (by decide)) BK328.out (by decide)) (fun _ hk=>hk.1.2) (.int .i64 (rd y350 t353))) (fun _ hk=>hk.2) (.int .i64 (wrap64 (1+t329)))) (fun _ hk=>hk.2) (.int .i64 (rd y350 t353))) (fun _ hk=>hk.2) (.slice Ao56 x337002_3.length co56)) (fun _ hk=>trivial),by repeat(first|(with_reducible first|exact HI0.out|apply IsS111.alloc|apply IsS111.drewN|apply IsS111.drew|apply IsS111.set_1|refine IsS111.far ?_ NB0_328.out _|refine IsS111.far ?_ NB0_336.out _)|exact HI0.out),by repeat(first|(with_reducible first|exact HB.out|apply qac|apply qaa|apply qab|refine qag ?_ (IsS111.ge HI0.out)|refine qag ?_ GE328.out|refine qag ?_ GE336.out)|exact HB.out),by repeat(first|(with_reducible first|exact HK.out|apply KeepBut.set_|apply qar|apply qau|apply qas|refine qaw ?_ GW328.out _|refine qaw ?_ GW336.out _)|exact HK.out)⟩
      ·rw[if_neg c45] at H
       exact absurd H (by simp)
     ·rw[if_neg c44] at H
      exact absurd H (by simp)
    ·rw[if_neg c42] at H
     have c42b0:(t346 == 1)=false:=beq_eq_false_iff_ne.mpr c42
     have c42b1:(t346 != 1)=true:=bne_iff_ne.mpr c42
     by_cases c57:t346=2
     ·rw[if_pos c57] at H
      have c57b0:(t346 == 2)=true:=beq_iff_eq.mpr c57
      have c57b1:(t346 != 2)=false:=bne_eq_false_iff_eq.mpr c57
      clear c57
      replace H:=Option.bind_eq_some_iff.mp H
      obtain⟨⟨t356,t357⟩,A580,H⟩:=H
      replace H:(if x337002_3.length<17592186044416 then(some ((wrap64 (1+t329)),(wrap64 (1+t331)),(x337002_3++[t356]),t357)) else(none))=some (r1,r2,r3,r4):=H
      have A58:=qbb.mk A580
      clear A580
      by_cases c59:x337002_3.length<17592186044416
      ·rw[if_pos c59] at H
       have LMc59:=qbb.mk c59
       clear c59
       obtain⟨y358,hy358⟩:∃y_:List Int,y_=(x337002_3++[t356]):=⟨_,rfl⟩
       replace H:(some ((wrap64 (1+t329)),(wrap64 (1+t331)),y358,t357))=some (r1,r2,r3,r4):=by first|(rw[hy358];with_reducible exact H)|(have H2_:=(Option.bind_some _ _).symm.trans H;rw[hy358];with_reducible exact H2_)|(have H2_:=(Option.bind_some _ _).symm.trans H;with_reducible exact H2_)|with_reducible exact H|(rw[hy358];exact H)|exact H
       have Ny358:=qbb.mk hy358
       clear hy358
       simp only[Option.some.injEq,Prod.mk.injEq] at H
       obtain⟨rfl,rfl,rfl,rfl⟩:=H
       try go_wp2_with(first|((with_reducible refine qao (f:=53) rfl ?_);refine qax (some 27) rfl rfl Try.func53 (by kernel_rfl) rfl #[.pointer (some ⟨g,0,none⟩),.int .i64 20] rfl (by(try simp only[List.map_toArray,List.map_cons,List.map_nil]);first|done|rfl|(simp only[List.length_drop,List.length_take];rfl)) ?_;(with_reducible refine(spec_l6Rd_pick.calls kj3 g s0_0 x1001_3 20 t346 t347 w0 _ ?side1 ?side2 A31.out).mono ?_);(case side1=>repeat(first|(with_reducible first|exact HI0.out|apply IsS111.alloc|apply IsS111.drewN|apply IsS111.drew|apply IsS111.set_1|refine IsS111.far ?_ NB0_328.out _|refine IsS111.far ?_ NB0_336.out _)|exact HI0.out));(case side2=>repeat(first|(with_reducible first|exact HB.out|apply qac|apply qaa|apply qab|refine qag ?_ (IsS111.ge HI0.out)|refine qag ?_ GE328.out|refine qag ?_ GE336.out)|exact HB.out));rintro e w60 ⟨rfl,hi,hb,hk⟩;refine⟨_,rfl,?_⟩;have n0_:=qbb.mk (Kd.Q_mono (Kd.Q_keep (IsS111.apartQ (show IsS111 w0 _ g s0_0 x1001_3 from by repeat(first|(with_reducible first|exact HI0.out|apply IsS111.alloc|apply IsS111.drewN|apply IsS111.drew|apply IsS111.set_1|refine IsS111.far ?_ NB0_328.out _|refine IsS111.far ?_ NB0_336.out _)|exact HI0.out)) (by(with_reducible repeat(first|apply Kd.Q_alloc|apply Kd.Q_drewN|apply Kd.Q_drew));exact HO_337002.out) (by decide)) hk (fun _ h=>h.2)) (fun _ h=>h.1));have n1_:=qbb.mk (KeepBut.blk hk (g':=gb328) (o:=.cells #[.int .i64 0,.int .i64 0,.slice none 0 0] 45 (0,0)) (by(with_reducible repeat(first|refine qae ?_ _|refine qaf ?_|refine qad ?_ _));exact BK328.out) NB328_0.out (by simp));have n2_:=qbb.mk (KeepBut.blk hk (g':=gb336) (o:=.cells #[.int .i64 (wrap64 (1+t329)),.int .i64 (wrap64 (1+t331)),u337002] 45 (0,0)) (by(with_reducible repeat(first|refine qae ?_ _|refine qaf ?_|refine qad ?_ _));exact BK336.out) NB336_0.out (by simp));have n3_:=qbb.mk (KeepBut.trans (by repeat(first|(with_reducible first|exact HK.out|apply KeepBut.set_|apply qar|apply qau|apply qas|refine qaw ?_ GW328.out _|refine qaw ?_ GW336.out _)|exact HK.out)) hk (.inl rfl));have n4_:=qbb.mk (hb);have n5_:=qbb.mk (hi);clear HO_337002;clear BK328;clear BK336;clear HK;clear HB;clear HI0;have HO_337002:=n0_;have BK328:=n1_;have BK336:=n2_;have HK:=n3_;have HB:=n4_;have HI0:=n5_;clear n0_ n1_ n2_ n3_ n4_ n5_;(try clear hb);(try clear hb2);(try clear hk);(try clear hi)))
       have n0_:=qbb.mk (Kd.Q_drew HO_337002.out)
       have n1_:=qbb.mk (qaf BK328.out)
       have n2_:=qbb.mk (qaf BK336.out)
       have n3_:=qbb.mk (IsS111.drew HI0.out)
       have n4_:=qbb.mk (qau HK.out)
       have n5_:=qbb.mk (qab HB.out)
       clear HO_337002
       clear BK328
       clear BK336
       clear HI0
       clear HK
       clear HB
       have HO_337002:=n0_
       have BK328:=n1_
       have BK336:=n2_
       have HI0:=n3_
       have HK:=n4_
       have HB:=n5_
       clear n0_ n1_ n2_ n3_ n4_ n5_
       refine start_ (n:=8) (S:=fun w'=>w'.cell? ⟨gb336,0,none⟩=some (.int .i64 (wrap64 (1+t329)))∧w'.cell? ⟨gb336,1,none⟩=some (.int .i64 (wrap64 (1+t331)))∧w'.cell? ⟨gb336,2,none⟩=some (u337002)) (ds:=[7]) #[false,false,false,false,false,false,false,false] (by kernel_rfl) rfl rfl ⟨(qai BK336.out 0).trans rfl,(qai BK336.out 1).trans rfl,(qai BK336.out 2).trans rfl⟩ (fun hHeld=>?_);refine with_tabW spec_l71Rec.tab13 spec_l71Rec.bits13 (fun HT_ HW_=>?_)
       generalize w60.drew=w61 at HO_337002 BK328 BK336 HI0 HK HB hHeld ⊢
       refine qbd (i:=0) (N:=some 43) (v:=?_) (a':=?_) #[true,false,false,false,false,false,false,false] rfl rfl (qba HT_.out (by kernel_rfl)) (fun _ _ _ h=>h) (Or.inl ⟨by rfl,?_⟩) ?_ ?_
       rotate_left
       ·intro w'
        go_simp
        with_reducible rfl
       rotate_left
       ·simp only[Act.put,List.setIfInBounds_toArray,List.set_cons_zero,List.set_cons_succ,qay,qaz]
        rfl
       refine qbd (i:=2) (N:=some 45) (v:=?_) (a':=?_) #[true,false,true,false,false,false,false,false] rfl rfl (qba HT_.out (by kernel_rfl)) (fun _ _ _ h=>h) (Or.inl ⟨by rfl,?_⟩) ?_ ?_
       rotate_left
       ·intro w'
        go_simp
        with_reducible rfl
       rotate_left
       ·simp only[Act.put,List.setIfInBounds_toArray,List.set_cons_zero,List.set_cons_succ,qay,qaz]
        rfl
       refine take_ (i:=1) (N:=some 44) (v:=?_) (a':=?_) #[true,true,true,false,false,false,false,false] rfl rfl (take_ofW HT_.out HW_.out (by kernel_rfl)) (fun _ _ _ h=>h) (Or.inl ⟨by rfl,?_⟩) hHeld ?_ ?_
       rotate_left
       ·rintro w' ⟨s0,s1,s2⟩
        go_simp
        with_reducible rfl
       rotate_left
       ·simp only[Act.put,List.setIfInBounds_toArray,List.set_cons_zero,List.set_cons_succ,qay,qaz]
        rfl
       refine one_ (i:=3) (N:=some 46) #[true,true,true,true,false,false,false,false] rfl rfl (one_of HT_.out (by kernel_rfl)) (by decide) (fun K hK=>?_)
       refine goes_ Try.func53 (by kernel_rfl) rfl #[.pointer (some ⟨g,0,none⟩),.int .i64 5] (by rfl) rfl rfl (by(try simp only[List.map_toArray,List.map_cons,List.map_nil]);first|done|rfl|(simp only[List.length_drop,List.length_take];rfl)) ?_
       with_reducible refine(spec_l6Rd_pick.calls kj3 g s0_0 t347 5 t356 t357 w0 _ ?side1 ?side2 A58.out).mono ?_
       (case side1=>repeat(first|(with_reducible first|exact HI0.out|apply IsS111.alloc|apply IsS111.drewN|apply IsS111.drew|apply IsS111.set_1|refine IsS111.far ?_ NB0_328.out _|refine IsS111.far ?_ NB0_336.out _)|exact HI0.out))
       (case side2=>repeat(first|(with_reducible first|exact HB.out|apply qac|apply qaa|apply qab|refine qag ?_ (IsS111.ge HI0.out)|refine qag ?_ GE328.out|refine qag ?_ GE336.out)|exact HB.out))
       rintro e w62 ⟨rfl,hi,hb,hk⟩
       refine⟨_,rfl,?_⟩
       have n0_:=qbb.mk (Kd.Q_mono (Kd.Q_keep (IsS111.apartQ (show IsS111 w0 _ g s0_0 t347 from by repeat(first|(with_reducible first|exact HI0.out|apply IsS111.alloc|apply IsS111.drewN|apply IsS111.drew|apply IsS111.set_1|refine IsS111.far ?_ NB0_328.out _|refine IsS111.far ?_ NB0_336.out _)|exact HI0.out)) (by(with_reducible repeat(first|apply Kd.Q_alloc|apply Kd.Q_drewN|apply Kd.Q_drew));exact HO_337002.out) (by decide)) hk (fun _ h=>h.2)) (fun _ h=>h.1))
       have n1_:=qbb.mk (KeepBut.blk hk (g':=gb328) (o:=.cells #[.int .i64 0,.int .i64 0,.slice none 0 0] 45 (0,0)) (by(with_reducible repeat(first|refine qae ?_ _|refine qaf ?_|refine qad ?_ _));exact BK328.out) NB328_0.out (by simp))
       have n2_:=qbb.mk (KeepBut.blk hk (g':=gb336) (o:=.cells #[.int .i64 (wrap64 (1+t329)),.int .i64 (wrap64 (1+t331)),u337002] 45 (0,0)) (by(with_reducible repeat(first|refine qae ?_ _|refine qaf ?_|refine qad ?_ _));exact BK336.out) NB336_0.out (by simp))
       have n3_:=qbb.mk (KeepBut.trans (by repeat(first|(with_reducible first|exact HK.out|apply KeepBut.set_|apply qar|apply qau|apply qas|refine qaw ?_ GW328.out _|refine qaw ?_ GW336.out _)|exact HK.out)) hk (.inl rfl))
       have n4_:=qbb.mk (hb)
       have n5_:=qbb.mk (hi)
       clear HO_337002
       clear BK328
       clear BK336
       clear HK
       clear HB
       clear HI0
       have HO_337002:=n0_
       have BK328:=n1_
       have BK336:=n2_
       have HK:=n3_
       have HB:=n4_
       have HI0:=n5_
       clear n0_ n1_ n2_ n3_ n4_ n5_
       (try clear hb)
       (try clear hb2)
       (try clear hk)
       (try clear hi)
       refine hK.out _ _ ⟨(qai BK336.out 0).trans rfl,(qai BK336.out 1).trans rfl,(qai BK336.out 2).trans rfl⟩ (fun hHeld=>?_)
       clear hK K
       refine norm_ (a':=?_) ?_ ?_
       rotate_left
       ·show Act.put _ (some 46) _=_
        simp only[Act.put,List.setIfInBounds_toArray,List.set_cons_zero,List.set_cons_succ,qay,qaz]
        rfl
       refine one_ (i:=4) (N:=some 47) #[true,true,true,true,true,false,false,false] rfl rfl (one_of HT_.out (by kernel_rfl)) (by decide) (fun K hK=>?_)
       refine value_ (w1:=?_) (v:=?_) (by rfl) rfl ?_ ?_
       rotate_left 2
       ·go_simp
        constructor
        ·rfl
        ·rfl
       refine hK.out _ _ ⟨(qai (qad BK336.out _) 0).trans rfl,(qai (qad BK336.out _) 1).trans rfl,(qai (qad BK336.out _) 2).trans rfl⟩ (fun hHeld=>?_)
       clear hK K
       refine norm_ (a':=?_) ?_ ?_
       rotate_left
       ·show Act.put _ (some 47) _=_
        simp only[Act.put,List.setIfInBounds_toArray,List.set_cons_zero,List.set_cons_succ,qay,qaz]
        rfl
       refine one_ (i:=5) (N:=some 48) #[true,true,true,true,true,true,false,false] rfl rfl (one_of HT_.out (by kernel_rfl)) (by decide) (fun K hK=>?_)
       refine Kd.Q_append_step (Kd.int .i64) w.heap.size (by rfl) (.tmp 44) (.tmp 47) 40 3 (.int .i64 0) 8 rfl Try.underlying40 info3 rfl (by decide) (by omega) u337002 x337002_3 t356 [.int .i64 t356] (fun _=>True) (fun _=>False) rfl rfl ?aP (fun _ hk=>hk.elim) ?aF ?aO (Below.refl _ _) ?aS ?aL ?_
       (case aP=>exact rfl)
       (case aF=>exact(fun _ _=>trivial))
       (case aO=>exact(by(with_reducible repeat(first|apply Kd.Q_alloc|apply Kd.Q_drewN|apply Kd.Q_drew));exact HO_337002.out))
       (case aS=>exact(keep_size (w:=w) (g:=g) (row:=none) (by repeat(first|(with_reducible first|exact HK.out|apply KeepBut.set_|apply qar|apply qau|apply qas|refine qaw ?_ GW328.out _|refine qaw ?_ GW336.out _)|exact HK.out))))
       (case aL=>have:=LMc59.out;omega)
       intro v359 w63 ho hb hg hat
       rw[←Ny358.out] at ho
       have n0_:=qbb.mk (blk_grown (g:=gb328) (o:=.cells #[.int .i64 0,.int .i64 0,.slice none 0 0] 45 (0,0)) (by(with_reducible repeat(first|refine qae ?_ _|refine qaf ?_|refine qad ?_ _));exact BK328.out) hg (Kd.Q_ne HO_337002.out BK328.out (by decide)))
       have n1_:=qbb.mk (blk_grown (g:=gb336) (o:=.cells #[.int .i64 (wrap64 (1+t329)),.int .i64 (wrap64 (1+t331)),u337002] 45 (0,0)) (by(with_reducible repeat(first|refine qae ?_ _|refine qaf ?_|refine qad ?_ _));exact BK336.out) hg (Kd.Q_ne HO_337002.out BK336.out (by decide)))
       have n2_:=qbb.mk (IsS111.grown (by repeat(first|(with_reducible first|exact HI0.out|apply IsS111.alloc|apply IsS111.drewN|apply IsS111.drew|apply IsS111.set_1|refine IsS111.far ?_ NB0_328.out _|refine IsS111.far ?_ NB0_336.out _)|exact HI0.out)) hg (IsS111.own_neQ HI0.out HO_337002.out (by decide)))
       have n3_:=qbb.mk (below_weaken (by repeat(first|(with_reducible first|exact HB.out|apply qac|apply qaa|apply qab|refine qag ?_ (IsS111.ge HI0.out)|refine qag ?_ GE328.out|refine qag ?_ GE336.out)|exact HB.out)) HL.out hb)
       have n4_:=qbb.mk (KeepBut.trans (by repeat(first|(with_reducible first|exact HK.out|apply KeepBut.set_|apply qar|apply qau|apply qas|refine qaw ?_ GW328.out _|refine qaw ?_ GW336.out _)|exact HK.out)) (KeepBut.of_grown hg g) (Kd.Q_base2 HO_337002.out))
       have n5_:=qbb.mk (ho)
       clear BK328
       clear BK336
       clear HI0
       clear HB
       clear HK
       clear HO_337002
       have BK328:=n0_
       have BK336:=n1_
       have HI0:=n2_
       have HB:=n3_
       have HK:=n4_
       have HO360:=n5_
       clear n0_ n1_ n2_ n3_ n4_ n5_
       clear ho hb hg hat
       obtain⟨Ao64,co64,eo64,_⟩:=Kd.Q_slice HO360.out
       (first|subst eo64|(injection eo64 with f1_ f2_ f3_;have f4_:=f1_.symm;have f5_:=f3_.symm;clear f1_ f2_ f3_;subst f4_;subst f5_))
       refine hK.out _ _ ⟨(qai BK336.out 0).trans rfl,(qai BK336.out 1).trans rfl,(qai BK336.out 2).trans rfl⟩ (fun hHeld=>?_)
       clear hK K
       refine norm_ (a':=?_) ?_ ?_
       rotate_left
       ·show Act.put _ (some 48) _=_
        simp only[Act.put,List.setIfInBounds_toArray,List.set_cons_zero,List.set_cons_succ,qay,qaz]
        rfl
       refine qbd (i:=6) (N:=some 49) (v:=?_) (a':=?_) #[true,true,true,true,true,true,true,false] rfl rfl (qba HT_.out (by kernel_rfl)) (fun _ _ _ h=>h) (Or.inl ⟨by rfl,?_⟩) ?_ ?_
       rotate_left
       ·intro w'
        go_simp
        with_reducible rfl
       rotate_left
       ·simp only[Act.put,List.setIfInBounds_toArray,List.set_cons_zero,List.set_cons_succ,qay,qaz]
        rfl
       refine last_ (i:=7) (N:=none) #[true,true,true,true,true,true,true,true] rfl rfl (one_of HT_.out (by kernel_rfl)) (by decide) (fun K hK=>?_)
       have hs65:w63.cell? ⟨gb336,2,none⟩=some (u337002):=(qai BK336.out 2).trans rfl
       have hfs65:=qah BK336.out 2
       have hns65_0:=NB328_336.out
       have hms65_0:=NB336_328.out
       refine skip_ (w1:=?_) (by rfl) rfl ?_ ?_
       rotate_left
       ·go_simp
        rfl
       refine hK.out _ _ ?_
       clear hK K
       refine done_ (done_of HT_.out (by kernel_rfl)) ?_
       have hnb66:=NB336_328.out
       have hnc66:=NB328_336.out
       have hnb67:=NB336_0.out
       have hnc67:=NB0_336.out
       have hcz68_0:w63.cell? ⟨gb336,0,none⟩=some (.int .i64 (wrap64 (1+t329))):=(qai BK336.out 0).trans rfl
       have hcz68_1:w63.cell? ⟨gb336,1,none⟩=some (.int .i64 (wrap64 (1+t331))):=(qai BK336.out 1).trans rfl
       have hcz68_2:w63.cell? ⟨gb336,2,none⟩=some (u337002):=(qai BK336.out 2).trans rfl
       have hfz68_0:=qah BK336.out 0
       have hfz68_1:=qah BK336.out 1
       have hfz68_2:=qah BK336.out 2
       have hnb69:=NB328_0.out
       have hnc69:=NB0_328.out
       have hcz70_0:w63.cell? ⟨gb328,0,none⟩=some (.int .i64 0):=(qai BK328.out 0).trans rfl
       have hcz70_1:w63.cell? ⟨gb328,1,none⟩=some (.int .i64 0):=(qai BK328.out 1).trans rfl
       have hcz70_2:w63.cell? ⟨gb328,2,none⟩=some (.slice none 0 0):=(qai BK328.out 2).trans rfl
       have hfz70_0:=qah BK328.out 0
       have hfz70_1:=qah BK328.out 1
       have hfz70_2:=qah BK328.out 2
       try go_wp2
       refine bodyPost_ret (results_cell_row rfl _ _ gb328 45 #[.int .i64 (wrap64 (1+t329)),.int .i64 (wrap64 (1+t331)),.slice Ao64 y358.length co64] (0,0) _ rfl (by(with_reducible repeat(first|refine qae ?_ _|refine qaf ?_|refine qad ?_ _));refine qaq (cs:=#[.int .i64 (wrap64 (1+t329)),.int .i64 (wrap64 (1+t331)),.slice none 0 0]) ?_ 2 _ rfl;(with_reducible repeat(first|refine qae ?_ _|refine qaf ?_|refine qad ?_ _));refine qaq (cs:=#[.int .i64 (wrap64 (1+t329)),.int .i64 0,.slice none 0 0]) ?_ 1 _ rfl;(with_reducible repeat(first|refine qae ?_ _|refine qaf ?_|refine qad ?_ _));refine qaq (cs:=#[.int .i64 0,.int .i64 0,.slice none 0 0]) ?_ 0 _ rfl;(with_reducible repeat(first|refine qae ?_ _|refine qaf ?_|refine qad ?_ _));refine qap ?_ NB328_336.out _;(with_reducible repeat(first|refine qae ?_ _|refine qaf ?_|refine qad ?_ _));exact BK328.out) Try.underlying45 rfl (by kernel_rfl)) rfl ?_
       exact⟨_,by first|rfl|(simp[qan,qam]<;>rfl)|(simp[*,qan,qam]<;>rfl),by(with_reducible repeat(first|apply Kd.Q_alloc|apply Kd.Q_drewN|apply Kd.Q_drew));exact Kd.Q_mono (Kd.Q_far (p:=⟨gb328,2,none⟩) (Kd.Q_far (p:=⟨gb328,1,none⟩) (Kd.Q_far (p:=⟨gb328,0,none⟩) (Kd.Q_far (p:=⟨gb336,2,none⟩) (Kd.Q_types (Kd.Q_types HO360.out BK336.out (by decide)) BK328.out (by decide)) (fun _ hk=>hk.1.2) (.slice Ao64 y358.length co64)) (fun _ hk=>hk.2) (.int .i64 (wrap64 (1+t329)))) (fun _ hk=>hk.2) (.int .i64 (wrap64 (1+t331)))) (fun _ hk=>hk.2) (.slice Ao64 y358.length co64)) (fun _ hk=>trivial),by repeat(first|(with_reducible first|exact HI0.out|apply IsS111.alloc|apply IsS111.drewN|apply IsS111.drew|apply IsS111.set_1|refine IsS111.far ?_ NB0_328.out _|refine IsS111.far ?_ NB0_336.out _)|exact HI0.out),by repeat(first|(with_reducible first|exact HB.out|apply qac|apply qaa|apply qab|refine qag ?_ (IsS111.ge HI0.out)|refine qag ?_ GE328.out|refine qag ?_ GE336.out)|exact HB.out),by repeat(first|(with_reducible first|exact HK.out|apply KeepBut.set_|apply qar|apply qau|apply qas|refine qaw ?_ GW328.out _|refine qaw ?_ GW336.out _)|exact HK.out)⟩
      ·rw[if_neg c59] at H
       exact absurd H (by simp)
     ·rw[if_neg c57] at H
      have c57b0:(t346 == 2)=false:=beq_eq_false_iff_ne.mpr c57
      have c57b1:(t346 != 2)=true:=bne_iff_ne.mpr c57
      simp only[Option.some.injEq,Prod.mk.injEq] at H
      obtain⟨rfl,rfl,rfl,rfl⟩:=H
      go_wp2_with(first|((with_reducible refine qao (f:=53) rfl ?_);refine qax (some 27) rfl rfl Try.func53 (by kernel_rfl) rfl #[.pointer (some ⟨g,0,none⟩),.int .i64 20] rfl (by(try simp only[List.map_toArray,List.map_cons,List.map_nil]);first|done|rfl|(simp only[List.length_drop,List.length_take];rfl)) ?_;(with_reducible refine(spec_l6Rd_pick.calls kj3 g s0_0 x1001_3 20 t346 t347 w0 _ ?side1 ?side2 A31.out).mono ?_);(case side1=>repeat(first|(with_reducible first|exact HI0.out|apply IsS111.alloc|apply IsS111.drewN|apply IsS111.drew|apply IsS111.set_1|refine IsS111.far ?_ NB0_328.out _|refine IsS111.far ?_ NB0_336.out _)|exact HI0.out));(case side2=>repeat(first|(with_reducible first|exact HB.out|apply qac|apply qaa|apply qab|refine qag ?_ (IsS111.ge HI0.out)|refine qag ?_ GE328.out|refine qag ?_ GE336.out)|exact HB.out));rintro e w71 ⟨rfl,hi,hb,hk⟩;refine⟨_,rfl,?_⟩;have n0_:=qbb.mk (Kd.Q_mono (Kd.Q_keep (IsS111.apartQ (show IsS111 w0 _ g s0_0 x1001_3 from by repeat(first|(with_reducible first|exact HI0.out|apply IsS111.alloc|apply IsS111.drewN|apply IsS111.drew|apply IsS111.set_1|refine IsS111.far ?_ NB0_328.out _|refine IsS111.far ?_ NB0_336.out _)|exact HI0.out)) (by(with_reducible repeat(first|apply Kd.Q_alloc|apply Kd.Q_drewN|apply Kd.Q_drew));exact HO_337002.out) (by decide)) hk (fun _ h=>h.2)) (fun _ h=>h.1));have n1_:=qbb.mk (KeepBut.blk hk (g':=gb328) (o:=.cells #[.int .i64 0,.int .i64 0,.slice none 0 0] 45 (0,0)) (by(with_reducible repeat(first|refine qae ?_ _|refine qaf ?_|refine qad ?_ _));exact BK328.out) NB328_0.out (by simp));have n2_:=qbb.mk (KeepBut.blk hk (g':=gb336) (o:=.cells #[.int .i64 (wrap64 (1+t329)),.int .i64 (wrap64 (1+t331)),u337002] 45 (0,0)) (by(with_reducible repeat(first|refine qae ?_ _|refine qaf ?_|refine qad ?_ _));exact BK336.out) NB336_0.out (by simp));have n3_:=qbb.mk (KeepBut.trans (by repeat(first|(with_reducible first|exact HK.out|apply KeepBut.set_|apply qar|apply qau|apply qas|refine qaw ?_ GW328.out _|refine qaw ?_ GW336.out _)|exact HK.out)) hk (.inl rfl));have n4_:=qbb.mk (hb);have n5_:=qbb.mk (hi);clear HO_337002;clear BK328;clear BK336;clear HK;clear HB;clear HI0;have HO_337002:=n0_;have BK328:=n1_;have BK336:=n2_;have HK:=n3_;have HB:=n4_;have HI0:=n5_;clear n0_ n1_ n2_ n3_ n4_ n5_;(try clear hb);(try clear hb2);(try clear hk);(try clear hi);have hnb72:=NB336_328.out;have hnc72:=NB328_336.out;have hnb73:=NB336_0.out;have hnc73:=NB0_336.out;have hcz74_0:w71.cell? ⟨gb336,0,none⟩=some (.int .i64 (wrap64 (1+t329))):=(qai BK336.out 0).trans rfl;have hcz74_1:w71.cell? ⟨gb336,1,none⟩=some (.int .i64 (wrap64 (1+t331))):=(qai BK336.out 1).trans rfl;have hcz74_2:w71.cell? ⟨gb336,2,none⟩=some (u337002):=(qai BK336.out 2).trans rfl;have hfz74_0:=qah BK336.out 0;have hfz74_1:=qah BK336.out 1;have hfz74_2:=qah BK336.out 2;have hnb75:=NB328_0.out;have hnc75:=NB0_328.out;have hcz76_0:w71.cell? ⟨gb328,0,none⟩=some (.int .i64 0):=(qai BK328.out 0).trans rfl;have hcz76_1:w71.cell? ⟨gb328,1,none⟩=some (.int .i64 0):=(qai BK328.out 1).trans rfl;have hcz76_2:w71.cell? ⟨gb328,2,none⟩=some (.slice none 0 0):=(qai BK328.out 2).trans rfl;have hfz76_0:=qah BK328.out 0;have hfz76_1:=qah BK328.out 1;have hfz76_2:=qah BK328.out 2;obtain⟨Ao77,co77,eo77,_⟩:=Kd.Q_slice HO_337002.out;subst eo77))
      refine bodyPost_ret (results_cell_row rfl _ _ gb328 45 #[.int .i64 (wrap64 (1+t329)),.int .i64 (wrap64 (1+t331)),.slice Ao77 x337002_3.length co77] (0,0) _ rfl (by(with_reducible repeat(first|refine qae ?_ _|refine qaf ?_|refine qad ?_ _));refine qaq (cs:=#[.int .i64 (wrap64 (1+t329)),.int .i64 (wrap64 (1+t331)),.slice none 0 0]) ?_ 2 _ rfl;(with_reducible repeat(first|refine qae ?_ _|refine qaf ?_|refine qad ?_ _));refine qaq (cs:=#[.int .i64 (wrap64 (1+t329)),.int .i64 0,.slice none 0 0]) ?_ 1 _ rfl;(with_reducible repeat(first|refine qae ?_ _|refine qaf ?_|refine qad ?_ _));refine qaq (cs:=#[.int .i64 0,.int .i64 0,.slice none 0 0]) ?_ 0 _ rfl;(with_reducible repeat(first|refine qae ?_ _|refine qaf ?_|refine qad ?_ _));exact BK328.out) Try.underlying45 rfl (by kernel_rfl)) rfl ?_
      exact⟨_,by first|rfl|(simp[qan,qam]<;>rfl)|(simp[*,qan,qam]<;>rfl),by(with_reducible repeat(first|apply Kd.Q_alloc|apply Kd.Q_drewN|apply Kd.Q_drew));exact Kd.Q_mono (Kd.Q_far (p:=⟨gb328,2,none⟩) (Kd.Q_far (p:=⟨gb328,1,none⟩) (Kd.Q_far (p:=⟨gb328,0,none⟩) (Kd.Q_types HO_337002.out BK328.out (by decide)) (fun _ hk=>hk.2) (.int .i64 (wrap64 (1+t329)))) (fun _ hk=>hk.2) (.int .i64 (wrap64 (1+t331)))) (fun _ hk=>hk.2) (.slice Ao77 x337002_3.length co77)) (fun _ hk=>trivial),by repeat(first|(with_reducible first|exact HI0.out|apply IsS111.alloc|apply IsS111.drewN|apply IsS111.drew|apply IsS111.set_1|refine IsS111.far ?_ NB0_328.out _|refine IsS111.far ?_ NB0_336.out _)|exact HI0.out),by repeat(first|(with_reducible first|exact HB.out|apply qac|apply qaa|apply qab|refine qag ?_ (IsS111.ge HI0.out)|refine qag ?_ GE328.out|refine qag ?_ GE336.out)|exact HB.out),by repeat(first|(with_reducible first|exact HK.out|apply KeepBut.set_|apply qar|apply qau|apply qas|refine qaw ?_ GW328.out _|refine qaw ?_ GW336.out _)|exact HK.out)⟩
def spec_l71RecV.f:=@spec_l71Rec.f
theorem spec_l71RecV.mono:∀a0 a1 k,LeO (spec_l71RecV.f k a0 a1) (spec_l71RecV.f (k+1) a0 a1):=spec_l71Rec.mono
theorem spec_l71RecV.calls (k:Nat) (g:Nat) (s0_0:List Int) (s0_1:Int) (r1:Int) (r2:Int) (r3:List Int) (r4:Int) (w0 w:World) (hI:IsS111 w0 w g s0_0 s0_1) (hB:Below w0.heap.size w0 w) (h:spec_l71RecV.f k s0_0 s0_1=some (r1,r2,r3,r4)) :
  Calls Try.prog 62 #[.pointer (some ⟨g,0,none⟩)] w fun e w'=>∃v2_:Value,e=.returned (.agg #[.int .i64 r1,.int .i64 r2,v2_])∧Kd.V (Kd.int .i64) 3 w' w.heap.size (fun k_=>(w.heap.size≤k_)) v2_ r3∧IsS111 w0 w' g s0_0 r4∧Below w0.heap.size w0 w'∧KeepBut w w' g none:=by
 refine(spec_l71Rec.calls k g s0_0 s0_1 r1 r2 r3 r4 w0 w hI hB h).mono ?_
 rintro e w' ⟨v_,he,hq,hx⟩
 exact⟨v_,he,Kd.Q_V (Kd.Q_mono (Kd.Q_bound hq) (fun k_ hk=>hk.2.1)),hx⟩
end Go.Proofs.Ytkbjgmfghhgodaa.Print
