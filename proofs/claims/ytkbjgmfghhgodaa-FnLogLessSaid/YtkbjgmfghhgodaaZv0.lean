-- Written by squeeze.py, a program of this session, out of what print.sh and myprint.py had printed: cut to what is used, narrowed. Not trusted, Lean checks it.
import Derived.Test.YtkbjgmfghhgodaaZK
import Derived.Test.YtkbjgmfghhgodaaZc2
import Derived.Test.YtkbjgmfghhgodaaZe0
import Derived.Test.YtkbjgmfghhgodaaZl0
import Derived.Test.YtkbjgmfghhgodaaZn1
namespace Go.Proofs.Ytkbjgmfghhgodaa.Print
open Go.RowKit Go.Proofs.YtkbjgmfghhgodaaW.PrintWords Go.Proofs.YtkbjgmfghhgodaaW.PrintLast Go.Proofs.YtkbjgmfghhgodaaW.PrintMore
attribute [local go_sem] max2_int min2_int max_two min_two max_three min_three max_four min_four
set_option linter.unusedVariables false
set_option linter.unusedSimpArgs false
mutual
def spec_l71Log.l0:Nat→Int→List Int→Int→List (S45)→Int→Option ((List (S45)) × Int × Int)
 |0,_,_,_,_,_=>none
 |k+1,x4,x1000,x1001,x547000,x547001=>if x4>0 then((spec_l71RecV.f k x1000 x1001).bind fun bt549=>((spec_RecOk.f k bt549.1 bt549.2.1 bt549.2.2.1).bind fun t556=>(if t556=true then(if x547000.length<3518437208883 then(spec_l71Log.l0 k (wrap64 (x4 - 1)) x1000 bt549.2.2.2 (x547000++[(⟨bt549.1,bt549.2.1,bt549.2.2.1⟩:S45)]) x547001) else(none)) else(spec_l71Log.l0 k (wrap64 (x4 - 1)) x1000 bt549.2.2.2 x547000 x547001)))) else((spec_l6Rd_pick.f k x1000 x1001 (wrap64 ((x547000.length:Int)+1))).bind fun bt560=>((spec_l6Rd_pick.f k x1000 bt560.2 20).bind fun bt562=>(if bt562.1=0 then((some (([(-1),wrap64 ((x547000.length:Int)+1)]:List Int):List Int)).bind fun y564=>((spec_l6Rd_pick.f k x1000 bt562.2 2).bind fun bt567=>(if 0≤bt567.1 then(if bt567.1<(y564.length:Int) then(some (x547000,rd y564 bt567.1,bt567.2)) else(none)) else(none)))) else(if bt562.1=1 then(if x547000.length<3518437208883 then(some ((x547000++[(⟨9,0,([]:List Int)⟩:S45)]),bt560.1,bt562.2)) else(none)) else(if bt562.1=2 then(spec_l71Log.l1 k x1000 bt562.2 x547000 bt560.1) else(some (x547000,bt560.1,bt562.2)))))))
def spec_l71Log.l1:Nat→List Int→Int→List (S45)→Int→Option ((List (S45)) × Int × Int)
 |0,_,_,_,_=>none
 |k+1,x1000,x1001,x547000,x547001=>(spec_l6Rd_pick.f k x1000 x1001 2).bind fun bt573=>(if(x547000.length:Int)<(wrap64 (40+bt573.1)) then(if x547000.length<3518437208883 then(spec_l71Log.l1 k x1000 bt573.2 (x547000++[(⟨7,1,([]:List Int)⟩:S45)]) x547001) else(none)) else(some (x547000,x547001,bt573.2)))
end
def spec_l71Log.f (k:Nat) (s0_0:List Int) (s0_1:Int):Option ((List (S45)) × Int × Int):=(spec_l6Rd_pick.f k s0_0 s0_1 9).bind fun bt547=>(spec_l71Log.l0 k bt547.1 s0_0 bt547.2 (([]:List (S45))) 0)
theorem spec_l71Log.mono_l:∀k,(∀y0 y1 y2 y3 y4,LeO (spec_l71Log.l0 k y0 y1 y2 y3 y4) (spec_l71Log.l0 (k+1) y0 y1 y2 y3 y4))∧(∀y0 y1 y2 y3,LeO (spec_l71Log.l1 k y0 y1 y2 y3) (spec_l71Log.l1 (k+1) y0 y1 y2 y3))
 |0=>⟨fun _ _ _ _ _ r h=>by simp[spec_l71Log.l0] at h,fun _ _ _ _ r h=>by simp[spec_l71Log.l1] at h⟩
 |k+1=>by
  obtain⟨ih0,ih1⟩:=spec_l71Log.mono_l k
  refine⟨?_,?_⟩
  ·intro y0 y1 y2 y3 y4
   unfold spec_l71Log.l0
   repeat' first
   |(with_reducible exact ih0 _ _ _ _ _)
   |(with_reducible exact ih1 _ _ _ _)
   |(with_reducible exact spec_RecOk.mono _ _ _ _)
   |(with_reducible exact spec_l6Rd_pick.mono _ _ _ _)
   |(with_reducible exact spec_l71RecV.mono _ _ _)
   |(with_reducible exact LeO.refl _)
   |(with_reducible exact LeO.none _)
   |(with_reducible refine LeO.ite ?_ ?_)
   |(with_reducible refine LeO.bind ?_ (fun _=>?_))
   |exact ih0 _ _ _ _ _
   |exact ih1 _ _ _ _
   |exact spec_RecOk.mono _ _ _ _
   |exact spec_l6Rd_pick.mono _ _ _ _
   |exact spec_l71RecV.mono _ _ _
   |exact LeO.none _
   |refine LeO.ite ?_ ?_
   |refine LeO.bind ?_ (fun _=>?_)
  ·intro y0 y1 y2 y3
   unfold spec_l71Log.l1
   repeat' first
   |(with_reducible exact ih0 _ _ _ _ _)
   |(with_reducible exact ih1 _ _ _ _)
   |(with_reducible exact spec_RecOk.mono _ _ _ _)
   |(with_reducible exact spec_l6Rd_pick.mono _ _ _ _)
   |(with_reducible exact spec_l71RecV.mono _ _ _)
   |(with_reducible exact LeO.refl _)
   |(with_reducible exact LeO.none _)
   |(with_reducible refine LeO.ite ?_ ?_)
   |(with_reducible refine LeO.bind ?_ (fun _=>?_))
   |exact ih0 _ _ _ _ _
   |exact ih1 _ _ _ _
   |exact spec_RecOk.mono _ _ _ _
   |exact spec_l6Rd_pick.mono _ _ _ _
   |exact spec_l71RecV.mono _ _ _
   |exact LeO.none _
   |refine LeO.ite ?_ ?_
   |refine LeO.bind ?_ (fun _=>?_)
theorem spec_l71Log.mono:∀a0 a1 k,LeO (spec_l71Log.f k a0 a1) (spec_l71Log.f (k+1) a0 a1):=by
 intro a0 a1 k
 obtain⟨ih0,ih1⟩:=spec_l71Log.mono_l k
 unfold spec_l71Log.f
 repeat' first
   |(with_reducible exact ih0 _ _ _ _ _)
   |(with_reducible exact ih1 _ _ _ _)
   |(with_reducible exact spec_RecOk.mono _ _ _ _)
   |(with_reducible exact spec_l6Rd_pick.mono _ _ _ _)
   |(with_reducible exact spec_l71RecV.mono _ _ _)
   |(with_reducible exact LeO.refl _)
   |(with_reducible exact LeO.none _)
   |(with_reducible refine LeO.ite ?_ ?_)
   |(with_reducible refine LeO.bind ?_ (fun _=>?_))
   |exact ih0 _ _ _ _ _
   |exact ih1 _ _ _ _
   |exact spec_RecOk.mono _ _ _ _
   |exact spec_l6Rd_pick.mono _ _ _ _
   |exact spec_l71RecV.mono _ _ _
   |exact LeO.none _
   |refine LeO.ite ?_ ?_
   |refine LeO.bind ?_ (fun _=>?_)
def spec_l71Log.T11:Bool × List (List Nat × List Nat):=(true,[([],[]),([0],[0]),([1],[1]),([2],[2]),([3],[3]),([],[]),([5],[5]),([4,6],[4,6]),([7],[7]),([0,1,2,3,4,5,6,7,8],[]),([9,8,6,0,1,2,3,4,5,6,7,8],[8,9])])
def spec_l71Log.B11:List Nat:=[0,1,3,7,15,0,32,127,255,511,1023]
theorem spec_l71Log.tab11:rtab .any (opsOf Try.f76 11)=spec_l71Log.T11:=by kernel_rfl
theorem spec_l71Log.bits11:waitsOk spec_l71Log.T11.2 spec_l71Log.B11=true:=by kernel_rfl
set_option maxHeartbeats 8000000 in
set_option maxRecDepth 100000 in
theorem spec_l71Log.calls (k:Nat) (g:Nat) (s0_0:List Int) (s0_1:Int) (r1:List (S45)) (r2:Int) (r3:Int) (w0 w:World) (hI:IsS111 w0 w g s0_0 s0_1) (hB:Below w0.heap.size w0 w) (h:spec_l71Log.f k s0_0 s0_1=some (r1,r2,r3)) :
  Calls Try.prog 76 #[.pointer (some ⟨g,0,none⟩)] w fun e w'=>∃v0_:Value,e=.returned (.agg #[v0_,.int .i64 r2])∧Kd.N k45 45 w' w.heap.size (fun k_=>(w.heap.size≤k_)) v0_ r1∧IsS111 w0 w' g s0_0 r3∧Below w0.heap.size w0 w'∧KeepBut w w' g none:=by
 have hu68:=Try.underlying68
 have hu45:=Try.underlying45
 have HI0:=qbb.mk hI
 have HK:=qbb.mk (KeepBut.refl w g none)
 have HL:=qbb.mk hB.size
 clear hI
 have HW0:=qbb.mk hB.size
 have HB:=qbb.mk hB
 clear hB
 have H:((spec_l6Rd_pick.f k s0_0 s0_1 9).bind fun bt547=>(spec_l71Log.l0 k bt547.1 s0_0 bt547.2 (([]:List (S45))) 0))=some (r1,r2,r3):=h
 clear h
 obtain⟨y543,hy543⟩:∃y_:List (S45),y_=(([]:List (S45))):=⟨_,rfl⟩
 replace H:((spec_l6Rd_pick.f k s0_0 s0_1 9).bind fun bt547=>(spec_l71Log.l0 k bt547.1 s0_0 bt547.2 y543 0))=some (r1,r2,r3):=by first|(rw[hy543];with_reducible exact H)|(have H2_:=(Option.bind_some _ _).symm.trans H;rw[hy543];with_reducible exact H2_)|(have H2_:=(Option.bind_some _ _).symm.trans H;with_reducible exact H2_)|with_reducible exact H|(rw[hy543];exact H)|exact H
 have Ny543:=qbb.mk hy543
 clear hy543
 replace H:=Option.bind_eq_some_iff.mp H
 obtain⟨⟨t547,t548⟩,A20,H⟩:=H
 replace H:(spec_l71Log.l0 k t547 s0_0 t548 y543 0)=some (r1,r2,r3):=H
 have A2:=qbb.mk A20
 clear A20
 have H':=qbb.mk H
 clear H
 go_enter Try.func76,Try.ntmps76
 go_wp2_with(first|((with_reducible refine qav (N:=2) rfl ?_);refine qat ?hg (N:=2) ?hd (cs:=#[.slice none 0 0,.int .i64 0]) (t:=68) ?hr ?_;(case hd=>rfl);(case hg=>rfl);(case hr=>first|(go_simp;done)|(go_simp;rfl));intro gb542 hg w3 hbox hb;have n0_:=qbb.mk (IsS111.below (by repeat(first|(with_reducible first|exact HI0.out|apply IsS111.alloc|apply IsS111.drewN|apply IsS111.drew|apply IsS111.set_1)|exact HI0.out)) hb);have n1_:=qbb.mk (KeepBut.trans (by repeat(first|(with_reducible first|exact HK.out|apply KeepBut.set_|apply qar|apply qau|apply qas)|exact HK.out)) (KeepBut.of_below hb g none) (.inl rfl));have n2_:=qbb.mk (qak (by repeat(first|(with_reducible first|exact HB.out|apply qac|apply qaa|apply qab|refine qag ?_ (IsS111.ge HI0.out))|exact HB.out)) hb);have n3_:=qbb.mk (hbox);have n4_:=qbb.mk ((by rw[hg];exact(keep_size (w:=w) (g:=g) (row:=none) (by repeat(first|(with_reducible first|exact HK.out|apply KeepBut.set_|apply qar|apply qau|apply qas)|exact HK.out))):w.heap.size≤gb542));have n5_:=qbb.mk ((Nat.le_trans HW0.out (by rw[hg];exact(keep_size (w:=w) (g:=g) (row:=none) (by repeat(first|(with_reducible first|exact HK.out|apply KeepBut.set_|apply qar|apply qau|apply qas)|exact HK.out))):w.heap.size≤gb542):w0.heap.size≤gb542));have n6_:=qbb.mk ((by rw[hg];exact Nat.ne_of_lt (IsS111.lt (show IsS111 w0 _ g s0_0 s0_1 from by repeat(first|(with_reducible first|exact HI0.out|apply IsS111.alloc|apply IsS111.drewN|apply IsS111.drew|apply IsS111.set_1)|exact HI0.out))):g≠gb542));have n7_:=qbb.mk ((by rw[hg];exact Nat.ne_of_gt (IsS111.lt (show IsS111 w0 _ g s0_0 s0_1 from by repeat(first|(with_reducible first|exact HI0.out|apply IsS111.alloc|apply IsS111.drewN|apply IsS111.drew|apply IsS111.set_1)|exact HI0.out))):gb542≠g));clear HI0;clear HK;clear HB;have HI0:=n0_;have HK:=n1_;have HB:=n2_;have BK542:=n3_;have GW542:=n4_;have GE542:=n5_;have NB0_542:=n6_;have NB542_0:=n7_;clear n0_ n1_ n2_ n3_ n4_ n5_ n6_ n7_;clear hb hbox hg)|((with_reducible refine qav (N:=6) rfl ?_);refine Kd.N_lit k45 _ 45 ?hg (N':=6) ?hd (xs:=([]:List (S45))) (inner:=[]) (ok:=(fun k_=>(w.heap.size≤k_)∧k_≠gb542∧k_≠g)) (okp:=(fun k_=>(w.heap.size≤k_)∧k_≠gb542∧k_≠g)) ?hr ?hp (fun _ hk=>hk) ((show ∀k_,w3.heap.size≤k_→(fun k_=>(w.heap.size≤k_)∧k_≠gb542∧k_≠g) k_ from fun k_ hk=>⟨(Nat.le_trans (keep_size (w:=w) (g:=g) (row:=none) (by repeat(first|(with_reducible first|exact HK.out|apply KeepBut.set_|apply qar|apply qau|apply qas|refine qaw ?_ GW542.out _)|exact HK.out))) hk),Kd.freshB (g:=gb542) (o:=.cells #[.slice none 0 0,.int .i64 0] 68 (0,0)) (by(with_reducible repeat(first|refine qae ?_ _|refine qaf ?_|refine qad ?_ _));exact BK542.out) k_ hk,IsS111.fresh (by repeat(first|(with_reducible first|exact HI0.out|apply IsS111.alloc|apply IsS111.drewN|apply IsS111.drew|apply IsS111.set_1|refine IsS111.far ?_ NB0_542.out _)|exact HI0.out)) k_ hk⟩) _ (Nat.le_refl _)) (Below.refl _ _) (Nat.le_refl _) (by simp) ?_;(case hd=>rfl);(case hg=>rfl);(case hr=>first|(go_simp;done)|(go_simp;rfl));(case hp=>exact(Reps.none _ _));intro v544 w4 ho5 hb hg_ hnew_;clear hg_ hnew_;(first|rw[←Ny543.out] at ho5|(simp only[Int.reduceToNat] at ho5;rw[←Ny543.out] at ho5));have n0_:=qbb.mk (Kd.N_lower ho5 (keep_size (w:=w) (g:=g) (row:=none) (by repeat(first|(with_reducible first|exact HK.out|apply KeepBut.set_|apply qar|apply qau|apply qas|refine qaw ?_ GW542.out _)|exact HK.out))));have n1_:=qbb.mk (IsS111.below (by repeat(first|(with_reducible first|exact HI0.out|apply IsS111.alloc|apply IsS111.drewN|apply IsS111.drew|apply IsS111.set_1|refine IsS111.far ?_ NB0_542.out _)|exact HI0.out)) hb);have n2_:=qbb.mk (qal (g:=gb542) (o:=.cells #[.slice none 0 0,.int .i64 0] 68 (0,0)) (by(with_reducible repeat(first|refine qae ?_ _|refine qaf ?_|refine qad ?_ _));exact BK542.out) hb);have n3_:=qbb.mk (KeepBut.trans (by repeat(first|(with_reducible first|exact HK.out|apply KeepBut.set_|apply qar|apply qau|apply qas|refine qaw ?_ GW542.out _)|exact HK.out)) (KeepBut.of_below hb g none) (.inl rfl));have n4_:=qbb.mk (qak (by repeat(first|(with_reducible first|exact HB.out|apply qac|apply qaa|apply qab|refine qag ?_ (IsS111.ge HI0.out)|refine qag ?_ GE542.out)|exact HB.out)) hb);clear HI0;clear BK542;clear HK;clear HB;have HO545:=n0_;have HI0:=n1_;have BK542:=n2_;have HK:=n3_;have HB:=n4_;clear n0_ n1_ n2_ n3_ n4_;clear hb ho5;obtain⟨Ao6,co6,eo6⟩:=Kd.N_slice HO545.out;subst eo6)|((with_reducible refine qav (N:=3) rfl ?_);refine qat ?hg (N:=3) ?hd (cs:=#[.slice none 0 0,.int .i64 0]) (t:=68) ?hr ?_;(case hd=>rfl);(case hg=>rfl);(case hr=>first|(go_simp;done)|(go_simp;rfl));intro gb546 hg w7 hbox hb;have n0_:=qbb.mk (Kd.N_below (Kd.N_elderB (by(with_reducible repeat(first|apply Kd.N_alloc|apply Kd.N_drewN|apply Kd.N_drew));exact HO545.out) gb546 (Nat.le_of_eq hg.symm)) hb);have n1_:=qbb.mk (IsS111.below (by repeat(first|(with_reducible first|exact HI0.out|apply IsS111.alloc|apply IsS111.drewN|apply IsS111.drew|apply IsS111.set_1|refine IsS111.far ?_ NB0_542.out _)|exact HI0.out)) hb);have n2_:=qbb.mk (qal (g:=gb542) (o:=.cells #[.slice none 0 0,.int .i64 0] 68 (0,0)) (by(with_reducible repeat(first|refine qae ?_ _|refine qaf ?_|refine qad ?_ _));exact BK542.out) hb);have n3_:=qbb.mk (KeepBut.trans (by repeat(first|(with_reducible first|exact HK.out|apply KeepBut.set_|apply qar|apply qau|apply qas|refine qaw ?_ GW542.out _)|exact HK.out)) (KeepBut.of_below hb g none) (.inl rfl));have n4_:=qbb.mk (qak (by repeat(first|(with_reducible first|exact HB.out|apply qac|apply qaa|apply qab|refine qag ?_ (IsS111.ge HI0.out)|refine qag ?_ GE542.out)|exact HB.out)) hb);have n5_:=qbb.mk (hbox);have n6_:=qbb.mk ((by rw[hg];exact(keep_size (w:=w) (g:=g) (row:=none) (by repeat(first|(with_reducible first|exact HK.out|apply KeepBut.set_|apply qar|apply qau|apply qas|refine qaw ?_ GW542.out _)|exact HK.out))):w.heap.size≤gb546));have n7_:=qbb.mk ((Nat.le_trans HW0.out (by rw[hg];exact(keep_size (w:=w) (g:=g) (row:=none) (by repeat(first|(with_reducible first|exact HK.out|apply KeepBut.set_|apply qar|apply qau|apply qas|refine qaw ?_ GW542.out _)|exact HK.out))):w.heap.size≤gb546):w0.heap.size≤gb546));have n8_:=qbb.mk ((by rw[hg];exact Nat.ne_of_lt (qbc (g:=gb542) (o:=.cells #[.slice none 0 0,.int .i64 0] 68 (0,0)) (by(with_reducible repeat(first|refine qae ?_ _|refine qaf ?_|refine qad ?_ _));exact BK542.out)):gb542≠gb546));have n9_:=qbb.mk ((by rw[hg];exact Nat.ne_of_gt (qbc (g:=gb542) (o:=.cells #[.slice none 0 0,.int .i64 0] 68 (0,0)) (by(with_reducible repeat(first|refine qae ?_ _|refine qaf ?_|refine qad ?_ _));exact BK542.out)):gb546≠gb542));have n10_:=qbb.mk ((by rw[hg];exact Nat.ne_of_lt (IsS111.lt (show IsS111 w0 _ g s0_0 s0_1 from by repeat(first|(with_reducible first|exact HI0.out|apply IsS111.alloc|apply IsS111.drewN|apply IsS111.drew|apply IsS111.set_1|refine IsS111.far ?_ NB0_542.out _)|exact HI0.out))):g≠gb546));have n11_:=qbb.mk ((by rw[hg];exact Nat.ne_of_gt (IsS111.lt (show IsS111 w0 _ g s0_0 s0_1 from by repeat(first|(with_reducible first|exact HI0.out|apply IsS111.alloc|apply IsS111.drewN|apply IsS111.drew|apply IsS111.set_1|refine IsS111.far ?_ NB0_542.out _)|exact HI0.out))):gb546≠g));clear HO545;clear HI0;clear BK542;clear HK;clear HB;have HO545:=n0_;have HI0:=n1_;have BK542:=n2_;have HK:=n3_;have HB:=n4_;have BK546:=n5_;have GW546:=n6_;have GE546:=n7_;have NB542_546:=n8_;have NB546_542:=n9_;have NB0_546:=n10_;have NB546_0:=n11_;clear n0_ n1_ n2_ n3_ n4_ n5_ n6_ n7_ n8_ n9_ n10_ n11_;clear hb hbox hg;have hnb8:=NB546_542.out;have hnc8:=NB542_546.out;have hnb9:=NB546_0.out;have hnc9:=NB0_546.out;have hcz10_0:w7.cell? ⟨gb546,0,none⟩=some (.slice none 0 0):=(qai BK546.out 0).trans rfl;have hcz10_1:w7.cell? ⟨gb546,1,none⟩=some (.int .i64 0):=(qai BK546.out 1).trans rfl;have hfz10_0:=qah BK546.out 0;have hfz10_1:=qah BK546.out 1)|((with_reducible refine qao (f:=53) rfl ?_);refine qax (some 9) rfl rfl Try.func53 (by kernel_rfl) rfl #[.pointer (some ⟨g,0,none⟩),.int .i64 9] rfl (by(try simp only[List.map_toArray,List.map_cons,List.map_nil]);first|done|rfl|(simp only[List.length_drop,List.length_take];rfl)) ?_;(with_reducible refine(spec_l6Rd_pick.calls k g s0_0 s0_1 9 t547 t548 w0 _ ?side1 ?side2 A2.out).mono ?_);(case side1=>repeat(first|(with_reducible first|exact HI0.out|apply IsS111.alloc|apply IsS111.drewN|apply IsS111.drew|apply IsS111.set_1|refine IsS111.far ?_ NB0_542.out _|refine IsS111.far ?_ NB0_546.out _)|exact HI0.out));(case side2=>repeat(first|(with_reducible first|exact HB.out|apply qac|apply qaa|apply qab|refine qag ?_ (IsS111.ge HI0.out)|refine qag ?_ GE542.out|refine qag ?_ GE546.out)|exact HB.out));rintro e w11 ⟨rfl,hi,hb,hk⟩;refine⟨_,rfl,?_⟩;have n0_:=qbb.mk (KeepBut.blk hk (g':=gb542) (o:=.cells #[.slice none 0 0,.int .i64 0] 68 (0,0)) (by(with_reducible repeat(first|refine qae ?_ _|refine qaf ?_|refine qad ?_ _));refine qap ?_ NB542_546.out _;(with_reducible repeat(first|refine qae ?_ _|refine qaf ?_|refine qad ?_ _));refine qap ?_ NB542_546.out _;(with_reducible repeat(first|refine qae ?_ _|refine qaf ?_|refine qad ?_ _));exact BK542.out) NB542_0.out (by simp));have n1_:=qbb.mk (Kd.N_mono (Kd.N_keep (Kd.N_mono (ok:=fun k_=>((((w.heap.size≤k_))∧(k_≠gb542∧k_≠g))∧k_≠gb546)) (by(with_reducible repeat(first|apply Kd.N_alloc|apply Kd.N_drewN|apply Kd.N_drew));exact(Kd.N_mono (Kd.N_far (p:=⟨gb546,1,none⟩) (Kd.N_far (p:=⟨gb546,0,none⟩) (Kd.N_mono HO545.out (fun k_ hk=>(⟨hk,hk.2⟩:_∧k_≠gb546))) (fun _ hk=>hk.2) (.slice Ao6 y543.length co6)) (fun _ hk=>hk.2) (.int .i64 0)) (fun _ h_=>h_.1))) (fun k_ hk_=>(⟨hk_,hk_.1.2.2⟩:_∧k_≠g))) hk (fun _ h=>h.2)) (fun _ h=>h.1));have n2_:=qbb.mk (KeepBut.blk hk (g':=gb546) (o:=.cells #[.slice Ao6 y543.length co6,.int .i64 0] 68 (0,0)) (by(with_reducible repeat(first|refine qae ?_ _|refine qaf ?_|refine qad ?_ _));refine qaq (cs:=#[.slice Ao6 y543.length co6,.int .i64 0]) ?_ 1 _ rfl;(with_reducible repeat(first|refine qae ?_ _|refine qaf ?_|refine qad ?_ _));refine qaq (cs:=#[.slice none 0 0,.int .i64 0]) ?_ 0 _ rfl;(with_reducible repeat(first|refine qae ?_ _|refine qaf ?_|refine qad ?_ _));exact BK546.out) NB546_0.out (by simp));have n3_:=qbb.mk (KeepBut.trans (by repeat(first|(with_reducible first|exact HK.out|apply KeepBut.set_|apply qar|apply qau|apply qas|refine qaw ?_ GW542.out _|refine qaw ?_ GW546.out _)|exact HK.out)) hk (.inl rfl));have n4_:=qbb.mk (hb);have n5_:=qbb.mk (hi);clear BK542;clear HO545;clear BK546;clear HK;clear HB;clear HI0;have BK542:=n0_;have HO545:=n1_;have BK546:=n2_;have HK:=n3_;have HB:=n4_;have HI0:=n5_;clear n0_ n1_ n2_ n3_ n4_ n5_;(try clear hb);(try clear hb2);(try clear hk);(try clear hi)))
 go_loopg [4] k (fun kq v4 w'=>∃(x4_1:Int) (x1001_1:Int) (x547000_1:List (S45)) (u547000:Value),v4=.int .i64 x4_1∧qbb (spec_l71Log.l0 kq x4_1 s0_0 x1001_1 x547000_1 0=some (r1,r2,r3))∧qbb (kq≤k)∧qbb (Kd.N k45 45 w' w.heap.size (fun k_=>(w.heap.size≤k_)∧k_≠gb542∧k_≠gb546∧k_≠g) u547000 x547000_1)∧qbb (w'.heap[gb542]?=some (.cells #[(.slice none 0 0),.int .i64 0] 68 (0,0)))∧qbb (w'.heap[gb546]?=some (.cells #[u547000,.int .i64 0] 68 (0,0)))∧qbb (IsS111 w0 w' g s0_0 x1001_1)∧qbb (KeepBut w w' g none)∧qbb (Below w0.heap.size w0 w'))
 case atStart=>exact⟨(t547),(t548),(y543),(.slice Ao6 y543.length co6),(by first|rfl|(simp;done)|(simp[*];done)),H',⟨Nat.le_refl _⟩,⟨by(with_reducible repeat(first|apply Kd.N_alloc|apply Kd.N_drewN|apply Kd.N_drew));exact Kd.N_mono HO545.out (fun _ hk=>⟨hk.1.1,⟨hk.1.2.1,⟨hk.2,hk.1.2.2⟩⟩⟩)⟩,⟨by(with_reducible repeat(first|refine qae ?_ _|refine qaf ?_|refine qad ?_ _));exact BK542.out⟩,⟨by(with_reducible repeat(first|refine qae ?_ _|refine qaf ?_|refine qad ?_ _));exact BK546.out⟩,⟨by repeat(first|(with_reducible first|exact HI0.out|apply IsS111.alloc|apply IsS111.drewN|apply IsS111.drew|apply IsS111.set_1|refine IsS111.far ?_ NB0_542.out _|refine IsS111.far ?_ NB0_546.out _)|exact HI0.out)⟩,⟨by repeat(first|(with_reducible first|exact HK.out|apply KeepBut.set_|apply qar|apply qau|apply qas|refine qaw ?_ GW542.out _|refine qaw ?_ GW546.out _)|exact HK.out)⟩,⟨by repeat(first|(with_reducible first|exact HB.out|apply qac|apply qaa|apply qab|refine qag ?_ (IsS111.ge HI0.out)|refine qag ?_ GE542.out|refine qag ?_ GE546.out)|exact HB.out)⟩⟩
 case round=>
  clear H'
  try clear p2
  try clear c5
  try clear c7
  try clear c8
  try clear c9
  try clear hcz10_0
  try clear hcz10_1
  try clear hfz10_0
  try clear hfz10_1
  obtain⟨x4_1,x1001_1,x547000_1,u547000,rfl,HA,HK1,HO_547000,BK542,BK546,HI0,HK,HB⟩:=hrel
  cases gk with
  |zero=>exact absurd HA.out (by simp[spec_l71Log.l0])
  |succ k1=>
   have H:=HA.out
   clear HA
   simp only[spec_l71Log.l0] at H
   by_cases c12:x4_1>0
   ·rw[if_pos c12] at H
    have c12b0:decide (0<x4_1)=true:=decide_eq_true c12
    clear c12
    replace H:=Option.bind_eq_some_iff.mp H
    obtain⟨⟨t549,t550,t551,t554⟩,A130,H⟩:=H
    replace H:((spec_RecOk.f k1 t549 t550 t551).bind fun t556=>(if t556=true then(if x547000_1.length<3518437208883 then(spec_l71Log.l0 k1 (wrap64 (x4_1 - 1)) s0_0 t554 (x547000_1++[(⟨t549,t550,t551⟩:S45)]) 0) else(none)) else(spec_l71Log.l0 k1 (wrap64 (x4_1 - 1)) s0_0 t554 x547000_1 0)))=some (r1,r2,r3):=H
    have A13:=qbb.mk A130
    clear A130
    replace H:=Option.bind_eq_some_iff.mp H
    obtain⟨t556,A140,H⟩:=H
    replace H:(if t556=true then(if x547000_1.length<3518437208883 then(spec_l71Log.l0 k1 (wrap64 (x4_1 - 1)) s0_0 t554 (x547000_1++[(⟨t549,t550,t551⟩:S45)]) 0) else(none)) else(spec_l71Log.l0 k1 (wrap64 (x4_1 - 1)) s0_0 t554 x547000_1 0))=some (r1,r2,r3):=H
    have A14:=qbb.mk A140
    clear A140
    by_cases c15:t556=true
    ·subst c15
     have H1:(if x547000_1.length<3518437208883 then(spec_l71Log.l0 k1 (wrap64 (x4_1 - 1)) s0_0 t554 (x547000_1++[(⟨t549,t550,t551⟩:S45)]) 0) else(none))=some (r1,r2,r3):=by rw[if_pos rfl] at H;exact H
     clear H
     have H:=H1
     clear H1
     by_cases c16:x547000_1.length<3518437208883
     ·rw[if_pos c16] at H
      have LMc16:=qbb.mk c16
      clear c16
      obtain⟨y557,hy557⟩:∃y_:List (S45),y_=(x547000_1++[(⟨t549,t550,t551⟩:S45)]):=⟨_,rfl⟩
      replace H:(spec_l71Log.l0 k1 (wrap64 (x4_1 - 1)) s0_0 t554 y557 0)=some (r1,r2,r3):=by first|(rw[hy557];with_reducible exact H)|(have H2_:=(Option.bind_some _ _).symm.trans H;rw[hy557];with_reducible exact H2_)|(have H2_:=(Option.bind_some _ _).symm.trans H;with_reducible exact H2_)|with_reducible exact H|(rw[hy557];exact H)|exact H
      have Ny557:=qbb.mk hy557
      clear hy557
      have H':=qbb.mk H
      clear H
      go_wp2_with(first|((with_reducible refine qao (f:=62) rfl ?_);refine qax (some 15) rfl rfl Try.func62 (by kernel_rfl) rfl #[.pointer (some ⟨g,0,none⟩)] rfl (by(try simp only[List.map_toArray,List.map_cons,List.map_nil]);first|done|rfl|(simp only[List.length_drop,List.length_take];rfl)) ?_;(with_reducible refine(spec_l71RecV.calls k1 g s0_0 x1001_1 t549 t550 t551 t554 w0 _ ?side1 ?side2 A13.out).mono ?_);(case side1=>repeat(first|(with_reducible first|exact HI0.out|apply IsS111.alloc|apply IsS111.drewN|apply IsS111.drew|apply IsS111.set_1|refine IsS111.far ?_ NB0_542.out _|refine IsS111.far ?_ NB0_546.out _)|exact HI0.out));(case side2=>repeat(first|(with_reducible first|exact HB.out|apply qac|apply qaa|apply qab|refine qag ?_ (IsS111.ge HI0.out)|refine qag ?_ GE542.out|refine qag ?_ GE546.out)|exact HB.out));rintro e w17 ⟨v552,rfl,ho0,hi,hb,hk⟩;refine⟨_,rfl,?_⟩;have n0_:=qbb.mk (Kd.N_mono (Kd.N_keep (Kd.N_mono (ok:=fun k_=>(((w.heap.size≤k_))∧(k_≠gb542∧(k_≠gb546∧k_≠g)))) (by(with_reducible repeat(first|apply Kd.N_alloc|apply Kd.N_drewN|apply Kd.N_drew));exact HO_547000.out) (fun k_ hk_=>(⟨hk_,hk_.2.2.2⟩:_∧k_≠g))) hk (fun _ h=>h.2)) (fun _ h=>h.1));have n1_:=qbb.mk (KeepBut.blk hk (g':=gb542) (o:=.cells #[.slice none 0 0,.int .i64 0] 68 (0,0)) (by(with_reducible repeat(first|refine qae ?_ _|refine qaf ?_|refine qad ?_ _));exact BK542.out) NB542_0.out (by simp));have n2_:=qbb.mk (KeepBut.blk hk (g':=gb546) (o:=.cells #[u547000,.int .i64 0] 68 (0,0)) (by(with_reducible repeat(first|refine qae ?_ _|refine qaf ?_|refine qad ?_ _));exact BK546.out) NB546_0.out (by simp));have n3_:=qbb.mk (Kd.V_lower (Kd.V_mono (ok':=fun k_=>(w.heap.size≤k_)∧some k_≠(u547000:Value).ownBlock∧k_≠gb542∧k_≠gb546∧k_≠g) ho0 (fun k_ hk_=>⟨(Nat.le_trans (keep_size (w:=w) (g:=g) (row:=none) (by repeat(first|(with_reducible first|exact HK.out|apply KeepBut.set_|apply qar|apply qau|apply qas|refine qaw ?_ GW542.out _|refine qaw ?_ GW546.out _)|exact HK.out))) hk_),(Kd.fresh' (Kd.N_lt (by(with_reducible repeat(first|apply Kd.N_alloc|apply Kd.N_drewN|apply Kd.N_drew));exact HO_547000.out)) k_ hk_),(Kd.freshB (g:=gb542) (o:=.cells #[.slice none 0 0,.int .i64 0] 68 (0,0)) (by(with_reducible repeat(first|refine qae ?_ _|refine qaf ?_|refine qad ?_ _));exact BK542.out) k_ hk_),(Kd.freshB (g:=gb546) (o:=.cells #[u547000,.int .i64 0] 68 (0,0)) (by(with_reducible repeat(first|refine qae ?_ _|refine qaf ?_|refine qad ?_ _));exact BK546.out) k_ hk_),(IsS111.fresh (by repeat(first|(with_reducible first|exact HI0.out|apply IsS111.alloc|apply IsS111.drewN|apply IsS111.drew|apply IsS111.set_1|refine IsS111.far ?_ NB0_542.out _|refine IsS111.far ?_ NB0_546.out _)|exact HI0.out)) k_ hk_)⟩)) (keep_size (w:=w) (g:=g) (row:=none) (by repeat(first|(with_reducible first|exact HK.out|apply KeepBut.set_|apply qar|apply qau|apply qas|refine qaw ?_ GW542.out _|refine qaw ?_ GW546.out _)|exact HK.out))));have n4_:=qbb.mk (KeepBut.trans (by repeat(first|(with_reducible first|exact HK.out|apply KeepBut.set_|apply qar|apply qau|apply qas|refine qaw ?_ GW542.out _|refine qaw ?_ GW546.out _)|exact HK.out)) hk (.inl rfl));have n5_:=qbb.mk (hb);have n6_:=qbb.mk (hi);clear HO_547000;clear BK542;clear BK546;clear HK;clear HB;clear HI0;have HO_547000:=n0_;have BK542:=n1_;have BK546:=n2_;have HO553:=n3_;have HK:=n4_;have HB:=n5_;have HI0:=n6_;clear n0_ n1_ n2_ n3_ n4_ n5_ n6_;(try clear hb);(try clear hb2);(try clear hk);(try clear hi);(try clear ho0))|((with_reducible refine qav (N:=5) rfl ?_);refine qat ?hg (N:=5) ?hd (cs:=#[.int .i64 0,.int .i64 0,.slice none 0 0]) (t:=45) ?hr ?_;(case hd=>rfl);(case hg=>rfl);(case hr=>first|(go_simp;done)|(go_simp;rfl));intro gb555 hg w18 hbox hb;have n0_:=qbb.mk (Kd.N_below (Kd.N_elderB (by(with_reducible repeat(first|apply Kd.N_alloc|apply Kd.N_drewN|apply Kd.N_drew));exact HO_547000.out) gb555 (Nat.le_of_eq hg.symm)) hb);have n1_:=qbb.mk (Kd.V_below (Kd.V_elderB (by(with_reducible repeat(first|apply Kd.V_alloc|apply Kd.V_drewN|apply Kd.V_drew));exact HO553.out) gb555 (Nat.le_of_eq hg.symm)) hb);have n2_:=qbb.mk (qal (g:=gb542) (o:=.cells #[.slice none 0 0,.int .i64 0] 68 (0,0)) (by(with_reducible repeat(first|refine qae ?_ _|refine qaf ?_|refine qad ?_ _));exact BK542.out) hb);have n3_:=qbb.mk (qal (g:=gb546) (o:=.cells #[u547000,.int .i64 0] 68 (0,0)) (by(with_reducible repeat(first|refine qae ?_ _|refine qaf ?_|refine qad ?_ _));exact BK546.out) hb);have n4_:=qbb.mk (IsS111.below (by repeat(first|(with_reducible first|exact HI0.out|apply IsS111.alloc|apply IsS111.drewN|apply IsS111.drew|apply IsS111.set_1|refine IsS111.far ?_ NB0_542.out _|refine IsS111.far ?_ NB0_546.out _)|exact HI0.out)) hb);have n5_:=qbb.mk (KeepBut.trans (by repeat(first|(with_reducible first|exact HK.out|apply KeepBut.set_|apply qar|apply qau|apply qas|refine qaw ?_ GW542.out _|refine qaw ?_ GW546.out _)|exact HK.out)) (KeepBut.of_below hb g none) (.inl rfl));have n6_:=qbb.mk (qak (by repeat(first|(with_reducible first|exact HB.out|apply qac|apply qaa|apply qab|refine qag ?_ (IsS111.ge HI0.out)|refine qag ?_ GE542.out|refine qag ?_ GE546.out)|exact HB.out)) hb);have n7_:=qbb.mk (hbox);have n8_:=qbb.mk ((by rw[hg];exact(keep_size (w:=w) (g:=g) (row:=none) (by repeat(first|(with_reducible first|exact HK.out|apply KeepBut.set_|apply qar|apply qau|apply qas|refine qaw ?_ GW542.out _|refine qaw ?_ GW546.out _)|exact HK.out))):w.heap.size≤gb555));have n9_:=qbb.mk ((Nat.le_trans HW0.out (by rw[hg];exact(keep_size (w:=w) (g:=g) (row:=none) (by repeat(first|(with_reducible first|exact HK.out|apply KeepBut.set_|apply qar|apply qau|apply qas|refine qaw ?_ GW542.out _|refine qaw ?_ GW546.out _)|exact HK.out))):w.heap.size≤gb555):w0.heap.size≤gb555));have n10_:=qbb.mk ((by rw[hg];exact Nat.ne_of_lt (qbc (g:=gb542) (o:=.cells #[.slice none 0 0,.int .i64 0] 68 (0,0)) (by(with_reducible repeat(first|refine qae ?_ _|refine qaf ?_|refine qad ?_ _));exact BK542.out)):gb542≠gb555));have n11_:=qbb.mk ((by rw[hg];exact Nat.ne_of_gt (qbc (g:=gb542) (o:=.cells #[.slice none 0 0,.int .i64 0] 68 (0,0)) (by(with_reducible repeat(first|refine qae ?_ _|refine qaf ?_|refine qad ?_ _));exact BK542.out)):gb555≠gb542));have n12_:=qbb.mk ((by rw[hg];exact Nat.ne_of_lt (qbc (g:=gb546) (o:=.cells #[u547000,.int .i64 0] 68 (0,0)) (by(with_reducible repeat(first|refine qae ?_ _|refine qaf ?_|refine qad ?_ _));exact BK546.out)):gb546≠gb555));have n13_:=qbb.mk ((by rw[hg];exact Nat.ne_of_gt (qbc (g:=gb546) (o:=.cells #[u547000,.int .i64 0] 68 (0,0)) (by(with_reducible repeat(first|refine qae ?_ _|refine qaf ?_|refine qad ?_ _));exact BK546.out)):gb555≠gb546));have n14_:=qbb.mk ((by rw[hg];exact Nat.ne_of_lt (IsS111.lt (show IsS111 w0 _ g s0_0 t554 from by repeat(first|(with_reducible first|exact HI0.out|apply IsS111.alloc|apply IsS111.drewN|apply IsS111.drew|apply IsS111.set_1|refine IsS111.far ?_ NB0_542.out _|refine IsS111.far ?_ NB0_546.out _)|exact HI0.out))):g≠gb555));have n15_:=qbb.mk ((by rw[hg];exact Nat.ne_of_gt (IsS111.lt (show IsS111 w0 _ g s0_0 t554 from by repeat(first|(with_reducible first|exact HI0.out|apply IsS111.alloc|apply IsS111.drewN|apply IsS111.drew|apply IsS111.set_1|refine IsS111.far ?_ NB0_542.out _|refine IsS111.far ?_ NB0_546.out _)|exact HI0.out))):gb555≠g));clear HO_547000;clear HO553;clear BK542;clear BK546;clear HI0;clear HK;clear HB;have HO_547000:=n0_;have HO553:=n1_;have BK542:=n2_;have BK546:=n3_;have HI0:=n4_;have HK:=n5_;have HB:=n6_;have BK555:=n7_;have GW555:=n8_;have GE555:=n9_;have NB542_555:=n10_;have NB555_542:=n11_;have NB546_555:=n12_;have NB555_546:=n13_;have NB0_555:=n14_;have NB555_0:=n15_;clear n0_ n1_ n2_ n3_ n4_ n5_ n6_ n7_ n8_ n9_ n10_ n11_ n12_ n13_ n14_ n15_;clear hb hbox hg;have hnb19:=NB555_542.out;have hnc19:=NB542_555.out;have hnb20:=NB555_546.out;have hnc20:=NB546_555.out;have hnb21:=NB555_0.out;have hnc21:=NB0_555.out;have hcz22_0:w18.cell? ⟨gb555,0,none⟩=some (.int .i64 0):=(qai BK555.out 0).trans rfl;have hcz22_1:w18.cell? ⟨gb555,1,none⟩=some (.int .i64 0):=(qai BK555.out 1).trans rfl;have hcz22_2:w18.cell? ⟨gb555,2,none⟩=some (.slice none 0 0):=(qai BK555.out 2).trans rfl;have hfz22_0:=qah BK555.out 0;have hfz22_1:=qah BK555.out 1;have hfz22_2:=qah BK555.out 2;obtain⟨Ao23,co23,eo23⟩:=Kd.V_slice HO553.out;subst eo23)|((with_reducible refine qao (f:=25) rfl ?_);refine qax (some 17) rfl rfl Try.func25 (by kernel_rfl) rfl #[.agg #[.int .i64 t549,.int .i64 t550,.slice Ao23 t551.length co23]] rfl (by(try simp only[List.map_toArray,List.map_cons,List.map_nil]);first|done|rfl|(simp only[List.length_drop,List.length_take];rfl)) ?_;(with_reducible refine(spec_RecOk.calls k1 t549 t550 _ _ t551 true _ ?side1 ?side2 A14.out).mono ?_);(case side1=>refine(Kd.V_reads' (e:=3) (base:=w.heap.size) (ok:=fun k_=>(((w.heap.size≤k_)∧(some k_≠(u547000:Value).ownBlock∧(k_≠gb542∧(k_≠gb546∧k_≠g))))∧k_≠gb555)) (n:=t551.length) (c:=co23) ?_).2.2;exact(by(with_reducible repeat(first|apply Kd.V_alloc|apply Kd.V_drewN|apply Kd.V_drew));exact(Kd.V_mono (Kd.V_far (p:=⟨gb555,2,none⟩) (Kd.V_far (p:=⟨gb555,1,none⟩) (Kd.V_far (p:=⟨gb555,0,none⟩) (Kd.V_mono HO553.out (fun k_ hk=>(⟨hk,hk.2⟩:_∧k_≠gb555))) (fun _ hk=>hk.2) (.int .i64 t549)) (fun _ hk=>hk.2) (.int .i64 t550)) (fun _ hk=>hk.2) (.slice Ao23 t551.length co23)) (fun _ h_=>h_.1))));(case side2=>exact(Kd.V_reads' HO553.out).2.1);rintro e w24 ⟨rfl,hb⟩;refine⟨_,rfl,?_⟩;have n0_:=qbb.mk (Kd.N_below (by(with_reducible repeat(first|apply Kd.N_alloc|apply Kd.N_drewN|apply Kd.N_drew));exact(Kd.N_mono (Kd.N_far (p:=⟨gb555,2,none⟩) (Kd.N_far (p:=⟨gb555,1,none⟩) (Kd.N_far (p:=⟨gb555,0,none⟩) (Kd.N_mono HO_547000.out (fun k_ hk=>(⟨hk,hk.2⟩:_∧k_≠gb555))) (fun _ hk=>hk.2) (.int .i64 t549)) (fun _ hk=>hk.2) (.int .i64 t550)) (fun _ hk=>hk.2) (.slice Ao23 t551.length co23)) (fun _ h_=>h_.1))) hb);have n1_:=qbb.mk (Kd.V_below (by(with_reducible repeat(first|apply Kd.V_alloc|apply Kd.V_drewN|apply Kd.V_drew));exact(Kd.V_mono (Kd.V_far (p:=⟨gb555,2,none⟩) (Kd.V_far (p:=⟨gb555,1,none⟩) (Kd.V_far (p:=⟨gb555,0,none⟩) (Kd.V_mono HO553.out (fun k_ hk=>(⟨hk,hk.2⟩:_∧k_≠gb555))) (fun _ hk=>hk.2) (.int .i64 t549)) (fun _ hk=>hk.2) (.int .i64 t550)) (fun _ hk=>hk.2) (.slice Ao23 t551.length co23)) (fun _ h_=>h_.1))) hb);have n2_:=qbb.mk (qal (g:=gb542) (o:=.cells #[.slice none 0 0,.int .i64 0] 68 (0,0)) (by(with_reducible repeat(first|refine qae ?_ _|refine qaf ?_|refine qad ?_ _));refine qap ?_ NB542_555.out _;(with_reducible repeat(first|refine qae ?_ _|refine qaf ?_|refine qad ?_ _));refine qap ?_ NB542_555.out _;(with_reducible repeat(first|refine qae ?_ _|refine qaf ?_|refine qad ?_ _));refine qap ?_ NB542_555.out _;(with_reducible repeat(first|refine qae ?_ _|refine qaf ?_|refine qad ?_ _));exact BK542.out) hb);have n3_:=qbb.mk (qal (g:=gb546) (o:=.cells #[u547000,.int .i64 0] 68 (0,0)) (by(with_reducible repeat(first|refine qae ?_ _|refine qaf ?_|refine qad ?_ _));refine qap ?_ NB546_555.out _;(with_reducible repeat(first|refine qae ?_ _|refine qaf ?_|refine qad ?_ _));refine qap ?_ NB546_555.out _;(with_reducible repeat(first|refine qae ?_ _|refine qaf ?_|refine qad ?_ _));refine qap ?_ NB546_555.out _;(with_reducible repeat(first|refine qae ?_ _|refine qaf ?_|refine qad ?_ _));exact BK546.out) hb);have n4_:=qbb.mk (IsS111.below (show IsS111 w0 (((w18.setCell ⟨gb555,0,none⟩ (.int .i64 t549)).setCell ⟨gb555,1,none⟩ (.int .i64 t550)).setCell ⟨gb555,2,none⟩ (.slice Ao23 t551.length co23)) g s0_0 t554 from by repeat(first|(with_reducible first|exact HI0.out|apply IsS111.alloc|apply IsS111.drewN|apply IsS111.drew|apply IsS111.set_1|refine IsS111.far ?_ NB0_542.out _|refine IsS111.far ?_ NB0_546.out _|refine IsS111.far ?_ NB0_555.out _)|exact HI0.out)) hb);have n5_:=qbb.mk (qal (g:=gb555) (o:=.cells #[.int .i64 t549,.int .i64 t550,.slice Ao23 t551.length co23] 45 (0,0)) (by(with_reducible repeat(first|refine qae ?_ _|refine qaf ?_|refine qad ?_ _));refine qaq (cs:=#[.int .i64 t549,.int .i64 t550,.slice none 0 0]) ?_ 2 _ rfl;(with_reducible repeat(first|refine qae ?_ _|refine qaf ?_|refine qad ?_ _));refine qaq (cs:=#[.int .i64 t549,.int .i64 0,.slice none 0 0]) ?_ 1 _ rfl;(with_reducible repeat(first|refine qae ?_ _|refine qaf ?_|refine qad ?_ _));refine qaq (cs:=#[.int .i64 0,.int .i64 0,.slice none 0 0]) ?_ 0 _ rfl;(with_reducible repeat(first|refine qae ?_ _|refine qaf ?_|refine qad ?_ _));exact BK555.out) hb);have n6_:=qbb.mk (KeepBut.trans (by repeat(first|(with_reducible first|exact HK.out|apply KeepBut.set_|apply qar|apply qau|apply qas|refine qaw ?_ GW542.out _|refine qaw ?_ GW546.out _|refine qaw ?_ GW555.out _)|exact HK.out)) (KeepBut.of_below hb g none) (.inl rfl));have n7_:=qbb.mk (qak (by repeat(first|(with_reducible first|exact HB.out|apply qac|apply qaa|apply qab|refine qag ?_ (IsS111.ge HI0.out)|refine qag ?_ GE542.out|refine qag ?_ GE546.out|refine qag ?_ GE555.out)|exact HB.out)) hb);clear HO_547000;clear HO553;clear BK542;clear BK546;clear HI0;clear BK555;clear HK;clear HB;have HO_547000:=n0_;have HO553:=n1_;have BK542:=n2_;have BK546:=n3_;have HI0:=n4_;have BK555:=n5_;have HK:=n6_;have HB:=n7_;clear n0_ n1_ n2_ n3_ n4_ n5_ n6_ n7_;(try clear hb);(try clear hb2);(try clear hk);(try clear hi);have hnb25:=NB546_542.out;have hnc25:=NB542_546.out;have hnb26:=NB546_0.out;have hnc26:=NB0_546.out;have hcz27_0:w24.cell? ⟨gb546,0,none⟩=some (u547000):=(qai BK546.out 0).trans rfl;have hcz27_1:w24.cell? ⟨gb546,1,none⟩=some (.int .i64 0):=(qai BK546.out 1).trans rfl;have hfz27_0:=qah BK546.out 0;have hfz27_1:=qah BK546.out 1;have hcz28_0:w24.cell? ⟨gb555,0,none⟩=some (.int .i64 t549):=(qai BK555.out 0).trans rfl;have hcz28_1:w24.cell? ⟨gb555,1,none⟩=some (.int .i64 t550):=(qai BK555.out 1).trans rfl;have hcz28_2:w24.cell? ⟨gb555,2,none⟩=some (.slice Ao23 t551.length co23):=(qai BK555.out 2).trans rfl;have hfz28_0:=qah BK555.out 0;have hfz28_1:=qah BK555.out 1;have hfz28_2:=qah BK555.out 2)|((with_reducible refine gate_builtin (b:=.append) (xs:=#[.tmp 19,.tmp 21]) rfl ?_);at_builtin;refine Kd.N_append k45 w.heap.size rfl (.tmp 19) (.tmp 21) 66 45 (.agg #[(.int .i64 0),(.int .i64 0),(.slice none 0 0)]) 40 rfl Try.underlying66 info45 rfl (by decide) (by omega) u547000 x547000_1 (⟨t549,t550,t551⟩:S45) [.int .i64 t549,.int .i64 t550,.slice Ao23 t551.length co23] (fun k_=>(w.heap.size≤k_)∧k_≠gb542∧k_≠gb546∧k_≠gb555∧k_≠g) (fun k_=>((fun k_=>(w.heap.size≤k_)∧k_≠gb542∧k_≠gb546∧k_≠gb555∧k_≠g)) k_∧some k_≠(u547000:Value).ownBlock) rfl rfl ?aP (fun _ hk=>hk) ?aF ?aO (Below.refl _ _) ?aS ?aL ?_;(case aP=>exact(k45_mkF _ _ (⟨t549,t550,t551⟩:S45) (Kd.V_reads' (Kd.V_mono (ok':=(fun k_=>((fun k_=>(w.heap.size≤k_)∧k_≠gb542∧k_≠gb546∧k_≠gb555∧k_≠g)) k_∧some k_≠(u547000:Value).ownBlock)) (HO553.out) (fun k_ hk=>⟨⟨hk.1.1,⟨hk.1.2.2.1,⟨hk.1.2.2.2.1,⟨hk.2,hk.1.2.2.2.2⟩⟩⟩⟩,hk.1.2.1⟩))).2.1 (Kd.V_F (Kd.V_mono (ok':=(fun k_=>((fun k_=>(w.heap.size≤k_)∧k_≠gb542∧k_≠gb546∧k_≠gb555∧k_≠g)) k_∧some k_≠(u547000:Value).ownBlock)) (HO553.out) (fun k_ hk=>⟨⟨hk.1.1,⟨hk.1.2.2.1,⟨hk.1.2.2.2.1,⟨hk.2,hk.1.2.2.2.2⟩⟩⟩⟩,hk.1.2.1⟩)))));(case aF=>exact(fun k_ hk=>⟨(Nat.le_trans (keep_size (w:=w) (g:=g) (row:=none) (by repeat(first|(with_reducible first|exact HK.out|apply KeepBut.set_|apply qar|apply qau|apply qas|refine qaw ?_ GW542.out _|refine qaw ?_ GW546.out _|refine qaw ?_ GW555.out _)|exact HK.out))) hk),Kd.freshB (g:=gb542) (o:=.cells #[.slice none 0 0,.int .i64 0] 68 (0,0)) (by(with_reducible repeat(first|refine qae ?_ _|refine qaf ?_|refine qad ?_ _));exact BK542.out) k_ hk,Kd.freshB (g:=gb546) (o:=.cells #[u547000,.int .i64 0] 68 (0,0)) (by(with_reducible repeat(first|refine qae ?_ _|refine qaf ?_|refine qad ?_ _));exact BK546.out) k_ hk,Kd.freshB (g:=gb555) (o:=.cells #[.int .i64 t549,.int .i64 t550,.slice Ao23 t551.length co23] 45 (0,0)) (by(with_reducible repeat(first|refine qae ?_ _|refine qaf ?_|refine qad ?_ _));exact BK555.out) k_ hk,IsS111.fresh (by repeat(first|(with_reducible first|exact HI0.out|apply IsS111.alloc|apply IsS111.drewN|apply IsS111.drew|apply IsS111.set_1|refine IsS111.far ?_ NB0_542.out _|refine IsS111.far ?_ NB0_546.out _|refine IsS111.far ?_ NB0_555.out _)|exact HI0.out)) k_ hk⟩));(case aO=>exact(by(with_reducible repeat(first|apply Kd.N_alloc|apply Kd.N_drewN|apply Kd.N_drew));exact Kd.N_mono HO_547000.out (fun _ hk=>⟨hk.1.1,⟨hk.1.2.1,⟨hk.1.2.2.1,⟨hk.2,hk.1.2.2.2⟩⟩⟩⟩)));(case aS=>exact(keep_size (w:=w) (g:=g) (row:=none) (by repeat(first|(with_reducible first|exact HK.out|apply KeepBut.set_|apply qar|apply qau|apply qas|refine qaw ?_ GW542.out _|refine qaw ?_ GW546.out _|refine qaw ?_ GW555.out _)|exact HK.out))));(case aL=>have:=LMc16.out;omega);intro v558 w29 ho hb hg hat;rw[←Ny557.out] at ho;have n0_:=qbb.mk (blk_grown (g:=gb542) (o:=.cells #[.slice none 0 0,.int .i64 0] 68 (0,0)) (by(with_reducible repeat(first|refine qae ?_ _|refine qaf ?_|refine qad ?_ _));exact BK542.out) hg (Kd.N_ne HO_547000.out BK542.out (by decide)));have n1_:=qbb.mk (blk_grown (g:=gb546) (o:=.cells #[u547000,.int .i64 0] 68 (0,0)) (by(with_reducible repeat(first|refine qae ?_ _|refine qaf ?_|refine qad ?_ _));exact BK546.out) hg (Kd.N_ne HO_547000.out BK546.out (by decide)));have n2_:=qbb.mk (IsS111.grown (by repeat(first|(with_reducible first|exact HI0.out|apply IsS111.alloc|apply IsS111.drewN|apply IsS111.drew|apply IsS111.set_1|refine IsS111.far ?_ NB0_542.out _|refine IsS111.far ?_ NB0_546.out _|refine IsS111.far ?_ NB0_555.out _)|exact HI0.out)) hg (IsS111.own_neN HI0.out HO_547000.out (by decide)));have n3_:=qbb.mk (Kd.V_afterv (ok:=(fun k_=>(w.heap.size≤k_)∧k_≠gb542∧k_≠gb546∧k_≠g∧k_≠gb555)) (by(with_reducible repeat(first|apply Kd.V_alloc|apply Kd.V_drewN|apply Kd.V_drew));exact Kd.V_mono HO553.out (fun _ hk=>⟨⟨hk.1.1,⟨hk.1.2.2.1,⟨hk.1.2.2.2.1,⟨hk.1.2.2.2.2,hk.2⟩⟩⟩⟩,hk.1.2.1⟩)) hg hat);have n4_:=qbb.mk (blk_grown (g:=gb555) (o:=.cells #[.int .i64 t549,.int .i64 t550,.slice Ao23 t551.length co23] 45 (0,0)) (by(with_reducible repeat(first|refine qae ?_ _|refine qaf ?_|refine qad ?_ _));exact BK555.out) hg (Kd.N_away HO_547000.out (fun _ hk=>hk.2)));have n5_:=qbb.mk (below_weaken (by repeat(first|(with_reducible first|exact HB.out|apply qac|apply qaa|apply qab|refine qag ?_ (IsS111.ge HI0.out)|refine qag ?_ GE542.out|refine qag ?_ GE546.out|refine qag ?_ GE555.out)|exact HB.out)) HL.out hb);have n6_:=qbb.mk (KeepBut.trans (by repeat(first|(with_reducible first|exact HK.out|apply KeepBut.set_|apply qar|apply qau|apply qas|refine qaw ?_ GW542.out _|refine qaw ?_ GW546.out _|refine qaw ?_ GW555.out _)|exact HK.out)) (KeepBut.of_grown hg g) (Kd.N_base2 HO_547000.out));have n7_:=qbb.mk (ho);clear BK542;clear BK546;clear HI0;clear HO553;clear BK555;clear HB;clear HK;clear HO_547000;have BK542:=n0_;have BK546:=n1_;have HI0:=n2_;have HO553:=n3_;have BK555:=n4_;have HB:=n5_;have HK:=n6_;have HO559:=n7_;clear n0_ n1_ n2_ n3_ n4_ n5_ n6_ n7_;clear ho hb hg hat;obtain⟨Ao30,co30,eo30⟩:=Kd.N_slice HO559.out;subst eo30;have hcz31_0:w29.cell? ⟨gb546,0,none⟩=some (u547000):=(qai BK546.out 0).trans rfl;have hcz31_1:w29.cell? ⟨gb546,1,none⟩=some (.int .i64 0):=(qai BK546.out 1).trans rfl;have hfz31_0:=qah BK546.out 0;have hfz31_1:=qah BK546.out 1))
      go_roundg k1
      case measure=>have:=HK1.out;omega
      case rel=>exact⟨(wrap64 (x4_1 - 1)),(t554),(y557),(.slice Ao30 y557.length co30),(by first|rfl|(simp;done)|(simp[*];done)),H',⟨by have:=HK1.out;omega⟩,⟨by(with_reducible repeat(first|apply Kd.N_alloc|apply Kd.N_drewN|apply Kd.N_drew));exact Kd.N_mono (Kd.N_far (p:=⟨gb546,0,none⟩) (Kd.N_mono HO559.out (fun k_ hk=>(⟨hk,hk.2.2.1⟩:_∧k_≠gb546))) (fun _ hk=>hk.2) (.slice Ao30 y557.length co30)) (fun _ hk=>⟨hk.1.1,⟨hk.1.2.1,⟨hk.1.2.2.1,hk.1.2.2.2.2⟩⟩⟩)⟩,⟨by(with_reducible repeat(first|refine qae ?_ _|refine qaf ?_|refine qad ?_ _));refine qap ?_ NB542_546.out _;(with_reducible repeat(first|refine qae ?_ _|refine qaf ?_|refine qad ?_ _));exact BK542.out⟩,⟨by(with_reducible repeat(first|refine qae ?_ _|refine qaf ?_|refine qad ?_ _));refine qaq (cs:=#[u547000,.int .i64 0]) ?_ 0 _ rfl;(with_reducible repeat(first|refine qae ?_ _|refine qaf ?_|refine qad ?_ _));exact BK546.out⟩,⟨by repeat(first|(with_reducible first|exact HI0.out|apply IsS111.alloc|apply IsS111.drewN|apply IsS111.drew|apply IsS111.set_1|refine IsS111.far ?_ NB0_542.out _|refine IsS111.far ?_ NB0_546.out _|refine IsS111.far ?_ NB0_555.out _)|exact HI0.out)⟩,⟨by repeat(first|(with_reducible first|exact HK.out|apply KeepBut.set_|apply qar|apply qau|apply qas|refine qaw ?_ GW542.out _|refine qaw ?_ GW546.out _|refine qaw ?_ GW555.out _)|exact HK.out)⟩,⟨by repeat(first|(with_reducible first|exact HB.out|apply qac|apply qaa|apply qab|refine qag ?_ (IsS111.ge HI0.out)|refine qag ?_ GE542.out|refine qag ?_ GE546.out|refine qag ?_ GE555.out)|exact HB.out)⟩⟩
     ·rw[if_neg c16] at H
      exact absurd H (by simp)
    ·replace c15:=Bool.eq_false_iff.mpr c15
     subst c15
     have H1:(spec_l71Log.l0 k1 (wrap64 (x4_1 - 1)) s0_0 t554 x547000_1 0)=some (r1,r2,r3):=by rw[if_neg (show ¬(false=true) by decide)] at H;exact H
     clear H
     have H:=H1
     clear H1
     have H':=qbb.mk H
     clear H
     go_wp2_with(first|((with_reducible refine qao (f:=62) rfl ?_);refine qax (some 15) rfl rfl Try.func62 (by kernel_rfl) rfl #[.pointer (some ⟨g,0,none⟩)] rfl (by(try simp only[List.map_toArray,List.map_cons,List.map_nil]);first|done|rfl|(simp only[List.length_drop,List.length_take];rfl)) ?_;(with_reducible refine(spec_l71RecV.calls k1 g s0_0 x1001_1 t549 t550 t551 t554 w0 _ ?side1 ?side2 A13.out).mono ?_);(case side1=>repeat(first|(with_reducible first|exact HI0.out|apply IsS111.alloc|apply IsS111.drewN|apply IsS111.drew|apply IsS111.set_1|refine IsS111.far ?_ NB0_542.out _|refine IsS111.far ?_ NB0_546.out _)|exact HI0.out));(case side2=>repeat(first|(with_reducible first|exact HB.out|apply qac|apply qaa|apply qab|refine qag ?_ (IsS111.ge HI0.out)|refine qag ?_ GE542.out|refine qag ?_ GE546.out)|exact HB.out));rintro e w32 ⟨v552,rfl,ho0,hi,hb,hk⟩;refine⟨_,rfl,?_⟩;have n0_:=qbb.mk (Kd.N_mono (Kd.N_keep (Kd.N_mono (ok:=fun k_=>(((w.heap.size≤k_))∧(k_≠gb542∧(k_≠gb546∧k_≠g)))) (by(with_reducible repeat(first|apply Kd.N_alloc|apply Kd.N_drewN|apply Kd.N_drew));exact HO_547000.out) (fun k_ hk_=>(⟨hk_,hk_.2.2.2⟩:_∧k_≠g))) hk (fun _ h=>h.2)) (fun _ h=>h.1));have n1_:=qbb.mk (KeepBut.blk hk (g':=gb542) (o:=.cells #[.slice none 0 0,.int .i64 0] 68 (0,0)) (by(with_reducible repeat(first|refine qae ?_ _|refine qaf ?_|refine qad ?_ _));exact BK542.out) NB542_0.out (by simp));have n2_:=qbb.mk (KeepBut.blk hk (g':=gb546) (o:=.cells #[u547000,.int .i64 0] 68 (0,0)) (by(with_reducible repeat(first|refine qae ?_ _|refine qaf ?_|refine qad ?_ _));exact BK546.out) NB546_0.out (by simp));have n3_:=qbb.mk (Kd.V_lower (Kd.V_mono (ok':=fun k_=>(w.heap.size≤k_)∧some k_≠(u547000:Value).ownBlock∧k_≠gb542∧k_≠gb546∧k_≠g) ho0 (fun k_ hk_=>⟨(Nat.le_trans (keep_size (w:=w) (g:=g) (row:=none) (by repeat(first|(with_reducible first|exact HK.out|apply KeepBut.set_|apply qar|apply qau|apply qas|refine qaw ?_ GW542.out _|refine qaw ?_ GW546.out _)|exact HK.out))) hk_),(Kd.fresh' (Kd.N_lt (by(with_reducible repeat(first|apply Kd.N_alloc|apply Kd.N_drewN|apply Kd.N_drew));exact HO_547000.out)) k_ hk_),(Kd.freshB (g:=gb542) (o:=.cells #[.slice none 0 0,.int .i64 0] 68 (0,0)) (by(with_reducible repeat(first|refine qae ?_ _|refine qaf ?_|refine qad ?_ _));exact BK542.out) k_ hk_),(Kd.freshB (g:=gb546) (o:=.cells #[u547000,.int .i64 0] 68 (0,0)) (by(with_reducible repeat(first|refine qae ?_ _|refine qaf ?_|refine qad ?_ _));exact BK546.out) k_ hk_),(IsS111.fresh (by repeat(first|(with_reducible first|exact HI0.out|apply IsS111.alloc|apply IsS111.drewN|apply IsS111.drew|apply IsS111.set_1|refine IsS111.far ?_ NB0_542.out _|refine IsS111.far ?_ NB0_546.out _)|exact HI0.out)) k_ hk_)⟩)) (keep_size (w:=w) (g:=g) (row:=none) (by repeat(first|(with_reducible first|exact HK.out|apply KeepBut.set_|apply qar|apply qau|apply qas|refine qaw ?_ GW542.out _|refine qaw ?_ GW546.out _)|exact HK.out))));have n4_:=qbb.mk (KeepBut.trans (by repeat(first|(with_reducible first|exact HK.out|apply KeepBut.set_|apply qar|apply qau|apply qas|refine qaw ?_ GW542.out _|refine qaw ?_ GW546.out _)|exact HK.out)) hk (.inl rfl));have n5_:=qbb.mk (hb);have n6_:=qbb.mk (hi);clear HO_547000;clear BK542;clear BK546;clear HK;clear HB;clear HI0;have HO_547000:=n0_;have BK542:=n1_;have BK546:=n2_;have HO553:=n3_;have HK:=n4_;have HB:=n5_;have HI0:=n6_;clear n0_ n1_ n2_ n3_ n4_ n5_ n6_;(try clear hb);(try clear hb2);(try clear hk);(try clear hi);(try clear ho0))|((with_reducible refine qav (N:=5) rfl ?_);refine qat ?hg (N:=5) ?hd (cs:=#[.int .i64 0,.int .i64 0,.slice none 0 0]) (t:=45) ?hr ?_;(case hd=>rfl);(case hg=>rfl);(case hr=>first|(go_simp;done)|(go_simp;rfl));intro gb555 hg w33 hbox hb;have n0_:=qbb.mk (Kd.N_below (Kd.N_elderB (by(with_reducible repeat(first|apply Kd.N_alloc|apply Kd.N_drewN|apply Kd.N_drew));exact HO_547000.out) gb555 (Nat.le_of_eq hg.symm)) hb);have n1_:=qbb.mk (Kd.V_below (Kd.V_elderB (by(with_reducible repeat(first|apply Kd.V_alloc|apply Kd.V_drewN|apply Kd.V_drew));exact HO553.out) gb555 (Nat.le_of_eq hg.symm)) hb);have n2_:=qbb.mk (qal (g:=gb542) (o:=.cells #[.slice none 0 0,.int .i64 0] 68 (0,0)) (by(with_reducible repeat(first|refine qae ?_ _|refine qaf ?_|refine qad ?_ _));exact BK542.out) hb);have n3_:=qbb.mk (qal (g:=gb546) (o:=.cells #[u547000,.int .i64 0] 68 (0,0)) (by(with_reducible repeat(first|refine qae ?_ _|refine qaf ?_|refine qad ?_ _));exact BK546.out) hb);have n4_:=qbb.mk (IsS111.below (by repeat(first|(with_reducible first|exact HI0.out|apply IsS111.alloc|apply IsS111.drewN|apply IsS111.drew|apply IsS111.set_1|refine IsS111.far ?_ NB0_542.out _|refine IsS111.far ?_ NB0_546.out _)|exact HI0.out)) hb);have n5_:=qbb.mk (KeepBut.trans (by repeat(first|(with_reducible first|exact HK.out|apply KeepBut.set_|apply qar|apply qau|apply qas|refine qaw ?_ GW542.out _|refine qaw ?_ GW546.out _)|exact HK.out)) (KeepBut.of_below hb g none) (.inl rfl));have n6_:=qbb.mk (qak (by repeat(first|(with_reducible first|exact HB.out|apply qac|apply qaa|apply qab|refine qag ?_ (IsS111.ge HI0.out)|refine qag ?_ GE542.out|refine qag ?_ GE546.out)|exact HB.out)) hb);have n7_:=qbb.mk (hbox);have n8_:=qbb.mk ((by rw[hg];exact(keep_size (w:=w) (g:=g) (row:=none) (by repeat(first|(with_reducible first|exact HK.out|apply KeepBut.set_|apply qar|apply qau|apply qas|refine qaw ?_ GW542.out _|refine qaw ?_ GW546.out _)|exact HK.out))):w.heap.size≤gb555));have n9_:=qbb.mk ((Nat.le_trans HW0.out (by rw[hg];exact(keep_size (w:=w) (g:=g) (row:=none) (by repeat(first|(with_reducible first|exact HK.out|apply KeepBut.set_|apply qar|apply qau|apply qas|refine qaw ?_ GW542.out _|refine qaw ?_ GW546.out _)|exact HK.out))):w.heap.size≤gb555):w0.heap.size≤gb555));have n10_:=qbb.mk ((by rw[hg];exact Nat.ne_of_lt (qbc (g:=gb542) (o:=.cells #[.slice none 0 0,.int .i64 0] 68 (0,0)) (by(with_reducible repeat(first|refine qae ?_ _|refine qaf ?_|refine qad ?_ _));exact BK542.out)):gb542≠gb555));have n11_:=qbb.mk ((by rw[hg];exact Nat.ne_of_gt (qbc (g:=gb542) (o:=.cells #[.slice none 0 0,.int .i64 0] 68 (0,0)) (by(with_reducible repeat(first|refine qae ?_ _|refine qaf ?_|refine qad ?_ _));exact BK542.out)):gb555≠gb542));have n12_:=qbb.mk ((by rw[hg];exact Nat.ne_of_lt (qbc (g:=gb546) (o:=.cells #[u547000,.int .i64 0] 68 (0,0)) (by(with_reducible repeat(first|refine qae ?_ _|refine qaf ?_|refine qad ?_ _));exact BK546.out)):gb546≠gb555));have n13_:=qbb.mk ((by rw[hg];exact Nat.ne_of_gt (qbc (g:=gb546) (o:=.cells #[u547000,.int .i64 0] 68 (0,0)) (by(with_reducible repeat(first|refine qae ?_ _|refine qaf ?_|refine qad ?_ _));exact BK546.out)):gb555≠gb546));have n14_:=qbb.mk ((by rw[hg];exact Nat.ne_of_lt (IsS111.lt (show IsS111 w0 _ g s0_0 t554 from by repeat(first|(with_reducible first|exact HI0.out|apply IsS111.alloc|apply IsS111.drewN|apply IsS111.drew|apply IsS111.set_1|refine IsS111.far ?_ NB0_542.out _|refine IsS111.far ?_ NB0_546.out _)|exact HI0.out))):g≠gb555));have n15_:=qbb.mk ((by rw[hg];exact Nat.ne_of_gt (IsS111.lt (show IsS111 w0 _ g s0_0 t554 from by repeat(first|(with_reducible first|exact HI0.out|apply IsS111.alloc|apply IsS111.drewN|apply IsS111.drew|apply IsS111.set_1|refine IsS111.far ?_ NB0_542.out _|refine IsS111.far ?_ NB0_546.out _)|exact HI0.out))):gb555≠g));clear HO_547000;clear HO553;clear BK542;clear BK546;clear HI0;clear HK;clear HB;have HO_547000:=n0_;have HO553:=n1_;have BK542:=n2_;have BK546:=n3_;have HI0:=n4_;have HK:=n5_;have HB:=n6_;have BK555:=n7_;have GW555:=n8_;have GE555:=n9_;have NB542_555:=n10_;have NB555_542:=n11_;have NB546_555:=n12_;have NB555_546:=n13_;have NB0_555:=n14_;have NB555_0:=n15_;clear n0_ n1_ n2_ n3_ n4_ n5_ n6_ n7_ n8_ n9_ n10_ n11_ n12_ n13_ n14_ n15_;clear hb hbox hg;have hnb34:=NB555_542.out;have hnc34:=NB542_555.out;have hnb35:=NB555_546.out;have hnc35:=NB546_555.out;have hnb36:=NB555_0.out;have hnc36:=NB0_555.out;have hcz37_0:w33.cell? ⟨gb555,0,none⟩=some (.int .i64 0):=(qai BK555.out 0).trans rfl;have hcz37_1:w33.cell? ⟨gb555,1,none⟩=some (.int .i64 0):=(qai BK555.out 1).trans rfl;have hcz37_2:w33.cell? ⟨gb555,2,none⟩=some (.slice none 0 0):=(qai BK555.out 2).trans rfl;have hfz37_0:=qah BK555.out 0;have hfz37_1:=qah BK555.out 1;have hfz37_2:=qah BK555.out 2;obtain⟨Ao38,co38,eo38⟩:=Kd.V_slice HO553.out;subst eo38)|((with_reducible refine qao (f:=25) rfl ?_);refine qax (some 17) rfl rfl Try.func25 (by kernel_rfl) rfl #[.agg #[.int .i64 t549,.int .i64 t550,.slice Ao38 t551.length co38]] rfl (by(try simp only[List.map_toArray,List.map_cons,List.map_nil]);first|done|rfl|(simp only[List.length_drop,List.length_take];rfl)) ?_;(with_reducible refine(spec_RecOk.calls k1 t549 t550 _ _ t551 false _ ?side1 ?side2 A14.out).mono ?_);(case side1=>refine(Kd.V_reads' (e:=3) (base:=w.heap.size) (ok:=fun k_=>(((w.heap.size≤k_)∧(some k_≠(u547000:Value).ownBlock∧(k_≠gb542∧(k_≠gb546∧k_≠g))))∧k_≠gb555)) (n:=t551.length) (c:=co38) ?_).2.2;exact(by(with_reducible repeat(first|apply Kd.V_alloc|apply Kd.V_drewN|apply Kd.V_drew));exact(Kd.V_mono (Kd.V_far (p:=⟨gb555,2,none⟩) (Kd.V_far (p:=⟨gb555,1,none⟩) (Kd.V_far (p:=⟨gb555,0,none⟩) (Kd.V_mono HO553.out (fun k_ hk=>(⟨hk,hk.2⟩:_∧k_≠gb555))) (fun _ hk=>hk.2) (.int .i64 t549)) (fun _ hk=>hk.2) (.int .i64 t550)) (fun _ hk=>hk.2) (.slice Ao38 t551.length co38)) (fun _ h_=>h_.1))));(case side2=>exact(Kd.V_reads' HO553.out).2.1);rintro e w39 ⟨rfl,hb⟩;refine⟨_,rfl,?_⟩;have n0_:=qbb.mk (Kd.N_below (by(with_reducible repeat(first|apply Kd.N_alloc|apply Kd.N_drewN|apply Kd.N_drew));exact(Kd.N_mono (Kd.N_far (p:=⟨gb555,2,none⟩) (Kd.N_far (p:=⟨gb555,1,none⟩) (Kd.N_far (p:=⟨gb555,0,none⟩) (Kd.N_mono HO_547000.out (fun k_ hk=>(⟨hk,hk.2⟩:_∧k_≠gb555))) (fun _ hk=>hk.2) (.int .i64 t549)) (fun _ hk=>hk.2) (.int .i64 t550)) (fun _ hk=>hk.2) (.slice Ao38 t551.length co38)) (fun _ h_=>h_.1))) hb);have n1_:=qbb.mk (Kd.V_below (by(with_reducible repeat(first|apply Kd.V_alloc|apply Kd.V_drewN|apply Kd.V_drew));exact(Kd.V_mono (Kd.V_far (p:=⟨gb555,2,none⟩) (Kd.V_far (p:=⟨gb555,1,none⟩) (Kd.V_far (p:=⟨gb555,0,none⟩) (Kd.V_mono HO553.out (fun k_ hk=>(⟨hk,hk.2⟩:_∧k_≠gb555))) (fun _ hk=>hk.2) (.int .i64 t549)) (fun _ hk=>hk.2) (.int .i64 t550)) (fun _ hk=>hk.2) (.slice Ao38 t551.length co38)) (fun _ h_=>h_.1))) hb);have n2_:=qbb.mk (qal (g:=gb542) (o:=.cells #[.slice none 0 0,.int .i64 0] 68 (0,0)) (by(with_reducible repeat(first|refine qae ?_ _|refine qaf ?_|refine qad ?_ _));refine qap ?_ NB542_555.out _;(with_reducible repeat(first|refine qae ?_ _|refine qaf ?_|refine qad ?_ _));refine qap ?_ NB542_555.out _;(with_reducible repeat(first|refine qae ?_ _|refine qaf ?_|refine qad ?_ _));refine qap ?_ NB542_555.out _;(with_reducible repeat(first|refine qae ?_ _|refine qaf ?_|refine qad ?_ _));exact BK542.out) hb);have n3_:=qbb.mk (qal (g:=gb546) (o:=.cells #[u547000,.int .i64 0] 68 (0,0)) (by(with_reducible repeat(first|refine qae ?_ _|refine qaf ?_|refine qad ?_ _));refine qap ?_ NB546_555.out _;(with_reducible repeat(first|refine qae ?_ _|refine qaf ?_|refine qad ?_ _));refine qap ?_ NB546_555.out _;(with_reducible repeat(first|refine qae ?_ _|refine qaf ?_|refine qad ?_ _));refine qap ?_ NB546_555.out _;(with_reducible repeat(first|refine qae ?_ _|refine qaf ?_|refine qad ?_ _));exact BK546.out) hb);have n4_:=qbb.mk (IsS111.below (show IsS111 w0 (((w33.setCell ⟨gb555,0,none⟩ (.int .i64 t549)).setCell ⟨gb555,1,none⟩ (.int .i64 t550)).setCell ⟨gb555,2,none⟩ (.slice Ao38 t551.length co38)) g s0_0 t554 from by repeat(first|(with_reducible first|exact HI0.out|apply IsS111.alloc|apply IsS111.drewN|apply IsS111.drew|apply IsS111.set_1|refine IsS111.far ?_ NB0_542.out _|refine IsS111.far ?_ NB0_546.out _|refine IsS111.far ?_ NB0_555.out _)|exact HI0.out)) hb);have n5_:=qbb.mk (qal (g:=gb555) (o:=.cells #[.int .i64 t549,.int .i64 t550,.slice Ao38 t551.length co38] 45 (0,0)) (by(with_reducible repeat(first|refine qae ?_ _|refine qaf ?_|refine qad ?_ _));refine qaq (cs:=#[.int .i64 t549,.int .i64 t550,.slice none 0 0]) ?_ 2 _ rfl;(with_reducible repeat(first|refine qae ?_ _|refine qaf ?_|refine qad ?_ _));refine qaq (cs:=#[.int .i64 t549,.int .i64 0,.slice none 0 0]) ?_ 1 _ rfl;(with_reducible repeat(first|refine qae ?_ _|refine qaf ?_|refine qad ?_ _));refine qaq (cs:=#[.int .i64 0,.int .i64 0,.slice none 0 0]) ?_ 0 _ rfl;(with_reducible repeat(first|refine qae ?_ _|refine qaf ?_|refine qad ?_ _));exact BK555.out) hb);have n6_:=qbb.mk (KeepBut.trans (by repeat(first|(with_reducible first|exact HK.out|apply KeepBut.set_|apply qar|apply qau|apply qas|refine qaw ?_ GW542.out _|refine qaw ?_ GW546.out _|refine qaw ?_ GW555.out _)|exact HK.out)) (KeepBut.of_below hb g none) (.inl rfl));have n7_:=qbb.mk (qak (by repeat(first|(with_reducible first|exact HB.out|apply qac|apply qaa|apply qab|refine qag ?_ (IsS111.ge HI0.out)|refine qag ?_ GE542.out|refine qag ?_ GE546.out|refine qag ?_ GE555.out)|exact HB.out)) hb);clear HO_547000;clear HO553;clear BK542;clear BK546;clear HI0;clear BK555;clear HK;clear HB;have HO_547000:=n0_;have HO553:=n1_;have BK542:=n2_;have BK546:=n3_;have HI0:=n4_;have BK555:=n5_;have HK:=n6_;have HB:=n7_;clear n0_ n1_ n2_ n3_ n4_ n5_ n6_ n7_;(try clear hb);(try clear hb2);(try clear hk);(try clear hi)))
     go_roundg k1
     case measure=>have:=HK1.out;omega
     case rel=>exact⟨(wrap64 (x4_1 - 1)),(t554),(x547000_1),(u547000),(by first|rfl|(simp;done)|(simp[*];done)),H',⟨by have:=HK1.out;omega⟩,⟨by(with_reducible repeat(first|apply Kd.N_alloc|apply Kd.N_drewN|apply Kd.N_drew));exact Kd.N_mono HO_547000.out (fun _ hk=>⟨hk.1.1,⟨hk.1.2.1,⟨hk.1.2.2.1,hk.1.2.2.2⟩⟩⟩)⟩,⟨by(with_reducible repeat(first|refine qae ?_ _|refine qaf ?_|refine qad ?_ _));exact BK542.out⟩,⟨by(with_reducible repeat(first|refine qae ?_ _|refine qaf ?_|refine qad ?_ _));exact BK546.out⟩,⟨by repeat(first|(with_reducible first|exact HI0.out|apply IsS111.alloc|apply IsS111.drewN|apply IsS111.drew|apply IsS111.set_1|refine IsS111.far ?_ NB0_542.out _|refine IsS111.far ?_ NB0_546.out _|refine IsS111.far ?_ NB0_555.out _)|exact HI0.out)⟩,⟨by repeat(first|(with_reducible first|exact HK.out|apply KeepBut.set_|apply qar|apply qau|apply qas|refine qaw ?_ GW542.out _|refine qaw ?_ GW546.out _|refine qaw ?_ GW555.out _)|exact HK.out)⟩,⟨by repeat(first|(with_reducible first|exact HB.out|apply qac|apply qaa|apply qab|refine qag ?_ (IsS111.ge HI0.out)|refine qag ?_ GE542.out|refine qag ?_ GE546.out|refine qag ?_ GE555.out)|exact HB.out)⟩⟩
   ·rw[if_neg c12] at H
    have c12b0:decide (0<x4_1)=false:=decide_eq_false c12
    clear c12
    replace H:=Option.bind_eq_some_iff.mp H
    obtain⟨⟨t560,t561⟩,A400,H⟩:=H
    replace H:((spec_l6Rd_pick.f k1 s0_0 t561 20).bind fun bt562=>(if bt562.1=0 then((some (([(-1),wrap64 ((x547000_1.length:Int)+1)]:List Int):List Int)).bind fun y564=>((spec_l6Rd_pick.f k1 s0_0 bt562.2 2).bind fun bt567=>(if 0≤bt567.1 then(if bt567.1<(y564.length:Int) then(some (x547000_1,rd y564 bt567.1,bt567.2)) else(none)) else(none)))) else(if bt562.1=1 then(if x547000_1.length<3518437208883 then(some ((x547000_1++[(⟨9,0,([]:List Int)⟩:S45)]),t560,bt562.2)) else(none)) else(if bt562.1=2 then(spec_l71Log.l1 k1 s0_0 bt562.2 x547000_1 t560) else(some (x547000_1,t560,bt562.2))))))=some (r1,r2,r3):=H
    have A40:=qbb.mk A400
    clear A400
    replace H:=Option.bind_eq_some_iff.mp H
    obtain⟨⟨t562,t563⟩,A410,H⟩:=H
    replace H:(if t562=0 then((some (([(-1),wrap64 ((x547000_1.length:Int)+1)]:List Int):List Int)).bind fun y564=>((spec_l6Rd_pick.f k1 s0_0 t563 2).bind fun bt567=>(if 0≤bt567.1 then(if bt567.1<(y564.length:Int) then(some (x547000_1,rd y564 bt567.1,bt567.2)) else(none)) else(none)))) else(if t562=1 then(if x547000_1.length<3518437208883 then(some ((x547000_1++[(⟨9,0,([]:List Int)⟩:S45)]),t560,t563)) else(none)) else(if t562=2 then(spec_l71Log.l1 k1 s0_0 t563 x547000_1 t560) else(some (x547000_1,t560,t563)))))=some (r1,r2,r3):=H
    have A41:=qbb.mk A410
    clear A410
    by_cases c42:t562=0
    ·rw[if_pos c42] at H
     have c42b0:(t562 == 0)=true:=beq_iff_eq.mpr c42
     have c42b1:(t562 != 0)=false:=bne_eq_false_iff_eq.mpr c42
     clear c42
     obtain⟨y564,hy564⟩:∃y_:List Int,y_=(([(-1),wrap64 ((x547000_1.length:Int)+1)]:List Int)):=⟨_,rfl⟩
     replace H:((spec_l6Rd_pick.f k1 s0_0 t563 2).bind fun bt567=>(if 0≤bt567.1 then(if bt567.1<(y564.length:Int) then(some (x547000_1,rd y564 bt567.1,bt567.2)) else(none)) else(none)))=some (r1,r2,r3):=by first|(rw[hy564];with_reducible exact H)|(have H2_:=(Option.bind_some _ _).symm.trans H;rw[hy564];with_reducible exact H2_)|(have H2_:=(Option.bind_some _ _).symm.trans H;with_reducible exact H2_)|with_reducible exact H|(rw[hy564];exact H)|exact H
     have Ny564:=qbb.mk hy564
     clear hy564
     replace H:=Option.bind_eq_some_iff.mp H
     obtain⟨⟨t567,t568⟩,A430,H⟩:=H
     replace H:(if 0≤t567 then(if t567<(y564.length:Int) then(some (x547000_1,rd y564 t567,t568)) else(none)) else(none))=some (r1,r2,r3):=H
     have A43:=qbb.mk A430
     clear A430
     by_cases c44:0≤t567
     ·rw[if_pos c44] at H
      have c44b0:decide (0≤t567)=true:=decide_eq_true c44
      clear c44
      by_cases c45:t567<(y564.length:Int)
      ·rw[if_pos c45] at H
       have c45b0:decide (t567<(y564.length:Int))=true:=decide_eq_true c45
       clear c45
       simp only[Option.some.injEq,Prod.mk.injEq] at H
       obtain⟨rfl,rfl,rfl⟩:=H
       have hnb46:=NB546_542.out
       have hnc46:=NB542_546.out
       have hnb47:=NB546_0.out
       have hnc47:=NB0_546.out
       have hcz48_0:wr.cell? ⟨gb546,0,none⟩=some (u547000):=(qai BK546.out 0).trans rfl
       have hcz48_1:wr.cell? ⟨gb546,1,none⟩=some (.int .i64 0):=(qai BK546.out 1).trans rfl
       have hfz48_0:=qah BK546.out 0
       have hfz48_1:=qah BK546.out 1
       obtain⟨Ao49,co49,eo49⟩:=Kd.N_slice HO_547000.out
       subst eo49
       try go_wp2_with(first|((with_reducible refine qao (f:=53) rfl ?_);refine qax (some 29) rfl rfl Try.func53 (by kernel_rfl) rfl #[.pointer (some ⟨g,0,none⟩),.int .i64 (wrap64 ((x547000_1.length:Int)+1))] rfl (by(try simp only[List.map_toArray,List.map_cons,List.map_nil]);first|done|rfl|(simp only[List.length_drop,List.length_take];rfl)) ?_;(with_reducible refine(spec_l6Rd_pick.calls k1 g s0_0 x1001_1 (wrap64 ((x547000_1.length:Int)+1)) t560 t561 w0 _ ?side1 ?side2 A40.out).mono ?_);(case side1=>repeat(first|(with_reducible first|exact HI0.out|apply IsS111.alloc|apply IsS111.drewN|apply IsS111.drew|apply IsS111.set_1|refine IsS111.far ?_ NB0_542.out _|refine IsS111.far ?_ NB0_546.out _)|exact HI0.out));(case side2=>repeat(first|(with_reducible first|exact HB.out|apply qac|apply qaa|apply qab|refine qag ?_ (IsS111.ge HI0.out)|refine qag ?_ GE542.out|refine qag ?_ GE546.out)|exact HB.out));rintro e w50 ⟨rfl,hi,hb,hk⟩;refine⟨_,rfl,?_⟩;have n0_:=qbb.mk (Kd.N_mono (Kd.N_keep (Kd.N_mono (ok:=fun k_=>(((w.heap.size≤k_))∧(k_≠gb542∧(k_≠gb546∧k_≠g)))) (by(with_reducible repeat(first|apply Kd.N_alloc|apply Kd.N_drewN|apply Kd.N_drew));exact HO_547000.out) (fun k_ hk_=>(⟨hk_,hk_.2.2.2⟩:_∧k_≠g))) hk (fun _ h=>h.2)) (fun _ h=>h.1));have n1_:=qbb.mk (KeepBut.blk hk (g':=gb542) (o:=.cells #[.slice none 0 0,.int .i64 0] 68 (0,0)) (by(with_reducible repeat(first|refine qae ?_ _|refine qaf ?_|refine qad ?_ _));exact BK542.out) NB542_0.out (by simp));have n2_:=qbb.mk (KeepBut.blk hk (g':=gb546) (o:=.cells #[.slice Ao49 x547000_1.length co49,.int .i64 0] 68 (0,0)) (by(with_reducible repeat(first|refine qae ?_ _|refine qaf ?_|refine qad ?_ _));exact BK546.out) NB546_0.out (by simp));have n3_:=qbb.mk (KeepBut.trans (by repeat(first|(with_reducible first|exact HK.out|apply KeepBut.set_|apply qar|apply qau|apply qas|refine qaw ?_ GW542.out _|refine qaw ?_ GW546.out _)|exact HK.out)) hk (.inl rfl));have n4_:=qbb.mk (hb);have n5_:=qbb.mk (hi);clear HO_547000;clear BK542;clear BK546;clear HK;clear HB;clear HI0;have HO_547000:=n0_;have BK542:=n1_;have BK546:=n2_;have HK:=n3_;have HB:=n4_;have HI0:=n5_;clear n0_ n1_ n2_ n3_ n4_ n5_;(try clear hb);(try clear hb2);(try clear hk);(try clear hi);have hcz51_0:w50.cell? ⟨gb546,0,none⟩=some (.slice Ao49 x547000_1.length co49):=(qai BK546.out 0).trans rfl;have hcz51_1:w50.cell? ⟨gb546,1,none⟩=some (.int .i64 0):=(qai BK546.out 1).trans rfl;have hfz51_0:=qah BK546.out 0;have hfz51_1:=qah BK546.out 1)|((with_reducible refine qao (f:=53) rfl ?_);refine qax (some 32) rfl rfl Try.func53 (by kernel_rfl) rfl #[.pointer (some ⟨g,0,none⟩),.int .i64 20] rfl (by(try simp only[List.map_toArray,List.map_cons,List.map_nil]);first|done|rfl|(simp only[List.length_drop,List.length_take];rfl)) ?_;(with_reducible refine(spec_l6Rd_pick.calls k1 g s0_0 t561 20 t562 t563 w0 _ ?side1 ?side2 A41.out).mono ?_);(case side1=>repeat(first|(with_reducible first|exact HI0.out|apply IsS111.alloc|apply IsS111.drewN|apply IsS111.drew|apply IsS111.set_1|refine IsS111.far ?_ NB0_542.out _|refine IsS111.far ?_ NB0_546.out _)|exact HI0.out));(case side2=>repeat(first|(with_reducible first|exact HB.out|apply qac|apply qaa|apply qab|refine qag ?_ (IsS111.ge HI0.out)|refine qag ?_ GE542.out|refine qag ?_ GE546.out)|exact HB.out));rintro e w52 ⟨rfl,hi,hb,hk⟩;refine⟨_,rfl,?_⟩;have n0_:=qbb.mk (Kd.N_mono (Kd.N_keep (Kd.N_mono (ok:=fun k_=>(((w.heap.size≤k_))∧(k_≠gb542∧(k_≠gb546∧k_≠g)))) (by(with_reducible repeat(first|apply Kd.N_alloc|apply Kd.N_drewN|apply Kd.N_drew));exact(Kd.N_mono (Kd.N_far (p:=⟨gb546,1,none⟩) (Kd.N_mono HO_547000.out (fun k_ hk=>(⟨hk,hk.2.2.1⟩:_∧k_≠gb546))) (fun _ hk=>hk.2) (.int .i64 t560)) (fun _ h_=>h_.1))) (fun k_ hk_=>(⟨hk_,hk_.2.2.2⟩:_∧k_≠g))) hk (fun _ h=>h.2)) (fun _ h=>h.1));have n1_:=qbb.mk (KeepBut.blk hk (g':=gb542) (o:=.cells #[.slice none 0 0,.int .i64 0] 68 (0,0)) (by(with_reducible repeat(first|refine qae ?_ _|refine qaf ?_|refine qad ?_ _));refine qap ?_ NB542_546.out _;(with_reducible repeat(first|refine qae ?_ _|refine qaf ?_|refine qad ?_ _));exact BK542.out) NB542_0.out (by simp));have n2_:=qbb.mk (KeepBut.blk hk (g':=gb546) (o:=.cells #[.slice Ao49 x547000_1.length co49,.int .i64 t560] 68 (0,0)) (by(with_reducible repeat(first|refine qae ?_ _|refine qaf ?_|refine qad ?_ _));refine qaq (cs:=#[.slice Ao49 x547000_1.length co49,.int .i64 0]) ?_ 1 _ rfl;(with_reducible repeat(first|refine qae ?_ _|refine qaf ?_|refine qad ?_ _));exact BK546.out) NB546_0.out (by simp));have n3_:=qbb.mk (KeepBut.trans (by repeat(first|(with_reducible first|exact HK.out|apply KeepBut.set_|apply qar|apply qau|apply qas|refine qaw ?_ GW542.out _|refine qaw ?_ GW546.out _)|exact HK.out)) hk (.inl rfl));have n4_:=qbb.mk (hb);have n5_:=qbb.mk (hi);clear HO_547000;clear BK542;clear BK546;clear HK;clear HB;clear HI0;have HO_547000:=n0_;have BK542:=n1_;have BK546:=n2_;have HK:=n3_;have HB:=n4_;have HI0:=n5_;clear n0_ n1_ n2_ n3_ n4_ n5_;(try clear hb);(try clear hb2);(try clear hk);(try clear hi)))
       have pi569:(0≤(t567:Int))=True:=eq_true (of_decide_eq_true (by first|(with_reducible assumption)|assumption))
       have qi569:(t567<(y564.length:Int))=True:=eq_true (of_decide_eq_true (by first|(with_reducible assumption)|assumption))
       have n0_:=qbb.mk (Kd.N_drew HO_547000.out)
       have n1_:=qbb.mk (qaf BK542.out)
       have n2_:=qbb.mk (qaf BK546.out)
       have n3_:=qbb.mk (IsS111.drew HI0.out)
       have n4_:=qbb.mk (qau HK.out)
       have n5_:=qbb.mk (qab HB.out)
       clear HO_547000
       clear BK542
       clear BK546
       clear HI0
       clear HK
       clear HB
       have HO_547000:=n0_
       have BK542:=n1_
       have BK546:=n2_
       have HI0:=n3_
       have HK:=n4_
       have HB:=n5_
       clear n0_ n1_ n2_ n3_ n4_ n5_
       refine start_ (n:=11) (S:=fun w'=>w'.cell? ⟨gb546,0,none⟩=some (.slice Ao49 x547000_1.length co49)∧w'.cell? ⟨gb546,1,none⟩=some (.int .i64 t560)) (ds:=[10]) #[false,false,false,false,false,false,false,false,false,false,false] (by kernel_rfl) rfl rfl ⟨(qai BK546.out 0).trans rfl,(qai BK546.out 1).trans rfl⟩ (fun hHeld=>?_);refine with_tabW spec_l71Log.tab11 spec_l71Log.bits11 (fun HT_ HW_=>?_)
       generalize w52.drew=w53 at HO_547000 BK542 BK546 HI0 HK HB hHeld ⊢
       refine qbd (i:=0) (N:=some 35) (v:=?_) (a':=?_) #[true,false,false,false,false,false,false,false,false,false,false] rfl rfl (qba HT_.out (by kernel_rfl)) (fun _ _ _ h=>h) (Or.inl ⟨by rfl,?_⟩) ?_ ?_
       rotate_left
       ·intro w'
        go_simp
        with_reducible rfl
       rotate_left
       ·simp only[Act.put,List.setIfInBounds_toArray,List.set_cons_zero,List.set_cons_succ,qay,qaz]
        rfl
       refine qbd (i:=5) (N:=some 40) (v:=?_) (a':=?_) #[true,false,false,false,false,true,false,false,false,false,false] rfl rfl (qba HT_.out (by kernel_rfl)) (fun _ _ _ h=>h) (Or.inl ⟨by rfl,?_⟩) ?_ ?_
       rotate_left
       ·intro w'
        go_simp
        with_reducible rfl
       rotate_left
       ·simp only[Act.put,List.setIfInBounds_toArray,List.set_cons_zero,List.set_cons_succ,qay,qaz]
        rfl
       refine take_ (i:=1) (N:=some 36) (v:=?_) (a':=?_) #[true,true,false,false,false,true,false,false,false,false,false] rfl rfl (take_ofW HT_.out HW_.out (by kernel_rfl)) (fun _ _ _ h=>h) (Or.inl ⟨by rfl,?_⟩) hHeld ?_ ?_
       rotate_left
       ·rintro w' ⟨s0,s1⟩
        go_simp
        with_reducible rfl
       rotate_left
       ·simp only[Act.put,List.setIfInBounds_toArray,List.set_cons_zero,List.set_cons_succ,qay,qaz]
        rfl
       refine qbd (i:=2) (N:=some 37) (v:=?_) (a':=?_) #[true,true,true,false,false,true,false,false,false,false,false] rfl rfl (qba HT_.out (by kernel_rfl)) (fun _ _ _ h=>h) (Or.inl ⟨by rfl,?_⟩) ?_ ?_
       rotate_left
       ·intro w'
        go_simp
        with_reducible rfl
       rotate_left
       ·simp only[Act.put,List.setIfInBounds_toArray,List.set_cons_zero,List.set_cons_succ,qay,qaz]
        rfl
       refine qbd (i:=3) (N:=some 38) (v:=?_) (a':=?_) #[true,true,true,true,false,true,false,false,false,false,false] rfl rfl (qba HT_.out (by kernel_rfl)) (fun _ _ _ h=>h) (Or.inl ⟨by rfl,?_⟩) ?_ ?_
       rotate_left
       ·intro w'
        go_simp
        with_reducible rfl
       rotate_left
       ·simp only[Act.put,List.setIfInBounds_toArray,List.set_cons_zero,List.set_cons_succ,qay,qaz]
        rfl
       refine join_ (σ:=Value × Addr) 4 #[true,true,true,true,true,true,true,false,false,false,false] (fun s_=>[(39,s_.1),(41,.int .i64 t567)]) (fun s_ w'=>(w'.cell? ⟨gb546,0,none⟩=some (.slice Ao49 x547000_1.length co49)∧w'.cell? ⟨gb546,1,none⟩=some (.int .i64 t560))∧(Kd.R (Kd.int .i64) 3 w' w.heap.size (fun k_=>(w.heap.size≤k_)) s_.1 y564)∧(Kd.N k45 45 w' w.heap.size (fun k_=>(w.heap.size≤k_)∧some k_≠(s_.1:Value).ownBlock∧k_≠g∧k_≠gb542∧k_≠gb546) (.slice Ao49 x547000_1.length co49) x547000_1)∧(∃c_,(s_.1:Value)=.slice (some s_.2) y564.length c_)∧(w'.heap[gb542]?=some (.cells #[.slice none 0 0,.int .i64 0] 68 (0,0)))∧(w'.heap[gb546]?=some (.cells #[.slice Ao49 x547000_1.length co49,.int .i64 t560] 68 (0,0)))∧(IsS111 w0 w' g s0_0 t568)∧(KeepBut w w' g none)∧(Below w0.heap.size w0 w')) ?_ ?_
       rotate_left
       ·intro hCont
        refine two_ (i:=4) (j:=6) (Ni:=some 39) (Nj:=some 41) #[true,true,true,true,true,true,false,false,false,false,false] #[true,true,true,true,false,true,true,false,false,false,false] rfl rfl rfl rfl (two_of HT_.out (by kernel_rfl)) (by decide) (by decide) (fun K hK=>?_) (fun K hK=>?_)
        ·skip
         refine Kd.R_lit_step (Kd.int .i64) _ 3 ?hg (N:=39) ?hd (xs:=([(-1),wrap64 ((x547000_1.length:Int)+1)]:List Int)) (inner:=[.int .i64 (-1),.int .i64 (wrap64 ((x547000_1.length:Int)+1))]) (ok:=fun _=>True) (okp:=fun _=>True) ?hr ?hp (fun _ hk=>hk) trivial (Below.refl _ _) (Nat.le_refl _) (by simp) ?_;(case hd=>rfl);(case hg=>rfl);(case hr=>first|(go_simp;done)|(go_simp;rfl));(case hp=>exact(Reps.one (show Kd.M (Kd.int .i64) _ _ _ (-1) [.int .i64 (-1)] from rfl) (Reps.one (show Kd.M (Kd.int .i64) _ _ _ (wrap64 ((x547000_1.length:Int)+1)) [.int .i64 (wrap64 ((x547000_1.length:Int)+1))] from rfl) (Reps.none _ _))))
         intro v565 w54 ho55 hb hg_ hnew_
         clear hg_ hnew_
         (first|rw[←Ny564.out] at ho55|(simp only[Int.reduceToNat] at ho55;rw[←Ny564.out] at ho55))
         have n0_:=qbb.mk (Kd.N_elder' (by(with_reducible repeat(first|apply Kd.N_alloc|apply Kd.N_drewN|apply Kd.N_drew));exact HO_547000.out) (Kd.R_base ho55) hb)
         have n1_:=qbb.mk (Kd.R_lower (Kd.R_newM (M:=fun k_=>(w.heap.size≤k_)) ho55 (keep_size (w:=w) (g:=g) (row:=none) (by repeat(first|(with_reducible first|exact HK.out|apply KeepBut.set_|apply qar|apply qau|apply qas|refine qaw ?_ GW542.out _|refine qaw ?_ GW546.out _)|exact HK.out))) (fun k_ h_=>h_)) (keep_size (w:=w) (g:=g) (row:=none) (by repeat(first|(with_reducible first|exact HK.out|apply KeepBut.set_|apply qar|apply qau|apply qas|refine qaw ?_ GW542.out _|refine qaw ?_ GW546.out _)|exact HK.out))))
         have n2_:=qbb.mk (qal (g:=gb542) (o:=.cells #[.slice none 0 0,.int .i64 0] 68 (0,0)) (by(with_reducible repeat(first|refine qae ?_ _|refine qaf ?_|refine qad ?_ _));exact BK542.out) hb)
         have n3_:=qbb.mk (qal (g:=gb546) (o:=.cells #[.slice Ao49 x547000_1.length co49,.int .i64 t560] 68 (0,0)) (by(with_reducible repeat(first|refine qae ?_ _|refine qaf ?_|refine qad ?_ _));exact BK546.out) hb)
         have n4_:=qbb.mk (IsS111.below (by repeat(first|(with_reducible first|exact HI0.out|apply IsS111.alloc|apply IsS111.drewN|apply IsS111.drew|apply IsS111.set_1|refine IsS111.far ?_ NB0_542.out _|refine IsS111.far ?_ NB0_546.out _)|exact HI0.out)) hb)
         have n5_:=qbb.mk (KeepBut.trans (by repeat(first|(with_reducible first|exact HK.out|apply KeepBut.set_|apply qar|apply qau|apply qas|refine qaw ?_ GW542.out _|refine qaw ?_ GW546.out _)|exact HK.out)) (KeepBut.of_below hb g none) (.inl rfl))
         have n6_:=qbb.mk (qak (by repeat(first|(with_reducible first|exact HB.out|apply qac|apply qaa|apply qab|refine qag ?_ (IsS111.ge HI0.out)|refine qag ?_ GE542.out|refine qag ?_ GE546.out)|exact HB.out)) hb)
         clear HO_547000
         clear BK542
         clear BK546
         clear HI0
         clear HK
         clear HB
         have HO_547000:=n0_
         have HO566:=n1_
         have BK542:=n2_
         have BK546:=n3_
         have HI0:=n4_
         have HK:=n5_
         have HB:=n6_
         clear n0_ n1_ n2_ n3_ n4_ n5_ n6_
         clear hb ho55
         obtain⟨Ao56,co56,eo56⟩:=Kd.R_slice HO566.out
         subst eo56
         obtain⟨ado56,fo56,_⟩:=Kd.at_int (Kd.R_reads' HO566.out).2.2 0 (by decide) (by rw[Ny564.out];simp)
         cases fo56
         refine hK.out _ _ ⟨(qai BK546.out 0).trans rfl,(qai BK546.out 1).trans rfl⟩ (fun hHeld=>?_)
         clear hK K
         refine norm_ (a':=?_) ?_ ?_
         rotate_left
         ·show Act.put _ (some 39) _=_
          simp only[Act.put,List.setIfInBounds_toArray,List.set_cons_zero,List.set_cons_succ,qay,qaz]
          rfl
         refine one_ (i:=6) (N:=some 41) #[true,true,true,true,true,true,true,false,false,false,false] rfl rfl (one_of HT_.out (by kernel_rfl)) (by decide) (fun K hK=>?_)
         refine goes_ Try.func53 (by kernel_rfl) rfl #[.pointer (some ⟨g,0,none⟩),.int .i64 2] (by rfl) rfl rfl (by(try simp only[List.map_toArray,List.map_cons,List.map_nil]);first|done|rfl|(simp only[List.length_drop,List.length_take];rfl)) ?_
         with_reducible refine(spec_l6Rd_pick.calls k1 g s0_0 t563 2 t567 t568 w0 _ ?side1 ?side2 A43.out).mono ?_
         (case side1=>repeat(first|(with_reducible first|exact HI0.out|apply IsS111.alloc|apply IsS111.drewN|apply IsS111.drew|apply IsS111.set_1|refine IsS111.far ?_ NB0_542.out _|refine IsS111.far ?_ NB0_546.out _)|exact HI0.out))
         (case side2=>repeat(first|(with_reducible first|exact HB.out|apply qac|apply qaa|apply qab|refine qag ?_ (IsS111.ge HI0.out)|refine qag ?_ GE542.out|refine qag ?_ GE546.out)|exact HB.out))
         rintro e w57 ⟨rfl,hi,hb,hk⟩
         refine⟨_,rfl,?_⟩
         have n0_:=qbb.mk (Kd.N_mono (Kd.N_keep (Kd.N_mono (ok:=fun k_=>((((w.heap.size≤k_))∧(k_≠gb542∧(k_≠gb546∧k_≠g)))∧some k_≠(.slice (some ado56) y564.length co56:Value).ownBlock)) (by(with_reducible repeat(first|apply Kd.N_alloc|apply Kd.N_drewN|apply Kd.N_drew));exact HO_547000.out) (fun k_ hk_=>(⟨hk_,hk_.1.2.2.2⟩:_∧k_≠g))) hk (fun _ h=>h.2)) (fun _ h=>h.1))
         have n1_:=qbb.mk (KeepBut.blk hk (g':=gb542) (o:=.cells #[.slice none 0 0,.int .i64 0] 68 (0,0)) (by(with_reducible repeat(first|refine qae ?_ _|refine qaf ?_|refine qad ?_ _));exact BK542.out) NB542_0.out (by simp))
         have n2_:=qbb.mk (KeepBut.blk hk (g':=gb546) (o:=.cells #[.slice Ao49 x547000_1.length co49,.int .i64 t560] 68 (0,0)) (by(with_reducible repeat(first|refine qae ?_ _|refine qaf ?_|refine qad ?_ _));exact BK546.out) NB546_0.out (by simp))
         have n3_:=qbb.mk (Kd.R_mono (Kd.R_keep (IsS111.apart (show IsS111 w0 _ g s0_0 t563 from by repeat(first|(with_reducible first|exact HI0.out|apply IsS111.alloc|apply IsS111.drewN|apply IsS111.drew|apply IsS111.set_1|refine IsS111.far ?_ NB0_542.out _|refine IsS111.far ?_ NB0_546.out _)|exact HI0.out)) (by(with_reducible repeat(first|apply Kd.R_alloc|apply Kd.R_drewN|apply Kd.R_drew));exact HO566.out) (by decide)) hk (fun _ h=>h.2)) (fun _ h=>h.1))
         have n4_:=qbb.mk (KeepBut.trans (by repeat(first|(with_reducible first|exact HK.out|apply KeepBut.set_|apply qar|apply qau|apply qas|refine qaw ?_ GW542.out _|refine qaw ?_ GW546.out _)|exact HK.out)) hk (.inl rfl))
         have n5_:=qbb.mk (hb)
         have n6_:=qbb.mk (hi)
         clear HO_547000
         clear BK542
         clear BK546
         clear HO566
         clear HK
         clear HB
         clear HI0
         have HO_547000:=n0_
         have BK542:=n1_
         have BK546:=n2_
         have HO566:=n3_
         have HK:=n4_
         have HB:=n5_
         have HI0:=n6_
         clear n0_ n1_ n2_ n3_ n4_ n5_ n6_
         (try clear hb)
         (try clear hb2)
         (try clear hk)
         (try clear hi)
         refine hK.out _ _ ⟨(qai BK546.out 0).trans rfl,(qai BK546.out 1).trans rfl⟩ (fun hHeld=>?_)
         clear hK K
         refine norm_ (a':=?_) ?_ ?_
         rotate_left
         ·show Act.put _ (some 41) _=_
          simp only[Act.put,List.setIfInBounds_toArray,List.set_cons_zero,List.set_cons_succ,qay,qaz]
          rfl
         exact norm_ (by simp only[putAll,Act.put,List.setIfInBounds_toArray,List.set_cons_zero,List.set_cons_succ]) (hCont (.slice (some ado56) y564.length co56,ado56) _ ⟨hHeld,(by(with_reducible repeat(first|apply Kd.R_alloc|apply Kd.R_drewN|apply Kd.R_drew));exact Kd.R_mono HO566.out (fun _ hk=>hk.1)),(by(with_reducible repeat(first|apply Kd.N_alloc|apply Kd.N_drewN|apply Kd.N_drew));exact Kd.N_mono HO_547000.out (fun _ hk=>⟨hk.1.1,⟨hk.2,⟨hk.1.2.2.2,⟨hk.1.2.1,hk.1.2.2.1⟩⟩⟩⟩)),⟨_,rfl⟩,(by(with_reducible repeat(first|refine qae ?_ _|refine qaf ?_|refine qad ?_ _));exact BK542.out),(by(with_reducible repeat(first|refine qae ?_ _|refine qaf ?_|refine qad ?_ _));exact BK546.out),(by repeat(first|(with_reducible first|exact HI0.out|apply IsS111.alloc|apply IsS111.drewN|apply IsS111.drew|apply IsS111.set_1|refine IsS111.far ?_ NB0_542.out _|refine IsS111.far ?_ NB0_546.out _)|exact HI0.out)),(by repeat(first|(with_reducible first|exact HK.out|apply KeepBut.set_|apply qar|apply qau|apply qas|refine qaw ?_ GW542.out _|refine qaw ?_ GW546.out _)|exact HK.out)),(by repeat(first|(with_reducible first|exact HB.out|apply qac|apply qaa|apply qab|refine qag ?_ (IsS111.ge HI0.out)|refine qag ?_ GE542.out|refine qag ?_ GE546.out)|exact HB.out))⟩)
        ·skip
         refine goes_ Try.func53 (by kernel_rfl) rfl #[.pointer (some ⟨g,0,none⟩),.int .i64 2] (by rfl) rfl rfl (by(try simp only[List.map_toArray,List.map_cons,List.map_nil]);first|done|rfl|(simp only[List.length_drop,List.length_take];rfl)) ?_
         with_reducible refine(spec_l6Rd_pick.calls k1 g s0_0 t563 2 t567 t568 w0 _ ?side1 ?side2 A43.out).mono ?_
         (case side1=>repeat(first|(with_reducible first|exact HI0.out|apply IsS111.alloc|apply IsS111.drewN|apply IsS111.drew|apply IsS111.set_1|refine IsS111.far ?_ NB0_542.out _|refine IsS111.far ?_ NB0_546.out _)|exact HI0.out))
         (case side2=>repeat(first|(with_reducible first|exact HB.out|apply qac|apply qaa|apply qab|refine qag ?_ (IsS111.ge HI0.out)|refine qag ?_ GE542.out|refine qag ?_ GE546.out)|exact HB.out))
         rintro e w54 ⟨rfl,hi,hb,hk⟩
         refine⟨_,rfl,?_⟩
         have n0_:=qbb.mk (Kd.N_mono (Kd.N_keep (Kd.N_mono (ok:=fun k_=>(((w.heap.size≤k_))∧(k_≠gb542∧(k_≠gb546∧k_≠g)))) (by(with_reducible repeat(first|apply Kd.N_alloc|apply Kd.N_drewN|apply Kd.N_drew));exact HO_547000.out) (fun k_ hk_=>(⟨hk_,hk_.2.2.2⟩:_∧k_≠g))) hk (fun _ h=>h.2)) (fun _ h=>h.1))
         have n1_:=qbb.mk (KeepBut.blk hk (g':=gb542) (o:=.cells #[.slice none 0 0,.int .i64 0] 68 (0,0)) (by(with_reducible repeat(first|refine qae ?_ _|refine qaf ?_|refine qad ?_ _));exact BK542.out) NB542_0.out (by simp))
         have n2_:=qbb.mk (KeepBut.blk hk (g':=gb546) (o:=.cells #[.slice Ao49 x547000_1.length co49,.int .i64 t560] 68 (0,0)) (by(with_reducible repeat(first|refine qae ?_ _|refine qaf ?_|refine qad ?_ _));exact BK546.out) NB546_0.out (by simp))
         have n3_:=qbb.mk (KeepBut.trans (by repeat(first|(with_reducible first|exact HK.out|apply KeepBut.set_|apply qar|apply qau|apply qas|refine qaw ?_ GW542.out _|refine qaw ?_ GW546.out _)|exact HK.out)) hk (.inl rfl))
         have n4_:=qbb.mk (hb)
         have n5_:=qbb.mk (hi)
         clear HO_547000
         clear BK542
         clear BK546
         clear HK
         clear HB
         clear HI0
         have HO_547000:=n0_
         have BK542:=n1_
         have BK546:=n2_
         have HK:=n3_
         have HB:=n4_
         have HI0:=n5_
         clear n0_ n1_ n2_ n3_ n4_ n5_
         (try clear hb)
         (try clear hb2)
         (try clear hk)
         (try clear hi)
         refine hK.out _ _ ⟨(qai BK546.out 0).trans rfl,(qai BK546.out 1).trans rfl⟩ (fun hHeld=>?_)
         clear hK K
         refine norm_ (a':=?_) ?_ ?_
         rotate_left
         ·show Act.put _ (some 41) _=_
          simp only[Act.put,List.setIfInBounds_toArray,List.set_cons_zero,List.set_cons_succ,qay,qaz]
          rfl
         refine one_ (i:=4) (N:=some 39) #[true,true,true,true,true,true,true,false,false,false,false] rfl rfl (one_of HT_.out (by kernel_rfl)) (by decide) (fun K hK=>?_)
         refine Kd.R_lit_step (Kd.int .i64) _ 3 ?hg (N:=39) ?hd (xs:=([(-1),wrap64 ((x547000_1.length:Int)+1)]:List Int)) (inner:=[.int .i64 (-1),.int .i64 (wrap64 ((x547000_1.length:Int)+1))]) (ok:=fun _=>True) (okp:=fun _=>True) ?hr ?hp (fun _ hk=>hk) trivial (Below.refl _ _) (Nat.le_refl _) (by simp) ?_;(case hd=>rfl);(case hg=>rfl);(case hr=>first|(go_simp;done)|(go_simp;rfl));(case hp=>exact(Reps.one (show Kd.M (Kd.int .i64) _ _ _ (-1) [.int .i64 (-1)] from rfl) (Reps.one (show Kd.M (Kd.int .i64) _ _ _ (wrap64 ((x547000_1.length:Int)+1)) [.int .i64 (wrap64 ((x547000_1.length:Int)+1))] from rfl) (Reps.none _ _))))
         intro v565 w55 ho56 hb hg_ hnew_
         clear hg_ hnew_
         (first|rw[←Ny564.out] at ho56|(simp only[Int.reduceToNat] at ho56;rw[←Ny564.out] at ho56))
         have n0_:=qbb.mk (Kd.N_elder' (by(with_reducible repeat(first|apply Kd.N_alloc|apply Kd.N_drewN|apply Kd.N_drew));exact HO_547000.out) (Kd.R_base ho56) hb)
         have n1_:=qbb.mk (Kd.R_lower (Kd.R_newM (M:=fun k_=>(w.heap.size≤k_)) ho56 (keep_size (w:=w) (g:=g) (row:=none) (by repeat(first|(with_reducible first|exact HK.out|apply KeepBut.set_|apply qar|apply qau|apply qas|refine qaw ?_ GW542.out _|refine qaw ?_ GW546.out _)|exact HK.out))) (fun k_ h_=>h_)) (keep_size (w:=w) (g:=g) (row:=none) (by repeat(first|(with_reducible first|exact HK.out|apply KeepBut.set_|apply qar|apply qau|apply qas|refine qaw ?_ GW542.out _|refine qaw ?_ GW546.out _)|exact HK.out))))
         have n2_:=qbb.mk (qal (g:=gb542) (o:=.cells #[.slice none 0 0,.int .i64 0] 68 (0,0)) (by(with_reducible repeat(first|refine qae ?_ _|refine qaf ?_|refine qad ?_ _));exact BK542.out) hb)
         have n3_:=qbb.mk (qal (g:=gb546) (o:=.cells #[.slice Ao49 x547000_1.length co49,.int .i64 t560] 68 (0,0)) (by(with_reducible repeat(first|refine qae ?_ _|refine qaf ?_|refine qad ?_ _));exact BK546.out) hb)
         have n4_:=qbb.mk (IsS111.below (by repeat(first|(with_reducible first|exact HI0.out|apply IsS111.alloc|apply IsS111.drewN|apply IsS111.drew|apply IsS111.set_1|refine IsS111.far ?_ NB0_542.out _|refine IsS111.far ?_ NB0_546.out _)|exact HI0.out)) hb)
         have n5_:=qbb.mk (KeepBut.trans (by repeat(first|(with_reducible first|exact HK.out|apply KeepBut.set_|apply qar|apply qau|apply qas|refine qaw ?_ GW542.out _|refine qaw ?_ GW546.out _)|exact HK.out)) (KeepBut.of_below hb g none) (.inl rfl))
         have n6_:=qbb.mk (qak (by repeat(first|(with_reducible first|exact HB.out|apply qac|apply qaa|apply qab|refine qag ?_ (IsS111.ge HI0.out)|refine qag ?_ GE542.out|refine qag ?_ GE546.out)|exact HB.out)) hb)
         clear HO_547000
         clear BK542
         clear BK546
         clear HI0
         clear HK
         clear HB
         have HO_547000:=n0_
         have HO566:=n1_
         have BK542:=n2_
         have BK546:=n3_
         have HI0:=n4_
         have HK:=n5_
         have HB:=n6_
         clear n0_ n1_ n2_ n3_ n4_ n5_ n6_
         clear hb ho56
         obtain⟨Ao57,co57,eo57⟩:=Kd.R_slice HO566.out
         subst eo57
         obtain⟨ado57,fo57,_⟩:=Kd.at_int (Kd.R_reads' HO566.out).2.2 0 (by decide) (by rw[Ny564.out];simp)
         cases fo57
         refine hK.out _ _ ⟨(qai BK546.out 0).trans rfl,(qai BK546.out 1).trans rfl⟩ (fun hHeld=>?_)
         clear hK K
         refine norm_ (a':=?_) ?_ ?_
         rotate_left
         ·show Act.put _ (some 39) _=_
          simp only[Act.put,List.setIfInBounds_toArray,List.set_cons_zero,List.set_cons_succ,qay,qaz]
          rfl
         exact norm_ (by simp only[putAll,Act.put,List.setIfInBounds_toArray,List.set_cons_zero,List.set_cons_succ]) (hCont (.slice (some ado57) y564.length co57,ado57) _ ⟨hHeld,(by(with_reducible repeat(first|apply Kd.R_alloc|apply Kd.R_drewN|apply Kd.R_drew));exact Kd.R_mono HO566.out (fun _ hk=>hk.1)),(by(with_reducible repeat(first|apply Kd.N_alloc|apply Kd.N_drewN|apply Kd.N_drew));exact Kd.N_mono HO_547000.out (fun _ hk=>⟨hk.1.1,⟨hk.2,⟨hk.1.2.2.2,⟨hk.1.2.1,hk.1.2.2.1⟩⟩⟩⟩)),⟨_,rfl⟩,(by(with_reducible repeat(first|refine qae ?_ _|refine qaf ?_|refine qad ?_ _));exact BK542.out),(by(with_reducible repeat(first|refine qae ?_ _|refine qaf ?_|refine qad ?_ _));exact BK546.out),(by repeat(first|(with_reducible first|exact HI0.out|apply IsS111.alloc|apply IsS111.drewN|apply IsS111.drew|apply IsS111.set_1|refine IsS111.far ?_ NB0_542.out _|refine IsS111.far ?_ NB0_546.out _)|exact HI0.out)),(by repeat(first|(with_reducible first|exact HK.out|apply KeepBut.set_|apply qar|apply qau|apply qas|refine qaw ?_ GW542.out _|refine qaw ?_ GW546.out _)|exact HK.out)),(by repeat(first|(with_reducible first|exact HB.out|apply qac|apply qaa|apply qab|refine qag ?_ (IsS111.ge HI0.out)|refine qag ?_ GE542.out|refine qag ?_ GE546.out)|exact HB.out))⟩)
       rintro⟨v565,adz_v565⟩ w58 ⟨hS_,h0_,h1_,h2_,h3_,h4_,h5_,h6_,h7_⟩
       have n0_:qbb (Kd.R (Kd.int .i64) 3 w58 w.heap.size (fun k_=>(w.heap.size≤k_)) v565 y564):=⟨h0_⟩
       have n1_:qbb (Kd.N k45 45 w58 w.heap.size (fun k_=>(w.heap.size≤k_)∧some k_≠(v565:Value).ownBlock∧k_≠g∧k_≠gb542∧k_≠gb546) (.slice Ao49 x547000_1.length co49) x547000_1):=⟨h1_⟩
       have n2_:qbb (∃c_,(v565:Value)=.slice (some adz_v565) y564.length c_):=⟨h2_⟩
       have n3_:qbb (w58.heap[gb542]?=some (.cells #[.slice none 0 0,.int .i64 0] 68 (0,0))):=⟨h3_⟩
       have n4_:qbb (w58.heap[gb546]?=some (.cells #[.slice Ao49 x547000_1.length co49,.int .i64 t560] 68 (0,0))):=⟨h4_⟩
       have n5_:qbb (IsS111 w0 w58 g s0_0 t568):=⟨h5_⟩
       have n6_:qbb (KeepBut w w58 g none):=⟨h6_⟩
       have n7_:qbb (Below w0.heap.size w0 w58):=⟨h7_⟩
       clear HO_547000
       clear BK542
       clear BK546
       clear HI0
       clear HK
       clear HB
       clear h0_ h1_ h2_ h3_ h4_ h5_ h6_ h7_
       have HO566:=n0_
       have HO_547000:=n1_
       have HA_HO566:=n2_
       have BK542:=n3_
       have BK546:=n4_
       have HI0:=n5_
       have HK:=n6_
       have HB:=n7_
       clear n0_ n1_ n2_ n3_ n4_ n5_ n6_ n7_
       have hHeld:w58.cell? ⟨gb546,0,none⟩=some (.slice Ao49 x547000_1.length co49)∧w58.cell? ⟨gb546,1,none⟩=some (.int .i64 t560):=hS_
       obtain⟨co59,eo59⟩:=HA_HO566.out
       clear HA_HO566
       subst eo59
       refine norm_ (a':=?_) ?_ ?_
       rotate_left
       ·simp only[putAll,Act.put,List.setIfInBounds_toArray,List.set_cons_zero,List.set_cons_succ]
        rfl
       refine qbd (i:=7) (N:=some 42) (v:=?_) (a':=?_) #[true,true,true,true,true,true,true,true,false,false,false] rfl rfl (qba HT_.out (by kernel_rfl)) (fun _ _ _ h=>h) (Or.inl ⟨by rfl,?_⟩) ?_ ?_
       rotate_left
       ·intro w'
        go_simp
        with_reducible rfl
       rotate_left
       ·simp only[Act.put,List.setIfInBounds_toArray,List.set_cons_zero,List.set_cons_succ,qay,qaz]
        rfl
       refine one_ (i:=8) (N:=some 43) #[true,true,true,true,true,true,true,true,true,false,false] rfl rfl (one_of HT_.out (by kernel_rfl)) (by decide) (fun K hK=>?_)
       (have p569:0≤(t567:Int):=of_decide_eq_true (by first|(with_reducible assumption)|assumption);have q569:t567<(y564.length:Int):=of_decide_eq_true (by first|(with_reducible assumption)|assumption);obtain⟨ad569,e569,hx569_0⟩:=Kd.at_int (Kd.R_reads' HO566.out).2.2 t567 p569 q569;obtain rfl:adz_v565=ad569:=(by injection e569))
       refine value_ (w1:=?_) (v:=?_) (by rfl) rfl ?_ ?_
       rotate_left 2
       ·go_simp
        constructor
        ·rfl
        ·rfl
       clear hx569_0
       refine hK.out _ _ ⟨(qai BK546.out 0).trans rfl,(qai BK546.out 1).trans rfl⟩ (fun hHeld=>?_)
       clear hK K
       refine norm_ (a':=?_) ?_ ?_
       rotate_left
       ·show Act.put _ (some 43) _=_
        simp only[Act.put,List.setIfInBounds_toArray,List.set_cons_zero,List.set_cons_succ,qay,qaz]
        rfl
       refine qbd (i:=9) (N:=some 44) (v:=?_) (a':=?_) #[true,true,true,true,true,true,true,true,true,true,false] rfl rfl (qba HT_.out (by kernel_rfl)) (fun _ _ _ h=>h) (Or.inl ⟨by rfl,?_⟩) ?_ ?_
       rotate_left
       ·intro w'
        go_simp
        with_reducible rfl
       rotate_left
       ·simp only[Act.put,List.setIfInBounds_toArray,List.set_cons_zero,List.set_cons_succ,qay,qaz]
        rfl
       refine last_ (i:=10) (N:=none) #[true,true,true,true,true,true,true,true,true,true,true] rfl rfl (one_of HT_.out (by kernel_rfl)) (by decide) (fun K hK=>?_)
       have hs60:w58.cell? ⟨gb546,1,none⟩=some (.int .i64 t560):=(qai BK546.out 1).trans rfl
       have hfs60:=qah BK546.out 1
       have hns60_0:=NB542_546.out
       have hms60_0:=NB546_542.out
       refine skip_ (w1:=?_) (by rfl) rfl ?_ ?_
       rotate_left
       ·go_simp
        rfl
       refine hK.out _ _ ?_
       clear hK K
       refine done_ (done_of HT_.out (by kernel_rfl)) ?_
       have hcz61_0:w58.cell? ⟨gb546,0,none⟩=some (.slice Ao49 x547000_1.length co49):=(qai BK546.out 0).trans rfl
       have hcz61_1:w58.cell? ⟨gb546,1,none⟩=some (.int .i64 t560):=(qai BK546.out 1).trans rfl
       have hfz61_0:=qah BK546.out 0
       have hfz61_1:=qah BK546.out 1
       have hnb62:=NB542_0.out
       have hnc62:=NB0_542.out
       have hcz63_0:w58.cell? ⟨gb542,0,none⟩=some (.slice none 0 0):=(qai BK542.out 0).trans rfl
       have hcz63_1:w58.cell? ⟨gb542,1,none⟩=some (.int .i64 0):=(qai BK542.out 1).trans rfl
       have hfz63_0:=qah BK542.out 0
       have hfz63_1:=qah BK542.out 1
       try go_wp2
       refine bodyPost_ret (results_cell_row rfl _ _ gb542 68 #[.slice Ao49 x547000_1.length co49,.int .i64 (rd y564 t567)] (0,0) _ rfl (by(with_reducible repeat(first|refine qae ?_ _|refine qaf ?_|refine qad ?_ _));refine qaq (cs:=#[.slice Ao49 x547000_1.length co49,.int .i64 0]) ?_ 1 _ rfl;(with_reducible repeat(first|refine qae ?_ _|refine qaf ?_|refine qad ?_ _));refine qaq (cs:=#[.slice none 0 0,.int .i64 0]) ?_ 0 _ rfl;(with_reducible repeat(first|refine qae ?_ _|refine qaf ?_|refine qad ?_ _));refine qap ?_ NB542_546.out _;(with_reducible repeat(first|refine qae ?_ _|refine qaf ?_|refine qad ?_ _));exact BK542.out) Try.underlying68 rfl (by kernel_rfl)) rfl ?_
       exact⟨_,by first|rfl|(simp[qan,qam]<;>rfl)|(simp[*,qan,qam]<;>rfl),by(with_reducible repeat(first|apply Kd.N_alloc|apply Kd.N_drewN|apply Kd.N_drew));exact Kd.N_mono (Kd.N_far (p:=⟨gb542,1,none⟩) (Kd.N_far (p:=⟨gb542,0,none⟩) (Kd.N_far (p:=⟨gb546,1,none⟩) (Kd.N_mono (Kd.N_mono HO_547000.out (fun k_ hk=>(⟨hk,hk.2.2.2.2⟩:_∧k_≠gb546))) (fun k_ hk=>(⟨hk,hk.1.2.2.2.1⟩:_∧k_≠gb542))) (fun _ hk=>hk.1.2) (.int .i64 (rd y564 t567))) (fun _ hk=>hk.2) (.slice Ao49 x547000_1.length co49)) (fun _ hk=>hk.2) (.int .i64 (rd y564 t567))) (fun _ hk=>hk.1.1.1),by repeat(first|(with_reducible first|exact HI0.out|apply IsS111.alloc|apply IsS111.drewN|apply IsS111.drew|apply IsS111.set_1|refine IsS111.far ?_ NB0_542.out _|refine IsS111.far ?_ NB0_546.out _)|exact HI0.out),by repeat(first|(with_reducible first|exact HB.out|apply qac|apply qaa|apply qab|refine qag ?_ (IsS111.ge HI0.out)|refine qag ?_ GE542.out|refine qag ?_ GE546.out)|exact HB.out),by repeat(first|(with_reducible first|exact HK.out|apply KeepBut.set_|apply qar|apply qau|apply qas|refine qaw ?_ GW542.out _|refine qaw ?_ GW546.out _)|exact HK.out)⟩
      ·rw[if_neg c45] at H
       exact absurd H (by simp)
     ·rw[if_neg c44] at H
      exact absurd H (by simp)
    ·rw[if_neg c42] at H
     have c42b0:(t562 == 0)=false:=beq_eq_false_iff_ne.mpr c42
     have c42b1:(t562 != 0)=true:=bne_iff_ne.mpr c42
     by_cases c64:t562=1
     ·rw[if_pos c64] at H
      have c64b0:(t562 == 1)=true:=beq_iff_eq.mpr c64
      have c64b1:(t562 != 1)=false:=bne_eq_false_iff_eq.mpr c64
      clear c64
      by_cases c65:x547000_1.length<3518437208883
      ·rw[if_pos c65] at H
       have LMc65:=qbb.mk c65
       clear c65
       obtain⟨y570,hy570⟩:∃y_:List (S45),y_=(x547000_1++[(⟨9,0,([]:List Int)⟩:S45)]):=⟨_,rfl⟩
       replace H:(some (y570,t560,t563))=some (r1,r2,r3):=by first|(rw[hy570];with_reducible exact H)|(have H2_:=(Option.bind_some _ _).symm.trans H;rw[hy570];with_reducible exact H2_)|(have H2_:=(Option.bind_some _ _).symm.trans H;with_reducible exact H2_)|with_reducible exact H|(rw[hy570];exact H)|exact H
       have Ny570:=qbb.mk hy570
       clear hy570
       simp only[Option.some.injEq,Prod.mk.injEq] at H
       obtain⟨rfl,rfl,rfl⟩:=H
       have hnb66:=NB546_542.out
       have hnc66:=NB542_546.out
       have hnb67:=NB546_0.out
       have hnc67:=NB0_546.out
       have hcz68_0:wr.cell? ⟨gb546,0,none⟩=some (u547000):=(qai BK546.out 0).trans rfl
       have hcz68_1:wr.cell? ⟨gb546,1,none⟩=some (.int .i64 0):=(qai BK546.out 1).trans rfl
       have hfz68_0:=qah BK546.out 0
       have hfz68_1:=qah BK546.out 1
       obtain⟨Ao69,co69,eo69⟩:=Kd.N_slice HO_547000.out
       subst eo69
       go_wp2_with(first|((with_reducible refine qao (f:=53) rfl ?_);refine qax (some 29) rfl rfl Try.func53 (by kernel_rfl) rfl #[.pointer (some ⟨g,0,none⟩),.int .i64 (wrap64 ((x547000_1.length:Int)+1))] rfl (by(try simp only[List.map_toArray,List.map_cons,List.map_nil]);first|done|rfl|(simp only[List.length_drop,List.length_take];rfl)) ?_;(with_reducible refine(spec_l6Rd_pick.calls k1 g s0_0 x1001_1 (wrap64 ((x547000_1.length:Int)+1)) t560 t561 w0 _ ?side1 ?side2 A40.out).mono ?_);(case side1=>repeat(first|(with_reducible first|exact HI0.out|apply IsS111.alloc|apply IsS111.drewN|apply IsS111.drew|apply IsS111.set_1|refine IsS111.far ?_ NB0_542.out _|refine IsS111.far ?_ NB0_546.out _)|exact HI0.out));(case side2=>repeat(first|(with_reducible first|exact HB.out|apply qac|apply qaa|apply qab|refine qag ?_ (IsS111.ge HI0.out)|refine qag ?_ GE542.out|refine qag ?_ GE546.out)|exact HB.out));rintro e w70 ⟨rfl,hi,hb,hk⟩;refine⟨_,rfl,?_⟩;have n0_:=qbb.mk (Kd.N_mono (Kd.N_keep (Kd.N_mono (ok:=fun k_=>(((w.heap.size≤k_))∧(k_≠gb542∧(k_≠gb546∧k_≠g)))) (by(with_reducible repeat(first|apply Kd.N_alloc|apply Kd.N_drewN|apply Kd.N_drew));exact HO_547000.out) (fun k_ hk_=>(⟨hk_,hk_.2.2.2⟩:_∧k_≠g))) hk (fun _ h=>h.2)) (fun _ h=>h.1));have n1_:=qbb.mk (KeepBut.blk hk (g':=gb542) (o:=.cells #[.slice none 0 0,.int .i64 0] 68 (0,0)) (by(with_reducible repeat(first|refine qae ?_ _|refine qaf ?_|refine qad ?_ _));exact BK542.out) NB542_0.out (by simp));have n2_:=qbb.mk (KeepBut.blk hk (g':=gb546) (o:=.cells #[.slice Ao69 x547000_1.length co69,.int .i64 0] 68 (0,0)) (by(with_reducible repeat(first|refine qae ?_ _|refine qaf ?_|refine qad ?_ _));exact BK546.out) NB546_0.out (by simp));have n3_:=qbb.mk (KeepBut.trans (by repeat(first|(with_reducible first|exact HK.out|apply KeepBut.set_|apply qar|apply qau|apply qas|refine qaw ?_ GW542.out _|refine qaw ?_ GW546.out _)|exact HK.out)) hk (.inl rfl));have n4_:=qbb.mk (hb);have n5_:=qbb.mk (hi);clear HO_547000;clear BK542;clear BK546;clear HK;clear HB;clear HI0;have HO_547000:=n0_;have BK542:=n1_;have BK546:=n2_;have HK:=n3_;have HB:=n4_;have HI0:=n5_;clear n0_ n1_ n2_ n3_ n4_ n5_;(try clear hb);(try clear hb2);(try clear hk);(try clear hi);have hcz71_0:w70.cell? ⟨gb546,0,none⟩=some (.slice Ao69 x547000_1.length co69):=(qai BK546.out 0).trans rfl;have hcz71_1:w70.cell? ⟨gb546,1,none⟩=some (.int .i64 0):=(qai BK546.out 1).trans rfl;have hfz71_0:=qah BK546.out 0;have hfz71_1:=qah BK546.out 1)|((with_reducible refine qao (f:=53) rfl ?_);refine qax (some 32) rfl rfl Try.func53 (by kernel_rfl) rfl #[.pointer (some ⟨g,0,none⟩),.int .i64 20] rfl (by(try simp only[List.map_toArray,List.map_cons,List.map_nil]);first|done|rfl|(simp only[List.length_drop,List.length_take];rfl)) ?_;(with_reducible refine(spec_l6Rd_pick.calls k1 g s0_0 t561 20 t562 t563 w0 _ ?side1 ?side2 A41.out).mono ?_);(case side1=>repeat(first|(with_reducible first|exact HI0.out|apply IsS111.alloc|apply IsS111.drewN|apply IsS111.drew|apply IsS111.set_1|refine IsS111.far ?_ NB0_542.out _|refine IsS111.far ?_ NB0_546.out _)|exact HI0.out));(case side2=>repeat(first|(with_reducible first|exact HB.out|apply qac|apply qaa|apply qab|refine qag ?_ (IsS111.ge HI0.out)|refine qag ?_ GE542.out|refine qag ?_ GE546.out)|exact HB.out));rintro e w72 ⟨rfl,hi,hb,hk⟩;refine⟨_,rfl,?_⟩;have n0_:=qbb.mk (Kd.N_mono (Kd.N_keep (Kd.N_mono (ok:=fun k_=>(((w.heap.size≤k_))∧(k_≠gb542∧(k_≠gb546∧k_≠g)))) (by(with_reducible repeat(first|apply Kd.N_alloc|apply Kd.N_drewN|apply Kd.N_drew));exact(Kd.N_mono (Kd.N_far (p:=⟨gb546,1,none⟩) (Kd.N_mono HO_547000.out (fun k_ hk=>(⟨hk,hk.2.2.1⟩:_∧k_≠gb546))) (fun _ hk=>hk.2) (.int .i64 t560)) (fun _ h_=>h_.1))) (fun k_ hk_=>(⟨hk_,hk_.2.2.2⟩:_∧k_≠g))) hk (fun _ h=>h.2)) (fun _ h=>h.1));have n1_:=qbb.mk (KeepBut.blk hk (g':=gb542) (o:=.cells #[.slice none 0 0,.int .i64 0] 68 (0,0)) (by(with_reducible repeat(first|refine qae ?_ _|refine qaf ?_|refine qad ?_ _));refine qap ?_ NB542_546.out _;(with_reducible repeat(first|refine qae ?_ _|refine qaf ?_|refine qad ?_ _));exact BK542.out) NB542_0.out (by simp));have n2_:=qbb.mk (KeepBut.blk hk (g':=gb546) (o:=.cells #[.slice Ao69 x547000_1.length co69,.int .i64 t560] 68 (0,0)) (by(with_reducible repeat(first|refine qae ?_ _|refine qaf ?_|refine qad ?_ _));refine qaq (cs:=#[.slice Ao69 x547000_1.length co69,.int .i64 0]) ?_ 1 _ rfl;(with_reducible repeat(first|refine qae ?_ _|refine qaf ?_|refine qad ?_ _));exact BK546.out) NB546_0.out (by simp));have n3_:=qbb.mk (KeepBut.trans (by repeat(first|(with_reducible first|exact HK.out|apply KeepBut.set_|apply qar|apply qau|apply qas|refine qaw ?_ GW542.out _|refine qaw ?_ GW546.out _)|exact HK.out)) hk (.inl rfl));have n4_:=qbb.mk (hb);have n5_:=qbb.mk (hi);clear HO_547000;clear BK542;clear BK546;clear HK;clear HB;clear HI0;have HO_547000:=n0_;have BK542:=n1_;have BK546:=n2_;have HK:=n3_;have HB:=n4_;have HI0:=n5_;clear n0_ n1_ n2_ n3_ n4_ n5_;(try clear hb);(try clear hb2);(try clear hk);(try clear hi);have hcz73_0:w72.cell? ⟨gb546,0,none⟩=some (.slice Ao69 x547000_1.length co69):=(qai BK546.out 0).trans rfl;have hcz73_1:w72.cell? ⟨gb546,1,none⟩=some (.int .i64 t560):=(qai BK546.out 1).trans rfl;have hfz73_0:=qah BK546.out 0;have hfz73_1:=qah BK546.out 1)|((with_reducible refine gate_builtin (b:=.append) (xs:=#[.tmp 48,.tmp 50]) rfl ?_);at_builtin;refine Kd.N_append k45 w.heap.size rfl (.tmp 48) (.tmp 50) 66 45 (.agg #[(.int .i64 0),(.int .i64 0),(.slice none 0 0)]) 40 rfl Try.underlying66 info45 rfl (by decide) (by omega) (.slice Ao69 x547000_1.length co69) x547000_1 (⟨9,0,([]:List Int)⟩:S45) [.int .i64 9,.int .i64 0,.slice none 0 0] (fun k_=>(w.heap.size≤k_)∧k_≠gb542∧k_≠gb546∧k_≠g) (fun k_=>((fun k_=>(w.heap.size≤k_)∧k_≠gb542∧k_≠gb546∧k_≠g)) k_∧some k_≠(.slice Ao69 x547000_1.length co69:Value).ownBlock) rfl rfl ?aP (fun _ hk=>hk) ?aF ?aO (Below.refl _ _) ?aS ?aL ?_;(case aP=>exact(k45_mkF _ _ (⟨9,0,([]:List Int)⟩:S45) (Nat.le_refl _) (Kd.F_nil _ _ _)));(case aF=>exact(fun k_ hk=>⟨(Nat.le_trans (keep_size (w:=w) (g:=g) (row:=none) (by repeat(first|(with_reducible first|exact HK.out|apply KeepBut.set_|apply qar|apply qau|apply qas|refine qaw ?_ GW542.out _|refine qaw ?_ GW546.out _)|exact HK.out))) hk),Kd.freshB (g:=gb542) (o:=.cells #[.slice none 0 0,.int .i64 0] 68 (0,0)) (by(with_reducible repeat(first|refine qae ?_ _|refine qaf ?_|refine qad ?_ _));exact BK542.out) k_ hk,Kd.freshB (g:=gb546) (o:=.cells #[.slice Ao69 x547000_1.length co69,.int .i64 t560] 68 (0,0)) (by(with_reducible repeat(first|refine qae ?_ _|refine qaf ?_|refine qad ?_ _));exact BK546.out) k_ hk,IsS111.fresh (by repeat(first|(with_reducible first|exact HI0.out|apply IsS111.alloc|apply IsS111.drewN|apply IsS111.drew|apply IsS111.set_1|refine IsS111.far ?_ NB0_542.out _|refine IsS111.far ?_ NB0_546.out _)|exact HI0.out)) k_ hk⟩));(case aO=>exact(by(with_reducible repeat(first|apply Kd.N_alloc|apply Kd.N_drewN|apply Kd.N_drew));exact HO_547000.out));(case aS=>exact(keep_size (w:=w) (g:=g) (row:=none) (by repeat(first|(with_reducible first|exact HK.out|apply KeepBut.set_|apply qar|apply qau|apply qas|refine qaw ?_ GW542.out _|refine qaw ?_ GW546.out _)|exact HK.out))));(case aL=>have:=LMc65.out;omega);intro v571 w74 ho hb hg hat;rw[←Ny570.out] at ho;have n0_:=qbb.mk (blk_grown (g:=gb542) (o:=.cells #[.slice none 0 0,.int .i64 0] 68 (0,0)) (by(with_reducible repeat(first|refine qae ?_ _|refine qaf ?_|refine qad ?_ _));exact BK542.out) hg (Kd.N_ne HO_547000.out BK542.out (by decide)));have n1_:=qbb.mk (blk_grown (g:=gb546) (o:=.cells #[.slice Ao69 x547000_1.length co69,.int .i64 t560] 68 (0,0)) (by(with_reducible repeat(first|refine qae ?_ _|refine qaf ?_|refine qad ?_ _));exact BK546.out) hg (Kd.N_ne HO_547000.out BK546.out (by decide)));have n2_:=qbb.mk (IsS111.grown (by repeat(first|(with_reducible first|exact HI0.out|apply IsS111.alloc|apply IsS111.drewN|apply IsS111.drew|apply IsS111.set_1|refine IsS111.far ?_ NB0_542.out _|refine IsS111.far ?_ NB0_546.out _)|exact HI0.out)) hg (IsS111.own_neN HI0.out HO_547000.out (by decide)));have n3_:=qbb.mk (below_weaken (by repeat(first|(with_reducible first|exact HB.out|apply qac|apply qaa|apply qab|refine qag ?_ (IsS111.ge HI0.out)|refine qag ?_ GE542.out|refine qag ?_ GE546.out)|exact HB.out)) HL.out hb);have n4_:=qbb.mk (KeepBut.trans (by repeat(first|(with_reducible first|exact HK.out|apply KeepBut.set_|apply qar|apply qau|apply qas|refine qaw ?_ GW542.out _|refine qaw ?_ GW546.out _)|exact HK.out)) (KeepBut.of_grown hg g) (Kd.N_base2 HO_547000.out));have n5_:=qbb.mk (ho);clear BK542;clear BK546;clear HI0;clear HB;clear HK;clear HO_547000;have BK542:=n0_;have BK546:=n1_;have HI0:=n2_;have HB:=n3_;have HK:=n4_;have HO572:=n5_;clear n0_ n1_ n2_ n3_ n4_ n5_;clear ho hb hg hat;obtain⟨Ao75,co75,eo75⟩:=Kd.N_slice HO572.out;subst eo75;have hcz76_0:w74.cell? ⟨gb546,0,none⟩=some (.slice Ao69 x547000_1.length co69):=(qai BK546.out 0).trans rfl;have hcz76_1:w74.cell? ⟨gb546,1,none⟩=some (.int .i64 t560):=(qai BK546.out 1).trans rfl;have hfz76_0:=qah BK546.out 0;have hfz76_1:=qah BK546.out 1;have hnb77:=NB542_0.out;have hnc77:=NB0_542.out;have hcz78_0:w74.cell? ⟨gb542,0,none⟩=some (.slice none 0 0):=(qai BK542.out 0).trans rfl;have hcz78_1:w74.cell? ⟨gb542,1,none⟩=some (.int .i64 0):=(qai BK542.out 1).trans rfl;have hfz78_0:=qah BK542.out 0;have hfz78_1:=qah BK542.out 1))
       refine bodyPost_ret (results_cell_row rfl _ _ gb542 68 #[.slice Ao75 y570.length co75,.int .i64 t560] (0,0) _ rfl (by(with_reducible repeat(first|refine qae ?_ _|refine qaf ?_|refine qad ?_ _));refine qaq (cs:=#[.slice Ao75 y570.length co75,.int .i64 0]) ?_ 1 _ rfl;(with_reducible repeat(first|refine qae ?_ _|refine qaf ?_|refine qad ?_ _));refine qaq (cs:=#[.slice none 0 0,.int .i64 0]) ?_ 0 _ rfl;(with_reducible repeat(first|refine qae ?_ _|refine qaf ?_|refine qad ?_ _));refine qap ?_ NB542_546.out _;(with_reducible repeat(first|refine qae ?_ _|refine qaf ?_|refine qad ?_ _));exact BK542.out) Try.underlying68 rfl (by kernel_rfl)) rfl ?_
       exact⟨_,by first|rfl|(simp[qan,qam]<;>rfl)|(simp[*,qan,qam]<;>rfl),by(with_reducible repeat(first|apply Kd.N_alloc|apply Kd.N_drewN|apply Kd.N_drew));exact Kd.N_mono (Kd.N_far (p:=⟨gb542,1,none⟩) (Kd.N_far (p:=⟨gb542,0,none⟩) (Kd.N_far (p:=⟨gb546,0,none⟩) (Kd.N_mono (Kd.N_mono HO572.out (fun k_ hk=>(⟨hk,hk.2.2.1⟩:_∧k_≠gb546))) (fun k_ hk=>(⟨hk,hk.1.2.1⟩:_∧k_≠gb542))) (fun _ hk=>hk.1.2) (.slice Ao75 y570.length co75)) (fun _ hk=>hk.2) (.slice Ao75 y570.length co75)) (fun _ hk=>hk.2) (.int .i64 t560)) (fun _ hk=>hk.1.1.1),by repeat(first|(with_reducible first|exact HI0.out|apply IsS111.alloc|apply IsS111.drewN|apply IsS111.drew|apply IsS111.set_1|refine IsS111.far ?_ NB0_542.out _|refine IsS111.far ?_ NB0_546.out _)|exact HI0.out),by repeat(first|(with_reducible first|exact HB.out|apply qac|apply qaa|apply qab|refine qag ?_ (IsS111.ge HI0.out)|refine qag ?_ GE542.out|refine qag ?_ GE546.out)|exact HB.out),by repeat(first|(with_reducible first|exact HK.out|apply KeepBut.set_|apply qar|apply qau|apply qas|refine qaw ?_ GW542.out _|refine qaw ?_ GW546.out _)|exact HK.out)⟩
      ·rw[if_neg c65] at H
       exact absurd H (by simp)
     ·rw[if_neg c64] at H
      have c64b0:(t562 == 1)=false:=beq_eq_false_iff_ne.mpr c64
      have c64b1:(t562 != 1)=true:=bne_iff_ne.mpr c64
      by_cases c79:t562=2
      ·rw[if_pos c79] at H
       have c79b0:(t562 == 2)=true:=beq_iff_eq.mpr c79
       have c79b1:(t562 != 2)=false:=bne_eq_false_iff_eq.mpr c79
       clear c79
       have H':=qbb.mk H
       clear H
       have hnb80:=NB546_542.out
       have hnc80:=NB542_546.out
       have hnb81:=NB546_0.out
       have hnc81:=NB0_546.out
       have hcz82_0:wr.cell? ⟨gb546,0,none⟩=some (u547000):=(qai BK546.out 0).trans rfl
       have hcz82_1:wr.cell? ⟨gb546,1,none⟩=some (.int .i64 0):=(qai BK546.out 1).trans rfl
       have hfz82_0:=qah BK546.out 0
       have hfz82_1:=qah BK546.out 1
       obtain⟨Ao83,co83,eo83⟩:=Kd.N_slice HO_547000.out
       subst eo83
       go_wp2_with(first|((with_reducible refine qao (f:=53) rfl ?_);refine qax (some 29) rfl rfl Try.func53 (by kernel_rfl) rfl #[.pointer (some ⟨g,0,none⟩),.int .i64 (wrap64 ((x547000_1.length:Int)+1))] rfl (by(try simp only[List.map_toArray,List.map_cons,List.map_nil]);first|done|rfl|(simp only[List.length_drop,List.length_take];rfl)) ?_;(with_reducible refine(spec_l6Rd_pick.calls k1 g s0_0 x1001_1 (wrap64 ((x547000_1.length:Int)+1)) t560 t561 w0 _ ?side1 ?side2 A40.out).mono ?_);(case side1=>repeat(first|(with_reducible first|exact HI0.out|apply IsS111.alloc|apply IsS111.drewN|apply IsS111.drew|apply IsS111.set_1|refine IsS111.far ?_ NB0_542.out _|refine IsS111.far ?_ NB0_546.out _)|exact HI0.out));(case side2=>repeat(first|(with_reducible first|exact HB.out|apply qac|apply qaa|apply qab|refine qag ?_ (IsS111.ge HI0.out)|refine qag ?_ GE542.out|refine qag ?_ GE546.out)|exact HB.out));rintro e w84 ⟨rfl,hi,hb,hk⟩;refine⟨_,rfl,?_⟩;have n0_:=qbb.mk (Kd.N_mono (Kd.N_keep (Kd.N_mono (ok:=fun k_=>(((w.heap.size≤k_))∧(k_≠gb542∧(k_≠gb546∧k_≠g)))) (by(with_reducible repeat(first|apply Kd.N_alloc|apply Kd.N_drewN|apply Kd.N_drew));exact HO_547000.out) (fun k_ hk_=>(⟨hk_,hk_.2.2.2⟩:_∧k_≠g))) hk (fun _ h=>h.2)) (fun _ h=>h.1));have n1_:=qbb.mk (KeepBut.blk hk (g':=gb542) (o:=.cells #[.slice none 0 0,.int .i64 0] 68 (0,0)) (by(with_reducible repeat(first|refine qae ?_ _|refine qaf ?_|refine qad ?_ _));exact BK542.out) NB542_0.out (by simp));have n2_:=qbb.mk (KeepBut.blk hk (g':=gb546) (o:=.cells #[.slice Ao83 x547000_1.length co83,.int .i64 0] 68 (0,0)) (by(with_reducible repeat(first|refine qae ?_ _|refine qaf ?_|refine qad ?_ _));exact BK546.out) NB546_0.out (by simp));have n3_:=qbb.mk (KeepBut.trans (by repeat(first|(with_reducible first|exact HK.out|apply KeepBut.set_|apply qar|apply qau|apply qas|refine qaw ?_ GW542.out _|refine qaw ?_ GW546.out _)|exact HK.out)) hk (.inl rfl));have n4_:=qbb.mk (hb);have n5_:=qbb.mk (hi);clear HO_547000;clear BK542;clear BK546;clear HK;clear HB;clear HI0;have HO_547000:=n0_;have BK542:=n1_;have BK546:=n2_;have HK:=n3_;have HB:=n4_;have HI0:=n5_;clear n0_ n1_ n2_ n3_ n4_ n5_;(try clear hb);(try clear hb2);(try clear hk);(try clear hi);have hcz85_0:w84.cell? ⟨gb546,0,none⟩=some (.slice Ao83 x547000_1.length co83):=(qai BK546.out 0).trans rfl;have hcz85_1:w84.cell? ⟨gb546,1,none⟩=some (.int .i64 0):=(qai BK546.out 1).trans rfl;have hfz85_0:=qah BK546.out 0;have hfz85_1:=qah BK546.out 1)|((with_reducible refine qao (f:=53) rfl ?_);refine qax (some 32) rfl rfl Try.func53 (by kernel_rfl) rfl #[.pointer (some ⟨g,0,none⟩),.int .i64 20] rfl (by(try simp only[List.map_toArray,List.map_cons,List.map_nil]);first|done|rfl|(simp only[List.length_drop,List.length_take];rfl)) ?_;(with_reducible refine(spec_l6Rd_pick.calls k1 g s0_0 t561 20 t562 t563 w0 _ ?side1 ?side2 A41.out).mono ?_);(case side1=>repeat(first|(with_reducible first|exact HI0.out|apply IsS111.alloc|apply IsS111.drewN|apply IsS111.drew|apply IsS111.set_1|refine IsS111.far ?_ NB0_542.out _|refine IsS111.far ?_ NB0_546.out _)|exact HI0.out));(case side2=>repeat(first|(with_reducible first|exact HB.out|apply qac|apply qaa|apply qab|refine qag ?_ (IsS111.ge HI0.out)|refine qag ?_ GE542.out|refine qag ?_ GE546.out)|exact HB.out));rintro e w86 ⟨rfl,hi,hb,hk⟩;refine⟨_,rfl,?_⟩;have n0_:=qbb.mk (Kd.N_mono (Kd.N_keep (Kd.N_mono (ok:=fun k_=>(((w.heap.size≤k_))∧(k_≠gb542∧(k_≠gb546∧k_≠g)))) (by(with_reducible repeat(first|apply Kd.N_alloc|apply Kd.N_drewN|apply Kd.N_drew));exact(Kd.N_mono (Kd.N_far (p:=⟨gb546,1,none⟩) (Kd.N_mono HO_547000.out (fun k_ hk=>(⟨hk,hk.2.2.1⟩:_∧k_≠gb546))) (fun _ hk=>hk.2) (.int .i64 t560)) (fun _ h_=>h_.1))) (fun k_ hk_=>(⟨hk_,hk_.2.2.2⟩:_∧k_≠g))) hk (fun _ h=>h.2)) (fun _ h=>h.1));have n1_:=qbb.mk (KeepBut.blk hk (g':=gb542) (o:=.cells #[.slice none 0 0,.int .i64 0] 68 (0,0)) (by(with_reducible repeat(first|refine qae ?_ _|refine qaf ?_|refine qad ?_ _));refine qap ?_ NB542_546.out _;(with_reducible repeat(first|refine qae ?_ _|refine qaf ?_|refine qad ?_ _));exact BK542.out) NB542_0.out (by simp));have n2_:=qbb.mk (KeepBut.blk hk (g':=gb546) (o:=.cells #[.slice Ao83 x547000_1.length co83,.int .i64 t560] 68 (0,0)) (by(with_reducible repeat(first|refine qae ?_ _|refine qaf ?_|refine qad ?_ _));refine qaq (cs:=#[.slice Ao83 x547000_1.length co83,.int .i64 0]) ?_ 1 _ rfl;(with_reducible repeat(first|refine qae ?_ _|refine qaf ?_|refine qad ?_ _));exact BK546.out) NB546_0.out (by simp));have n3_:=qbb.mk (KeepBut.trans (by repeat(first|(with_reducible first|exact HK.out|apply KeepBut.set_|apply qar|apply qau|apply qas|refine qaw ?_ GW542.out _|refine qaw ?_ GW546.out _)|exact HK.out)) hk (.inl rfl));have n4_:=qbb.mk (hb);have n5_:=qbb.mk (hi);clear HO_547000;clear BK542;clear BK546;clear HK;clear HB;clear HI0;have HO_547000:=n0_;have BK542:=n1_;have BK546:=n2_;have HK:=n3_;have HB:=n4_;have HI0:=n5_;clear n0_ n1_ n2_ n3_ n4_ n5_;(try clear hb);(try clear hb2);(try clear hk);(try clear hi)))
       go_loopg [] k1 (fun kq w'=>∃(x1001_2:Int) (x547000_2:List (S45)) (u547000:Value),qbb (spec_l71Log.l1 kq s0_0 x1001_2 x547000_2 t560=some (r1,r2,r3))∧qbb (kq≤k1)∧qbb (Kd.N k45 45 w' w.heap.size (fun k_=>(w.heap.size≤k_)∧k_≠gb542∧k_≠gb546∧k_≠g) u547000 x547000_2)∧qbb (w'.heap[gb542]?=some (.cells #[(.slice none 0 0),.int .i64 0] 68 (0,0)))∧qbb (w'.heap[gb546]?=some (.cells #[u547000,.int .i64 t560] 68 (0,0)))∧qbb (IsS111 w0 w' g s0_0 x1001_2)∧qbb (KeepBut w w' g none)∧qbb (Below w0.heap.size w0 w'))
       case atStart=>exact⟨(t563),(x547000_1),(.slice Ao83 x547000_1.length co83),H',⟨Nat.le_refl _⟩,⟨by(with_reducible repeat(first|apply Kd.N_alloc|apply Kd.N_drewN|apply Kd.N_drew));exact HO_547000.out⟩,⟨by(with_reducible repeat(first|refine qae ?_ _|refine qaf ?_|refine qad ?_ _));exact BK542.out⟩,⟨by(with_reducible repeat(first|refine qae ?_ _|refine qaf ?_|refine qad ?_ _));exact BK546.out⟩,⟨by repeat(first|(with_reducible first|exact HI0.out|apply IsS111.alloc|apply IsS111.drewN|apply IsS111.drew|apply IsS111.set_1|refine IsS111.far ?_ NB0_542.out _|refine IsS111.far ?_ NB0_546.out _)|exact HI0.out)⟩,⟨by repeat(first|(with_reducible first|exact HK.out|apply KeepBut.set_|apply qar|apply qau|apply qas|refine qaw ?_ GW542.out _|refine qaw ?_ GW546.out _)|exact HK.out)⟩,⟨by repeat(first|(with_reducible first|exact HB.out|apply qac|apply qaa|apply qab|refine qag ?_ (IsS111.ge HI0.out)|refine qag ?_ GE542.out|refine qag ?_ GE546.out)|exact HB.out)⟩⟩
       case round=>
        clear H'
        try clear c1
        try clear c2
        try clear p2
        try clear c3
        try clear c4
        try clear c5
        try clear p5
        try clear q5
        try clear hx5
        try clear qi5
        try clear c6
        try clear p6
        try clear c7
        try clear c8
        try clear c9
        try clear c12
        try clear c12b0
        try clear c15
        try clear c16
        try clear c19
        try clear c20
        try clear c21
        try clear c25
        try clear c26
        try clear c34
        try clear c35
        try clear c36
        try clear c42
        try clear c42b0
        try clear c42b1
        try clear c44
        try clear c44b0
        try clear c45
        try clear c45b0
        try clear c46
        try clear c47
        try clear c53
        try clear p56
        try clear q56
        try clear hx56
        try clear qi56
        try clear c62
        try clear c64
        try clear c64b0
        try clear c64b1
        try clear p64
        try clear c65
        try clear c66
        try clear c67
        try clear c76
        try clear c77
        try clear c79
        try clear c79b0
        try clear c79b1
        try clear c80
        try clear c81
        try clear hcz10_0
        try clear hcz10_1
        try clear hcz22_0
        try clear hcz22_1
        try clear hcz22_2
        try clear hcz27_0
        try clear hcz27_1
        try clear hcz28_0
        try clear hcz28_1
        try clear hcz28_2
        try clear hcz31_0
        try clear hcz31_1
        try clear hcz37_0
        try clear hcz37_1
        try clear hcz37_2
        try clear hcz48_0
        try clear hcz48_1
        try clear hcz51_0
        try clear hcz51_1
        try clear hcz61_0
        try clear hcz61_1
        try clear hcz63_0
        try clear hcz63_1
        try clear hcz68_0
        try clear hcz68_1
        try clear hcz71_0
        try clear hcz71_1
        try clear hcz73_0
        try clear hcz73_1
        try clear hcz76_0
        try clear hcz76_1
        try clear hcz78_0
        try clear hcz78_1
        try clear hcz82_0
        try clear hcz82_1
        try clear hcz85_0
        try clear hcz85_1
        try clear hfz10_0
        try clear hfz10_1
        try clear hfz22_0
        try clear hfz22_1
        try clear hfz22_2
        try clear hfz27_0
        try clear hfz27_1
        try clear hfz28_0
        try clear hfz28_1
        try clear hfz28_2
        try clear hfz31_0
        try clear hfz31_1
        try clear hfz37_0
        try clear hfz37_1
        try clear hfz37_2
        try clear hfz48_0
        try clear hfz48_1
        try clear hfz51_0
        try clear hfz51_1
        try clear hfz61_0
        try clear hfz61_1
        try clear hfz63_0
        try clear hfz63_1
        try clear hfz68_0
        try clear hfz68_1
        try clear hfz71_0
        try clear hfz71_1
        try clear hfz73_0
        try clear hfz73_1
        try clear hfz76_0
        try clear hfz76_1
        try clear hfz78_0
        try clear hfz78_1
        try clear hfz82_0
        try clear hfz82_1
        try clear hfz85_0
        try clear hfz85_1
        try clear hx569_0
        try clear p2
        try clear p569
        try clear q569
        obtain⟨x1001_2,x547000_2,u547000,HA,HK2,HO_547000,BK542,BK546,HI0,HK,HB⟩:=hrel
        cases gk with
        |zero=>exact absurd HA.out (by simp[spec_l71Log.l1])
        |succ k2=>
         have H:=HA.out
         clear HA
         simp only[spec_l71Log.l1] at H
         replace H:=Option.bind_eq_some_iff.mp H
         obtain⟨⟨t573,t574⟩,A870,H⟩:=H
         replace H:(if(x547000_2.length:Int)<(wrap64 (40+t573)) then(if x547000_2.length<3518437208883 then(spec_l71Log.l1 k2 s0_0 t574 (x547000_2++[(⟨7,1,([]:List Int)⟩:S45)]) t560) else(none)) else(some (x547000_2,t560,t574)))=some (r1,r2,r3):=H
         have A87:=qbb.mk A870
         clear A870
         by_cases c88:(x547000_2.length:Int)<(wrap64 (40+t573))
         ·rw[if_pos c88] at H
          have c88b0:decide ((x547000_2.length:Int)<(wrap64 (40+t573)))=true:=decide_eq_true c88
          clear c88
          by_cases c89:x547000_2.length<3518437208883
          ·rw[if_pos c89] at H
           have LMc89:=qbb.mk c89
           clear c89
           obtain⟨y575,hy575⟩:∃y_:List (S45),y_=(x547000_2++[(⟨7,1,([]:List Int)⟩:S45)]):=⟨_,rfl⟩
           replace H:(spec_l71Log.l1 k2 s0_0 t574 y575 t560)=some (r1,r2,r3):=by first|(rw[hy575];with_reducible exact H)|(have H2_:=(Option.bind_some _ _).symm.trans H;rw[hy575];with_reducible exact H2_)|(have H2_:=(Option.bind_some _ _).symm.trans H;with_reducible exact H2_)|with_reducible exact H|(rw[hy575];exact H)|exact H
           have Ny575:=qbb.mk hy575
           clear hy575
           have H':=qbb.mk H
           clear H
           try go_wp2
           have n0_:=qbb.mk (Kd.N_drew HO_547000.out)
           have n1_:=qbb.mk (qaf BK542.out)
           have n2_:=qbb.mk (qaf BK546.out)
           have n3_:=qbb.mk (IsS111.drew HI0.out)
           have n4_:=qbb.mk (qau HK.out)
           have n5_:=qbb.mk (qab HB.out)
           clear HO_547000
           clear BK542
           clear BK546
           clear HI0
           clear HK
           clear HB
           have HO_547000:=n0_
           have BK542:=n1_
           have BK546:=n2_
           have HI0:=n3_
           have HK:=n4_
           have HB:=n5_
           clear n0_ n1_ n2_ n3_ n4_ n5_
           obtain⟨Ao91,co91,eo91⟩:=Kd.N_slice HO_547000.out
           (first|subst eo91|(injection eo91 with f1_ f2_ f3_;have f4_:=f1_.symm;have f5_:=f3_.symm;clear f1_ f2_ f3_;subst f4_;subst f5_))
           refine start_ (n:=7) (S:=fun w'=>w'.cell? ⟨gb546,0,none⟩=some (.slice Ao91 x547000_2.length co91)∧w'.cell? ⟨gb546,1,none⟩=some (.int .i64 t560)) (ds:=[]) #[false,false,false,false,false,false,false] (by kernel_rfl) rfl rfl ⟨(qai BK546.out 0).trans rfl,(qai BK546.out 1).trans rfl⟩ (fun hHeld=>?_)
           generalize wr.drew=w90 at HO_547000 BK542 BK546 HI0 HK HB hHeld ⊢
           refine qbd (i:=0) (N:=some 55) (v:=?_) (a':=?_) #[true,false,false,false,false,false,false] rfl rfl (by kernel_rfl) (fun _ _ _ h=>h) (Or.inl ⟨by rfl,?_⟩) ?_ ?_
           rotate_left
           ·intro w'
            go_simp
            with_reducible rfl
           rotate_left
           ·simp only[Act.put,List.setIfInBounds_toArray,List.set_cons_zero,List.set_cons_succ,qay,qaz]
            rfl
           refine qbd (i:=3) (N:=some 58) (v:=?_) (a':=?_) #[true,false,false,true,false,false,false] rfl rfl (by kernel_rfl) (fun _ _ _ h=>h) (Or.inl ⟨by rfl,?_⟩) ?_ ?_
           rotate_left
           ·intro w'
            go_simp
            with_reducible rfl
           rotate_left
           ·simp only[Act.put,List.setIfInBounds_toArray,List.set_cons_zero,List.set_cons_succ,qay,qaz]
            rfl
           refine take_ (i:=1) (N:=some 56) (v:=?_) (a':=?_) #[true,true,false,true,false,false,false] rfl rfl (by kernel_rfl) (fun _ _ _ h=>h) (Or.inl ⟨by rfl,?_⟩) hHeld ?_ ?_
           rotate_left
           ·rintro w' ⟨s0,s1⟩
            go_simp
            with_reducible rfl
           rotate_left
           ·simp only[Act.put,List.setIfInBounds_toArray,List.set_cons_zero,List.set_cons_succ,qay,qaz]
            rfl
           refine qbd (i:=2) (N:=some 57) (v:=?_) (a':=?_) #[true,true,true,true,false,false,false] rfl rfl (by kernel_rfl) (fun _ _ _ h=>h) (Or.inl ⟨by rfl,?_⟩) ?_ ?_
           rotate_left
           ·intro w'
            go_simp
            with_reducible rfl
           rotate_left
           ·simp only[Act.put,List.setIfInBounds_toArray,List.set_cons_zero,List.set_cons_succ,qay,qaz]
            rfl
           refine one_ (i:=4) (N:=some 59) #[true,true,true,true,true,false,false] rfl rfl (by kernel_rfl) (by decide) (fun K hK=>?_)
           refine goes_ Try.func53 (by kernel_rfl) rfl #[.pointer (some ⟨g,0,none⟩),.int .i64 2] (by rfl) rfl rfl (by(try simp only[List.map_toArray,List.map_cons,List.map_nil]);first|done|rfl|(simp only[List.length_drop,List.length_take];rfl)) ?_
           with_reducible refine(spec_l6Rd_pick.calls k2 g s0_0 x1001_2 2 t573 t574 w0 _ ?side1 ?side2 A87.out).mono ?_
           (case side1=>repeat(first|(with_reducible first|exact HI0.out|apply IsS111.alloc|apply IsS111.drewN|apply IsS111.drew|apply IsS111.set_1|refine IsS111.far ?_ NB0_542.out _|refine IsS111.far ?_ NB0_546.out _)|exact HI0.out))
           (case side2=>repeat(first|(with_reducible first|exact HB.out|apply qac|apply qaa|apply qab|refine qag ?_ (IsS111.ge HI0.out)|refine qag ?_ GE542.out|refine qag ?_ GE546.out)|exact HB.out))
           rintro e w92 ⟨rfl,hi,hb,hk⟩
           refine⟨_,rfl,?_⟩
           have n0_:=qbb.mk (Kd.N_mono (Kd.N_keep (Kd.N_mono (ok:=fun k_=>(((w.heap.size≤k_))∧(k_≠gb542∧(k_≠gb546∧k_≠g)))) (by(with_reducible repeat(first|apply Kd.N_alloc|apply Kd.N_drewN|apply Kd.N_drew));exact HO_547000.out) (fun k_ hk_=>(⟨hk_,hk_.2.2.2⟩:_∧k_≠g))) hk (fun _ h=>h.2)) (fun _ h=>h.1))
           have n1_:=qbb.mk (KeepBut.blk hk (g':=gb542) (o:=.cells #[.slice none 0 0,.int .i64 0] 68 (0,0)) (by(with_reducible repeat(first|refine qae ?_ _|refine qaf ?_|refine qad ?_ _));exact BK542.out) NB542_0.out (by simp))
           have n2_:=qbb.mk (KeepBut.blk hk (g':=gb546) (o:=.cells #[.slice Ao91 x547000_2.length co91,.int .i64 t560] 68 (0,0)) (by(with_reducible repeat(first|refine qae ?_ _|refine qaf ?_|refine qad ?_ _));exact BK546.out) NB546_0.out (by simp))
           have n3_:=qbb.mk (KeepBut.trans (by repeat(first|(with_reducible first|exact HK.out|apply KeepBut.set_|apply qar|apply qau|apply qas|refine qaw ?_ GW542.out _|refine qaw ?_ GW546.out _)|exact HK.out)) hk (.inl rfl))
           have n4_:=qbb.mk (hb)
           have n5_:=qbb.mk (hi)
           clear HO_547000
           clear BK542
           clear BK546
           clear HK
           clear HB
           clear HI0
           have HO_547000:=n0_
           have BK542:=n1_
           have BK546:=n2_
           have HK:=n3_
           have HB:=n4_
           have HI0:=n5_
           clear n0_ n1_ n2_ n3_ n4_ n5_
           (try clear hb)
           (try clear hb2)
           (try clear hk)
           (try clear hi)
           refine hK.out _ _ ⟨(qai BK546.out 0).trans rfl,(qai BK546.out 1).trans rfl⟩ (fun hHeld=>?_)
           clear hK K
           refine norm_ (a':=?_) ?_ ?_
           rotate_left
           ·show Act.put _ (some 59) _=_
            simp only[Act.put,List.setIfInBounds_toArray,List.set_cons_zero,List.set_cons_succ,qay,qaz]
            rfl
           refine qbd (i:=5) (N:=some 60) (v:=?_) (a':=?_) #[true,true,true,true,true,true,false] rfl rfl (by kernel_rfl) (fun _ _ _ h=>h) (Or.inl ⟨by rfl,?_⟩) ?_ ?_
           rotate_left
           ·intro w'
            go_simp
            with_reducible rfl
           rotate_left
           ·simp only[Act.put,List.setIfInBounds_toArray,List.set_cons_zero,List.set_cons_succ,qay,qaz]
            rfl
           refine qbd (i:=6) (N:=some 61) (v:=?_) (a':=?_) #[true,true,true,true,true,true,true] rfl rfl (by kernel_rfl) (fun _ _ _ h=>h) (Or.inl ⟨by rfl,?_⟩) ?_ ?_
           rotate_left
           ·intro w'
            go_simp
            with_reducible rfl
           rotate_left
           ·simp only[Act.put,List.setIfInBounds_toArray,List.set_cons_zero,List.set_cons_succ,qay,qaz]
            rfl
           refine done_ (by kernel_rfl) ?_
           have hnb93:=NB546_542.out
           have hnc93:=NB542_546.out
           have hnb94:=NB546_0.out
           have hnc94:=NB0_546.out
           have hcz95_0:w92.cell? ⟨gb546,0,none⟩=some (.slice Ao91 x547000_2.length co91):=(qai BK546.out 0).trans rfl
           have hcz95_1:w92.cell? ⟨gb546,1,none⟩=some (.int .i64 t560):=(qai BK546.out 1).trans rfl
           have hfz95_0:=qah BK546.out 0
           have hfz95_1:=qah BK546.out 1
           try go_wp2_with(first|((with_reducible refine gate_builtin (b:=.append) (xs:=#[.tmp 63,.tmp 65]) rfl ?_);at_builtin;refine Kd.N_append k45 w.heap.size rfl (.tmp 63) (.tmp 65) 66 45 (.agg #[(.int .i64 0),(.int .i64 0),(.slice none 0 0)]) 40 rfl Try.underlying66 info45 rfl (by decide) (by omega) (.slice Ao91 x547000_2.length co91) x547000_2 (⟨7,1,([]:List Int)⟩:S45) [.int .i64 7,.int .i64 1,.slice none 0 0] (fun k_=>(w.heap.size≤k_)∧k_≠gb542∧k_≠gb546∧k_≠g) (fun k_=>((fun k_=>(w.heap.size≤k_)∧k_≠gb542∧k_≠gb546∧k_≠g)) k_∧some k_≠(.slice Ao91 x547000_2.length co91:Value).ownBlock) rfl rfl ?aP (fun _ hk=>hk) ?aF ?aO (Below.refl _ _) ?aS ?aL ?_;(case aP=>exact(k45_mkF _ _ (⟨7,1,([]:List Int)⟩:S45) (Nat.le_refl _) (Kd.F_nil _ _ _)));(case aF=>exact(fun k_ hk=>⟨(Nat.le_trans (keep_size (w:=w) (g:=g) (row:=none) (by repeat(first|(with_reducible first|exact HK.out|apply KeepBut.set_|apply qar|apply qau|apply qas|refine qaw ?_ GW542.out _|refine qaw ?_ GW546.out _)|exact HK.out))) hk),Kd.freshB (g:=gb542) (o:=.cells #[.slice none 0 0,.int .i64 0] 68 (0,0)) (by(with_reducible repeat(first|refine qae ?_ _|refine qaf ?_|refine qad ?_ _));exact BK542.out) k_ hk,Kd.freshB (g:=gb546) (o:=.cells #[.slice Ao91 x547000_2.length co91,.int .i64 t560] 68 (0,0)) (by(with_reducible repeat(first|refine qae ?_ _|refine qaf ?_|refine qad ?_ _));exact BK546.out) k_ hk,IsS111.fresh (by repeat(first|(with_reducible first|exact HI0.out|apply IsS111.alloc|apply IsS111.drewN|apply IsS111.drew|apply IsS111.set_1|refine IsS111.far ?_ NB0_542.out _|refine IsS111.far ?_ NB0_546.out _)|exact HI0.out)) k_ hk⟩));(case aO=>exact(by(with_reducible repeat(first|apply Kd.N_alloc|apply Kd.N_drewN|apply Kd.N_drew));exact HO_547000.out));(case aS=>exact(keep_size (w:=w) (g:=g) (row:=none) (by repeat(first|(with_reducible first|exact HK.out|apply KeepBut.set_|apply qar|apply qau|apply qas|refine qaw ?_ GW542.out _|refine qaw ?_ GW546.out _)|exact HK.out))));(case aL=>have:=LMc89.out;omega);intro v576 w96 ho hb hg hat;rw[←Ny575.out] at ho;have n0_:=qbb.mk (blk_grown (g:=gb542) (o:=.cells #[.slice none 0 0,.int .i64 0] 68 (0,0)) (by(with_reducible repeat(first|refine qae ?_ _|refine qaf ?_|refine qad ?_ _));exact BK542.out) hg (Kd.N_ne HO_547000.out BK542.out (by decide)));have n1_:=qbb.mk (blk_grown (g:=gb546) (o:=.cells #[.slice Ao91 x547000_2.length co91,.int .i64 t560] 68 (0,0)) (by(with_reducible repeat(first|refine qae ?_ _|refine qaf ?_|refine qad ?_ _));exact BK546.out) hg (Kd.N_ne HO_547000.out BK546.out (by decide)));have n2_:=qbb.mk (IsS111.grown (by repeat(first|(with_reducible first|exact HI0.out|apply IsS111.alloc|apply IsS111.drewN|apply IsS111.drew|apply IsS111.set_1|refine IsS111.far ?_ NB0_542.out _|refine IsS111.far ?_ NB0_546.out _)|exact HI0.out)) hg (IsS111.own_neN HI0.out HO_547000.out (by decide)));have n3_:=qbb.mk (below_weaken (by repeat(first|(with_reducible first|exact HB.out|apply qac|apply qaa|apply qab|refine qag ?_ (IsS111.ge HI0.out)|refine qag ?_ GE542.out|refine qag ?_ GE546.out)|exact HB.out)) HL.out hb);have n4_:=qbb.mk (KeepBut.trans (by repeat(first|(with_reducible first|exact HK.out|apply KeepBut.set_|apply qar|apply qau|apply qas|refine qaw ?_ GW542.out _|refine qaw ?_ GW546.out _)|exact HK.out)) (KeepBut.of_grown hg g) (Kd.N_base2 HO_547000.out));have n5_:=qbb.mk (ho);clear BK542;clear BK546;clear HI0;clear HB;clear HK;clear HO_547000;have BK542:=n0_;have BK546:=n1_;have HI0:=n2_;have HB:=n3_;have HK:=n4_;have HO577:=n5_;clear n0_ n1_ n2_ n3_ n4_ n5_;clear ho hb hg hat;obtain⟨Ao97,co97,eo97⟩:=Kd.N_slice HO577.out;subst eo97;have hcz98_0:w96.cell? ⟨gb546,0,none⟩=some (.slice Ao91 x547000_2.length co91):=(qai BK546.out 0).trans rfl;have hcz98_1:w96.cell? ⟨gb546,1,none⟩=some (.int .i64 t560):=(qai BK546.out 1).trans rfl;have hfz98_0:=qah BK546.out 0;have hfz98_1:=qah BK546.out 1))
           go_roundg k2
           case measure=>have:=HK1.out;have:=HK2.out;omega
           case rel=>exact⟨(t574),(y575),(.slice Ao97 y575.length co97),H',⟨by have:=HK1.out;have:=HK2.out;omega⟩,⟨by(with_reducible repeat(first|apply Kd.N_alloc|apply Kd.N_drewN|apply Kd.N_drew));exact Kd.N_mono (Kd.N_far (p:=⟨gb546,0,none⟩) (Kd.N_mono HO577.out (fun k_ hk=>(⟨hk,hk.2.2.1⟩:_∧k_≠gb546))) (fun _ hk=>hk.2) (.slice Ao97 y575.length co97)) (fun _ hk=>⟨hk.1.1,⟨hk.1.2.1,⟨hk.1.2.2.1,hk.1.2.2.2⟩⟩⟩)⟩,⟨by(with_reducible repeat(first|refine qae ?_ _|refine qaf ?_|refine qad ?_ _));refine qap ?_ NB542_546.out _;(with_reducible repeat(first|refine qae ?_ _|refine qaf ?_|refine qad ?_ _));exact BK542.out⟩,⟨by(with_reducible repeat(first|refine qae ?_ _|refine qaf ?_|refine qad ?_ _));refine qaq (cs:=#[.slice Ao91 x547000_2.length co91,.int .i64 t560]) ?_ 0 _ rfl;(with_reducible repeat(first|refine qae ?_ _|refine qaf ?_|refine qad ?_ _));exact BK546.out⟩,⟨by repeat(first|(with_reducible first|exact HI0.out|apply IsS111.alloc|apply IsS111.drewN|apply IsS111.drew|apply IsS111.set_1|refine IsS111.far ?_ NB0_542.out _|refine IsS111.far ?_ NB0_546.out _)|exact HI0.out)⟩,⟨by repeat(first|(with_reducible first|exact HK.out|apply KeepBut.set_|apply qar|apply qau|apply qas|refine qaw ?_ GW542.out _|refine qaw ?_ GW546.out _)|exact HK.out)⟩,⟨by repeat(first|(with_reducible first|exact HB.out|apply qac|apply qaa|apply qab|refine qag ?_ (IsS111.ge HI0.out)|refine qag ?_ GE542.out|refine qag ?_ GE546.out)|exact HB.out)⟩⟩
          ·rw[if_neg c89] at H
           exact absurd H (by simp)
         ·rw[if_neg c88] at H
          have c88b0:decide ((x547000_2.length:Int)<(wrap64 (40+t573)))=false:=decide_eq_false c88
          clear c88
          simp only[Option.some.injEq,Prod.mk.injEq] at H
          obtain⟨rfl,rfl,rfl⟩:=H
          try go_wp2
          have n0_:=qbb.mk (Kd.N_drew HO_547000.out)
          have n1_:=qbb.mk (qaf BK542.out)
          have n2_:=qbb.mk (qaf BK546.out)
          have n3_:=qbb.mk (IsS111.drew HI0.out)
          have n4_:=qbb.mk (qau HK.out)
          have n5_:=qbb.mk (qab HB.out)
          clear HO_547000
          clear BK542
          clear BK546
          clear HI0
          clear HK
          clear HB
          have HO_547000:=n0_
          have BK542:=n1_
          have BK546:=n2_
          have HI0:=n3_
          have HK:=n4_
          have HB:=n5_
          clear n0_ n1_ n2_ n3_ n4_ n5_
          obtain⟨Ao100,co100,eo100⟩:=Kd.N_slice HO_547000.out
          (first|subst eo100|(injection eo100 with f1_ f2_ f3_;have f4_:=f1_.symm;have f5_:=f3_.symm;clear f1_ f2_ f3_;subst f4_;subst f5_))
          refine start_ (n:=7) (S:=fun w'=>w'.cell? ⟨gb546,0,none⟩=some (.slice Ao100 x547000_2.length co100)∧w'.cell? ⟨gb546,1,none⟩=some (.int .i64 t560)) (ds:=[]) #[false,false,false,false,false,false,false] (by kernel_rfl) rfl rfl ⟨(qai BK546.out 0).trans rfl,(qai BK546.out 1).trans rfl⟩ (fun hHeld=>?_)
          generalize wr.drew=w99 at HO_547000 BK542 BK546 HI0 HK HB hHeld ⊢
          refine qbd (i:=0) (N:=some 55) (v:=?_) (a':=?_) #[true,false,false,false,false,false,false] rfl rfl (by kernel_rfl) (fun _ _ _ h=>h) (Or.inl ⟨by rfl,?_⟩) ?_ ?_
          rotate_left
          ·intro w'
           go_simp
           with_reducible rfl
          rotate_left
          ·simp only[Act.put,List.setIfInBounds_toArray,List.set_cons_zero,List.set_cons_succ,qay,qaz]
           rfl
          refine qbd (i:=3) (N:=some 58) (v:=?_) (a':=?_) #[true,false,false,true,false,false,false] rfl rfl (by kernel_rfl) (fun _ _ _ h=>h) (Or.inl ⟨by rfl,?_⟩) ?_ ?_
          rotate_left
          ·intro w'
           go_simp
           with_reducible rfl
          rotate_left
          ·simp only[Act.put,List.setIfInBounds_toArray,List.set_cons_zero,List.set_cons_succ,qay,qaz]
           rfl
          refine take_ (i:=1) (N:=some 56) (v:=?_) (a':=?_) #[true,true,false,true,false,false,false] rfl rfl (by kernel_rfl) (fun _ _ _ h=>h) (Or.inl ⟨by rfl,?_⟩) hHeld ?_ ?_
          rotate_left
          ·rintro w' ⟨s0,s1⟩
           go_simp
           with_reducible rfl
          rotate_left
          ·simp only[Act.put,List.setIfInBounds_toArray,List.set_cons_zero,List.set_cons_succ,qay,qaz]
           rfl
          refine qbd (i:=2) (N:=some 57) (v:=?_) (a':=?_) #[true,true,true,true,false,false,false] rfl rfl (by kernel_rfl) (fun _ _ _ h=>h) (Or.inl ⟨by rfl,?_⟩) ?_ ?_
          rotate_left
          ·intro w'
           go_simp
           with_reducible rfl
          rotate_left
          ·simp only[Act.put,List.setIfInBounds_toArray,List.set_cons_zero,List.set_cons_succ,qay,qaz]
           rfl
          refine one_ (i:=4) (N:=some 59) #[true,true,true,true,true,false,false] rfl rfl (by kernel_rfl) (by decide) (fun K hK=>?_)
          refine goes_ Try.func53 (by kernel_rfl) rfl #[.pointer (some ⟨g,0,none⟩),.int .i64 2] (by rfl) rfl rfl (by(try simp only[List.map_toArray,List.map_cons,List.map_nil]);first|done|rfl|(simp only[List.length_drop,List.length_take];rfl)) ?_
          with_reducible refine(spec_l6Rd_pick.calls k2 g s0_0 x1001_2 2 t573 t574 w0 _ ?side1 ?side2 A87.out).mono ?_
          (case side1=>repeat(first|(with_reducible first|exact HI0.out|apply IsS111.alloc|apply IsS111.drewN|apply IsS111.drew|apply IsS111.set_1|refine IsS111.far ?_ NB0_542.out _|refine IsS111.far ?_ NB0_546.out _)|exact HI0.out))
          (case side2=>repeat(first|(with_reducible first|exact HB.out|apply qac|apply qaa|apply qab|refine qag ?_ (IsS111.ge HI0.out)|refine qag ?_ GE542.out|refine qag ?_ GE546.out)|exact HB.out))
          rintro e w101 ⟨rfl,hi,hb,hk⟩
          refine⟨_,rfl,?_⟩
          have n0_:=qbb.mk (Kd.N_mono (Kd.N_keep (Kd.N_mono (ok:=fun k_=>(((w.heap.size≤k_))∧(k_≠gb542∧(k_≠gb546∧k_≠g)))) (by(with_reducible repeat(first|apply Kd.N_alloc|apply Kd.N_drewN|apply Kd.N_drew));exact HO_547000.out) (fun k_ hk_=>(⟨hk_,hk_.2.2.2⟩:_∧k_≠g))) hk (fun _ h=>h.2)) (fun _ h=>h.1))
          have n1_:=qbb.mk (KeepBut.blk hk (g':=gb542) (o:=.cells #[.slice none 0 0,.int .i64 0] 68 (0,0)) (by(with_reducible repeat(first|refine qae ?_ _|refine qaf ?_|refine qad ?_ _));exact BK542.out) NB542_0.out (by simp))
          have n2_:=qbb.mk (KeepBut.blk hk (g':=gb546) (o:=.cells #[.slice Ao100 x547000_2.length co100,.int .i64 t560] 68 (0,0)) (by(with_reducible repeat(first|refine qae ?_ _|refine qaf ?_|refine qad ?_ _));exact BK546.out) NB546_0.out (by simp))
          have n3_:=qbb.mk (KeepBut.trans (by repeat(first|(with_reducible first|exact HK.out|apply KeepBut.set_|apply qar|apply qau|apply qas|refine qaw ?_ GW542.out _|refine qaw ?_ GW546.out _)|exact HK.out)) hk (.inl rfl))
          have n4_:=qbb.mk (hb)
          have n5_:=qbb.mk (hi)
          clear HO_547000
          clear BK542
          clear BK546
          clear HK
          clear HB
          clear HI0
          have HO_547000:=n0_
          have BK542:=n1_
          have BK546:=n2_
          have HK:=n3_
          have HB:=n4_
          have HI0:=n5_
          clear n0_ n1_ n2_ n3_ n4_ n5_
          (try clear hb)
          (try clear hb2)
          (try clear hk)
          (try clear hi)
          refine hK.out _ _ ⟨(qai BK546.out 0).trans rfl,(qai BK546.out 1).trans rfl⟩ (fun hHeld=>?_)
          clear hK K
          refine norm_ (a':=?_) ?_ ?_
          rotate_left
          ·show Act.put _ (some 59) _=_
           simp only[Act.put,List.setIfInBounds_toArray,List.set_cons_zero,List.set_cons_succ,qay,qaz]
           rfl
          refine qbd (i:=5) (N:=some 60) (v:=?_) (a':=?_) #[true,true,true,true,true,true,false] rfl rfl (by kernel_rfl) (fun _ _ _ h=>h) (Or.inl ⟨by rfl,?_⟩) ?_ ?_
          rotate_left
          ·intro w'
           go_simp
           with_reducible rfl
          rotate_left
          ·simp only[Act.put,List.setIfInBounds_toArray,List.set_cons_zero,List.set_cons_succ,qay,qaz]
           rfl
          refine qbd (i:=6) (N:=some 61) (v:=?_) (a':=?_) #[true,true,true,true,true,true,true] rfl rfl (by kernel_rfl) (fun _ _ _ h=>h) (Or.inl ⟨by rfl,?_⟩) ?_ ?_
          rotate_left
          ·intro w'
           go_simp
           with_reducible rfl
          rotate_left
          ·simp only[Act.put,List.setIfInBounds_toArray,List.set_cons_zero,List.set_cons_succ,qay,qaz]
           rfl
          refine done_ (by kernel_rfl) ?_
          have hnb102:=NB546_542.out
          have hnc102:=NB542_546.out
          have hnb103:=NB546_0.out
          have hnc103:=NB0_546.out
          have hcz104_0:w101.cell? ⟨gb546,0,none⟩=some (.slice Ao100 x547000_2.length co100):=(qai BK546.out 0).trans rfl
          have hcz104_1:w101.cell? ⟨gb546,1,none⟩=some (.int .i64 t560):=(qai BK546.out 1).trans rfl
          have hfz104_0:=qah BK546.out 0
          have hfz104_1:=qah BK546.out 1
          have hnb105:=NB542_0.out
          have hnc105:=NB0_542.out
          have hcz106_0:w101.cell? ⟨gb542,0,none⟩=some (.slice none 0 0):=(qai BK542.out 0).trans rfl
          have hcz106_1:w101.cell? ⟨gb542,1,none⟩=some (.int .i64 0):=(qai BK542.out 1).trans rfl
          have hfz106_0:=qah BK542.out 0
          have hfz106_1:=qah BK542.out 1
          try go_wp2
          refine bodyPost_ret (results_cell_row rfl _ _ gb542 68 #[.slice Ao100 x547000_2.length co100,.int .i64 t560] (0,0) _ rfl (by(with_reducible repeat(first|refine qae ?_ _|refine qaf ?_|refine qad ?_ _));refine qaq (cs:=#[.slice Ao100 x547000_2.length co100,.int .i64 0]) ?_ 1 _ rfl;(with_reducible repeat(first|refine qae ?_ _|refine qaf ?_|refine qad ?_ _));refine qaq (cs:=#[.slice none 0 0,.int .i64 0]) ?_ 0 _ rfl;(with_reducible repeat(first|refine qae ?_ _|refine qaf ?_|refine qad ?_ _));exact BK542.out) Try.underlying68 rfl (by kernel_rfl)) rfl ?_
          exact⟨_,by first|rfl|(simp[qan,qam]<;>rfl)|(simp[*,qan,qam]<;>rfl),by(with_reducible repeat(first|apply Kd.N_alloc|apply Kd.N_drewN|apply Kd.N_drew));exact Kd.N_mono (Kd.N_far (p:=⟨gb542,1,none⟩) (Kd.N_far (p:=⟨gb542,0,none⟩) (Kd.N_mono HO_547000.out (fun k_ hk=>(⟨hk,hk.2.1⟩:_∧k_≠gb542))) (fun _ hk=>hk.2) (.slice Ao100 x547000_2.length co100)) (fun _ hk=>hk.2) (.int .i64 t560)) (fun _ hk=>hk.1.1),by repeat(first|(with_reducible first|exact HI0.out|apply IsS111.alloc|apply IsS111.drewN|apply IsS111.drew|apply IsS111.set_1|refine IsS111.far ?_ NB0_542.out _|refine IsS111.far ?_ NB0_546.out _)|exact HI0.out),by repeat(first|(with_reducible first|exact HB.out|apply qac|apply qaa|apply qab|refine qag ?_ (IsS111.ge HI0.out)|refine qag ?_ GE542.out|refine qag ?_ GE546.out)|exact HB.out),by repeat(first|(with_reducible first|exact HK.out|apply KeepBut.set_|apply qar|apply qau|apply qas|refine qaw ?_ GW542.out _|refine qaw ?_ GW546.out _)|exact HK.out)⟩
      ·rw[if_neg c79] at H
       have c79b0:(t562 == 2)=false:=beq_eq_false_iff_ne.mpr c79
       have c79b1:(t562 != 2)=true:=bne_iff_ne.mpr c79
       simp only[Option.some.injEq,Prod.mk.injEq] at H
       obtain⟨rfl,rfl,rfl⟩:=H
       have hnb107:=NB546_542.out
       have hnc107:=NB542_546.out
       have hnb108:=NB546_0.out
       have hnc108:=NB0_546.out
       have hcz109_0:wr.cell? ⟨gb546,0,none⟩=some (u547000):=(qai BK546.out 0).trans rfl
       have hcz109_1:wr.cell? ⟨gb546,1,none⟩=some (.int .i64 0):=(qai BK546.out 1).trans rfl
       have hfz109_0:=qah BK546.out 0
       have hfz109_1:=qah BK546.out 1
       obtain⟨Ao110,co110,eo110⟩:=Kd.N_slice HO_547000.out
       subst eo110
       go_wp2_with(first|((with_reducible refine qao (f:=53) rfl ?_);refine qax (some 29) rfl rfl Try.func53 (by kernel_rfl) rfl #[.pointer (some ⟨g,0,none⟩),.int .i64 (wrap64 ((x547000_1.length:Int)+1))] rfl (by(try simp only[List.map_toArray,List.map_cons,List.map_nil]);first|done|rfl|(simp only[List.length_drop,List.length_take];rfl)) ?_;(with_reducible refine(spec_l6Rd_pick.calls k1 g s0_0 x1001_1 (wrap64 ((x547000_1.length:Int)+1)) t560 t561 w0 _ ?side1 ?side2 A40.out).mono ?_);(case side1=>repeat(first|(with_reducible first|exact HI0.out|apply IsS111.alloc|apply IsS111.drewN|apply IsS111.drew|apply IsS111.set_1|refine IsS111.far ?_ NB0_542.out _|refine IsS111.far ?_ NB0_546.out _)|exact HI0.out));(case side2=>repeat(first|(with_reducible first|exact HB.out|apply qac|apply qaa|apply qab|refine qag ?_ (IsS111.ge HI0.out)|refine qag ?_ GE542.out|refine qag ?_ GE546.out)|exact HB.out));rintro e w111 ⟨rfl,hi,hb,hk⟩;refine⟨_,rfl,?_⟩;have n0_:=qbb.mk (Kd.N_mono (Kd.N_keep (Kd.N_mono (ok:=fun k_=>(((w.heap.size≤k_))∧(k_≠gb542∧(k_≠gb546∧k_≠g)))) (by(with_reducible repeat(first|apply Kd.N_alloc|apply Kd.N_drewN|apply Kd.N_drew));exact HO_547000.out) (fun k_ hk_=>(⟨hk_,hk_.2.2.2⟩:_∧k_≠g))) hk (fun _ h=>h.2)) (fun _ h=>h.1));have n1_:=qbb.mk (KeepBut.blk hk (g':=gb542) (o:=.cells #[.slice none 0 0,.int .i64 0] 68 (0,0)) (by(with_reducible repeat(first|refine qae ?_ _|refine qaf ?_|refine qad ?_ _));exact BK542.out) NB542_0.out (by simp));have n2_:=qbb.mk (KeepBut.blk hk (g':=gb546) (o:=.cells #[.slice Ao110 x547000_1.length co110,.int .i64 0] 68 (0,0)) (by(with_reducible repeat(first|refine qae ?_ _|refine qaf ?_|refine qad ?_ _));exact BK546.out) NB546_0.out (by simp));have n3_:=qbb.mk (KeepBut.trans (by repeat(first|(with_reducible first|exact HK.out|apply KeepBut.set_|apply qar|apply qau|apply qas|refine qaw ?_ GW542.out _|refine qaw ?_ GW546.out _)|exact HK.out)) hk (.inl rfl));have n4_:=qbb.mk (hb);have n5_:=qbb.mk (hi);clear HO_547000;clear BK542;clear BK546;clear HK;clear HB;clear HI0;have HO_547000:=n0_;have BK542:=n1_;have BK546:=n2_;have HK:=n3_;have HB:=n4_;have HI0:=n5_;clear n0_ n1_ n2_ n3_ n4_ n5_;(try clear hb);(try clear hb2);(try clear hk);(try clear hi);have hcz112_0:w111.cell? ⟨gb546,0,none⟩=some (.slice Ao110 x547000_1.length co110):=(qai BK546.out 0).trans rfl;have hcz112_1:w111.cell? ⟨gb546,1,none⟩=some (.int .i64 0):=(qai BK546.out 1).trans rfl;have hfz112_0:=qah BK546.out 0;have hfz112_1:=qah BK546.out 1)|((with_reducible refine qao (f:=53) rfl ?_);refine qax (some 32) rfl rfl Try.func53 (by kernel_rfl) rfl #[.pointer (some ⟨g,0,none⟩),.int .i64 20] rfl (by(try simp only[List.map_toArray,List.map_cons,List.map_nil]);first|done|rfl|(simp only[List.length_drop,List.length_take];rfl)) ?_;(with_reducible refine(spec_l6Rd_pick.calls k1 g s0_0 t561 20 t562 t563 w0 _ ?side1 ?side2 A41.out).mono ?_);(case side1=>repeat(first|(with_reducible first|exact HI0.out|apply IsS111.alloc|apply IsS111.drewN|apply IsS111.drew|apply IsS111.set_1|refine IsS111.far ?_ NB0_542.out _|refine IsS111.far ?_ NB0_546.out _)|exact HI0.out));(case side2=>repeat(first|(with_reducible first|exact HB.out|apply qac|apply qaa|apply qab|refine qag ?_ (IsS111.ge HI0.out)|refine qag ?_ GE542.out|refine qag ?_ GE546.out)|exact HB.out));rintro e w113 ⟨rfl,hi,hb,hk⟩;refine⟨_,rfl,?_⟩;have n0_:=qbb.mk (Kd.N_mono (Kd.N_keep (Kd.N_mono (ok:=fun k_=>(((w.heap.size≤k_))∧(k_≠gb542∧(k_≠gb546∧k_≠g)))) (by(with_reducible repeat(first|apply Kd.N_alloc|apply Kd.N_drewN|apply Kd.N_drew));exact(Kd.N_mono (Kd.N_far (p:=⟨gb546,1,none⟩) (Kd.N_mono HO_547000.out (fun k_ hk=>(⟨hk,hk.2.2.1⟩:_∧k_≠gb546))) (fun _ hk=>hk.2) (.int .i64 t560)) (fun _ h_=>h_.1))) (fun k_ hk_=>(⟨hk_,hk_.2.2.2⟩:_∧k_≠g))) hk (fun _ h=>h.2)) (fun _ h=>h.1));have n1_:=qbb.mk (KeepBut.blk hk (g':=gb542) (o:=.cells #[.slice none 0 0,.int .i64 0] 68 (0,0)) (by(with_reducible repeat(first|refine qae ?_ _|refine qaf ?_|refine qad ?_ _));refine qap ?_ NB542_546.out _;(with_reducible repeat(first|refine qae ?_ _|refine qaf ?_|refine qad ?_ _));exact BK542.out) NB542_0.out (by simp));have n2_:=qbb.mk (KeepBut.blk hk (g':=gb546) (o:=.cells #[.slice Ao110 x547000_1.length co110,.int .i64 t560] 68 (0,0)) (by(with_reducible repeat(first|refine qae ?_ _|refine qaf ?_|refine qad ?_ _));refine qaq (cs:=#[.slice Ao110 x547000_1.length co110,.int .i64 0]) ?_ 1 _ rfl;(with_reducible repeat(first|refine qae ?_ _|refine qaf ?_|refine qad ?_ _));exact BK546.out) NB546_0.out (by simp));have n3_:=qbb.mk (KeepBut.trans (by repeat(first|(with_reducible first|exact HK.out|apply KeepBut.set_|apply qar|apply qau|apply qas|refine qaw ?_ GW542.out _|refine qaw ?_ GW546.out _)|exact HK.out)) hk (.inl rfl));have n4_:=qbb.mk (hb);have n5_:=qbb.mk (hi);clear HO_547000;clear BK542;clear BK546;clear HK;clear HB;clear HI0;have HO_547000:=n0_;have BK542:=n1_;have BK546:=n2_;have HK:=n3_;have HB:=n4_;have HI0:=n5_;clear n0_ n1_ n2_ n3_ n4_ n5_;(try clear hb);(try clear hb2);(try clear hk);(try clear hi);have hcz114_0:w113.cell? ⟨gb546,0,none⟩=some (.slice Ao110 x547000_1.length co110):=(qai BK546.out 0).trans rfl;have hcz114_1:w113.cell? ⟨gb546,1,none⟩=some (.int .i64 t560):=(qai BK546.out 1).trans rfl;have hfz114_0:=qah BK546.out 0;have hfz114_1:=qah BK546.out 1;have hnb115:=NB542_0.out;have hnc115:=NB0_542.out;have hcz116_0:w113.cell? ⟨gb542,0,none⟩=some (.slice none 0 0):=(qai BK542.out 0).trans rfl;have hcz116_1:w113.cell? ⟨gb542,1,none⟩=some (.int .i64 0):=(qai BK542.out 1).trans rfl;have hfz116_0:=qah BK542.out 0;have hfz116_1:=qah BK542.out 1))
       refine bodyPost_ret (results_cell_row rfl _ _ gb542 68 #[.slice Ao110 x547000_1.length co110,.int .i64 t560] (0,0) _ rfl (by(with_reducible repeat(first|refine qae ?_ _|refine qaf ?_|refine qad ?_ _));refine qaq (cs:=#[.slice Ao110 x547000_1.length co110,.int .i64 0]) ?_ 1 _ rfl;(with_reducible repeat(first|refine qae ?_ _|refine qaf ?_|refine qad ?_ _));refine qaq (cs:=#[.slice none 0 0,.int .i64 0]) ?_ 0 _ rfl;(with_reducible repeat(first|refine qae ?_ _|refine qaf ?_|refine qad ?_ _));exact BK542.out) Try.underlying68 rfl (by kernel_rfl)) rfl ?_
       exact⟨_,by first|rfl|(simp[qan,qam]<;>rfl)|(simp[*,qan,qam]<;>rfl),by(with_reducible repeat(first|apply Kd.N_alloc|apply Kd.N_drewN|apply Kd.N_drew));exact Kd.N_mono (Kd.N_far (p:=⟨gb542,1,none⟩) (Kd.N_far (p:=⟨gb542,0,none⟩) (Kd.N_mono HO_547000.out (fun k_ hk=>(⟨hk,hk.2.1⟩:_∧k_≠gb542))) (fun _ hk=>hk.2) (.slice Ao110 x547000_1.length co110)) (fun _ hk=>hk.2) (.int .i64 t560)) (fun _ hk=>hk.1.1),by repeat(first|(with_reducible first|exact HI0.out|apply IsS111.alloc|apply IsS111.drewN|apply IsS111.drew|apply IsS111.set_1|refine IsS111.far ?_ NB0_542.out _|refine IsS111.far ?_ NB0_546.out _)|exact HI0.out),by repeat(first|(with_reducible first|exact HB.out|apply qac|apply qaa|apply qab|refine qag ?_ (IsS111.ge HI0.out)|refine qag ?_ GE542.out|refine qag ?_ GE546.out)|exact HB.out),by repeat(first|(with_reducible first|exact HK.out|apply KeepBut.set_|apply qar|apply qau|apply qas|refine qaw ?_ GW542.out _|refine qaw ?_ GW546.out _)|exact HK.out)⟩
end Go.Proofs.Ytkbjgmfghhgodaa.Print
