-- Written by squeeze.py: not trusted, Lean checks it.
import Derived.Test.YtjccnaklodbbfaaZK
import Derived.Test.YtjccnaklodbbfaaZf0
import Derived.Test.YtjccnaklodbbfaaZf1
import Derived.Test.YtjccnaklodbbfaaZs0
namespace Go.Proofs.Ytjccnaklodbbfaa.Print
open Go.RowKit Go.Proofs.YtjccnaklodbbfaaW.PrintWords Go.Proofs.YtjccnaklodbbfaaW.PrintLast Go.Proofs.YtjccnaklodbbfaaW.PrintMore
attribute [local go_sem] max2_int min2_int max_two min_two max_three min_three max_four min_four
set_option linter.unusedVariables false
set_option linter.unusedSimpArgs false
def spec_l71Rec.j0:Nat→List Int→Int→Int→Int→List Int→Option (Int × Int × List Int × Int)
 |0,_,_,_,_,_=>none
 |k+1,x1000,x1001,x683000,x683001,x683002=>(spec_l6Rd_pick.f k x1000 x1001 20).bind fun bt692=>(if bt692.1=0 then((spec_l6Rd_pick.f k x1000 bt692.2 9).bind fun bt694=>(some (bt694.1,x683001,x683002,bt694.2))) else(if bt692.1=1 then((some (([0,6,7]:List Int):List Int)).bind fun y696=>((spec_l6Rd_pick.f k x1000 bt692.2 3).bind fun bt699=>(if 0≤bt699.1 then(if bt699.1<(y696.length:Int) then(some (x683000,rd y696 bt699.1,x683002,bt699.2)) else(none)) else(none)))) else(if bt692.1=2 then((spec_l6Rd_pick.f k x1000 bt692.2 5).bind fun bt702=>(if x683002.length<17592186044416 then(some (x683000,x683001,(x683002++[bt702.1]),bt702.2)) else(none))) else(some (x683000,x683001,x683002,bt692.2)))))
def spec_l71Rec.f (k:Nat) (s0_0:List Int) (s0_1:Int):Option (Int × Int × List Int × Int):=(spec_l6Rd_pick.f k s0_0 s0_1 7).bind fun bt675=>((spec_l6Rd_pick.f k s0_0 bt675.2 4).bind fun bt677=>(if(wrap64 (1+bt675.1))=1 then((spec_l6Rd_pick.f k s0_0 bt677.2 3).bind fun bt683=>(spec_l71Rec.j0 k s0_0 bt683.2 (wrap64 (1+bt675.1)) (wrap64 (1+bt677.1)) (([wrap64 (1+bt683.1)]:List Int)))) else(if(wrap64 (1+bt675.1))=4 then((spec_l71Many.f k s0_0 bt677.2).bind fun bt688=>(spec_l71Rec.j0 k s0_0 bt688.2 (wrap64 (1+bt675.1)) (wrap64 (1+bt677.1)) bt688.1)) else(spec_l71Rec.j0 k s0_0 bt677.2 (wrap64 (1+bt675.1)) (wrap64 (1+bt677.1)) (([]:List Int))))))
theorem spec_l71Rec.mono_l:∀k,(∀y0 y1 y2 y3 y4,LeO (spec_l71Rec.j0 k y0 y1 y2 y3 y4) (spec_l71Rec.j0 (k+1) y0 y1 y2 y3 y4))
 |0=>fun _ _ _ _ _ r h=>by simp[spec_l71Rec.j0] at h
 |k+1=>by
  have ih0:=spec_l71Rec.mono_l k
  ·intro y0 y1 y2 y3 y4
   unfold spec_l71Rec.j0
   repeat' first
   |(with_reducible exact ih0 _ _ _ _ _)
   |(with_reducible exact spec_l6Rd_pick.mono _ _ _ _)
   |(with_reducible exact spec_l71Many.mono _ _ _)
   |(with_reducible exact LeO.refl _)
   |(with_reducible exact LeO.none _)
   |(with_reducible refine LeO.ite ?_ ?_)
   |(with_reducible refine LeO.bind ?_ (fun _=>?_))
   |exact ih0 _ _ _ _ _
   |exact spec_l6Rd_pick.mono _ _ _ _
   |exact spec_l71Many.mono _ _ _
   |exact LeO.none _
   |refine LeO.ite ?_ ?_
   |refine LeO.bind ?_ (fun _=>?_)
theorem spec_l71Rec.mono:∀a0 a1 k,LeO (spec_l71Rec.f k a0 a1) (spec_l71Rec.f (k+1) a0 a1):=by
 intro a0 a1 k
 have ih0:=spec_l71Rec.mono_l k
 unfold spec_l71Rec.f
 repeat' first
   |(with_reducible exact ih0 _ _ _ _ _)
   |(with_reducible exact spec_l6Rd_pick.mono _ _ _ _)
   |(with_reducible exact spec_l71Many.mono _ _ _)
   |(with_reducible exact LeO.refl _)
   |(with_reducible exact LeO.none _)
   |(with_reducible refine LeO.ite ?_ ?_)
   |(with_reducible refine LeO.bind ?_ (fun _=>?_))
   |exact ih0 _ _ _ _ _
   |exact spec_l6Rd_pick.mono _ _ _ _
   |exact spec_l71Many.mono _ _ _
   |exact LeO.none _
   |refine LeO.ite ?_ ?_
   |refine LeO.bind ?_ (fun _=>?_)
def spec_l71Rec.T13:Bool × List (List Nat × List Nat):=(true,[([],[]),([0],[0]),([],[]),([2],[2]),([3],[3]),([1,4,3],[1,4]),([0,1,2,3,4,5],[]),([6,5,5,0,1,2,3,4,5],[5,6])])
def spec_l71Rec.B13:List Nat:=[0,1,0,4,12,31,63,127]
theorem spec_l71Rec.tab13:rtab .any (opsOf Try.f85 13)=spec_l71Rec.T13:=by kernel_rfl
theorem spec_l71Rec.bits13:waitsOk spec_l71Rec.T13.2 spec_l71Rec.B13=true:=by kernel_rfl
set_option maxHeartbeats 8000000 in
set_option maxRecDepth 100000 in
theorem spec_l71Rec.calls (k:Nat) (g:Nat) (s0_0:List Int) (s0_1:Int) (r1:Int) (r2:Int) (r3:List Int) (r4:Int) (w0 w:World) (hI:IsS122 w0 w g s0_0 s0_1) (hB:Below w0.heap.size w0 w) (h:spec_l71Rec.f k s0_0 s0_1=some (r1,r2,r3,r4)) :
  Calls Try.prog 85 #[.pointer (some ⟨g,0,none⟩)] w fun e w'=>∃v2_:Value,e=.returned (.agg #[.int .i64 r1,.int .i64 r2,v2_])∧Kd.Q (Kd.int .i64) 3 w' w.heap.size (fun _=>True) v2_ r3∧IsS122 w0 w' g s0_0 r4∧Below w0.heap.size w0 w'∧KeepBut w w' g none:=by
 have hu62:=Try.underlying62
 have HI0:=Aside0.mk hI
 have HK:=Aside0.mk (KeepBut.refl w g none)
 have HL:=Aside0.mk hB.size
 clear hI
 have HW0:=Aside0.mk hB.size
 have HB:=Aside0.mk hB
 clear hB
 have H:((spec_l6Rd_pick.f k s0_0 s0_1 7).bind fun bt675=>((spec_l6Rd_pick.f k s0_0 bt675.2 4).bind fun bt677=>(if(wrap64 (1+bt675.1))=1 then((spec_l6Rd_pick.f k s0_0 bt677.2 3).bind fun bt683=>(spec_l71Rec.j0 k s0_0 bt683.2 (wrap64 (1+bt675.1)) (wrap64 (1+bt677.1)) (([wrap64 (1+bt683.1)]:List Int)))) else(if(wrap64 (1+bt675.1))=4 then((spec_l71Many.f k s0_0 bt677.2).bind fun bt688=>(spec_l71Rec.j0 k s0_0 bt688.2 (wrap64 (1+bt675.1)) (wrap64 (1+bt677.1)) bt688.1)) else(spec_l71Rec.j0 k s0_0 bt677.2 (wrap64 (1+bt675.1)) (wrap64 (1+bt677.1)) (([]:List Int)))))))=some (r1,r2,r3,r4):=h
 clear h
 replace H:=Option.bind_eq_some_iff.mp H
 obtain⟨⟨t675,t676⟩,A20,H⟩:=H
 replace H:((spec_l6Rd_pick.f k s0_0 t676 4).bind fun bt677=>(if(wrap64 (1+t675))=1 then((spec_l6Rd_pick.f k s0_0 bt677.2 3).bind fun bt683=>(spec_l71Rec.j0 k s0_0 bt683.2 (wrap64 (1+t675)) (wrap64 (1+bt677.1)) (([wrap64 (1+bt683.1)]:List Int)))) else(if(wrap64 (1+t675))=4 then((spec_l71Many.f k s0_0 bt677.2).bind fun bt688=>(spec_l71Rec.j0 k s0_0 bt688.2 (wrap64 (1+t675)) (wrap64 (1+bt677.1)) bt688.1)) else(spec_l71Rec.j0 k s0_0 bt677.2 (wrap64 (1+t675)) (wrap64 (1+bt677.1)) (([]:List Int))))))=some (r1,r2,r3,r4):=H
 have A2:=Aside0.mk A20
 clear A20
 replace H:=Option.bind_eq_some_iff.mp H
 obtain⟨⟨t677,t678⟩,A30,H⟩:=H
 replace H:(if(wrap64 (1+t675))=1 then((spec_l6Rd_pick.f k s0_0 t678 3).bind fun bt683=>(spec_l71Rec.j0 k s0_0 bt683.2 (wrap64 (1+t675)) (wrap64 (1+t677)) (([wrap64 (1+bt683.1)]:List Int)))) else(if(wrap64 (1+t675))=4 then((spec_l71Many.f k s0_0 t678).bind fun bt688=>(spec_l71Rec.j0 k s0_0 bt688.2 (wrap64 (1+t675)) (wrap64 (1+t677)) bt688.1)) else(spec_l71Rec.j0 k s0_0 t678 (wrap64 (1+t675)) (wrap64 (1+t677)) (([]:List Int)))))=some (r1,r2,r3,r4):=H
 have A3:=Aside0.mk A30
 clear A30
 obtain⟨y679,hy679⟩:∃y_:List Int,y_=(([]:List Int)):=⟨_,rfl⟩
 replace H:(if(wrap64 (1+t675))=1 then((spec_l6Rd_pick.f k s0_0 t678 3).bind fun bt683=>(spec_l71Rec.j0 k s0_0 bt683.2 (wrap64 (1+t675)) (wrap64 (1+t677)) (([wrap64 (1+bt683.1)]:List Int)))) else(if(wrap64 (1+t675))=4 then((spec_l71Many.f k s0_0 t678).bind fun bt688=>(spec_l71Rec.j0 k s0_0 bt688.2 (wrap64 (1+t675)) (wrap64 (1+t677)) bt688.1)) else(spec_l71Rec.j0 k s0_0 t678 (wrap64 (1+t675)) (wrap64 (1+t677)) y679)))=some (r1,r2,r3,r4):=by first|(rw[hy679];with_reducible exact H)|(have H2_:=(Option.bind_some _ _).symm.trans H;rw[hy679];with_reducible exact H2_)|(have H2_:=(Option.bind_some _ _).symm.trans H;with_reducible exact H2_)|with_reducible exact H|(rw[hy679];exact H)|exact H
 have Ny679:=Aside0.mk hy679
 clear hy679
 have HC4:=Aside0.mk H
 clear H
 go_enter Try.func85,Try.ntmps85
 go_upto_block 0 with(first|((with_reducible refine qah (N:=2) rfl ?_);refine zX (N:=2) (cs:=#[.int .i64 0,.int .i64 0,.slice none 0 0]) (t:=62) ?_;intro gb674 hg w5 hbox hb;replace HB:=Aside0.mk (qab (by repeat(first|(with_reducible first|exact HB.out|apply qag|apply qad|apply qae|refine qac ?_ (IsS122.ge HI0.out))|exact HB.out)) hb);have BK674:=Aside0.mk hbox;have GW674:=Aside0.mk ((by rw[hg];exact(qao (w:=w) (g:=g) (row:=none) (za10 HK)):w.heap.size≤gb674));have GE674:=Aside0.mk ((Nat.le_trans HW0.out (by rw[hg];exact(qao (w:=w) (g:=g) (row:=none) (za10 HK)):w.heap.size≤gb674):w0.heap.size≤gb674));replace HK:=Aside0.mk (KeepBut.trans (za10 HK) (KeepBut.of_below hb g none) (.inl rfl));have NB0_674:=Aside0.mk ((by rw[hg];exact Nat.ne_of_lt (IsS122.lt (show IsS122 w0 _ g s0_0 s0_1 from by repeat(first|(with_reducible first|exact HI0.out|apply IsS122.alloc|apply IsS122.drewN|apply IsS122.drew|apply IsS122.set_1)|exact HI0.out))):g≠gb674));have NB674_0:=Aside0.mk ((by rw[hg];exact Nat.ne_of_gt (IsS122.lt (show IsS122 w0 _ g s0_0 s0_1 from by repeat(first|(with_reducible first|exact HI0.out|apply IsS122.alloc|apply IsS122.drewN|apply IsS122.drew|apply IsS122.set_1)|exact HI0.out))):gb674≠g));replace HI0:=Aside0.mk (IsS122.below (by repeat(first|(with_reducible first|exact HI0.out|apply IsS122.alloc|apply IsS122.drewN|apply IsS122.drew|apply IsS122.set_1)|exact HI0.out)) hb);clear hb hbox hg)|((with_reducible refine qaf (f:=65) rfl ?_);refine zF (some 5) Try.func65 #[.pointer (some ⟨g,0,none⟩),.int .i64 7] ?_;(with_reducible refine(spec_l6Rd_pick.calls k g s0_0 s0_1 7 t675 t676 w0 _ ?side1 ?side2 A2.out).mono ?_);(case side1=>repeat(first|(with_reducible first|exact HI0.out|apply IsS122.alloc|apply IsS122.drewN|apply IsS122.drew|apply IsS122.set_1|refine IsS122.far ?_ NB0_674.out _)|exact HI0.out));(case side2=>exact(by repeat(first|(with_reducible first|exact HB.out|apply qag|apply qad|apply qae|refine qac ?_ (IsS122.ge HI0.out)|refine qac ?_ GE674.out)|exact HB.out)));rintro e w6 ⟨rfl,hi,hb,hk⟩;refine⟨_,rfl,?_⟩;replace BK674:=Aside0.mk (KeepBut.blk hk (zB BK674) NB674_0.out (by simp));replace HK:=Aside0.mk (KeepBut.trans (za13 HK GW674) hk (.inl rfl));replace HB:=Aside0.mk hb;replace HI0:=Aside0.mk hi;(try clear hb);(try clear hk);(try clear hi))|((with_reducible refine qaf (f:=65) rfl ?_);refine zF (some 8) Try.func65 #[.pointer (some ⟨g,0,none⟩),.int .i64 4] ?_;(with_reducible refine(spec_l6Rd_pick.calls k g s0_0 t676 4 t677 t678 w0 _ ?side1 ?side2 A3.out).mono ?_);(case side1=>repeat(first|(with_reducible first|exact HI0.out|apply IsS122.alloc|apply IsS122.drewN|apply IsS122.drew|apply IsS122.set_1|refine IsS122.far ?_ NB0_674.out _)|exact HI0.out));(case side2=>exact(by repeat(first|(with_reducible first|exact HB.out|apply qag|apply qad|apply qae|refine qac ?_ (IsS122.ge HI0.out)|refine qac ?_ GE674.out)|exact HB.out)));rintro e w7 ⟨rfl,hi,hb,hk⟩;refine⟨_,rfl,?_⟩;replace BK674:=Aside0.mk (KeepBut.blk hk (zB BK674) NB674_0.out (by simp));replace HK:=Aside0.mk (KeepBut.trans (za13 HK GW674) hk (.inl rfl));replace HB:=Aside0.mk hb;replace HI0:=Aside0.mk hi;(try clear hb);(try clear hk);(try clear hi))|((with_reducible refine qah (N:=10) rfl ?_);refine Kd.R_lit (Kd.int .i64) _ 3 (by rfl) (N:=10) (by rfl) (xs:=([]:List Int)) (inner:=[]) (ok:=fun _=>True) (okp:=fun _=>True) (by first|(go_simp;done)|(go_simp;rfl)) (Reps.none _ _) (fun _ hk=>hk) trivial (Below.refl _ _) (Nat.le_refl _) (by simp) ?_;intro v680 w8 ho9 hb hg_ hnew_;clear hg_ hnew_;(first|rw[←Ny679.out] at ho9|(simp only[Int.reduceToNat] at ho9;rw[←Ny679.out] at ho9));have HO681:=Aside0.mk (Kd.R_lower ho9 (qao (w:=w) (g:=g) (row:=none) (za13 HK GW674)));replace BK674:=Aside0.mk (qaa (zB BK674) hb);replace HK:=Aside0.mk (KeepBut.trans (za13 HK GW674) (KeepBut.of_below hb g none) (.inl rfl));replace HB:=Aside0.mk (qab (by repeat(first|(with_reducible first|exact HB.out|apply qag|apply qad|apply qae|refine qac ?_ (IsS122.ge HI0.out)|refine qac ?_ GE674.out)|exact HB.out)) hb);replace HI0:=Aside0.mk (IsS122.below (by repeat(first|(with_reducible first|exact HI0.out|apply IsS122.alloc|apply IsS122.drewN|apply IsS122.drew|apply IsS122.set_1|refine IsS122.far ?_ NB0_674.out _)|exact HI0.out)) hb);clear hb ho9;obtain⟨Ao10,co10,eo10⟩:=Kd.R_slice HO681.out;subst eo10)|((with_reducible refine qah (N:=3) rfl ?_);refine zX (N:=3) (cs:=#[.int .i64 0,.int .i64 0,.slice none 0 0]) (t:=62) ?_;intro gb682 hg w11 hbox hb;replace HO681:=Aside0.mk (Kd.R_below (za3 HO681) hb);replace HB:=Aside0.mk (qab (by repeat(first|(with_reducible first|exact HB.out|apply qag|apply qad|apply qae|refine qac ?_ (IsS122.ge HI0.out)|refine qac ?_ GE674.out)|exact HB.out)) hb);have BK682:=Aside0.mk hbox;have GW682:=Aside0.mk ((by rw[hg];exact(qao (w:=w) (g:=g) (row:=none) (za13 HK GW674)):w.heap.size≤gb682));have GE682:=Aside0.mk ((Nat.le_trans HW0.out (by rw[hg];exact(qao (w:=w) (g:=g) (row:=none) (za13 HK GW674)):w.heap.size≤gb682):w0.heap.size≤gb682));replace HK:=Aside0.mk (KeepBut.trans (za13 HK GW674) (KeepBut.of_below hb g none) (.inl rfl));have NB674_682:=zL BK674 hg;have NB682_674:=zG BK674 hg;replace BK674:=Aside0.mk (qaa (zB BK674) hb);have NB0_682:=Aside0.mk ((by rw[hg];exact Nat.ne_of_lt (IsS122.lt (show IsS122 w0 _ g s0_0 t678 from by repeat(first|(with_reducible first|exact HI0.out|apply IsS122.alloc|apply IsS122.drewN|apply IsS122.drew|apply IsS122.set_1|refine IsS122.far ?_ NB0_674.out _)|exact HI0.out))):g≠gb682));have NB682_0:=Aside0.mk ((by rw[hg];exact Nat.ne_of_gt (IsS122.lt (show IsS122 w0 _ g s0_0 t678 from by repeat(first|(with_reducible first|exact HI0.out|apply IsS122.alloc|apply IsS122.drewN|apply IsS122.drew|apply IsS122.set_1|refine IsS122.far ?_ NB0_674.out _)|exact HI0.out))):gb682≠g));replace HI0:=Aside0.mk (IsS122.below (by repeat(first|(with_reducible first|exact HI0.out|apply IsS122.alloc|apply IsS122.drewN|apply IsS122.drew|apply IsS122.set_1|refine IsS122.far ?_ NB0_674.out _)|exact HI0.out)) hb);clear hb hbox hg;have hnb12:=NB682_674.out;have hnc12:=NB674_682.out;have hnb13:=NB682_0.out;have hnc13:=NB0_682.out;obtain⟨hcz14_0,hcz14_1,hcz14_2,hfz14_0,hfz14_1,hfz14_2⟩:=zC3 BK682))
 (try simp only[Act.put,List.setIfInBounds_toArray,List.set_cons_zero,List.set_cons_succ])
 go_cut [] (fun wc=>∃(kq:Nat) (x1001_3:Int) (x683002_3:List Int) (u683002:Value),Aside0 (spec_l71Rec.j0 kq s0_0 x1001_3 (wrap64 (1+t675)) (wrap64 (1+t677)) x683002_3=some (r1,r2,r3,r4))∧Aside0 (kq≤k)∧Aside0 (Kd.Q (Kd.int .i64) 3 wc w.heap.size (fun _=>True) u683002 x683002_3)∧Aside0 (wc.heap[gb674]?=some (.cells #[.int .i64 0,.int .i64 0,(.slice none 0 0)] 62 (0,0)))∧Aside0 (wc.heap[gb682]?=some (.cells #[.int .i64 (wrap64 (1+t675)),.int .i64 (wrap64 (1+t677)),u683002] 62 (0,0)))∧Aside0 (IsS122 w0 wc g s0_0 x1001_3)∧Aside0 (KeepBut w wc g none)∧Aside0 (Below w0.heap.size w0 wc))
 case first=>
  have H:=HC4.out
  clear HC4
  by_cases c15:(wrap64 (1+t675))=1
  ·rw[if_pos c15] at H
   have c15b0:((wrap64 (1+t675)) == 1)=true:=beq_iff_eq.mpr c15
   have c15b1:((wrap64 (1+t675)) != 1)=false:=bne_eq_false_iff_eq.mpr c15
   clear c15
   (first|rw[c15b0]|(simp only[qaj,qak];rw[c15b0])|skip)
   replace H:=Option.bind_eq_some_iff.mp H
   obtain⟨⟨t683,t684⟩,A160,H⟩:=H
   replace H:(spec_l71Rec.j0 k s0_0 t684 (wrap64 (1+t675)) (wrap64 (1+t677)) (([wrap64 (1+t683)]:List Int)))=some (r1,r2,r3,r4):=H
   have A16:=Aside0.mk A160
   clear A160
   obtain⟨y685,hy685⟩:∃y_:List Int,y_=(([wrap64 (1+t683)]:List Int)):=⟨_,rfl⟩
   replace H:(spec_l71Rec.j0 k s0_0 t684 (wrap64 (1+t675)) (wrap64 (1+t677)) y685)=some (r1,r2,r3,r4):=by first|(rw[hy685];with_reducible exact H)|(have H2_:=(Option.bind_some _ _).symm.trans H;rw[hy685];with_reducible exact H2_)|(have H2_:=(Option.bind_some _ _).symm.trans H;with_reducible exact H2_)|with_reducible exact H|(rw[hy685];exact H)|exact H
   have Ny685:=Aside0.mk hy685
   clear hy685
   have H':=Aside0.mk H
   clear H
   go_wp2_with(first|((with_reducible refine qaf (f:=65) rfl ?_);refine zF (some 17) Try.func65 #[.pointer (some ⟨g,0,none⟩),.int .i64 3] ?_;(with_reducible refine(spec_l6Rd_pick.calls k g s0_0 t678 3 t683 t684 w0 _ ?side1 ?side2 A16.out).mono ?_);(case side1=>repeat(first|(with_reducible first|exact HI0.out|apply IsS122.alloc|apply IsS122.drewN|apply IsS122.drew|apply IsS122.set_1|refine IsS122.far ?_ NB0_674.out _|refine IsS122.far ?_ NB0_682.out _)|exact HI0.out));(case side2=>exact(by repeat(first|(with_reducible first|exact HB.out|apply qag|apply qad|apply qae|refine qac ?_ (IsS122.ge HI0.out)|refine qac ?_ GE674.out|refine qac ?_ GE682.out)|exact HB.out)));rintro e w17 ⟨rfl,hi,hb,hk⟩;refine⟨_,rfl,?_⟩;replace BK674:=Aside0.mk (KeepBut.blk hk (g':=gb674) (o:=.cells #[.int .i64 0,.int .i64 0,.slice none 0 0] 62 (0,0)) (za6 NB674_682 BK674) NB674_0.out (by simp));replace HO681:=Aside0.mk (Kd.R_mono (Kd.R_keep (IsS122.apart (show IsS122 w0 _ g s0_0 t678 from by repeat(first|(with_reducible first|exact HI0.out|apply IsS122.alloc|apply IsS122.drewN|apply IsS122.drew|apply IsS122.set_1|refine IsS122.far ?_ NB0_674.out _|refine IsS122.far ?_ NB0_682.out _)|exact HI0.out)) (by(with_reducible repeat(first|apply Kd.R_alloc|apply Kd.R_drewN|apply Kd.R_drew));exact(Kd.R_mono (Kd.R_far (p:=⟨gb682,2,none⟩) (Kd.R_far (p:=⟨gb682,1,none⟩) (Kd.R_far (p:=⟨gb682,0,none⟩) (Kd.R_types HO681.out BK682.out (by decide)) (fun _ hk=>hk.2) (.int .i64 (wrap64 (1+t675)))) (fun _ hk=>hk.2) (.int .i64 (wrap64 (1+t677)))) (fun _ hk=>hk.2) (.slice Ao10 y679.length co10)) (fun _ h_=>h_.1))) (by decide)) hk (fun _ h=>h.2)) (fun _ h=>h.1));replace BK682:=Aside0.mk (KeepBut.blk hk (g':=gb682) (o:=.cells #[.int .i64 (wrap64 (1+t675)),.int .i64 (wrap64 (1+t677)),.slice Ao10 y679.length co10] 62 (0,0)) (by(with_reducible repeat(first|refine blk_drewN ?_ _|refine blk_drew ?_|refine blk_alloc ?_ _));refine qai (cs:=#[.int .i64 (wrap64 (1+t675)),.int .i64 (wrap64 (1+t677)),.slice none 0 0]) ?_ 2 _ rfl;(with_reducible repeat(first|refine blk_drewN ?_ _|refine blk_drew ?_|refine blk_alloc ?_ _));refine qai (cs:=#[.int .i64 (wrap64 (1+t675)),.int .i64 0,.slice none 0 0]) ?_ 1 _ rfl;(with_reducible repeat(first|refine blk_drewN ?_ _|refine blk_drew ?_|refine blk_alloc ?_ _));refine qai (cs:=#[.int .i64 0,.int .i64 0,.slice none 0 0]) ?_ 0 _ rfl;(with_reducible repeat(first|refine blk_drewN ?_ _|refine blk_drew ?_|refine blk_alloc ?_ _));exact BK682.out) NB682_0.out (by simp));replace HK:=Aside0.mk (KeepBut.trans (za14 HK GW674 GW682) hk (.inl rfl));replace HB:=Aside0.mk hb;replace HI0:=Aside0.mk hi;(try clear hb);(try clear hk);(try clear hi))|((with_reducible refine qah (N:=19) rfl ?_);refine Kd.R_lit (Kd.int .i64) _ 3 (by rfl) (N:=19) (by rfl) (xs:=([wrap64 (1+t683)]:List Int)) (inner:=[.int .i64 (wrap64 (1+t683))]) (ok:=fun _=>True) (okp:=fun _=>True) (by first|(go_simp;done)|(go_simp;rfl)) ?hp (fun _ hk=>hk) trivial (Below.refl _ _) (Nat.le_refl _) (by simp) ?_;(case hp=>exact(Reps.one (show Kd.M (Kd.int .i64) _ _ _ (wrap64 (1+t683)) [.int .i64 (wrap64 (1+t683))] from rfl) (Reps.none _ _)));intro v686 w18 ho19 hb hg_ hnew_;clear hg_ hnew_;(first|rw[←Ny685.out] at ho19|(simp only[Int.reduceToNat] at ho19;rw[←Ny685.out] at ho19));have HO687:=Aside0.mk (Kd.R_lower (Kd.R_new' ho19 (Kd.R_lt (za3 HO681))) (qao (w:=w) (g:=g) (row:=none) (za14 HK GW674 GW682)));replace HO681:=Aside0.mk (Kd.R_elder' (za3 HO681) (Kd.R_base ho19) hb);replace BK674:=Aside0.mk (qaa (zB BK674) hb);replace BK682:=Aside0.mk (qaa (zB BK682) hb);replace HK:=Aside0.mk (KeepBut.trans (za14 HK GW674 GW682) (KeepBut.of_below hb g none) (.inl rfl));replace HB:=Aside0.mk (qab (by repeat(first|(with_reducible first|exact HB.out|apply qag|apply qad|apply qae|refine qac ?_ (IsS122.ge HI0.out)|refine qac ?_ GE674.out|refine qac ?_ GE682.out)|exact HB.out)) hb);replace HI0:=Aside0.mk (IsS122.below (by repeat(first|(with_reducible first|exact HI0.out|apply IsS122.alloc|apply IsS122.drewN|apply IsS122.drew|apply IsS122.set_1|refine IsS122.far ?_ NB0_674.out _|refine IsS122.far ?_ NB0_682.out _)|exact HI0.out)) hb);clear hb ho19;obtain⟨Ao20,co20,eo20⟩:=Kd.R_slice HO687.out;subst eo20;have hnb21:=NB682_674.out;have hnc21:=NB674_682.out;have hnb22:=NB682_0.out;have hnc22:=NB0_682.out;obtain⟨hcz23_0,hcz23_1,hcz23_2,hfz23_0,hfz23_1,hfz23_2⟩:=zC3 BK682))
   go_meet
   case rel=>exact⟨_,(t684),(y685),(.slice Ao20 y685.length co20),H',⟨za23⟩,⟨Kd.Q_of_R (by(with_reducible repeat(first|apply Kd.R_alloc|apply Kd.R_drewN|apply Kd.R_drew));exact Kd.R_mono (Kd.R_far (p:=⟨gb682,2,none⟩) (Kd.R_types HO687.out BK682.out (by decide)) (fun _ hk=>hk.2) (.slice Ao20 y685.length co20)) (fun _ hk=>trivial))⟩,⟨za15 NB674_682 BK674⟩,⟨by(with_reducible repeat(first|refine blk_drewN ?_ _|refine blk_drew ?_|refine blk_alloc ?_ _));refine qai (cs:=#[.int .i64 (wrap64 (1+t675)),.int .i64 (wrap64 (1+t677)),.slice Ao10 y679.length co10]) ?_ 2 _ rfl;(with_reducible repeat(first|refine blk_drewN ?_ _|refine blk_drew ?_|refine blk_alloc ?_ _));exact BK682.out⟩,⟨by repeat(first|(with_reducible first|exact HI0.out|apply IsS122.alloc|apply IsS122.drewN|apply IsS122.drew|apply IsS122.set_1|refine IsS122.far ?_ NB0_674.out _|refine IsS122.far ?_ NB0_682.out _)|exact HI0.out)⟩,⟨za14 HK GW674 GW682⟩,⟨by repeat(first|(with_reducible first|exact HB.out|apply qag|apply qad|apply qae|refine qac ?_ (IsS122.ge HI0.out)|refine qac ?_ GE674.out|refine qac ?_ GE682.out)|exact HB.out)⟩⟩
  ·rw[if_neg c15] at H
   have c15b0:((wrap64 (1+t675)) == 1)=false:=beq_eq_false_iff_ne.mpr c15
   have c15b1:((wrap64 (1+t675)) != 1)=true:=bne_iff_ne.mpr c15
   (first|rw[c15b0]|(simp only[qaj,qak];rw[c15b0])|skip)
   by_cases c24:(wrap64 (1+t675))=4
   ·rw[if_pos c24] at H
    have c24b0:((wrap64 (1+t675)) == 4)=true:=beq_iff_eq.mpr c24
    have c24b1:((wrap64 (1+t675)) != 4)=false:=bne_eq_false_iff_eq.mpr c24
    clear c24
    replace H:=Option.bind_eq_some_iff.mp H
    obtain⟨⟨t688,t691⟩,A250,H⟩:=H
    replace H:(spec_l71Rec.j0 k s0_0 t691 (wrap64 (1+t675)) (wrap64 (1+t677)) t688)=some (r1,r2,r3,r4):=H
    have A25:=Aside0.mk A250
    clear A250
    have H':=Aside0.mk H
    clear H
    go_wp2_with(first|((with_reducible refine qaf (f:=88) rfl ?_);refine zF (some 24) Try.func88 #[.pointer (some ⟨g,0,none⟩)] ?_;(with_reducible refine(spec_l71Many.calls k g s0_0 t678 t688 t691 w0 _ ?side1 ?side2 A25.out).mono ?_);(case side1=>repeat(first|(with_reducible first|exact HI0.out|apply IsS122.alloc|apply IsS122.drewN|apply IsS122.drew|apply IsS122.set_1|refine IsS122.far ?_ NB0_674.out _|refine IsS122.far ?_ NB0_682.out _)|exact HI0.out));(case side2=>exact(by repeat(first|(with_reducible first|exact HB.out|apply qag|apply qad|apply qae|refine qac ?_ (IsS122.ge HI0.out)|refine qac ?_ GE674.out|refine qac ?_ GE682.out)|exact HB.out)));rintro e w26 ⟨v689,rfl,ho0,hi,hb,hk⟩;refine⟨_,rfl,?_⟩;replace BK674:=Aside0.mk (KeepBut.blk hk (g':=gb674) (o:=.cells #[.int .i64 0,.int .i64 0,.slice none 0 0] 62 (0,0)) (za6 NB674_682 BK674) NB674_0.out (by simp));have HO690:=Aside0.mk (Kd.Q_lower (Kd.Q_new' ho0 (Kd.R_lt (by(with_reducible repeat(first|apply Kd.R_alloc|apply Kd.R_drewN|apply Kd.R_drew));exact(Kd.R_mono (Kd.R_far (p:=⟨gb682,2,none⟩) (Kd.R_far (p:=⟨gb682,1,none⟩) (Kd.R_far (p:=⟨gb682,0,none⟩) (Kd.R_types HO681.out BK682.out (by decide)) (fun _ hk=>hk.2) (.int .i64 (wrap64 (1+t675)))) (fun _ hk=>hk.2) (.int .i64 (wrap64 (1+t677)))) (fun _ hk=>hk.2) (.slice Ao10 y679.length co10)) (fun _ h_=>h_.1))))) (qao (w:=w) (g:=g) (row:=none) (za14 HK GW674 GW682)));replace HO681:=Aside0.mk (Kd.R_mono (Kd.R_told (Kd.R_oldK (IsS122.apart (show IsS122 w0 _ g s0_0 t678 from by repeat(first|(with_reducible first|exact HI0.out|apply IsS122.alloc|apply IsS122.drewN|apply IsS122.drew|apply IsS122.set_1|refine IsS122.far ?_ NB0_674.out _|refine IsS122.far ?_ NB0_682.out _)|exact HI0.out)) (by(with_reducible repeat(first|apply Kd.R_alloc|apply Kd.R_drewN|apply Kd.R_drew));exact(Kd.R_mono (Kd.R_far (p:=⟨gb682,2,none⟩) (Kd.R_far (p:=⟨gb682,1,none⟩) (Kd.R_far (p:=⟨gb682,0,none⟩) (Kd.R_types HO681.out BK682.out (by decide)) (fun _ hk=>hk.2) (.int .i64 (wrap64 (1+t675)))) (fun _ hk=>hk.2) (.int .i64 (wrap64 (1+t677)))) (fun _ hk=>hk.2) (.slice Ao10 y679.length co10)) (fun _ h_=>h_.1))) (by decide)) hk) (Kd.Q_base ho0)) (fun _ h_=>h_.1));replace BK682:=Aside0.mk (KeepBut.blk hk (g':=gb682) (o:=.cells #[.int .i64 (wrap64 (1+t675)),.int .i64 (wrap64 (1+t677)),.slice Ao10 y679.length co10] 62 (0,0)) (by(with_reducible repeat(first|refine blk_drewN ?_ _|refine blk_drew ?_|refine blk_alloc ?_ _));refine qai (cs:=#[.int .i64 (wrap64 (1+t675)),.int .i64 (wrap64 (1+t677)),.slice none 0 0]) ?_ 2 _ rfl;(with_reducible repeat(first|refine blk_drewN ?_ _|refine blk_drew ?_|refine blk_alloc ?_ _));refine qai (cs:=#[.int .i64 (wrap64 (1+t675)),.int .i64 0,.slice none 0 0]) ?_ 1 _ rfl;(with_reducible repeat(first|refine blk_drewN ?_ _|refine blk_drew ?_|refine blk_alloc ?_ _));refine qai (cs:=#[.int .i64 0,.int .i64 0,.slice none 0 0]) ?_ 0 _ rfl;(with_reducible repeat(first|refine blk_drewN ?_ _|refine blk_drew ?_|refine blk_alloc ?_ _));exact BK682.out) NB682_0.out (by simp));replace HK:=Aside0.mk (KeepBut.trans (za14 HK GW674 GW682) hk (.inl rfl));replace HB:=Aside0.mk hb;replace HI0:=Aside0.mk hi;(try clear hb);(try clear hk);(try clear hi);(try clear ho0);obtain⟨Ao27,co27,eo27,_⟩:=Kd.Q_slice HO690.out;subst eo27;have hnb28:=NB682_674.out;have hnc28:=NB674_682.out;have hnb29:=NB682_0.out;have hnc29:=NB0_682.out;obtain⟨hcz30_0,hcz30_1,hcz30_2,hfz30_0,hfz30_1,hfz30_2⟩:=zC3 BK682))
    go_meet
    case rel=>exact⟨_,(t691),(t688),(.slice Ao27 t688.length co27),H',⟨za23⟩,⟨by(with_reducible repeat(first|apply Kd.Q_alloc|apply Kd.Q_drewN|apply Kd.Q_drew));exact Kd.Q_mono (Kd.Q_far (p:=⟨gb682,2,none⟩) (Kd.Q_types HO690.out BK682.out (by decide)) (fun _ hk=>hk.2) (.slice Ao27 t688.length co27)) (fun _ hk=>trivial)⟩,⟨za15 NB674_682 BK674⟩,⟨by(with_reducible repeat(first|refine blk_drewN ?_ _|refine blk_drew ?_|refine blk_alloc ?_ _));refine qai (cs:=#[.int .i64 (wrap64 (1+t675)),.int .i64 (wrap64 (1+t677)),.slice Ao10 y679.length co10]) ?_ 2 _ rfl;(with_reducible repeat(first|refine blk_drewN ?_ _|refine blk_drew ?_|refine blk_alloc ?_ _));exact BK682.out⟩,⟨by repeat(first|(with_reducible first|exact HI0.out|apply IsS122.alloc|apply IsS122.drewN|apply IsS122.drew|apply IsS122.set_1|refine IsS122.far ?_ NB0_674.out _|refine IsS122.far ?_ NB0_682.out _)|exact HI0.out)⟩,⟨za14 HK GW674 GW682⟩,⟨by repeat(first|(with_reducible first|exact HB.out|apply qag|apply qad|apply qae|refine qac ?_ (IsS122.ge HI0.out)|refine qac ?_ GE674.out|refine qac ?_ GE682.out)|exact HB.out)⟩⟩
   ·rw[if_neg c24] at H
    have c24b0:((wrap64 (1+t675)) == 4)=false:=beq_eq_false_iff_ne.mpr c24
    have c24b1:((wrap64 (1+t675)) != 4)=true:=bne_iff_ne.mpr c24
    have H':=Aside0.mk H
    clear H
    go_wp2
    go_meet
    case rel=>exact⟨_,(t678),(y679),(.slice Ao10 y679.length co10),H',⟨za23⟩,⟨Kd.Q_of_R (by(with_reducible repeat(first|apply Kd.R_alloc|apply Kd.R_drewN|apply Kd.R_drew));exact Kd.R_mono (Kd.R_far (p:=⟨gb682,2,none⟩) (Kd.R_far (p:=⟨gb682,1,none⟩) (Kd.R_far (p:=⟨gb682,0,none⟩) (Kd.R_types HO681.out BK682.out (by decide)) (fun _ hk=>hk.2) (.int .i64 (wrap64 (1+t675)))) (fun _ hk=>hk.2) (.int .i64 (wrap64 (1+t677)))) (fun _ hk=>hk.2) (.slice Ao10 y679.length co10)) (fun _ hk=>trivial))⟩,⟨za6 NB674_682 BK674⟩,⟨by(with_reducible repeat(first|refine blk_drewN ?_ _|refine blk_drew ?_|refine blk_alloc ?_ _));refine qai (cs:=#[.int .i64 (wrap64 (1+t675)),.int .i64 (wrap64 (1+t677)),.slice none 0 0]) ?_ 2 _ rfl;(with_reducible repeat(first|refine blk_drewN ?_ _|refine blk_drew ?_|refine blk_alloc ?_ _));refine qai (cs:=#[.int .i64 (wrap64 (1+t675)),.int .i64 0,.slice none 0 0]) ?_ 1 _ rfl;(with_reducible repeat(first|refine blk_drewN ?_ _|refine blk_drew ?_|refine blk_alloc ?_ _));refine qai (cs:=#[.int .i64 0,.int .i64 0,.slice none 0 0]) ?_ 0 _ rfl;(with_reducible repeat(first|refine blk_drewN ?_ _|refine blk_drew ?_|refine blk_alloc ?_ _));exact BK682.out⟩,⟨by repeat(first|(with_reducible first|exact HI0.out|apply IsS122.alloc|apply IsS122.drewN|apply IsS122.drew|apply IsS122.set_1|refine IsS122.far ?_ NB0_674.out _|refine IsS122.far ?_ NB0_682.out _)|exact HI0.out)⟩,⟨za14 HK GW674 GW682⟩,⟨by repeat(first|(with_reducible first|exact HB.out|apply qag|apply qad|apply qae|refine qac ?_ (IsS122.ge HI0.out)|refine qac ?_ GE674.out|refine qac ?_ GE682.out)|exact HB.out)⟩⟩
 case rest=>
  clear HC4
  try clear c1
  try clear c2
  try clear p2
  try clear c6
  try clear p6
  try clear c8
  try clear c12
  try clear c13
  try clear c15
  try clear c15b0
  try clear c15b1
  try clear c21
  try clear c22
  try clear c24
  try clear c24b0
  try clear c24b1
  try clear c28
  try clear c29
  try clear hcz14_0
  try clear hcz14_1
  try clear hcz14_2
  try clear hcz23_0
  try clear hcz23_1
  try clear hcz23_2
  try clear hcz30_0
  try clear hcz30_1
  try clear hcz30_2
  try clear hfz14_0
  try clear hfz14_1
  try clear hfz14_2
  try clear hfz23_0
  try clear hfz23_1
  try clear hfz23_2
  try clear hfz30_0
  try clear hfz30_1
  try clear hfz30_2
  obtain⟨kq,x1001_3,x683002_3,u683002,HA,HJ3,HO_683002,BK674,BK682,HI0,HK,HB⟩:=hcut
  cases kq with
  |zero=>exact absurd HA.out (by simp[spec_l71Rec.j0])
  |succ kj3=>
   have H:=HA.out
   clear HA
   simp only[spec_l71Rec.j0] at H
   replace H:=Option.bind_eq_some_iff.mp H
   obtain⟨⟨t692,t693⟩,A310,H⟩:=H
   replace H:(if t692=0 then((spec_l6Rd_pick.f kj3 s0_0 t693 9).bind fun bt694=>(some (bt694.1,(wrap64 (1+t677)),x683002_3,bt694.2))) else(if t692=1 then((some (([0,6,7]:List Int):List Int)).bind fun y696=>((spec_l6Rd_pick.f kj3 s0_0 t693 3).bind fun bt699=>(if 0≤bt699.1 then(if bt699.1<(y696.length:Int) then(some ((wrap64 (1+t675)),rd y696 bt699.1,x683002_3,bt699.2)) else(none)) else(none)))) else(if t692=2 then((spec_l6Rd_pick.f kj3 s0_0 t693 5).bind fun bt702=>(if x683002_3.length<17592186044416 then(some ((wrap64 (1+t675)),(wrap64 (1+t677)),(x683002_3++[bt702.1]),bt702.2)) else(none))) else(some ((wrap64 (1+t675)),(wrap64 (1+t677)),x683002_3,t693)))))=some (r1,r2,r3,r4):=H
   have A31:=Aside0.mk A310
   clear A310
   by_cases c32:t692=0
   ·rw[if_pos c32] at H
    have c32b0:(t692 == 0)=true:=beq_iff_eq.mpr c32
    have c32b1:(t692 != 0)=false:=bne_eq_false_iff_eq.mpr c32
    clear c32
    replace H:=Option.bind_eq_some_iff.mp H
    obtain⟨⟨t694,t695⟩,A330,H⟩:=H
    replace H:(some (t694,(wrap64 (1+t677)),x683002_3,t695))=some (r1,r2,r3,r4):=H
    have A33:=Aside0.mk A330
    clear A330
    simp only[Option.some.injEq,Prod.mk.injEq] at H
    obtain⟨rfl,rfl,rfl,rfl⟩:=H
    go_wp2_with(first|((with_reducible refine qaf (f:=65) rfl ?_);refine zF (some 27) Try.func65 #[.pointer (some ⟨g,0,none⟩),.int .i64 20] ?_;(with_reducible refine(spec_l6Rd_pick.calls kj3 g s0_0 x1001_3 20 t692 t693 w0 _ ?side1 ?side2 A31.out).mono ?_);(case side1=>repeat(first|(with_reducible first|exact HI0.out|apply IsS122.alloc|apply IsS122.drewN|apply IsS122.drew|apply IsS122.set_1|refine IsS122.far ?_ NB0_674.out _|refine IsS122.far ?_ NB0_682.out _)|exact HI0.out));(case side2=>exact(by repeat(first|(with_reducible first|exact HB.out|apply qag|apply qad|apply qae|refine qac ?_ (IsS122.ge HI0.out)|refine qac ?_ GE674.out|refine qac ?_ GE682.out)|exact HB.out)));rintro e w34 ⟨rfl,hi,hb,hk⟩;refine⟨_,rfl,?_⟩;replace HO_683002:=Aside0.mk (Kd.Q_mono (Kd.Q_keep (IsS122.apartQ (show IsS122 w0 _ g s0_0 x1001_3 from by repeat(first|(with_reducible first|exact HI0.out|apply IsS122.alloc|apply IsS122.drewN|apply IsS122.drew|apply IsS122.set_1|refine IsS122.far ?_ NB0_674.out _|refine IsS122.far ?_ NB0_682.out _)|exact HI0.out)) (za18 HO_683002) (by decide)) hk (fun _ h=>h.2)) (fun _ h=>h.1));replace BK674:=Aside0.mk (KeepBut.blk hk (zB BK674) NB674_0.out (by simp));replace BK682:=Aside0.mk (KeepBut.blk hk (zB BK682) NB682_0.out (by simp));replace HK:=Aside0.mk (KeepBut.trans (za14 HK GW674 GW682) hk (.inl rfl));replace HB:=Aside0.mk hb;replace HI0:=Aside0.mk hi;(try clear hb);(try clear hk);(try clear hi))|((with_reducible refine qaf (f:=65) rfl ?_);refine zF (some 31) Try.func65 #[.pointer (some ⟨g,0,none⟩),.int .i64 9] ?_;(with_reducible refine(spec_l6Rd_pick.calls kj3 g s0_0 t693 9 t694 t695 w0 _ ?side1 ?side2 A33.out).mono ?_);(case side1=>repeat(first|(with_reducible first|exact HI0.out|apply IsS122.alloc|apply IsS122.drewN|apply IsS122.drew|apply IsS122.set_1|refine IsS122.far ?_ NB0_674.out _|refine IsS122.far ?_ NB0_682.out _)|exact HI0.out));(case side2=>exact(by repeat(first|(with_reducible first|exact HB.out|apply qag|apply qad|apply qae|refine qac ?_ (IsS122.ge HI0.out)|refine qac ?_ GE674.out|refine qac ?_ GE682.out)|exact HB.out)));rintro e w35 ⟨rfl,hi,hb,hk⟩;refine⟨_,rfl,?_⟩;replace HO_683002:=Aside0.mk (Kd.Q_mono (Kd.Q_keep (IsS122.apartQ (show IsS122 w0 _ g s0_0 t693 from by repeat(first|(with_reducible first|exact HI0.out|apply IsS122.alloc|apply IsS122.drewN|apply IsS122.drew|apply IsS122.set_1|refine IsS122.far ?_ NB0_674.out _|refine IsS122.far ?_ NB0_682.out _)|exact HI0.out)) (za18 HO_683002) (by decide)) hk (fun _ h=>h.2)) (fun _ h=>h.1));replace BK674:=Aside0.mk (KeepBut.blk hk (zB BK674) NB674_0.out (by simp));replace BK682:=Aside0.mk (KeepBut.blk hk (zB BK682) NB682_0.out (by simp));replace HK:=Aside0.mk (KeepBut.trans (za14 HK GW674 GW682) hk (.inl rfl));replace HB:=Aside0.mk hb;replace HI0:=Aside0.mk hi;(try clear hb);(try clear hk);(try clear hi);have hnb36:=NB682_674.out;have hnc36:=NB674_682.out;have hnb37:=NB682_0.out;have hnc37:=NB0_682.out;obtain⟨hcz38_0,hcz38_1,hcz38_2,hfz38_0,hfz38_1,hfz38_2⟩:=zC3 BK682;have hnb39:=NB674_0.out;have hnc39:=NB0_674.out;obtain⟨hcz40_0,hcz40_1,hcz40_2,hfz40_0,hfz40_1,hfz40_2⟩:=zC3 BK674;obtain⟨Ao41,co41,eo41,_⟩:=Kd.Q_slice HO_683002.out;subst eo41))
    refine bodyPost_ret (results_cell_row rfl _ _ gb674 62 #[.int .i64 t694,.int .i64 (wrap64 (1+t677)),.slice Ao41 x683002_3.length co41] (0,0) _ rfl (by(with_reducible repeat(first|refine blk_drewN ?_ _|refine blk_drew ?_|refine blk_alloc ?_ _));refine qai (cs:=#[.int .i64 t694,.int .i64 (wrap64 (1+t677)),.slice none 0 0]) ?_ 2 _ rfl;(with_reducible repeat(first|refine blk_drewN ?_ _|refine blk_drew ?_|refine blk_alloc ?_ _));refine qai (cs:=#[.int .i64 t694,.int .i64 0,.slice none 0 0]) ?_ 1 _ rfl;(with_reducible repeat(first|refine blk_drewN ?_ _|refine blk_drew ?_|refine blk_alloc ?_ _));refine qai (cs:=#[.int .i64 0,.int .i64 0,.slice none 0 0]) ?_ 0 _ rfl;(with_reducible repeat(first|refine blk_drewN ?_ _|refine blk_drew ?_|refine blk_alloc ?_ _));refine blk_far ?_ NB674_682.out _;(with_reducible repeat(first|refine blk_drewN ?_ _|refine blk_drew ?_|refine blk_alloc ?_ _));exact BK674.out) Try.underlying62 rfl (by kernel_rfl)) rfl ?_
    exact⟨_,za9,by(with_reducible repeat(first|apply Kd.Q_alloc|apply Kd.Q_drewN|apply Kd.Q_drew));exact Kd.Q_mono (Kd.Q_far (p:=⟨gb674,2,none⟩) (Kd.Q_far (p:=⟨gb674,1,none⟩) (Kd.Q_far (p:=⟨gb674,0,none⟩) (Kd.Q_far (p:=⟨gb682,0,none⟩) (Kd.Q_types (Kd.Q_types HO_683002.out BK682.out (by decide)) BK674.out (by decide)) (fun _ hk=>hk.1.2) (.int .i64 t694)) (fun _ hk=>hk.2) (.int .i64 t694)) (fun _ hk=>hk.2) (.int .i64 (wrap64 (1+t677)))) (fun _ hk=>hk.2) (.slice Ao41 x683002_3.length co41)) (fun _ hk=>trivial),by repeat(first|(with_reducible first|exact HI0.out|apply IsS122.alloc|apply IsS122.drewN|apply IsS122.drew|apply IsS122.set_1|refine IsS122.far ?_ NB0_674.out _|refine IsS122.far ?_ NB0_682.out _)|exact HI0.out),by repeat(first|(with_reducible first|exact HB.out|apply qag|apply qad|apply qae|refine qac ?_ (IsS122.ge HI0.out)|refine qac ?_ GE674.out|refine qac ?_ GE682.out)|exact HB.out),za14 HK GW674 GW682⟩
   ·rw[if_neg c32] at H
    have c32b0:(t692 == 0)=false:=beq_eq_false_iff_ne.mpr c32
    have c32b1:(t692 != 0)=true:=bne_iff_ne.mpr c32
    by_cases c42:t692=1
    ·rw[if_pos c42] at H
     have c42b0:(t692 == 1)=true:=beq_iff_eq.mpr c42
     have c42b1:(t692 != 1)=false:=bne_eq_false_iff_eq.mpr c42
     clear c42
     obtain⟨y696,hy696⟩:∃y_:List Int,y_=(([0,6,7]:List Int)):=⟨_,rfl⟩
     replace H:((spec_l6Rd_pick.f kj3 s0_0 t693 3).bind fun bt699=>(if 0≤bt699.1 then(if bt699.1<(y696.length:Int) then(some ((wrap64 (1+t675)),rd y696 bt699.1,x683002_3,bt699.2)) else(none)) else(none)))=some (r1,r2,r3,r4):=by first|(rw[hy696];with_reducible exact H)|(have H2_:=(Option.bind_some _ _).symm.trans H;rw[hy696];with_reducible exact H2_)|(have H2_:=(Option.bind_some _ _).symm.trans H;with_reducible exact H2_)|with_reducible exact H|(rw[hy696];exact H)|exact H
     have Ny696:=Aside0.mk hy696
     clear hy696
     replace H:=Option.bind_eq_some_iff.mp H
     obtain⟨⟨t699,t700⟩,A430,H⟩:=H
     replace H:(if 0≤t699 then(if t699<(y696.length:Int) then(some ((wrap64 (1+t675)),rd y696 t699,x683002_3,t700)) else(none)) else(none))=some (r1,r2,r3,r4):=H
     have A43:=Aside0.mk A430
     clear A430
     by_cases c44:0≤t699
     ·rw[if_pos c44] at H
      have c44b0:decide (0≤t699)=true:=decide_eq_true c44
      clear c44
      by_cases c45:t699<(y696.length:Int)
      ·rw[if_pos c45] at H
       have c45b0:decide (t699<(y696.length:Int))=true:=decide_eq_true c45
       clear c45
       simp only[Option.some.injEq,Prod.mk.injEq] at H
       obtain⟨rfl,rfl,rfl,rfl⟩:=H
       go_wp2_with(first|((with_reducible refine qaf (f:=65) rfl ?_);refine zF (some 27) Try.func65 #[.pointer (some ⟨g,0,none⟩),.int .i64 20] ?_;(with_reducible refine(spec_l6Rd_pick.calls kj3 g s0_0 x1001_3 20 t692 t693 w0 _ ?side1 ?side2 A31.out).mono ?_);(case side1=>repeat(first|(with_reducible first|exact HI0.out|apply IsS122.alloc|apply IsS122.drewN|apply IsS122.drew|apply IsS122.set_1|refine IsS122.far ?_ NB0_674.out _|refine IsS122.far ?_ NB0_682.out _)|exact HI0.out));(case side2=>exact(by repeat(first|(with_reducible first|exact HB.out|apply qag|apply qad|apply qae|refine qac ?_ (IsS122.ge HI0.out)|refine qac ?_ GE674.out|refine qac ?_ GE682.out)|exact HB.out)));rintro e w46 ⟨rfl,hi,hb,hk⟩;refine⟨_,rfl,?_⟩;replace HO_683002:=Aside0.mk (Kd.Q_mono (Kd.Q_keep (IsS122.apartQ (show IsS122 w0 _ g s0_0 x1001_3 from by repeat(first|(with_reducible first|exact HI0.out|apply IsS122.alloc|apply IsS122.drewN|apply IsS122.drew|apply IsS122.set_1|refine IsS122.far ?_ NB0_674.out _|refine IsS122.far ?_ NB0_682.out _)|exact HI0.out)) (za18 HO_683002) (by decide)) hk (fun _ h=>h.2)) (fun _ h=>h.1));replace BK674:=Aside0.mk (KeepBut.blk hk (zB BK674) NB674_0.out (by simp));replace BK682:=Aside0.mk (KeepBut.blk hk (zB BK682) NB682_0.out (by simp));replace HK:=Aside0.mk (KeepBut.trans (za14 HK GW674 GW682) hk (.inl rfl));replace HB:=Aside0.mk hb;replace HI0:=Aside0.mk hi;(try clear hb);(try clear hk);(try clear hi))|((with_reducible refine qah (N:=35) rfl ?_);refine Kd.R_lit (Kd.int .i64) _ 3 (by rfl) (N:=35) (by rfl) (xs:=([0,6,7]:List Int)) (inner:=[.int .i64 0,.int .i64 6,.int .i64 7]) (ok:=fun _=>True) (okp:=fun _=>True) (by first|(go_simp;done)|(go_simp;rfl)) ?hp (fun _ hk=>hk) trivial (Below.refl _ _) (Nat.le_refl _) (by simp) ?_;(case hp=>exact(Reps.one (show Kd.M (Kd.int .i64) _ _ _ 0 [.int .i64 0] from rfl) (Reps.one (show Kd.M (Kd.int .i64) _ _ _ 6 [.int .i64 6] from rfl) (Reps.one (show Kd.M (Kd.int .i64) _ _ _ 7 [.int .i64 7] from rfl) (Reps.none _ _)))));intro v697 w47 ho48 hb hg_ hnew_;clear hg_ hnew_;(first|rw[←Ny696.out] at ho48|(simp only[Int.reduceToNat] at ho48;rw[←Ny696.out] at ho48));have HO698:=Aside0.mk (Kd.R_lower (Kd.R_new' ho48 (Kd.Q_lt (za18 HO_683002))) (qao (w:=w) (g:=g) (row:=none) (za14 HK GW674 GW682)));replace HO_683002:=Aside0.mk (Kd.Q_elder' (za18 HO_683002) (Kd.R_base ho48) hb);replace BK674:=Aside0.mk (qaa (zB BK674) hb);replace BK682:=Aside0.mk (qaa (zB BK682) hb);replace HK:=Aside0.mk (KeepBut.trans (za14 HK GW674 GW682) (KeepBut.of_below hb g none) (.inl rfl));replace HB:=Aside0.mk (qab (by repeat(first|(with_reducible first|exact HB.out|apply qag|apply qad|apply qae|refine qac ?_ (IsS122.ge HI0.out)|refine qac ?_ GE674.out|refine qac ?_ GE682.out)|exact HB.out)) hb);replace HI0:=Aside0.mk (IsS122.below (by repeat(first|(with_reducible first|exact HI0.out|apply IsS122.alloc|apply IsS122.drewN|apply IsS122.drew|apply IsS122.set_1|refine IsS122.far ?_ NB0_674.out _|refine IsS122.far ?_ NB0_682.out _)|exact HI0.out)) hb);clear hb ho48)|((with_reducible refine qaf (f:=65) rfl ?_);refine zF (some 37) Try.func65 #[.pointer (some ⟨g,0,none⟩),.int .i64 3] ?_;(with_reducible refine(spec_l6Rd_pick.calls kj3 g s0_0 t693 3 t699 t700 w0 _ ?side1 ?side2 A43.out).mono ?_);(case side1=>repeat(first|(with_reducible first|exact HI0.out|apply IsS122.alloc|apply IsS122.drewN|apply IsS122.drew|apply IsS122.set_1|refine IsS122.far ?_ NB0_674.out _|refine IsS122.far ?_ NB0_682.out _)|exact HI0.out));(case side2=>exact(by repeat(first|(with_reducible first|exact HB.out|apply qag|apply qad|apply qae|refine qac ?_ (IsS122.ge HI0.out)|refine qac ?_ GE674.out|refine qac ?_ GE682.out)|exact HB.out)));rintro e w49 ⟨rfl,hi,hb,hk⟩;refine⟨_,rfl,?_⟩;replace HO_683002:=Aside0.mk (Kd.Q_mono (Kd.Q_keep (IsS122.apartQ (show IsS122 w0 _ g s0_0 t693 from by repeat(first|(with_reducible first|exact HI0.out|apply IsS122.alloc|apply IsS122.drewN|apply IsS122.drew|apply IsS122.set_1|refine IsS122.far ?_ NB0_674.out _|refine IsS122.far ?_ NB0_682.out _)|exact HI0.out)) (za18 HO_683002) (by decide)) hk (fun _ h=>h.2)) (fun _ h=>h.1));replace BK674:=Aside0.mk (KeepBut.blk hk (zB BK674) NB674_0.out (by simp));replace BK682:=Aside0.mk (KeepBut.blk hk (zB BK682) NB682_0.out (by simp));replace HO698:=Aside0.mk (Kd.R_mono (Kd.R_keep (IsS122.apart (show IsS122 w0 _ g s0_0 t693 from by repeat(first|(with_reducible first|exact HI0.out|apply IsS122.alloc|apply IsS122.drewN|apply IsS122.drew|apply IsS122.set_1|refine IsS122.far ?_ NB0_674.out _|refine IsS122.far ?_ NB0_682.out _)|exact HI0.out)) (za3 HO698) (by decide)) hk (fun _ h=>h.2)) (fun _ h=>h.1));replace HK:=Aside0.mk (KeepBut.trans (za14 HK GW674 GW682) hk (.inl rfl));replace HB:=Aside0.mk hb;replace HI0:=Aside0.mk hi;(try clear hb);(try clear hk);(try clear hi);obtain⟨Ao50,co50,eo50⟩:=Kd.R_slice HO698.out;subst eo50;have p701:0≤(t699:Int):=of_decide_eq_true (za5);have q701:t699<(y696.length:Int):=of_decide_eq_true (za5);obtain⟨ad701,e701,hx701_0⟩:=Kd.at_int (Kd.R_reads' HO698.out).2.2 t699 p701 q701;cases e701;replace p701:=eq_true p701;replace q701:=eq_true q701;have hnb51:=NB682_674.out;have hnc51:=NB674_682.out;have hnb52:=NB682_0.out;have hnc52:=NB0_682.out;obtain⟨hcz53_0,hcz53_1,hcz53_2,hfz53_0,hfz53_1,hfz53_2⟩:=zC3 BK682;have hnb54:=NB674_0.out;have hnc54:=NB0_674.out;obtain⟨hcz55_0,hcz55_1,hcz55_2,hfz55_0,hfz55_1,hfz55_2⟩:=zC3 BK674;obtain⟨Ao56,co56,eo56,_⟩:=Kd.Q_slice HO_683002.out;subst eo56))
       refine bodyPost_ret (results_cell_row rfl _ _ gb674 62 #[.int .i64 (wrap64 (1+t675)),.int .i64 (rd y696 t699),.slice Ao56 x683002_3.length co56] (0,0) _ rfl (by(with_reducible repeat(first|refine blk_drewN ?_ _|refine blk_drew ?_|refine blk_alloc ?_ _));refine qai (cs:=#[.int .i64 (wrap64 (1+t675)),.int .i64 (rd y696 t699),.slice none 0 0]) ?_ 2 _ rfl;(with_reducible repeat(first|refine blk_drewN ?_ _|refine blk_drew ?_|refine blk_alloc ?_ _));refine qai (cs:=#[.int .i64 (wrap64 (1+t675)),.int .i64 0,.slice none 0 0]) ?_ 1 _ rfl;(with_reducible repeat(first|refine blk_drewN ?_ _|refine blk_drew ?_|refine blk_alloc ?_ _));refine qai (cs:=#[.int .i64 0,.int .i64 0,.slice none 0 0]) ?_ 0 _ rfl;(with_reducible repeat(first|refine blk_drewN ?_ _|refine blk_drew ?_|refine blk_alloc ?_ _));refine blk_far ?_ NB674_682.out _;(with_reducible repeat(first|refine blk_drewN ?_ _|refine blk_drew ?_|refine blk_alloc ?_ _));exact BK674.out) Try.underlying62 rfl (by kernel_rfl)) rfl ?_
       exact⟨_,za9,by(with_reducible repeat(first|apply Kd.Q_alloc|apply Kd.Q_drewN|apply Kd.Q_drew));exact Kd.Q_mono (Kd.Q_far (p:=⟨gb674,2,none⟩) (Kd.Q_far (p:=⟨gb674,1,none⟩) (Kd.Q_far (p:=⟨gb674,0,none⟩) (Kd.Q_far (p:=⟨gb682,1,none⟩) (Kd.Q_types (Kd.Q_types HO_683002.out BK682.out (by decide)) BK674.out (by decide)) (fun _ hk=>hk.1.2) (.int .i64 (rd y696 t699))) (fun _ hk=>hk.2) (.int .i64 (wrap64 (1+t675)))) (fun _ hk=>hk.2) (.int .i64 (rd y696 t699))) (fun _ hk=>hk.2) (.slice Ao56 x683002_3.length co56)) (fun _ hk=>trivial),by repeat(first|(with_reducible first|exact HI0.out|apply IsS122.alloc|apply IsS122.drewN|apply IsS122.drew|apply IsS122.set_1|refine IsS122.far ?_ NB0_674.out _|refine IsS122.far ?_ NB0_682.out _)|exact HI0.out),by repeat(first|(with_reducible first|exact HB.out|apply qag|apply qad|apply qae|refine qac ?_ (IsS122.ge HI0.out)|refine qac ?_ GE674.out|refine qac ?_ GE682.out)|exact HB.out),za14 HK GW674 GW682⟩
      ·rw[if_neg c45] at H
       exact absurd H (by simp)
     ·rw[if_neg c44] at H
      exact absurd H (by simp)
    ·rw[if_neg c42] at H
     have c42b0:(t692 == 1)=false:=beq_eq_false_iff_ne.mpr c42
     have c42b1:(t692 != 1)=true:=bne_iff_ne.mpr c42
     by_cases c57:t692=2
     ·rw[if_pos c57] at H
      have c57b0:(t692 == 2)=true:=beq_iff_eq.mpr c57
      have c57b1:(t692 != 2)=false:=bne_eq_false_iff_eq.mpr c57
      clear c57
      replace H:=Option.bind_eq_some_iff.mp H
      obtain⟨⟨t702,t703⟩,A580,H⟩:=H
      replace H:(if x683002_3.length<17592186044416 then(some ((wrap64 (1+t675)),(wrap64 (1+t677)),(x683002_3++[t702]),t703)) else(none))=some (r1,r2,r3,r4):=H
      have A58:=Aside0.mk A580
      clear A580
      by_cases c59:x683002_3.length<17592186044416
      ·rw[if_pos c59] at H
       have LMc59:=Aside0.mk c59
       clear c59
       obtain⟨y704,hy704⟩:∃y_:List Int,y_=(x683002_3++[t702]):=⟨_,rfl⟩
       replace H:(some ((wrap64 (1+t675)),(wrap64 (1+t677)),y704,t703))=some (r1,r2,r3,r4):=by first|(rw[hy704];with_reducible exact H)|(have H2_:=(Option.bind_some _ _).symm.trans H;rw[hy704];with_reducible exact H2_)|(have H2_:=(Option.bind_some _ _).symm.trans H;with_reducible exact H2_)|with_reducible exact H|(rw[hy704];exact H)|exact H
       have Ny704:=Aside0.mk hy704
       clear hy704
       simp only[Option.some.injEq,Prod.mk.injEq] at H
       obtain⟨rfl,rfl,rfl,rfl⟩:=H
       try go_wp2_with(first|((with_reducible refine qaf (f:=65) rfl ?_);refine zF (some 27) Try.func65 #[.pointer (some ⟨g,0,none⟩),.int .i64 20] ?_;(with_reducible refine(spec_l6Rd_pick.calls kj3 g s0_0 x1001_3 20 t692 t693 w0 _ ?side1 ?side2 A31.out).mono ?_);(case side1=>repeat(first|(with_reducible first|exact HI0.out|apply IsS122.alloc|apply IsS122.drewN|apply IsS122.drew|apply IsS122.set_1|refine IsS122.far ?_ NB0_674.out _|refine IsS122.far ?_ NB0_682.out _)|exact HI0.out));(case side2=>exact(by repeat(first|(with_reducible first|exact HB.out|apply qag|apply qad|apply qae|refine qac ?_ (IsS122.ge HI0.out)|refine qac ?_ GE674.out|refine qac ?_ GE682.out)|exact HB.out)));rintro e w60 ⟨rfl,hi,hb,hk⟩;refine⟨_,rfl,?_⟩;replace HO_683002:=Aside0.mk (Kd.Q_mono (Kd.Q_keep (IsS122.apartQ (show IsS122 w0 _ g s0_0 x1001_3 from by repeat(first|(with_reducible first|exact HI0.out|apply IsS122.alloc|apply IsS122.drewN|apply IsS122.drew|apply IsS122.set_1|refine IsS122.far ?_ NB0_674.out _|refine IsS122.far ?_ NB0_682.out _)|exact HI0.out)) (za18 HO_683002) (by decide)) hk (fun _ h=>h.2)) (fun _ h=>h.1));replace BK674:=Aside0.mk (KeepBut.blk hk (zB BK674) NB674_0.out (by simp));replace BK682:=Aside0.mk (KeepBut.blk hk (zB BK682) NB682_0.out (by simp));replace HK:=Aside0.mk (KeepBut.trans (za14 HK GW674 GW682) hk (.inl rfl));replace HB:=Aside0.mk hb;replace HI0:=Aside0.mk hi;(try clear hb);(try clear hk);(try clear hi)))
       replace HO_683002:=Aside0.mk (Kd.Q_drew HO_683002.out)
       replace BK674:=Aside0.mk (blk_drew BK674.out)
       replace BK682:=Aside0.mk (blk_drew BK682.out)
       replace HI0:=Aside0.mk (IsS122.drew HI0.out)
       replace HK:=Aside0.mk (keep_drew HK.out)
       replace HB:=Aside0.mk (qae HB.out)
       refine start_ (n:=8) (S:=fun w'=>w'.cell? ⟨gb682,0,none⟩=some (.int .i64 (wrap64 (1+t675)))∧w'.cell? ⟨gb682,1,none⟩=some (.int .i64 (wrap64 (1+t677)))∧w'.cell? ⟨gb682,2,none⟩=some (u683002)) (ds:=[7]) #[false,false,false,false,false,false,false,false] (by kernel_rfl) rfl rfl ⟨(blk_cell BK682.out 0).trans rfl,(blk_cell BK682.out 1).trans rfl,(blk_cell BK682.out 2).trans rfl⟩ (fun hHeld=>?_);refine with_tabW spec_l71Rec.tab13 spec_l71Rec.bits13 (fun HT_ HW_=>?_)
       generalize w60.drew=w61 at HO_683002 BK674 BK682 HI0 HK HB hHeld ⊢
       refine qar (i:=0) (N:=some 43) (v:=?_) (a':=?_) #[true,false,false,false,false,false,false,false] rfl rfl (qan HT_.out (by kernel_rfl)) (fun _ _ _ h=>h) (Or.inl ⟨by rfl,?_⟩) ?_ ?_
       rotate_left
       ·intro w'
        go_simp
        with_reducible rfl
       rotate_left
       ·simp only[Act.put,List.setIfInBounds_toArray,List.set_cons_zero,List.set_cons_succ,qaj,qak]
        rfl
       refine qar (i:=2) (N:=some 45) (v:=?_) (a':=?_) #[true,false,true,false,false,false,false,false] rfl rfl (qan HT_.out (by kernel_rfl)) (fun _ _ _ h=>h) (Or.inl ⟨by rfl,?_⟩) ?_ ?_
       rotate_left
       ·intro w'
        go_simp
        with_reducible rfl
       rotate_left
       ·simp only[Act.put,List.setIfInBounds_toArray,List.set_cons_zero,List.set_cons_succ,qaj,qak]
        rfl
       refine take_ (i:=1) (N:=some 44) (v:=?_) (a':=?_) #[true,true,true,false,false,false,false,false] rfl rfl (take_ofW HT_.out HW_.out (by kernel_rfl)) (fun _ _ _ h=>h) (Or.inl ⟨by rfl,?_⟩) hHeld ?_ ?_
       rotate_left
       ·rintro w' ⟨s0,s1,s2⟩
        go_simp
        with_reducible rfl
       rotate_left
       ·simp only[Act.put,List.setIfInBounds_toArray,List.set_cons_zero,List.set_cons_succ,qaj,qak]
        rfl
       refine one_ (i:=3) (N:=some 46) #[true,true,true,true,false,false,false,false] rfl rfl (one_of HT_.out (by kernel_rfl)) (by decide) (fun K hK=>?_)
       refine goes_ Try.func65 (by kernel_rfl) rfl #[.pointer (some ⟨g,0,none⟩),.int .i64 5] (by rfl) rfl rfl (by(try simp only[List.map_toArray,List.map_cons,List.map_nil]);first|done|rfl|(simp only[List.length_drop,List.length_take];rfl)) ?_
       with_reducible refine(spec_l6Rd_pick.calls kj3 g s0_0 t693 5 t702 t703 w0 _ ?side1 ?side2 A58.out).mono ?_
       (case side1=>repeat(first|(with_reducible first|exact HI0.out|apply IsS122.alloc|apply IsS122.drewN|apply IsS122.drew|apply IsS122.set_1|refine IsS122.far ?_ NB0_674.out _|refine IsS122.far ?_ NB0_682.out _)|exact HI0.out))
       (case side2=>exact(by repeat(first|(with_reducible first|exact HB.out|apply qag|apply qad|apply qae|refine qac ?_ (IsS122.ge HI0.out)|refine qac ?_ GE674.out|refine qac ?_ GE682.out)|exact HB.out)))
       rintro e w62 ⟨rfl,hi,hb,hk⟩
       refine⟨_,rfl,?_⟩
       replace HO_683002:=Aside0.mk (Kd.Q_mono (Kd.Q_keep (IsS122.apartQ (show IsS122 w0 _ g s0_0 t693 from by repeat(first|(with_reducible first|exact HI0.out|apply IsS122.alloc|apply IsS122.drewN|apply IsS122.drew|apply IsS122.set_1|refine IsS122.far ?_ NB0_674.out _|refine IsS122.far ?_ NB0_682.out _)|exact HI0.out)) (za18 HO_683002) (by decide)) hk (fun _ h=>h.2)) (fun _ h=>h.1))
       replace BK674:=Aside0.mk (KeepBut.blk hk (zB BK674) NB674_0.out (by simp))
       replace BK682:=Aside0.mk (KeepBut.blk hk (zB BK682) NB682_0.out (by simp))
       replace HK:=Aside0.mk (KeepBut.trans (za14 HK GW674 GW682) hk (.inl rfl))
       replace HB:=Aside0.mk hb
       replace HI0:=Aside0.mk hi
       (try clear hb)
       (try clear hb2)
       (try clear hk)
       (try clear hi)
       refine hK.out _ _ ⟨(blk_cell BK682.out 0).trans rfl,(blk_cell BK682.out 1).trans rfl,(blk_cell BK682.out 2).trans rfl⟩ (fun hHeld=>?_)
       clear hK K
       refine norm_ (a':=?_) ?_ ?_
       rotate_left
       ·show Act.put _ (some 46) _=_
        simp only[Act.put,List.setIfInBounds_toArray,List.set_cons_zero,List.set_cons_succ,qaj,qak]
        rfl
       refine one_ (i:=4) (N:=some 47) #[true,true,true,true,true,false,false,false] rfl rfl (one_of HT_.out (by kernel_rfl)) (by decide) (fun K hK=>?_)
       refine value_ (w1:=?_) (v:=?_) (by rfl) rfl ?_ ?_
       rotate_left 2
       ·go_simp
        constructor
        ·rfl
        ·rfl
       refine hK.out _ _ ⟨(blk_cell (blk_alloc BK682.out _) 0).trans rfl,(blk_cell (blk_alloc BK682.out _) 1).trans rfl,(blk_cell (blk_alloc BK682.out _) 2).trans rfl⟩ (fun hHeld=>?_)
       clear hK K
       refine norm_ (a':=?_) ?_ ?_
       rotate_left
       ·show Act.put _ (some 47) _=_
        simp only[Act.put,List.setIfInBounds_toArray,List.set_cons_zero,List.set_cons_succ,qaj,qak]
        rfl
       refine one_ (i:=5) (N:=some 48) #[true,true,true,true,true,true,false,false] rfl rfl (one_of HT_.out (by kernel_rfl)) (by decide) (fun K hK=>?_)
       refine Kd.Q_append_step (Kd.int .i64) w.heap.size (by rfl) (.tmp 44) (.tmp 47) 55 3 (.int .i64 0) 8 rfl Try.underlying55 info3 rfl (by decide) (by omega) u683002 x683002_3 t702 [.int .i64 t702] (fun _=>True) (fun _=>False) rfl rfl ?aP (fun _ hk=>hk.elim) ?aF ?aO (Below.refl _ _) ?aS ?aL ?_
       (case aP=>exact rfl)
       (case aF=>exact(fun _ _=>trivial))
       (case aO=>exact(za18 HO_683002))
       (case aS=>exact(qao (w:=w) (g:=g) (row:=none) (za14 HK GW674 GW682)))
       (case aL=>have:=LMc59.out;omega)
       intro v705 w63 ho hb hg hat
       rw[←Ny704.out] at ho
       replace BK674:=Aside0.mk (qas (zB BK674) hg (Kd.Q_ne HO_683002.out BK674.out (by decide)))
       replace BK682:=Aside0.mk (qas (zB BK682) hg (Kd.Q_ne HO_683002.out BK682.out (by decide)))
       replace HB:=Aside0.mk (below_weaken (by repeat(first|(with_reducible first|exact HB.out|apply qag|apply qad|apply qae|refine qac ?_ (IsS122.ge HI0.out)|refine qac ?_ GE674.out|refine qac ?_ GE682.out)|exact HB.out)) HL.out hb)
       replace HI0:=Aside0.mk (IsS122.grown (by repeat(first|(with_reducible first|exact HI0.out|apply IsS122.alloc|apply IsS122.drewN|apply IsS122.drew|apply IsS122.set_1|refine IsS122.far ?_ NB0_674.out _|refine IsS122.far ?_ NB0_682.out _)|exact HI0.out)) hg (IsS122.own_neQ HI0.out HO_683002.out (by decide)))
       replace HK:=Aside0.mk (KeepBut.trans (za14 HK GW674 GW682) (KeepBut.of_grown hg g) (Kd.Q_base2 HO_683002.out))
       have HO706:=Aside0.mk ho
       clear HO_683002
       clear ho hb hg hat
       obtain⟨Ao64,co64,eo64,_⟩:=Kd.Q_slice HO706.out
       (first|subst eo64|(injection eo64 with f1_ f2_ f3_;have f4_:=f1_.symm;have f5_:=f3_.symm;clear f1_ f2_ f3_;subst f4_;subst f5_))
       refine hK.out _ _ ⟨(blk_cell BK682.out 0).trans rfl,(blk_cell BK682.out 1).trans rfl,(blk_cell BK682.out 2).trans rfl⟩ (fun hHeld=>?_)
       clear hK K
       refine norm_ (a':=?_) ?_ ?_
       rotate_left
       ·show Act.put _ (some 48) _=_
        simp only[Act.put,List.setIfInBounds_toArray,List.set_cons_zero,List.set_cons_succ,qaj,qak]
        rfl
       refine qar (i:=6) (N:=some 49) (v:=?_) (a':=?_) #[true,true,true,true,true,true,true,false] rfl rfl (qan HT_.out (by kernel_rfl)) (fun _ _ _ h=>h) (Or.inl ⟨by rfl,?_⟩) ?_ ?_
       rotate_left
       ·intro w'
        go_simp
        with_reducible rfl
       rotate_left
       ·simp only[Act.put,List.setIfInBounds_toArray,List.set_cons_zero,List.set_cons_succ,qaj,qak]
        rfl
       refine last_ (i:=7) (N:=none) #[true,true,true,true,true,true,true,true] rfl rfl (one_of HT_.out (by kernel_rfl)) (by decide) (fun K hK=>?_)
       have hs65:w63.cell? ⟨gb682,2,none⟩=some (u683002):=(blk_cell BK682.out 2).trans rfl
       have hfs65:=blk_frozen BK682.out 2
       have hns65_0:=NB674_682.out
       have hms65_0:=NB682_674.out
       refine skip_ (w1:=?_) (by rfl) rfl ?_ ?_
       rotate_left
       ·go_simp
        rfl
       refine hK.out _ _ ?_
       clear hK K
       refine done_ (done_of HT_.out (by kernel_rfl)) ?_
       have hnb66:=NB682_674.out
       have hnc66:=NB674_682.out
       have hnb67:=NB682_0.out
       have hnc67:=NB0_682.out
       obtain⟨hcz68_0,hcz68_1,hcz68_2,hfz68_0,hfz68_1,hfz68_2⟩:=zC3 BK682
       have hnb69:=NB674_0.out
       have hnc69:=NB0_674.out
       obtain⟨hcz70_0,hcz70_1,hcz70_2,hfz70_0,hfz70_1,hfz70_2⟩:=zC3 BK674
       try go_wp2
       refine bodyPost_ret (results_cell_row rfl _ _ gb674 62 #[.int .i64 (wrap64 (1+t675)),.int .i64 (wrap64 (1+t677)),.slice Ao64 y704.length co64] (0,0) _ rfl (by(with_reducible repeat(first|refine blk_drewN ?_ _|refine blk_drew ?_|refine blk_alloc ?_ _));refine qai (cs:=#[.int .i64 (wrap64 (1+t675)),.int .i64 (wrap64 (1+t677)),.slice none 0 0]) ?_ 2 _ rfl;(with_reducible repeat(first|refine blk_drewN ?_ _|refine blk_drew ?_|refine blk_alloc ?_ _));refine qai (cs:=#[.int .i64 (wrap64 (1+t675)),.int .i64 0,.slice none 0 0]) ?_ 1 _ rfl;(with_reducible repeat(first|refine blk_drewN ?_ _|refine blk_drew ?_|refine blk_alloc ?_ _));refine qai (cs:=#[.int .i64 0,.int .i64 0,.slice none 0 0]) ?_ 0 _ rfl;(with_reducible repeat(first|refine blk_drewN ?_ _|refine blk_drew ?_|refine blk_alloc ?_ _));refine blk_far ?_ NB674_682.out _;(with_reducible repeat(first|refine blk_drewN ?_ _|refine blk_drew ?_|refine blk_alloc ?_ _));exact BK674.out) Try.underlying62 rfl (by kernel_rfl)) rfl ?_
       exact⟨_,za9,by(with_reducible repeat(first|apply Kd.Q_alloc|apply Kd.Q_drewN|apply Kd.Q_drew));exact Kd.Q_mono (Kd.Q_far (p:=⟨gb674,2,none⟩) (Kd.Q_far (p:=⟨gb674,1,none⟩) (Kd.Q_far (p:=⟨gb674,0,none⟩) (Kd.Q_far (p:=⟨gb682,2,none⟩) (Kd.Q_types (Kd.Q_types HO706.out BK682.out (by decide)) BK674.out (by decide)) (fun _ hk=>hk.1.2) (.slice Ao64 y704.length co64)) (fun _ hk=>hk.2) (.int .i64 (wrap64 (1+t675)))) (fun _ hk=>hk.2) (.int .i64 (wrap64 (1+t677)))) (fun _ hk=>hk.2) (.slice Ao64 y704.length co64)) (fun _ hk=>trivial),by repeat(first|(with_reducible first|exact HI0.out|apply IsS122.alloc|apply IsS122.drewN|apply IsS122.drew|apply IsS122.set_1|refine IsS122.far ?_ NB0_674.out _|refine IsS122.far ?_ NB0_682.out _)|exact HI0.out),by repeat(first|(with_reducible first|exact HB.out|apply qag|apply qad|apply qae|refine qac ?_ (IsS122.ge HI0.out)|refine qac ?_ GE674.out|refine qac ?_ GE682.out)|exact HB.out),za14 HK GW674 GW682⟩
      ·rw[if_neg c59] at H
       exact absurd H (by simp)
     ·rw[if_neg c57] at H
      have c57b0:(t692 == 2)=false:=beq_eq_false_iff_ne.mpr c57
      have c57b1:(t692 != 2)=true:=bne_iff_ne.mpr c57
      simp only[Option.some.injEq,Prod.mk.injEq] at H
      obtain⟨rfl,rfl,rfl,rfl⟩:=H
      go_wp2_with(first|((with_reducible refine qaf (f:=65) rfl ?_);refine zF (some 27) Try.func65 #[.pointer (some ⟨g,0,none⟩),.int .i64 20] ?_;(with_reducible refine(spec_l6Rd_pick.calls kj3 g s0_0 x1001_3 20 t692 t693 w0 _ ?side1 ?side2 A31.out).mono ?_);(case side1=>repeat(first|(with_reducible first|exact HI0.out|apply IsS122.alloc|apply IsS122.drewN|apply IsS122.drew|apply IsS122.set_1|refine IsS122.far ?_ NB0_674.out _|refine IsS122.far ?_ NB0_682.out _)|exact HI0.out));(case side2=>exact(by repeat(first|(with_reducible first|exact HB.out|apply qag|apply qad|apply qae|refine qac ?_ (IsS122.ge HI0.out)|refine qac ?_ GE674.out|refine qac ?_ GE682.out)|exact HB.out)));rintro e w71 ⟨rfl,hi,hb,hk⟩;refine⟨_,rfl,?_⟩;replace HO_683002:=Aside0.mk (Kd.Q_mono (Kd.Q_keep (IsS122.apartQ (show IsS122 w0 _ g s0_0 x1001_3 from by repeat(first|(with_reducible first|exact HI0.out|apply IsS122.alloc|apply IsS122.drewN|apply IsS122.drew|apply IsS122.set_1|refine IsS122.far ?_ NB0_674.out _|refine IsS122.far ?_ NB0_682.out _)|exact HI0.out)) (za18 HO_683002) (by decide)) hk (fun _ h=>h.2)) (fun _ h=>h.1));replace BK674:=Aside0.mk (KeepBut.blk hk (zB BK674) NB674_0.out (by simp));replace BK682:=Aside0.mk (KeepBut.blk hk (zB BK682) NB682_0.out (by simp));replace HK:=Aside0.mk (KeepBut.trans (za14 HK GW674 GW682) hk (.inl rfl));replace HB:=Aside0.mk hb;replace HI0:=Aside0.mk hi;(try clear hb);(try clear hk);(try clear hi);have hnb72:=NB682_674.out;have hnc72:=NB674_682.out;have hnb73:=NB682_0.out;have hnc73:=NB0_682.out;obtain⟨hcz74_0,hcz74_1,hcz74_2,hfz74_0,hfz74_1,hfz74_2⟩:=zC3 BK682;have hnb75:=NB674_0.out;have hnc75:=NB0_674.out;obtain⟨hcz76_0,hcz76_1,hcz76_2,hfz76_0,hfz76_1,hfz76_2⟩:=zC3 BK674;obtain⟨Ao77,co77,eo77,_⟩:=Kd.Q_slice HO_683002.out;subst eo77))
      refine bodyPost_ret (results_cell_row rfl _ _ gb674 62 #[.int .i64 (wrap64 (1+t675)),.int .i64 (wrap64 (1+t677)),.slice Ao77 x683002_3.length co77] (0,0) _ rfl (by(with_reducible repeat(first|refine blk_drewN ?_ _|refine blk_drew ?_|refine blk_alloc ?_ _));refine qai (cs:=#[.int .i64 (wrap64 (1+t675)),.int .i64 (wrap64 (1+t677)),.slice none 0 0]) ?_ 2 _ rfl;(with_reducible repeat(first|refine blk_drewN ?_ _|refine blk_drew ?_|refine blk_alloc ?_ _));refine qai (cs:=#[.int .i64 (wrap64 (1+t675)),.int .i64 0,.slice none 0 0]) ?_ 1 _ rfl;(with_reducible repeat(first|refine blk_drewN ?_ _|refine blk_drew ?_|refine blk_alloc ?_ _));refine qai (cs:=#[.int .i64 0,.int .i64 0,.slice none 0 0]) ?_ 0 _ rfl;(with_reducible repeat(first|refine blk_drewN ?_ _|refine blk_drew ?_|refine blk_alloc ?_ _));exact BK674.out) Try.underlying62 rfl (by kernel_rfl)) rfl ?_
      exact⟨_,za9,by(with_reducible repeat(first|apply Kd.Q_alloc|apply Kd.Q_drewN|apply Kd.Q_drew));exact Kd.Q_mono (Kd.Q_far (p:=⟨gb674,2,none⟩) (Kd.Q_far (p:=⟨gb674,1,none⟩) (Kd.Q_far (p:=⟨gb674,0,none⟩) (Kd.Q_types HO_683002.out BK674.out (by decide)) (fun _ hk=>hk.2) (.int .i64 (wrap64 (1+t675)))) (fun _ hk=>hk.2) (.int .i64 (wrap64 (1+t677)))) (fun _ hk=>hk.2) (.slice Ao77 x683002_3.length co77)) (fun _ hk=>trivial),by repeat(first|(with_reducible first|exact HI0.out|apply IsS122.alloc|apply IsS122.drewN|apply IsS122.drew|apply IsS122.set_1|refine IsS122.far ?_ NB0_674.out _|refine IsS122.far ?_ NB0_682.out _)|exact HI0.out),by repeat(first|(with_reducible first|exact HB.out|apply qag|apply qad|apply qae|refine qac ?_ (IsS122.ge HI0.out)|refine qac ?_ GE674.out|refine qac ?_ GE682.out)|exact HB.out),za14 HK GW674 GW682⟩
def spec_l71RecV.f:=@spec_l71Rec.f
theorem spec_l71RecV.mono:∀a0 a1 k,LeO (spec_l71RecV.f k a0 a1) (spec_l71RecV.f (k+1) a0 a1):=spec_l71Rec.mono
theorem spec_l71RecV.calls (k:Nat) (g:Nat) (s0_0:List Int) (s0_1:Int) (r1:Int) (r2:Int) (r3:List Int) (r4:Int) (w0 w:World) (hI:IsS122 w0 w g s0_0 s0_1) (hB:Below w0.heap.size w0 w) (h:spec_l71RecV.f k s0_0 s0_1=some (r1,r2,r3,r4)) :
  Calls Try.prog 85 #[.pointer (some ⟨g,0,none⟩)] w fun e w'=>∃v2_:Value,e=.returned (.agg #[.int .i64 r1,.int .i64 r2,v2_])∧Kd.V (Kd.int .i64) 3 w' w.heap.size (fun k_=>(w.heap.size≤k_)) v2_ r3∧IsS122 w0 w' g s0_0 r4∧Below w0.heap.size w0 w'∧KeepBut w w' g none:=by
 refine(spec_l71Rec.calls k g s0_0 s0_1 r1 r2 r3 r4 w0 w hI hB h).mono ?_
 rintro e w' ⟨v_,he,hq,hx⟩
 exact⟨v_,he,Kd.Q_V (Kd.Q_mono (Kd.Q_bound hq) (fun k_ hk=>hk.2.1)),hx⟩
end Go.Proofs.Ytjccnaklodbbfaa.Print
