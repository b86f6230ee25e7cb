-- Written by squeeze.py: not trusted, Lean checks it.
import Derived.Test.YtmbdphefnalenaaZK
import Derived.Test.YtmbdphefnalenaaZb0
import Derived.Test.YtmbdphefnalenaaZb1
namespace Go.Proofs.Ytmbdphefnalenaa.Print
open Go.RowKit Go.Proofs.YtmbdphefnalenaaW.PrintWords Go.Proofs.YtmbdphefnalenaaW.PrintLast Go.Proofs.YtmbdphefnalenaaW.PrintMore
attribute [local go_sem] max2_int min2_int max_two min_two max_three min_three max_four min_four
set_option linter.unusedVariables false
set_option linter.unusedSimpArgs false
theorem zb11_l71Rec {p_ q0_ q1_ q2_ q3_ : Prop} (h0_ : Aside0 q0_) (h1_ : Aside0 q1_) (h2_ : Aside0 q2_) (h3_ : Aside0 q3_) (r_ : q0_ → q1_ → q2_ → q3_ → p_ := by intro h0_ h1_ h2_ h3_; repeat(first|(with_reducible first|exact h0_|apply below_alloc|apply qaq|apply qao|refine qak ?_ (IsS107.ge h1_)|refine qak ?_ h2_|refine qak ?_ h3_)|exact h0_)) : p_ := r_ h0_.out h1_.out h2_.out h3_.out
theorem zb25_l71Rec {p_ q0_ q1_ q2_ : Prop} (h0_ : Aside0 q0_) (h1_ : Aside0 q1_) (h2_ : Aside0 q2_) (r_ : q0_ → q1_ → q2_ → p_ := by intro h0_ h1_ h2_; repeat(first|(with_reducible first|exact h0_|apply below_alloc|apply qaq|apply qao|refine qak ?_ (IsS107.ge h1_)|refine qak ?_ h2_)|exact h0_)) : p_ := r_ h0_.out h1_.out h2_.out
theorem zb32_l71Rec {p_ q0_ q1_ q2_ : Prop} (h0_ : Aside0 q0_) (h1_ : Aside0 q1_) (h2_ : Aside0 q2_) (r_ : q0_ → q1_ → q2_ → p_ := by intro h0_ h1_ h2_; repeat(first|(with_reducible first|exact h0_|apply IsS107.alloc|apply IsS107.drewN|apply IsS107.drew|apply IsS107.set_1|refine IsS107.far ?_ h1_ _|refine IsS107.far ?_ h2_ _)|exact h0_)) : p_ := r_ h0_.out h1_.out h2_.out
def spec_l71Rec.j0:Nat→List Int→Int→Int→Int→List Int→Option (Int × Int × List Int × Int)
 |0,_,_,_,_,_=>none
 |k+1,x1000,x1001,x233000,x233001,x233002=>(spec_l6Rd_pick.f k x1000 x1001 20).bind fun bt242=>(if bt242.1=0 then((spec_l6Rd_pick.f k x1000 bt242.2 9).bind fun bt244=>(some (bt244.1,x233001,x233002,bt244.2))) else(if bt242.1=1 then((some (([0,6,7]:List Int):List Int)).bind fun y246=>((spec_l6Rd_pick.f k x1000 bt242.2 3).bind fun bt249=>(if 0≤bt249.1 then(if bt249.1<(y246.length:Int) then(some (x233000,rd y246 bt249.1,x233002,bt249.2)) else(none)) else(none)))) else(if bt242.1=2 then((spec_l6Rd_pick.f k x1000 bt242.2 5).bind fun bt252=>(if x233002.length<17592186044416 then(some (x233000,x233001,(x233002++[bt252.1]),bt252.2)) else(none))) else(some (x233000,x233001,x233002,bt242.2)))))
def spec_l71Rec.f (k:Nat) (s0_0:List Int) (s0_1:Int):Option (Int × Int × List Int × Int):=(spec_l6Rd_pick.f k s0_0 s0_1 7).bind fun bt225=>((spec_l6Rd_pick.f k s0_0 bt225.2 4).bind fun bt227=>(if(wrap64 (1+bt225.1))=1 then((spec_l6Rd_pick.f k s0_0 bt227.2 3).bind fun bt233=>(spec_l71Rec.j0 k s0_0 bt233.2 (wrap64 (1+bt225.1)) (wrap64 (1+bt227.1)) (([wrap64 (1+bt233.1)]:List Int)))) else(if(wrap64 (1+bt225.1))=4 then((spec_l71Many.f k s0_0 bt227.2).bind fun bt238=>(spec_l71Rec.j0 k s0_0 bt238.2 (wrap64 (1+bt225.1)) (wrap64 (1+bt227.1)) bt238.1)) else(spec_l71Rec.j0 k s0_0 bt227.2 (wrap64 (1+bt225.1)) (wrap64 (1+bt227.1)) (([]:List Int))))))
theorem spec_l71Rec.mono_l:∀k,(∀y0 y1 y2 y3 y4,LeO (spec_l71Rec.j0 k y0 y1 y2 y3 y4) (spec_l71Rec.j0 (k+1) y0 y1 y2 y3 y4))
 |0=>fun _ _ _ _ _ r h=>by simp[spec_l71Rec.j0] at h
 |k+1=>by
  have ih0:=spec_l71Rec.mono_l k
  ·intro y0 y1 y2 y3 y4
   unfold spec_l71Rec.j0
   repeat' first
   |(with_reducible exact ih0 _ _ _ _ _)
   |(with_reducible exact spec_l6Rd_pick.mono _ _ _ _)
   |(with_reducible exact spec_l71Many.mono _ _ _)
   |(with_reducible exact LeO.refl _)
   |(with_reducible exact LeO.none _)
   |(with_reducible refine LeO.ite ?_ ?_)
   |(with_reducible refine LeO.bind ?_ (fun _=>?_))
   |exact ih0 _ _ _ _ _
   |exact spec_l6Rd_pick.mono _ _ _ _
   |exact spec_l71Many.mono _ _ _
   |exact LeO.none _
   |refine LeO.ite ?_ ?_
   |refine LeO.bind ?_ (fun _=>?_)
theorem spec_l71Rec.mono:∀a0 a1 k,LeO (spec_l71Rec.f k a0 a1) (spec_l71Rec.f (k+1) a0 a1):=by
 intro a0 a1 k
 have ih0:=spec_l71Rec.mono_l k
 unfold spec_l71Rec.f
 repeat' first
   |(with_reducible exact ih0 _ _ _ _ _)
   |(with_reducible exact spec_l6Rd_pick.mono _ _ _ _)
   |(with_reducible exact spec_l71Many.mono _ _ _)
   |(with_reducible exact LeO.refl _)
   |(with_reducible exact LeO.none _)
   |(with_reducible refine LeO.ite ?_ ?_)
   |(with_reducible refine LeO.bind ?_ (fun _=>?_))
   |exact ih0 _ _ _ _ _
   |exact spec_l6Rd_pick.mono _ _ _ _
   |exact spec_l71Many.mono _ _ _
   |exact LeO.none _
   |refine LeO.ite ?_ ?_
   |refine LeO.bind ?_ (fun _=>?_)
def spec_l71Rec.T13:Bool × List (List Nat × List Nat):=(true,[([],[]),([0],[0]),([],[]),([2],[2]),([3],[3]),([1,4,3],[1,4]),([0,1,2,3,4,5],[]),([6,5,5,0,1,2,3,4,5],[5,6])])
def spec_l71Rec.B13:List Nat:=[0,1,0,4,12,31,63,127]
theorem spec_l71Rec.tab13:rtab .any (opsOf Try.f49 13)=spec_l71Rec.T13:=by kernel_rfl
theorem spec_l71Rec.bits13:waitsOk spec_l71Rec.T13.2 spec_l71Rec.B13=true:=by kernel_rfl
set_option maxHeartbeats 8000000 in
set_option maxRecDepth 100000 in
theorem spec_l71Rec.calls (k:Nat) (g:Nat) (s0_0:List Int) (s0_1:Int) (r1:Int) (r2:Int) (r3:List Int) (r4:Int) (w0 w:World) (hI:IsS107 w0 w g s0_0 s0_1) (hB:Below w0.heap.size w0 w) (h:spec_l71Rec.f k s0_0 s0_1=some (r1,r2,r3,r4)) :
  Calls Try.prog 49 #[.pointer (some ⟨g,0,none⟩)] w fun e w'=>∃v2_:Value,e=.returned (.agg #[.int .i64 r1,.int .i64 r2,v2_])∧Kd.Q (Kd.int .i64) 3 w' w.heap.size (fun _=>True) v2_ r3∧IsS107 w0 w' g s0_0 r4∧Below w0.heap.size w0 w'∧KeepBut w w' g none:=by
 have hu32:=Try.underlying32
 have HI0:=Aside0.mk hI
 have HK:=Aside0.mk (KeepBut.refl w g none)
 have HL:=Aside0.mk hB.size
 clear hI
 have HW0:=Aside0.mk hB.size
 have HB:=Aside0.mk hB
 clear hB
 have H:((spec_l6Rd_pick.f k s0_0 s0_1 7).bind fun bt225=>((spec_l6Rd_pick.f k s0_0 bt225.2 4).bind fun bt227=>(if(wrap64 (1+bt225.1))=1 then((spec_l6Rd_pick.f k s0_0 bt227.2 3).bind fun bt233=>(spec_l71Rec.j0 k s0_0 bt233.2 (wrap64 (1+bt225.1)) (wrap64 (1+bt227.1)) (([wrap64 (1+bt233.1)]:List Int)))) else(if(wrap64 (1+bt225.1))=4 then((spec_l71Many.f k s0_0 bt227.2).bind fun bt238=>(spec_l71Rec.j0 k s0_0 bt238.2 (wrap64 (1+bt225.1)) (wrap64 (1+bt227.1)) bt238.1)) else(spec_l71Rec.j0 k s0_0 bt227.2 (wrap64 (1+bt225.1)) (wrap64 (1+bt227.1)) (([]:List Int)))))))=some (r1,r2,r3,r4):=h
 clear h
 replace H:=Option.bind_eq_some_iff.mp H
 obtain⟨⟨t225,t226⟩,A20,H⟩:=H
 replace H:((spec_l6Rd_pick.f k s0_0 t226 4).bind fun bt227=>(if(wrap64 (1+t225))=1 then((spec_l6Rd_pick.f k s0_0 bt227.2 3).bind fun bt233=>(spec_l71Rec.j0 k s0_0 bt233.2 (wrap64 (1+t225)) (wrap64 (1+bt227.1)) (([wrap64 (1+bt233.1)]:List Int)))) else(if(wrap64 (1+t225))=4 then((spec_l71Many.f k s0_0 bt227.2).bind fun bt238=>(spec_l71Rec.j0 k s0_0 bt238.2 (wrap64 (1+t225)) (wrap64 (1+bt227.1)) bt238.1)) else(spec_l71Rec.j0 k s0_0 bt227.2 (wrap64 (1+t225)) (wrap64 (1+bt227.1)) (([]:List Int))))))=some (r1,r2,r3,r4):=H
 have A2:=Aside0.mk A20
 clear A20
 replace H:=Option.bind_eq_some_iff.mp H
 obtain⟨⟨t227,t228⟩,A30,H⟩:=H
 replace H:(if(wrap64 (1+t225))=1 then((spec_l6Rd_pick.f k s0_0 t228 3).bind fun bt233=>(spec_l71Rec.j0 k s0_0 bt233.2 (wrap64 (1+t225)) (wrap64 (1+t227)) (([wrap64 (1+bt233.1)]:List Int)))) else(if(wrap64 (1+t225))=4 then((spec_l71Many.f k s0_0 t228).bind fun bt238=>(spec_l71Rec.j0 k s0_0 bt238.2 (wrap64 (1+t225)) (wrap64 (1+t227)) bt238.1)) else(spec_l71Rec.j0 k s0_0 t228 (wrap64 (1+t225)) (wrap64 (1+t227)) (([]:List Int)))))=some (r1,r2,r3,r4):=H
 have A3:=Aside0.mk A30
 clear A30
 obtain⟨y229,hy229⟩:∃y_:List Int,y_=(([]:List Int)):=⟨_,rfl⟩
 replace H:(if(wrap64 (1+t225))=1 then((spec_l6Rd_pick.f k s0_0 t228 3).bind fun bt233=>(spec_l71Rec.j0 k s0_0 bt233.2 (wrap64 (1+t225)) (wrap64 (1+t227)) (([wrap64 (1+bt233.1)]:List Int)))) else(if(wrap64 (1+t225))=4 then((spec_l71Many.f k s0_0 t228).bind fun bt238=>(spec_l71Rec.j0 k s0_0 bt238.2 (wrap64 (1+t225)) (wrap64 (1+t227)) bt238.1)) else(spec_l71Rec.j0 k s0_0 t228 (wrap64 (1+t225)) (wrap64 (1+t227)) y229)))=some (r1,r2,r3,r4):=by first|(rw[hy229];with_reducible exact H)|(have H2_:=(Option.bind_some _ _).symm.trans H;rw[hy229];with_reducible exact H2_)|(have H2_:=(Option.bind_some _ _).symm.trans H;with_reducible exact H2_)|with_reducible exact H|(rw[hy229];exact H)|exact H
 have Ny229:=Aside0.mk hy229
 clear hy229
 have HC4:=Aside0.mk H
 clear H
 go_enter Try.func49,Try.ntmps49
 go_upto_block 0 with(first|((with_reducible refine qae (N:=2) rfl ?_);refine zX (N:=2) (cs:=#[.int .i64 0,.int .i64 0,.slice none 0 0]) (t:=32) ?_;intro gb224 hg w5 hbox hb;replace HB:=Aside0.mk (qab (by repeat(first|(with_reducible first|exact HB.out|apply below_alloc|apply qaq|apply qao|refine qak ?_ (IsS107.ge HI0.out))|exact HB.out)) hb);have BK224:=Aside0.mk hbox;have GW224:=Aside0.mk ((by rw[hg];exact(qan (w:=w) (g:=g) (row:=none) (za22 HK)):w.heap.size≤gb224));have GE224:=Aside0.mk ((Nat.le_trans HW0.out (by rw[hg];exact(qan (w:=w) (g:=g) (row:=none) (za22 HK)):w.heap.size≤gb224):w0.heap.size≤gb224));replace HK:=Aside0.mk (KeepBut.trans (za22 HK) (KeepBut.of_below hb g none) (.inl rfl));have NB0_224:=Aside0.mk ((by rw[hg];exact Nat.ne_of_lt (IsS107.lt (show IsS107 w0 _ g s0_0 s0_1 from by repeat(first|(with_reducible first|exact HI0.out|apply IsS107.alloc|apply IsS107.drewN|apply IsS107.drew|apply IsS107.set_1)|exact HI0.out))):g≠gb224));have NB224_0:=Aside0.mk ((by rw[hg];exact Nat.ne_of_gt (IsS107.lt (show IsS107 w0 _ g s0_0 s0_1 from by repeat(first|(with_reducible first|exact HI0.out|apply IsS107.alloc|apply IsS107.drewN|apply IsS107.drew|apply IsS107.set_1)|exact HI0.out))):gb224≠g));replace HI0:=Aside0.mk (IsS107.below (by repeat(first|(with_reducible first|exact HI0.out|apply IsS107.alloc|apply IsS107.drewN|apply IsS107.drew|apply IsS107.set_1)|exact HI0.out)) hb);clear hb hbox hg)|((with_reducible refine qac (f:=48) rfl ?_);refine zF (some 5) Try.func48 #[.pointer (some ⟨g,0,none⟩),.int .i64 7] ?_;(with_reducible refine(spec_l6Rd_pick.calls k g s0_0 s0_1 7 t225 t226 w0 _ ?side1 ?side2 A2.out).mono ?_);(case side1=>repeat(first|(with_reducible first|exact HI0.out|apply IsS107.alloc|apply IsS107.drewN|apply IsS107.drew|apply IsS107.set_1|refine IsS107.far ?_ NB0_224.out _)|exact HI0.out));(case side2=>exact(zb25_l71Rec HB HI0 GE224));rintro e w6 ⟨rfl,hi,hb,hk⟩;refine⟨_,rfl,?_⟩;replace BK224:=Aside0.mk (KeepBut.blk hk (zB BK224) NB224_0.out (by simp));replace HK:=Aside0.mk (KeepBut.trans (za23 HK GW224) hk (.inl rfl));replace HB:=Aside0.mk hb;replace HI0:=Aside0.mk hi;(try clear hb);(try clear hk);(try clear hi))|((with_reducible refine qac (f:=48) rfl ?_);refine zF (some 8) Try.func48 #[.pointer (some ⟨g,0,none⟩),.int .i64 4] ?_;(with_reducible refine(spec_l6Rd_pick.calls k g s0_0 t226 4 t227 t228 w0 _ ?side1 ?side2 A3.out).mono ?_);(case side1=>repeat(first|(with_reducible first|exact HI0.out|apply IsS107.alloc|apply IsS107.drewN|apply IsS107.drew|apply IsS107.set_1|refine IsS107.far ?_ NB0_224.out _)|exact HI0.out));(case side2=>exact(zb25_l71Rec HB HI0 GE224));rintro e w7 ⟨rfl,hi,hb,hk⟩;refine⟨_,rfl,?_⟩;replace BK224:=Aside0.mk (KeepBut.blk hk (zB BK224) NB224_0.out (by simp));replace HK:=Aside0.mk (KeepBut.trans (za23 HK GW224) hk (.inl rfl));replace HB:=Aside0.mk hb;replace HI0:=Aside0.mk hi;(try clear hb);(try clear hk);(try clear hi))|((with_reducible refine qae (N:=10) rfl ?_);refine Kd.R_lit (Kd.int .i64) _ 3 (by rfl) (N:=10) (by rfl) (xs:=([]:List Int)) (inner:=[]) (ok:=fun _=>True) (okp:=fun _=>True) (by first|(go_simp;done)|(go_simp;rfl)) (Reps.none _ _) (fun _ hk=>hk) trivial (Below.refl _ _) (Nat.le_refl _) (by simp) ?_;intro v230 w8 ho9 hb hg_ hnew_;clear hg_ hnew_;(first|rw[←Ny229.out] at ho9|(simp only[Int.reduceToNat] at ho9;rw[←Ny229.out] at ho9));have HO231:=Aside0.mk (Kd.R_lower ho9 (qan (w:=w) (g:=g) (row:=none) (za23 HK GW224)));replace BK224:=Aside0.mk (qaa (zB BK224) hb);replace HK:=Aside0.mk (KeepBut.trans (za23 HK GW224) (KeepBut.of_below hb g none) (.inl rfl));replace HB:=Aside0.mk (qab (zb25_l71Rec HB HI0 GE224) hb);replace HI0:=Aside0.mk (IsS107.below (by repeat(first|(with_reducible first|exact HI0.out|apply IsS107.alloc|apply IsS107.drewN|apply IsS107.drew|apply IsS107.set_1|refine IsS107.far ?_ NB0_224.out _)|exact HI0.out)) hb);clear hb ho9;obtain⟨Ao10,co10,eo10⟩:=Kd.R_slice HO231.out;subst eo10)|((with_reducible refine qae (N:=3) rfl ?_);refine zX (N:=3) (cs:=#[.int .i64 0,.int .i64 0,.slice none 0 0]) (t:=32) ?_;intro gb232 hg w11 hbox hb;replace HO231:=Aside0.mk (Kd.R_below (za5 HO231) hb);replace HB:=Aside0.mk (qab (zb25_l71Rec HB HI0 GE224) hb);have BK232:=Aside0.mk hbox;have GW232:=Aside0.mk ((by rw[hg];exact(qan (w:=w) (g:=g) (row:=none) (za23 HK GW224)):w.heap.size≤gb232));have GE232:=Aside0.mk ((Nat.le_trans HW0.out (by rw[hg];exact(qan (w:=w) (g:=g) (row:=none) (za23 HK GW224)):w.heap.size≤gb232):w0.heap.size≤gb232));replace HK:=Aside0.mk (KeepBut.trans (za23 HK GW224) (KeepBut.of_below hb g none) (.inl rfl));have NB224_232:=zL BK224 hg;have NB232_224:=zG BK224 hg;replace BK224:=Aside0.mk (qaa (zB BK224) hb);have NB0_232:=Aside0.mk ((by rw[hg];exact Nat.ne_of_lt (IsS107.lt (show IsS107 w0 _ g s0_0 t228 from by repeat(first|(with_reducible first|exact HI0.out|apply IsS107.alloc|apply IsS107.drewN|apply IsS107.drew|apply IsS107.set_1|refine IsS107.far ?_ NB0_224.out _)|exact HI0.out))):g≠gb232));have NB232_0:=Aside0.mk ((by rw[hg];exact Nat.ne_of_gt (IsS107.lt (show IsS107 w0 _ g s0_0 t228 from by repeat(first|(with_reducible first|exact HI0.out|apply IsS107.alloc|apply IsS107.drewN|apply IsS107.drew|apply IsS107.set_1|refine IsS107.far ?_ NB0_224.out _)|exact HI0.out))):gb232≠g));replace HI0:=Aside0.mk (IsS107.below (by repeat(first|(with_reducible first|exact HI0.out|apply IsS107.alloc|apply IsS107.drewN|apply IsS107.drew|apply IsS107.set_1|refine IsS107.far ?_ NB0_224.out _)|exact HI0.out)) hb);clear hb hbox hg;have hnb12:=NB232_224.out;have hnc12:=NB224_232.out;have hnb13:=NB232_0.out;have hnc13:=NB0_232.out;obtain⟨hcz14_0,hcz14_1,hcz14_2,hfz14_0,hfz14_1,hfz14_2⟩:=zC3 BK232))
 (try simp only[Act.put,List.setIfInBounds_toArray,List.set_cons_zero,List.set_cons_succ])
 go_cut [] (fun wc=>∃(kq:Nat) (x1001_3:Int) (x233002_3:List Int) (u233002:Value),Aside0 (spec_l71Rec.j0 kq s0_0 x1001_3 (wrap64 (1+t225)) (wrap64 (1+t227)) x233002_3=some (r1,r2,r3,r4))∧Aside0 (kq≤k)∧Aside0 (Kd.Q (Kd.int .i64) 3 wc w.heap.size (fun _=>True) u233002 x233002_3)∧Aside0 (wc.heap[gb224]?=some (.cells #[.int .i64 0,.int .i64 0,(.slice none 0 0)] 32 (0,0)))∧Aside0 (wc.heap[gb232]?=some (.cells #[.int .i64 (wrap64 (1+t225)),.int .i64 (wrap64 (1+t227)),u233002] 32 (0,0)))∧Aside0 (IsS107 w0 wc g s0_0 x1001_3)∧Aside0 (KeepBut w wc g none)∧Aside0 (Below w0.heap.size w0 wc))
 case first=>
  have H:=HC4.out
  clear HC4
  by_cases c15:(wrap64 (1+t225))=1
  ·rw[if_pos c15] at H
   have c15b0:((wrap64 (1+t225)) == 1)=true:=beq_iff_eq.mpr c15
   have c15b1:((wrap64 (1+t225)) != 1)=false:=bne_eq_false_iff_eq.mpr c15
   clear c15
   (first|rw[c15b0]|(simp only[qaf,qag];rw[c15b0])|skip)
   replace H:=Option.bind_eq_some_iff.mp H
   obtain⟨⟨t233,t234⟩,A160,H⟩:=H
   replace H:(spec_l71Rec.j0 k s0_0 t234 (wrap64 (1+t225)) (wrap64 (1+t227)) (([wrap64 (1+t233)]:List Int)))=some (r1,r2,r3,r4):=H
   have A16:=Aside0.mk A160
   clear A160
   obtain⟨y235,hy235⟩:∃y_:List Int,y_=(([wrap64 (1+t233)]:List Int)):=⟨_,rfl⟩
   replace H:(spec_l71Rec.j0 k s0_0 t234 (wrap64 (1+t225)) (wrap64 (1+t227)) y235)=some (r1,r2,r3,r4):=by first|(rw[hy235];with_reducible exact H)|(have H2_:=(Option.bind_some _ _).symm.trans H;rw[hy235];with_reducible exact H2_)|(have H2_:=(Option.bind_some _ _).symm.trans H;with_reducible exact H2_)|with_reducible exact H|(rw[hy235];exact H)|exact H
   have Ny235:=Aside0.mk hy235
   clear hy235
   have H':=Aside0.mk H
   clear H
   go_wp2_with(first|((with_reducible refine qac (f:=48) rfl ?_);refine zF (some 17) Try.func48 #[.pointer (some ⟨g,0,none⟩),.int .i64 3] ?_;(with_reducible refine(spec_l6Rd_pick.calls k g s0_0 t228 3 t233 t234 w0 _ ?side1 ?side2 A16.out).mono ?_);(case side1=>repeat(first|(with_reducible first|exact HI0.out|apply IsS107.alloc|apply IsS107.drewN|apply IsS107.drew|apply IsS107.set_1|refine IsS107.far ?_ NB0_224.out _|refine IsS107.far ?_ NB0_232.out _)|exact HI0.out));(case side2=>exact(zb11_l71Rec HB HI0 GE224 GE232));rintro e w17 ⟨rfl,hi,hb,hk⟩;refine⟨_,rfl,?_⟩;replace BK224:=Aside0.mk (KeepBut.blk hk (g':=gb224) (o:=.cells #[.int .i64 0,.int .i64 0,.slice none 0 0] 32 (0,0)) (za3 NB224_232 BK224) NB224_0.out (by simp));replace HO231:=Aside0.mk (Kd.R_mono (Kd.R_keep (IsS107.apart (show IsS107 w0 _ g s0_0 t228 from by repeat(first|(with_reducible first|exact HI0.out|apply IsS107.alloc|apply IsS107.drewN|apply IsS107.drew|apply IsS107.set_1|refine IsS107.far ?_ NB0_224.out _|refine IsS107.far ?_ NB0_232.out _)|exact HI0.out)) (by(with_reducible repeat(first|apply Kd.R_alloc|apply Kd.R_drewN|apply Kd.R_drew));exact(Kd.R_mono (Kd.R_far (p:=⟨gb232,2,none⟩) (Kd.R_far (p:=⟨gb232,1,none⟩) (Kd.R_far (p:=⟨gb232,0,none⟩) (Kd.R_types HO231.out BK232.out (by decide)) (fun _ hk=>hk.2) (.int .i64 (wrap64 (1+t225)))) (fun _ hk=>hk.2) (.int .i64 (wrap64 (1+t227)))) (fun _ hk=>hk.2) (.slice Ao10 y229.length co10)) (fun _ h_=>h_.1))) (by decide)) hk (fun _ h=>h.2)) (fun _ h=>h.1));replace BK232:=Aside0.mk (KeepBut.blk hk (g':=gb232) (o:=.cells #[.int .i64 (wrap64 (1+t225)),.int .i64 (wrap64 (1+t227)),.slice Ao10 y229.length co10] 32 (0,0)) (by(with_reducible repeat(first|refine blk_drewN ?_ _|refine blk_drew ?_|refine blk_alloc ?_ _));refine qad (cs:=#[.int .i64 (wrap64 (1+t225)),.int .i64 (wrap64 (1+t227)),.slice none 0 0]) ?_ 2 _ rfl;(with_reducible repeat(first|refine blk_drewN ?_ _|refine blk_drew ?_|refine blk_alloc ?_ _));refine qad (cs:=#[.int .i64 (wrap64 (1+t225)),.int .i64 0,.slice none 0 0]) ?_ 1 _ rfl;(with_reducible repeat(first|refine blk_drewN ?_ _|refine blk_drew ?_|refine blk_alloc ?_ _));refine qad (cs:=#[.int .i64 0,.int .i64 0,.slice none 0 0]) ?_ 0 _ rfl;(with_reducible repeat(first|refine blk_drewN ?_ _|refine blk_drew ?_|refine blk_alloc ?_ _));exact BK232.out) NB232_0.out (by simp));replace HK:=Aside0.mk (KeepBut.trans (za8 HK GW224 GW232) hk (.inl rfl));replace HB:=Aside0.mk hb;replace HI0:=Aside0.mk hi;(try clear hb);(try clear hk);(try clear hi))|((with_reducible refine qae (N:=19) rfl ?_);refine Kd.R_lit (Kd.int .i64) _ 3 (by rfl) (N:=19) (by rfl) (xs:=([wrap64 (1+t233)]:List Int)) (inner:=[.int .i64 (wrap64 (1+t233))]) (ok:=fun _=>True) (okp:=fun _=>True) (by first|(go_simp;done)|(go_simp;rfl)) ?hp (fun _ hk=>hk) trivial (Below.refl _ _) (Nat.le_refl _) (by simp) ?_;(case hp=>exact(Reps.one (show Kd.M (Kd.int .i64) _ _ _ (wrap64 (1+t233)) [.int .i64 (wrap64 (1+t233))] from rfl) (Reps.none _ _)));intro v236 w18 ho19 hb hg_ hnew_;clear hg_ hnew_;(first|rw[←Ny235.out] at ho19|(simp only[Int.reduceToNat] at ho19;rw[←Ny235.out] at ho19));have HO237:=Aside0.mk (Kd.R_lower (Kd.R_new' ho19 (Kd.R_lt (za5 HO231))) (qan (w:=w) (g:=g) (row:=none) (za8 HK GW224 GW232)));replace HO231:=Aside0.mk (Kd.R_elder' (za5 HO231) (Kd.R_base ho19) hb);replace BK224:=Aside0.mk (qaa (zB BK224) hb);replace BK232:=Aside0.mk (qaa (zB BK232) hb);replace HK:=Aside0.mk (KeepBut.trans (za8 HK GW224 GW232) (KeepBut.of_below hb g none) (.inl rfl));replace HB:=Aside0.mk (qab (zb11_l71Rec HB HI0 GE224 GE232) hb);replace HI0:=Aside0.mk (IsS107.below (zb32_l71Rec HI0 NB0_224 NB0_232) hb);clear hb ho19;obtain⟨Ao20,co20,eo20⟩:=Kd.R_slice HO237.out;subst eo20;have hnb21:=NB232_224.out;have hnc21:=NB224_232.out;have hnb22:=NB232_0.out;have hnc22:=NB0_232.out;obtain⟨hcz23_0,hcz23_1,hcz23_2,hfz23_0,hfz23_1,hfz23_2⟩:=zC3 BK232))
   go_meet
   case rel=>exact⟨_,(t234),(y235),(.slice Ao20 y235.length co20),H',⟨za57⟩,⟨Kd.Q_of_R (by(with_reducible repeat(first|apply Kd.R_alloc|apply Kd.R_drewN|apply Kd.R_drew));exact Kd.R_mono (Kd.R_far (p:=⟨gb232,2,none⟩) (Kd.R_types HO237.out BK232.out (by decide)) (fun _ hk=>hk.2) (.slice Ao20 y235.length co20)) (fun _ hk=>trivial))⟩,⟨za45 NB224_232 BK224⟩,⟨by(with_reducible repeat(first|refine blk_drewN ?_ _|refine blk_drew ?_|refine blk_alloc ?_ _));refine qad (cs:=#[.int .i64 (wrap64 (1+t225)),.int .i64 (wrap64 (1+t227)),.slice Ao10 y229.length co10]) ?_ 2 _ rfl;(with_reducible repeat(first|refine blk_drewN ?_ _|refine blk_drew ?_|refine blk_alloc ?_ _));exact BK232.out⟩,⟨zb32_l71Rec HI0 NB0_224 NB0_232⟩,⟨za8 HK GW224 GW232⟩,⟨zb11_l71Rec HB HI0 GE224 GE232⟩⟩
  ·rw[if_neg c15] at H
   have c15b0:((wrap64 (1+t225)) == 1)=false:=beq_eq_false_iff_ne.mpr c15
   have c15b1:((wrap64 (1+t225)) != 1)=true:=bne_iff_ne.mpr c15
   (first|rw[c15b0]|(simp only[qaf,qag];rw[c15b0])|skip)
   by_cases c24:(wrap64 (1+t225))=4
   ·rw[if_pos c24] at H
    have c24b0:((wrap64 (1+t225)) == 4)=true:=beq_iff_eq.mpr c24
    have c24b1:((wrap64 (1+t225)) != 4)=false:=bne_eq_false_iff_eq.mpr c24
    clear c24
    replace H:=Option.bind_eq_some_iff.mp H
    obtain⟨⟨t238,t241⟩,A250,H⟩:=H
    replace H:(spec_l71Rec.j0 k s0_0 t241 (wrap64 (1+t225)) (wrap64 (1+t227)) t238)=some (r1,r2,r3,r4):=H
    have A25:=Aside0.mk A250
    clear A250
    have H':=Aside0.mk H
    clear H
    go_wp2_with(first|((with_reducible refine qac (f:=83) rfl ?_);refine zF (some 24) Try.func83 #[.pointer (some ⟨g,0,none⟩)] ?_;(with_reducible refine(spec_l71Many.calls k g s0_0 t228 t238 t241 w0 _ ?side1 ?side2 A25.out).mono ?_);(case side1=>repeat(first|(with_reducible first|exact HI0.out|apply IsS107.alloc|apply IsS107.drewN|apply IsS107.drew|apply IsS107.set_1|refine IsS107.far ?_ NB0_224.out _|refine IsS107.far ?_ NB0_232.out _)|exact HI0.out));(case side2=>exact(zb11_l71Rec HB HI0 GE224 GE232));rintro e w26 ⟨v239,rfl,ho0,hi,hb,hk⟩;refine⟨_,rfl,?_⟩;replace BK224:=Aside0.mk (KeepBut.blk hk (g':=gb224) (o:=.cells #[.int .i64 0,.int .i64 0,.slice none 0 0] 32 (0,0)) (za3 NB224_232 BK224) NB224_0.out (by simp));have HO240:=Aside0.mk (Kd.Q_lower (Kd.Q_new' ho0 (Kd.R_lt (by(with_reducible repeat(first|apply Kd.R_alloc|apply Kd.R_drewN|apply Kd.R_drew));exact(Kd.R_mono (Kd.R_far (p:=⟨gb232,2,none⟩) (Kd.R_far (p:=⟨gb232,1,none⟩) (Kd.R_far (p:=⟨gb232,0,none⟩) (Kd.R_types HO231.out BK232.out (by decide)) (fun _ hk=>hk.2) (.int .i64 (wrap64 (1+t225)))) (fun _ hk=>hk.2) (.int .i64 (wrap64 (1+t227)))) (fun _ hk=>hk.2) (.slice Ao10 y229.length co10)) (fun _ h_=>h_.1))))) (qan (w:=w) (g:=g) (row:=none) (za8 HK GW224 GW232)));replace HO231:=Aside0.mk (Kd.R_mono (Kd.R_told (Kd.R_oldK (IsS107.apart (show IsS107 w0 _ g s0_0 t228 from by repeat(first|(with_reducible first|exact HI0.out|apply IsS107.alloc|apply IsS107.drewN|apply IsS107.drew|apply IsS107.set_1|refine IsS107.far ?_ NB0_224.out _|refine IsS107.far ?_ NB0_232.out _)|exact HI0.out)) (by(with_reducible repeat(first|apply Kd.R_alloc|apply Kd.R_drewN|apply Kd.R_drew));exact(Kd.R_mono (Kd.R_far (p:=⟨gb232,2,none⟩) (Kd.R_far (p:=⟨gb232,1,none⟩) (Kd.R_far (p:=⟨gb232,0,none⟩) (Kd.R_types HO231.out BK232.out (by decide)) (fun _ hk=>hk.2) (.int .i64 (wrap64 (1+t225)))) (fun _ hk=>hk.2) (.int .i64 (wrap64 (1+t227)))) (fun _ hk=>hk.2) (.slice Ao10 y229.length co10)) (fun _ h_=>h_.1))) (by decide)) hk) (Kd.Q_base ho0)) (fun _ h_=>h_.1));replace BK232:=Aside0.mk (KeepBut.blk hk (g':=gb232) (o:=.cells #[.int .i64 (wrap64 (1+t225)),.int .i64 (wrap64 (1+t227)),.slice Ao10 y229.length co10] 32 (0,0)) (by(with_reducible repeat(first|refine blk_drewN ?_ _|refine blk_drew ?_|refine blk_alloc ?_ _));refine qad (cs:=#[.int .i64 (wrap64 (1+t225)),.int .i64 (wrap64 (1+t227)),.slice none 0 0]) ?_ 2 _ rfl;(with_reducible repeat(first|refine blk_drewN ?_ _|refine blk_drew ?_|refine blk_alloc ?_ _));refine qad (cs:=#[.int .i64 (wrap64 (1+t225)),.int .i64 0,.slice none 0 0]) ?_ 1 _ rfl;(with_reducible repeat(first|refine blk_drewN ?_ _|refine blk_drew ?_|refine blk_alloc ?_ _));refine qad (cs:=#[.int .i64 0,.int .i64 0,.slice none 0 0]) ?_ 0 _ rfl;(with_reducible repeat(first|refine blk_drewN ?_ _|refine blk_drew ?_|refine blk_alloc ?_ _));exact BK232.out) NB232_0.out (by simp));replace HK:=Aside0.mk (KeepBut.trans (za8 HK GW224 GW232) hk (.inl rfl));replace HB:=Aside0.mk hb;replace HI0:=Aside0.mk hi;(try clear hb);(try clear hk);(try clear hi);(try clear ho0);obtain⟨Ao27,co27,eo27,_⟩:=Kd.Q_slice HO240.out;subst eo27;have hnb28:=NB232_224.out;have hnc28:=NB224_232.out;have hnb29:=NB232_0.out;have hnc29:=NB0_232.out;obtain⟨hcz30_0,hcz30_1,hcz30_2,hfz30_0,hfz30_1,hfz30_2⟩:=zC3 BK232))
    go_meet
    case rel=>exact⟨_,(t241),(t238),(.slice Ao27 t238.length co27),H',⟨za57⟩,⟨by(with_reducible repeat(first|apply Kd.Q_alloc|apply Kd.Q_drewN|apply Kd.Q_drew));exact Kd.Q_mono (Kd.Q_far (p:=⟨gb232,2,none⟩) (Kd.Q_types HO240.out BK232.out (by decide)) (fun _ hk=>hk.2) (.slice Ao27 t238.length co27)) (fun _ hk=>trivial)⟩,⟨za45 NB224_232 BK224⟩,⟨by(with_reducible repeat(first|refine blk_drewN ?_ _|refine blk_drew ?_|refine blk_alloc ?_ _));refine qad (cs:=#[.int .i64 (wrap64 (1+t225)),.int .i64 (wrap64 (1+t227)),.slice Ao10 y229.length co10]) ?_ 2 _ rfl;(with_reducible repeat(first|refine blk_drewN ?_ _|refine blk_drew ?_|refine blk_alloc ?_ _));exact BK232.out⟩,⟨zb32_l71Rec HI0 NB0_224 NB0_232⟩,⟨za8 HK GW224 GW232⟩,⟨zb11_l71Rec HB HI0 GE224 GE232⟩⟩
   ·rw[if_neg c24] at H
    have c24b0:((wrap64 (1+t225)) == 4)=false:=beq_eq_false_iff_ne.mpr c24
    have c24b1:((wrap64 (1+t225)) != 4)=true:=bne_iff_ne.mpr c24
    have H':=Aside0.mk H
    clear H
    go_wp2
    go_meet
    case rel=>exact⟨_,(t228),(y229),(.slice Ao10 y229.length co10),H',⟨za57⟩,⟨Kd.Q_of_R (by(with_reducible repeat(first|apply Kd.R_alloc|apply Kd.R_drewN|apply Kd.R_drew));exact Kd.R_mono (Kd.R_far (p:=⟨gb232,2,none⟩) (Kd.R_far (p:=⟨gb232,1,none⟩) (Kd.R_far (p:=⟨gb232,0,none⟩) (Kd.R_types HO231.out BK232.out (by decide)) (fun _ hk=>hk.2) (.int .i64 (wrap64 (1+t225)))) (fun _ hk=>hk.2) (.int .i64 (wrap64 (1+t227)))) (fun _ hk=>hk.2) (.slice Ao10 y229.length co10)) (fun _ hk=>trivial))⟩,⟨za3 NB224_232 BK224⟩,⟨by(with_reducible repeat(first|refine blk_drewN ?_ _|refine blk_drew ?_|refine blk_alloc ?_ _));refine qad (cs:=#[.int .i64 (wrap64 (1+t225)),.int .i64 (wrap64 (1+t227)),.slice none 0 0]) ?_ 2 _ rfl;(with_reducible repeat(first|refine blk_drewN ?_ _|refine blk_drew ?_|refine blk_alloc ?_ _));refine qad (cs:=#[.int .i64 (wrap64 (1+t225)),.int .i64 0,.slice none 0 0]) ?_ 1 _ rfl;(with_reducible repeat(first|refine blk_drewN ?_ _|refine blk_drew ?_|refine blk_alloc ?_ _));refine qad (cs:=#[.int .i64 0,.int .i64 0,.slice none 0 0]) ?_ 0 _ rfl;(with_reducible repeat(first|refine blk_drewN ?_ _|refine blk_drew ?_|refine blk_alloc ?_ _));exact BK232.out⟩,⟨zb32_l71Rec HI0 NB0_224 NB0_232⟩,⟨za8 HK GW224 GW232⟩,⟨zb11_l71Rec HB HI0 GE224 GE232⟩⟩
 case rest=>
  clear HC4
  try clear c1
  try clear c2
  try clear p2
  try clear c4
  try clear p6
  try clear c8
  try clear c12
  try clear c13
  try clear c15
  try clear c15b0
  try clear c15b1
  try clear c21
  try clear c22
  try clear c24
  try clear c24b0
  try clear c24b1
  try clear c28
  try clear c29
  try clear hcz14_0
  try clear hcz14_1
  try clear hcz14_2
  try clear hcz23_0
  try clear hcz23_1
  try clear hcz23_2
  try clear hcz30_0
  try clear hcz30_1
  try clear hcz30_2
  try clear hfz14_0
  try clear hfz14_1
  try clear hfz14_2
  try clear hfz23_0
  try clear hfz23_1
  try clear hfz23_2
  try clear hfz30_0
  try clear hfz30_1
  try clear hfz30_2
  obtain⟨kq,x1001_3,x233002_3,u233002,HA,HJ3,HO_233002,BK224,BK232,HI0,HK,HB⟩:=hcut
  cases kq with
  |zero=>exact absurd HA.out (by simp[spec_l71Rec.j0])
  |succ kj3=>
   have H:=HA.out
   clear HA
   simp only[spec_l71Rec.j0] at H
   replace H:=Option.bind_eq_some_iff.mp H
   obtain⟨⟨t242,t243⟩,A310,H⟩:=H
   replace H:(if t242=0 then((spec_l6Rd_pick.f kj3 s0_0 t243 9).bind fun bt244=>(some (bt244.1,(wrap64 (1+t227)),x233002_3,bt244.2))) else(if t242=1 then((some (([0,6,7]:List Int):List Int)).bind fun y246=>((spec_l6Rd_pick.f kj3 s0_0 t243 3).bind fun bt249=>(if 0≤bt249.1 then(if bt249.1<(y246.length:Int) then(some ((wrap64 (1+t225)),rd y246 bt249.1,x233002_3,bt249.2)) else(none)) else(none)))) else(if t242=2 then((spec_l6Rd_pick.f kj3 s0_0 t243 5).bind fun bt252=>(if x233002_3.length<17592186044416 then(some ((wrap64 (1+t225)),(wrap64 (1+t227)),(x233002_3++[bt252.1]),bt252.2)) else(none))) else(some ((wrap64 (1+t225)),(wrap64 (1+t227)),x233002_3,t243)))))=some (r1,r2,r3,r4):=H
   have A31:=Aside0.mk A310
   clear A310
   by_cases c32:t242=0
   ·rw[if_pos c32] at H
    have c32b0:(t242 == 0)=true:=beq_iff_eq.mpr c32
    have c32b1:(t242 != 0)=false:=bne_eq_false_iff_eq.mpr c32
    clear c32
    replace H:=Option.bind_eq_some_iff.mp H
    obtain⟨⟨t244,t245⟩,A330,H⟩:=H
    replace H:(some (t244,(wrap64 (1+t227)),x233002_3,t245))=some (r1,r2,r3,r4):=H
    have A33:=Aside0.mk A330
    clear A330
    simp only[Option.some.injEq,Prod.mk.injEq] at H
    obtain⟨rfl,rfl,rfl,rfl⟩:=H
    go_wp2_with(first|((with_reducible refine qac (f:=48) rfl ?_);refine zF (some 27) Try.func48 #[.pointer (some ⟨g,0,none⟩),.int .i64 20] ?_;(with_reducible refine(spec_l6Rd_pick.calls kj3 g s0_0 x1001_3 20 t242 t243 w0 _ ?side1 ?side2 A31.out).mono ?_);(case side1=>repeat(first|(with_reducible first|exact HI0.out|apply IsS107.alloc|apply IsS107.drewN|apply IsS107.drew|apply IsS107.set_1|refine IsS107.far ?_ NB0_224.out _|refine IsS107.far ?_ NB0_232.out _)|exact HI0.out));(case side2=>exact(zb11_l71Rec HB HI0 GE224 GE232));rintro e w34 ⟨rfl,hi,hb,hk⟩;refine⟨_,rfl,?_⟩;replace HO_233002:=Aside0.mk (Kd.Q_mono (Kd.Q_keep (IsS107.apartQ (show IsS107 w0 _ g s0_0 x1001_3 from by repeat(first|(with_reducible first|exact HI0.out|apply IsS107.alloc|apply IsS107.drewN|apply IsS107.drew|apply IsS107.set_1|refine IsS107.far ?_ NB0_224.out _|refine IsS107.far ?_ NB0_232.out _)|exact HI0.out)) (za10 HO_233002) (by decide)) hk (fun _ h=>h.2)) (fun _ h=>h.1));replace BK224:=Aside0.mk (KeepBut.blk hk (zB BK224) NB224_0.out (by simp));replace BK232:=Aside0.mk (KeepBut.blk hk (zB BK232) NB232_0.out (by simp));replace HK:=Aside0.mk (KeepBut.trans (za8 HK GW224 GW232) hk (.inl rfl));replace HB:=Aside0.mk hb;replace HI0:=Aside0.mk hi;(try clear hb);(try clear hk);(try clear hi))|((with_reducible refine qac (f:=48) rfl ?_);refine zF (some 31) Try.func48 #[.pointer (some ⟨g,0,none⟩),.int .i64 9] ?_;(with_reducible refine(spec_l6Rd_pick.calls kj3 g s0_0 t243 9 t244 t245 w0 _ ?side1 ?side2 A33.out).mono ?_);(case side1=>repeat(first|(with_reducible first|exact HI0.out|apply IsS107.alloc|apply IsS107.drewN|apply IsS107.drew|apply IsS107.set_1|refine IsS107.far ?_ NB0_224.out _|refine IsS107.far ?_ NB0_232.out _)|exact HI0.out));(case side2=>exact(zb11_l71Rec HB HI0 GE224 GE232));rintro e w35 ⟨rfl,hi,hb,hk⟩;refine⟨_,rfl,?_⟩;replace HO_233002:=Aside0.mk (Kd.Q_mono (Kd.Q_keep (IsS107.apartQ (show IsS107 w0 _ g s0_0 t243 from by repeat(first|(with_reducible first|exact HI0.out|apply IsS107.alloc|apply IsS107.drewN|apply IsS107.drew|apply IsS107.set_1|refine IsS107.far ?_ NB0_224.out _|refine IsS107.far ?_ NB0_232.out _)|exact HI0.out)) (za10 HO_233002) (by decide)) hk (fun _ h=>h.2)) (fun _ h=>h.1));replace BK224:=Aside0.mk (KeepBut.blk hk (zB BK224) NB224_0.out (by simp));replace BK232:=Aside0.mk (KeepBut.blk hk (zB BK232) NB232_0.out (by simp));replace HK:=Aside0.mk (KeepBut.trans (za8 HK GW224 GW232) hk (.inl rfl));replace HB:=Aside0.mk hb;replace HI0:=Aside0.mk hi;(try clear hb);(try clear hk);(try clear hi);have hnb36:=NB232_224.out;have hnc36:=NB224_232.out;have hnb37:=NB232_0.out;have hnc37:=NB0_232.out;obtain⟨hcz38_0,hcz38_1,hcz38_2,hfz38_0,hfz38_1,hfz38_2⟩:=zC3 BK232;have hnb39:=NB224_0.out;have hnc39:=NB0_224.out;obtain⟨hcz40_0,hcz40_1,hcz40_2,hfz40_0,hfz40_1,hfz40_2⟩:=zC3 BK224;obtain⟨Ao41,co41,eo41,_⟩:=Kd.Q_slice HO_233002.out;subst eo41))
    refine bodyPost_ret (results_cell_row rfl _ _ gb224 32 #[.int .i64 t244,.int .i64 (wrap64 (1+t227)),.slice Ao41 x233002_3.length co41] (0,0) _ rfl (by(with_reducible repeat(first|refine blk_drewN ?_ _|refine blk_drew ?_|refine blk_alloc ?_ _));refine qad (cs:=#[.int .i64 t244,.int .i64 (wrap64 (1+t227)),.slice none 0 0]) ?_ 2 _ rfl;(with_reducible repeat(first|refine blk_drewN ?_ _|refine blk_drew ?_|refine blk_alloc ?_ _));refine qad (cs:=#[.int .i64 t244,.int .i64 0,.slice none 0 0]) ?_ 1 _ rfl;(with_reducible repeat(first|refine blk_drewN ?_ _|refine blk_drew ?_|refine blk_alloc ?_ _));refine qad (cs:=#[.int .i64 0,.int .i64 0,.slice none 0 0]) ?_ 0 _ rfl;(with_reducible repeat(first|refine blk_drewN ?_ _|refine blk_drew ?_|refine blk_alloc ?_ _));refine blk_far ?_ NB224_232.out _;(with_reducible repeat(first|refine blk_drewN ?_ _|refine blk_drew ?_|refine blk_alloc ?_ _));exact BK224.out) Try.underlying32 rfl (by kernel_rfl)) rfl ?_
    exact⟨_,za16,by(with_reducible repeat(first|apply Kd.Q_alloc|apply Kd.Q_drewN|apply Kd.Q_drew));exact Kd.Q_mono (Kd.Q_far (p:=⟨gb224,2,none⟩) (Kd.Q_far (p:=⟨gb224,1,none⟩) (Kd.Q_far (p:=⟨gb224,0,none⟩) (Kd.Q_far (p:=⟨gb232,0,none⟩) (Kd.Q_types (Kd.Q_types HO_233002.out BK232.out (by decide)) BK224.out (by decide)) (fun _ hk=>hk.1.2) (.int .i64 t244)) (fun _ hk=>hk.2) (.int .i64 t244)) (fun _ hk=>hk.2) (.int .i64 (wrap64 (1+t227)))) (fun _ hk=>hk.2) (.slice Ao41 x233002_3.length co41)) (fun _ hk=>trivial),zb32_l71Rec HI0 NB0_224 NB0_232,zb11_l71Rec HB HI0 GE224 GE232,za8 HK GW224 GW232⟩
   ·rw[if_neg c32] at H
    have c32b0:(t242 == 0)=false:=beq_eq_false_iff_ne.mpr c32
    have c32b1:(t242 != 0)=true:=bne_iff_ne.mpr c32
    by_cases c42:t242=1
    ·rw[if_pos c42] at H
     have c42b0:(t242 == 1)=true:=beq_iff_eq.mpr c42
     have c42b1:(t242 != 1)=false:=bne_eq_false_iff_eq.mpr c42
     clear c42
     obtain⟨y246,hy246⟩:∃y_:List Int,y_=(([0,6,7]:List Int)):=⟨_,rfl⟩
     replace H:((spec_l6Rd_pick.f kj3 s0_0 t243 3).bind fun bt249=>(if 0≤bt249.1 then(if bt249.1<(y246.length:Int) then(some ((wrap64 (1+t225)),rd y246 bt249.1,x233002_3,bt249.2)) else(none)) else(none)))=some (r1,r2,r3,r4):=by first|(rw[hy246];with_reducible exact H)|(have H2_:=(Option.bind_some _ _).symm.trans H;rw[hy246];with_reducible exact H2_)|(have H2_:=(Option.bind_some _ _).symm.trans H;with_reducible exact H2_)|with_reducible exact H|(rw[hy246];exact H)|exact H
     have Ny246:=Aside0.mk hy246
     clear hy246
     replace H:=Option.bind_eq_some_iff.mp H
     obtain⟨⟨t249,t250⟩,A430,H⟩:=H
     replace H:(if 0≤t249 then(if t249<(y246.length:Int) then(some ((wrap64 (1+t225)),rd y246 t249,x233002_3,t250)) else(none)) else(none))=some (r1,r2,r3,r4):=H
     have A43:=Aside0.mk A430
     clear A430
     by_cases c44:0≤t249
     ·rw[if_pos c44] at H
      have c44b0:decide (0≤t249)=true:=decide_eq_true c44
      clear c44
      by_cases c45:t249<(y246.length:Int)
      ·rw[if_pos c45] at H
       have c45b0:decide (t249<(y246.length:Int))=true:=decide_eq_true c45
       clear c45
       simp only[Option.some.injEq,Prod.mk.injEq] at H
       obtain⟨rfl,rfl,rfl,rfl⟩:=H
       go_wp2_with(first|((with_reducible refine qac (f:=48) rfl ?_);refine zF (some 27) Try.func48 #[.pointer (some ⟨g,0,none⟩),.int .i64 20] ?_;(with_reducible refine(spec_l6Rd_pick.calls kj3 g s0_0 x1001_3 20 t242 t243 w0 _ ?side1 ?side2 A31.out).mono ?_);(case side1=>repeat(first|(with_reducible first|exact HI0.out|apply IsS107.alloc|apply IsS107.drewN|apply IsS107.drew|apply IsS107.set_1|refine IsS107.far ?_ NB0_224.out _|refine IsS107.far ?_ NB0_232.out _)|exact HI0.out));(case side2=>exact(zb11_l71Rec HB HI0 GE224 GE232));rintro e w46 ⟨rfl,hi,hb,hk⟩;refine⟨_,rfl,?_⟩;replace HO_233002:=Aside0.mk (Kd.Q_mono (Kd.Q_keep (IsS107.apartQ (show IsS107 w0 _ g s0_0 x1001_3 from by repeat(first|(with_reducible first|exact HI0.out|apply IsS107.alloc|apply IsS107.drewN|apply IsS107.drew|apply IsS107.set_1|refine IsS107.far ?_ NB0_224.out _|refine IsS107.far ?_ NB0_232.out _)|exact HI0.out)) (za10 HO_233002) (by decide)) hk (fun _ h=>h.2)) (fun _ h=>h.1));replace BK224:=Aside0.mk (KeepBut.blk hk (zB BK224) NB224_0.out (by simp));replace BK232:=Aside0.mk (KeepBut.blk hk (zB BK232) NB232_0.out (by simp));replace HK:=Aside0.mk (KeepBut.trans (za8 HK GW224 GW232) hk (.inl rfl));replace HB:=Aside0.mk hb;replace HI0:=Aside0.mk hi;(try clear hb);(try clear hk);(try clear hi))|((with_reducible refine qae (N:=35) rfl ?_);refine Kd.R_lit (Kd.int .i64) _ 3 (by rfl) (N:=35) (by rfl) (xs:=([0,6,7]:List Int)) (inner:=[.int .i64 0,.int .i64 6,.int .i64 7]) (ok:=fun _=>True) (okp:=fun _=>True) (by first|(go_simp;done)|(go_simp;rfl)) ?hp (fun _ hk=>hk) trivial (Below.refl _ _) (Nat.le_refl _) (by simp) ?_;(case hp=>exact(Reps.one (show Kd.M (Kd.int .i64) _ _ _ 0 [.int .i64 0] from rfl) (Reps.one (show Kd.M (Kd.int .i64) _ _ _ 6 [.int .i64 6] from rfl) (Reps.one (show Kd.M (Kd.int .i64) _ _ _ 7 [.int .i64 7] from rfl) (Reps.none _ _)))));intro v247 w47 ho48 hb hg_ hnew_;clear hg_ hnew_;(first|rw[←Ny246.out] at ho48|(simp only[Int.reduceToNat] at ho48;rw[←Ny246.out] at ho48));have HO248:=Aside0.mk (Kd.R_lower (Kd.R_new' ho48 (Kd.Q_lt (za10 HO_233002))) (qan (w:=w) (g:=g) (row:=none) (za8 HK GW224 GW232)));replace HO_233002:=Aside0.mk (Kd.Q_elder' (za10 HO_233002) (Kd.R_base ho48) hb);replace BK224:=Aside0.mk (qaa (zB BK224) hb);replace BK232:=Aside0.mk (qaa (zB BK232) hb);replace HK:=Aside0.mk (KeepBut.trans (za8 HK GW224 GW232) (KeepBut.of_below hb g none) (.inl rfl));replace HB:=Aside0.mk (qab (zb11_l71Rec HB HI0 GE224 GE232) hb);replace HI0:=Aside0.mk (IsS107.below (zb32_l71Rec HI0 NB0_224 NB0_232) hb);clear hb ho48)|((with_reducible refine qac (f:=48) rfl ?_);refine zF (some 37) Try.func48 #[.pointer (some ⟨g,0,none⟩),.int .i64 3] ?_;(with_reducible refine(spec_l6Rd_pick.calls kj3 g s0_0 t243 3 t249 t250 w0 _ ?side1 ?side2 A43.out).mono ?_);(case side1=>repeat(first|(with_reducible first|exact HI0.out|apply IsS107.alloc|apply IsS107.drewN|apply IsS107.drew|apply IsS107.set_1|refine IsS107.far ?_ NB0_224.out _|refine IsS107.far ?_ NB0_232.out _)|exact HI0.out));(case side2=>exact(zb11_l71Rec HB HI0 GE224 GE232));rintro e w49 ⟨rfl,hi,hb,hk⟩;refine⟨_,rfl,?_⟩;replace HO_233002:=Aside0.mk (Kd.Q_mono (Kd.Q_keep (IsS107.apartQ (show IsS107 w0 _ g s0_0 t243 from by repeat(first|(with_reducible first|exact HI0.out|apply IsS107.alloc|apply IsS107.drewN|apply IsS107.drew|apply IsS107.set_1|refine IsS107.far ?_ NB0_224.out _|refine IsS107.far ?_ NB0_232.out _)|exact HI0.out)) (za10 HO_233002) (by decide)) hk (fun _ h=>h.2)) (fun _ h=>h.1));replace BK224:=Aside0.mk (KeepBut.blk hk (zB BK224) NB224_0.out (by simp));replace BK232:=Aside0.mk (KeepBut.blk hk (zB BK232) NB232_0.out (by simp));replace HO248:=Aside0.mk (Kd.R_mono (Kd.R_keep (IsS107.apart (show IsS107 w0 _ g s0_0 t243 from by repeat(first|(with_reducible first|exact HI0.out|apply IsS107.alloc|apply IsS107.drewN|apply IsS107.drew|apply IsS107.set_1|refine IsS107.far ?_ NB0_224.out _|refine IsS107.far ?_ NB0_232.out _)|exact HI0.out)) (za5 HO248) (by decide)) hk (fun _ h=>h.2)) (fun _ h=>h.1));replace HK:=Aside0.mk (KeepBut.trans (za8 HK GW224 GW232) hk (.inl rfl));replace HB:=Aside0.mk hb;replace HI0:=Aside0.mk hi;(try clear hb);(try clear hk);(try clear hi);obtain⟨Ao50,co50,eo50⟩:=Kd.R_slice HO248.out;subst eo50;have p251:0≤(t249:Int):=of_decide_eq_true (za9);have q251:t249<(y246.length:Int):=of_decide_eq_true (za9);obtain⟨ad251,e251,hx251_0⟩:=Kd.at_int (Kd.R_reads' HO248.out).2.2 t249 p251 q251;cases e251;replace p251:=eq_true p251;replace q251:=eq_true q251;have hnb51:=NB232_224.out;have hnc51:=NB224_232.out;have hnb52:=NB232_0.out;have hnc52:=NB0_232.out;obtain⟨hcz53_0,hcz53_1,hcz53_2,hfz53_0,hfz53_1,hfz53_2⟩:=zC3 BK232;have hnb54:=NB224_0.out;have hnc54:=NB0_224.out;obtain⟨hcz55_0,hcz55_1,hcz55_2,hfz55_0,hfz55_1,hfz55_2⟩:=zC3 BK224;obtain⟨Ao56,co56,eo56,_⟩:=Kd.Q_slice HO_233002.out;subst eo56))
       refine bodyPost_ret (results_cell_row rfl _ _ gb224 32 #[.int .i64 (wrap64 (1+t225)),.int .i64 (rd y246 t249),.slice Ao56 x233002_3.length co56] (0,0) _ rfl (by(with_reducible repeat(first|refine blk_drewN ?_ _|refine blk_drew ?_|refine blk_alloc ?_ _));refine qad (cs:=#[.int .i64 (wrap64 (1+t225)),.int .i64 (rd y246 t249),.slice none 0 0]) ?_ 2 _ rfl;(with_reducible repeat(first|refine blk_drewN ?_ _|refine blk_drew ?_|refine blk_alloc ?_ _));refine qad (cs:=#[.int .i64 (wrap64 (1+t225)),.int .i64 0,.slice none 0 0]) ?_ 1 _ rfl;(with_reducible repeat(first|refine blk_drewN ?_ _|refine blk_drew ?_|refine blk_alloc ?_ _));refine qad (cs:=#[.int .i64 0,.int .i64 0,.slice none 0 0]) ?_ 0 _ rfl;(with_reducible repeat(first|refine blk_drewN ?_ _|refine blk_drew ?_|refine blk_alloc ?_ _));refine blk_far ?_ NB224_232.out _;(with_reducible repeat(first|refine blk_drewN ?_ _|refine blk_drew ?_|refine blk_alloc ?_ _));exact BK224.out) Try.underlying32 rfl (by kernel_rfl)) rfl ?_
       exact⟨_,za16,by(with_reducible repeat(first|apply Kd.Q_alloc|apply Kd.Q_drewN|apply Kd.Q_drew));exact Kd.Q_mono (Kd.Q_far (p:=⟨gb224,2,none⟩) (Kd.Q_far (p:=⟨gb224,1,none⟩) (Kd.Q_far (p:=⟨gb224,0,none⟩) (Kd.Q_far (p:=⟨gb232,1,none⟩) (Kd.Q_types (Kd.Q_types HO_233002.out BK232.out (by decide)) BK224.out (by decide)) (fun _ hk=>hk.1.2) (.int .i64 (rd y246 t249))) (fun _ hk=>hk.2) (.int .i64 (wrap64 (1+t225)))) (fun _ hk=>hk.2) (.int .i64 (rd y246 t249))) (fun _ hk=>hk.2) (.slice Ao56 x233002_3.length co56)) (fun _ hk=>trivial),zb32_l71Rec HI0 NB0_224 NB0_232,zb11_l71Rec HB HI0 GE224 GE232,za8 HK GW224 GW232⟩
      ·rw[if_neg c45] at H
       exact absurd H (by simp)
     ·rw[if_neg c44] at H
      exact absurd H (by simp)
    ·rw[if_neg c42] at H
     have c42b0:(t242 == 1)=false:=beq_eq_false_iff_ne.mpr c42
     have c42b1:(t242 != 1)=true:=bne_iff_ne.mpr c42
     by_cases c57:t242=2
     ·rw[if_pos c57] at H
      have c57b0:(t242 == 2)=true:=beq_iff_eq.mpr c57
      have c57b1:(t242 != 2)=false:=bne_eq_false_iff_eq.mpr c57
      clear c57
      replace H:=Option.bind_eq_some_iff.mp H
      obtain⟨⟨t252,t253⟩,A580,H⟩:=H
      replace H:(if x233002_3.length<17592186044416 then(some ((wrap64 (1+t225)),(wrap64 (1+t227)),(x233002_3++[t252]),t253)) else(none))=some (r1,r2,r3,r4):=H
      have A58:=Aside0.mk A580
      clear A580
      by_cases c59:x233002_3.length<17592186044416
      ·rw[if_pos c59] at H
       have LMc59:=Aside0.mk c59
       clear c59
       obtain⟨y254,hy254⟩:∃y_:List Int,y_=(x233002_3++[t252]):=⟨_,rfl⟩
       replace H:(some ((wrap64 (1+t225)),(wrap64 (1+t227)),y254,t253))=some (r1,r2,r3,r4):=by first|(rw[hy254];with_reducible exact H)|(have H2_:=(Option.bind_some _ _).symm.trans H;rw[hy254];with_reducible exact H2_)|(have H2_:=(Option.bind_some _ _).symm.trans H;with_reducible exact H2_)|with_reducible exact H|(rw[hy254];exact H)|exact H
       have Ny254:=Aside0.mk hy254
       clear hy254
       simp only[Option.some.injEq,Prod.mk.injEq] at H
       obtain⟨rfl,rfl,rfl,rfl⟩:=H
       try go_wp2_with(first|((with_reducible refine qac (f:=48) rfl ?_);refine zF (some 27) Try.func48 #[.pointer (some ⟨g,0,none⟩),.int .i64 20] ?_;(with_reducible refine(spec_l6Rd_pick.calls kj3 g s0_0 x1001_3 20 t242 t243 w0 _ ?side1 ?side2 A31.out).mono ?_);(case side1=>repeat(first|(with_reducible first|exact HI0.out|apply IsS107.alloc|apply IsS107.drewN|apply IsS107.drew|apply IsS107.set_1|refine IsS107.far ?_ NB0_224.out _|refine IsS107.far ?_ NB0_232.out _)|exact HI0.out));(case side2=>exact(zb11_l71Rec HB HI0 GE224 GE232));rintro e w60 ⟨rfl,hi,hb,hk⟩;refine⟨_,rfl,?_⟩;replace HO_233002:=Aside0.mk (Kd.Q_mono (Kd.Q_keep (IsS107.apartQ (show IsS107 w0 _ g s0_0 x1001_3 from by repeat(first|(with_reducible first|exact HI0.out|apply IsS107.alloc|apply IsS107.drewN|apply IsS107.drew|apply IsS107.set_1|refine IsS107.far ?_ NB0_224.out _|refine IsS107.far ?_ NB0_232.out _)|exact HI0.out)) (za10 HO_233002) (by decide)) hk (fun _ h=>h.2)) (fun _ h=>h.1));replace BK224:=Aside0.mk (KeepBut.blk hk (zB BK224) NB224_0.out (by simp));replace BK232:=Aside0.mk (KeepBut.blk hk (zB BK232) NB232_0.out (by simp));replace HK:=Aside0.mk (KeepBut.trans (za8 HK GW224 GW232) hk (.inl rfl));replace HB:=Aside0.mk hb;replace HI0:=Aside0.mk hi;(try clear hb);(try clear hk);(try clear hi)))
       replace HO_233002:=Aside0.mk (Kd.Q_drew HO_233002.out)
       replace BK224:=Aside0.mk (blk_drew BK224.out)
       replace BK232:=Aside0.mk (blk_drew BK232.out)
       replace HI0:=Aside0.mk (IsS107.drew HI0.out)
       replace HK:=Aside0.mk (keep_drew HK.out)
       replace HB:=Aside0.mk (qao HB.out)
       refine start_ (n:=8) (S:=fun w'=>w'.cell? ⟨gb232,0,none⟩=some (.int .i64 (wrap64 (1+t225)))∧w'.cell? ⟨gb232,1,none⟩=some (.int .i64 (wrap64 (1+t227)))∧w'.cell? ⟨gb232,2,none⟩=some (u233002)) (ds:=[7]) #[false,false,false,false,false,false,false,false] (by kernel_rfl) rfl rfl ⟨(blk_cell BK232.out 0).trans rfl,(blk_cell BK232.out 1).trans rfl,(blk_cell BK232.out 2).trans rfl⟩ (fun hHeld=>?_);refine with_tabW spec_l71Rec.tab13 spec_l71Rec.bits13 (fun HT_ HW_=>?_)
       generalize w60.drew=w61 at HO_233002 BK224 BK232 HI0 HK HB hHeld ⊢
       refine qaj (i:=0) (N:=some 43) (v:=?_) (a':=?_) #[true,false,false,false,false,false,false,false] rfl rfl (qah HT_.out (by kernel_rfl)) (fun _ _ _ h=>h) (Or.inl ⟨by rfl,?_⟩) ?_ ?_
       rotate_left
       ·intro w'
        go_simp
        with_reducible rfl
       rotate_left
       ·simp only[Act.put,List.setIfInBounds_toArray,List.set_cons_zero,List.set_cons_succ,qaf,qag]
        rfl
       refine qaj (i:=2) (N:=some 45) (v:=?_) (a':=?_) #[true,false,true,false,false,false,false,false] rfl rfl (qah HT_.out (by kernel_rfl)) (fun _ _ _ h=>h) (Or.inl ⟨by rfl,?_⟩) ?_ ?_
       rotate_left
       ·intro w'
        go_simp
        with_reducible rfl
       rotate_left
       ·simp only[Act.put,List.setIfInBounds_toArray,List.set_cons_zero,List.set_cons_succ,qaf,qag]
        rfl
       refine take_ (i:=1) (N:=some 44) (v:=?_) (a':=?_) #[true,true,true,false,false,false,false,false] rfl rfl (qap HT_.out HW_.out (by kernel_rfl)) (fun _ _ _ h=>h) (Or.inl ⟨by rfl,?_⟩) hHeld ?_ ?_
       rotate_left
       ·rintro w' ⟨s0,s1,s2⟩
        go_simp
        with_reducible rfl
       rotate_left
       ·simp only[Act.put,List.setIfInBounds_toArray,List.set_cons_zero,List.set_cons_succ,qaf,qag]
        rfl
       refine one_ (i:=3) (N:=some 46) #[true,true,true,true,false,false,false,false] rfl rfl (one_of HT_.out (by kernel_rfl)) (by decide) (fun K hK=>?_)
       refine goes_ Try.func48 (by kernel_rfl) rfl #[.pointer (some ⟨g,0,none⟩),.int .i64 5] (by rfl) rfl rfl (by(try simp only[List.map_toArray,List.map_cons,List.map_nil]);first|done|rfl|(simp only[List.length_drop,List.length_take];rfl)) ?_
       with_reducible refine(spec_l6Rd_pick.calls kj3 g s0_0 t243 5 t252 t253 w0 _ ?side1 ?side2 A58.out).mono ?_
       (case side1=>repeat(first|(with_reducible first|exact HI0.out|apply IsS107.alloc|apply IsS107.drewN|apply IsS107.drew|apply IsS107.set_1|refine IsS107.far ?_ NB0_224.out _|refine IsS107.far ?_ NB0_232.out _)|exact HI0.out))
       (case side2=>exact(zb11_l71Rec HB HI0 GE224 GE232))
       rintro e w62 ⟨rfl,hi,hb,hk⟩
       refine⟨_,rfl,?_⟩
       replace HO_233002:=Aside0.mk (Kd.Q_mono (Kd.Q_keep (IsS107.apartQ (show IsS107 w0 _ g s0_0 t243 from by repeat(first|(with_reducible first|exact HI0.out|apply IsS107.alloc|apply IsS107.drewN|apply IsS107.drew|apply IsS107.set_1|refine IsS107.far ?_ NB0_224.out _|refine IsS107.far ?_ NB0_232.out _)|exact HI0.out)) (za10 HO_233002) (by decide)) hk (fun _ h=>h.2)) (fun _ h=>h.1))
       replace BK224:=Aside0.mk (KeepBut.blk hk (zB BK224) NB224_0.out (by simp))
       replace BK232:=Aside0.mk (KeepBut.blk hk (zB BK232) NB232_0.out (by simp))
       replace HK:=Aside0.mk (KeepBut.trans (za8 HK GW224 GW232) hk (.inl rfl))
       replace HB:=Aside0.mk hb
       replace HI0:=Aside0.mk hi
       (try clear hb)
       (try clear hb2)
       (try clear hk)
       (try clear hi)
       refine hK.out _ _ ⟨(blk_cell BK232.out 0).trans rfl,(blk_cell BK232.out 1).trans rfl,(blk_cell BK232.out 2).trans rfl⟩ (fun hHeld=>?_)
       clear hK K
       refine norm_ (a':=?_) ?_ ?_
       rotate_left
       ·show Act.put _ (some 46) _=_
        simp only[Act.put,List.setIfInBounds_toArray,List.set_cons_zero,List.set_cons_succ,qaf,qag]
        rfl
       refine one_ (i:=4) (N:=some 47) #[true,true,true,true,true,false,false,false] rfl rfl (one_of HT_.out (by kernel_rfl)) (by decide) (fun K hK=>?_)
       refine value_ (w1:=?_) (v:=?_) (by rfl) rfl ?_ ?_
       rotate_left 2
       ·go_simp
        constructor
        ·rfl
        ·rfl
       refine hK.out _ _ ⟨(blk_cell (blk_alloc BK232.out _) 0).trans rfl,(blk_cell (blk_alloc BK232.out _) 1).trans rfl,(blk_cell (blk_alloc BK232.out _) 2).trans rfl⟩ (fun hHeld=>?_)
       clear hK K
       refine norm_ (a':=?_) ?_ ?_
       rotate_left
       ·show Act.put _ (some 47) _=_
        simp only[Act.put,List.setIfInBounds_toArray,List.set_cons_zero,List.set_cons_succ,qaf,qag]
        rfl
       refine one_ (i:=5) (N:=some 48) #[true,true,true,true,true,true,false,false] rfl rfl (one_of HT_.out (by kernel_rfl)) (by decide) (fun K hK=>?_)
       refine Kd.Q_append_step (Kd.int .i64) w.heap.size (by rfl) (.tmp 44) (.tmp 47) 30 3 (.int .i64 0) 8 rfl Try.underlying30 info3 rfl (by decide) (by omega) u233002 x233002_3 t252 [.int .i64 t252] (fun _=>True) (fun _=>False) rfl rfl ?aP (fun _ hk=>hk.elim) ?aF ?aO (Below.refl _ _) ?aS ?aL ?_
       (case aP=>exact rfl)
       (case aF=>exact(fun _ _=>trivial))
       (case aO=>exact(za10 HO_233002))
       (case aS=>exact(qan (w:=w) (g:=g) (row:=none) (za8 HK GW224 GW232)))
       (case aL=>have:=LMc59.out;omega)
       intro v255 w63 ho hb hg hat
       rw[←Ny254.out] at ho
       replace BK224:=Aside0.mk (blk_grown (zB BK224) hg (Kd.Q_ne HO_233002.out BK224.out (by decide)))
       replace BK232:=Aside0.mk (blk_grown (zB BK232) hg (Kd.Q_ne HO_233002.out BK232.out (by decide)))
       replace HB:=Aside0.mk (below_weaken (zb11_l71Rec HB HI0 GE224 GE232) HL.out hb)
       replace HI0:=Aside0.mk (IsS107.grown (zb32_l71Rec HI0 NB0_224 NB0_232) hg (IsS107.own_neQ HI0.out HO_233002.out (by decide)))
       replace HK:=Aside0.mk (KeepBut.trans (za8 HK GW224 GW232) (KeepBut.of_grown hg g) (Kd.Q_base2 HO_233002.out))
       have HO256:=Aside0.mk ho
       clear HO_233002
       clear ho hb hg hat
       obtain⟨Ao64,co64,eo64,_⟩:=Kd.Q_slice HO256.out
       (first|subst eo64|(injection eo64 with f1_ f2_ f3_;have f4_:=f1_.symm;have f5_:=f3_.symm;clear f1_ f2_ f3_;subst f4_;subst f5_))
       refine hK.out _ _ ⟨(blk_cell BK232.out 0).trans rfl,(blk_cell BK232.out 1).trans rfl,(blk_cell BK232.out 2).trans rfl⟩ (fun hHeld=>?_)
       clear hK K
       refine norm_ (a':=?_) ?_ ?_
       rotate_left
       ·show Act.put _ (some 48) _=_
        simp only[Act.put,List.setIfInBounds_toArray,List.set_cons_zero,List.set_cons_succ,qaf,qag]
        rfl
       refine qaj (i:=6) (N:=some 49) (v:=?_) (a':=?_) #[true,true,true,true,true,true,true,false] rfl rfl (qah HT_.out (by kernel_rfl)) (fun _ _ _ h=>h) (Or.inl ⟨by rfl,?_⟩) ?_ ?_
       rotate_left
       ·intro w'
        go_simp
        with_reducible rfl
       rotate_left
       ·simp only[Act.put,List.setIfInBounds_toArray,List.set_cons_zero,List.set_cons_succ,qaf,qag]
        rfl
       refine last_ (i:=7) (N:=none) #[true,true,true,true,true,true,true,true] rfl rfl (one_of HT_.out (by kernel_rfl)) (by decide) (fun K hK=>?_)
       have hs65:w63.cell? ⟨gb232,2,none⟩=some (u233002):=(blk_cell BK232.out 2).trans rfl
       have hfs65:=blk_frozen BK232.out 2
       have hns65_0:=NB224_232.out
       have hms65_0:=NB232_224.out
       refine skip_ (w1:=?_) (by rfl) rfl ?_ ?_
       rotate_left
       ·go_simp
        rfl
       refine hK.out _ _ ?_
       clear hK K
       refine done_ (done_of HT_.out (by kernel_rfl)) ?_
       have hnb66:=NB232_224.out
       have hnc66:=NB224_232.out
       have hnb67:=NB232_0.out
       have hnc67:=NB0_232.out
       obtain⟨hcz68_0,hcz68_1,hcz68_2,hfz68_0,hfz68_1,hfz68_2⟩:=zC3 BK232
       have hnb69:=NB224_0.out
       have hnc69:=NB0_224.out
       obtain⟨hcz70_0,hcz70_1,hcz70_2,hfz70_0,hfz70_1,hfz70_2⟩:=zC3 BK224
       try go_wp2
       refine bodyPost_ret (results_cell_row rfl _ _ gb224 32 #[.int .i64 (wrap64 (1+t225)),.int .i64 (wrap64 (1+t227)),.slice Ao64 y254.length co64] (0,0) _ rfl (by(with_reducible repeat(first|refine blk_drewN ?_ _|refine blk_drew ?_|refine blk_alloc ?_ _));refine qad (cs:=#[.int .i64 (wrap64 (1+t225)),.int .i64 (wrap64 (1+t227)),.slice none 0 0]) ?_ 2 _ rfl;(with_reducible repeat(first|refine blk_drewN ?_ _|refine blk_drew ?_|refine blk_alloc ?_ _));refine qad (cs:=#[.int .i64 (wrap64 (1+t225)),.int .i64 0,.slice none 0 0]) ?_ 1 _ rfl;(with_reducible repeat(first|refine blk_drewN ?_ _|refine blk_drew ?_|refine blk_alloc ?_ _));refine qad (cs:=#[.int .i64 0,.int .i64 0,.slice none 0 0]) ?_ 0 _ rfl;(with_reducible repeat(first|refine blk_drewN ?_ _|refine blk_drew ?_|refine blk_alloc ?_ _));refine blk_far ?_ NB224_232.out _;(with_reducible repeat(first|refine blk_drewN ?_ _|refine blk_drew ?_|refine blk_alloc ?_ _));exact BK224.out) Try.underlying32 rfl (by kernel_rfl)) rfl ?_
       exact⟨_,za16,by(with_reducible repeat(first|apply Kd.Q_alloc|apply Kd.Q_drewN|apply Kd.Q_drew));exact Kd.Q_mono (Kd.Q_far (p:=⟨gb224,2,none⟩) (Kd.Q_far (p:=⟨gb224,1,none⟩) (Kd.Q_far (p:=⟨gb224,0,none⟩) (Kd.Q_far (p:=⟨gb232,2,none⟩) (Kd.Q_types (Kd.Q_types HO256.out BK232.out (by decide)) BK224.out (by decide)) (fun _ hk=>hk.1.2) (.slice Ao64 y254.length co64)) (fun _ hk=>hk.2) (.int .i64 (wrap64 (1+t225)))) (fun _ hk=>hk.2) (.int .i64 (wrap64 (1+t227)))) (fun _ hk=>hk.2) (.slice Ao64 y254.length co64)) (fun _ hk=>trivial),zb32_l71Rec HI0 NB0_224 NB0_232,zb11_l71Rec HB HI0 GE224 GE232,za8 HK GW224 GW232⟩
      ·rw[if_neg c59] at H
       exact absurd H (by simp)
     ·rw[if_neg c57] at H
      have c57b0:(t242 == 2)=false:=beq_eq_false_iff_ne.mpr c57
      have c57b1:(t242 != 2)=true:=bne_iff_ne.mpr c57
      simp only[Option.some.injEq,Prod.mk.injEq] at H
      obtain⟨rfl,rfl,rfl,rfl⟩:=H
      go_wp2_with(first|((with_reducible refine qac (f:=48) rfl ?_);refine zF (some 27) Try.func48 #[.pointer (some ⟨g,0,none⟩),.int .i64 20] ?_;(with_reducible refine(spec_l6Rd_pick.calls kj3 g s0_0 x1001_3 20 t242 t243 w0 _ ?side1 ?side2 A31.out).mono ?_);(case side1=>repeat(first|(with_reducible first|exact HI0.out|apply IsS107.alloc|apply IsS107.drewN|apply IsS107.drew|apply IsS107.set_1|refine IsS107.far ?_ NB0_224.out _|refine IsS107.far ?_ NB0_232.out _)|exact HI0.out));(case side2=>exact(zb11_l71Rec HB HI0 GE224 GE232));rintro e w71 ⟨rfl,hi,hb,hk⟩;refine⟨_,rfl,?_⟩;replace HO_233002:=Aside0.mk (Kd.Q_mono (Kd.Q_keep (IsS107.apartQ (show IsS107 w0 _ g s0_0 x1001_3 from by repeat(first|(with_reducible first|exact HI0.out|apply IsS107.alloc|apply IsS107.drewN|apply IsS107.drew|apply IsS107.set_1|refine IsS107.far ?_ NB0_224.out _|refine IsS107.far ?_ NB0_232.out _)|exact HI0.out)) (za10 HO_233002) (by decide)) hk (fun _ h=>h.2)) (fun _ h=>h.1));replace BK224:=Aside0.mk (KeepBut.blk hk (zB BK224) NB224_0.out (by simp));replace BK232:=Aside0.mk (KeepBut.blk hk (zB BK232) NB232_0.out (by simp));replace HK:=Aside0.mk (KeepBut.trans (za8 HK GW224 GW232) hk (.inl rfl));replace HB:=Aside0.mk hb;replace HI0:=Aside0.mk hi;(try clear hb);(try clear hk);(try clear hi);have hnb72:=NB232_224.out;have hnc72:=NB224_232.out;have hnb73:=NB232_0.out;have hnc73:=NB0_232.out;obtain⟨hcz74_0,hcz74_1,hcz74_2,hfz74_0,hfz74_1,hfz74_2⟩:=zC3 BK232;have hnb75:=NB224_0.out;have hnc75:=NB0_224.out;obtain⟨hcz76_0,hcz76_1,hcz76_2,hfz76_0,hfz76_1,hfz76_2⟩:=zC3 BK224;obtain⟨Ao77,co77,eo77,_⟩:=Kd.Q_slice HO_233002.out;subst eo77))
      refine bodyPost_ret (results_cell_row rfl _ _ gb224 32 #[.int .i64 (wrap64 (1+t225)),.int .i64 (wrap64 (1+t227)),.slice Ao77 x233002_3.length co77] (0,0) _ rfl (by(with_reducible repeat(first|refine blk_drewN ?_ _|refine blk_drew ?_|refine blk_alloc ?_ _));refine qad (cs:=#[.int .i64 (wrap64 (1+t225)),.int .i64 (wrap64 (1+t227)),.slice none 0 0]) ?_ 2 _ rfl;(with_reducible repeat(first|refine blk_drewN ?_ _|refine blk_drew ?_|refine blk_alloc ?_ _));refine qad (cs:=#[.int .i64 (wrap64 (1+t225)),.int .i64 0,.slice none 0 0]) ?_ 1 _ rfl;(with_reducible repeat(first|refine blk_drewN ?_ _|refine blk_drew ?_|refine blk_alloc ?_ _));refine qad (cs:=#[.int .i64 0,.int .i64 0,.slice none 0 0]) ?_ 0 _ rfl;(with_reducible repeat(first|refine blk_drewN ?_ _|refine blk_drew ?_|refine blk_alloc ?_ _));exact BK224.out) Try.underlying32 rfl (by kernel_rfl)) rfl ?_
      exact⟨_,za16,by(with_reducible repeat(first|apply Kd.Q_alloc|apply Kd.Q_drewN|apply Kd.Q_drew));exact Kd.Q_mono (Kd.Q_far (p:=⟨gb224,2,none⟩) (Kd.Q_far (p:=⟨gb224,1,none⟩) (Kd.Q_far (p:=⟨gb224,0,none⟩) (Kd.Q_types HO_233002.out BK224.out (by decide)) (fun _ hk=>hk.2) (.int .i64 (wrap64 (1+t225)))) (fun _ hk=>hk.2) (.int .i64 (wrap64 (1+t227)))) (fun _ hk=>hk.2) (.slice Ao77 x233002_3.length co77)) (fun _ hk=>trivial),zb32_l71Rec HI0 NB0_224 NB0_232,zb11_l71Rec HB HI0 GE224 GE232,za8 HK GW224 GW232⟩
def spec_l71RecV.f:=@spec_l71Rec.f
theorem spec_l71RecV.mono:∀a0 a1 k,LeO (spec_l71RecV.f k a0 a1) (spec_l71RecV.f (k+1) a0 a1):=spec_l71Rec.mono
theorem spec_l71RecV.calls (k:Nat) (g:Nat) (s0_0:List Int) (s0_1:Int) (r1:Int) (r2:Int) (r3:List Int) (r4:Int) (w0 w:World) (hI:IsS107 w0 w g s0_0 s0_1) (hB:Below w0.heap.size w0 w) (h:spec_l71RecV.f k s0_0 s0_1=some (r1,r2,r3,r4)) :
  Calls Try.prog 49 #[.pointer (some ⟨g,0,none⟩)] w fun e w'=>∃v2_:Value,e=.returned (.agg #[.int .i64 r1,.int .i64 r2,v2_])∧Kd.V (Kd.int .i64) 3 w' w.heap.size (fun k_=>(w.heap.size≤k_)) v2_ r3∧IsS107 w0 w' g s0_0 r4∧Below w0.heap.size w0 w'∧KeepBut w w' g none:=by
 refine(spec_l71Rec.calls k g s0_0 s0_1 r1 r2 r3 r4 w0 w hI hB h).mono ?_
 rintro e w' ⟨v_,he,hq,hx⟩
 exact⟨v_,he,Kd.Q_V (Kd.Q_mono (Kd.Q_bound hq) (fun k_ hk=>hk.2.1)),hx⟩
end Go.Proofs.Ytmbdphefnalenaa.Print
