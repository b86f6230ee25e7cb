-- Written by squeeze.py: not trusted, Lean checks it.
import Derived.Test.YtmbdphefnalenaaZK
import Derived.Test.YtmbdphefnalenaaZb0
import Derived.Test.YtmbdphefnalenaaZb2
import Derived.Test.YtmbdphefnalenaaZb5
namespace Go.Proofs.Ytmbdphefnalenaa.Print
open Go.RowKit Go.Proofs.YtmbdphefnalenaaW.PrintWords Go.Proofs.YtmbdphefnalenaaW.PrintLast Go.Proofs.YtmbdphefnalenaaW.PrintMore
attribute [local go_sem] max2_int min2_int max_two min_two max_three min_three max_four min_four
set_option linter.unusedVariables false
set_option linter.unusedSimpArgs false
theorem zb15_1House {p_ q0_ q1_ q2_ q3_ : Prop} (h0_ : Aside0 q0_) (h1_ : Aside0 q1_) (h2_ : Aside0 q2_) (h3_ : Aside0 q3_) (r_ : q0_ → q1_ → q2_ → q3_ → p_ := by intro h0_ h1_ h2_ h3_; repeat(first|(with_reducible first|exact h0_|apply below_alloc|apply qaq|apply qao|refine qak ?_ (IsS107.ge h1_)|refine qak ?_ h2_|refine qak ?_ h3_)|exact h0_)) : p_ := r_ h0_.out h1_.out h2_.out h3_.out
theorem zb28_1House {p_ q0_ q1_ q2_ : Prop} (h0_ : Aside0 q0_) (h1_ : Aside0 q1_) (h2_ : Aside0 q2_) (r_ : q0_ → q1_ → q2_ → p_ := by intro h0_ h1_ h2_; repeat(first|(with_reducible first|exact h0_|apply below_alloc|apply qaq|apply qao|refine qak ?_ (IsS107.ge h1_)|refine qak ?_ h2_)|exact h0_)) : p_ := r_ h0_.out h1_.out h2_.out
theorem zb35_1House {p_ q0_ q1_ q2_ : Prop} (h0_ : Aside0 q0_) (h1_ : Aside0 q1_) (h2_ : Aside0 q2_) (r_ : q0_ → q1_ → q2_ → p_ := by intro h0_ h1_ h2_; repeat(first|(with_reducible first|exact h0_|apply IsS107.alloc|apply IsS107.drewN|apply IsS107.drew|apply IsS107.set_1|refine IsS107.far ?_ h1_ _|refine IsS107.far ?_ h2_ _)|exact h0_)) : p_ := r_ h0_.out h1_.out h2_.out
def spec_l71House.j0:Nat→List Int→Int→Int→Bool→Int→List (S32)→Int→Option (Int × Bool × Int × (List (S32)) × Int × Int)
 |0,_,_,_,_,_,_,_=>none
 |k+1,x1000,x1001,x1103000,x1103001,x1103002,x1103003,x1103004=>(spec_l6Rd_pick.f k x1000 x1001 20).bind fun bt1107=>(if bt1107.1=0 then((some (([0,4]:List Int):List Int)).bind fun y1109=>((spec_l6Rd_pick.f k x1000 bt1107.2 2).bind fun bt1112=>(if 0≤bt1112.1 then(if bt1112.1<(y1109.length:Int) then(some (rd y1109 bt1112.1,x1103001,x1103002,x1103003,x1103004,bt1112.2)) else(none)) else(none)))) else(if bt1107.1=1 then((spec_l71RecV.f k x1000 bt1107.2).bind fun bt1115=>(if x1103003.length<3518437208883 then(some (x1103000,x1103001,x1103002,(x1103003++[(⟨bt1115.1,bt1115.2.1,bt1115.2.2.1⟩:S32)]),x1103004,bt1115.2.2.2)) else(none))) else(if bt1107.1=2 then((spec_l6Rd_pick.f k x1000 bt1107.2 4).bind fun bt1124=>(some (x1103000,x1103001,bt1124.1,x1103003,x1103004,bt1124.2))) else(some (x1103000,x1103001,x1103002,x1103003,x1103004,bt1107.2)))))
def spec_l71House.f (k:Nat) (s0_0:List Int) (s0_1:Int):Option (Int × Bool × Int × (List (S32)) × Int × Int):=(spec_l71Recs.f k s0_0 s0_1).bind fun bt1093=>((spec_l6Rd_pick.f k s0_0 bt1093.2.2 3).bind fun bt1098=>((spec_l6Rd_pick.f k s0_0 bt1098.2 6).bind fun bt1100=>((spec_l6Rd_pick.f k s0_0 bt1100.2 2).bind fun bt1103=>(if bt1103.1=0 then((spec_l6Rd_pick.f k s0_0 bt1103.2 (wrap64 ((bt1093.2.1.length:Int)+1))).bind fun bt1105=>(spec_l71House.j0 k s0_0 bt1105.2 (wrap64 (1+bt1098.1)) (decide (bt1100.1>0)) bt1093.1 bt1093.2.1 bt1105.1)) else(spec_l71House.j0 k s0_0 bt1103.2 (wrap64 (1+bt1098.1)) (decide (bt1100.1>0)) bt1093.1 bt1093.2.1 (bt1093.2.1.length:Int))))))
theorem spec_l71House.mono_l:∀k,(∀y0 y1 y2 y3 y4 y5 y6,LeO (spec_l71House.j0 k y0 y1 y2 y3 y4 y5 y6) (spec_l71House.j0 (k+1) y0 y1 y2 y3 y4 y5 y6))
 |0=>fun _ _ _ _ _ _ _ r h=>by simp[spec_l71House.j0] at h
 |k+1=>by
  have ih0:=spec_l71House.mono_l k
  ·intro y0 y1 y2 y3 y4 y5 y6
   unfold spec_l71House.j0
   repeat' first
   |(with_reducible exact ih0 _ _ _ _ _ _ _)
   |(with_reducible exact spec_l6Rd_pick.mono _ _ _ _)
   |(with_reducible exact spec_l71RecV.mono _ _ _)
   |(with_reducible exact spec_l71Recs.mono _ _ _)
   |(with_reducible exact LeO.refl _)
   |(with_reducible exact LeO.none _)
   |(with_reducible refine LeO.ite ?_ ?_)
   |(with_reducible refine LeO.bind ?_ (fun _=>?_))
   |exact ih0 _ _ _ _ _ _ _
   |exact spec_l6Rd_pick.mono _ _ _ _
   |exact spec_l71RecV.mono _ _ _
   |exact spec_l71Recs.mono _ _ _
   |exact LeO.none _
   |refine LeO.ite ?_ ?_
   |refine LeO.bind ?_ (fun _=>?_)
theorem spec_l71House.mono:∀a0 a1 k,LeO (spec_l71House.f k a0 a1) (spec_l71House.f (k+1) a0 a1):=by
 intro a0 a1 k
 have ih0:=spec_l71House.mono_l k
 unfold spec_l71House.f
 repeat' first
   |(with_reducible exact ih0 _ _ _ _ _ _ _)
   |(with_reducible exact spec_l6Rd_pick.mono _ _ _ _)
   |(with_reducible exact spec_l71RecV.mono _ _ _)
   |(with_reducible exact spec_l71Recs.mono _ _ _)
   |(with_reducible exact LeO.refl _)
   |(with_reducible exact LeO.none _)
   |(with_reducible refine LeO.ite ?_ ?_)
   |(with_reducible refine LeO.bind ?_ (fun _=>?_))
   |exact ih0 _ _ _ _ _ _ _
   |exact spec_l6Rd_pick.mono _ _ _ _
   |exact spec_l71RecV.mono _ _ _
   |exact spec_l71Recs.mono _ _ _
   |exact LeO.none _
   |refine LeO.ite ?_ ?_
   |refine LeO.bind ?_ (fun _=>?_)
def spec_l71House.T9:Bool × List (List Nat × List Nat):=(true,[([],[]),([0],[0]),([1],[1]),([],[]),([3],[3]),([4],[4]),([2,5,4],[2,5]),([0,1,2,3,4,5,6],[]),([7,0,1,2,3,4,5,6],[7]),([8,6,6,0,1,2,3,4,5,6],[6,8])])
def spec_l71House.B9:List Nat:=[0,1,3,0,8,24,63,127,255,511]
theorem spec_l71House.tab9:rtab .any (opsOf Try.f77 9)=spec_l71House.T9:=by kernel_rfl
theorem spec_l71House.bits9:waitsOk spec_l71House.T9.2 spec_l71House.B9=true:=by kernel_rfl
set_option maxHeartbeats 8000000 in
set_option maxRecDepth 100000 in
theorem spec_l71House.calls (k:Nat) (g:Nat) (s0_0:List Int) (s0_1:Int) (r1:Int) (r2:Bool) (r3:Int) (r4:List (S32)) (r5:Int) (r6:Int) (w0 w:World) (hI:IsS107 w0 w g s0_0 s0_1) (hB:Below w0.heap.size w0 w) (h:spec_l71House.f k s0_0 s0_1=some (r1,r2,r3,r4,r5,r6)) :
  Calls Try.prog 77 #[.pointer (some ⟨g,0,none⟩)] w fun e w'=>∃v3_:Value,e=.returned (.agg #[.int .i64 r1,.bool r2,.int .i64 r3,v3_,.int .i64 r5])∧Kd.N k32 32 w' w.heap.size (fun k_=>(w.heap.size≤k_)) v3_ r4∧IsS107 w0 w' g s0_0 r6∧Below w0.heap.size w0 w'∧KeepBut w w' g none:=by
 have hu72:=Try.underlying72
 have hu70:=Try.underlying70
 have HI0:=Aside0.mk hI
 have HK:=Aside0.mk (KeepBut.refl w g none)
 have HL:=Aside0.mk hB.size
 clear hI
 have HW0:=Aside0.mk hB.size
 have HB:=Aside0.mk hB
 clear hB
 have H:((spec_l71Recs.f k s0_0 s0_1).bind fun bt1093=>((spec_l6Rd_pick.f k s0_0 bt1093.2.2 3).bind fun bt1098=>((spec_l6Rd_pick.f k s0_0 bt1098.2 6).bind fun bt1100=>((spec_l6Rd_pick.f k s0_0 bt1100.2 2).bind fun bt1103=>(if bt1103.1=0 then((spec_l6Rd_pick.f k s0_0 bt1103.2 (wrap64 ((bt1093.2.1.length:Int)+1))).bind fun bt1105=>(spec_l71House.j0 k s0_0 bt1105.2 (wrap64 (1+bt1098.1)) (decide (bt1100.1>0)) bt1093.1 bt1093.2.1 bt1105.1)) else(spec_l71House.j0 k s0_0 bt1103.2 (wrap64 (1+bt1098.1)) (decide (bt1100.1>0)) bt1093.1 bt1093.2.1 (bt1093.2.1.length:Int)))))))=some (r1,r2,r3,r4,r5,r6):=h
 clear h
 replace H:=Option.bind_eq_some_iff.mp H
 obtain⟨⟨t1093,t1094,t1097⟩,A20,H⟩:=H
 replace H:((spec_l6Rd_pick.f k s0_0 t1097 3).bind fun bt1098=>((spec_l6Rd_pick.f k s0_0 bt1098.2 6).bind fun bt1100=>((spec_l6Rd_pick.f k s0_0 bt1100.2 2).bind fun bt1103=>(if bt1103.1=0 then((spec_l6Rd_pick.f k s0_0 bt1103.2 (wrap64 ((t1094.length:Int)+1))).bind fun bt1105=>(spec_l71House.j0 k s0_0 bt1105.2 (wrap64 (1+bt1098.1)) (decide (bt1100.1>0)) t1093 t1094 bt1105.1)) else(spec_l71House.j0 k s0_0 bt1103.2 (wrap64 (1+bt1098.1)) (decide (bt1100.1>0)) t1093 t1094 (t1094.length:Int))))))=some (r1,r2,r3,r4,r5,r6):=H
 have A2:=Aside0.mk A20
 clear A20
 replace H:=Option.bind_eq_some_iff.mp H
 obtain⟨⟨t1098,t1099⟩,A30,H⟩:=H
 replace H:((spec_l6Rd_pick.f k s0_0 t1099 6).bind fun bt1100=>((spec_l6Rd_pick.f k s0_0 bt1100.2 2).bind fun bt1103=>(if bt1103.1=0 then((spec_l6Rd_pick.f k s0_0 bt1103.2 (wrap64 ((t1094.length:Int)+1))).bind fun bt1105=>(spec_l71House.j0 k s0_0 bt1105.2 (wrap64 (1+t1098)) (decide (bt1100.1>0)) t1093 t1094 bt1105.1)) else(spec_l71House.j0 k s0_0 bt1103.2 (wrap64 (1+t1098)) (decide (bt1100.1>0)) t1093 t1094 (t1094.length:Int)))))=some (r1,r2,r3,r4,r5,r6):=H
 have A3:=Aside0.mk A30
 clear A30
 replace H:=Option.bind_eq_some_iff.mp H
 obtain⟨⟨t1100,t1101⟩,A40,H⟩:=H
 replace H:((spec_l6Rd_pick.f k s0_0 t1101 2).bind fun bt1103=>(if bt1103.1=0 then((spec_l6Rd_pick.f k s0_0 bt1103.2 (wrap64 ((t1094.length:Int)+1))).bind fun bt1105=>(spec_l71House.j0 k s0_0 bt1105.2 (wrap64 (1+t1098)) (decide (t1100>0)) t1093 t1094 bt1105.1)) else(spec_l71House.j0 k s0_0 bt1103.2 (wrap64 (1+t1098)) (decide (t1100>0)) t1093 t1094 (t1094.length:Int))))=some (r1,r2,r3,r4,r5,r6):=H
 have A4:=Aside0.mk A40
 clear A40
 replace H:=Option.bind_eq_some_iff.mp H
 obtain⟨⟨t1103,t1104⟩,A50,H⟩:=H
 replace H:(if t1103=0 then((spec_l6Rd_pick.f k s0_0 t1104 (wrap64 ((t1094.length:Int)+1))).bind fun bt1105=>(spec_l71House.j0 k s0_0 bt1105.2 (wrap64 (1+t1098)) (decide (t1100>0)) t1093 t1094 bt1105.1)) else(spec_l71House.j0 k s0_0 t1104 (wrap64 (1+t1098)) (decide (t1100>0)) t1093 t1094 (t1094.length:Int)))=some (r1,r2,r3,r4,r5,r6):=H
 have A5:=Aside0.mk A50
 clear A50
 have HC6:=Aside0.mk H
 clear H
 go_enter Try.func77,Try.ntmps77
 go_upto_if 25 with(first|((with_reducible refine qae (N:=2) rfl ?_);refine zX (N:=2) (cs:=#[.int .i64 0,.bool false,.int .i64 0,.slice none 0 0,.int .i64 0]) (t:=72) ?_;intro gb1092 hg w7 hbox hb;replace HB:=Aside0.mk (qab (by repeat(first|(with_reducible first|exact HB.out|apply below_alloc|apply qaq|apply qao|refine qak ?_ (IsS107.ge HI0.out))|exact HB.out)) hb);have BK1092:=Aside0.mk hbox;have GW1092:=Aside0.mk ((by rw[hg];exact(qan (w:=w) (g:=g) (row:=none) (za22 HK)):w.heap.size≤gb1092));have GE1092:=Aside0.mk ((Nat.le_trans HW0.out (by rw[hg];exact(qan (w:=w) (g:=g) (row:=none) (za22 HK)):w.heap.size≤gb1092):w0.heap.size≤gb1092));replace HK:=Aside0.mk (KeepBut.trans (za22 HK) (KeepBut.of_below hb g none) (.inl rfl));have NB0_1092:=Aside0.mk ((by rw[hg];exact Nat.ne_of_lt (IsS107.lt (show IsS107 w0 _ g s0_0 s0_1 from by repeat(first|(with_reducible first|exact HI0.out|apply IsS107.alloc|apply IsS107.drewN|apply IsS107.drew|apply IsS107.set_1)|exact HI0.out))):g≠gb1092));have NB1092_0:=Aside0.mk ((by rw[hg];exact Nat.ne_of_gt (IsS107.lt (show IsS107 w0 _ g s0_0 s0_1 from by repeat(first|(with_reducible first|exact HI0.out|apply IsS107.alloc|apply IsS107.drewN|apply IsS107.drew|apply IsS107.set_1)|exact HI0.out))):gb1092≠g));replace HI0:=Aside0.mk (IsS107.below (by repeat(first|(with_reducible first|exact HI0.out|apply IsS107.alloc|apply IsS107.drewN|apply IsS107.drew|apply IsS107.set_1)|exact HI0.out)) hb);clear hb hbox hg)|((with_reducible refine qac (f:=54) rfl ?_);refine zF (some 8) Try.func54 #[.pointer (some ⟨g,0,none⟩)] ?_;(with_reducible refine(spec_l71Recs.calls k g s0_0 s0_1 t1093 t1094 t1097 w0 _ ?side1 ?side2 A2.out).mono ?_);(case side1=>repeat(first|(with_reducible first|exact HI0.out|apply IsS107.alloc|apply IsS107.drewN|apply IsS107.drew|apply IsS107.set_1|refine IsS107.far ?_ NB0_1092.out _)|exact HI0.out));(case side2=>exact(zb28_1House HB HI0 GE1092));rintro e w8 ⟨v1095,rfl,ho0,hi,hb,hk⟩;refine⟨_,rfl,?_⟩;have HO1096:=Aside0.mk (Kd.N_lower (Kd.N_mono (ok':=fun k_=>(w.heap.size≤k_)∧k_≠gb1092∧k_≠g) (Kd.S_N (Kd.S_bound ho0)) (fun k_ hk_=>⟨(Nat.le_trans (qan (w:=w) (g:=g) (row:=none) (za23 HK GW1092)) hk_.2.1),(Kd.freshB (zB BK1092) k_ hk_.2.1),(IsS107.fresh (by repeat(first|(with_reducible first|exact HI0.out|apply IsS107.alloc|apply IsS107.drewN|apply IsS107.drew|apply IsS107.set_1|refine IsS107.far ?_ NB0_1092.out _)|exact HI0.out)) k_ hk_.2.1)⟩)) (qan (w:=w) (g:=g) (row:=none) (za23 HK GW1092)));replace BK1092:=Aside0.mk (KeepBut.blk hk (zB BK1092) NB1092_0.out (by simp));replace HK:=Aside0.mk (KeepBut.trans (za23 HK GW1092) hk (.inl rfl));replace HB:=Aside0.mk hb;replace HI0:=Aside0.mk hi;(try clear hb);(try clear hk);(try clear hi);(try clear ho0))|((with_reducible refine qac (f:=48) rfl ?_);refine zF (some 12) Try.func48 #[.pointer (some ⟨g,0,none⟩),.int .i64 3] ?_;(with_reducible refine(spec_l6Rd_pick.calls k g s0_0 t1097 3 t1098 t1099 w0 _ ?side1 ?side2 A3.out).mono ?_);(case side1=>repeat(first|(with_reducible first|exact HI0.out|apply IsS107.alloc|apply IsS107.drewN|apply IsS107.drew|apply IsS107.set_1|refine IsS107.far ?_ NB0_1092.out _)|exact HI0.out));(case side2=>exact(zb28_1House HB HI0 GE1092));rintro e w9 ⟨rfl,hi,hb,hk⟩;refine⟨_,rfl,?_⟩;replace BK1092:=Aside0.mk (KeepBut.blk hk (zB BK1092) NB1092_0.out (by simp));replace HO1096:=Aside0.mk (Kd.N_mono (Kd.N_keep (Kd.N_mono (ok:=fun k_=>(((w.heap.size≤k_))∧(k_≠gb1092∧k_≠g))) (za36 HO1096) (fun k_ hk_=>(⟨hk_,hk_.2.2⟩:_∧k_≠g))) hk (fun _ h=>h.2)) (fun _ h=>h.1));replace HK:=Aside0.mk (KeepBut.trans (za23 HK GW1092) hk (.inl rfl));replace HB:=Aside0.mk hb;replace HI0:=Aside0.mk hi;(try clear hb);(try clear hk);(try clear hi))|((with_reducible refine qac (f:=48) rfl ?_);refine zF (some 15) Try.func48 #[.pointer (some ⟨g,0,none⟩),.int .i64 6] ?_;(with_reducible refine(spec_l6Rd_pick.calls k g s0_0 t1099 6 t1100 t1101 w0 _ ?side1 ?side2 A4.out).mono ?_);(case side1=>repeat(first|(with_reducible first|exact HI0.out|apply IsS107.alloc|apply IsS107.drewN|apply IsS107.drew|apply IsS107.set_1|refine IsS107.far ?_ NB0_1092.out _)|exact HI0.out));(case side2=>exact(zb28_1House HB HI0 GE1092));rintro e w10 ⟨rfl,hi,hb,hk⟩;refine⟨_,rfl,?_⟩;replace BK1092:=Aside0.mk (KeepBut.blk hk (zB BK1092) NB1092_0.out (by simp));replace HO1096:=Aside0.mk (Kd.N_mono (Kd.N_keep (Kd.N_mono (ok:=fun k_=>(((w.heap.size≤k_))∧(k_≠gb1092∧k_≠g))) (za36 HO1096) (fun k_ hk_=>(⟨hk_,hk_.2.2⟩:_∧k_≠g))) hk (fun _ h=>h.2)) (fun _ h=>h.1));replace HK:=Aside0.mk (KeepBut.trans (za23 HK GW1092) hk (.inl rfl));replace HB:=Aside0.mk hb;replace HI0:=Aside0.mk hi;(try clear hb);(try clear hk);(try clear hi);obtain⟨Ao11,co11,eo11⟩:=Kd.N_slice HO1096.out;subst eo11)|((with_reducible refine qae (N:=5) rfl ?_);refine zX (N:=5) (cs:=#[.int .i64 0,.bool false,.int .i64 0,.slice none 0 0,.int .i64 0]) (t:=72) ?_;intro gb1102 hg w12 hbox hb;replace HO1096:=Aside0.mk (Kd.N_below (Kd.N_elderB (za36 HO1096) gb1102 (Nat.le_of_eq hg.symm)) hb);replace HB:=Aside0.mk (qab (zb28_1House HB HI0 GE1092) hb);have BK1102:=Aside0.mk hbox;have GW1102:=Aside0.mk ((by rw[hg];exact(qan (w:=w) (g:=g) (row:=none) (za23 HK GW1092)):w.heap.size≤gb1102));have GE1102:=Aside0.mk ((Nat.le_trans HW0.out (by rw[hg];exact(qan (w:=w) (g:=g) (row:=none) (za23 HK GW1092)):w.heap.size≤gb1102):w0.heap.size≤gb1102));replace HK:=Aside0.mk (KeepBut.trans (za23 HK GW1092) (KeepBut.of_below hb g none) (.inl rfl));have NB1092_1102:=zL BK1092 hg;have NB1102_1092:=zG BK1092 hg;replace BK1092:=Aside0.mk (qaa (zB BK1092) hb);have NB0_1102:=Aside0.mk ((by rw[hg];exact Nat.ne_of_lt (IsS107.lt (show IsS107 w0 _ g s0_0 t1101 from by repeat(first|(with_reducible first|exact HI0.out|apply IsS107.alloc|apply IsS107.drewN|apply IsS107.drew|apply IsS107.set_1|refine IsS107.far ?_ NB0_1092.out _)|exact HI0.out))):g≠gb1102));have NB1102_0:=Aside0.mk ((by rw[hg];exact Nat.ne_of_gt (IsS107.lt (show IsS107 w0 _ g s0_0 t1101 from by repeat(first|(with_reducible first|exact HI0.out|apply IsS107.alloc|apply IsS107.drewN|apply IsS107.drew|apply IsS107.set_1|refine IsS107.far ?_ NB0_1092.out _)|exact HI0.out))):gb1102≠g));replace HI0:=Aside0.mk (IsS107.below (by repeat(first|(with_reducible first|exact HI0.out|apply IsS107.alloc|apply IsS107.drewN|apply IsS107.drew|apply IsS107.set_1|refine IsS107.far ?_ NB0_1092.out _)|exact HI0.out)) hb);clear hb hbox hg;have hnb13:=NB1102_1092.out;have hnc13:=NB1092_1102.out;have hnb14:=NB1102_0.out;have hnc14:=NB0_1102.out;obtain⟨hcz15_0,hcz15_1,hcz15_2,hcz15_3,hcz15_4,hfz15_0,hfz15_1,hfz15_2,hfz15_3,hfz15_4⟩:=zC5 BK1102)|((with_reducible refine qac (f:=48) rfl ?_);refine zF (some 24) Try.func48 #[.pointer (some ⟨g,0,none⟩),.int .i64 2] ?_;(with_reducible refine(spec_l6Rd_pick.calls k g s0_0 t1101 2 t1103 t1104 w0 _ ?side1 ?side2 A5.out).mono ?_);(case side1=>repeat(first|(with_reducible first|exact HI0.out|apply IsS107.alloc|apply IsS107.drewN|apply IsS107.drew|apply IsS107.set_1|refine IsS107.far ?_ NB0_1092.out _|refine IsS107.far ?_ NB0_1102.out _)|exact HI0.out));(case side2=>exact(zb15_1House HB HI0 GE1092 GE1102));rintro e w16 ⟨rfl,hi,hb,hk⟩;refine⟨_,rfl,?_⟩;replace BK1092:=Aside0.mk (KeepBut.blk hk (g':=gb1092) (o:=.cells #[.int .i64 0,.bool false,.int .i64 0,.slice none 0 0,.int .i64 0] 72 (0,0)) (za44 NB1092_1102 BK1092) NB1092_0.out (by simp));replace HO1096:=Aside0.mk (Kd.N_mono (Kd.N_keep (Kd.N_mono (ok:=fun k_=>((((w.heap.size≤k_))∧(k_≠gb1092∧k_≠g))∧k_≠gb1102)) (by(with_reducible repeat(first|apply Kd.N_alloc|apply Kd.N_drewN|apply Kd.N_drew));exact(Kd.N_mono (Kd.N_far (p:=⟨gb1102,4,none⟩) (Kd.N_far (p:=⟨gb1102,3,none⟩) (Kd.N_far (p:=⟨gb1102,2,none⟩) (Kd.N_far (p:=⟨gb1102,1,none⟩) (Kd.N_far (p:=⟨gb1102,0,none⟩) (Kd.N_mono HO1096.out (fun k_ hk=>(⟨hk,hk.2⟩:_∧k_≠gb1102))) (fun _ hk=>hk.2) (.int .i64 (wrap64 (1+t1098)))) (fun _ hk=>hk.2) (.bool (decide (t1100>0)))) (fun _ hk=>hk.2) (.int .i64 t1093)) (fun _ hk=>hk.2) (.slice Ao11 t1094.length co11)) (fun _ hk=>hk.2) (.int .i64 (t1094.length:Int))) (fun _ h_=>h_.1))) (fun k_ hk_=>(⟨hk_,hk_.1.2.2⟩:_∧k_≠g))) hk (fun _ h=>h.2)) (fun _ h=>h.1));replace BK1102:=Aside0.mk (KeepBut.blk hk (g':=gb1102) (o:=.cells #[.int .i64 (wrap64 (1+t1098)),.bool (decide (t1100>0)),.int .i64 t1093,.slice Ao11 t1094.length co11,.int .i64 (t1094.length:Int)] 72 (0,0)) (by(with_reducible repeat(first|refine blk_drewN ?_ _|refine blk_drew ?_|refine blk_alloc ?_ _));refine qad (cs:=#[.int .i64 (wrap64 (1+t1098)),.bool (decide (t1100>0)),.int .i64 t1093,.slice Ao11 t1094.length co11,.int .i64 0]) ?_ 4 _ rfl;(with_reducible repeat(first|refine blk_drewN ?_ _|refine blk_drew ?_|refine blk_alloc ?_ _));refine qad (cs:=#[.int .i64 (wrap64 (1+t1098)),.bool (decide (t1100>0)),.int .i64 t1093,.slice none 0 0,.int .i64 0]) ?_ 3 _ rfl;(with_reducible repeat(first|refine blk_drewN ?_ _|refine blk_drew ?_|refine blk_alloc ?_ _));refine qad (cs:=#[.int .i64 (wrap64 (1+t1098)),.bool (decide (t1100>0)),.int .i64 0,.slice none 0 0,.int .i64 0]) ?_ 2 _ rfl;(with_reducible repeat(first|refine blk_drewN ?_ _|refine blk_drew ?_|refine blk_alloc ?_ _));refine qad (cs:=#[.int .i64 (wrap64 (1+t1098)),.bool false,.int .i64 0,.slice none 0 0,.int .i64 0]) ?_ 1 _ rfl;(with_reducible repeat(first|refine blk_drewN ?_ _|refine blk_drew ?_|refine blk_alloc ?_ _));refine qad (cs:=#[.int .i64 0,.bool false,.int .i64 0,.slice none 0 0,.int .i64 0]) ?_ 0 _ rfl;(with_reducible repeat(first|refine blk_drewN ?_ _|refine blk_drew ?_|refine blk_alloc ?_ _));exact BK1102.out) NB1102_0.out (by simp));replace HK:=Aside0.mk (KeepBut.trans (za8 HK GW1092 GW1102) hk (.inl rfl));replace HB:=Aside0.mk hb;replace HI0:=Aside0.mk hi;(try clear hb);(try clear hk);(try clear hi)))
 (try simp only[Act.put,List.setIfInBounds_toArray,List.set_cons_zero,List.set_cons_succ])
 go_cut [] (fun wc=>∃(kq:Nat) (x1001_5:Int) (x1103004_5:Int),Aside0 (spec_l71House.j0 kq s0_0 x1001_5 (wrap64 (1+t1098)) (decide (t1100>0)) t1093 t1094 x1103004_5=some (r1,r2,r3,r4,r5,r6))∧Aside0 (kq≤k)∧Aside0 (Kd.N k32 32 wc w.heap.size (fun k_=>(w.heap.size≤k_)∧k_≠gb1092∧k_≠gb1102∧k_≠g) (.slice Ao11 t1094.length co11) t1094)∧Aside0 (wc.heap[gb1092]?=some (.cells #[.int .i64 0,.bool false,.int .i64 0,(.slice none 0 0),.int .i64 0] 72 (0,0)))∧Aside0 (wc.heap[gb1102]?=some (.cells #[.int .i64 (wrap64 (1+t1098)),.bool (decide (t1100>0)),.int .i64 t1093,(.slice Ao11 t1094.length co11),.int .i64 x1103004_5] 72 (0,0)))∧Aside0 (IsS107 w0 wc g s0_0 x1001_5)∧Aside0 (KeepBut w wc g none)∧Aside0 (Below w0.heap.size w0 wc))
 case first=>
  have H:=HC6.out
  clear HC6
  by_cases c17:t1103=0
  ·rw[if_pos c17] at H
   have c17b0:(t1103 == 0)=true:=beq_iff_eq.mpr c17
   have c17b1:(t1103 != 0)=false:=bne_eq_false_iff_eq.mpr c17
   clear c17
   (first|rw[c17b0]|(simp only[qaf,qag];rw[c17b0])|skip)
   replace H:=Option.bind_eq_some_iff.mp H
   obtain⟨⟨t1105,t1106⟩,A180,H⟩:=H
   replace H:(spec_l71House.j0 k s0_0 t1106 (wrap64 (1+t1098)) (decide (t1100>0)) t1093 t1094 t1105)=some (r1,r2,r3,r4,r5,r6):=H
   have A18:=Aside0.mk A180
   clear A180
   have H':=Aside0.mk H
   clear H
   go_wp2_with(first|((with_reducible refine qac (f:=48) rfl ?_);refine zF (some 30) Try.func48 #[.pointer (some ⟨g,0,none⟩),.int .i64 (wrap64 ((t1094.length:Int)+1))] ?_;(with_reducible refine(spec_l6Rd_pick.calls k g s0_0 t1104 (wrap64 ((t1094.length:Int)+1)) t1105 t1106 w0 _ ?side1 ?side2 A18.out).mono ?_);(case side1=>repeat(first|(with_reducible first|exact HI0.out|apply IsS107.alloc|apply IsS107.drewN|apply IsS107.drew|apply IsS107.set_1|refine IsS107.far ?_ NB0_1092.out _|refine IsS107.far ?_ NB0_1102.out _)|exact HI0.out));(case side2=>exact(zb15_1House HB HI0 GE1092 GE1102));rintro e w19 ⟨rfl,hi,hb,hk⟩;refine⟨_,rfl,?_⟩;replace BK1092:=Aside0.mk (KeepBut.blk hk (zB BK1092) NB1092_0.out (by simp));replace HO1096:=Aside0.mk (Kd.N_mono (Kd.N_keep (Kd.N_mono (ok:=fun k_=>((((w.heap.size≤k_))∧(k_≠gb1092∧k_≠g))∧k_≠gb1102)) (za36 HO1096) (fun k_ hk_=>(⟨hk_,hk_.1.2.2⟩:_∧k_≠g))) hk (fun _ h=>h.2)) (fun _ h=>h.1));replace BK1102:=Aside0.mk (KeepBut.blk hk (zB BK1102) NB1102_0.out (by simp));replace HK:=Aside0.mk (KeepBut.trans (za8 HK GW1092 GW1102) hk (.inl rfl));replace HB:=Aside0.mk hb;replace HI0:=Aside0.mk hi;(try clear hb);(try clear hk);(try clear hi);have hnb20:=NB1102_1092.out;have hnc20:=NB1092_1102.out;have hnb21:=NB1102_0.out;have hnc21:=NB0_1102.out;obtain⟨hcz22_0,hcz22_1,hcz22_2,hcz22_3,hcz22_4,hfz22_0,hfz22_1,hfz22_2,hfz22_3,hfz22_4⟩:=zC5 BK1102))
   go_meet
   case rel=>exact⟨_,(t1106),(t1105),H',⟨za57⟩,⟨by(with_reducible repeat(first|apply Kd.N_alloc|apply Kd.N_drewN|apply Kd.N_drew));exact Kd.N_mono (Kd.N_far (p:=⟨gb1102,4,none⟩) (Kd.N_mono HO1096.out (fun k_ hk=>(⟨hk,hk.2⟩:_∧k_≠gb1102))) (fun _ hk=>hk.2) (.int .i64 t1105)) (fun _ hk=>⟨hk.1.1.1,⟨hk.1.1.2.1,⟨hk.1.2,hk.1.1.2.2⟩⟩⟩)⟩,⟨za45 NB1092_1102 BK1092⟩,⟨by(with_reducible repeat(first|refine blk_drewN ?_ _|refine blk_drew ?_|refine blk_alloc ?_ _));refine qad (cs:=#[.int .i64 (wrap64 (1+t1098)),.bool (decide (t1100>0)),.int .i64 t1093,.slice Ao11 t1094.length co11,.int .i64 (t1094.length:Int)]) ?_ 4 _ rfl;(with_reducible repeat(first|refine blk_drewN ?_ _|refine blk_drew ?_|refine blk_alloc ?_ _));exact BK1102.out⟩,⟨zb35_1House HI0 NB0_1092 NB0_1102⟩,⟨za8 HK GW1092 GW1102⟩,⟨zb15_1House HB HI0 GE1092 GE1102⟩⟩
  ·rw[if_neg c17] at H
   have c17b0:(t1103 == 0)=false:=beq_eq_false_iff_ne.mpr c17
   have c17b1:(t1103 != 0)=true:=bne_iff_ne.mpr c17
   (first|rw[c17b0]|(simp only[qaf,qag];rw[c17b0])|skip)
   have H':=Aside0.mk H
   clear H
   go_wp2
   go_meet
   case rel=>exact⟨_,(t1104),((t1094.length:Int)),H',⟨za57⟩,⟨by(with_reducible repeat(first|apply Kd.N_alloc|apply Kd.N_drewN|apply Kd.N_drew));exact Kd.N_mono HO1096.out (fun _ hk=>⟨hk.1.1,⟨hk.1.2.1,⟨hk.2,hk.1.2.2⟩⟩⟩)⟩,⟨za24 BK1092⟩,⟨za24 BK1102⟩,⟨zb35_1House HI0 NB0_1092 NB0_1102⟩,⟨za8 HK GW1092 GW1102⟩,⟨zb15_1House HB HI0 GE1092 GE1102⟩⟩
 case rest=>
  clear HC6
  try clear c1
  try clear c2
  try clear p2
  try clear c4
  try clear c5
  try clear p6
  try clear c7
  try clear c13
  try clear c14
  try clear c17
  try clear c17b0
  try clear c17b1
  try clear c20
  try clear c21
  try clear hcz15_0
  try clear hcz15_1
  try clear hcz15_2
  try clear hcz15_3
  try clear hcz15_4
  try clear hcz22_0
  try clear hcz22_1
  try clear hcz22_2
  try clear hcz22_3
  try clear hcz22_4
  try clear hfz15_0
  try clear hfz15_1
  try clear hfz15_2
  try clear hfz15_3
  try clear hfz15_4
  try clear hfz22_0
  try clear hfz22_1
  try clear hfz22_2
  try clear hfz22_3
  try clear hfz22_4
  obtain⟨kq,x1001_5,x1103004_5,HA,HJ5,HO_1103003,BK1092,BK1102,HI0,HK,HB⟩:=hcut
  cases kq with
  |zero=>exact absurd HA.out (by simp[spec_l71House.j0])
  |succ kj5=>
   have H:=HA.out
   clear HA
   simp only[spec_l71House.j0] at H
   replace H:=Option.bind_eq_some_iff.mp H
   obtain⟨⟨t1107,t1108⟩,A230,H⟩:=H
   replace H:(if t1107=0 then((some (([0,4]:List Int):List Int)).bind fun y1109=>((spec_l6Rd_pick.f kj5 s0_0 t1108 2).bind fun bt1112=>(if 0≤bt1112.1 then(if bt1112.1<(y1109.length:Int) then(some (rd y1109 bt1112.1,(decide (t1100>0)),t1093,t1094,x1103004_5,bt1112.2)) else(none)) else(none)))) else(if t1107=1 then((spec_l71RecV.f kj5 s0_0 t1108).bind fun bt1115=>(if t1094.length<3518437208883 then(some ((wrap64 (1+t1098)),(decide (t1100>0)),t1093,(t1094++[(⟨bt1115.1,bt1115.2.1,bt1115.2.2.1⟩:S32)]),x1103004_5,bt1115.2.2.2)) else(none))) else(if t1107=2 then((spec_l6Rd_pick.f kj5 s0_0 t1108 4).bind fun bt1124=>(some ((wrap64 (1+t1098)),(decide (t1100>0)),bt1124.1,t1094,x1103004_5,bt1124.2))) else(some ((wrap64 (1+t1098)),(decide (t1100>0)),t1093,t1094,x1103004_5,t1108)))))=some (r1,r2,r3,r4,r5,r6):=H
   have A23:=Aside0.mk A230
   clear A230
   by_cases c24:t1107=0
   ·rw[if_pos c24] at H
    have c24b0:(t1107 == 0)=true:=beq_iff_eq.mpr c24
    have c24b1:(t1107 != 0)=false:=bne_eq_false_iff_eq.mpr c24
    clear c24
    obtain⟨y1109,hy1109⟩:∃y_:List Int,y_=(([0,4]:List Int)):=⟨_,rfl⟩
    replace H:((spec_l6Rd_pick.f kj5 s0_0 t1108 2).bind fun bt1112=>(if 0≤bt1112.1 then(if bt1112.1<(y1109.length:Int) then(some (rd y1109 bt1112.1,(decide (t1100>0)),t1093,t1094,x1103004_5,bt1112.2)) else(none)) else(none)))=some (r1,r2,r3,r4,r5,r6):=by first|(rw[hy1109];with_reducible exact H)|(have H2_:=(Option.bind_some _ _).symm.trans H;rw[hy1109];with_reducible exact H2_)|(have H2_:=(Option.bind_some _ _).symm.trans H;with_reducible exact H2_)|with_reducible exact H|(rw[hy1109];exact H)|exact H
    have Ny1109:=Aside0.mk hy1109
    clear hy1109
    replace H:=Option.bind_eq_some_iff.mp H
    obtain⟨⟨t1112,t1113⟩,A250,H⟩:=H
    replace H:(if 0≤t1112 then(if t1112<(y1109.length:Int) then(some (rd y1109 t1112,(decide (t1100>0)),t1093,t1094,x1103004_5,t1113)) else(none)) else(none))=some (r1,r2,r3,r4,r5,r6):=H
    have A25:=Aside0.mk A250
    clear A250
    by_cases c26:0≤t1112
    ·rw[if_pos c26] at H
     have c26b0:decide (0≤t1112)=true:=decide_eq_true c26
     clear c26
     by_cases c27:t1112<(y1109.length:Int)
     ·rw[if_pos c27] at H
      have c27b0:decide (t1112<(y1109.length:Int))=true:=decide_eq_true c27
      clear c27
      simp only[Option.some.injEq,Prod.mk.injEq] at H
      obtain⟨rfl,rfl,rfl,rfl,rfl,rfl⟩:=H
      go_wp2_with(first|((with_reducible refine qac (f:=48) rfl ?_);refine zF (some 34) Try.func48 #[.pointer (some ⟨g,0,none⟩),.int .i64 20] ?_;(with_reducible refine(spec_l6Rd_pick.calls kj5 g s0_0 x1001_5 20 t1107 t1108 w0 _ ?side1 ?side2 A23.out).mono ?_);(case side1=>repeat(first|(with_reducible first|exact HI0.out|apply IsS107.alloc|apply IsS107.drewN|apply IsS107.drew|apply IsS107.set_1|refine IsS107.far ?_ NB0_1092.out _|refine IsS107.far ?_ NB0_1102.out _)|exact HI0.out));(case side2=>exact(zb15_1House HB HI0 GE1092 GE1102));rintro e w28 ⟨rfl,hi,hb,hk⟩;refine⟨_,rfl,?_⟩;replace HO_1103003:=Aside0.mk (Kd.N_mono (Kd.N_keep (Kd.N_mono (ok:=fun k_=>(((w.heap.size≤k_))∧(k_≠gb1092∧(k_≠gb1102∧k_≠g)))) (za36 HO_1103003) (fun k_ hk_=>(⟨hk_,hk_.2.2.2⟩:_∧k_≠g))) hk (fun _ h=>h.2)) (fun _ h=>h.1));replace BK1092:=Aside0.mk (KeepBut.blk hk (zB BK1092) NB1092_0.out (by simp));replace BK1102:=Aside0.mk (KeepBut.blk hk (zB BK1102) NB1102_0.out (by simp));replace HK:=Aside0.mk (KeepBut.trans (za8 HK GW1092 GW1102) hk (.inl rfl));replace HB:=Aside0.mk hb;replace HI0:=Aside0.mk hi;(try clear hb);(try clear hk);(try clear hi))|((with_reducible refine qae (N:=37) rfl ?_);refine Kd.R_lit (Kd.int .i64) _ 3 (by rfl) (N:=37) (by rfl) (xs:=([0,4]:List Int)) (inner:=[.int .i64 0,.int .i64 4]) (ok:=fun _=>True) (okp:=fun _=>True) (by first|(go_simp;done)|(go_simp;rfl)) ?hp (fun _ hk=>hk) trivial (Below.refl _ _) (Nat.le_refl _) (by simp) ?_;(case hp=>exact(Reps.one (show Kd.M (Kd.int .i64) _ _ _ 0 [.int .i64 0] from rfl) (Reps.one (show Kd.M (Kd.int .i64) _ _ _ 4 [.int .i64 4] from rfl) (Reps.none _ _))));intro v1110 w29 ho30 hb hg_ hnew_;clear hg_ hnew_;(first|rw[←Ny1109.out] at ho30|(simp only[Int.reduceToNat] at ho30;rw[←Ny1109.out] at ho30));replace HO_1103003:=Aside0.mk (Kd.N_elder' (za36 HO_1103003) (Kd.R_base ho30) hb);have HO1111:=Aside0.mk (Kd.R_lower (Kd.R_newM (M:=fun k_=>(w.heap.size≤k_)) ho30 (qan (w:=w) (g:=g) (row:=none) (za8 HK GW1092 GW1102)) (fun k_ h_=>h_)) (qan (w:=w) (g:=g) (row:=none) (za8 HK GW1092 GW1102)));replace BK1092:=Aside0.mk (qaa (zB BK1092) hb);replace BK1102:=Aside0.mk (qaa (zB BK1102) hb);replace HK:=Aside0.mk (KeepBut.trans (za8 HK GW1092 GW1102) (KeepBut.of_below hb g none) (.inl rfl));replace HB:=Aside0.mk (qab (zb15_1House HB HI0 GE1092 GE1102) hb);replace HI0:=Aside0.mk (IsS107.below (zb35_1House HI0 NB0_1092 NB0_1102) hb);clear hb ho30)|((with_reducible refine qac (f:=48) rfl ?_);refine zF (some 39) Try.func48 #[.pointer (some ⟨g,0,none⟩),.int .i64 2] ?_;(with_reducible refine(spec_l6Rd_pick.calls kj5 g s0_0 t1108 2 t1112 t1113 w0 _ ?side1 ?side2 A25.out).mono ?_);(case side1=>repeat(first|(with_reducible first|exact HI0.out|apply IsS107.alloc|apply IsS107.drewN|apply IsS107.drew|apply IsS107.set_1|refine IsS107.far ?_ NB0_1092.out _|refine IsS107.far ?_ NB0_1102.out _)|exact HI0.out));(case side2=>exact(zb15_1House HB HI0 GE1092 GE1102));rintro e w31 ⟨rfl,hi,hb,hk⟩;refine⟨_,rfl,?_⟩;replace HO_1103003:=Aside0.mk (Kd.N_mono (Kd.N_keep (Kd.N_mono (ok:=fun k_=>((((w.heap.size≤k_))∧(k_≠gb1092∧(k_≠gb1102∧k_≠g)))∧some k_≠(v1110:Value).ownBlock)) (za36 HO_1103003) (fun k_ hk_=>(⟨hk_,hk_.1.2.2.2⟩:_∧k_≠g))) hk (fun _ h=>h.2)) (fun _ h=>h.1));replace BK1092:=Aside0.mk (KeepBut.blk hk (zB BK1092) NB1092_0.out (by simp));replace BK1102:=Aside0.mk (KeepBut.blk hk (zB BK1102) NB1102_0.out (by simp));replace HO1111:=Aside0.mk (Kd.R_mono (Kd.R_keep (IsS107.apart (show IsS107 w0 _ g s0_0 t1108 from by repeat(first|(with_reducible first|exact HI0.out|apply IsS107.alloc|apply IsS107.drewN|apply IsS107.drew|apply IsS107.set_1|refine IsS107.far ?_ NB0_1092.out _|refine IsS107.far ?_ NB0_1102.out _)|exact HI0.out)) (za5 HO1111) (by decide)) hk (fun _ h=>h.2)) (fun _ h=>h.1));replace HK:=Aside0.mk (KeepBut.trans (za8 HK GW1092 GW1102) hk (.inl rfl));replace HB:=Aside0.mk hb;replace HI0:=Aside0.mk hi;(try clear hb);(try clear hk);(try clear hi);obtain⟨Ao32,co32,eo32⟩:=Kd.R_slice HO1111.out;subst eo32;have p1114:0≤(t1112:Int):=of_decide_eq_true (za9);have q1114:t1112<(y1109.length:Int):=of_decide_eq_true (za9);obtain⟨ad1114,e1114,hx1114_0⟩:=Kd.at_int (Kd.R_reads' HO1111.out).2.2 t1112 p1114 q1114;cases e1114;replace p1114:=eq_true p1114;replace q1114:=eq_true q1114;have hnb33:=NB1102_1092.out;have hnc33:=NB1092_1102.out;have hnb34:=NB1102_0.out;have hnc34:=NB0_1102.out;obtain⟨hcz35_0,hcz35_1,hcz35_2,hcz35_3,hcz35_4,hfz35_0,hfz35_1,hfz35_2,hfz35_3,hfz35_4⟩:=zC5 BK1102;have hnb36:=NB1092_0.out;have hnc36:=NB0_1092.out;obtain⟨hcz37_0,hcz37_1,hcz37_2,hcz37_3,hcz37_4,hfz37_0,hfz37_1,hfz37_2,hfz37_3,hfz37_4⟩:=zC5 BK1092))
      refine bodyPost_ret (results_cell_row rfl _ _ gb1092 72 #[.int .i64 (rd y1109 t1112),.bool (decide (t1100>0)),.int .i64 t1093,.slice Ao11 t1094.length co11,.int .i64 x1103004_5] (0,0) _ rfl (by(with_reducible repeat(first|refine blk_drewN ?_ _|refine blk_drew ?_|refine blk_alloc ?_ _));refine qad (cs:=#[.int .i64 (rd y1109 t1112),.bool (decide (t1100>0)),.int .i64 t1093,.slice Ao11 t1094.length co11,.int .i64 0]) ?_ 4 _ rfl;(with_reducible repeat(first|refine blk_drewN ?_ _|refine blk_drew ?_|refine blk_alloc ?_ _));refine qad (cs:=#[.int .i64 (rd y1109 t1112),.bool (decide (t1100>0)),.int .i64 t1093,.slice none 0 0,.int .i64 0]) ?_ 3 _ rfl;(with_reducible repeat(first|refine blk_drewN ?_ _|refine blk_drew ?_|refine blk_alloc ?_ _));refine qad (cs:=#[.int .i64 (rd y1109 t1112),.bool (decide (t1100>0)),.int .i64 0,.slice none 0 0,.int .i64 0]) ?_ 2 _ rfl;(with_reducible repeat(first|refine blk_drewN ?_ _|refine blk_drew ?_|refine blk_alloc ?_ _));refine qad (cs:=#[.int .i64 (rd y1109 t1112),.bool false,.int .i64 0,.slice none 0 0,.int .i64 0]) ?_ 1 _ rfl;(with_reducible repeat(first|refine blk_drewN ?_ _|refine blk_drew ?_|refine blk_alloc ?_ _));refine qad (cs:=#[.int .i64 0,.bool false,.int .i64 0,.slice none 0 0,.int .i64 0]) ?_ 0 _ rfl;(with_reducible repeat(first|refine blk_drewN ?_ _|refine blk_drew ?_|refine blk_alloc ?_ _));refine blk_far ?_ NB1092_1102.out _;(with_reducible repeat(first|refine blk_drewN ?_ _|refine blk_drew ?_|refine blk_alloc ?_ _));exact BK1092.out) Try.underlying72 rfl (by kernel_rfl)) rfl ?_
      exact⟨_,za16,by(with_reducible repeat(first|apply Kd.N_alloc|apply Kd.N_drewN|apply Kd.N_drew));exact Kd.N_mono (Kd.N_far (p:=⟨gb1092,4,none⟩) (Kd.N_far (p:=⟨gb1092,3,none⟩) (Kd.N_far (p:=⟨gb1092,2,none⟩) (Kd.N_far (p:=⟨gb1092,1,none⟩) (Kd.N_far (p:=⟨gb1092,0,none⟩) (Kd.N_far (p:=⟨gb1102,0,none⟩) (Kd.N_mono (Kd.N_mono HO_1103003.out (fun k_ hk=>(⟨hk,hk.1.2.2.1⟩:_∧k_≠gb1102))) (fun k_ hk=>(⟨hk,hk.1.1.2.1⟩:_∧k_≠gb1092))) (fun _ hk=>hk.1.2) (.int .i64 (rd y1109 t1112))) (fun _ hk=>hk.2) (.int .i64 (rd y1109 t1112))) (fun _ hk=>hk.2) (.bool (decide (t1100>0)))) (fun _ hk=>hk.2) (.int .i64 t1093)) (fun _ hk=>hk.2) (.slice Ao11 t1094.length co11)) (fun _ hk=>hk.2) (.int .i64 x1103004_5)) (fun _ hk=>hk.1.1.1.1),zb35_1House HI0 NB0_1092 NB0_1102,zb15_1House HB HI0 GE1092 GE1102,za8 HK GW1092 GW1102⟩
     ·rw[if_neg c27] at H
      exact absurd H (by simp)
    ·rw[if_neg c26] at H
     exact absurd H (by simp)
   ·rw[if_neg c24] at H
    have c24b0:(t1107 == 0)=false:=beq_eq_false_iff_ne.mpr c24
    have c24b1:(t1107 != 0)=true:=bne_iff_ne.mpr c24
    by_cases c38:t1107=1
    ·rw[if_pos c38] at H
     have c38b0:(t1107 == 1)=true:=beq_iff_eq.mpr c38
     have c38b1:(t1107 != 1)=false:=bne_eq_false_iff_eq.mpr c38
     clear c38
     replace H:=Option.bind_eq_some_iff.mp H
     obtain⟨⟨t1115,t1116,t1117,t1120⟩,A390,H⟩:=H
     replace H:(if t1094.length<3518437208883 then(some ((wrap64 (1+t1098)),(decide (t1100>0)),t1093,(t1094++[(⟨t1115,t1116,t1117⟩:S32)]),x1103004_5,t1120)) else(none))=some (r1,r2,r3,r4,r5,r6):=H
     have A39:=Aside0.mk A390
     clear A390
     by_cases c40:t1094.length<3518437208883
     ·rw[if_pos c40] at H
      have LMc40:=Aside0.mk c40
      clear c40
      obtain⟨y1121,hy1121⟩:∃y_:List (S32),y_=(t1094++[(⟨t1115,t1116,t1117⟩:S32)]):=⟨_,rfl⟩
      replace H:(some ((wrap64 (1+t1098)),(decide (t1100>0)),t1093,y1121,x1103004_5,t1120))=some (r1,r2,r3,r4,r5,r6):=by first|(rw[hy1121];with_reducible exact H)|(have H2_:=(Option.bind_some _ _).symm.trans H;rw[hy1121];with_reducible exact H2_)|(have H2_:=(Option.bind_some _ _).symm.trans H;with_reducible exact H2_)|with_reducible exact H|(rw[hy1121];exact H)|exact H
      have Ny1121:=Aside0.mk hy1121
      clear hy1121
      simp only[Option.some.injEq,Prod.mk.injEq] at H
      obtain⟨rfl,rfl,rfl,rfl,rfl,rfl⟩:=H
      try go_wp2_with(first|((with_reducible refine qac (f:=48) rfl ?_);refine zF (some 34) Try.func48 #[.pointer (some ⟨g,0,none⟩),.int .i64 20] ?_;(with_reducible refine(spec_l6Rd_pick.calls kj5 g s0_0 x1001_5 20 t1107 t1108 w0 _ ?side1 ?side2 A23.out).mono ?_);(case side1=>repeat(first|(with_reducible first|exact HI0.out|apply IsS107.alloc|apply IsS107.drewN|apply IsS107.drew|apply IsS107.set_1|refine IsS107.far ?_ NB0_1092.out _|refine IsS107.far ?_ NB0_1102.out _)|exact HI0.out));(case side2=>exact(zb15_1House HB HI0 GE1092 GE1102));rintro e w41 ⟨rfl,hi,hb,hk⟩;refine⟨_,rfl,?_⟩;replace HO_1103003:=Aside0.mk (Kd.N_mono (Kd.N_keep (Kd.N_mono (ok:=fun k_=>(((w.heap.size≤k_))∧(k_≠gb1092∧(k_≠gb1102∧k_≠g)))) (za36 HO_1103003) (fun k_ hk_=>(⟨hk_,hk_.2.2.2⟩:_∧k_≠g))) hk (fun _ h=>h.2)) (fun _ h=>h.1));replace BK1092:=Aside0.mk (KeepBut.blk hk (zB BK1092) NB1092_0.out (by simp));replace BK1102:=Aside0.mk (KeepBut.blk hk (zB BK1102) NB1102_0.out (by simp));replace HK:=Aside0.mk (KeepBut.trans (za8 HK GW1092 GW1102) hk (.inl rfl));replace HB:=Aside0.mk hb;replace HI0:=Aside0.mk hi;(try clear hb);(try clear hk);(try clear hi)))
      replace HO_1103003:=Aside0.mk (Kd.N_drew HO_1103003.out)
      replace BK1092:=Aside0.mk (blk_drew BK1092.out)
      replace BK1102:=Aside0.mk (blk_drew BK1102.out)
      replace HI0:=Aside0.mk (IsS107.drew HI0.out)
      replace HK:=Aside0.mk (keep_drew HK.out)
      replace HB:=Aside0.mk (qao HB.out)
      refine start_ (n:=10) (S:=fun w'=>w'.cell? ⟨gb1102,0,none⟩=some (.int .i64 (wrap64 (1+t1098)))∧w'.cell? ⟨gb1102,1,none⟩=some (.bool (decide (t1100>0)))∧w'.cell? ⟨gb1102,2,none⟩=some (.int .i64 t1093)∧w'.cell? ⟨gb1102,3,none⟩=some (.slice Ao11 t1094.length co11)∧w'.cell? ⟨gb1102,4,none⟩=some (.int .i64 x1103004_5)) (ds:=[9]) #[false,false,false,false,false,false,false,false,false,false] (by kernel_rfl) rfl rfl ⟨(blk_cell BK1102.out 0).trans rfl,(blk_cell BK1102.out 1).trans rfl,(blk_cell BK1102.out 2).trans rfl,(blk_cell BK1102.out 3).trans rfl,(blk_cell BK1102.out 4).trans rfl⟩ (fun hHeld=>?_);refine with_tabW spec_l71House.tab9 spec_l71House.bits9 (fun HT_ HW_=>?_)
      generalize w41.drew=w42 at HO_1103003 BK1092 BK1102 HI0 HK HB hHeld ⊢
      refine qaj (i:=0) (N:=some 45) (v:=?_) (a':=?_) #[true,false,false,false,false,false,false,false,false,false] rfl rfl (qah HT_.out (by kernel_rfl)) (fun _ _ _ h=>h) (Or.inl ⟨by rfl,?_⟩) ?_ ?_
      rotate_left
      ·intro w'
       go_simp
       with_reducible rfl
      rotate_left
      ·simp only[Act.put,List.setIfInBounds_toArray,List.set_cons_zero,List.set_cons_succ,qaf,qag]
       rfl
      refine qaj (i:=1) (N:=some 46) (v:=?_) (a':=?_) #[true,true,false,false,false,false,false,false,false,false] rfl rfl (qah HT_.out (by kernel_rfl)) (fun _ _ _ h=>h) (Or.inl ⟨by rfl,?_⟩) ?_ ?_
      rotate_left
      ·intro w'
       go_simp
       with_reducible rfl
      rotate_left
      ·simp only[Act.put,List.setIfInBounds_toArray,List.set_cons_zero,List.set_cons_succ,qaf,qag]
       rfl
      refine qaj (i:=3) (N:=some 48) (v:=?_) (a':=?_) #[true,true,false,true,false,false,false,false,false,false] rfl rfl (qah HT_.out (by kernel_rfl)) (fun _ _ _ h=>h) (Or.inl ⟨by rfl,?_⟩) ?_ ?_
      rotate_left
      ·intro w'
       go_simp
       with_reducible rfl
      rotate_left
      ·simp only[Act.put,List.setIfInBounds_toArray,List.set_cons_zero,List.set_cons_succ,qaf,qag]
       rfl
      refine take_ (i:=2) (N:=some 47) (v:=?_) (a':=?_) #[true,true,true,true,false,false,false,false,false,false] rfl rfl (qap HT_.out HW_.out (by kernel_rfl)) (fun _ _ _ h=>h) (Or.inl ⟨by rfl,?_⟩) hHeld ?_ ?_
      rotate_left
      ·rintro w' ⟨s0,s1,s2,s3,s4⟩
       go_simp
       with_reducible rfl
      rotate_left
      ·simp only[Act.put,List.setIfInBounds_toArray,List.set_cons_zero,List.set_cons_succ,qaf,qag]
       rfl
      refine one_ (i:=4) (N:=some 49) #[true,true,true,true,true,false,false,false,false,false] rfl rfl (one_of HT_.out (by kernel_rfl)) (by decide) (fun K hK=>?_)
      refine goes_ Try.func49 (by kernel_rfl) rfl #[.pointer (some ⟨g,0,none⟩)] (by rfl) rfl rfl (by(try simp only[List.map_toArray,List.map_cons,List.map_nil]);first|done|rfl|(simp only[List.length_drop,List.length_take];rfl)) ?_
      with_reducible refine(spec_l71RecV.calls kj5 g s0_0 t1108 t1115 t1116 t1117 t1120 w0 _ ?side1 ?side2 A39.out).mono ?_
      (case side1=>repeat(first|(with_reducible first|exact HI0.out|apply IsS107.alloc|apply IsS107.drewN|apply IsS107.drew|apply IsS107.set_1|refine IsS107.far ?_ NB0_1092.out _|refine IsS107.far ?_ NB0_1102.out _)|exact HI0.out))
      (case side2=>exact(zb15_1House HB HI0 GE1092 GE1102))
      rintro e w43 ⟨v1118,rfl,ho0,hi,hb,hk⟩
      refine⟨_,rfl,?_⟩
      have HO1119:=Aside0.mk (Kd.V_lower (Kd.V_mono (ok':=fun k_=>(w.heap.size≤k_)∧some k_≠(.slice Ao11 t1094.length co11:Value).ownBlock∧k_≠gb1092∧k_≠gb1102∧k_≠g) ho0 (fun k_ hk_=>⟨(Nat.le_trans (qan (w:=w) (g:=g) (row:=none) (za8 HK GW1092 GW1102)) hk_),(Kd.fresh' (Kd.N_lt (za36 HO_1103003)) k_ hk_),(Kd.freshB (zB BK1092) k_ hk_),(Kd.freshB (zB BK1102) k_ hk_),(IsS107.fresh (zb35_1House HI0 NB0_1092 NB0_1102) k_ hk_)⟩)) (qan (w:=w) (g:=g) (row:=none) (za8 HK GW1092 GW1102)))
      replace HO_1103003:=Aside0.mk (Kd.N_mono (Kd.N_keep (Kd.N_mono (ok:=fun k_=>(((w.heap.size≤k_))∧(k_≠gb1092∧(k_≠gb1102∧k_≠g)))) (za36 HO_1103003) (fun k_ hk_=>(⟨hk_,hk_.2.2.2⟩:_∧k_≠g))) hk (fun _ h=>h.2)) (fun _ h=>h.1))
      replace BK1092:=Aside0.mk (KeepBut.blk hk (zB BK1092) NB1092_0.out (by simp))
      replace BK1102:=Aside0.mk (KeepBut.blk hk (zB BK1102) NB1102_0.out (by simp))
      replace HK:=Aside0.mk (KeepBut.trans (za8 HK GW1092 GW1102) hk (.inl rfl))
      replace HB:=Aside0.mk hb
      replace HI0:=Aside0.mk hi
      (try clear hb)
      (try clear hb2)
      (try clear hk)
      (try clear hi)
      (try clear ho0)
      obtain⟨Ao45,co45,eo45⟩:=Kd.V_slice HO1119.out
      (first|subst eo45|(injection eo45 with f1_ f2_ f3_;have f4_:=f1_.symm;have f5_:=f3_.symm;clear f1_ f2_ f3_;subst f4_;subst f5_))
      refine hK.out _ _ ⟨(blk_cell BK1102.out 0).trans rfl,(blk_cell BK1102.out 1).trans rfl,(blk_cell BK1102.out 2).trans rfl,(blk_cell BK1102.out 3).trans rfl,(blk_cell BK1102.out 4).trans rfl⟩ (fun hHeld=>?_)
      clear hK K
      refine norm_ (a':=?_) ?_ ?_
      rotate_left
      ·show Act.put _ (some 49) _=_
       simp only[Act.put,List.setIfInBounds_toArray,List.set_cons_zero,List.set_cons_succ,qaf,qag]
       rfl
      refine one_ (i:=5) (N:=some 50) #[true,true,true,true,true,true,false,false,false,false] rfl rfl (one_of HT_.out (by kernel_rfl)) (by decide) (fun K hK=>?_)
      refine value_ (w1:=?_) (v:=?_) (by rfl) rfl ?_ ?_
      rotate_left 2
      ·go_simp
       constructor
       ·rfl
       ·rfl
      refine hK.out _ _ ⟨(blk_cell (blk_alloc BK1102.out _) 0).trans rfl,(blk_cell (blk_alloc BK1102.out _) 1).trans rfl,(blk_cell (blk_alloc BK1102.out _) 2).trans rfl,(blk_cell (blk_alloc BK1102.out _) 3).trans rfl,(blk_cell (blk_alloc BK1102.out _) 4).trans rfl⟩ (fun hHeld=>?_)
      clear hK K
      refine norm_ (a':=?_) ?_ ?_
      rotate_left
      ·show Act.put _ (some 50) _=_
       simp only[Act.put,List.setIfInBounds_toArray,List.set_cons_zero,List.set_cons_succ,qaf,qag]
       rfl
      refine one_ (i:=6) (N:=some 51) #[true,true,true,true,true,true,true,false,false,false] rfl rfl (one_of HT_.out (by kernel_rfl)) (by decide) (fun K hK=>?_)
      refine Kd.N_append_step k32 w.heap.size (by rfl) (.tmp 47) (.tmp 50) 23 32 (.agg #[(.int .i64 0),(.int .i64 0),(.slice none 0 0)]) 40 rfl Try.underlying23 info32 rfl (by decide) (by omega) (.slice Ao11 t1094.length co11) t1094 (⟨t1115,t1116,t1117⟩:S32) [.int .i64 t1115,.int .i64 t1116,.slice Ao45 t1117.length co45] (fun k_=>(w.heap.size≤k_)∧k_≠gb1092∧k_≠gb1102∧k_≠g) (fun k_=>((fun k_=>(w.heap.size≤k_)∧k_≠gb1092∧k_≠gb1102∧k_≠g)) k_∧some k_≠(.slice Ao11 t1094.length co11:Value).ownBlock) rfl rfl ?aP (fun _ hk=>hk) ?aF ?aO (Below.refl _ _) ?aS ?aL ?_
      (case aP=>exact(k32_mkF _ _ (⟨t1115,t1116,t1117⟩:S32) (Kd.V_reads' (Kd.V_mono (ok':=(fun k_=>((fun k_=>(w.heap.size≤k_)∧k_≠gb1092∧k_≠gb1102∧k_≠g)) k_∧some k_≠(.slice Ao11 t1094.length co11:Value).ownBlock)) (HO1119.out) (fun k_ hk=>⟨⟨hk.1,⟨hk.2.2.1,⟨hk.2.2.2.1,hk.2.2.2.2⟩⟩⟩,hk.2.1⟩))).2.1 (Kd.V_F (Kd.V_mono (ok':=(fun k_=>((fun k_=>(w.heap.size≤k_)∧k_≠gb1092∧k_≠gb1102∧k_≠g)) k_∧some k_≠(.slice Ao11 t1094.length co11:Value).ownBlock)) (HO1119.out) (fun k_ hk=>⟨⟨hk.1,⟨hk.2.2.1,⟨hk.2.2.2.1,hk.2.2.2.2⟩⟩⟩,hk.2.1⟩)))))
      (case aF=>exact(fun k_ hk=>⟨(Nat.le_trans (qan (w:=w) (g:=g) (row:=none) (za8 HK GW1092 GW1102)) hk),Kd.freshB (zB BK1092) k_ hk,Kd.freshB (zB BK1102) k_ hk,IsS107.fresh (zb35_1House HI0 NB0_1092 NB0_1102) k_ hk⟩))
      (case aO=>exact(za36 HO_1103003))
      (case aS=>exact(qan (w:=w) (g:=g) (row:=none) (za8 HK GW1092 GW1102)))
      (case aL=>have:=LMc40.out;omega)
      intro v1122 w44 ho hb hg hat
      rw[←Ny1121.out] at ho
      replace BK1092:=Aside0.mk (blk_grown (zB BK1092) hg (Kd.N_ne HO_1103003.out BK1092.out (by decide)))
      replace BK1102:=Aside0.mk (blk_grown (zB BK1102) hg (Kd.N_ne HO_1103003.out BK1102.out (by decide)))
      replace HO1119:=Aside0.mk (Kd.V_afterv (ok:=(fun k_=>(w.heap.size≤k_)∧k_≠gb1092∧k_≠gb1102∧k_≠g)) (by(with_reducible repeat(first|apply Kd.V_alloc|apply Kd.V_drewN|apply Kd.V_drew));exact Kd.V_mono HO1119.out (fun _ hk=>⟨⟨hk.1,⟨hk.2.2.1,⟨hk.2.2.2.1,hk.2.2.2.2⟩⟩⟩,hk.2.1⟩)) hg hat)
      replace HB:=Aside0.mk (below_weaken (zb15_1House HB HI0 GE1092 GE1102) HL.out hb)
      replace HI0:=Aside0.mk (IsS107.grown (zb35_1House HI0 NB0_1092 NB0_1102) hg (IsS107.own_neN HI0.out HO_1103003.out (by decide)))
      replace HK:=Aside0.mk (KeepBut.trans (za8 HK GW1092 GW1102) (KeepBut.of_grown hg g) (Kd.N_base2 HO_1103003.out))
      have HO1123:=Aside0.mk ho
      clear HO_1103003
      clear ho hb hg hat
      obtain⟨Ao46,co46,eo46⟩:=Kd.N_slice HO1123.out
      (first|subst eo46|(injection eo46 with f1_ f2_ f3_;have f4_:=f1_.symm;have f5_:=f3_.symm;clear f1_ f2_ f3_;subst f4_;subst f5_))
      refine hK.out _ _ ⟨(blk_cell BK1102.out 0).trans rfl,(blk_cell BK1102.out 1).trans rfl,(blk_cell BK1102.out 2).trans rfl,(blk_cell BK1102.out 3).trans rfl,(blk_cell BK1102.out 4).trans rfl⟩ (fun hHeld=>?_)
      clear hK K
      refine norm_ (a':=?_) ?_ ?_
      rotate_left
      ·show Act.put _ (some 51) _=_
       simp only[Act.put,List.setIfInBounds_toArray,List.set_cons_zero,List.set_cons_succ,qaf,qag]
       rfl
      refine qaj (i:=7) (N:=some 52) (v:=?_) (a':=?_) #[true,true,true,true,true,true,true,true,false,false] rfl rfl (qah HT_.out (by kernel_rfl)) (fun _ _ _ h=>h) (Or.inl ⟨by rfl,?_⟩) ?_ ?_
      rotate_left
      ·intro w'
       go_simp
       with_reducible rfl
      rotate_left
      ·simp only[Act.put,List.setIfInBounds_toArray,List.set_cons_zero,List.set_cons_succ,qaf,qag]
       rfl
      refine qaj (i:=8) (N:=some 53) (v:=?_) (a':=?_) #[true,true,true,true,true,true,true,true,true,false] rfl rfl (qah HT_.out (by kernel_rfl)) (fun _ _ _ h=>h) (Or.inl ⟨by rfl,?_⟩) ?_ ?_
      rotate_left
      ·intro w'
       go_simp
       with_reducible rfl
      rotate_left
      ·simp only[Act.put,List.setIfInBounds_toArray,List.set_cons_zero,List.set_cons_succ,qaf,qag]
       rfl
      refine last_ (i:=9) (N:=none) #[true,true,true,true,true,true,true,true,true,true] rfl rfl (one_of HT_.out (by kernel_rfl)) (by decide) (fun K hK=>?_)
      have hs47:w44.cell? ⟨gb1102,3,none⟩=some (.slice Ao11 t1094.length co11):=(blk_cell BK1102.out 3).trans rfl
      have hfs47:=blk_frozen BK1102.out 3
      have hns47_0:=NB1092_1102.out
      have hms47_0:=NB1102_1092.out
      refine skip_ (w1:=?_) (by rfl) rfl ?_ ?_
      rotate_left
      ·go_simp
       rfl
      refine hK.out _ _ ?_
      clear hK K
      refine done_ (done_of HT_.out (by kernel_rfl)) ?_
      have hnb48:=NB1102_1092.out
      have hnc48:=NB1092_1102.out
      have hnb49:=NB1102_0.out
      have hnc49:=NB0_1102.out
      obtain⟨hcz50_0,hcz50_1,hcz50_2,hcz50_3,hcz50_4,hfz50_0,hfz50_1,hfz50_2,hfz50_3,hfz50_4⟩:=zC5 BK1102
      have hnb51:=NB1092_0.out
      have hnc51:=NB0_1092.out
      obtain⟨hcz52_0,hcz52_1,hcz52_2,hcz52_3,hcz52_4,hfz52_0,hfz52_1,hfz52_2,hfz52_3,hfz52_4⟩:=zC5 BK1092
      try go_wp2
      refine bodyPost_ret (results_cell_row rfl _ _ gb1092 72 #[.int .i64 (wrap64 (1+t1098)),.bool (decide (t1100>0)),.int .i64 t1093,.slice Ao46 y1121.length co46,.int .i64 x1103004_5] (0,0) _ rfl (by(with_reducible repeat(first|refine blk_drewN ?_ _|refine blk_drew ?_|refine blk_alloc ?_ _));refine qad (cs:=#[.int .i64 (wrap64 (1+t1098)),.bool (decide (t1100>0)),.int .i64 t1093,.slice Ao46 y1121.length co46,.int .i64 0]) ?_ 4 _ rfl;(with_reducible repeat(first|refine blk_drewN ?_ _|refine blk_drew ?_|refine blk_alloc ?_ _));refine qad (cs:=#[.int .i64 (wrap64 (1+t1098)),.bool (decide (t1100>0)),.int .i64 t1093,.slice none 0 0,.int .i64 0]) ?_ 3 _ rfl;(with_reducible repeat(first|refine blk_drewN ?_ _|refine blk_drew ?_|refine blk_alloc ?_ _));refine qad (cs:=#[.int .i64 (wrap64 (1+t1098)),.bool (decide (t1100>0)),.int .i64 0,.slice none 0 0,.int .i64 0]) ?_ 2 _ rfl;(with_reducible repeat(first|refine blk_drewN ?_ _|refine blk_drew ?_|refine blk_alloc ?_ _));refine qad (cs:=#[.int .i64 (wrap64 (1+t1098)),.bool false,.int .i64 0,.slice none 0 0,.int .i64 0]) ?_ 1 _ rfl;(with_reducible repeat(first|refine blk_drewN ?_ _|refine blk_drew ?_|refine blk_alloc ?_ _));refine qad (cs:=#[.int .i64 0,.bool false,.int .i64 0,.slice none 0 0,.int .i64 0]) ?_ 0 _ rfl;(with_reducible repeat(first|refine blk_drewN ?_ _|refine blk_drew ?_|refine blk_alloc ?_ _));refine blk_far ?_ NB1092_1102.out _;(with_reducible repeat(first|refine blk_drewN ?_ _|refine blk_drew ?_|refine blk_alloc ?_ _));exact BK1092.out) Try.underlying72 rfl (by kernel_rfl)) rfl ?_
      exact⟨_,za16,by(with_reducible repeat(first|apply Kd.N_alloc|apply Kd.N_drewN|apply Kd.N_drew));exact Kd.N_mono (Kd.N_far (p:=⟨gb1092,4,none⟩) (Kd.N_far (p:=⟨gb1092,3,none⟩) (Kd.N_far (p:=⟨gb1092,2,none⟩) (Kd.N_far (p:=⟨gb1092,1,none⟩) (Kd.N_far (p:=⟨gb1092,0,none⟩) (Kd.N_far (p:=⟨gb1102,3,none⟩) (Kd.N_mono (Kd.N_mono HO1123.out (fun k_ hk=>(⟨hk,hk.2.2.1⟩:_∧k_≠gb1102))) (fun k_ hk=>(⟨hk,hk.1.2.1⟩:_∧k_≠gb1092))) (fun _ hk=>hk.1.2) (.slice Ao46 y1121.length co46)) (fun _ hk=>hk.2) (.int .i64 (wrap64 (1+t1098)))) (fun _ hk=>hk.2) (.bool (decide (t1100>0)))) (fun _ hk=>hk.2) (.int .i64 t1093)) (fun _ hk=>hk.2) (.slice Ao46 y1121.length co46)) (fun _ hk=>hk.2) (.int .i64 x1103004_5)) (fun _ hk=>hk.1.1.1),zb35_1House HI0 NB0_1092 NB0_1102,zb15_1House HB HI0 GE1092 GE1102,za8 HK GW1092 GW1102⟩
     ·rw[if_neg c40] at H
      exact absurd H (by simp)
    ·rw[if_neg c38] at H
     have c38b0:(t1107 == 1)=false:=beq_eq_false_iff_ne.mpr c38
     have c38b1:(t1107 != 1)=true:=bne_iff_ne.mpr c38
     by_cases c53:t1107=2
     ·rw[if_pos c53] at H
      have c53b0:(t1107 == 2)=true:=beq_iff_eq.mpr c53
      have c53b1:(t1107 != 2)=false:=bne_eq_false_iff_eq.mpr c53
      clear c53
      replace H:=Option.bind_eq_some_iff.mp H
      obtain⟨⟨t1124,t1125⟩,A540,H⟩:=H
      replace H:(some ((wrap64 (1+t1098)),(decide (t1100>0)),t1124,t1094,x1103004_5,t1125))=some (r1,r2,r3,r4,r5,r6):=H
      have A54:=Aside0.mk A540
      clear A540
      simp only[Option.some.injEq,Prod.mk.injEq] at H
      obtain⟨rfl,rfl,rfl,rfl,rfl,rfl⟩:=H
      go_wp2_with(first|((with_reducible refine qac (f:=48) rfl ?_);refine zF (some 34) Try.func48 #[.pointer (some ⟨g,0,none⟩),.int .i64 20] ?_;(with_reducible refine(spec_l6Rd_pick.calls kj5 g s0_0 x1001_5 20 t1107 t1108 w0 _ ?side1 ?side2 A23.out).mono ?_);(case side1=>repeat(first|(with_reducible first|exact HI0.out|apply IsS107.alloc|apply IsS107.drewN|apply IsS107.drew|apply IsS107.set_1|refine IsS107.far ?_ NB0_1092.out _|refine IsS107.far ?_ NB0_1102.out _)|exact HI0.out));(case side2=>exact(zb15_1House HB HI0 GE1092 GE1102));rintro e w55 ⟨rfl,hi,hb,hk⟩;refine⟨_,rfl,?_⟩;replace HO_1103003:=Aside0.mk (Kd.N_mono (Kd.N_keep (Kd.N_mono (ok:=fun k_=>(((w.heap.size≤k_))∧(k_≠gb1092∧(k_≠gb1102∧k_≠g)))) (za36 HO_1103003) (fun k_ hk_=>(⟨hk_,hk_.2.2.2⟩:_∧k_≠g))) hk (fun _ h=>h.2)) (fun _ h=>h.1));replace BK1092:=Aside0.mk (KeepBut.blk hk (zB BK1092) NB1092_0.out (by simp));replace BK1102:=Aside0.mk (KeepBut.blk hk (zB BK1102) NB1102_0.out (by simp));replace HK:=Aside0.mk (KeepBut.trans (za8 HK GW1092 GW1102) hk (.inl rfl));replace HB:=Aside0.mk hb;replace HI0:=Aside0.mk hi;(try clear hb);(try clear hk);(try clear hi))|((with_reducible refine qac (f:=48) rfl ?_);refine zF (some 57) Try.func48 #[.pointer (some ⟨g,0,none⟩),.int .i64 4] ?_;(with_reducible refine(spec_l6Rd_pick.calls kj5 g s0_0 t1108 4 t1124 t1125 w0 _ ?side1 ?side2 A54.out).mono ?_);(case side1=>repeat(first|(with_reducible first|exact HI0.out|apply IsS107.alloc|apply IsS107.drewN|apply IsS107.drew|apply IsS107.set_1|refine IsS107.far ?_ NB0_1092.out _|refine IsS107.far ?_ NB0_1102.out _)|exact HI0.out));(case side2=>exact(zb15_1House HB HI0 GE1092 GE1102));rintro e w56 ⟨rfl,hi,hb,hk⟩;refine⟨_,rfl,?_⟩;replace HO_1103003:=Aside0.mk (Kd.N_mono (Kd.N_keep (Kd.N_mono (ok:=fun k_=>(((w.heap.size≤k_))∧(k_≠gb1092∧(k_≠gb1102∧k_≠g)))) (za36 HO_1103003) (fun k_ hk_=>(⟨hk_,hk_.2.2.2⟩:_∧k_≠g))) hk (fun _ h=>h.2)) (fun _ h=>h.1));replace BK1092:=Aside0.mk (KeepBut.blk hk (zB BK1092) NB1092_0.out (by simp));replace BK1102:=Aside0.mk (KeepBut.blk hk (zB BK1102) NB1102_0.out (by simp));replace HK:=Aside0.mk (KeepBut.trans (za8 HK GW1092 GW1102) hk (.inl rfl));replace HB:=Aside0.mk hb;replace HI0:=Aside0.mk hi;(try clear hb);(try clear hk);(try clear hi);have hnb57:=NB1102_1092.out;have hnc57:=NB1092_1102.out;have hnb58:=NB1102_0.out;have hnc58:=NB0_1102.out;obtain⟨hcz59_0,hcz59_1,hcz59_2,hcz59_3,hcz59_4,hfz59_0,hfz59_1,hfz59_2,hfz59_3,hfz59_4⟩:=zC5 BK1102;have hnb60:=NB1092_0.out;have hnc60:=NB0_1092.out;obtain⟨hcz61_0,hcz61_1,hcz61_2,hcz61_3,hcz61_4,hfz61_0,hfz61_1,hfz61_2,hfz61_3,hfz61_4⟩:=zC5 BK1092))
      refine bodyPost_ret (results_cell_row rfl _ _ gb1092 72 #[.int .i64 (wrap64 (1+t1098)),.bool (decide (t1100>0)),.int .i64 t1124,.slice Ao11 t1094.length co11,.int .i64 x1103004_5] (0,0) _ rfl (by(with_reducible repeat(first|refine blk_drewN ?_ _|refine blk_drew ?_|refine blk_alloc ?_ _));refine qad (cs:=#[.int .i64 (wrap64 (1+t1098)),.bool (decide (t1100>0)),.int .i64 t1124,.slice Ao11 t1094.length co11,.int .i64 0]) ?_ 4 _ rfl;(with_reducible repeat(first|refine blk_drewN ?_ _|refine blk_drew ?_|refine blk_alloc ?_ _));refine qad (cs:=#[.int .i64 (wrap64 (1+t1098)),.bool (decide (t1100>0)),.int .i64 t1124,.slice none 0 0,.int .i64 0]) ?_ 3 _ rfl;(with_reducible repeat(first|refine blk_drewN ?_ _|refine blk_drew ?_|refine blk_alloc ?_ _));refine qad (cs:=#[.int .i64 (wrap64 (1+t1098)),.bool (decide (t1100>0)),.int .i64 0,.slice none 0 0,.int .i64 0]) ?_ 2 _ rfl;(with_reducible repeat(first|refine blk_drewN ?_ _|refine blk_drew ?_|refine blk_alloc ?_ _));refine qad (cs:=#[.int .i64 (wrap64 (1+t1098)),.bool false,.int .i64 0,.slice none 0 0,.int .i64 0]) ?_ 1 _ rfl;(with_reducible repeat(first|refine blk_drewN ?_ _|refine blk_drew ?_|refine blk_alloc ?_ _));refine qad (cs:=#[.int .i64 0,.bool false,.int .i64 0,.slice none 0 0,.int .i64 0]) ?_ 0 _ rfl;(with_reducible repeat(first|refine blk_drewN ?_ _|refine blk_drew ?_|refine blk_alloc ?_ _));refine blk_far ?_ NB1092_1102.out _;(with_reducible repeat(first|refine blk_drewN ?_ _|refine blk_drew ?_|refine blk_alloc ?_ _));exact BK1092.out) Try.underlying72 rfl (by kernel_rfl)) rfl ?_
      exact⟨_,za16,by(with_reducible repeat(first|apply Kd.N_alloc|apply Kd.N_drewN|apply Kd.N_drew));exact Kd.N_mono (Kd.N_far (p:=⟨gb1092,4,none⟩) (Kd.N_far (p:=⟨gb1092,3,none⟩) (Kd.N_far (p:=⟨gb1092,2,none⟩) (Kd.N_far (p:=⟨gb1092,1,none⟩) (Kd.N_far (p:=⟨gb1092,0,none⟩) (Kd.N_far (p:=⟨gb1102,2,none⟩) (Kd.N_mono (Kd.N_mono HO_1103003.out (fun k_ hk=>(⟨hk,hk.2.2.1⟩:_∧k_≠gb1102))) (fun k_ hk=>(⟨hk,hk.1.2.1⟩:_∧k_≠gb1092))) (fun _ hk=>hk.1.2) (.int .i64 t1124)) (fun _ hk=>hk.2) (.int .i64 (wrap64 (1+t1098)))) (fun _ hk=>hk.2) (.bool (decide (t1100>0)))) (fun _ hk=>hk.2) (.int .i64 t1124)) (fun _ hk=>hk.2) (.slice Ao11 t1094.length co11)) (fun _ hk=>hk.2) (.int .i64 x1103004_5)) (fun _ hk=>hk.1.1.1),zb35_1House HI0 NB0_1092 NB0_1102,zb15_1House HB HI0 GE1092 GE1102,za8 HK GW1092 GW1102⟩
     ·rw[if_neg c53] at H
      have c53b0:(t1107 == 2)=false:=beq_eq_false_iff_ne.mpr c53
      have c53b1:(t1107 != 2)=true:=bne_iff_ne.mpr c53
      simp only[Option.some.injEq,Prod.mk.injEq] at H
      obtain⟨rfl,rfl,rfl,rfl,rfl,rfl⟩:=H
      go_wp2_with(first|((with_reducible refine qac (f:=48) rfl ?_);refine zF (some 34) Try.func48 #[.pointer (some ⟨g,0,none⟩),.int .i64 20] ?_;(with_reducible refine(spec_l6Rd_pick.calls kj5 g s0_0 x1001_5 20 t1107 t1108 w0 _ ?side1 ?side2 A23.out).mono ?_);(case side1=>repeat(first|(with_reducible first|exact HI0.out|apply IsS107.alloc|apply IsS107.drewN|apply IsS107.drew|apply IsS107.set_1|refine IsS107.far ?_ NB0_1092.out _|refine IsS107.far ?_ NB0_1102.out _)|exact HI0.out));(case side2=>exact(zb15_1House HB HI0 GE1092 GE1102));rintro e w62 ⟨rfl,hi,hb,hk⟩;refine⟨_,rfl,?_⟩;replace HO_1103003:=Aside0.mk (Kd.N_mono (Kd.N_keep (Kd.N_mono (ok:=fun k_=>(((w.heap.size≤k_))∧(k_≠gb1092∧(k_≠gb1102∧k_≠g)))) (za36 HO_1103003) (fun k_ hk_=>(⟨hk_,hk_.2.2.2⟩:_∧k_≠g))) hk (fun _ h=>h.2)) (fun _ h=>h.1));replace BK1092:=Aside0.mk (KeepBut.blk hk (zB BK1092) NB1092_0.out (by simp));replace BK1102:=Aside0.mk (KeepBut.blk hk (zB BK1102) NB1102_0.out (by simp));replace HK:=Aside0.mk (KeepBut.trans (za8 HK GW1092 GW1102) hk (.inl rfl));replace HB:=Aside0.mk hb;replace HI0:=Aside0.mk hi;(try clear hb);(try clear hk);(try clear hi);have hnb63:=NB1102_1092.out;have hnc63:=NB1092_1102.out;have hnb64:=NB1102_0.out;have hnc64:=NB0_1102.out;obtain⟨hcz65_0,hcz65_1,hcz65_2,hcz65_3,hcz65_4,hfz65_0,hfz65_1,hfz65_2,hfz65_3,hfz65_4⟩:=zC5 BK1102;have hnb66:=NB1092_0.out;have hnc66:=NB0_1092.out;obtain⟨hcz67_0,hcz67_1,hcz67_2,hcz67_3,hcz67_4,hfz67_0,hfz67_1,hfz67_2,hfz67_3,hfz67_4⟩:=zC5 BK1092))
      refine bodyPost_ret (results_cell_row rfl _ _ gb1092 72 #[.int .i64 (wrap64 (1+t1098)),.bool (decide (t1100>0)),.int .i64 t1093,.slice Ao11 t1094.length co11,.int .i64 x1103004_5] (0,0) _ rfl (by(with_reducible repeat(first|refine blk_drewN ?_ _|refine blk_drew ?_|refine blk_alloc ?_ _));refine qad (cs:=#[.int .i64 (wrap64 (1+t1098)),.bool (decide (t1100>0)),.int .i64 t1093,.slice Ao11 t1094.length co11,.int .i64 0]) ?_ 4 _ rfl;(with_reducible repeat(first|refine blk_drewN ?_ _|refine blk_drew ?_|refine blk_alloc ?_ _));refine qad (cs:=#[.int .i64 (wrap64 (1+t1098)),.bool (decide (t1100>0)),.int .i64 t1093,.slice none 0 0,.int .i64 0]) ?_ 3 _ rfl;(with_reducible repeat(first|refine blk_drewN ?_ _|refine blk_drew ?_|refine blk_alloc ?_ _));refine qad (cs:=#[.int .i64 (wrap64 (1+t1098)),.bool (decide (t1100>0)),.int .i64 0,.slice none 0 0,.int .i64 0]) ?_ 2 _ rfl;(with_reducible repeat(first|refine blk_drewN ?_ _|refine blk_drew ?_|refine blk_alloc ?_ _));refine qad (cs:=#[.int .i64 (wrap64 (1+t1098)),.bool false,.int .i64 0,.slice none 0 0,.int .i64 0]) ?_ 1 _ rfl;(with_reducible repeat(first|refine blk_drewN ?_ _|refine blk_drew ?_|refine blk_alloc ?_ _));refine qad (cs:=#[.int .i64 0,.bool false,.int .i64 0,.slice none 0 0,.int .i64 0]) ?_ 0 _ rfl;(with_reducible repeat(first|refine blk_drewN ?_ _|refine blk_drew ?_|refine blk_alloc ?_ _));exact BK1092.out) Try.underlying72 rfl (by kernel_rfl)) rfl ?_
      exact⟨_,za16,by(with_reducible repeat(first|apply Kd.N_alloc|apply Kd.N_drewN|apply Kd.N_drew));exact Kd.N_mono (Kd.N_far (p:=⟨gb1092,4,none⟩) (Kd.N_far (p:=⟨gb1092,3,none⟩) (Kd.N_far (p:=⟨gb1092,2,none⟩) (Kd.N_far (p:=⟨gb1092,1,none⟩) (Kd.N_far (p:=⟨gb1092,0,none⟩) (Kd.N_mono HO_1103003.out (fun k_ hk=>(⟨hk,hk.2.1⟩:_∧k_≠gb1092))) (fun _ hk=>hk.2) (.int .i64 (wrap64 (1+t1098)))) (fun _ hk=>hk.2) (.bool (decide (t1100>0)))) (fun _ hk=>hk.2) (.int .i64 t1093)) (fun _ hk=>hk.2) (.slice Ao11 t1094.length co11)) (fun _ hk=>hk.2) (.int .i64 x1103004_5)) (fun _ hk=>hk.1.1),zb35_1House HI0 NB0_1092 NB0_1102,zb15_1House HB HI0 GE1092 GE1102,za8 HK GW1092 GW1102⟩
end Go.Proofs.Ytmbdphefnalenaa.Print
