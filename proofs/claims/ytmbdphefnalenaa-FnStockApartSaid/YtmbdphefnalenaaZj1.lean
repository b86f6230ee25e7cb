-- Written by squeeze.py: not trusted, Lean checks it.
import Derived.Test.YtmbdphefnalenaaZK
import Derived.Test.YtmbdphefnalenaaZb0
import Derived.Test.YtmbdphefnalenaaZb2
import Derived.Test.YtmbdphefnalenaaZb3
import Derived.Test.YtmbdphefnalenaaZj0
namespace Go.Proofs.Ytmbdphefnalenaa.Print
open Go.RowKit Go.Proofs.YtmbdphefnalenaaW.PrintWords Go.Proofs.YtmbdphefnalenaaW.PrintLast Go.Proofs.YtmbdphefnalenaaW.PrintMore
attribute [local go_sem] max2_int min2_int max_two min_two max_three min_three max_four min_four
set_option linter.unusedVariables false
set_option linter.unusedSimpArgs false
theorem zb14_ockMay {p_ q0_ q1_ q2_ q3_ : Prop} (h0_ : Aside0 q0_) (h1_ : Aside0 q1_) (h2_ : Aside0 q2_) (h3_ : Aside0 q3_) (r_ : q0_ → q1_ → q2_ → q3_ → p_ := by intro h0_ h1_ h2_ h3_; repeat(first|(with_reducible first|exact h0_|apply below_alloc|apply qaq|apply qao|refine qak ?_ (IsS107.ge h1_)|refine qak ?_ h2_|refine qak ?_ h3_)|exact h0_)) : p_ := r_ h0_.out h1_.out h2_.out h3_.out
theorem zb31_ockMay {p_ q0_ q1_ q2_ q3_ q4_ q5_ : Prop} (h0_ : Aside0 q0_) (h1_ : Aside0 q1_) (h2_ : Aside0 q2_) (h3_ : Aside0 q3_) (h4_ : Aside0 q4_) (h5_ : Aside0 q5_) (r_ : q0_ → q1_ → q2_ → q3_ → q4_ → q5_ → p_ := by intro h0_ h1_ h2_ h3_ h4_ h5_; repeat(first|(with_reducible first|exact h0_|apply below_alloc|apply qaq|apply qao|refine qak ?_ (IsS107.ge h1_)|refine qak ?_ h2_|refine qak ?_ h3_|refine qak ?_ h4_|refine qak ?_ h5_)|exact h0_)) : p_ := r_ h0_.out h1_.out h2_.out h3_.out h4_.out h5_.out
theorem zb48_ockMay {p_ q0_ q1_ q2_ q3_ q4_ : Prop} (h0_ : Aside0 q0_) (h1_ : Aside0 q1_) (h2_ : Aside0 q2_) (h3_ : Aside0 q3_) (h4_ : Aside0 q4_) (r_ : q0_ → q1_ → q2_ → q3_ → q4_ → p_ := by intro h0_ h1_ h2_ h3_ h4_; repeat(first|(with_reducible first|exact h0_|apply below_alloc|apply qaq|apply qao|refine qak ?_ (IsS107.ge h1_)|refine qak ?_ h2_|refine qak ?_ h3_|refine qak ?_ h4_)|exact h0_)) : p_ := r_ h0_.out h1_.out h2_.out h3_.out h4_.out
theorem zb53_ockMay {p_ q0_ q1_ q2_ q3_ q4_ : Prop} (h0_ : Aside0 q0_) (h1_ : Aside0 q1_) (h2_ : Aside0 q2_) (h3_ : Aside0 q3_) (h4_ : Aside0 q4_) (r_ : q0_ → q1_ → q2_ → q3_ → q4_ → p_ := by intro h0_ h1_ h2_ h3_ h4_; repeat(first|(with_reducible first|exact h0_|apply IsS107.alloc|apply IsS107.drewN|apply IsS107.drew|apply IsS107.set_1|refine IsS107.far ?_ h1_ _|refine IsS107.far ?_ h2_ _|refine IsS107.far ?_ h3_ _|refine IsS107.far ?_ h4_ _)|exact h0_)) : p_ := r_ h0_.out h1_.out h2_.out h3_.out h4_.out
mutual
def spec_DrawStockMay.j0:Nat→List Int→Int→Int→List (S49)→Int→Int→List Int→Option (Int × (List (S49)) × Int × Int × List Int)
 |0,_,_,_,_,_,_,_=>none
 |k+1,x626000,x626001,x632000,x632001,x640000,x640001,x640002=>spec_DrawStockMay.l0 k 0 x626000 x626001 x632000 x632001 x640000 x640001 x640002
def spec_DrawStockMay.j2:Nat→List Int→Int→Int→List (S49)→Int→Int→List Int→Option (Int × (List (S49)) × Int × Int × List Int)
 |0,_,_,_,_,_,_,_=>none
 |k+1,x626000,x626001,x632000,x632001,x640000,x640001,x640002=>(spec_l6Rd_pick.f k x626000 x626001 12).bind fun bt650=>(if bt650.1=0 then((spec_l71RecV.f k x626000 bt650.2).bind fun bt652=>(some (x632000,x632001,bt652.1,bt652.2.1,bt652.2.2.1))) else(some (x632000,x632001,x640000,x640001,x640002)))
def spec_DrawStockMay.l0:Nat→Int→List Int→Int→Int→List (S49)→Int→Int→List Int→Option (Int × (List (S49)) × Int × Int × List Int)
 |0,_,_,_,_,_,_,_,_=>none
 |k+1,x7,x626000,x626001,x632000,x632001,x640000,x640001,x640002=>if x7<6 then((spec_l6Rd_pick.f k x626000 x626001 8).bind fun bt645=>(if bt645.1>0 then((spec_StockMay.f k x632000 x632001 x640000 x640001 x640002).bind fun t647=>(if t647=true then(spec_DrawStockMay.j2 k x626000 bt645.2 x632000 x632001 x640000 x640001 x640002) else((spec_l6Rd_pick.f k x626000 bt645.2 6).bind fun bt648=>(spec_DrawStockMay.l0 k (wrap64 (x7+1)) x626000 bt648.2 x632000 x632001 x640000 (wrap64 (1+bt648.1)) x640002)))) else(spec_DrawStockMay.j2 k x626000 bt645.2 x632000 x632001 x640000 x640001 x640002))) else(spec_DrawStockMay.j2 k x626000 x626001 x632000 x632001 x640000 x640001 x640002)
end
def spec_DrawStockMay.f (k:Nat) (l0:List Int):Option (Int × (List (S49)) × Int × Int × List Int):=(spec_l6Open.f l0).bind fun bt623=>((spec_l71Stock.f k bt623.1 bt623.2).bind fun bt626=>((spec_l6Rd_pick.f k bt623.1 bt626.2.2 3).bind fun bt632=>((spec_l6Rd_pick.f k bt623.1 bt632.2 6).bind fun bt634=>(if(wrap64 (1+bt632.1))=1 then((spec_l6Rd_pick.f k bt623.1 bt634.2 2).bind fun bt640=>(spec_DrawStockMay.j0 k bt623.1 bt640.2 bt626.1 bt626.2.1 (wrap64 (1+bt632.1)) (wrap64 (1+bt634.1)) (([wrap64 (1+bt640.1)]:List Int)))) else(spec_DrawStockMay.j0 k bt623.1 bt634.2 bt626.1 bt626.2.1 (wrap64 (1+bt632.1)) (wrap64 (1+bt634.1)) (([]:List Int)))))))
theorem spec_DrawStockMay.mono_l:∀k,(∀y0 y1 y2 y3 y4 y5 y6,LeO (spec_DrawStockMay.j0 k y0 y1 y2 y3 y4 y5 y6) (spec_DrawStockMay.j0 (k+1) y0 y1 y2 y3 y4 y5 y6))∧(∀y0 y1 y2 y3 y4 y5 y6,LeO (spec_DrawStockMay.j2 k y0 y1 y2 y3 y4 y5 y6) (spec_DrawStockMay.j2 (k+1) y0 y1 y2 y3 y4 y5 y6))∧(∀y0 y1 y2 y3 y4 y5 y6 y7,LeO (spec_DrawStockMay.l0 k y0 y1 y2 y3 y4 y5 y6 y7) (spec_DrawStockMay.l0 (k+1) y0 y1 y2 y3 y4 y5 y6 y7))
 |0=>⟨fun _ _ _ _ _ _ _ r h=>by simp[spec_DrawStockMay.j0] at h,fun _ _ _ _ _ _ _ r h=>by simp[spec_DrawStockMay.j2] at h,fun _ _ _ _ _ _ _ _ r h=>by simp[spec_DrawStockMay.l0] at h⟩
 |k+1=>by
  obtain⟨ih0,ih1,ih2⟩:=spec_DrawStockMay.mono_l k
  refine⟨?_,?_,?_⟩
  ·intro y0 y1 y2 y3 y4 y5 y6
   unfold spec_DrawStockMay.j0
   repeat' first
   |(with_reducible exact ih0 _ _ _ _ _ _ _)
   |(with_reducible exact ih1 _ _ _ _ _ _ _)
   |(with_reducible exact ih2 _ _ _ _ _ _ _ _)
   |(with_reducible exact spec_StockMay.mono _ _ _ _ _ _)
   |(with_reducible exact spec_l6Rd_pick.mono _ _ _ _)
   |(with_reducible exact spec_l71RecV.mono _ _ _)
   |(with_reducible exact spec_l71Stock.mono _ _ _)
   |(with_reducible exact LeO.refl _)
   |(with_reducible exact LeO.none _)
   |(with_reducible refine LeO.ite ?_ ?_)
   |(with_reducible refine LeO.bind ?_ (fun _=>?_))
   |exact ih0 _ _ _ _ _ _ _
   |exact ih1 _ _ _ _ _ _ _
   |exact ih2 _ _ _ _ _ _ _ _
   |exact spec_StockMay.mono _ _ _ _ _ _
   |exact spec_l6Rd_pick.mono _ _ _ _
   |exact spec_l71RecV.mono _ _ _
   |exact spec_l71Stock.mono _ _ _
   |exact LeO.none _
   |refine LeO.ite ?_ ?_
   |refine LeO.bind ?_ (fun _=>?_)
  ·intro y0 y1 y2 y3 y4 y5 y6
   unfold spec_DrawStockMay.j2
   repeat' first
   |(with_reducible exact ih0 _ _ _ _ _ _ _)
   |(with_reducible exact ih1 _ _ _ _ _ _ _)
   |(with_reducible exact ih2 _ _ _ _ _ _ _ _)
   |(with_reducible exact spec_StockMay.mono _ _ _ _ _ _)
   |(with_reducible exact spec_l6Rd_pick.mono _ _ _ _)
   |(with_reducible exact spec_l71RecV.mono _ _ _)
   |(with_reducible exact spec_l71Stock.mono _ _ _)
   |(with_reducible exact LeO.refl _)
   |(with_reducible exact LeO.none _)
   |(with_reducible refine LeO.ite ?_ ?_)
   |(with_reducible refine LeO.bind ?_ (fun _=>?_))
   |exact ih0 _ _ _ _ _ _ _
   |exact ih1 _ _ _ _ _ _ _
   |exact ih2 _ _ _ _ _ _ _ _
   |exact spec_StockMay.mono _ _ _ _ _ _
   |exact spec_l6Rd_pick.mono _ _ _ _
   |exact spec_l71RecV.mono _ _ _
   |exact spec_l71Stock.mono _ _ _
   |exact LeO.none _
   |refine LeO.ite ?_ ?_
   |refine LeO.bind ?_ (fun _=>?_)
  ·intro y0 y1 y2 y3 y4 y5 y6 y7
   unfold spec_DrawStockMay.l0
   repeat' first
   |(with_reducible exact ih0 _ _ _ _ _ _ _)
   |(with_reducible exact ih1 _ _ _ _ _ _ _)
   |(with_reducible exact ih2 _ _ _ _ _ _ _ _)
   |(with_reducible exact spec_StockMay.mono _ _ _ _ _ _)
   |(with_reducible exact spec_l6Rd_pick.mono _ _ _ _)
   |(with_reducible exact spec_l71RecV.mono _ _ _)
   |(with_reducible exact spec_l71Stock.mono _ _ _)
   |(with_reducible exact LeO.refl _)
   |(with_reducible exact LeO.none _)
   |(with_reducible refine LeO.ite ?_ ?_)
   |(with_reducible refine LeO.bind ?_ (fun _=>?_))
   |exact ih0 _ _ _ _ _ _ _
   |exact ih1 _ _ _ _ _ _ _
   |exact ih2 _ _ _ _ _ _ _ _
   |exact spec_StockMay.mono _ _ _ _ _ _
   |exact spec_l6Rd_pick.mono _ _ _ _
   |exact spec_l71RecV.mono _ _ _
   |exact spec_l71Stock.mono _ _ _
   |exact LeO.none _
   |refine LeO.ite ?_ ?_
   |refine LeO.bind ?_ (fun _=>?_)
theorem spec_DrawStockMay.mono:∀a0 k,LeO (spec_DrawStockMay.f k a0) (spec_DrawStockMay.f (k+1) a0):=by
 intro a0 k
 obtain⟨ih0,ih1,ih2⟩:=spec_DrawStockMay.mono_l k
 unfold spec_DrawStockMay.f
 repeat' first
   |(with_reducible exact ih0 _ _ _ _ _ _ _)
   |(with_reducible exact ih1 _ _ _ _ _ _ _)
   |(with_reducible exact ih2 _ _ _ _ _ _ _ _)
   |(with_reducible exact spec_StockMay.mono _ _ _ _ _ _)
   |(with_reducible exact spec_l6Rd_pick.mono _ _ _ _)
   |(with_reducible exact spec_l71RecV.mono _ _ _)
   |(with_reducible exact spec_l71Stock.mono _ _ _)
   |(with_reducible exact LeO.refl _)
   |(with_reducible exact LeO.none _)
   |(with_reducible refine LeO.ite ?_ ?_)
   |(with_reducible refine LeO.bind ?_ (fun _=>?_))
   |exact ih0 _ _ _ _ _ _ _
   |exact ih1 _ _ _ _ _ _ _
   |exact ih2 _ _ _ _ _ _ _ _
   |exact spec_StockMay.mono _ _ _ _ _ _
   |exact spec_l6Rd_pick.mono _ _ _ _
   |exact spec_l71RecV.mono _ _ _
   |exact spec_l71Stock.mono _ _ _
   |exact LeO.none _
   |refine LeO.ite ?_ ?_
   |refine LeO.bind ?_ (fun _=>?_)
set_option maxHeartbeats 8000000 in
set_option maxRecDepth 100000 in
theorem spec_DrawStockMay.calls (k:Nat) (A0:Option Addr) (c0:Nat) (l0:List Int) (r1:Int) (r2:List (S49)) (r3:Int) (r4:Int) (r5:List Int) (w:World) (hr0:Kd.C (Kd.int .u8) w A0 l0.length l0) (hc0:l0.length≤c0) (h:spec_DrawStockMay.f k l0=some (r1,r2,r3,r4,r5)) :
  Calls Try.prog 59 #[.slice A0 l0.length c0] w fun e w'=>∃v1_ v4_:Value,e=.returned (.tuple #[.agg #[.int .i64 r1,v1_],.agg #[.int .i64 r3,.int .i64 r4,v4_]])∧Kd.Q k49 49 w' w.heap.size (fun k_=>(w.heap.size≤k_)) v1_ r2∧Kd.V (Kd.int .i64) 3 w' w.heap.size (fun k_=>(w.heap.size≤k_)∧some k_≠(v1_:Value).ownBlock) v4_ r5∧Below w.heap.size w w':=by
 have hu38:=Try.underlying38
 have hu32:=Try.underlying32
 have HR0:=Aside0.mk hr0
 have HC0:=Aside0.mk hc0
 clear hr0 hc0
 have HB:=Aside0.mk (Below.refl w.heap.size w)
 have H:((spec_l6Open.f l0).bind fun bt623=>((spec_l71Stock.f k bt623.1 bt623.2).bind fun bt626=>((spec_l6Rd_pick.f k bt623.1 bt626.2.2 3).bind fun bt632=>((spec_l6Rd_pick.f k bt623.1 bt632.2 6).bind fun bt634=>(if(wrap64 (1+bt632.1))=1 then((spec_l6Rd_pick.f k bt623.1 bt634.2 2).bind fun bt640=>(spec_DrawStockMay.j0 k bt623.1 bt640.2 bt626.1 bt626.2.1 (wrap64 (1+bt632.1)) (wrap64 (1+bt634.1)) (([wrap64 (1+bt640.1)]:List Int)))) else(spec_DrawStockMay.j0 k bt623.1 bt634.2 bt626.1 bt626.2.1 (wrap64 (1+bt632.1)) (wrap64 (1+bt634.1)) (([]:List Int))))))))=some (r1,r2,r3,r4,r5):=h
 clear h
 replace H:=Option.bind_eq_some_iff.mp H
 obtain⟨⟨t623,t624⟩,A20,H⟩:=H
 replace H:((spec_l71Stock.f k t623 t624).bind fun bt626=>((spec_l6Rd_pick.f k t623 bt626.2.2 3).bind fun bt632=>((spec_l6Rd_pick.f k t623 bt632.2 6).bind fun bt634=>(if(wrap64 (1+bt632.1))=1 then((spec_l6Rd_pick.f k t623 bt634.2 2).bind fun bt640=>(spec_DrawStockMay.j0 k t623 bt640.2 bt626.1 bt626.2.1 (wrap64 (1+bt632.1)) (wrap64 (1+bt634.1)) (([wrap64 (1+bt640.1)]:List Int)))) else(spec_DrawStockMay.j0 k t623 bt634.2 bt626.1 bt626.2.1 (wrap64 (1+bt632.1)) (wrap64 (1+bt634.1)) (([]:List Int)))))))=some (r1,r2,r3,r4,r5):=H
 have A2:=Aside0.mk A20
 clear A20
 replace H:=Option.bind_eq_some_iff.mp H
 obtain⟨⟨t626,t627,t630⟩,A30,H⟩:=H
 replace H:((spec_l6Rd_pick.f k t623 t630 3).bind fun bt632=>((spec_l6Rd_pick.f k t623 bt632.2 6).bind fun bt634=>(if(wrap64 (1+bt632.1))=1 then((spec_l6Rd_pick.f k t623 bt634.2 2).bind fun bt640=>(spec_DrawStockMay.j0 k t623 bt640.2 t626 t627 (wrap64 (1+bt632.1)) (wrap64 (1+bt634.1)) (([wrap64 (1+bt640.1)]:List Int)))) else(spec_DrawStockMay.j0 k t623 bt634.2 t626 t627 (wrap64 (1+bt632.1)) (wrap64 (1+bt634.1)) (([]:List Int))))))=some (r1,r2,r3,r4,r5):=H
 have A3:=Aside0.mk A30
 clear A30
 replace H:=Option.bind_eq_some_iff.mp H
 obtain⟨⟨t632,t633⟩,A40,H⟩:=H
 replace H:((spec_l6Rd_pick.f k t623 t633 6).bind fun bt634=>(if(wrap64 (1+t632))=1 then((spec_l6Rd_pick.f k t623 bt634.2 2).bind fun bt640=>(spec_DrawStockMay.j0 k t623 bt640.2 t626 t627 (wrap64 (1+t632)) (wrap64 (1+bt634.1)) (([wrap64 (1+bt640.1)]:List Int)))) else(spec_DrawStockMay.j0 k t623 bt634.2 t626 t627 (wrap64 (1+t632)) (wrap64 (1+bt634.1)) (([]:List Int)))))=some (r1,r2,r3,r4,r5):=H
 have A4:=Aside0.mk A40
 clear A40
 replace H:=Option.bind_eq_some_iff.mp H
 obtain⟨⟨t634,t635⟩,A50,H⟩:=H
 replace H:(if(wrap64 (1+t632))=1 then((spec_l6Rd_pick.f k t623 t635 2).bind fun bt640=>(spec_DrawStockMay.j0 k t623 bt640.2 t626 t627 (wrap64 (1+t632)) (wrap64 (1+t634)) (([wrap64 (1+bt640.1)]:List Int)))) else(spec_DrawStockMay.j0 k t623 t635 t626 t627 (wrap64 (1+t632)) (wrap64 (1+t634)) (([]:List Int))))=some (r1,r2,r3,r4,r5):=H
 have A5:=Aside0.mk A50
 clear A50
 obtain⟨y636,hy636⟩:∃y_:List Int,y_=(([]:List Int)):=⟨_,rfl⟩
 replace H:(if(wrap64 (1+t632))=1 then((spec_l6Rd_pick.f k t623 t635 2).bind fun bt640=>(spec_DrawStockMay.j0 k t623 bt640.2 t626 t627 (wrap64 (1+t632)) (wrap64 (1+t634)) (([wrap64 (1+bt640.1)]:List Int)))) else(spec_DrawStockMay.j0 k t623 t635 t626 t627 (wrap64 (1+t632)) (wrap64 (1+t634)) y636))=some (r1,r2,r3,r4,r5):=by first|(rw[hy636];with_reducible exact H)|(have H2_:=(Option.bind_some _ _).symm.trans H;rw[hy636];with_reducible exact H2_)|(have H2_:=(Option.bind_some _ _).symm.trans H;with_reducible exact H2_)|with_reducible exact H|(rw[hy636];exact H)|exact H
 have Ny636:=Aside0.mk hy636
 clear hy636
 have HC6:=Aside0.mk H
 clear H
 go_enter Try.func59,Try.ntmps59
 go_upto_if 22 with(first|((with_reducible refine qae (N:=2) rfl ?_);refine zX (N:=2) (cs:=#[.int .i64 0,.slice none 0 0]) (t:=38) ?_;intro gb621 hg w7 hbox hb;have BK621:=Aside0.mk hbox;have GW621:=zH (w:=w) hg (za4 HB);have GE621:=GW621;replace HB:=Aside0.mk (qab (za4 HB) hb);clear hb hbox hg)|((with_reducible refine qae (N:=3) rfl ?_);refine zX (N:=3) (cs:=#[.int .i64 0,.int .i64 0,.slice none 0 0]) (t:=32) ?_;intro gb622 hg w8 hbox hb;have BK622:=Aside0.mk hbox;have GW622:=zH (w:=w) hg (za1 HB GE621);have GE622:=GW622;replace HB:=Aside0.mk (qab (za1 HB GE621) hb);have NB621_622:=zL BK621 hg;have NB622_621:=zG BK621 hg;replace BK621:=Aside0.mk (qaa (zB BK621) hb);clear hb hbox hg)|((with_reducible refine qac (f:=46) rfl ?_);refine zF (some 9) Try.func46 #[.slice A0 l0.length c0] ?_;(with_reducible refine(spec_l6Open.calls _ _ l0 t623 t624 w _ ?side1 ?side2 ?side3 A2.out).mono ?_);(case side1=>exact(za2 HB GE621 GE622));(case side2=>exact HR0.out);(case side3=>exact HC0.out);rintro e w9 ⟨g625,rfl,hi,hb,hb2⟩;refine⟨_,rfl,?_⟩;replace HB:=Aside0.mk hb;have HI625:=Aside0.mk hi;have NB625_621:=Aside0.mk (IsS107.ne_blk hi (qaa (zB BK621) hb2) (by decide));have NB621_625:=Aside0.mk (Ne.symm (IsS107.ne_blk hi (qaa (zB BK621) hb2) (by decide)));replace BK621:=Aside0.mk (qaa (zB BK621) hb2);have NB625_622:=Aside0.mk (IsS107.ne_blk hi (qaa (zB BK622) hb2) (by decide));have NB622_625:=Aside0.mk (Ne.symm (IsS107.ne_blk hi (qaa (zB BK622) hb2) (by decide)));replace BK622:=Aside0.mk (qaa (zB BK622) hb2);(try clear hb);(try clear hb2);(try clear hi))|((with_reducible refine qac (f:=91) rfl ?_);refine zF (some 11) Try.func91 #[.pointer (some ⟨g625,0,none⟩)] ?_;(with_reducible refine(spec_l71Stock.calls k g625 t623 t624 t626 t627 t630 w _ ?side1 ?side2 A3.out).mono ?_);(case side1=>repeat(first|(with_reducible first|exact HI625.out|apply IsS107.alloc|apply IsS107.drewN|apply IsS107.drew|apply IsS107.set_1|refine IsS107.far ?_ NB625_621.out _|refine IsS107.far ?_ NB625_622.out _)|exact HI625.out));(case side2=>exact(zb14_ockMay HB HI625 GE621 GE622));rintro e w10 ⟨v628,rfl,ho0,hi,hb,hk⟩;refine⟨_,rfl,?_⟩;replace BK621:=Aside0.mk (KeepBut.blk hk (zB BK621) NB621_625.out (by simp));replace BK622:=Aside0.mk (KeepBut.blk hk (zB BK622) NB622_625.out (by simp));have HO629:=Aside0.mk (Kd.Q_lower (Kd.Q_newM (M:=fun k_=>(w.heap.size≤k_)) ho0 (below_size (zb14_ockMay HB HI625 GE621 GE622)) (fun k_ h_=>h_)) (below_size (zb14_ockMay HB HI625 GE621 GE622)));replace HB:=Aside0.mk hb;replace HI625:=Aside0.mk hi;(try clear hb);(try clear hk);(try clear hi);(try clear ho0))|((with_reducible refine qae (N:=5) rfl ?_);refine zX (N:=5) (cs:=#[.int .i64 0,.slice none 0 0]) (t:=38) ?_;intro gb631 hg w11 hbox hb;replace HO629:=Aside0.mk (Kd.Q_below (za10 HO629) hb);have BK631:=Aside0.mk hbox;have GW631:=zH (w:=w) hg (zb14_ockMay HB HI625 GE621 GE622);have GE631:=GW631;replace HB:=Aside0.mk (qab (zb14_ockMay HB HI625 GE621 GE622) hb);have NB621_631:=zL BK621 hg;have NB631_621:=zG BK621 hg;replace BK621:=Aside0.mk (qaa (zB BK621) hb);have NB622_631:=zL BK622 hg;have NB631_622:=zG BK622 hg;replace BK622:=Aside0.mk (qaa (zB BK622) hb);have NB625_631:=Aside0.mk ((by rw[hg];exact Nat.ne_of_lt (IsS107.lt (show IsS107 w _ g625 t623 t630 from by repeat(first|(with_reducible first|exact HI625.out|apply IsS107.alloc|apply IsS107.drewN|apply IsS107.drew|apply IsS107.set_1|refine IsS107.far ?_ NB625_621.out _|refine IsS107.far ?_ NB625_622.out _)|exact HI625.out))):g625≠gb631));have NB631_625:=Aside0.mk ((by rw[hg];exact Nat.ne_of_gt (IsS107.lt (show IsS107 w _ g625 t623 t630 from by repeat(first|(with_reducible first|exact HI625.out|apply IsS107.alloc|apply IsS107.drewN|apply IsS107.drew|apply IsS107.set_1|refine IsS107.far ?_ NB625_621.out _|refine IsS107.far ?_ NB625_622.out _)|exact HI625.out))):gb631≠g625));replace HI625:=Aside0.mk (IsS107.below (by repeat(first|(with_reducible first|exact HI625.out|apply IsS107.alloc|apply IsS107.drewN|apply IsS107.drew|apply IsS107.set_1|refine IsS107.far ?_ NB625_621.out _|refine IsS107.far ?_ NB625_622.out _)|exact HI625.out)) hb);clear hb hbox hg;have hnb12:=NB631_621.out;have hnc12:=NB621_631.out;have hnb13:=NB631_622.out;have hnc13:=NB622_631.out;have hnb14:=NB631_625.out;have hnc14:=NB625_631.out;obtain⟨hcz15_0,hcz15_1,hfz15_0,hfz15_1⟩:=zC2 BK631;obtain⟨Ao16,co16,eo16,_⟩:=Kd.Q_slice HO629.out;subst eo16)|((with_reducible refine qac (f:=48) rfl ?_);refine zF (some 13) Try.func48 #[.pointer (some ⟨g625,0,none⟩),.int .i64 3] ?_;(with_reducible refine(spec_l6Rd_pick.calls k g625 t623 t630 3 t632 t633 w _ ?side1 ?side2 A4.out).mono ?_);(case side1=>repeat(first|(with_reducible first|exact HI625.out|apply IsS107.alloc|apply IsS107.drewN|apply IsS107.drew|apply IsS107.set_1|refine IsS107.far ?_ NB625_621.out _|refine IsS107.far ?_ NB625_622.out _|refine IsS107.far ?_ NB625_631.out _)|exact HI625.out));(case side2=>exact(zb48_ockMay HB HI625 GE621 GE622 GE631));rintro e w17 ⟨rfl,hi,hb,hk⟩;refine⟨_,rfl,?_⟩;replace BK621:=Aside0.mk (KeepBut.blk hk (g':=gb621) (o:=.cells #[.int .i64 0,.slice none 0 0] 38 (0,0)) (za0 NB621_631 BK621) NB621_625.out (by simp));replace BK622:=Aside0.mk (KeepBut.blk hk (g':=gb622) (o:=.cells #[.int .i64 0,.int .i64 0,.slice none 0 0] 32 (0,0)) (za0 NB622_631 BK622) NB622_625.out (by simp));replace HO629:=Aside0.mk (Kd.Q_mono (Kd.Q_keep (IsS107.apartQ (show IsS107 w _ g625 t623 t630 from by repeat(first|(with_reducible first|exact HI625.out|apply IsS107.alloc|apply IsS107.drewN|apply IsS107.drew|apply IsS107.set_1|refine IsS107.far ?_ NB625_621.out _|refine IsS107.far ?_ NB625_622.out _|refine IsS107.far ?_ NB625_631.out _)|exact HI625.out)) (by(with_reducible repeat(first|apply Kd.Q_alloc|apply Kd.Q_drewN|apply Kd.Q_drew));exact(Kd.Q_mono (Kd.Q_far (p:=⟨gb631,1,none⟩) (Kd.Q_far (p:=⟨gb631,0,none⟩) (Kd.Q_types HO629.out BK631.out (by decide)) (fun _ hk=>hk.2) (.int .i64 t626)) (fun _ hk=>hk.2) (.slice Ao16 t627.length co16)) (fun _ h_=>h_.1))) (by decide)) hk (fun _ h=>h.2)) (fun _ h=>h.1));replace BK631:=Aside0.mk (KeepBut.blk hk (g':=gb631) (o:=.cells #[.int .i64 t626,.slice Ao16 t627.length co16] 38 (0,0)) (by(with_reducible repeat(first|refine blk_drewN ?_ _|refine blk_drew ?_|refine blk_alloc ?_ _));refine qad (cs:=#[.int .i64 t626,.slice none 0 0]) ?_ 1 _ rfl;(with_reducible repeat(first|refine blk_drewN ?_ _|refine blk_drew ?_|refine blk_alloc ?_ _));refine qad (cs:=#[.int .i64 0,.slice none 0 0]) ?_ 0 _ rfl;(with_reducible repeat(first|refine blk_drewN ?_ _|refine blk_drew ?_|refine blk_alloc ?_ _));exact BK631.out) NB631_625.out (by simp));replace HB:=Aside0.mk hb;replace HI625:=Aside0.mk hi;(try clear hb);(try clear hk);(try clear hi))|((with_reducible refine qac (f:=48) rfl ?_);refine zF (some 16) Try.func48 #[.pointer (some ⟨g625,0,none⟩),.int .i64 6] ?_;(with_reducible refine(spec_l6Rd_pick.calls k g625 t623 t633 6 t634 t635 w _ ?side1 ?side2 A5.out).mono ?_);(case side1=>repeat(first|(with_reducible first|exact HI625.out|apply IsS107.alloc|apply IsS107.drewN|apply IsS107.drew|apply IsS107.set_1|refine IsS107.far ?_ NB625_621.out _|refine IsS107.far ?_ NB625_622.out _|refine IsS107.far ?_ NB625_631.out _)|exact HI625.out));(case side2=>exact(zb48_ockMay HB HI625 GE621 GE622 GE631));rintro e w18 ⟨rfl,hi,hb,hk⟩;refine⟨_,rfl,?_⟩;replace BK621:=Aside0.mk (KeepBut.blk hk (zB BK621) NB621_625.out (by simp));replace BK622:=Aside0.mk (KeepBut.blk hk (zB BK622) NB622_625.out (by simp));replace HO629:=Aside0.mk (Kd.Q_mono (Kd.Q_keep (IsS107.apartQ (show IsS107 w _ g625 t623 t633 from by repeat(first|(with_reducible first|exact HI625.out|apply IsS107.alloc|apply IsS107.drewN|apply IsS107.drew|apply IsS107.set_1|refine IsS107.far ?_ NB625_621.out _|refine IsS107.far ?_ NB625_622.out _|refine IsS107.far ?_ NB625_631.out _)|exact HI625.out)) (za10 HO629) (by decide)) hk (fun _ h=>h.2)) (fun _ h=>h.1));replace BK631:=Aside0.mk (KeepBut.blk hk (zB BK631) NB631_625.out (by simp));replace HB:=Aside0.mk hb;replace HI625:=Aside0.mk hi;(try clear hb);(try clear hk);(try clear hi))|((with_reducible refine qae (N:=18) rfl ?_);refine Kd.R_lit (Kd.int .i64) _ 3 (by rfl) (N:=18) (by rfl) (xs:=([]:List Int)) (inner:=[]) (ok:=fun _=>True) (okp:=fun _=>True) (by first|(go_simp;done)|(go_simp;rfl)) (Reps.none _ _) (fun _ hk=>hk) trivial (Below.refl _ _) (Nat.le_refl _) (by simp) ?_;intro v637 w19 ho20 hb hg_ hnew_;clear hg_ hnew_;(first|rw[←Ny636.out] at ho20|(simp only[Int.reduceToNat] at ho20;rw[←Ny636.out] at ho20));replace HO629:=Aside0.mk (Kd.Q_below (za10 HO629) hb);have HO638:=Aside0.mk (Kd.R_lower (Kd.R_newM (M:=fun k_=>(w.heap.size≤k_)) ho20 (below_size (zb48_ockMay HB HI625 GE621 GE622 GE631)) (fun k_ h_=>h_)) (below_size (zb48_ockMay HB HI625 GE621 GE622 GE631)));replace BK621:=Aside0.mk (qaa (zB BK621) hb);replace BK622:=Aside0.mk (qaa (zB BK622) hb);replace BK631:=Aside0.mk (qaa (zB BK631) hb);replace HB:=Aside0.mk (qab (zb48_ockMay HB HI625 GE621 GE622 GE631) hb);replace HI625:=Aside0.mk (IsS107.below (by repeat(first|(with_reducible first|exact HI625.out|apply IsS107.alloc|apply IsS107.drewN|apply IsS107.drew|apply IsS107.set_1|refine IsS107.far ?_ NB625_621.out _|refine IsS107.far ?_ NB625_622.out _|refine IsS107.far ?_ NB625_631.out _)|exact HI625.out)) hb);clear hb ho20;obtain⟨Ao21,co21,eo21⟩:=Kd.R_slice HO638.out;subst eo21)|((with_reducible refine qae (N:=6) rfl ?_);refine zX (N:=6) (cs:=#[.int .i64 0,.int .i64 0,.slice none 0 0]) (t:=32) ?_;intro gb639 hg w22 hbox hb;replace HO629:=Aside0.mk (Kd.Q_below (za10 HO629) hb);replace HO638:=Aside0.mk (Kd.R_below (za5 HO638) hb);have BK639:=Aside0.mk hbox;have GW639:=zH (w:=w) hg (zb48_ockMay HB HI625 GE621 GE622 GE631);have GE639:=GW639;replace HB:=Aside0.mk (qab (zb48_ockMay HB HI625 GE621 GE622 GE631) hb);have NB621_639:=zL BK621 hg;have NB639_621:=zG BK621 hg;replace BK621:=Aside0.mk (qaa (zB BK621) hb);have NB622_639:=zL BK622 hg;have NB639_622:=zG BK622 hg;replace BK622:=Aside0.mk (qaa (zB BK622) hb);have NB631_639:=zL BK631 hg;have NB639_631:=zG BK631 hg;replace BK631:=Aside0.mk (qaa (zB BK631) hb);have NB625_639:=Aside0.mk ((by rw[hg];exact Nat.ne_of_lt (IsS107.lt (show IsS107 w _ g625 t623 t635 from by repeat(first|(with_reducible first|exact HI625.out|apply IsS107.alloc|apply IsS107.drewN|apply IsS107.drew|apply IsS107.set_1|refine IsS107.far ?_ NB625_621.out _|refine IsS107.far ?_ NB625_622.out _|refine IsS107.far ?_ NB625_631.out _)|exact HI625.out))):g625≠gb639));have NB639_625:=Aside0.mk ((by rw[hg];exact Nat.ne_of_gt (IsS107.lt (show IsS107 w _ g625 t623 t635 from by repeat(first|(with_reducible first|exact HI625.out|apply IsS107.alloc|apply IsS107.drewN|apply IsS107.drew|apply IsS107.set_1|refine IsS107.far ?_ NB625_621.out _|refine IsS107.far ?_ NB625_622.out _|refine IsS107.far ?_ NB625_631.out _)|exact HI625.out))):gb639≠g625));replace HI625:=Aside0.mk (IsS107.below (by repeat(first|(with_reducible first|exact HI625.out|apply IsS107.alloc|apply IsS107.drewN|apply IsS107.drew|apply IsS107.set_1|refine IsS107.far ?_ NB625_621.out _|refine IsS107.far ?_ NB625_622.out _|refine IsS107.far ?_ NB625_631.out _)|exact HI625.out)) hb);clear hb hbox hg;have hnb23:=NB639_621.out;have hnc23:=NB621_639.out;have hnb24:=NB639_622.out;have hnc24:=NB622_639.out;have hnb25:=NB639_631.out;have hnc25:=NB631_639.out;have hnb26:=NB639_625.out;have hnc26:=NB625_639.out;obtain⟨hcz27_0,hcz27_1,hcz27_2,hfz27_0,hfz27_1,hfz27_2⟩:=zC3 BK639))
 (try simp only[Act.put,List.setIfInBounds_toArray,List.set_cons_zero,List.set_cons_succ])
 go_cut [] (fun wc=>∃(kq:Nat) (x626001_5:Int) (x640002_5:List Int) (u640002:Value),Aside0 (spec_DrawStockMay.j0 kq t623 x626001_5 t626 t627 (wrap64 (1+t632)) (wrap64 (1+t634)) x640002_5=some (r1,r2,r3,r4,r5))∧Aside0 (kq≤k)∧Aside0 (Kd.Q k49 49 wc w.heap.size (fun k_=>(w.heap.size≤k_)) (.slice Ao16 t627.length co16) t627)∧Aside0 (Kd.R (Kd.int .i64) 3 wc w.heap.size (fun k_=>(w.heap.size≤k_)) u640002 x640002_5)∧Aside0 (wc.heap[gb621]?=some (.cells #[.int .i64 0,(.slice none 0 0)] 38 (0,0)))∧Aside0 (wc.heap[gb622]?=some (.cells #[.int .i64 0,.int .i64 0,(.slice none 0 0)] 32 (0,0)))∧Aside0 (wc.heap[gb631]?=some (.cells #[.int .i64 t626,(.slice Ao16 t627.length co16)] 38 (0,0)))∧Aside0 (wc.heap[gb639]?=some (.cells #[.int .i64 (wrap64 (1+t632)),.int .i64 (wrap64 (1+t634)),u640002] 32 (0,0)))∧Aside0 (IsS107 w wc g625 t623 x626001_5)∧Aside0 (Below w.heap.size w wc))
 case first=>
  have H:=HC6.out
  clear HC6
  by_cases c28:(wrap64 (1+t632))=1
  ·rw[if_pos c28] at H
   have c28b0:((wrap64 (1+t632)) == 1)=true:=beq_iff_eq.mpr c28
   have c28b1:((wrap64 (1+t632)) != 1)=false:=bne_eq_false_iff_eq.mpr c28
   clear c28
   (first|rw[c28b0]|(simp only[qaf,qag];rw[c28b0])|skip)
   replace H:=Option.bind_eq_some_iff.mp H
   obtain⟨⟨t640,t641⟩,A290,H⟩:=H
   replace H:(spec_DrawStockMay.j0 k t623 t641 t626 t627 (wrap64 (1+t632)) (wrap64 (1+t634)) (([wrap64 (1+t640)]:List Int)))=some (r1,r2,r3,r4,r5):=H
   have A29:=Aside0.mk A290
   clear A290
   obtain⟨y642,hy642⟩:∃y_:List Int,y_=(([wrap64 (1+t640)]:List Int)):=⟨_,rfl⟩
   replace H:(spec_DrawStockMay.j0 k t623 t641 t626 t627 (wrap64 (1+t632)) (wrap64 (1+t634)) y642)=some (r1,r2,r3,r4,r5):=by first|(rw[hy642];with_reducible exact H)|(have H2_:=(Option.bind_some _ _).symm.trans H;rw[hy642];with_reducible exact H2_)|(have H2_:=(Option.bind_some _ _).symm.trans H;with_reducible exact H2_)|with_reducible exact H|(rw[hy642];exact H)|exact H
   have Ny642:=Aside0.mk hy642
   clear hy642
   have H':=Aside0.mk H
   clear H
   go_wp2_with(first|((with_reducible refine qac (f:=48) rfl ?_);refine zF (some 24) Try.func48 #[.pointer (some ⟨g625,0,none⟩),.int .i64 2] ?_;(with_reducible refine(spec_l6Rd_pick.calls k g625 t623 t635 2 t640 t641 w _ ?side1 ?side2 A29.out).mono ?_);(case side1=>repeat(first|(with_reducible first|exact HI625.out|apply IsS107.alloc|apply IsS107.drewN|apply IsS107.drew|apply IsS107.set_1|refine IsS107.far ?_ NB625_621.out _|refine IsS107.far ?_ NB625_622.out _|refine IsS107.far ?_ NB625_631.out _|refine IsS107.far ?_ NB625_639.out _)|exact HI625.out));(case side2=>exact(zb31_ockMay HB HI625 GE621 GE622 GE631 GE639));rintro e w30 ⟨rfl,hi,hb,hk⟩;refine⟨_,rfl,?_⟩;replace BK621:=Aside0.mk (KeepBut.blk hk (g':=gb621) (o:=.cells #[.int .i64 0,.slice none 0 0] 38 (0,0)) (za3 NB621_639 BK621) NB621_625.out (by simp));replace BK622:=Aside0.mk (KeepBut.blk hk (g':=gb622) (o:=.cells #[.int .i64 0,.int .i64 0,.slice none 0 0] 32 (0,0)) (za3 NB622_639 BK622) NB622_625.out (by simp));replace HO629:=Aside0.mk (Kd.Q_mono (Kd.Q_keep (IsS107.apartQ (show IsS107 w _ g625 t623 t635 from by repeat(first|(with_reducible first|exact HI625.out|apply IsS107.alloc|apply IsS107.drewN|apply IsS107.drew|apply IsS107.set_1|refine IsS107.far ?_ NB625_621.out _|refine IsS107.far ?_ NB625_622.out _|refine IsS107.far ?_ NB625_631.out _|refine IsS107.far ?_ NB625_639.out _)|exact HI625.out)) (by(with_reducible repeat(first|apply Kd.Q_alloc|apply Kd.Q_drewN|apply Kd.Q_drew));exact(Kd.Q_mono (Kd.Q_far (p:=⟨gb639,2,none⟩) (Kd.Q_far (p:=⟨gb639,1,none⟩) (Kd.Q_far (p:=⟨gb639,0,none⟩) (Kd.Q_types HO629.out BK639.out (by decide)) (fun _ hk=>hk.2) (.int .i64 (wrap64 (1+t632)))) (fun _ hk=>hk.2) (.int .i64 (wrap64 (1+t634)))) (fun _ hk=>hk.2) (.slice Ao21 y636.length co21)) (fun _ h_=>h_.1))) (by decide)) hk (fun _ h=>h.2)) (fun _ h=>h.1));replace BK631:=Aside0.mk (KeepBut.blk hk (g':=gb631) (o:=.cells #[.int .i64 t626,.slice Ao16 t627.length co16] 38 (0,0)) (za3 NB631_639 BK631) NB631_625.out (by simp));replace HO638:=Aside0.mk (Kd.R_mono (Kd.R_keep (IsS107.apart (show IsS107 w _ g625 t623 t635 from by repeat(first|(with_reducible first|exact HI625.out|apply IsS107.alloc|apply IsS107.drewN|apply IsS107.drew|apply IsS107.set_1|refine IsS107.far ?_ NB625_621.out _|refine IsS107.far ?_ NB625_622.out _|refine IsS107.far ?_ NB625_631.out _|refine IsS107.far ?_ NB625_639.out _)|exact HI625.out)) (by(with_reducible repeat(first|apply Kd.R_alloc|apply Kd.R_drewN|apply Kd.R_drew));exact(Kd.R_mono (Kd.R_far (p:=⟨gb639,2,none⟩) (Kd.R_far (p:=⟨gb639,1,none⟩) (Kd.R_far (p:=⟨gb639,0,none⟩) (Kd.R_types HO638.out BK639.out (by decide)) (fun _ hk=>hk.2) (.int .i64 (wrap64 (1+t632)))) (fun _ hk=>hk.2) (.int .i64 (wrap64 (1+t634)))) (fun _ hk=>hk.2) (.slice Ao21 y636.length co21)) (fun _ h_=>h_.1))) (by decide)) hk (fun _ h=>h.2)) (fun _ h=>h.1));replace BK639:=Aside0.mk (KeepBut.blk hk (g':=gb639) (o:=.cells #[.int .i64 (wrap64 (1+t632)),.int .i64 (wrap64 (1+t634)),.slice Ao21 y636.length co21] 32 (0,0)) (by(with_reducible repeat(first|refine blk_drewN ?_ _|refine blk_drew ?_|refine blk_alloc ?_ _));refine qad (cs:=#[.int .i64 (wrap64 (1+t632)),.int .i64 (wrap64 (1+t634)),.slice none 0 0]) ?_ 2 _ rfl;(with_reducible repeat(first|refine blk_drewN ?_ _|refine blk_drew ?_|refine blk_alloc ?_ _));refine qad (cs:=#[.int .i64 (wrap64 (1+t632)),.int .i64 0,.slice none 0 0]) ?_ 1 _ rfl;(with_reducible repeat(first|refine blk_drewN ?_ _|refine blk_drew ?_|refine blk_alloc ?_ _));refine qad (cs:=#[.int .i64 0,.int .i64 0,.slice none 0 0]) ?_ 0 _ rfl;(with_reducible repeat(first|refine blk_drewN ?_ _|refine blk_drew ?_|refine blk_alloc ?_ _));exact BK639.out) NB639_625.out (by simp));replace HB:=Aside0.mk hb;replace HI625:=Aside0.mk hi;(try clear hb);(try clear hk);(try clear hi))|((with_reducible refine qae (N:=26) rfl ?_);refine Kd.R_lit (Kd.int .i64) _ 3 (by rfl) (N:=26) (by rfl) (xs:=([wrap64 (1+t640)]:List Int)) (inner:=[.int .i64 (wrap64 (1+t640))]) (ok:=fun _=>True) (okp:=fun _=>True) (by first|(go_simp;done)|(go_simp;rfl)) ?hp (fun _ hk=>hk) trivial (Below.refl _ _) (Nat.le_refl _) (by simp) ?_;(case hp=>exact(Reps.one (show Kd.M (Kd.int .i64) _ _ _ (wrap64 (1+t640)) [.int .i64 (wrap64 (1+t640))] from rfl) (Reps.none _ _)));intro v643 w31 ho32 hb hg_ hnew_;clear hg_ hnew_;(first|rw[←Ny642.out] at ho32|(simp only[Int.reduceToNat] at ho32;rw[←Ny642.out] at ho32));replace HO629:=Aside0.mk (Kd.Q_below (za10 HO629) hb);have HO644:=Aside0.mk (Kd.R_lower (Kd.R_new' (Kd.R_newM (M:=fun k_=>(w.heap.size≤k_)) ho32 (below_size (zb31_ockMay HB HI625 GE621 GE622 GE631 GE639)) (fun k_ h_=>h_)) (Kd.R_lt (za5 HO638))) (below_size (zb31_ockMay HB HI625 GE621 GE622 GE631 GE639)));replace HO638:=Aside0.mk (Kd.R_elder' (za5 HO638) (Kd.R_base ho32) hb);replace BK621:=Aside0.mk (qaa (zB BK621) hb);replace BK622:=Aside0.mk (qaa (zB BK622) hb);replace BK631:=Aside0.mk (qaa (zB BK631) hb);replace BK639:=Aside0.mk (qaa (zB BK639) hb);replace HB:=Aside0.mk (qab (zb31_ockMay HB HI625 GE621 GE622 GE631 GE639) hb);replace HI625:=Aside0.mk (IsS107.below (zb53_ockMay HI625 NB625_621 NB625_622 NB625_631 NB625_639) hb);clear hb ho32;obtain⟨Ao33,co33,eo33⟩:=Kd.R_slice HO644.out;subst eo33;have hnb34:=NB639_621.out;have hnc34:=NB621_639.out;have hnb35:=NB639_622.out;have hnc35:=NB622_639.out;have hnb36:=NB639_631.out;have hnc36:=NB631_639.out;have hnb37:=NB639_625.out;have hnc37:=NB625_639.out;obtain⟨hcz38_0,hcz38_1,hcz38_2,hfz38_0,hfz38_1,hfz38_2⟩:=zC3 BK639))
   go_meet
   case rel=>exact⟨_,(t641),(y642),(.slice Ao33 y642.length co33),H',⟨za57⟩,⟨by(with_reducible repeat(first|apply Kd.Q_alloc|apply Kd.Q_drewN|apply Kd.Q_drew));exact Kd.Q_mono (Kd.Q_far (p:=⟨gb639,2,none⟩) (Kd.Q_types HO629.out BK639.out (by decide)) (fun _ hk=>hk.2) (.slice Ao33 y642.length co33)) (fun _ hk=>hk.1.1)⟩,⟨by(with_reducible repeat(first|apply Kd.R_alloc|apply Kd.R_drewN|apply Kd.R_drew));exact Kd.R_mono (Kd.R_far (p:=⟨gb639,2,none⟩) (Kd.R_types HO644.out BK639.out (by decide)) (fun _ hk=>hk.2) (.slice Ao33 y642.length co33)) (fun _ hk=>hk.1.1.1)⟩,⟨za45 NB621_639 BK621⟩,⟨za45 NB622_639 BK622⟩,⟨za45 NB631_639 BK631⟩,⟨by(with_reducible repeat(first|refine blk_drewN ?_ _|refine blk_drew ?_|refine blk_alloc ?_ _));refine qad (cs:=#[.int .i64 (wrap64 (1+t632)),.int .i64 (wrap64 (1+t634)),.slice Ao21 y636.length co21]) ?_ 2 _ rfl;(with_reducible repeat(first|refine blk_drewN ?_ _|refine blk_drew ?_|refine blk_alloc ?_ _));exact BK639.out⟩,⟨zb53_ockMay HI625 NB625_621 NB625_622 NB625_631 NB625_639⟩,⟨zb31_ockMay HB HI625 GE621 GE622 GE631 GE639⟩⟩
  ·rw[if_neg c28] at H
   have c28b0:((wrap64 (1+t632)) == 1)=false:=beq_eq_false_iff_ne.mpr c28
   have c28b1:((wrap64 (1+t632)) != 1)=true:=bne_iff_ne.mpr c28
   (first|rw[c28b0]|(simp only[qaf,qag];rw[c28b0])|skip)
   have H':=Aside0.mk H
   clear H
   go_wp2
   go_meet
   case rel=>exact⟨_,(t635),(y636),(.slice Ao21 y636.length co21),H',⟨za57⟩,⟨by(with_reducible repeat(first|apply Kd.Q_alloc|apply Kd.Q_drewN|apply Kd.Q_drew));exact Kd.Q_mono (Kd.Q_far (p:=⟨gb639,2,none⟩) (Kd.Q_far (p:=⟨gb639,1,none⟩) (Kd.Q_far (p:=⟨gb639,0,none⟩) (Kd.Q_types HO629.out BK639.out (by decide)) (fun _ hk=>hk.2) (.int .i64 (wrap64 (1+t632)))) (fun _ hk=>hk.2) (.int .i64 (wrap64 (1+t634)))) (fun _ hk=>hk.2) (.slice Ao21 y636.length co21)) (fun _ hk=>hk.1.1)⟩,⟨by(with_reducible repeat(first|apply Kd.R_alloc|apply Kd.R_drewN|apply Kd.R_drew));exact Kd.R_mono (Kd.R_far (p:=⟨gb639,2,none⟩) (Kd.R_far (p:=⟨gb639,1,none⟩) (Kd.R_far (p:=⟨gb639,0,none⟩) (Kd.R_types HO638.out BK639.out (by decide)) (fun _ hk=>hk.2) (.int .i64 (wrap64 (1+t632)))) (fun _ hk=>hk.2) (.int .i64 (wrap64 (1+t634)))) (fun _ hk=>hk.2) (.slice Ao21 y636.length co21)) (fun _ hk=>hk.1.1)⟩,⟨za3 NB621_639 BK621⟩,⟨za3 NB622_639 BK622⟩,⟨za3 NB631_639 BK631⟩,⟨by(with_reducible repeat(first|refine blk_drewN ?_ _|refine blk_drew ?_|refine blk_alloc ?_ _));refine qad (cs:=#[.int .i64 (wrap64 (1+t632)),.int .i64 (wrap64 (1+t634)),.slice none 0 0]) ?_ 2 _ rfl;(with_reducible repeat(first|refine blk_drewN ?_ _|refine blk_drew ?_|refine blk_alloc ?_ _));refine qad (cs:=#[.int .i64 (wrap64 (1+t632)),.int .i64 0,.slice none 0 0]) ?_ 1 _ rfl;(with_reducible repeat(first|refine blk_drewN ?_ _|refine blk_drew ?_|refine blk_alloc ?_ _));refine qad (cs:=#[.int .i64 0,.int .i64 0,.slice none 0 0]) ?_ 0 _ rfl;(with_reducible repeat(first|refine blk_drewN ?_ _|refine blk_drew ?_|refine blk_alloc ?_ _));exact BK639.out⟩,⟨zb53_ockMay HI625 NB625_621 NB625_622 NB625_631 NB625_639⟩,⟨zb31_ockMay HB HI625 GE621 GE622 GE631 GE639⟩⟩
 case rest=>
  clear HC6
  try clear c1
  try clear c2
  try clear p2
  try clear c3
  try clear c4
  try clear c5
  try clear p6
  try clear c9
  try clear c12
  try clear c13
  try clear c14
  try clear c23
  try clear c24
  try clear c25
  try clear c26
  try clear c28
  try clear c28b0
  try clear c28b1
  try clear c34
  try clear c35
  try clear c36
  try clear c37
  try clear hcz15_0
  try clear hcz15_1
  try clear hcz27_0
  try clear hcz27_1
  try clear hcz27_2
  try clear hcz38_0
  try clear hcz38_1
  try clear hcz38_2
  try clear hfz15_0
  try clear hfz15_1
  try clear hfz27_0
  try clear hfz27_1
  try clear hfz27_2
  try clear hfz38_0
  try clear hfz38_1
  try clear hfz38_2
  obtain⟨kq,x626001_5,x640002_5,u640002,HA,HJ5,HO_632001,HO_640002,BK621,BK622,BK631,BK639,HI625,HB⟩:=hcut
  cases kq with
  |zero=>exact absurd HA.out (by simp[spec_DrawStockMay.j0])
  |succ kj5=>
   have H:=HA.out
   clear HA
   simp only[spec_DrawStockMay.j0] at H
   have HC39:=Aside0.mk H
   clear H
   go_upto_block 0 with(fail)
   go_cut [] (fun wc=>∃(kq:Nat) (x626001_38:Int) (x640001_38:Int),Aside0 (spec_DrawStockMay.j2 kq t623 x626001_38 t626 t627 (wrap64 (1+t632)) x640001_38 x640002_5=some (r1,r2,r3,r4,r5))∧Aside0 (kq≤kj5)∧Aside0 (Kd.Q k49 49 wc w.heap.size (fun k_=>(w.heap.size≤k_)) (.slice Ao16 t627.length co16) t627)∧Aside0 (Kd.R (Kd.int .i64) 3 wc w.heap.size (fun k_=>(w.heap.size≤k_)) u640002 x640002_5)∧Aside0 (wc.heap[gb621]?=some (.cells #[.int .i64 0,(.slice none 0 0)] 38 (0,0)))∧Aside0 (wc.heap[gb622]?=some (.cells #[.int .i64 0,.int .i64 0,(.slice none 0 0)] 32 (0,0)))∧Aside0 (wc.heap[gb631]?=some (.cells #[.int .i64 t626,(.slice Ao16 t627.length co16)] 38 (0,0)))∧Aside0 (wc.heap[gb639]?=some (.cells #[.int .i64 (wrap64 (1+t632)),.int .i64 x640001_38,u640002] 32 (0,0)))∧Aside0 (IsS107 w wc g625 t623 x626001_38)∧Aside0 (Below w.heap.size w wc))
   case first=>
    have H:=HC39.out
    clear HC39
    have H':=Aside0.mk H
    clear H
    go_wp2
    go_loopg [7] kj5 (fun kq v7 w'=>∃(x7_2:Int) (x626001_2:Int) (x640001_2:Int),v7=.int .i64 x7_2∧Aside0 (spec_DrawStockMay.l0 kq x7_2 t623 x626001_2 t626 t627 (wrap64 (1+t632)) x640001_2 x640002_5=some (r1,r2,r3,r4,r5))∧Aside0 (kq≤kj5)∧Aside0 (Kd.Q k49 49 w' w.heap.size (fun k_=>(w.heap.size≤k_)) (.slice Ao16 t627.length co16) t627)∧Aside0 (Kd.R (Kd.int .i64) 3 w' w.heap.size (fun k_=>(w.heap.size≤k_)) u640002 x640002_5)∧Aside0 (w'.heap[gb621]?=some (.cells #[.int .i64 0,(.slice none 0 0)] 38 (0,0)))∧Aside0 (w'.heap[gb622]?=some (.cells #[.int .i64 0,.int .i64 0,(.slice none 0 0)] 32 (0,0)))∧Aside0 (w'.heap[gb631]?=some (.cells #[.int .i64 t626,(.slice Ao16 t627.length co16)] 38 (0,0)))∧Aside0 (w'.heap[gb639]?=some (.cells #[.int .i64 (wrap64 (1+t632)),.int .i64 x640001_2,u640002] 32 (0,0)))∧Aside0 (IsS107 w w' g625 t623 x626001_2)∧Aside0 (Below w.heap.size w w'))
    case atStart=>exact⟨(0),(x626001_5),((wrap64 (1+t634))),(za43),H',⟨Nat.le_refl _⟩,⟨za10 HO_632001⟩,⟨za5 HO_640002⟩,⟨za24 BK621⟩,⟨za24 BK622⟩,⟨za24 BK631⟩,⟨za24 BK639⟩,⟨zb53_ockMay HI625 NB625_621 NB625_622 NB625_631 NB625_639⟩,⟨zb31_ockMay HB HI625 GE621 GE622 GE631 GE639⟩⟩
    case round=>
     clear H'
     try clear c1
     try clear c2
     try clear p2
     try clear c3
     try clear c4
     try clear c5
     try clear p6
     try clear c9
     try clear c12
     try clear c13
     try clear c14
     try clear c23
     try clear c24
     try clear c25
     try clear c26
     try clear c28
     try clear c28b0
     try clear c28b1
     try clear c34
     try clear c35
     try clear c36
     try clear c37
     try clear hcz15_0
     try clear hcz15_1
     try clear hcz27_0
     try clear hcz27_1
     try clear hcz27_2
     try clear hcz38_0
     try clear hcz38_1
     try clear hcz38_2
     try clear hfz15_0
     try clear hfz15_1
     try clear hfz27_0
     try clear hfz27_1
     try clear hfz27_2
     try clear hfz38_0
     try clear hfz38_1
     try clear hfz38_2
     try clear p2
     try clear p6
     obtain⟨x7_2,x626001_2,x640001_2,rfl,HA,HK2,HO_632001,HO_640002,BK621,BK622,BK631,BK639,HI625,HB⟩:=hrel
     cases gk with
     |zero=>exact absurd HA.out (by simp[spec_DrawStockMay.l0])
     |succ k2=>
      have H:=HA.out
      clear HA
      simp only[spec_DrawStockMay.l0] at H
      by_cases c40:x7_2<6
      ·rw[if_pos c40] at H
       have c40b0:decide (x7_2<6)=true:=decide_eq_true c40
       clear c40
       (first|rw[c40b0]|(simp only[qaf,qag];rw[c40b0])|skip)
       replace H:=Option.bind_eq_some_iff.mp H
       obtain⟨⟨t645,t646⟩,A410,H⟩:=H
       replace H:(if t645>0 then((spec_StockMay.f k2 t626 t627 (wrap64 (1+t632)) x640001_2 x640002_5).bind fun t647=>(if t647=true then(spec_DrawStockMay.j2 k2 t623 t646 t626 t627 (wrap64 (1+t632)) x640001_2 x640002_5) else((spec_l6Rd_pick.f k2 t623 t646 6).bind fun bt648=>(spec_DrawStockMay.l0 k2 (wrap64 (x7_2+1)) t623 bt648.2 t626 t627 (wrap64 (1+t632)) (wrap64 (1+bt648.1)) x640002_5)))) else(spec_DrawStockMay.j2 k2 t623 t646 t626 t627 (wrap64 (1+t632)) x640001_2 x640002_5))=some (r1,r2,r3,r4,r5):=H
       have A41:=Aside0.mk A410
       clear A410
       by_cases c42:t645>0
       ·rw[if_pos c42] at H
        have c42b0:decide (0<t645)=true:=decide_eq_true c42
        clear c42
        replace H:=Option.bind_eq_some_iff.mp H
        obtain⟨t647,A430,H⟩:=H
        replace H:(if t647=true then(spec_DrawStockMay.j2 k2 t623 t646 t626 t627 (wrap64 (1+t632)) x640001_2 x640002_5) else((spec_l6Rd_pick.f k2 t623 t646 6).bind fun bt648=>(spec_DrawStockMay.l0 k2 (wrap64 (x7_2+1)) t623 bt648.2 t626 t627 (wrap64 (1+t632)) (wrap64 (1+bt648.1)) x640002_5)))=some (r1,r2,r3,r4,r5):=H
        have A43:=Aside0.mk A430
        clear A430
        by_cases c44:t647=true
        ·subst c44
         have H1:(spec_DrawStockMay.j2 k2 t623 t646 t626 t627 (wrap64 (1+t632)) x640001_2 x640002_5)=some (r1,r2,r3,r4,r5):=by rw[if_pos rfl] at H;exact H
         clear H
         have H:=H1
         clear H1
         have H':=Aside0.mk H
         clear H
         go_wp2_with(first|(go_at_call 48;(with_reducible refine(spec_l6Rd_pick.calls k2 g625 t623 x626001_2 8 t645 t646 w _ ?side1 ?side2 A41.out).mono ?_);(case side1=>repeat(first|(with_reducible first|exact HI625.out|apply IsS107.alloc|apply IsS107.drewN|apply IsS107.drew|apply IsS107.set_1|refine IsS107.far ?_ NB625_621.out _|refine IsS107.far ?_ NB625_622.out _|refine IsS107.far ?_ NB625_631.out _|refine IsS107.far ?_ NB625_639.out _)|exact HI625.out));(case side2=>exact(zb31_ockMay HB HI625 GE621 GE622 GE631 GE639));rintro e w45 ⟨rfl,hi,hb,hk⟩;replace HO_632001:=Aside0.mk (Kd.Q_mono (Kd.Q_keep (IsS107.apartQ (show IsS107 w _ g625 t623 x626001_2 from by repeat(first|(with_reducible first|exact HI625.out|apply IsS107.alloc|apply IsS107.drewN|apply IsS107.drew|apply IsS107.set_1|refine IsS107.far ?_ NB625_621.out _|refine IsS107.far ?_ NB625_622.out _|refine IsS107.far ?_ NB625_631.out _|refine IsS107.far ?_ NB625_639.out _)|exact HI625.out)) (za10 HO_632001) (by decide)) hk (fun _ h=>h.2)) (fun _ h=>h.1));replace HO_640002:=Aside0.mk (Kd.R_mono (Kd.R_keep (IsS107.apart (show IsS107 w _ g625 t623 x626001_2 from by repeat(first|(with_reducible first|exact HI625.out|apply IsS107.alloc|apply IsS107.drewN|apply IsS107.drew|apply IsS107.set_1|refine IsS107.far ?_ NB625_621.out _|refine IsS107.far ?_ NB625_622.out _|refine IsS107.far ?_ NB625_631.out _|refine IsS107.far ?_ NB625_639.out _)|exact HI625.out)) (za5 HO_640002) (by decide)) hk (fun _ h=>h.2)) (fun _ h=>h.1));replace BK621:=Aside0.mk (KeepBut.blk hk (zB BK621) NB621_625.out (by simp));replace BK622:=Aside0.mk (KeepBut.blk hk (zB BK622) NB622_625.out (by simp));replace BK631:=Aside0.mk (KeepBut.blk hk (zB BK631) NB631_625.out (by simp));replace BK639:=Aside0.mk (KeepBut.blk hk (zB BK639) NB639_625.out (by simp));replace HB:=Aside0.mk hb;replace HI625:=Aside0.mk hi;(try clear hb);(try clear hk);(try clear hi);have hnb46:=NB631_621.out;have hnc46:=NB621_631.out;have hnb47:=NB631_622.out;have hnc47:=NB622_631.out;have hnb48:=NB631_639.out;have hnc48:=NB639_631.out;have hnb49:=NB631_625.out;have hnc49:=NB625_631.out;obtain⟨hcz50_0,hcz50_1,hfz50_0,hfz50_1⟩:=zC2 BK631;have hnb51:=NB639_621.out;have hnc51:=NB621_639.out;have hnb52:=NB639_622.out;have hnc52:=NB622_639.out;have hnb53:=NB639_625.out;have hnc53:=NB625_639.out;obtain⟨hcz54_0,hcz54_1,hcz54_2,hfz54_0,hfz54_1,hfz54_2⟩:=zC3 BK639;obtain⟨Ao55,co55,eo55⟩:=Kd.R_slice HO_640002.out;subst eo55)|(go_at_call 60;(with_reducible refine(spec_StockMay.calls k2 t626 _ _ t627 (wrap64 (1+t632)) x640001_2 _ _ x640002_5 true _ ?side1 ?side2 ?side3 ?side4 A43.out).mono ?_);(case side1=>repeat(first|exact(Kd.Q_reads' HO_632001.out).2.2|(with_reducible refine Kd.C_alloc ?_ _)|(with_reducible refine Kd.C_drewN ?_ _)|(with_reducible refine Kd.C_drew ?_)));(case side2=>exact(Kd.Q_reads' HO_632001.out).2.1);(case side3=>repeat(first|exact(Kd.R_reads' HO_640002.out).2.2|(with_reducible refine Kd.C_alloc ?_ _)|(with_reducible refine Kd.C_drewN ?_ _)|(with_reducible refine Kd.C_drew ?_)));(case side4=>exact(Kd.R_reads' HO_640002.out).2.1);rintro e w56 ⟨rfl,hb⟩;replace HO_632001:=Aside0.mk (Kd.Q_below (za10 HO_632001) hb);replace HO_640002:=Aside0.mk (Kd.R_below (za5 HO_640002) hb);replace BK621:=Aside0.mk (qaa (zB BK621) hb);replace BK622:=Aside0.mk (qaa (zB BK622) hb);replace BK631:=Aside0.mk (qaa (zB BK631) hb);replace BK639:=Aside0.mk (qaa (zB BK639) hb);replace HB:=Aside0.mk (qab (zb31_ockMay HB HI625 GE621 GE622 GE631 GE639) hb);replace HI625:=Aside0.mk (IsS107.below (zb53_ockMay HI625 NB625_621 NB625_622 NB625_631 NB625_639) hb);(try clear hb);(try clear hk);(try clear hi)))
         go_meet
         case rel=>exact⟨_,(t646),(x640001_2),H',⟨za61 HJ5 HK2⟩,⟨za10 HO_632001⟩,⟨za5 HO_640002⟩,⟨za24 BK621⟩,⟨za24 BK622⟩,⟨za24 BK631⟩,⟨za24 BK639⟩,⟨zb53_ockMay HI625 NB625_621 NB625_622 NB625_631 NB625_639⟩,⟨zb31_ockMay HB HI625 GE621 GE622 GE631 GE639⟩⟩
        ·replace c44:=Bool.eq_false_iff.mpr c44
         subst c44
         have H1:((spec_l6Rd_pick.f k2 t623 t646 6).bind fun bt648=>(spec_DrawStockMay.l0 k2 (wrap64 (x7_2+1)) t623 bt648.2 t626 t627 (wrap64 (1+t632)) (wrap64 (1+bt648.1)) x640002_5))=some (r1,r2,r3,r4,r5):=by rw[if_neg (show ¬(false=true) by decide)] at H;exact H
         clear H
         have H:=H1
         clear H1
         replace H:=Option.bind_eq_some_iff.mp H
         obtain⟨⟨t648,t649⟩,A570,H⟩:=H
         replace H:(spec_DrawStockMay.l0 k2 (wrap64 (x7_2+1)) t623 t649 t626 t627 (wrap64 (1+t632)) (wrap64 (1+t648)) x640002_5)=some (r1,r2,r3,r4,r5):=H
         have A57:=Aside0.mk A570
         clear A570
         have H':=Aside0.mk H
         clear H
         go_wp2_with(first|(go_at_call 48;(with_reducible refine(spec_l6Rd_pick.calls k2 g625 t623 x626001_2 8 t645 t646 w _ ?side1 ?side2 A41.out).mono ?_);(case side1=>repeat(first|(with_reducible first|exact HI625.out|apply IsS107.alloc|apply IsS107.drewN|apply IsS107.drew|apply IsS107.set_1|refine IsS107.far ?_ NB625_621.out _|refine IsS107.far ?_ NB625_622.out _|refine IsS107.far ?_ NB625_631.out _|refine IsS107.far ?_ NB625_639.out _)|exact HI625.out));(case side2=>exact(zb31_ockMay HB HI625 GE621 GE622 GE631 GE639));rintro e w58 ⟨rfl,hi,hb,hk⟩;replace HO_632001:=Aside0.mk (Kd.Q_mono (Kd.Q_keep (IsS107.apartQ (show IsS107 w _ g625 t623 x626001_2 from by repeat(first|(with_reducible first|exact HI625.out|apply IsS107.alloc|apply IsS107.drewN|apply IsS107.drew|apply IsS107.set_1|refine IsS107.far ?_ NB625_621.out _|refine IsS107.far ?_ NB625_622.out _|refine IsS107.far ?_ NB625_631.out _|refine IsS107.far ?_ NB625_639.out _)|exact HI625.out)) (za10 HO_632001) (by decide)) hk (fun _ h=>h.2)) (fun _ h=>h.1));replace HO_640002:=Aside0.mk (Kd.R_mono (Kd.R_keep (IsS107.apart (show IsS107 w _ g625 t623 x626001_2 from by repeat(first|(with_reducible first|exact HI625.out|apply IsS107.alloc|apply IsS107.drewN|apply IsS107.drew|apply IsS107.set_1|refine IsS107.far ?_ NB625_621.out _|refine IsS107.far ?_ NB625_622.out _|refine IsS107.far ?_ NB625_631.out _|refine IsS107.far ?_ NB625_639.out _)|exact HI625.out)) (za5 HO_640002) (by decide)) hk (fun _ h=>h.2)) (fun _ h=>h.1));replace BK621:=Aside0.mk (KeepBut.blk hk (zB BK621) NB621_625.out (by simp));replace BK622:=Aside0.mk (KeepBut.blk hk (zB BK622) NB622_625.out (by simp));replace BK631:=Aside0.mk (KeepBut.blk hk (zB BK631) NB631_625.out (by simp));replace BK639:=Aside0.mk (KeepBut.blk hk (zB BK639) NB639_625.out (by simp));replace HB:=Aside0.mk hb;replace HI625:=Aside0.mk hi;(try clear hb);(try clear hk);(try clear hi);have hnb59:=NB631_621.out;have hnc59:=NB621_631.out;have hnb60:=NB631_622.out;have hnc60:=NB622_631.out;have hnb61:=NB631_639.out;have hnc61:=NB639_631.out;have hnb62:=NB631_625.out;have hnc62:=NB625_631.out;obtain⟨hcz63_0,hcz63_1,hfz63_0,hfz63_1⟩:=zC2 BK631;have hnb64:=NB639_621.out;have hnc64:=NB621_639.out;have hnb65:=NB639_622.out;have hnc65:=NB622_639.out;have hnb66:=NB639_625.out;have hnc66:=NB625_639.out;obtain⟨hcz67_0,hcz67_1,hcz67_2,hfz67_0,hfz67_1,hfz67_2⟩:=zC3 BK639;obtain⟨Ao68,co68,eo68⟩:=Kd.R_slice HO_640002.out;subst eo68)|(go_at_call 60;(with_reducible refine(spec_StockMay.calls k2 t626 _ _ t627 (wrap64 (1+t632)) x640001_2 _ _ x640002_5 false _ ?side1 ?side2 ?side3 ?side4 A43.out).mono ?_);(case side1=>repeat(first|exact(Kd.Q_reads' HO_632001.out).2.2|(with_reducible refine Kd.C_alloc ?_ _)|(with_reducible refine Kd.C_drewN ?_ _)|(with_reducible refine Kd.C_drew ?_)));(case side2=>exact(Kd.Q_reads' HO_632001.out).2.1);(case side3=>repeat(first|exact(Kd.R_reads' HO_640002.out).2.2|(with_reducible refine Kd.C_alloc ?_ _)|(with_reducible refine Kd.C_drewN ?_ _)|(with_reducible refine Kd.C_drew ?_)));(case side4=>exact(Kd.R_reads' HO_640002.out).2.1);rintro e w69 ⟨rfl,hb⟩;replace HO_632001:=Aside0.mk (Kd.Q_below (za10 HO_632001) hb);replace HO_640002:=Aside0.mk (Kd.R_below (za5 HO_640002) hb);replace BK621:=Aside0.mk (qaa (zB BK621) hb);replace BK622:=Aside0.mk (qaa (zB BK622) hb);replace BK631:=Aside0.mk (qaa (zB BK631) hb);replace BK639:=Aside0.mk (qaa (zB BK639) hb);replace HB:=Aside0.mk (qab (zb31_ockMay HB HI625 GE621 GE622 GE631 GE639) hb);replace HI625:=Aside0.mk (IsS107.below (zb53_ockMay HI625 NB625_621 NB625_622 NB625_631 NB625_639) hb);(try clear hb);(try clear hk);(try clear hi))|((with_reducible refine qac (f:=48) rfl ?_);refine zF (some 44) Try.func48 #[.pointer (some ⟨g625,0,none⟩),.int .i64 6] ?_;(with_reducible refine(spec_l6Rd_pick.calls k2 g625 t623 t646 6 t648 t649 w _ ?side1 ?side2 A57.out).mono ?_);(case side1=>repeat(first|(with_reducible first|exact HI625.out|apply IsS107.alloc|apply IsS107.drewN|apply IsS107.drew|apply IsS107.set_1|refine IsS107.far ?_ NB625_621.out _|refine IsS107.far ?_ NB625_622.out _|refine IsS107.far ?_ NB625_631.out _|refine IsS107.far ?_ NB625_639.out _)|exact HI625.out));(case side2=>exact(zb31_ockMay HB HI625 GE621 GE622 GE631 GE639));rintro e w70 ⟨rfl,hi,hb,hk⟩;refine⟨_,rfl,?_⟩;replace HO_632001:=Aside0.mk (Kd.Q_mono (Kd.Q_keep (IsS107.apartQ (show IsS107 w _ g625 t623 t646 from by repeat(first|(with_reducible first|exact HI625.out|apply IsS107.alloc|apply IsS107.drewN|apply IsS107.drew|apply IsS107.set_1|refine IsS107.far ?_ NB625_621.out _|refine IsS107.far ?_ NB625_622.out _|refine IsS107.far ?_ NB625_631.out _|refine IsS107.far ?_ NB625_639.out _)|exact HI625.out)) (za10 HO_632001) (by decide)) hk (fun _ h=>h.2)) (fun _ h=>h.1));replace HO_640002:=Aside0.mk (Kd.R_mono (Kd.R_keep (IsS107.apart (show IsS107 w _ g625 t623 t646 from by repeat(first|(with_reducible first|exact HI625.out|apply IsS107.alloc|apply IsS107.drewN|apply IsS107.drew|apply IsS107.set_1|refine IsS107.far ?_ NB625_621.out _|refine IsS107.far ?_ NB625_622.out _|refine IsS107.far ?_ NB625_631.out _|refine IsS107.far ?_ NB625_639.out _)|exact HI625.out)) (za5 HO_640002) (by decide)) hk (fun _ h=>h.2)) (fun _ h=>h.1));replace BK621:=Aside0.mk (KeepBut.blk hk (zB BK621) NB621_625.out (by simp));replace BK622:=Aside0.mk (KeepBut.blk hk (zB BK622) NB622_625.out (by simp));replace BK631:=Aside0.mk (KeepBut.blk hk (zB BK631) NB631_625.out (by simp));replace BK639:=Aside0.mk (KeepBut.blk hk (zB BK639) NB639_625.out (by simp));replace HB:=Aside0.mk hb;replace HI625:=Aside0.mk hi;(try clear hb);(try clear hk);(try clear hi);obtain⟨hcz71_0,hcz71_1,hcz71_2,hfz71_0,hfz71_1,hfz71_2⟩:=zC3 BK639))
         go_roundg k2
         case measure=>have:=HJ5.out;have:=HK2.out;omega
         case rel=>exact⟨(wrap64 (x7_2+1)),(t649),(wrap64 (1+t648)),(za43),H',⟨by have:=HJ5.out;have:=HK2.out;omega⟩,⟨by(with_reducible repeat(first|apply Kd.Q_alloc|apply Kd.Q_drewN|apply Kd.Q_drew));exact Kd.Q_mono (Kd.Q_far (p:=⟨gb639,1,none⟩) (Kd.Q_types HO_632001.out BK639.out (by decide)) (fun _ hk=>hk.2) (.int .i64 (wrap64 (1+t648)))) (fun _ hk=>hk.1)⟩,⟨by(with_reducible repeat(first|apply Kd.R_alloc|apply Kd.R_drewN|apply Kd.R_drew));exact Kd.R_mono (Kd.R_far (p:=⟨gb639,1,none⟩) (Kd.R_types HO_640002.out BK639.out (by decide)) (fun _ hk=>hk.2) (.int .i64 (wrap64 (1+t648)))) (fun _ hk=>hk.1)⟩,⟨za45 NB621_639 BK621⟩,⟨za45 NB622_639 BK622⟩,⟨za45 NB631_639 BK631⟩,⟨by(with_reducible repeat(first|refine blk_drewN ?_ _|refine blk_drew ?_|refine blk_alloc ?_ _));refine qad (cs:=#[.int .i64 (wrap64 (1+t632)),.int .i64 x640001_2,.slice Ao68 x640002_5.length co68]) ?_ 1 _ rfl;(with_reducible repeat(first|refine blk_drewN ?_ _|refine blk_drew ?_|refine blk_alloc ?_ _));exact BK639.out⟩,⟨zb53_ockMay HI625 NB625_621 NB625_622 NB625_631 NB625_639⟩,⟨zb31_ockMay HB HI625 GE621 GE622 GE631 GE639⟩⟩
       ·rw[if_neg c42] at H
        have c42b0:decide (0<t645)=false:=decide_eq_false c42
        clear c42
        have H':=Aside0.mk H
        clear H
        go_wp2_with(first|(go_at_call 48;(with_reducible refine(spec_l6Rd_pick.calls k2 g625 t623 x626001_2 8 t645 t646 w _ ?side1 ?side2 A41.out).mono ?_);(case side1=>repeat(first|(with_reducible first|exact HI625.out|apply IsS107.alloc|apply IsS107.drewN|apply IsS107.drew|apply IsS107.set_1|refine IsS107.far ?_ NB625_621.out _|refine IsS107.far ?_ NB625_622.out _|refine IsS107.far ?_ NB625_631.out _|refine IsS107.far ?_ NB625_639.out _)|exact HI625.out));(case side2=>exact(zb31_ockMay HB HI625 GE621 GE622 GE631 GE639));rintro e w72 ⟨rfl,hi,hb,hk⟩;replace HO_632001:=Aside0.mk (Kd.Q_mono (Kd.Q_keep (IsS107.apartQ (show IsS107 w _ g625 t623 x626001_2 from by repeat(first|(with_reducible first|exact HI625.out|apply IsS107.alloc|apply IsS107.drewN|apply IsS107.drew|apply IsS107.set_1|refine IsS107.far ?_ NB625_621.out _|refine IsS107.far ?_ NB625_622.out _|refine IsS107.far ?_ NB625_631.out _|refine IsS107.far ?_ NB625_639.out _)|exact HI625.out)) (za10 HO_632001) (by decide)) hk (fun _ h=>h.2)) (fun _ h=>h.1));replace HO_640002:=Aside0.mk (Kd.R_mono (Kd.R_keep (IsS107.apart (show IsS107 w _ g625 t623 x626001_2 from by repeat(first|(with_reducible first|exact HI625.out|apply IsS107.alloc|apply IsS107.drewN|apply IsS107.drew|apply IsS107.set_1|refine IsS107.far ?_ NB625_621.out _|refine IsS107.far ?_ NB625_622.out _|refine IsS107.far ?_ NB625_631.out _|refine IsS107.far ?_ NB625_639.out _)|exact HI625.out)) (za5 HO_640002) (by decide)) hk (fun _ h=>h.2)) (fun _ h=>h.1));replace BK621:=Aside0.mk (KeepBut.blk hk (zB BK621) NB621_625.out (by simp));replace BK622:=Aside0.mk (KeepBut.blk hk (zB BK622) NB622_625.out (by simp));replace BK631:=Aside0.mk (KeepBut.blk hk (zB BK631) NB631_625.out (by simp));replace BK639:=Aside0.mk (KeepBut.blk hk (zB BK639) NB639_625.out (by simp));replace HB:=Aside0.mk hb;replace HI625:=Aside0.mk hi;(try clear hb);(try clear hk);(try clear hi)))
        go_meet
        case rel=>exact⟨_,(t646),(x640001_2),H',⟨za61 HJ5 HK2⟩,⟨za10 HO_632001⟩,⟨za5 HO_640002⟩,⟨za24 BK621⟩,⟨za24 BK622⟩,⟨za24 BK631⟩,⟨za24 BK639⟩,⟨zb53_ockMay HI625 NB625_621 NB625_622 NB625_631 NB625_639⟩,⟨zb31_ockMay HB HI625 GE621 GE622 GE631 GE639⟩⟩
      ·rw[if_neg c40] at H
       have c40b0:decide (x7_2<6)=false:=decide_eq_false c40
       clear c40
       (first|rw[c40b0]|(simp only[qaf,qag];rw[c40b0])|skip)
       have H':=Aside0.mk H
       clear H
       go_wp2
       go_meet
       case rel=>exact⟨_,(x626001_2),(x640001_2),H',⟨za61 HJ5 HK2⟩,⟨za10 HO_632001⟩,⟨za5 HO_640002⟩,⟨za24 BK621⟩,⟨za24 BK622⟩,⟨za24 BK631⟩,⟨za24 BK639⟩,⟨zb53_ockMay HI625 NB625_621 NB625_622 NB625_631 NB625_639⟩,⟨zb31_ockMay HB HI625 GE621 GE622 GE631 GE639⟩⟩
   case rest=>
    clear HC39
    try clear c1
    try clear c2
    try clear p2
    try clear c3
    try clear c4
    try clear c5
    try clear c6
    try clear p6
    try clear c9
    try clear c12
    try clear c13
    try clear c14
    try clear c23
    try clear c24
    try clear c25
    try clear c26
    try clear c28
    try clear c28b0
    try clear c28b1
    try clear c34
    try clear c35
    try clear c36
    try clear c37
    try clear c40
    try clear c40b0
    try clear c42
    try clear c42b0
    try clear c44
    try clear c46
    try clear c47
    try clear c48
    try clear c49
    try clear c51
    try clear c52
    try clear c53
    try clear c59
    try clear c60
    try clear c61
    try clear c62
    try clear c64
    try clear p64
    try clear c65
    try clear c66
    try clear hcz15_0
    try clear hcz15_1
    try clear hcz27_0
    try clear hcz27_1
    try clear hcz27_2
    try clear hcz38_0
    try clear hcz38_1
    try clear hcz38_2
    try clear hcz50_0
    try clear hcz50_1
    try clear hcz54_0
    try clear hcz54_1
    try clear hcz54_2
    try clear hcz63_0
    try clear hcz63_1
    try clear hcz67_0
    try clear hcz67_1
    try clear hcz67_2
    try clear hcz71_0
    try clear hcz71_1
    try clear hcz71_2
    try clear hfz15_0
    try clear hfz15_1
    try clear hfz27_0
    try clear hfz27_1
    try clear hfz27_2
    try clear hfz38_0
    try clear hfz38_1
    try clear hfz38_2
    try clear hfz50_0
    try clear hfz50_1
    try clear hfz54_0
    try clear hfz54_1
    try clear hfz54_2
    try clear hfz63_0
    try clear hfz63_1
    try clear hfz67_0
    try clear hfz67_1
    try clear hfz67_2
    try clear hfz71_0
    try clear hfz71_1
    try clear hfz71_2
    try clear p2
    try clear p6
    obtain⟨kq,x626001_38,x640001_38,HA,HJ38,HO_632001,HO_640002,BK621,BK622,BK631,BK639,HI625,HB⟩:=hcut
    cases kq with
    |zero=>exact absurd HA.out (by simp[spec_DrawStockMay.j2])
    |succ kj38=>
     have H:=HA.out
     clear HA
     simp only[spec_DrawStockMay.j2] at H
     replace H:=Option.bind_eq_some_iff.mp H
     obtain⟨⟨t650,t651⟩,A730,H⟩:=H
     replace H:(if t650=0 then((spec_l71RecV.f kj38 t623 t651).bind fun bt652=>(some (t626,t627,bt652.1,bt652.2.1,bt652.2.2.1))) else(some (t626,t627,(wrap64 (1+t632)),x640001_38,x640002_5)))=some (r1,r2,r3,r4,r5):=H
     have A73:=Aside0.mk A730
     clear A730
     by_cases c74:t650=0
     ·rw[if_pos c74] at H
      have c74b0:(t650 == 0)=true:=beq_iff_eq.mpr c74
      have c74b1:(t650 != 0)=false:=bne_eq_false_iff_eq.mpr c74
      clear c74
      replace H:=Option.bind_eq_some_iff.mp H
      obtain⟨⟨t652,t653,t654,t657⟩,A750,H⟩:=H
      replace H:(some (t626,t627,t652,t653,t654))=some (r1,r2,r3,r4,r5):=H
      have A75:=Aside0.mk A750
      clear A750
      simp only[Option.some.injEq,Prod.mk.injEq] at H
      obtain⟨rfl,rfl,rfl,rfl,rfl⟩:=H
      try go_wp2_with(first|((with_reducible refine qac (f:=48) rfl ?_);refine zF (some 48) Try.func48 #[.pointer (some ⟨g625,0,none⟩),.int .i64 12] ?_;(with_reducible refine(spec_l6Rd_pick.calls kj38 g625 t623 x626001_38 12 t650 t651 w _ ?side1 ?side2 A73.out).mono ?_);(case side1=>repeat(first|(with_reducible first|exact HI625.out|apply IsS107.alloc|apply IsS107.drewN|apply IsS107.drew|apply IsS107.set_1|refine IsS107.far ?_ NB625_621.out _|refine IsS107.far ?_ NB625_622.out _|refine IsS107.far ?_ NB625_631.out _|refine IsS107.far ?_ NB625_639.out _)|exact HI625.out));(case side2=>exact(zb31_ockMay HB HI625 GE621 GE622 GE631 GE639));rintro e w76 ⟨rfl,hi,hb,hk⟩;refine⟨_,rfl,?_⟩;replace HO_632001:=Aside0.mk (Kd.Q_mono (Kd.Q_keep (IsS107.apartQ (show IsS107 w _ g625 t623 x626001_38 from by repeat(first|(with_reducible first|exact HI625.out|apply IsS107.alloc|apply IsS107.drewN|apply IsS107.drew|apply IsS107.set_1|refine IsS107.far ?_ NB625_621.out _|refine IsS107.far ?_ NB625_622.out _|refine IsS107.far ?_ NB625_631.out _|refine IsS107.far ?_ NB625_639.out _)|exact HI625.out)) (za10 HO_632001) (by decide)) hk (fun _ h=>h.2)) (fun _ h=>h.1));replace HO_640002:=Aside0.mk (Kd.R_mono (Kd.R_keep (IsS107.apart (show IsS107 w _ g625 t623 x626001_38 from by repeat(first|(with_reducible first|exact HI625.out|apply IsS107.alloc|apply IsS107.drewN|apply IsS107.drew|apply IsS107.set_1|refine IsS107.far ?_ NB625_621.out _|refine IsS107.far ?_ NB625_622.out _|refine IsS107.far ?_ NB625_631.out _|refine IsS107.far ?_ NB625_639.out _)|exact HI625.out)) (za5 HO_640002) (by decide)) hk (fun _ h=>h.2)) (fun _ h=>h.1));replace BK621:=Aside0.mk (KeepBut.blk hk (zB BK621) NB621_625.out (by simp));replace BK622:=Aside0.mk (KeepBut.blk hk (zB BK622) NB622_625.out (by simp));replace BK631:=Aside0.mk (KeepBut.blk hk (zB BK631) NB631_625.out (by simp));replace BK639:=Aside0.mk (KeepBut.blk hk (zB BK639) NB639_625.out (by simp));replace HB:=Aside0.mk hb;replace HI625:=Aside0.mk hi;(try clear hb);(try clear hk);(try clear hi))|((with_reducible refine qac (f:=49) rfl ?_);refine zF (some 51) Try.func49 #[.pointer (some ⟨g625,0,none⟩)] ?_;(with_reducible refine(spec_l71RecV.calls kj38 g625 t623 t651 t652 t653 t654 t657 w _ ?side1 ?side2 A75.out).mono ?_);(case side1=>repeat(first|(with_reducible first|exact HI625.out|apply IsS107.alloc|apply IsS107.drewN|apply IsS107.drew|apply IsS107.set_1|refine IsS107.far ?_ NB625_621.out _|refine IsS107.far ?_ NB625_622.out _|refine IsS107.far ?_ NB625_631.out _|refine IsS107.far ?_ NB625_639.out _)|exact HI625.out));(case side2=>exact(zb31_ockMay HB HI625 GE621 GE622 GE631 GE639));rintro e w77 ⟨v655,rfl,ho0,hi,hb,hk⟩;refine⟨_,rfl,?_⟩;have HO656:=Aside0.mk (Kd.V_lower (Kd.V_mono (ok':=fun k_=>(w.heap.size≤k_)∧some k_≠(.slice Ao16 t627.length co16:Value).ownBlock∧some k_≠(u640002:Value).ownBlock∧k_≠gb621∧k_≠gb622∧k_≠gb631∧k_≠gb639∧k_≠g625) ho0 (fun k_ hk_=>⟨(Nat.le_trans (below_size (zb31_ockMay HB HI625 GE621 GE622 GE631 GE639)) hk_),(Kd.fresh' (Kd.Q_lt (za10 HO_632001)) k_ hk_),(Kd.fresh' (Kd.R_lt (za5 HO_640002)) k_ hk_),(Kd.freshB (zB BK621) k_ hk_),(Kd.freshB (zB BK622) k_ hk_),(Kd.freshB (zB BK631) k_ hk_),(Kd.freshB (zB BK639) k_ hk_),(IsS107.fresh (zb53_ockMay HI625 NB625_621 NB625_622 NB625_631 NB625_639) k_ hk_)⟩)) (below_size (zb31_ockMay HB HI625 GE621 GE622 GE631 GE639)));replace HO_632001:=Aside0.mk (Kd.Q_mono (Kd.Q_keep (IsS107.apartQ (show IsS107 w _ g625 t623 t651 from by repeat(first|(with_reducible first|exact HI625.out|apply IsS107.alloc|apply IsS107.drewN|apply IsS107.drew|apply IsS107.set_1|refine IsS107.far ?_ NB625_621.out _|refine IsS107.far ?_ NB625_622.out _|refine IsS107.far ?_ NB625_631.out _|refine IsS107.far ?_ NB625_639.out _)|exact HI625.out)) (za10 HO_632001) (by decide)) hk (fun _ h=>h.2)) (fun _ h=>h.1));replace HO_640002:=Aside0.mk (Kd.R_mono (Kd.R_keep (IsS107.apart (show IsS107 w _ g625 t623 t651 from by repeat(first|(with_reducible first|exact HI625.out|apply IsS107.alloc|apply IsS107.drewN|apply IsS107.drew|apply IsS107.set_1|refine IsS107.far ?_ NB625_621.out _|refine IsS107.far ?_ NB625_622.out _|refine IsS107.far ?_ NB625_631.out _|refine IsS107.far ?_ NB625_639.out _)|exact HI625.out)) (za5 HO_640002) (by decide)) hk (fun _ h=>h.2)) (fun _ h=>h.1));replace BK621:=Aside0.mk (KeepBut.blk hk (zB BK621) NB621_625.out (by simp));replace BK622:=Aside0.mk (KeepBut.blk hk (zB BK622) NB622_625.out (by simp));replace BK631:=Aside0.mk (KeepBut.blk hk (zB BK631) NB631_625.out (by simp));replace BK639:=Aside0.mk (KeepBut.blk hk (zB BK639) NB639_625.out (by simp));replace HB:=Aside0.mk hb;replace HI625:=Aside0.mk hi;(try clear hb);(try clear hk);(try clear hi);(try clear ho0);have hnb78:=NB639_621.out;have hnc78:=NB621_639.out;have hnb79:=NB639_622.out;have hnc79:=NB622_639.out;have hnb80:=NB639_631.out;have hnc80:=NB631_639.out;have hnb81:=NB639_625.out;have hnc81:=NB625_639.out;obtain⟨hcz82_0,hcz82_1,hcz82_2,hfz82_0,hfz82_1,hfz82_2⟩:=zC3 BK639;obtain⟨Ao83,co83,eo83⟩:=Kd.V_slice HO656.out;subst eo83))
      have n0_:Aside0 (Kd.Q k49 49 (((w77.setCell ⟨gb639,0,none⟩ (.int .i64 t652)).setCell ⟨gb639,1,none⟩ (.int .i64 t653)).setCell ⟨gb639,2,none⟩ (.slice Ao83 t654.length co83)) w.heap.size (fun k_=>(w.heap.size≤k_)) (.slice Ao16 t627.length co16) t627):=⟨by(with_reducible repeat(first|apply Kd.Q_alloc|apply Kd.Q_drewN|apply Kd.Q_drew));exact Kd.Q_mono (Kd.Q_far (p:=⟨gb639,2,none⟩) (Kd.Q_far (p:=⟨gb639,1,none⟩) (Kd.Q_far (p:=⟨gb639,0,none⟩) (Kd.Q_types HO_632001.out BK639.out (by decide)) (fun _ hk=>hk.2) (.int .i64 t652)) (fun _ hk=>hk.2) (.int .i64 t653)) (fun _ hk=>hk.2) (.slice Ao83 t654.length co83)) (fun _ hk=>hk.1)⟩
      have n1_:Aside0 (Kd.R (Kd.int .i64) 3 (((w77.setCell ⟨gb639,0,none⟩ (.int .i64 t652)).setCell ⟨gb639,1,none⟩ (.int .i64 t653)).setCell ⟨gb639,2,none⟩ (.slice Ao83 t654.length co83)) w.heap.size (fun k_=>(w.heap.size≤k_)) u640002 x640002_5):=⟨by(with_reducible repeat(first|apply Kd.R_alloc|apply Kd.R_drewN|apply Kd.R_drew));exact Kd.R_mono (Kd.R_far (p:=⟨gb639,2,none⟩) (Kd.R_far (p:=⟨gb639,1,none⟩) (Kd.R_far (p:=⟨gb639,0,none⟩) (Kd.R_types HO_640002.out BK639.out (by decide)) (fun _ hk=>hk.2) (.int .i64 t652)) (fun _ hk=>hk.2) (.int .i64 t653)) (fun _ hk=>hk.2) (.slice Ao83 t654.length co83)) (fun _ hk=>hk.1)⟩
      have n2_:Aside0 (Kd.V (Kd.int .i64) 3 (((w77.setCell ⟨gb639,0,none⟩ (.int .i64 t652)).setCell ⟨gb639,1,none⟩ (.int .i64 t653)).setCell ⟨gb639,2,none⟩ (.slice Ao83 t654.length co83)) w.heap.size (fun k_=>(w.heap.size≤k_)∧some k_≠(.slice Ao16 t627.length co16:Value).ownBlock∧some k_≠(u640002:Value).ownBlock∧k_≠gb621∧k_≠gb622∧k_≠gb631∧k_≠gb639∧k_≠g625) (.slice Ao83 t654.length co83) t654):=⟨by(with_reducible repeat(first|apply Kd.V_alloc|apply Kd.V_drewN|apply Kd.V_drew));exact Kd.V_mono (Kd.V_far (p:=⟨gb639,2,none⟩) (Kd.V_far (p:=⟨gb639,1,none⟩) (Kd.V_far (p:=⟨gb639,0,none⟩) (Kd.V_mono HO656.out (fun k_ hk=>(⟨hk,hk.2.2.2.2.2.2.1⟩:_∧k_≠gb639))) (fun _ hk=>hk.2) (.int .i64 t652)) (fun _ hk=>hk.2) (.int .i64 t653)) (fun _ hk=>hk.2) (.slice Ao83 t654.length co83)) (fun _ hk=>⟨hk.1.1,⟨hk.1.2.1,⟨hk.1.2.2.1,⟨hk.1.2.2.2.1,⟨hk.1.2.2.2.2.1,⟨hk.1.2.2.2.2.2.1,⟨hk.1.2.2.2.2.2.2.1,hk.1.2.2.2.2.2.2.2⟩⟩⟩⟩⟩⟩⟩)⟩
      have n3_:Aside0 ((((w77.setCell ⟨gb639,0,none⟩ (.int .i64 t652)).setCell ⟨gb639,1,none⟩ (.int .i64 t653)).setCell ⟨gb639,2,none⟩ (.slice Ao83 t654.length co83)).heap[gb621]?=some (.cells #[.int .i64 0,.slice none 0 0] 38 (0,0))):=⟨za3 NB621_639 BK621⟩
      have n4_:Aside0 ((((w77.setCell ⟨gb639,0,none⟩ (.int .i64 t652)).setCell ⟨gb639,1,none⟩ (.int .i64 t653)).setCell ⟨gb639,2,none⟩ (.slice Ao83 t654.length co83)).heap[gb622]?=some (.cells #[.int .i64 0,.int .i64 0,.slice none 0 0] 32 (0,0))):=⟨za3 NB622_639 BK622⟩
      have n5_:Aside0 ((((w77.setCell ⟨gb639,0,none⟩ (.int .i64 t652)).setCell ⟨gb639,1,none⟩ (.int .i64 t653)).setCell ⟨gb639,2,none⟩ (.slice Ao83 t654.length co83)).heap[gb631]?=some (.cells #[.int .i64 t626,.slice Ao16 t627.length co16] 38 (0,0))):=⟨za3 NB631_639 BK631⟩
      have n6_:Aside0 ((((w77.setCell ⟨gb639,0,none⟩ (.int .i64 t652)).setCell ⟨gb639,1,none⟩ (.int .i64 t653)).setCell ⟨gb639,2,none⟩ (.slice Ao83 t654.length co83)).heap[gb639]?=some (.cells #[.int .i64 t652,.int .i64 t653,.slice Ao83 t654.length co83] 32 (0,0))):=⟨by(with_reducible repeat(first|refine blk_drewN ?_ _|refine blk_drew ?_|refine blk_alloc ?_ _));refine qad (cs:=#[.int .i64 t652,.int .i64 t653,u640002]) ?_ 2 _ rfl;(with_reducible repeat(first|refine blk_drewN ?_ _|refine blk_drew ?_|refine blk_alloc ?_ _));refine qad (cs:=#[.int .i64 t652,.int .i64 x640001_38,u640002]) ?_ 1 _ rfl;(with_reducible repeat(first|refine blk_drewN ?_ _|refine blk_drew ?_|refine blk_alloc ?_ _));refine qad (cs:=#[.int .i64 (wrap64 (1+t632)),.int .i64 x640001_38,u640002]) ?_ 0 _ rfl;(with_reducible repeat(first|refine blk_drewN ?_ _|refine blk_drew ?_|refine blk_alloc ?_ _));exact BK639.out⟩
      have n7_:Aside0 (IsS107 w (((w77.setCell ⟨gb639,0,none⟩ (.int .i64 t652)).setCell ⟨gb639,1,none⟩ (.int .i64 t653)).setCell ⟨gb639,2,none⟩ (.slice Ao83 t654.length co83)) g625 t623 t657):=⟨zb53_ockMay HI625 NB625_621 NB625_622 NB625_631 NB625_639⟩
      have n8_:Aside0 (Below w.heap.size w (((w77.setCell ⟨gb639,0,none⟩ (.int .i64 t652)).setCell ⟨gb639,1,none⟩ (.int .i64 t653)).setCell ⟨gb639,2,none⟩ (.slice Ao83 t654.length co83))):=⟨zb31_ockMay HB HI625 GE621 GE622 GE631 GE639⟩
      (try clear HO_632001)
      (try clear HO_640002)
      (try clear HO656)
      (try clear BK621)
      (try clear BK622)
      (try clear BK631)
      (try clear BK639)
      (try clear HI625)
      (try clear HB)
      generalize (((w77.setCell ⟨gb639,0,none⟩ (.int .i64 t652)).setCell ⟨gb639,1,none⟩ (.int .i64 t653)).setCell ⟨gb639,2,none⟩ (.slice Ao83 t654.length co83))=w84 at n0_ n1_ n2_ n3_ n4_ n5_ n6_ n7_ n8_ ⊢
      have HO_632001:=n0_
      have HO_640002:=n1_
      have HO656:=n2_
      have BK621:=n3_
      have BK622:=n4_
      have BK631:=n5_
      have BK639:=n6_
      have HI625:=n7_
      have HB:=n8_
      clear n0_ n1_ n2_ n3_ n4_ n5_ n6_ n7_ n8_
      replace HO_632001:=Aside0.mk (Kd.Q_drew HO_632001.out)
      replace HO_640002:=Aside0.mk (Kd.R_drew HO_640002.out)
      replace HO656:=Aside0.mk (Kd.V_drew HO656.out)
      replace BK621:=Aside0.mk (blk_drew BK621.out)
      replace BK622:=Aside0.mk (blk_drew BK622.out)
      replace BK631:=Aside0.mk (blk_drew BK631.out)
      replace BK639:=Aside0.mk (blk_drew BK639.out)
      replace HI625:=Aside0.mk (IsS107.drew HI625.out)
      replace HB:=Aside0.mk (qao HB.out)
      refine start_ (n:=4) (S:=fun w'=>w'.cell? ⟨gb631,0,none⟩=some (.int .i64 t626)∧w'.cell? ⟨gb631,1,none⟩=some (.slice Ao16 t627.length co16)∧w'.cell? ⟨gb639,0,none⟩=some (.int .i64 t652)∧w'.cell? ⟨gb639,1,none⟩=some (.int .i64 t653)∧w'.cell? ⟨gb639,2,none⟩=some (.slice Ao83 t654.length co83)) (ds:=[]) #[false,false,false,false] (by kernel_rfl) rfl rfl ⟨(blk_cell BK631.out 0).trans rfl,(blk_cell BK631.out 1).trans rfl,(blk_cell BK639.out 0).trans rfl,(blk_cell BK639.out 1).trans rfl,(blk_cell BK639.out 2).trans rfl⟩ (fun hHeld=>?_)
      generalize w84.drew=w85 at HO_632001 HO_640002 HO656 BK621 BK622 BK631 BK639 HI625 HB hHeld ⊢
      refine take_ (i:=0) (N:=some 52) (v:=?_) (a':=?_) #[true,false,false,false] rfl rfl (by kernel_rfl) (fun _ _ _ h=>h) (Or.inl ⟨by rfl,?_⟩) hHeld ?_ ?_
      rotate_left
      ·rintro w' ⟨s0,s1,s2,s3,s4⟩
       go_simp
       with_reducible rfl
      rotate_left
      ·simp only[Act.put,List.setIfInBounds_toArray,List.set_cons_zero,List.set_cons_succ,qaf,qag]
       rfl
      refine take_ (i:=1) (N:=some 53) (v:=?_) (a':=?_) #[true,true,false,false] rfl rfl (by kernel_rfl) (fun _ _ _ h=>h) (Or.inl ⟨by rfl,?_⟩) hHeld ?_ ?_
      rotate_left
      ·rintro w' ⟨s0,s1,s2,s3,s4⟩
       go_simp
       with_reducible rfl
      rotate_left
      ·simp only[Act.put,List.setIfInBounds_toArray,List.set_cons_zero,List.set_cons_succ,qaf,qag]
       rfl
      refine one_ (i:=2) (N:=none) #[true,true,true,false] rfl rfl (by kernel_rfl) (by decide) (fun K hK=>?_)
      have hs86:w85.cell? ⟨gb621,0,none⟩=some (.int .i64 0):=(blk_cell BK621.out 0).trans rfl
      have hfs86:=blk_frozen BK621.out 0
      have hns86_1:=NB622_621.out
      have hns86_2:=NB631_621.out
      have hns86_3:=NB639_621.out
      have hms86_1:=NB621_622.out
      have hms86_2:=NB621_631.out
      have hms86_3:=NB621_639.out
      have hs87:w85.cell? ⟨gb621,1,none⟩=some (.slice none 0 0):=(blk_cell BK621.out 1).trans rfl
      have hfs87:=blk_frozen BK621.out 1
      have hns87_1:=NB622_621.out
      have hns87_2:=NB631_621.out
      have hns87_3:=NB639_621.out
      have hms87_1:=NB621_622.out
      have hms87_2:=NB621_631.out
      have hms87_3:=NB621_639.out
      refine skip_ (w1:=?_) (by rfl) rfl ?_ ?_
      rotate_left
      ·go_simp
       rfl
      refine hK.out _ _ ⟨((qai (p:=⟨gb621,_,none⟩) NB631_621.out _).trans (((qai (p:=⟨gb621,_,none⟩) NB631_621.out _).trans (hHeld.1)))),((qai (p:=⟨gb621,_,none⟩) NB631_621.out _).trans (((qai (p:=⟨gb621,_,none⟩) NB631_621.out _).trans (hHeld.2.1)))),((qai (p:=⟨gb621,_,none⟩) NB639_621.out _).trans (((qai (p:=⟨gb621,_,none⟩) NB639_621.out _).trans (hHeld.2.2.1)))),((qai (p:=⟨gb621,_,none⟩) NB639_621.out _).trans (((qai (p:=⟨gb621,_,none⟩) NB639_621.out _).trans (hHeld.2.2.2.1)))),((qai (p:=⟨gb621,_,none⟩) NB639_621.out _).trans (((qai (p:=⟨gb621,_,none⟩) NB639_621.out _).trans (hHeld.2.2.2.2))))⟩ (fun hHeld=>?_)
      clear hK K
      refine one_ (i:=3) (N:=none) #[true,true,true,true] rfl rfl (by kernel_rfl) (by decide) (fun K hK=>?_)
      have hs88:w85.cell? ⟨gb622,0,none⟩=some (.int .i64 0):=(blk_cell BK622.out 0).trans rfl
      have hfs88:=blk_frozen BK622.out 0
      have hns88_0:=NB621_622.out
      have hns88_2:=NB631_622.out
      have hns88_3:=NB639_622.out
      have hms88_0:=NB622_621.out
      have hms88_2:=NB622_631.out
      have hms88_3:=NB622_639.out
      have hs89:w85.cell? ⟨gb622,1,none⟩=some (.int .i64 0):=(blk_cell BK622.out 1).trans rfl
      have hfs89:=blk_frozen BK622.out 1
      have hns89_0:=NB621_622.out
      have hns89_2:=NB631_622.out
      have hns89_3:=NB639_622.out
      have hms89_0:=NB622_621.out
      have hms89_2:=NB622_631.out
      have hms89_3:=NB622_639.out
      have hs90:w85.cell? ⟨gb622,2,none⟩=some (.slice none 0 0):=(blk_cell BK622.out 2).trans rfl
      have hfs90:=blk_frozen BK622.out 2
      have hns90_0:=NB621_622.out
      have hns90_2:=NB631_622.out
      have hns90_3:=NB639_622.out
      have hms90_0:=NB622_621.out
      have hms90_2:=NB622_631.out
      have hms90_3:=NB622_639.out
      refine skip_ (w1:=?_) (by rfl) rfl ?_ ?_
      rotate_left
      ·go_simp
       rfl
      refine hK.out _ _ ⟨((qai (p:=⟨gb622,_,none⟩) NB631_622.out _).trans (((qai (p:=⟨gb622,_,none⟩) NB631_622.out _).trans (((qai (p:=⟨gb622,_,none⟩) NB631_622.out _).trans (hHeld.1)))))),((qai (p:=⟨gb622,_,none⟩) NB631_622.out _).trans (((qai (p:=⟨gb622,_,none⟩) NB631_622.out _).trans (((qai (p:=⟨gb622,_,none⟩) NB631_622.out _).trans (hHeld.2.1)))))),((qai (p:=⟨gb622,_,none⟩) NB639_622.out _).trans (((qai (p:=⟨gb622,_,none⟩) NB639_622.out _).trans (((qai (p:=⟨gb622,_,none⟩) NB639_622.out _).trans (hHeld.2.2.1)))))),((qai (p:=⟨gb622,_,none⟩) NB639_622.out _).trans (((qai (p:=⟨gb622,_,none⟩) NB639_622.out _).trans (((qai (p:=⟨gb622,_,none⟩) NB639_622.out _).trans (hHeld.2.2.2.1)))))),((qai (p:=⟨gb622,_,none⟩) NB639_622.out _).trans (((qai (p:=⟨gb622,_,none⟩) NB639_622.out _).trans (((qai (p:=⟨gb622,_,none⟩) NB639_622.out _).trans (hHeld.2.2.2.2))))))⟩ (fun hHeld=>?_)
      clear hK K
      refine done_ (by kernel_rfl) ?_
      try go_wp2
      refine bodyPost_ret (results_cc rfl _ _ gb621 gb622 38 32 #[.int .i64 t626,.slice Ao16 t627.length co16] #[.int .i64 t652,.int .i64 t653,.slice Ao83 t654.length co83] (0,0) (0,0) _ _ rfl (by(with_reducible repeat(first|refine blk_drewN ?_ _|refine blk_drew ?_|refine blk_alloc ?_ _));refine blk_far ?_ NB621_622.out _;(with_reducible repeat(first|refine blk_drewN ?_ _|refine blk_drew ?_|refine blk_alloc ?_ _));refine blk_far ?_ NB621_622.out _;(with_reducible repeat(first|refine blk_drewN ?_ _|refine blk_drew ?_|refine blk_alloc ?_ _));refine blk_far ?_ NB621_622.out _;(with_reducible repeat(first|refine blk_drewN ?_ _|refine blk_drew ?_|refine blk_alloc ?_ _));refine qad (cs:=#[.int .i64 t626,.slice none 0 0]) ?_ 1 _ rfl;(with_reducible repeat(first|refine blk_drewN ?_ _|refine blk_drew ?_|refine blk_alloc ?_ _));refine qad (cs:=#[.int .i64 0,.slice none 0 0]) ?_ 0 _ rfl;(with_reducible repeat(first|refine blk_drewN ?_ _|refine blk_drew ?_|refine blk_alloc ?_ _));exact BK621.out) Try.underlying38 rfl (by kernel_rfl) rfl (by(with_reducible repeat(first|refine blk_drewN ?_ _|refine blk_drew ?_|refine blk_alloc ?_ _));refine qad (cs:=#[.int .i64 t652,.int .i64 t653,.slice none 0 0]) ?_ 2 _ rfl;(with_reducible repeat(first|refine blk_drewN ?_ _|refine blk_drew ?_|refine blk_alloc ?_ _));refine qad (cs:=#[.int .i64 t652,.int .i64 0,.slice none 0 0]) ?_ 1 _ rfl;(with_reducible repeat(first|refine blk_drewN ?_ _|refine blk_drew ?_|refine blk_alloc ?_ _));refine qad (cs:=#[.int .i64 0,.int .i64 0,.slice none 0 0]) ?_ 0 _ rfl;(with_reducible repeat(first|refine blk_drewN ?_ _|refine blk_drew ?_|refine blk_alloc ?_ _));refine blk_far ?_ NB622_621.out _;(with_reducible repeat(first|refine blk_drewN ?_ _|refine blk_drew ?_|refine blk_alloc ?_ _));refine blk_far ?_ NB622_621.out _;(with_reducible repeat(first|refine blk_drewN ?_ _|refine blk_drew ?_|refine blk_alloc ?_ _));exact BK622.out) Try.underlying32 rfl (by kernel_rfl)) rfl ?_
      exact⟨_,_,za16,by(with_reducible repeat(first|apply Kd.Q_alloc|apply Kd.Q_drewN|apply Kd.Q_drew));exact Kd.Q_mono (Kd.Q_far (p:=⟨gb622,2,none⟩) (Kd.Q_far (p:=⟨gb622,1,none⟩) (Kd.Q_far (p:=⟨gb622,0,none⟩) (Kd.Q_far (p:=⟨gb621,1,none⟩) (Kd.Q_far (p:=⟨gb621,0,none⟩) (Kd.Q_types (Kd.Q_types HO_632001.out BK621.out (by decide)) BK622.out (by decide)) (fun _ hk=>hk.1.2) (.int .i64 t626)) (fun _ hk=>hk.1.2) (.slice Ao16 t627.length co16)) (fun _ hk=>hk.2) (.int .i64 t652)) (fun _ hk=>hk.2) (.int .i64 t653)) (fun _ hk=>hk.2) (.slice Ao83 t654.length co83)) (fun _ hk=>hk.1.1),by(with_reducible repeat(first|apply Kd.V_alloc|apply Kd.V_drewN|apply Kd.V_drew));exact Kd.V_mono (Kd.V_far (p:=⟨gb622,2,none⟩) (Kd.V_far (p:=⟨gb622,1,none⟩) (Kd.V_far (p:=⟨gb622,0,none⟩) (Kd.V_far (p:=⟨gb621,1,none⟩) (Kd.V_far (p:=⟨gb621,0,none⟩) (Kd.V_mono (Kd.V_mono HO656.out (fun k_ hk=>(⟨hk,hk.2.2.2.1⟩:_∧k_≠gb621))) (fun k_ hk=>(⟨hk,hk.1.2.2.2.2.1⟩:_∧k_≠gb622))) (fun _ hk=>hk.1.2) (.int .i64 t626)) (fun _ hk=>hk.1.2) (.slice Ao16 t627.length co16)) (fun _ hk=>hk.2) (.int .i64 t652)) (fun _ hk=>hk.2) (.int .i64 t653)) (fun _ hk=>hk.2) (.slice Ao83 t654.length co83)) (fun _ hk=>⟨hk.1.1.1,hk.1.1.2.1⟩),zb31_ockMay HB HI625 GE621 GE622 GE631 GE639⟩
     ·rw[if_neg c74] at H
      have c74b0:(t650 == 0)=false:=beq_eq_false_iff_ne.mpr c74
      have c74b1:(t650 != 0)=true:=bne_iff_ne.mpr c74
      simp only[Option.some.injEq,Prod.mk.injEq] at H
      obtain⟨rfl,rfl,rfl,rfl,rfl⟩:=H
      try go_wp2_with(first|((with_reducible refine qac (f:=48) rfl ?_);refine zF (some 48) Try.func48 #[.pointer (some ⟨g625,0,none⟩),.int .i64 12] ?_;(with_reducible refine(spec_l6Rd_pick.calls kj38 g625 t623 x626001_38 12 t650 t651 w _ ?side1 ?side2 A73.out).mono ?_);(case side1=>repeat(first|(with_reducible first|exact HI625.out|apply IsS107.alloc|apply IsS107.drewN|apply IsS107.drew|apply IsS107.set_1|refine IsS107.far ?_ NB625_621.out _|refine IsS107.far ?_ NB625_622.out _|refine IsS107.far ?_ NB625_631.out _|refine IsS107.far ?_ NB625_639.out _)|exact HI625.out));(case side2=>exact(zb31_ockMay HB HI625 GE621 GE622 GE631 GE639));rintro e w91 ⟨rfl,hi,hb,hk⟩;refine⟨_,rfl,?_⟩;replace HO_632001:=Aside0.mk (Kd.Q_mono (Kd.Q_keep (IsS107.apartQ (show IsS107 w _ g625 t623 x626001_38 from by repeat(first|(with_reducible first|exact HI625.out|apply IsS107.alloc|apply IsS107.drewN|apply IsS107.drew|apply IsS107.set_1|refine IsS107.far ?_ NB625_621.out _|refine IsS107.far ?_ NB625_622.out _|refine IsS107.far ?_ NB625_631.out _|refine IsS107.far ?_ NB625_639.out _)|exact HI625.out)) (za10 HO_632001) (by decide)) hk (fun _ h=>h.2)) (fun _ h=>h.1));replace HO_640002:=Aside0.mk (Kd.R_mono (Kd.R_keep (IsS107.apart (show IsS107 w _ g625 t623 x626001_38 from by repeat(first|(with_reducible first|exact HI625.out|apply IsS107.alloc|apply IsS107.drewN|apply IsS107.drew|apply IsS107.set_1|refine IsS107.far ?_ NB625_621.out _|refine IsS107.far ?_ NB625_622.out _|refine IsS107.far ?_ NB625_631.out _|refine IsS107.far ?_ NB625_639.out _)|exact HI625.out)) (za5 HO_640002) (by decide)) hk (fun _ h=>h.2)) (fun _ h=>h.1));replace BK621:=Aside0.mk (KeepBut.blk hk (zB BK621) NB621_625.out (by simp));replace BK622:=Aside0.mk (KeepBut.blk hk (zB BK622) NB622_625.out (by simp));replace BK631:=Aside0.mk (KeepBut.blk hk (zB BK631) NB631_625.out (by simp));replace BK639:=Aside0.mk (KeepBut.blk hk (zB BK639) NB639_625.out (by simp));replace HB:=Aside0.mk hb;replace HI625:=Aside0.mk hi;(try clear hb);(try clear hk);(try clear hi)))
      replace HO_632001:=Aside0.mk (Kd.Q_drew HO_632001.out)
      replace HO_640002:=Aside0.mk (Kd.R_drew HO_640002.out)
      replace BK621:=Aside0.mk (blk_drew BK621.out)
      replace BK622:=Aside0.mk (blk_drew BK622.out)
      replace BK631:=Aside0.mk (blk_drew BK631.out)
      replace BK639:=Aside0.mk (blk_drew BK639.out)
      replace HI625:=Aside0.mk (IsS107.drew HI625.out)
      replace HB:=Aside0.mk (qao HB.out)
      obtain⟨Ao97,co97,eo97⟩:=Kd.R_slice HO_640002.out
      (first|subst eo97|(injection eo97 with f1_ f2_ f3_;have f4_:=f1_.symm;have f5_:=f3_.symm;clear f1_ f2_ f3_;subst f4_;subst f5_))
      refine start_ (n:=4) (S:=fun w'=>w'.cell? ⟨gb631,0,none⟩=some (.int .i64 t626)∧w'.cell? ⟨gb631,1,none⟩=some (.slice Ao16 t627.length co16)∧w'.cell? ⟨gb639,0,none⟩=some (.int .i64 (wrap64 (1+t632)))∧w'.cell? ⟨gb639,1,none⟩=some (.int .i64 x640001_38)∧w'.cell? ⟨gb639,2,none⟩=some (.slice Ao97 x640002_5.length co97)) (ds:=[]) #[false,false,false,false] (by kernel_rfl) rfl rfl ⟨(blk_cell BK631.out 0).trans rfl,(blk_cell BK631.out 1).trans rfl,(blk_cell BK639.out 0).trans rfl,(blk_cell BK639.out 1).trans rfl,(blk_cell BK639.out 2).trans rfl⟩ (fun hHeld=>?_)
      generalize w91.drew=w92 at HO_632001 HO_640002 BK621 BK622 BK631 BK639 HI625 HB hHeld ⊢
      refine take_ (i:=0) (N:=some 52) (v:=?_) (a':=?_) #[true,false,false,false] rfl rfl (by kernel_rfl) (fun _ _ _ h=>h) (Or.inl ⟨by rfl,?_⟩) hHeld ?_ ?_
      rotate_left
      ·rintro w' ⟨s0,s1,s2,s3,s4⟩
       go_simp
       with_reducible rfl
      rotate_left
      ·simp only[Act.put,List.setIfInBounds_toArray,List.set_cons_zero,List.set_cons_succ,qaf,qag]
       rfl
      refine take_ (i:=1) (N:=some 53) (v:=?_) (a':=?_) #[true,true,false,false] rfl rfl (by kernel_rfl) (fun _ _ _ h=>h) (Or.inl ⟨by rfl,?_⟩) hHeld ?_ ?_
      rotate_left
      ·rintro w' ⟨s0,s1,s2,s3,s4⟩
       go_simp
       with_reducible rfl
      rotate_left
      ·simp only[Act.put,List.setIfInBounds_toArray,List.set_cons_zero,List.set_cons_succ,qaf,qag]
       rfl
      refine one_ (i:=2) (N:=none) #[true,true,true,false] rfl rfl (by kernel_rfl) (by decide) (fun K hK=>?_)
      have hs93:w92.cell? ⟨gb621,0,none⟩=some (.int .i64 0):=(blk_cell BK621.out 0).trans rfl
      have hfs93:=blk_frozen BK621.out 0
      have hns93_1:=NB622_621.out
      have hns93_2:=NB631_621.out
      have hns93_3:=NB639_621.out
      have hms93_1:=NB621_622.out
      have hms93_2:=NB621_631.out
      have hms93_3:=NB621_639.out
      have hs94:w92.cell? ⟨gb621,1,none⟩=some (.slice none 0 0):=(blk_cell BK621.out 1).trans rfl
      have hfs94:=blk_frozen BK621.out 1
      have hns94_1:=NB622_621.out
      have hns94_2:=NB631_621.out
      have hns94_3:=NB639_621.out
      have hms94_1:=NB621_622.out
      have hms94_2:=NB621_631.out
      have hms94_3:=NB621_639.out
      refine skip_ (w1:=?_) (by rfl) rfl ?_ ?_
      rotate_left
      ·go_simp
       rfl
      refine hK.out _ _ ⟨((qai (p:=⟨gb621,_,none⟩) NB631_621.out _).trans (((qai (p:=⟨gb621,_,none⟩) NB631_621.out _).trans (hHeld.1)))),((qai (p:=⟨gb621,_,none⟩) NB631_621.out _).trans (((qai (p:=⟨gb621,_,none⟩) NB631_621.out _).trans (hHeld.2.1)))),((qai (p:=⟨gb621,_,none⟩) NB639_621.out _).trans (((qai (p:=⟨gb621,_,none⟩) NB639_621.out _).trans (hHeld.2.2.1)))),((qai (p:=⟨gb621,_,none⟩) NB639_621.out _).trans (((qai (p:=⟨gb621,_,none⟩) NB639_621.out _).trans (hHeld.2.2.2.1)))),((qai (p:=⟨gb621,_,none⟩) NB639_621.out _).trans (((qai (p:=⟨gb621,_,none⟩) NB639_621.out _).trans (hHeld.2.2.2.2))))⟩ (fun hHeld=>?_)
      clear hK K
      refine one_ (i:=3) (N:=none) #[true,true,true,true] rfl rfl (by kernel_rfl) (by decide) (fun K hK=>?_)
      have hs95:w92.cell? ⟨gb622,0,none⟩=some (.int .i64 0):=(blk_cell BK622.out 0).trans rfl
      have hfs95:=blk_frozen BK622.out 0
      have hns95_0:=NB621_622.out
      have hns95_2:=NB631_622.out
      have hns95_3:=NB639_622.out
      have hms95_0:=NB622_621.out
      have hms95_2:=NB622_631.out
      have hms95_3:=NB622_639.out
      have hs96:w92.cell? ⟨gb622,1,none⟩=some (.int .i64 0):=(blk_cell BK622.out 1).trans rfl
      have hfs96:=blk_frozen BK622.out 1
      have hns96_0:=NB621_622.out
      have hns96_2:=NB631_622.out
      have hns96_3:=NB639_622.out
      have hms96_0:=NB622_621.out
      have hms96_2:=NB622_631.out
      have hms96_3:=NB622_639.out
      have hs98:w92.cell? ⟨gb622,2,none⟩=some (.slice none 0 0):=(blk_cell BK622.out 2).trans rfl
      have hfs98:=blk_frozen BK622.out 2
      have hns98_0:=NB621_622.out
      have hns98_2:=NB631_622.out
      have hns98_3:=NB639_622.out
      have hms98_0:=NB622_621.out
      have hms98_2:=NB622_631.out
      have hms98_3:=NB622_639.out
      refine skip_ (w1:=?_) (by rfl) rfl ?_ ?_
      rotate_left
      ·go_simp
       rfl
      refine hK.out _ _ ⟨((qai (p:=⟨gb622,_,none⟩) NB631_622.out _).trans (((qai (p:=⟨gb622,_,none⟩) NB631_622.out _).trans (((qai (p:=⟨gb622,_,none⟩) NB631_622.out _).trans (hHeld.1)))))),((qai (p:=⟨gb622,_,none⟩) NB631_622.out _).trans (((qai (p:=⟨gb622,_,none⟩) NB631_622.out _).trans (((qai (p:=⟨gb622,_,none⟩) NB631_622.out _).trans (hHeld.2.1)))))),((qai (p:=⟨gb622,_,none⟩) NB639_622.out _).trans (((qai (p:=⟨gb622,_,none⟩) NB639_622.out _).trans (((qai (p:=⟨gb622,_,none⟩) NB639_622.out _).trans (hHeld.2.2.1)))))),((qai (p:=⟨gb622,_,none⟩) NB639_622.out _).trans (((qai (p:=⟨gb622,_,none⟩) NB639_622.out _).trans (((qai (p:=⟨gb622,_,none⟩) NB639_622.out _).trans (hHeld.2.2.2.1)))))),((qai (p:=⟨gb622,_,none⟩) NB639_622.out _).trans (((qai (p:=⟨gb622,_,none⟩) NB639_622.out _).trans (((qai (p:=⟨gb622,_,none⟩) NB639_622.out _).trans (hHeld.2.2.2.2))))))⟩ (fun hHeld=>?_)
      clear hK K
      refine done_ (by kernel_rfl) ?_
      try go_wp2
      refine bodyPost_ret (results_cc rfl _ _ gb621 gb622 38 32 #[.int .i64 t626,.slice Ao16 t627.length co16] #[.int .i64 (wrap64 (1+t632)),.int .i64 x640001_38,.slice Ao97 x640002_5.length co97] (0,0) (0,0) _ _ rfl (by(with_reducible repeat(first|refine blk_drewN ?_ _|refine blk_drew ?_|refine blk_alloc ?_ _));refine blk_far ?_ NB621_622.out _;(with_reducible repeat(first|refine blk_drewN ?_ _|refine blk_drew ?_|refine blk_alloc ?_ _));refine blk_far ?_ NB621_622.out _;(with_reducible repeat(first|refine blk_drewN ?_ _|refine blk_drew ?_|refine blk_alloc ?_ _));refine blk_far ?_ NB621_622.out _;(with_reducible repeat(first|refine blk_drewN ?_ _|refine blk_drew ?_|refine blk_alloc ?_ _));refine qad (cs:=#[.int .i64 t626,.slice none 0 0]) ?_ 1 _ rfl;(with_reducible repeat(first|refine blk_drewN ?_ _|refine blk_drew ?_|refine blk_alloc ?_ _));refine qad (cs:=#[.int .i64 0,.slice none 0 0]) ?_ 0 _ rfl;(with_reducible repeat(first|refine blk_drewN ?_ _|refine blk_drew ?_|refine blk_alloc ?_ _));exact BK621.out) Try.underlying38 rfl (by kernel_rfl) rfl (by(with_reducible repeat(first|refine blk_drewN ?_ _|refine blk_drew ?_|refine blk_alloc ?_ _));refine qad (cs:=#[.int .i64 (wrap64 (1+t632)),.int .i64 x640001_38,.slice none 0 0]) ?_ 2 _ rfl;(with_reducible repeat(first|refine blk_drewN ?_ _|refine blk_drew ?_|refine blk_alloc ?_ _));refine qad (cs:=#[.int .i64 (wrap64 (1+t632)),.int .i64 0,.slice none 0 0]) ?_ 1 _ rfl;(with_reducible repeat(first|refine blk_drewN ?_ _|refine blk_drew ?_|refine blk_alloc ?_ _));refine qad (cs:=#[.int .i64 0,.int .i64 0,.slice none 0 0]) ?_ 0 _ rfl;(with_reducible repeat(first|refine blk_drewN ?_ _|refine blk_drew ?_|refine blk_alloc ?_ _));refine blk_far ?_ NB622_621.out _;(with_reducible repeat(first|refine blk_drewN ?_ _|refine blk_drew ?_|refine blk_alloc ?_ _));refine blk_far ?_ NB622_621.out _;(with_reducible repeat(first|refine blk_drewN ?_ _|refine blk_drew ?_|refine blk_alloc ?_ _));exact BK622.out) Try.underlying32 rfl (by kernel_rfl)) rfl ?_
      exact⟨_,_,za16,by(with_reducible repeat(first|apply Kd.Q_alloc|apply Kd.Q_drewN|apply Kd.Q_drew));exact Kd.Q_mono (Kd.Q_far (p:=⟨gb622,2,none⟩) (Kd.Q_far (p:=⟨gb622,1,none⟩) (Kd.Q_far (p:=⟨gb622,0,none⟩) (Kd.Q_far (p:=⟨gb621,1,none⟩) (Kd.Q_far (p:=⟨gb621,0,none⟩) (Kd.Q_types (Kd.Q_types HO_632001.out BK621.out (by decide)) BK622.out (by decide)) (fun _ hk=>hk.1.2) (.int .i64 t626)) (fun _ hk=>hk.1.2) (.slice Ao16 t627.length co16)) (fun _ hk=>hk.2) (.int .i64 (wrap64 (1+t632)))) (fun _ hk=>hk.2) (.int .i64 x640001_38)) (fun _ hk=>hk.2) (.slice Ao97 x640002_5.length co97)) (fun _ hk=>hk.1.1),Kd.R_V (by(with_reducible repeat(first|apply Kd.R_alloc|apply Kd.R_drewN|apply Kd.R_drew));exact Kd.R_mono (Kd.R_far (p:=⟨gb622,2,none⟩) (Kd.R_far (p:=⟨gb622,1,none⟩) (Kd.R_far (p:=⟨gb622,0,none⟩) (Kd.R_far (p:=⟨gb621,1,none⟩) (Kd.R_far (p:=⟨gb621,0,none⟩) (Kd.R_types (Kd.R_types (Kd.R_apart' HO_640002.out (Kd.Q_typed HO_632001.out) (by decide)) BK621.out (by decide)) BK622.out (by decide)) (fun _ hk=>hk.1.2) (.int .i64 t626)) (fun _ hk=>hk.1.2) (.slice Ao16 t627.length co16)) (fun _ hk=>hk.2) (.int .i64 (wrap64 (1+t632)))) (fun _ hk=>hk.2) (.int .i64 x640001_38)) (fun _ hk=>hk.2) (.slice Ao97 x640002_5.length co97)) (fun _ hk=>⟨hk.1.1.1,hk.1.1.2⟩)),zb31_ockMay HB HI625 GE621 GE622 GE631 GE639⟩
end Go.Proofs.Ytmbdphefnalenaa.Print
