-- Written by squeeze.py: not trusted, Lean checks it.
import Derived.Test.YtjccnaklodbbfaaZK
import Derived.Test.YtjccnaklodbbfaaZf0
import Derived.Test.YtjccnaklodbbfaaZf1
import Derived.Test.YtjccnaklodbbfaaZl1
import Derived.Test.YtjccnaklodbbfaaZn5
import Derived.Test.YtjccnaklodbbfaaZt0
namespace Go.Proofs.Ytjccnaklodbbfaa.Print
open Go.RowKit Go.Proofs.YtjccnaklodbbfaaW.PrintWords Go.Proofs.YtjccnaklodbbfaaW.PrintLast Go.Proofs.YtjccnaklodbbfaaW.PrintMore
attribute [local go_sem] max2_int min2_int max_two min_two max_three min_three max_four min_four
set_option linter.unusedVariables false
set_option linter.unusedSimpArgs false
mutual
def spec_DrawStockMay.j0:Nat→List Int→Int→Int→List (S46)→Int→Int→List Int→Option (Int × (List (S46)) × Int × Int × List Int)
 |0,_,_,_,_,_,_,_=>none
 |k+1,x712000,x712001,x718000,x718001,x726000,x726001,x726002=>spec_DrawStockMay.l0 k 0 x712000 x712001 x718000 x718001 x726000 x726001 x726002
def spec_DrawStockMay.j2:Nat→List Int→Int→Int→List (S46)→Int→Int→List Int→Option (Int × (List (S46)) × Int × Int × List Int)
 |0,_,_,_,_,_,_,_=>none
 |k+1,x712000,x712001,x718000,x718001,x726000,x726001,x726002=>(spec_l6Rd_pick.f k x712000 x712001 12).bind fun bt736=>(if bt736.1=0 then((spec_l71RecV.f k x712000 bt736.2).bind fun bt738=>(some (x718000,x718001,bt738.1,bt738.2.1,bt738.2.2.1))) else(some (x718000,x718001,x726000,x726001,x726002)))
def spec_DrawStockMay.l0:Nat→Int→List Int→Int→Int→List (S46)→Int→Int→List Int→Option (Int × (List (S46)) × Int × Int × List Int)
 |0,_,_,_,_,_,_,_,_=>none
 |k+1,x7,x712000,x712001,x718000,x718001,x726000,x726001,x726002=>if x7<6 then((spec_l6Rd_pick.f k x712000 x712001 8).bind fun bt731=>(if bt731.1>0 then((spec_StockMay.f k x718000 x718001 x726000 x726001 x726002).bind fun t733=>(if t733=true then(spec_DrawStockMay.j2 k x712000 bt731.2 x718000 x718001 x726000 x726001 x726002) else((spec_l6Rd_pick.f k x712000 bt731.2 6).bind fun bt734=>(spec_DrawStockMay.l0 k (wrap64 (x7+1)) x712000 bt734.2 x718000 x718001 x726000 (wrap64 (1+bt734.1)) x726002)))) else(spec_DrawStockMay.j2 k x712000 bt731.2 x718000 x718001 x726000 x726001 x726002))) else(spec_DrawStockMay.j2 k x712000 x712001 x718000 x718001 x726000 x726001 x726002)
end
def spec_DrawStockMay.f (k:Nat) (l0:List Int):Option (Int × (List (S46)) × Int × Int × List Int):=(spec_l6Open.f l0).bind fun bt709=>((spec_l71Stock.f k bt709.1 bt709.2).bind fun bt712=>((spec_l6Rd_pick.f k bt709.1 bt712.2.2 3).bind fun bt718=>((spec_l6Rd_pick.f k bt709.1 bt718.2 6).bind fun bt720=>(if(wrap64 (1+bt718.1))=1 then((spec_l6Rd_pick.f k bt709.1 bt720.2 2).bind fun bt726=>(spec_DrawStockMay.j0 k bt709.1 bt726.2 bt712.1 bt712.2.1 (wrap64 (1+bt718.1)) (wrap64 (1+bt720.1)) (([wrap64 (1+bt726.1)]:List Int)))) else(spec_DrawStockMay.j0 k bt709.1 bt720.2 bt712.1 bt712.2.1 (wrap64 (1+bt718.1)) (wrap64 (1+bt720.1)) (([]:List Int)))))))
theorem spec_DrawStockMay.mono_l:∀k,(∀y0 y1 y2 y3 y4 y5 y6,LeO (spec_DrawStockMay.j0 k y0 y1 y2 y3 y4 y5 y6) (spec_DrawStockMay.j0 (k+1) y0 y1 y2 y3 y4 y5 y6))∧(∀y0 y1 y2 y3 y4 y5 y6,LeO (spec_DrawStockMay.j2 k y0 y1 y2 y3 y4 y5 y6) (spec_DrawStockMay.j2 (k+1) y0 y1 y2 y3 y4 y5 y6))∧(∀y0 y1 y2 y3 y4 y5 y6 y7,LeO (spec_DrawStockMay.l0 k y0 y1 y2 y3 y4 y5 y6 y7) (spec_DrawStockMay.l0 (k+1) y0 y1 y2 y3 y4 y5 y6 y7))
 |0=>⟨fun _ _ _ _ _ _ _ r h=>by simp[spec_DrawStockMay.j0] at h,fun _ _ _ _ _ _ _ r h=>by simp[spec_DrawStockMay.j2] at h,fun _ _ _ _ _ _ _ _ r h=>by simp[spec_DrawStockMay.l0] at h⟩
 |k+1=>by
  obtain⟨ih0,ih1,ih2⟩:=spec_DrawStockMay.mono_l k
  refine⟨?_,?_,?_⟩
  ·intro y0 y1 y2 y3 y4 y5 y6
   unfold spec_DrawStockMay.j0
   repeat' first
   |(with_reducible exact ih0 _ _ _ _ _ _ _)
   |(with_reducible exact ih1 _ _ _ _ _ _ _)
   |(with_reducible exact ih2 _ _ _ _ _ _ _ _)
   |(with_reducible exact spec_StockMay.mono _ _ _ _ _ _)
   |(with_reducible exact spec_l6Rd_pick.mono _ _ _ _)
   |(with_reducible exact spec_l71RecV.mono _ _ _)
   |(with_reducible exact spec_l71Stock.mono _ _ _)
   |(with_reducible exact LeO.refl _)
   |(with_reducible exact LeO.none _)
   |(with_reducible refine LeO.ite ?_ ?_)
   |(with_reducible refine LeO.bind ?_ (fun _=>?_))
   |exact ih0 _ _ _ _ _ _ _
   |exact ih1 _ _ _ _ _ _ _
   |exact ih2 _ _ _ _ _ _ _ _
   |exact spec_StockMay.mono _ _ _ _ _ _
   |exact spec_l6Rd_pick.mono _ _ _ _
   |exact spec_l71RecV.mono _ _ _
   |exact spec_l71Stock.mono _ _ _
   |exact LeO.none _
   |refine LeO.ite ?_ ?_
   |refine LeO.bind ?_ (fun _=>?_)
  ·intro y0 y1 y2 y3 y4 y5 y6
   unfold spec_DrawStockMay.j2
   repeat' first
   |(with_reducible exact ih0 _ _ _ _ _ _ _)
   |(with_reducible exact ih1 _ _ _ _ _ _ _)
   |(with_reducible exact ih2 _ _ _ _ _ _ _ _)
   |(with_reducible exact spec_StockMay.mono _ _ _ _ _ _)
   |(with_reducible exact spec_l6Rd_pick.mono _ _ _ _)
   |(with_reducible exact spec_l71RecV.mono _ _ _)
   |(with_reducible exact spec_l71Stock.mono _ _ _)
   |(with_reducible exact LeO.refl _)
   |(with_reducible exact LeO.none _)
   |(with_reducible refine LeO.ite ?_ ?_)
   |(with_reducible refine LeO.bind ?_ (fun _=>?_))
   |exact ih0 _ _ _ _ _ _ _
   |exact ih1 _ _ _ _ _ _ _
   |exact ih2 _ _ _ _ _ _ _ _
   |exact spec_StockMay.mono _ _ _ _ _ _
   |exact spec_l6Rd_pick.mono _ _ _ _
   |exact spec_l71RecV.mono _ _ _
   |exact spec_l71Stock.mono _ _ _
   |exact LeO.none _
   |refine LeO.ite ?_ ?_
   |refine LeO.bind ?_ (fun _=>?_)
  ·intro y0 y1 y2 y3 y4 y5 y6 y7
   unfold spec_DrawStockMay.l0
   repeat' first
   |(with_reducible exact ih0 _ _ _ _ _ _ _)
   |(with_reducible exact ih1 _ _ _ _ _ _ _)
   |(with_reducible exact ih2 _ _ _ _ _ _ _ _)
   |(with_reducible exact spec_StockMay.mono _ _ _ _ _ _)
   |(with_reducible exact spec_l6Rd_pick.mono _ _ _ _)
   |(with_reducible exact spec_l71RecV.mono _ _ _)
   |(with_reducible exact spec_l71Stock.mono _ _ _)
   |(with_reducible exact LeO.refl _)
   |(with_reducible exact LeO.none _)
   |(with_reducible refine LeO.ite ?_ ?_)
   |(with_reducible refine LeO.bind ?_ (fun _=>?_))
   |exact ih0 _ _ _ _ _ _ _
   |exact ih1 _ _ _ _ _ _ _
   |exact ih2 _ _ _ _ _ _ _ _
   |exact spec_StockMay.mono _ _ _ _ _ _
   |exact spec_l6Rd_pick.mono _ _ _ _
   |exact spec_l71RecV.mono _ _ _
   |exact spec_l71Stock.mono _ _ _
   |exact LeO.none _
   |refine LeO.ite ?_ ?_
   |refine LeO.bind ?_ (fun _=>?_)
theorem spec_DrawStockMay.mono:∀a0 k,LeO (spec_DrawStockMay.f k a0) (spec_DrawStockMay.f (k+1) a0):=by
 intro a0 k
 obtain⟨ih0,ih1,ih2⟩:=spec_DrawStockMay.mono_l k
 unfold spec_DrawStockMay.f
 repeat' first
   |(with_reducible exact ih0 _ _ _ _ _ _ _)
   |(with_reducible exact ih1 _ _ _ _ _ _ _)
   |(with_reducible exact ih2 _ _ _ _ _ _ _ _)
   |(with_reducible exact spec_StockMay.mono _ _ _ _ _ _)
   |(with_reducible exact spec_l6Rd_pick.mono _ _ _ _)
   |(with_reducible exact spec_l71RecV.mono _ _ _)
   |(with_reducible exact spec_l71Stock.mono _ _ _)
   |(with_reducible exact LeO.refl _)
   |(with_reducible exact LeO.none _)
   |(with_reducible refine LeO.ite ?_ ?_)
   |(with_reducible refine LeO.bind ?_ (fun _=>?_))
   |exact ih0 _ _ _ _ _ _ _
   |exact ih1 _ _ _ _ _ _ _
   |exact ih2 _ _ _ _ _ _ _ _
   |exact spec_StockMay.mono _ _ _ _ _ _
   |exact spec_l6Rd_pick.mono _ _ _ _
   |exact spec_l71RecV.mono _ _ _
   |exact spec_l71Stock.mono _ _ _
   |exact LeO.none _
   |refine LeO.ite ?_ ?_
   |refine LeO.bind ?_ (fun _=>?_)
set_option maxHeartbeats 8000000 in
set_option maxRecDepth 100000 in
theorem spec_DrawStockMay.calls (k:Nat) (A0:Option Addr) (c0:Nat) (l0:List Int) (r1:Int) (r2:List (S46)) (r3:Int) (r4:Int) (r5:List Int) (w:World) (hr0:Kd.C (Kd.int .u8) w A0 l0.length l0) (hc0:l0.length≤c0) (h:spec_DrawStockMay.f k l0=some (r1,r2,r3,r4,r5)) :
  Calls Try.prog 43 #[.slice A0 l0.length c0] w fun e w'=>∃v1_ v4_:Value,e=.returned (.tuple #[.agg #[.int .i64 r1,v1_],.agg #[.int .i64 r3,.int .i64 r4,v4_]])∧Kd.Q k46 46 w' w.heap.size (fun k_=>(w.heap.size≤k_)) v1_ r2∧Kd.V (Kd.int .i64) 3 w' w.heap.size (fun k_=>(w.heap.size≤k_)∧some k_≠(v1_:Value).ownBlock) v4_ r5∧Below w.heap.size w w':=by
 have hu36:=Try.underlying36
 have hu62:=Try.underlying62
 have HR0:=Aside0.mk hr0
 have HC0:=Aside0.mk hc0
 clear hr0 hc0
 have HB:=Aside0.mk (Below.refl w.heap.size w)
 have H:((spec_l6Open.f l0).bind fun bt709=>((spec_l71Stock.f k bt709.1 bt709.2).bind fun bt712=>((spec_l6Rd_pick.f k bt709.1 bt712.2.2 3).bind fun bt718=>((spec_l6Rd_pick.f k bt709.1 bt718.2 6).bind fun bt720=>(if(wrap64 (1+bt718.1))=1 then((spec_l6Rd_pick.f k bt709.1 bt720.2 2).bind fun bt726=>(spec_DrawStockMay.j0 k bt709.1 bt726.2 bt712.1 bt712.2.1 (wrap64 (1+bt718.1)) (wrap64 (1+bt720.1)) (([wrap64 (1+bt726.1)]:List Int)))) else(spec_DrawStockMay.j0 k bt709.1 bt720.2 bt712.1 bt712.2.1 (wrap64 (1+bt718.1)) (wrap64 (1+bt720.1)) (([]:List Int))))))))=some (r1,r2,r3,r4,r5):=h
 clear h
 replace H:=Option.bind_eq_some_iff.mp H
 obtain⟨⟨t709,t710⟩,A20,H⟩:=H
 replace H:((spec_l71Stock.f k t709 t710).bind fun bt712=>((spec_l6Rd_pick.f k t709 bt712.2.2 3).bind fun bt718=>((spec_l6Rd_pick.f k t709 bt718.2 6).bind fun bt720=>(if(wrap64 (1+bt718.1))=1 then((spec_l6Rd_pick.f k t709 bt720.2 2).bind fun bt726=>(spec_DrawStockMay.j0 k t709 bt726.2 bt712.1 bt712.2.1 (wrap64 (1+bt718.1)) (wrap64 (1+bt720.1)) (([wrap64 (1+bt726.1)]:List Int)))) else(spec_DrawStockMay.j0 k t709 bt720.2 bt712.1 bt712.2.1 (wrap64 (1+bt718.1)) (wrap64 (1+bt720.1)) (([]:List Int)))))))=some (r1,r2,r3,r4,r5):=H
 have A2:=Aside0.mk A20
 clear A20
 replace H:=Option.bind_eq_some_iff.mp H
 obtain⟨⟨t712,t713,t716⟩,A30,H⟩:=H
 replace H:((spec_l6Rd_pick.f k t709 t716 3).bind fun bt718=>((spec_l6Rd_pick.f k t709 bt718.2 6).bind fun bt720=>(if(wrap64 (1+bt718.1))=1 then((spec_l6Rd_pick.f k t709 bt720.2 2).bind fun bt726=>(spec_DrawStockMay.j0 k t709 bt726.2 t712 t713 (wrap64 (1+bt718.1)) (wrap64 (1+bt720.1)) (([wrap64 (1+bt726.1)]:List Int)))) else(spec_DrawStockMay.j0 k t709 bt720.2 t712 t713 (wrap64 (1+bt718.1)) (wrap64 (1+bt720.1)) (([]:List Int))))))=some (r1,r2,r3,r4,r5):=H
 have A3:=Aside0.mk A30
 clear A30
 replace H:=Option.bind_eq_some_iff.mp H
 obtain⟨⟨t718,t719⟩,A40,H⟩:=H
 replace H:((spec_l6Rd_pick.f k t709 t719 6).bind fun bt720=>(if(wrap64 (1+t718))=1 then((spec_l6Rd_pick.f k t709 bt720.2 2).bind fun bt726=>(spec_DrawStockMay.j0 k t709 bt726.2 t712 t713 (wrap64 (1+t718)) (wrap64 (1+bt720.1)) (([wrap64 (1+bt726.1)]:List Int)))) else(spec_DrawStockMay.j0 k t709 bt720.2 t712 t713 (wrap64 (1+t718)) (wrap64 (1+bt720.1)) (([]:List Int)))))=some (r1,r2,r3,r4,r5):=H
 have A4:=Aside0.mk A40
 clear A40
 replace H:=Option.bind_eq_some_iff.mp H
 obtain⟨⟨t720,t721⟩,A50,H⟩:=H
 replace H:(if(wrap64 (1+t718))=1 then((spec_l6Rd_pick.f k t709 t721 2).bind fun bt726=>(spec_DrawStockMay.j0 k t709 bt726.2 t712 t713 (wrap64 (1+t718)) (wrap64 (1+t720)) (([wrap64 (1+bt726.1)]:List Int)))) else(spec_DrawStockMay.j0 k t709 t721 t712 t713 (wrap64 (1+t718)) (wrap64 (1+t720)) (([]:List Int))))=some (r1,r2,r3,r4,r5):=H
 have A5:=Aside0.mk A50
 clear A50
 obtain⟨y722,hy722⟩:∃y_:List Int,y_=(([]:List Int)):=⟨_,rfl⟩
 replace H:(if(wrap64 (1+t718))=1 then((spec_l6Rd_pick.f k t709 t721 2).bind fun bt726=>(spec_DrawStockMay.j0 k t709 bt726.2 t712 t713 (wrap64 (1+t718)) (wrap64 (1+t720)) (([wrap64 (1+bt726.1)]:List Int)))) else(spec_DrawStockMay.j0 k t709 t721 t712 t713 (wrap64 (1+t718)) (wrap64 (1+t720)) y722))=some (r1,r2,r3,r4,r5):=by first|(rw[hy722];with_reducible exact H)|(have H2_:=(Option.bind_some _ _).symm.trans H;rw[hy722];with_reducible exact H2_)|(have H2_:=(Option.bind_some _ _).symm.trans H;with_reducible exact H2_)|with_reducible exact H|(rw[hy722];exact H)|exact H
 have Ny722:=Aside0.mk hy722
 clear hy722
 have HC6:=Aside0.mk H
 clear H
 go_enter Try.func43,Try.ntmps43
 go_upto_if 22 with(first|((with_reducible refine qah (N:=2) rfl ?_);refine zX (N:=2) (cs:=#[.int .i64 0,.slice none 0 0]) (t:=36) ?_;intro gb707 hg w7 hbox hb;have BK707:=Aside0.mk hbox;have GW707:=zH (w:=w) hg (za1 HB);have GE707:=GW707;replace HB:=Aside0.mk (qab (za1 HB) hb);clear hb hbox hg)|((with_reducible refine qah (N:=3) rfl ?_);refine zX (N:=3) (cs:=#[.int .i64 0,.int .i64 0,.slice none 0 0]) (t:=62) ?_;intro gb708 hg w8 hbox hb;have BK708:=Aside0.mk hbox;have GW708:=zH (w:=w) hg (za0 HB GE707);have GE708:=GW708;replace HB:=Aside0.mk (qab (za0 HB GE707) hb);have NB707_708:=zL BK707 hg;have NB708_707:=zG BK707 hg;replace BK707:=Aside0.mk (qaa (zB BK707) hb);clear hb hbox hg)|((with_reducible refine qaf (f:=64) rfl ?_);refine zF (some 9) Try.func64 #[.slice A0 l0.length c0] ?_;(with_reducible refine(spec_l6Open.calls _ _ l0 t709 t710 w _ ?side1 ?side2 ?side3 A2.out).mono ?_);(case side1=>exact(za2 HB GE707 GE708));(case side2=>exact HR0.out);(case side3=>exact HC0.out);rintro e w9 ⟨g711,rfl,hi,hb,hb2⟩;refine⟨_,rfl,?_⟩;replace HB:=Aside0.mk hb;have HI711:=Aside0.mk hi;have NB711_707:=Aside0.mk (IsS122.ne_blk hi (qaa (zB BK707) hb2) (by decide));have NB707_711:=Aside0.mk (Ne.symm (IsS122.ne_blk hi (qaa (zB BK707) hb2) (by decide)));replace BK707:=Aside0.mk (qaa (zB BK707) hb2);have NB711_708:=Aside0.mk (IsS122.ne_blk hi (qaa (zB BK708) hb2) (by decide));have NB708_711:=Aside0.mk (Ne.symm (IsS122.ne_blk hi (qaa (zB BK708) hb2) (by decide)));replace BK708:=Aside0.mk (qaa (zB BK708) hb2);(try clear hb);(try clear hb2);(try clear hi))|((with_reducible refine qaf (f:=71) rfl ?_);refine zF (some 11) Try.func71 #[.pointer (some ⟨g711,0,none⟩)] ?_;(with_reducible refine(spec_l71Stock.calls k g711 t709 t710 t712 t713 t716 w _ ?side1 ?side2 A3.out).mono ?_);(case side1=>repeat(first|(with_reducible first|exact HI711.out|apply IsS122.alloc|apply IsS122.drewN|apply IsS122.drew|apply IsS122.set_1|refine IsS122.far ?_ NB711_707.out _|refine IsS122.far ?_ NB711_708.out _)|exact HI711.out));(case side2=>exact(by repeat(first|(with_reducible first|exact HB.out|apply qag|apply qad|apply qae|refine qac ?_ (IsS122.ge HI711.out)|refine qac ?_ GE707.out|refine qac ?_ GE708.out)|exact HB.out)));rintro e w10 ⟨v714,rfl,ho0,hi,hb,hk⟩;refine⟨_,rfl,?_⟩;replace BK707:=Aside0.mk (KeepBut.blk hk (zB BK707) NB707_711.out (by simp));replace BK708:=Aside0.mk (KeepBut.blk hk (zB BK708) NB708_711.out (by simp));have HO715:=Aside0.mk (Kd.Q_lower (Kd.Q_newM (M:=fun k_=>(w.heap.size≤k_)) ho0 (below_size (by repeat(first|(with_reducible first|exact HB.out|apply qag|apply qad|apply qae|refine qac ?_ (IsS122.ge HI711.out)|refine qac ?_ GE707.out|refine qac ?_ GE708.out)|exact HB.out))) (fun k_ h_=>h_)) (below_size (by repeat(first|(with_reducible first|exact HB.out|apply qag|apply qad|apply qae|refine qac ?_ (IsS122.ge HI711.out)|refine qac ?_ GE707.out|refine qac ?_ GE708.out)|exact HB.out))));replace HB:=Aside0.mk hb;replace HI711:=Aside0.mk hi;(try clear hb);(try clear hk);(try clear hi);(try clear ho0))|((with_reducible refine qah (N:=5) rfl ?_);refine zX (N:=5) (cs:=#[.int .i64 0,.slice none 0 0]) (t:=36) ?_;intro gb717 hg w11 hbox hb;replace HO715:=Aside0.mk (Kd.Q_below (za18 HO715) hb);have BK717:=Aside0.mk hbox;have GW717:=zH (w:=w) hg (by repeat(first|(with_reducible first|exact HB.out|apply qag|apply qad|apply qae|refine qac ?_ (IsS122.ge HI711.out)|refine qac ?_ GE707.out|refine qac ?_ GE708.out)|exact HB.out));have GE717:=GW717;replace HB:=Aside0.mk (qab (by repeat(first|(with_reducible first|exact HB.out|apply qag|apply qad|apply qae|refine qac ?_ (IsS122.ge HI711.out)|refine qac ?_ GE707.out|refine qac ?_ GE708.out)|exact HB.out)) hb);have NB707_717:=zL BK707 hg;have NB717_707:=zG BK707 hg;replace BK707:=Aside0.mk (qaa (zB BK707) hb);have NB708_717:=zL BK708 hg;have NB717_708:=zG BK708 hg;replace BK708:=Aside0.mk (qaa (zB BK708) hb);have NB711_717:=Aside0.mk ((by rw[hg];exact Nat.ne_of_lt (IsS122.lt (show IsS122 w _ g711 t709 t716 from by repeat(first|(with_reducible first|exact HI711.out|apply IsS122.alloc|apply IsS122.drewN|apply IsS122.drew|apply IsS122.set_1|refine IsS122.far ?_ NB711_707.out _|refine IsS122.far ?_ NB711_708.out _)|exact HI711.out))):g711≠gb717));have NB717_711:=Aside0.mk ((by rw[hg];exact Nat.ne_of_gt (IsS122.lt (show IsS122 w _ g711 t709 t716 from by repeat(first|(with_reducible first|exact HI711.out|apply IsS122.alloc|apply IsS122.drewN|apply IsS122.drew|apply IsS122.set_1|refine IsS122.far ?_ NB711_707.out _|refine IsS122.far ?_ NB711_708.out _)|exact HI711.out))):gb717≠g711));replace HI711:=Aside0.mk (IsS122.below (by repeat(first|(with_reducible first|exact HI711.out|apply IsS122.alloc|apply IsS122.drewN|apply IsS122.drew|apply IsS122.set_1|refine IsS122.far ?_ NB711_707.out _|refine IsS122.far ?_ NB711_708.out _)|exact HI711.out)) hb);clear hb hbox hg;have hnb12:=NB717_707.out;have hnc12:=NB707_717.out;have hnb13:=NB717_708.out;have hnc13:=NB708_717.out;have hnb14:=NB717_711.out;have hnc14:=NB711_717.out;obtain⟨hcz15_0,hcz15_1,hfz15_0,hfz15_1⟩:=zC2 BK717;obtain⟨Ao16,co16,eo16,_⟩:=Kd.Q_slice HO715.out;subst eo16)|((with_reducible refine qaf (f:=65) rfl ?_);refine zF (some 13) Try.func65 #[.pointer (some ⟨g711,0,none⟩),.int .i64 3] ?_;(with_reducible refine(spec_l6Rd_pick.calls k g711 t709 t716 3 t718 t719 w _ ?side1 ?side2 A4.out).mono ?_);(case side1=>repeat(first|(with_reducible first|exact HI711.out|apply IsS122.alloc|apply IsS122.drewN|apply IsS122.drew|apply IsS122.set_1|refine IsS122.far ?_ NB711_707.out _|refine IsS122.far ?_ NB711_708.out _|refine IsS122.far ?_ NB711_717.out _)|exact HI711.out));(case side2=>exact(by repeat(first|(with_reducible first|exact HB.out|apply qag|apply qad|apply qae|refine qac ?_ (IsS122.ge HI711.out)|refine qac ?_ GE707.out|refine qac ?_ GE708.out|refine qac ?_ GE717.out)|exact HB.out)));rintro e w17 ⟨rfl,hi,hb,hk⟩;refine⟨_,rfl,?_⟩;replace BK707:=Aside0.mk (KeepBut.blk hk (g':=gb707) (o:=.cells #[.int .i64 0,.slice none 0 0] 36 (0,0)) (za4 NB707_717 BK707) NB707_711.out (by simp));replace BK708:=Aside0.mk (KeepBut.blk hk (g':=gb708) (o:=.cells #[.int .i64 0,.int .i64 0,.slice none 0 0] 62 (0,0)) (za4 NB708_717 BK708) NB708_711.out (by simp));replace HO715:=Aside0.mk (Kd.Q_mono (Kd.Q_keep (IsS122.apartQ (show IsS122 w _ g711 t709 t716 from by repeat(first|(with_reducible first|exact HI711.out|apply IsS122.alloc|apply IsS122.drewN|apply IsS122.drew|apply IsS122.set_1|refine IsS122.far ?_ NB711_707.out _|refine IsS122.far ?_ NB711_708.out _|refine IsS122.far ?_ NB711_717.out _)|exact HI711.out)) (by(with_reducible repeat(first|apply Kd.Q_alloc|apply Kd.Q_drewN|apply Kd.Q_drew));exact(Kd.Q_mono (Kd.Q_far (p:=⟨gb717,1,none⟩) (Kd.Q_far (p:=⟨gb717,0,none⟩) (Kd.Q_types HO715.out BK717.out (by decide)) (fun _ hk=>hk.2) (.int .i64 t712)) (fun _ hk=>hk.2) (.slice Ao16 t713.length co16)) (fun _ h_=>h_.1))) (by decide)) hk (fun _ h=>h.2)) (fun _ h=>h.1));replace BK717:=Aside0.mk (KeepBut.blk hk (g':=gb717) (o:=.cells #[.int .i64 t712,.slice Ao16 t713.length co16] 36 (0,0)) (by(with_reducible repeat(first|refine blk_drewN ?_ _|refine blk_drew ?_|refine blk_alloc ?_ _));refine qai (cs:=#[.int .i64 t712,.slice none 0 0]) ?_ 1 _ rfl;(with_reducible repeat(first|refine blk_drewN ?_ _|refine blk_drew ?_|refine blk_alloc ?_ _));refine qai (cs:=#[.int .i64 0,.slice none 0 0]) ?_ 0 _ rfl;(with_reducible repeat(first|refine blk_drewN ?_ _|refine blk_drew ?_|refine blk_alloc ?_ _));exact BK717.out) NB717_711.out (by simp));replace HB:=Aside0.mk hb;replace HI711:=Aside0.mk hi;(try clear hb);(try clear hk);(try clear hi))|((with_reducible refine qaf (f:=65) rfl ?_);refine zF (some 16) Try.func65 #[.pointer (some ⟨g711,0,none⟩),.int .i64 6] ?_;(with_reducible refine(spec_l6Rd_pick.calls k g711 t709 t719 6 t720 t721 w _ ?side1 ?side2 A5.out).mono ?_);(case side1=>repeat(first|(with_reducible first|exact HI711.out|apply IsS122.alloc|apply IsS122.drewN|apply IsS122.drew|apply IsS122.set_1|refine IsS122.far ?_ NB711_707.out _|refine IsS122.far ?_ NB711_708.out _|refine IsS122.far ?_ NB711_717.out _)|exact HI711.out));(case side2=>exact(by repeat(first|(with_reducible first|exact HB.out|apply qag|apply qad|apply qae|refine qac ?_ (IsS122.ge HI711.out)|refine qac ?_ GE707.out|refine qac ?_ GE708.out|refine qac ?_ GE717.out)|exact HB.out)));rintro e w18 ⟨rfl,hi,hb,hk⟩;refine⟨_,rfl,?_⟩;replace BK707:=Aside0.mk (KeepBut.blk hk (zB BK707) NB707_711.out (by simp));replace BK708:=Aside0.mk (KeepBut.blk hk (zB BK708) NB708_711.out (by simp));replace HO715:=Aside0.mk (Kd.Q_mono (Kd.Q_keep (IsS122.apartQ (show IsS122 w _ g711 t709 t719 from by repeat(first|(with_reducible first|exact HI711.out|apply IsS122.alloc|apply IsS122.drewN|apply IsS122.drew|apply IsS122.set_1|refine IsS122.far ?_ NB711_707.out _|refine IsS122.far ?_ NB711_708.out _|refine IsS122.far ?_ NB711_717.out _)|exact HI711.out)) (za18 HO715) (by decide)) hk (fun _ h=>h.2)) (fun _ h=>h.1));replace BK717:=Aside0.mk (KeepBut.blk hk (zB BK717) NB717_711.out (by simp));replace HB:=Aside0.mk hb;replace HI711:=Aside0.mk hi;(try clear hb);(try clear hk);(try clear hi))|((with_reducible refine qah (N:=18) rfl ?_);refine Kd.R_lit (Kd.int .i64) _ 3 (by rfl) (N:=18) (by rfl) (xs:=([]:List Int)) (inner:=[]) (ok:=fun _=>True) (okp:=fun _=>True) (by first|(go_simp;done)|(go_simp;rfl)) (Reps.none _ _) (fun _ hk=>hk) trivial (Below.refl _ _) (Nat.le_refl _) (by simp) ?_;intro v723 w19 ho20 hb hg_ hnew_;clear hg_ hnew_;(first|rw[←Ny722.out] at ho20|(simp only[Int.reduceToNat] at ho20;rw[←Ny722.out] at ho20));replace HO715:=Aside0.mk (Kd.Q_below (za18 HO715) hb);have HO724:=Aside0.mk (Kd.R_lower (Kd.R_newM (M:=fun k_=>(w.heap.size≤k_)) ho20 (below_size (by repeat(first|(with_reducible first|exact HB.out|apply qag|apply qad|apply qae|refine qac ?_ (IsS122.ge HI711.out)|refine qac ?_ GE707.out|refine qac ?_ GE708.out|refine qac ?_ GE717.out)|exact HB.out))) (fun k_ h_=>h_)) (below_size (by repeat(first|(with_reducible first|exact HB.out|apply qag|apply qad|apply qae|refine qac ?_ (IsS122.ge HI711.out)|refine qac ?_ GE707.out|refine qac ?_ GE708.out|refine qac ?_ GE717.out)|exact HB.out))));replace BK707:=Aside0.mk (qaa (zB BK707) hb);replace BK708:=Aside0.mk (qaa (zB BK708) hb);replace BK717:=Aside0.mk (qaa (zB BK717) hb);replace HB:=Aside0.mk (qab (by repeat(first|(with_reducible first|exact HB.out|apply qag|apply qad|apply qae|refine qac ?_ (IsS122.ge HI711.out)|refine qac ?_ GE707.out|refine qac ?_ GE708.out|refine qac ?_ GE717.out)|exact HB.out)) hb);replace HI711:=Aside0.mk (IsS122.below (by repeat(first|(with_reducible first|exact HI711.out|apply IsS122.alloc|apply IsS122.drewN|apply IsS122.drew|apply IsS122.set_1|refine IsS122.far ?_ NB711_707.out _|refine IsS122.far ?_ NB711_708.out _|refine IsS122.far ?_ NB711_717.out _)|exact HI711.out)) hb);clear hb ho20;obtain⟨Ao21,co21,eo21⟩:=Kd.R_slice HO724.out;subst eo21)|((with_reducible refine qah (N:=6) rfl ?_);refine zX (N:=6) (cs:=#[.int .i64 0,.int .i64 0,.slice none 0 0]) (t:=62) ?_;intro gb725 hg w22 hbox hb;replace HO715:=Aside0.mk (Kd.Q_below (za18 HO715) hb);replace HO724:=Aside0.mk (Kd.R_below (za3 HO724) hb);have BK725:=Aside0.mk hbox;have GW725:=zH (w:=w) hg (by repeat(first|(with_reducible first|exact HB.out|apply qag|apply qad|apply qae|refine qac ?_ (IsS122.ge HI711.out)|refine qac ?_ GE707.out|refine qac ?_ GE708.out|refine qac ?_ GE717.out)|exact HB.out));have GE725:=GW725;replace HB:=Aside0.mk (qab (by repeat(first|(with_reducible first|exact HB.out|apply qag|apply qad|apply qae|refine qac ?_ (IsS122.ge HI711.out)|refine qac ?_ GE707.out|refine qac ?_ GE708.out|refine qac ?_ GE717.out)|exact HB.out)) hb);have NB707_725:=zL BK707 hg;have NB725_707:=zG BK707 hg;replace BK707:=Aside0.mk (qaa (zB BK707) hb);have NB708_725:=zL BK708 hg;have NB725_708:=zG BK708 hg;replace BK708:=Aside0.mk (qaa (zB BK708) hb);have NB717_725:=zL BK717 hg;have NB725_717:=zG BK717 hg;replace BK717:=Aside0.mk (qaa (zB BK717) hb);have NB711_725:=Aside0.mk ((by rw[hg];exact Nat.ne_of_lt (IsS122.lt (show IsS122 w _ g711 t709 t721 from by repeat(first|(with_reducible first|exact HI711.out|apply IsS122.alloc|apply IsS122.drewN|apply IsS122.drew|apply IsS122.set_1|refine IsS122.far ?_ NB711_707.out _|refine IsS122.far ?_ NB711_708.out _|refine IsS122.far ?_ NB711_717.out _)|exact HI711.out))):g711≠gb725));have NB725_711:=Aside0.mk ((by rw[hg];exact Nat.ne_of_gt (IsS122.lt (show IsS122 w _ g711 t709 t721 from by repeat(first|(with_reducible first|exact HI711.out|apply IsS122.alloc|apply IsS122.drewN|apply IsS122.drew|apply IsS122.set_1|refine IsS122.far ?_ NB711_707.out _|refine IsS122.far ?_ NB711_708.out _|refine IsS122.far ?_ NB711_717.out _)|exact HI711.out))):gb725≠g711));replace HI711:=Aside0.mk (IsS122.below (by repeat(first|(with_reducible first|exact HI711.out|apply IsS122.alloc|apply IsS122.drewN|apply IsS122.drew|apply IsS122.set_1|refine IsS122.far ?_ NB711_707.out _|refine IsS122.far ?_ NB711_708.out _|refine IsS122.far ?_ NB711_717.out _)|exact HI711.out)) hb);clear hb hbox hg;have hnb23:=NB725_707.out;have hnc23:=NB707_725.out;have hnb24:=NB725_708.out;have hnc24:=NB708_725.out;have hnb25:=NB725_717.out;have hnc25:=NB717_725.out;have hnb26:=NB725_711.out;have hnc26:=NB711_725.out;obtain⟨hcz27_0,hcz27_1,hcz27_2,hfz27_0,hfz27_1,hfz27_2⟩:=zC3 BK725))
 (try simp only[Act.put,List.setIfInBounds_toArray,List.set_cons_zero,List.set_cons_succ])
 go_cut [] (fun wc=>∃(kq:Nat) (x712001_5:Int) (x726002_5:List Int) (u726002:Value),Aside0 (spec_DrawStockMay.j0 kq t709 x712001_5 t712 t713 (wrap64 (1+t718)) (wrap64 (1+t720)) x726002_5=some (r1,r2,r3,r4,r5))∧Aside0 (kq≤k)∧Aside0 (Kd.Q k46 46 wc w.heap.size (fun k_=>(w.heap.size≤k_)) (.slice Ao16 t713.length co16) t713)∧Aside0 (Kd.R (Kd.int .i64) 3 wc w.heap.size (fun k_=>(w.heap.size≤k_)) u726002 x726002_5)∧Aside0 (wc.heap[gb707]?=some (.cells #[.int .i64 0,(.slice none 0 0)] 36 (0,0)))∧Aside0 (wc.heap[gb708]?=some (.cells #[.int .i64 0,.int .i64 0,(.slice none 0 0)] 62 (0,0)))∧Aside0 (wc.heap[gb717]?=some (.cells #[.int .i64 t712,(.slice Ao16 t713.length co16)] 36 (0,0)))∧Aside0 (wc.heap[gb725]?=some (.cells #[.int .i64 (wrap64 (1+t718)),.int .i64 (wrap64 (1+t720)),u726002] 62 (0,0)))∧Aside0 (IsS122 w wc g711 t709 x712001_5)∧Aside0 (Below w.heap.size w wc))
 case first=>
  have H:=HC6.out
  clear HC6
  by_cases c28:(wrap64 (1+t718))=1
  ·rw[if_pos c28] at H
   have c28b0:((wrap64 (1+t718)) == 1)=true:=beq_iff_eq.mpr c28
   have c28b1:((wrap64 (1+t718)) != 1)=false:=bne_eq_false_iff_eq.mpr c28
   clear c28
   (first|rw[c28b0]|(simp only[qaj,qak];rw[c28b0])|skip)
   replace H:=Option.bind_eq_some_iff.mp H
   obtain⟨⟨t726,t727⟩,A290,H⟩:=H
   replace H:(spec_DrawStockMay.j0 k t709 t727 t712 t713 (wrap64 (1+t718)) (wrap64 (1+t720)) (([wrap64 (1+t726)]:List Int)))=some (r1,r2,r3,r4,r5):=H
   have A29:=Aside0.mk A290
   clear A290
   obtain⟨y728,hy728⟩:∃y_:List Int,y_=(([wrap64 (1+t726)]:List Int)):=⟨_,rfl⟩
   replace H:(spec_DrawStockMay.j0 k t709 t727 t712 t713 (wrap64 (1+t718)) (wrap64 (1+t720)) y728)=some (r1,r2,r3,r4,r5):=by first|(rw[hy728];with_reducible exact H)|(have H2_:=(Option.bind_some _ _).symm.trans H;rw[hy728];with_reducible exact H2_)|(have H2_:=(Option.bind_some _ _).symm.trans H;with_reducible exact H2_)|with_reducible exact H|(rw[hy728];exact H)|exact H
   have Ny728:=Aside0.mk hy728
   clear hy728
   have H':=Aside0.mk H
   clear H
   go_wp2_with(first|((with_reducible refine qaf (f:=65) rfl ?_);refine zF (some 24) Try.func65 #[.pointer (some ⟨g711,0,none⟩),.int .i64 2] ?_;(with_reducible refine(spec_l6Rd_pick.calls k g711 t709 t721 2 t726 t727 w _ ?side1 ?side2 A29.out).mono ?_);(case side1=>repeat(first|(with_reducible first|exact HI711.out|apply IsS122.alloc|apply IsS122.drewN|apply IsS122.drew|apply IsS122.set_1|refine IsS122.far ?_ NB711_707.out _|refine IsS122.far ?_ NB711_708.out _|refine IsS122.far ?_ NB711_717.out _|refine IsS122.far ?_ NB711_725.out _)|exact HI711.out));(case side2=>exact(by repeat(first|(with_reducible first|exact HB.out|apply qag|apply qad|apply qae|refine qac ?_ (IsS122.ge HI711.out)|refine qac ?_ GE707.out|refine qac ?_ GE708.out|refine qac ?_ GE717.out|refine qac ?_ GE725.out)|exact HB.out)));rintro e w30 ⟨rfl,hi,hb,hk⟩;refine⟨_,rfl,?_⟩;replace BK707:=Aside0.mk (KeepBut.blk hk (g':=gb707) (o:=.cells #[.int .i64 0,.slice none 0 0] 36 (0,0)) (za6 NB707_725 BK707) NB707_711.out (by simp));replace BK708:=Aside0.mk (KeepBut.blk hk (g':=gb708) (o:=.cells #[.int .i64 0,.int .i64 0,.slice none 0 0] 62 (0,0)) (za6 NB708_725 BK708) NB708_711.out (by simp));replace HO715:=Aside0.mk (Kd.Q_mono (Kd.Q_keep (IsS122.apartQ (show IsS122 w _ g711 t709 t721 from by repeat(first|(with_reducible first|exact HI711.out|apply IsS122.alloc|apply IsS122.drewN|apply IsS122.drew|apply IsS122.set_1|refine IsS122.far ?_ NB711_707.out _|refine IsS122.far ?_ NB711_708.out _|refine IsS122.far ?_ NB711_717.out _|refine IsS122.far ?_ NB711_725.out _)|exact HI711.out)) (by(with_reducible repeat(first|apply Kd.Q_alloc|apply Kd.Q_drewN|apply Kd.Q_drew));exact(Kd.Q_mono (Kd.Q_far (p:=⟨gb725,2,none⟩) (Kd.Q_far (p:=⟨gb725,1,none⟩) (Kd.Q_far (p:=⟨gb725,0,none⟩) (Kd.Q_types HO715.out BK725.out (by decide)) (fun _ hk=>hk.2) (.int .i64 (wrap64 (1+t718)))) (fun _ hk=>hk.2) (.int .i64 (wrap64 (1+t720)))) (fun _ hk=>hk.2) (.slice Ao21 y722.length co21)) (fun _ h_=>h_.1))) (by decide)) hk (fun _ h=>h.2)) (fun _ h=>h.1));replace BK717:=Aside0.mk (KeepBut.blk hk (g':=gb717) (o:=.cells #[.int .i64 t712,.slice Ao16 t713.length co16] 36 (0,0)) (za6 NB717_725 BK717) NB717_711.out (by simp));replace HO724:=Aside0.mk (Kd.R_mono (Kd.R_keep (IsS122.apart (show IsS122 w _ g711 t709 t721 from by repeat(first|(with_reducible first|exact HI711.out|apply IsS122.alloc|apply IsS122.drewN|apply IsS122.drew|apply IsS122.set_1|refine IsS122.far ?_ NB711_707.out _|refine IsS122.far ?_ NB711_708.out _|refine IsS122.far ?_ NB711_717.out _|refine IsS122.far ?_ NB711_725.out _)|exact HI711.out)) (by(with_reducible repeat(first|apply Kd.R_alloc|apply Kd.R_drewN|apply Kd.R_drew));exact(Kd.R_mono (Kd.R_far (p:=⟨gb725,2,none⟩) (Kd.R_far (p:=⟨gb725,1,none⟩) (Kd.R_far (p:=⟨gb725,0,none⟩) (Kd.R_types HO724.out BK725.out (by decide)) (fun _ hk=>hk.2) (.int .i64 (wrap64 (1+t718)))) (fun _ hk=>hk.2) (.int .i64 (wrap64 (1+t720)))) (fun _ hk=>hk.2) (.slice Ao21 y722.length co21)) (fun _ h_=>h_.1))) (by decide)) hk (fun _ h=>h.2)) (fun _ h=>h.1));replace BK725:=Aside0.mk (KeepBut.blk hk (g':=gb725) (o:=.cells #[.int .i64 (wrap64 (1+t718)),.int .i64 (wrap64 (1+t720)),.slice Ao21 y722.length co21] 62 (0,0)) (by(with_reducible repeat(first|refine blk_drewN ?_ _|refine blk_drew ?_|refine blk_alloc ?_ _));refine qai (cs:=#[.int .i64 (wrap64 (1+t718)),.int .i64 (wrap64 (1+t720)),.slice none 0 0]) ?_ 2 _ rfl;(with_reducible repeat(first|refine blk_drewN ?_ _|refine blk_drew ?_|refine blk_alloc ?_ _));refine qai (cs:=#[.int .i64 (wrap64 (1+t718)),.int .i64 0,.slice none 0 0]) ?_ 1 _ rfl;(with_reducible repeat(first|refine blk_drewN ?_ _|refine blk_drew ?_|refine blk_alloc ?_ _));refine qai (cs:=#[.int .i64 0,.int .i64 0,.slice none 0 0]) ?_ 0 _ rfl;(with_reducible repeat(first|refine blk_drewN ?_ _|refine blk_drew ?_|refine blk_alloc ?_ _));exact BK725.out) NB725_711.out (by simp));replace HB:=Aside0.mk hb;replace HI711:=Aside0.mk hi;(try clear hb);(try clear hk);(try clear hi))|((with_reducible refine qah (N:=26) rfl ?_);refine Kd.R_lit (Kd.int .i64) _ 3 (by rfl) (N:=26) (by rfl) (xs:=([wrap64 (1+t726)]:List Int)) (inner:=[.int .i64 (wrap64 (1+t726))]) (ok:=fun _=>True) (okp:=fun _=>True) (by first|(go_simp;done)|(go_simp;rfl)) ?hp (fun _ hk=>hk) trivial (Below.refl _ _) (Nat.le_refl _) (by simp) ?_;(case hp=>exact(Reps.one (show Kd.M (Kd.int .i64) _ _ _ (wrap64 (1+t726)) [.int .i64 (wrap64 (1+t726))] from rfl) (Reps.none _ _)));intro v729 w31 ho32 hb hg_ hnew_;clear hg_ hnew_;(first|rw[←Ny728.out] at ho32|(simp only[Int.reduceToNat] at ho32;rw[←Ny728.out] at ho32));replace HO715:=Aside0.mk (Kd.Q_below (za18 HO715) hb);have HO730:=Aside0.mk (Kd.R_lower (Kd.R_new' (Kd.R_newM (M:=fun k_=>(w.heap.size≤k_)) ho32 (below_size (by repeat(first|(with_reducible first|exact HB.out|apply qag|apply qad|apply qae|refine qac ?_ (IsS122.ge HI711.out)|refine qac ?_ GE707.out|refine qac ?_ GE708.out|refine qac ?_ GE717.out|refine qac ?_ GE725.out)|exact HB.out))) (fun k_ h_=>h_)) (Kd.R_lt (za3 HO724))) (below_size (by repeat(first|(with_reducible first|exact HB.out|apply qag|apply qad|apply qae|refine qac ?_ (IsS122.ge HI711.out)|refine qac ?_ GE707.out|refine qac ?_ GE708.out|refine qac ?_ GE717.out|refine qac ?_ GE725.out)|exact HB.out))));replace HO724:=Aside0.mk (Kd.R_elder' (za3 HO724) (Kd.R_base ho32) hb);replace BK707:=Aside0.mk (qaa (zB BK707) hb);replace BK708:=Aside0.mk (qaa (zB BK708) hb);replace BK717:=Aside0.mk (qaa (zB BK717) hb);replace BK725:=Aside0.mk (qaa (zB BK725) hb);replace HB:=Aside0.mk (qab (by repeat(first|(with_reducible first|exact HB.out|apply qag|apply qad|apply qae|refine qac ?_ (IsS122.ge HI711.out)|refine qac ?_ GE707.out|refine qac ?_ GE708.out|refine qac ?_ GE717.out|refine qac ?_ GE725.out)|exact HB.out)) hb);replace HI711:=Aside0.mk (IsS122.below (by repeat(first|(with_reducible first|exact HI711.out|apply IsS122.alloc|apply IsS122.drewN|apply IsS122.drew|apply IsS122.set_1|refine IsS122.far ?_ NB711_707.out _|refine IsS122.far ?_ NB711_708.out _|refine IsS122.far ?_ NB711_717.out _|refine IsS122.far ?_ NB711_725.out _)|exact HI711.out)) hb);clear hb ho32;obtain⟨Ao33,co33,eo33⟩:=Kd.R_slice HO730.out;subst eo33;have hnb34:=NB725_707.out;have hnc34:=NB707_725.out;have hnb35:=NB725_708.out;have hnc35:=NB708_725.out;have hnb36:=NB725_717.out;have hnc36:=NB717_725.out;have hnb37:=NB725_711.out;have hnc37:=NB711_725.out;obtain⟨hcz38_0,hcz38_1,hcz38_2,hfz38_0,hfz38_1,hfz38_2⟩:=zC3 BK725))
   go_meet
   case rel=>exact⟨_,(t727),(y728),(.slice Ao33 y728.length co33),H',⟨za23⟩,⟨by(with_reducible repeat(first|apply Kd.Q_alloc|apply Kd.Q_drewN|apply Kd.Q_drew));exact Kd.Q_mono (Kd.Q_far (p:=⟨gb725,2,none⟩) (Kd.Q_types HO715.out BK725.out (by decide)) (fun _ hk=>hk.2) (.slice Ao33 y728.length co33)) (fun _ hk=>hk.1.1)⟩,⟨by(with_reducible repeat(first|apply Kd.R_alloc|apply Kd.R_drewN|apply Kd.R_drew));exact Kd.R_mono (Kd.R_far (p:=⟨gb725,2,none⟩) (Kd.R_types HO730.out BK725.out (by decide)) (fun _ hk=>hk.2) (.slice Ao33 y728.length co33)) (fun _ hk=>hk.1.1.1)⟩,⟨za15 NB707_725 BK707⟩,⟨za15 NB708_725 BK708⟩,⟨za15 NB717_725 BK717⟩,⟨by(with_reducible repeat(first|refine blk_drewN ?_ _|refine blk_drew ?_|refine blk_alloc ?_ _));refine qai (cs:=#[.int .i64 (wrap64 (1+t718)),.int .i64 (wrap64 (1+t720)),.slice Ao21 y722.length co21]) ?_ 2 _ rfl;(with_reducible repeat(first|refine blk_drewN ?_ _|refine blk_drew ?_|refine blk_alloc ?_ _));exact BK725.out⟩,⟨by repeat(first|(with_reducible first|exact HI711.out|apply IsS122.alloc|apply IsS122.drewN|apply IsS122.drew|apply IsS122.set_1|refine IsS122.far ?_ NB711_707.out _|refine IsS122.far ?_ NB711_708.out _|refine IsS122.far ?_ NB711_717.out _|refine IsS122.far ?_ NB711_725.out _)|exact HI711.out)⟩,⟨by repeat(first|(with_reducible first|exact HB.out|apply qag|apply qad|apply qae|refine qac ?_ (IsS122.ge HI711.out)|refine qac ?_ GE707.out|refine qac ?_ GE708.out|refine qac ?_ GE717.out|refine qac ?_ GE725.out)|exact HB.out)⟩⟩
  ·rw[if_neg c28] at H
   have c28b0:((wrap64 (1+t718)) == 1)=false:=beq_eq_false_iff_ne.mpr c28
   have c28b1:((wrap64 (1+t718)) != 1)=true:=bne_iff_ne.mpr c28
   (first|rw[c28b0]|(simp only[qaj,qak];rw[c28b0])|skip)
   have H':=Aside0.mk H
   clear H
   go_wp2
   go_meet
   case rel=>exact⟨_,(t721),(y722),(.slice Ao21 y722.length co21),H',⟨za23⟩,⟨by(with_reducible repeat(first|apply Kd.Q_alloc|apply Kd.Q_drewN|apply Kd.Q_drew));exact Kd.Q_mono (Kd.Q_far (p:=⟨gb725,2,none⟩) (Kd.Q_far (p:=⟨gb725,1,none⟩) (Kd.Q_far (p:=⟨gb725,0,none⟩) (Kd.Q_types HO715.out BK725.out (by decide)) (fun _ hk=>hk.2) (.int .i64 (wrap64 (1+t718)))) (fun _ hk=>hk.2) (.int .i64 (wrap64 (1+t720)))) (fun _ hk=>hk.2) (.slice Ao21 y722.length co21)) (fun _ hk=>hk.1.1)⟩,⟨by(with_reducible repeat(first|apply Kd.R_alloc|apply Kd.R_drewN|apply Kd.R_drew));exact Kd.R_mono (Kd.R_far (p:=⟨gb725,2,none⟩) (Kd.R_far (p:=⟨gb725,1,none⟩) (Kd.R_far (p:=⟨gb725,0,none⟩) (Kd.R_types HO724.out BK725.out (by decide)) (fun _ hk=>hk.2) (.int .i64 (wrap64 (1+t718)))) (fun _ hk=>hk.2) (.int .i64 (wrap64 (1+t720)))) (fun _ hk=>hk.2) (.slice Ao21 y722.length co21)) (fun _ hk=>hk.1.1)⟩,⟨za6 NB707_725 BK707⟩,⟨za6 NB708_725 BK708⟩,⟨za6 NB717_725 BK717⟩,⟨by(with_reducible repeat(first|refine blk_drewN ?_ _|refine blk_drew ?_|refine blk_alloc ?_ _));refine qai (cs:=#[.int .i64 (wrap64 (1+t718)),.int .i64 (wrap64 (1+t720)),.slice none 0 0]) ?_ 2 _ rfl;(with_reducible repeat(first|refine blk_drewN ?_ _|refine blk_drew ?_|refine blk_alloc ?_ _));refine qai (cs:=#[.int .i64 (wrap64 (1+t718)),.int .i64 0,.slice none 0 0]) ?_ 1 _ rfl;(with_reducible repeat(first|refine blk_drewN ?_ _|refine blk_drew ?_|refine blk_alloc ?_ _));refine qai (cs:=#[.int .i64 0,.int .i64 0,.slice none 0 0]) ?_ 0 _ rfl;(with_reducible repeat(first|refine blk_drewN ?_ _|refine blk_drew ?_|refine blk_alloc ?_ _));exact BK725.out⟩,⟨by repeat(first|(with_reducible first|exact HI711.out|apply IsS122.alloc|apply IsS122.drewN|apply IsS122.drew|apply IsS122.set_1|refine IsS122.far ?_ NB711_707.out _|refine IsS122.far ?_ NB711_708.out _|refine IsS122.far ?_ NB711_717.out _|refine IsS122.far ?_ NB711_725.out _)|exact HI711.out)⟩,⟨by repeat(first|(with_reducible first|exact HB.out|apply qag|apply qad|apply qae|refine qac ?_ (IsS122.ge HI711.out)|refine qac ?_ GE707.out|refine qac ?_ GE708.out|refine qac ?_ GE717.out|refine qac ?_ GE725.out)|exact HB.out)⟩⟩
 case rest=>
  clear HC6
  try clear c1
  try clear c2
  try clear p2
  try clear c3
  try clear c4
  try clear c6
  try clear p6
  try clear c7
  try clear c12
  try clear c13
  try clear c14
  try clear c23
  try clear c24
  try clear c25
  try clear c26
  try clear c28
  try clear c28b0
  try clear c28b1
  try clear c34
  try clear c35
  try clear c36
  try clear c37
  try clear hcz15_0
  try clear hcz15_1
  try clear hcz27_0
  try clear hcz27_1
  try clear hcz27_2
  try clear hcz38_0
  try clear hcz38_1
  try clear hcz38_2
  try clear hfz15_0
  try clear hfz15_1
  try clear hfz27_0
  try clear hfz27_1
  try clear hfz27_2
  try clear hfz38_0
  try clear hfz38_1
  try clear hfz38_2
  obtain⟨kq,x712001_5,x726002_5,u726002,HA,HJ5,HO_718001,HO_726002,BK707,BK708,BK717,BK725,HI711,HB⟩:=hcut
  cases kq with
  |zero=>exact absurd HA.out (by simp[spec_DrawStockMay.j0])
  |succ kj5=>
   have H:=HA.out
   clear HA
   simp only[spec_DrawStockMay.j0] at H
   have HC39:=Aside0.mk H
   clear H
   go_upto_block 0 with(fail)
   go_cut [] (fun wc=>∃(kq:Nat) (x712001_38:Int) (x726001_38:Int),Aside0 (spec_DrawStockMay.j2 kq t709 x712001_38 t712 t713 (wrap64 (1+t718)) x726001_38 x726002_5=some (r1,r2,r3,r4,r5))∧Aside0 (kq≤kj5)∧Aside0 (Kd.Q k46 46 wc w.heap.size (fun k_=>(w.heap.size≤k_)) (.slice Ao16 t713.length co16) t713)∧Aside0 (Kd.R (Kd.int .i64) 3 wc w.heap.size (fun k_=>(w.heap.size≤k_)) u726002 x726002_5)∧Aside0 (wc.heap[gb707]?=some (.cells #[.int .i64 0,(.slice none 0 0)] 36 (0,0)))∧Aside0 (wc.heap[gb708]?=some (.cells #[.int .i64 0,.int .i64 0,(.slice none 0 0)] 62 (0,0)))∧Aside0 (wc.heap[gb717]?=some (.cells #[.int .i64 t712,(.slice Ao16 t713.length co16)] 36 (0,0)))∧Aside0 (wc.heap[gb725]?=some (.cells #[.int .i64 (wrap64 (1+t718)),.int .i64 x726001_38,u726002] 62 (0,0)))∧Aside0 (IsS122 w wc g711 t709 x712001_38)∧Aside0 (Below w.heap.size w wc))
   case first=>
    have H:=HC39.out
    clear HC39
    have H':=Aside0.mk H
    clear H
    go_wp2
    go_loopg [7] kj5 (fun kq v7 w'=>∃(x7_2:Int) (x712001_2:Int) (x726001_2:Int),v7=.int .i64 x7_2∧Aside0 (spec_DrawStockMay.l0 kq x7_2 t709 x712001_2 t712 t713 (wrap64 (1+t718)) x726001_2 x726002_5=some (r1,r2,r3,r4,r5))∧Aside0 (kq≤kj5)∧Aside0 (Kd.Q k46 46 w' w.heap.size (fun k_=>(w.heap.size≤k_)) (.slice Ao16 t713.length co16) t713)∧Aside0 (Kd.R (Kd.int .i64) 3 w' w.heap.size (fun k_=>(w.heap.size≤k_)) u726002 x726002_5)∧Aside0 (w'.heap[gb707]?=some (.cells #[.int .i64 0,(.slice none 0 0)] 36 (0,0)))∧Aside0 (w'.heap[gb708]?=some (.cells #[.int .i64 0,.int .i64 0,(.slice none 0 0)] 62 (0,0)))∧Aside0 (w'.heap[gb717]?=some (.cells #[.int .i64 t712,(.slice Ao16 t713.length co16)] 36 (0,0)))∧Aside0 (w'.heap[gb725]?=some (.cells #[.int .i64 (wrap64 (1+t718)),.int .i64 x726001_2,u726002] 62 (0,0)))∧Aside0 (IsS122 w w' g711 t709 x712001_2)∧Aside0 (Below w.heap.size w w'))
    case atStart=>exact⟨(0),(x712001_5),((wrap64 (1+t720))),(za17),H',⟨Nat.le_refl _⟩,⟨za18 HO_718001⟩,⟨za3 HO_726002⟩,⟨za16 BK707⟩,⟨za16 BK708⟩,⟨za16 BK717⟩,⟨za16 BK725⟩,⟨by repeat(first|(with_reducible first|exact HI711.out|apply IsS122.alloc|apply IsS122.drewN|apply IsS122.drew|apply IsS122.set_1|refine IsS122.far ?_ NB711_707.out _|refine IsS122.far ?_ NB711_708.out _|refine IsS122.far ?_ NB711_717.out _|refine IsS122.far ?_ NB711_725.out _)|exact HI711.out)⟩,⟨by repeat(first|(with_reducible first|exact HB.out|apply qag|apply qad|apply qae|refine qac ?_ (IsS122.ge HI711.out)|refine qac ?_ GE707.out|refine qac ?_ GE708.out|refine qac ?_ GE717.out|refine qac ?_ GE725.out)|exact HB.out)⟩⟩
    case round=>
     clear H'
     try clear c1
     try clear c2
     try clear p2
     try clear c3
     try clear c4
     try clear c6
     try clear p6
     try clear c7
     try clear c12
     try clear c13
     try clear c14
     try clear c23
     try clear c24
     try clear c25
     try clear c26
     try clear c28
     try clear c28b0
     try clear c28b1
     try clear c34
     try clear c35
     try clear c36
     try clear c37
     try clear hcz15_0
     try clear hcz15_1
     try clear hcz27_0
     try clear hcz27_1
     try clear hcz27_2
     try clear hcz38_0
     try clear hcz38_1
     try clear hcz38_2
     try clear hfz15_0
     try clear hfz15_1
     try clear hfz27_0
     try clear hfz27_1
     try clear hfz27_2
     try clear hfz38_0
     try clear hfz38_1
     try clear hfz38_2
     try clear p2
     try clear p6
     obtain⟨x7_2,x712001_2,x726001_2,rfl,HA,HK2,HO_718001,HO_726002,BK707,BK708,BK717,BK725,HI711,HB⟩:=hrel
     cases gk with
     |zero=>exact absurd HA.out (by simp[spec_DrawStockMay.l0])
     |succ k2=>
      have H:=HA.out
      clear HA
      simp only[spec_DrawStockMay.l0] at H
      by_cases c40:x7_2<6
      ·rw[if_pos c40] at H
       have c40b0:decide (x7_2<6)=true:=decide_eq_true c40
       clear c40
       (first|rw[c40b0]|(simp only[qaj,qak];rw[c40b0])|skip)
       replace H:=Option.bind_eq_some_iff.mp H
       obtain⟨⟨t731,t732⟩,A410,H⟩:=H
       replace H:(if t731>0 then((spec_StockMay.f k2 t712 t713 (wrap64 (1+t718)) x726001_2 x726002_5).bind fun t733=>(if t733=true then(spec_DrawStockMay.j2 k2 t709 t732 t712 t713 (wrap64 (1+t718)) x726001_2 x726002_5) else((spec_l6Rd_pick.f k2 t709 t732 6).bind fun bt734=>(spec_DrawStockMay.l0 k2 (wrap64 (x7_2+1)) t709 bt734.2 t712 t713 (wrap64 (1+t718)) (wrap64 (1+bt734.1)) x726002_5)))) else(spec_DrawStockMay.j2 k2 t709 t732 t712 t713 (wrap64 (1+t718)) x726001_2 x726002_5))=some (r1,r2,r3,r4,r5):=H
       have A41:=Aside0.mk A410
       clear A410
       by_cases c42:t731>0
       ·rw[if_pos c42] at H
        have c42b0:decide (0<t731)=true:=decide_eq_true c42
        clear c42
        replace H:=Option.bind_eq_some_iff.mp H
        obtain⟨t733,A430,H⟩:=H
        replace H:(if t733=true then(spec_DrawStockMay.j2 k2 t709 t732 t712 t713 (wrap64 (1+t718)) x726001_2 x726002_5) else((spec_l6Rd_pick.f k2 t709 t732 6).bind fun bt734=>(spec_DrawStockMay.l0 k2 (wrap64 (x7_2+1)) t709 bt734.2 t712 t713 (wrap64 (1+t718)) (wrap64 (1+bt734.1)) x726002_5)))=some (r1,r2,r3,r4,r5):=H
        have A43:=Aside0.mk A430
        clear A430
        by_cases c44:t733=true
        ·subst c44
         have H1:(spec_DrawStockMay.j2 k2 t709 t732 t712 t713 (wrap64 (1+t718)) x726001_2 x726002_5)=some (r1,r2,r3,r4,r5):=by rw[if_pos rfl] at H;exact H
         clear H
         have H:=H1
         clear H1
         have H':=Aside0.mk H
         clear H
         go_wp2_with(first|(go_at_call 65;(with_reducible refine(spec_l6Rd_pick.calls k2 g711 t709 x712001_2 8 t731 t732 w _ ?side1 ?side2 A41.out).mono ?_);(case side1=>repeat(first|(with_reducible first|exact HI711.out|apply IsS122.alloc|apply IsS122.drewN|apply IsS122.drew|apply IsS122.set_1|refine IsS122.far ?_ NB711_707.out _|refine IsS122.far ?_ NB711_708.out _|refine IsS122.far ?_ NB711_717.out _|refine IsS122.far ?_ NB711_725.out _)|exact HI711.out));(case side2=>exact(by repeat(first|(with_reducible first|exact HB.out|apply qag|apply qad|apply qae|refine qac ?_ (IsS122.ge HI711.out)|refine qac ?_ GE707.out|refine qac ?_ GE708.out|refine qac ?_ GE717.out|refine qac ?_ GE725.out)|exact HB.out)));rintro e w45 ⟨rfl,hi,hb,hk⟩;replace HO_718001:=Aside0.mk (Kd.Q_mono (Kd.Q_keep (IsS122.apartQ (show IsS122 w _ g711 t709 x712001_2 from by repeat(first|(with_reducible first|exact HI711.out|apply IsS122.alloc|apply IsS122.drewN|apply IsS122.drew|apply IsS122.set_1|refine IsS122.far ?_ NB711_707.out _|refine IsS122.far ?_ NB711_708.out _|refine IsS122.far ?_ NB711_717.out _|refine IsS122.far ?_ NB711_725.out _)|exact HI711.out)) (za18 HO_718001) (by decide)) hk (fun _ h=>h.2)) (fun _ h=>h.1));replace HO_726002:=Aside0.mk (Kd.R_mono (Kd.R_keep (IsS122.apart (show IsS122 w _ g711 t709 x712001_2 from by repeat(first|(with_reducible first|exact HI711.out|apply IsS122.alloc|apply IsS122.drewN|apply IsS122.drew|apply IsS122.set_1|refine IsS122.far ?_ NB711_707.out _|refine IsS122.far ?_ NB711_708.out _|refine IsS122.far ?_ NB711_717.out _|refine IsS122.far ?_ NB711_725.out _)|exact HI711.out)) (za3 HO_726002) (by decide)) hk (fun _ h=>h.2)) (fun _ h=>h.1));replace BK707:=Aside0.mk (KeepBut.blk hk (zB BK707) NB707_711.out (by simp));replace BK708:=Aside0.mk (KeepBut.blk hk (zB BK708) NB708_711.out (by simp));replace BK717:=Aside0.mk (KeepBut.blk hk (zB BK717) NB717_711.out (by simp));replace BK725:=Aside0.mk (KeepBut.blk hk (zB BK725) NB725_711.out (by simp));replace HB:=Aside0.mk hb;replace HI711:=Aside0.mk hi;(try clear hb);(try clear hk);(try clear hi);have hnb46:=NB717_707.out;have hnc46:=NB707_717.out;have hnb47:=NB717_708.out;have hnc47:=NB708_717.out;have hnb48:=NB717_725.out;have hnc48:=NB725_717.out;have hnb49:=NB717_711.out;have hnc49:=NB711_717.out;obtain⟨hcz50_0,hcz50_1,hfz50_0,hfz50_1⟩:=zC2 BK717;have hnb51:=NB725_707.out;have hnc51:=NB707_725.out;have hnb52:=NB725_708.out;have hnc52:=NB708_725.out;have hnb53:=NB725_711.out;have hnc53:=NB711_725.out;obtain⟨hcz54_0,hcz54_1,hcz54_2,hfz54_0,hfz54_1,hfz54_2⟩:=zC3 BK725;obtain⟨Ao55,co55,eo55⟩:=Kd.R_slice HO_726002.out;subst eo55)|(go_at_call 37;(with_reducible refine(spec_StockMay.calls k2 t712 _ _ t713 (wrap64 (1+t718)) x726001_2 _ _ x726002_5 true _ ?side1 ?side2 ?side3 ?side4 A43.out).mono ?_);(case side1=>repeat(first|exact(Kd.Q_reads' HO_718001.out).2.2|(with_reducible refine Kd.C_alloc ?_ _)|(with_reducible refine Kd.C_drewN ?_ _)|(with_reducible refine Kd.C_drew ?_)));(case side2=>exact(Kd.Q_reads' HO_718001.out).2.1);(case side3=>repeat(first|exact(Kd.R_reads' HO_726002.out).2.2|(with_reducible refine Kd.C_alloc ?_ _)|(with_reducible refine Kd.C_drewN ?_ _)|(with_reducible refine Kd.C_drew ?_)));(case side4=>exact(Kd.R_reads' HO_726002.out).2.1);rintro e w56 ⟨rfl,hb⟩;replace HO_718001:=Aside0.mk (Kd.Q_below (za18 HO_718001) hb);replace HO_726002:=Aside0.mk (Kd.R_below (za3 HO_726002) hb);replace BK707:=Aside0.mk (qaa (zB BK707) hb);replace BK708:=Aside0.mk (qaa (zB BK708) hb);replace BK717:=Aside0.mk (qaa (zB BK717) hb);replace BK725:=Aside0.mk (qaa (zB BK725) hb);replace HB:=Aside0.mk (qab (by repeat(first|(with_reducible first|exact HB.out|apply qag|apply qad|apply qae|refine qac ?_ (IsS122.ge HI711.out)|refine qac ?_ GE707.out|refine qac ?_ GE708.out|refine qac ?_ GE717.out|refine qac ?_ GE725.out)|exact HB.out)) hb);replace HI711:=Aside0.mk (IsS122.below (by repeat(first|(with_reducible first|exact HI711.out|apply IsS122.alloc|apply IsS122.drewN|apply IsS122.drew|apply IsS122.set_1|refine IsS122.far ?_ NB711_707.out _|refine IsS122.far ?_ NB711_708.out _|refine IsS122.far ?_ NB711_717.out _|refine IsS122.far ?_ NB711_725.out _)|exact HI711.out)) hb);(try clear hb);(try clear hk);(try clear hi)))
         go_meet
         case rel=>exact⟨_,(t732),(x726001_2),H',⟨by have:=HJ5.out;have:=HK2.out;first|omega|exact Nat.le_refl _⟩,⟨za18 HO_718001⟩,⟨za3 HO_726002⟩,⟨za16 BK707⟩,⟨za16 BK708⟩,⟨za16 BK717⟩,⟨za16 BK725⟩,⟨by repeat(first|(with_reducible first|exact HI711.out|apply IsS122.alloc|apply IsS122.drewN|apply IsS122.drew|apply IsS122.set_1|refine IsS122.far ?_ NB711_707.out _|refine IsS122.far ?_ NB711_708.out _|refine IsS122.far ?_ NB711_717.out _|refine IsS122.far ?_ NB711_725.out _)|exact HI711.out)⟩,⟨by repeat(first|(with_reducible first|exact HB.out|apply qag|apply qad|apply qae|refine qac ?_ (IsS122.ge HI711.out)|refine qac ?_ GE707.out|refine qac ?_ GE708.out|refine qac ?_ GE717.out|refine qac ?_ GE725.out)|exact HB.out)⟩⟩
        ·replace c44:=Bool.eq_false_iff.mpr c44
         subst c44
         have H1:((spec_l6Rd_pick.f k2 t709 t732 6).bind fun bt734=>(spec_DrawStockMay.l0 k2 (wrap64 (x7_2+1)) t709 bt734.2 t712 t713 (wrap64 (1+t718)) (wrap64 (1+bt734.1)) x726002_5))=some (r1,r2,r3,r4,r5):=by rw[if_neg (show ¬(false=true) by decide)] at H;exact H
         clear H
         have H:=H1
         clear H1
         replace H:=Option.bind_eq_some_iff.mp H
         obtain⟨⟨t734,t735⟩,A570,H⟩:=H
         replace H:(spec_DrawStockMay.l0 k2 (wrap64 (x7_2+1)) t709 t735 t712 t713 (wrap64 (1+t718)) (wrap64 (1+t734)) x726002_5)=some (r1,r2,r3,r4,r5):=H
         have A57:=Aside0.mk A570
         clear A570
         have H':=Aside0.mk H
         clear H
         go_wp2_with(first|(go_at_call 65;(with_reducible refine(spec_l6Rd_pick.calls k2 g711 t709 x712001_2 8 t731 t732 w _ ?side1 ?side2 A41.out).mono ?_);(case side1=>repeat(first|(with_reducible first|exact HI711.out|apply IsS122.alloc|apply IsS122.drewN|apply IsS122.drew|apply IsS122.set_1|refine IsS122.far ?_ NB711_707.out _|refine IsS122.far ?_ NB711_708.out _|refine IsS122.far ?_ NB711_717.out _|refine IsS122.far ?_ NB711_725.out _)|exact HI711.out));(case side2=>exact(by repeat(first|(with_reducible first|exact HB.out|apply qag|apply qad|apply qae|refine qac ?_ (IsS122.ge HI711.out)|refine qac ?_ GE707.out|refine qac ?_ GE708.out|refine qac ?_ GE717.out|refine qac ?_ GE725.out)|exact HB.out)));rintro e w58 ⟨rfl,hi,hb,hk⟩;replace HO_718001:=Aside0.mk (Kd.Q_mono (Kd.Q_keep (IsS122.apartQ (show IsS122 w _ g711 t709 x712001_2 from by repeat(first|(with_reducible first|exact HI711.out|apply IsS122.alloc|apply IsS122.drewN|apply IsS122.drew|apply IsS122.set_1|refine IsS122.far ?_ NB711_707.out _|refine IsS122.far ?_ NB711_708.out _|refine IsS122.far ?_ NB711_717.out _|refine IsS122.far ?_ NB711_725.out _)|exact HI711.out)) (za18 HO_718001) (by decide)) hk (fun _ h=>h.2)) (fun _ h=>h.1));replace HO_726002:=Aside0.mk (Kd.R_mono (Kd.R_keep (IsS122.apart (show IsS122 w _ g711 t709 x712001_2 from by repeat(first|(with_reducible first|exact HI711.out|apply IsS122.alloc|apply IsS122.drewN|apply IsS122.drew|apply IsS122.set_1|refine IsS122.far ?_ NB711_707.out _|refine IsS122.far ?_ NB711_708.out _|refine IsS122.far ?_ NB711_717.out _|refine IsS122.far ?_ NB711_725.out _)|exact HI711.out)) (za3 HO_726002) (by decide)) hk (fun _ h=>h.2)) (fun _ h=>h.1));replace BK707:=Aside0.mk (KeepBut.blk hk (zB BK707) NB707_711.out (by simp));replace BK708:=Aside0.mk (KeepBut.blk hk (zB BK708) NB708_711.out (by simp));replace BK717:=Aside0.mk (KeepBut.blk hk (zB BK717) NB717_711.out (by simp));replace BK725:=Aside0.mk (KeepBut.blk hk (zB BK725) NB725_711.out (by simp));replace HB:=Aside0.mk hb;replace HI711:=Aside0.mk hi;(try clear hb);(try clear hk);(try clear hi);have hnb59:=NB717_707.out;have hnc59:=NB707_717.out;have hnb60:=NB717_708.out;have hnc60:=NB708_717.out;have hnb61:=NB717_725.out;have hnc61:=NB725_717.out;have hnb62:=NB717_711.out;have hnc62:=NB711_717.out;obtain⟨hcz63_0,hcz63_1,hfz63_0,hfz63_1⟩:=zC2 BK717;have hnb64:=NB725_707.out;have hnc64:=NB707_725.out;have hnb65:=NB725_708.out;have hnc65:=NB708_725.out;have hnb66:=NB725_711.out;have hnc66:=NB711_725.out;obtain⟨hcz67_0,hcz67_1,hcz67_2,hfz67_0,hfz67_1,hfz67_2⟩:=zC3 BK725;obtain⟨Ao68,co68,eo68⟩:=Kd.R_slice HO_726002.out;subst eo68)|(go_at_call 37;(with_reducible refine(spec_StockMay.calls k2 t712 _ _ t713 (wrap64 (1+t718)) x726001_2 _ _ x726002_5 false _ ?side1 ?side2 ?side3 ?side4 A43.out).mono ?_);(case side1=>repeat(first|exact(Kd.Q_reads' HO_718001.out).2.2|(with_reducible refine Kd.C_alloc ?_ _)|(with_reducible refine Kd.C_drewN ?_ _)|(with_reducible refine Kd.C_drew ?_)));(case side2=>exact(Kd.Q_reads' HO_718001.out).2.1);(case side3=>repeat(first|exact(Kd.R_reads' HO_726002.out).2.2|(with_reducible refine Kd.C_alloc ?_ _)|(with_reducible refine Kd.C_drewN ?_ _)|(with_reducible refine Kd.C_drew ?_)));(case side4=>exact(Kd.R_reads' HO_726002.out).2.1);rintro e w69 ⟨rfl,hb⟩;replace HO_718001:=Aside0.mk (Kd.Q_below (za18 HO_718001) hb);replace HO_726002:=Aside0.mk (Kd.R_below (za3 HO_726002) hb);replace BK707:=Aside0.mk (qaa (zB BK707) hb);replace BK708:=Aside0.mk (qaa (zB BK708) hb);replace BK717:=Aside0.mk (qaa (zB BK717) hb);replace BK725:=Aside0.mk (qaa (zB BK725) hb);replace HB:=Aside0.mk (qab (by repeat(first|(with_reducible first|exact HB.out|apply qag|apply qad|apply qae|refine qac ?_ (IsS122.ge HI711.out)|refine qac ?_ GE707.out|refine qac ?_ GE708.out|refine qac ?_ GE717.out|refine qac ?_ GE725.out)|exact HB.out)) hb);replace HI711:=Aside0.mk (IsS122.below (by repeat(first|(with_reducible first|exact HI711.out|apply IsS122.alloc|apply IsS122.drewN|apply IsS122.drew|apply IsS122.set_1|refine IsS122.far ?_ NB711_707.out _|refine IsS122.far ?_ NB711_708.out _|refine IsS122.far ?_ NB711_717.out _|refine IsS122.far ?_ NB711_725.out _)|exact HI711.out)) hb);(try clear hb);(try clear hk);(try clear hi))|((with_reducible refine qaf (f:=65) rfl ?_);refine zF (some 44) Try.func65 #[.pointer (some ⟨g711,0,none⟩),.int .i64 6] ?_;(with_reducible refine(spec_l6Rd_pick.calls k2 g711 t709 t732 6 t734 t735 w _ ?side1 ?side2 A57.out).mono ?_);(case side1=>repeat(first|(with_reducible first|exact HI711.out|apply IsS122.alloc|apply IsS122.drewN|apply IsS122.drew|apply IsS122.set_1|refine IsS122.far ?_ NB711_707.out _|refine IsS122.far ?_ NB711_708.out _|refine IsS122.far ?_ NB711_717.out _|refine IsS122.far ?_ NB711_725.out _)|exact HI711.out));(case side2=>exact(by repeat(first|(with_reducible first|exact HB.out|apply qag|apply qad|apply qae|refine qac ?_ (IsS122.ge HI711.out)|refine qac ?_ GE707.out|refine qac ?_ GE708.out|refine qac ?_ GE717.out|refine qac ?_ GE725.out)|exact HB.out)));rintro e w70 ⟨rfl,hi,hb,hk⟩;refine⟨_,rfl,?_⟩;replace HO_718001:=Aside0.mk (Kd.Q_mono (Kd.Q_keep (IsS122.apartQ (show IsS122 w _ g711 t709 t732 from by repeat(first|(with_reducible first|exact HI711.out|apply IsS122.alloc|apply IsS122.drewN|apply IsS122.drew|apply IsS122.set_1|refine IsS122.far ?_ NB711_707.out _|refine IsS122.far ?_ NB711_708.out _|refine IsS122.far ?_ NB711_717.out _|refine IsS122.far ?_ NB711_725.out _)|exact HI711.out)) (za18 HO_718001) (by decide)) hk (fun _ h=>h.2)) (fun _ h=>h.1));replace HO_726002:=Aside0.mk (Kd.R_mono (Kd.R_keep (IsS122.apart (show IsS122 w _ g711 t709 t732 from by repeat(first|(with_reducible first|exact HI711.out|apply IsS122.alloc|apply IsS122.drewN|apply IsS122.drew|apply IsS122.set_1|refine IsS122.far ?_ NB711_707.out _|refine IsS122.far ?_ NB711_708.out _|refine IsS122.far ?_ NB711_717.out _|refine IsS122.far ?_ NB711_725.out _)|exact HI711.out)) (za3 HO_726002) (by decide)) hk (fun _ h=>h.2)) (fun _ h=>h.1));replace BK707:=Aside0.mk (KeepBut.blk hk (zB BK707) NB707_711.out (by simp));replace BK708:=Aside0.mk (KeepBut.blk hk (zB BK708) NB708_711.out (by simp));replace BK717:=Aside0.mk (KeepBut.blk hk (zB BK717) NB717_711.out (by simp));replace BK725:=Aside0.mk (KeepBut.blk hk (zB BK725) NB725_711.out (by simp));replace HB:=Aside0.mk hb;replace HI711:=Aside0.mk hi;(try clear hb);(try clear hk);(try clear hi);obtain⟨hcz71_0,hcz71_1,hcz71_2,hfz71_0,hfz71_1,hfz71_2⟩:=zC3 BK725))
         go_roundg k2
         case measure=>have:=HJ5.out;have:=HK2.out;omega
         case rel=>exact⟨(wrap64 (x7_2+1)),(t735),(wrap64 (1+t734)),(za17),H',⟨by have:=HJ5.out;have:=HK2.out;omega⟩,⟨by(with_reducible repeat(first|apply Kd.Q_alloc|apply Kd.Q_drewN|apply Kd.Q_drew));exact Kd.Q_mono (Kd.Q_far (p:=⟨gb725,1,none⟩) (Kd.Q_types HO_718001.out BK725.out (by decide)) (fun _ hk=>hk.2) (.int .i64 (wrap64 (1+t734)))) (fun _ hk=>hk.1)⟩,⟨by(with_reducible repeat(first|apply Kd.R_alloc|apply Kd.R_drewN|apply Kd.R_drew));exact Kd.R_mono (Kd.R_far (p:=⟨gb725,1,none⟩) (Kd.R_types HO_726002.out BK725.out (by decide)) (fun _ hk=>hk.2) (.int .i64 (wrap64 (1+t734)))) (fun _ hk=>hk.1)⟩,⟨za15 NB707_725 BK707⟩,⟨za15 NB708_725 BK708⟩,⟨za15 NB717_725 BK717⟩,⟨by(with_reducible repeat(first|refine blk_drewN ?_ _|refine blk_drew ?_|refine blk_alloc ?_ _));refine qai (cs:=#[.int .i64 (wrap64 (1+t718)),.int .i64 x726001_2,.slice Ao68 x726002_5.length co68]) ?_ 1 _ rfl;(with_reducible repeat(first|refine blk_drewN ?_ _|refine blk_drew ?_|refine blk_alloc ?_ _));exact BK725.out⟩,⟨by repeat(first|(with_reducible first|exact HI711.out|apply IsS122.alloc|apply IsS122.drewN|apply IsS122.drew|apply IsS122.set_1|refine IsS122.far ?_ NB711_707.out _|refine IsS122.far ?_ NB711_708.out _|refine IsS122.far ?_ NB711_717.out _|refine IsS122.far ?_ NB711_725.out _)|exact HI711.out)⟩,⟨by repeat(first|(with_reducible first|exact HB.out|apply qag|apply qad|apply qae|refine qac ?_ (IsS122.ge HI711.out)|refine qac ?_ GE707.out|refine qac ?_ GE708.out|refine qac ?_ GE717.out|refine qac ?_ GE725.out)|exact HB.out)⟩⟩
       ·rw[if_neg c42] at H
        have c42b0:decide (0<t731)=false:=decide_eq_false c42
        clear c42
        have H':=Aside0.mk H
        clear H
        go_wp2_with(first|(go_at_call 65;(with_reducible refine(spec_l6Rd_pick.calls k2 g711 t709 x712001_2 8 t731 t732 w _ ?side1 ?side2 A41.out).mono ?_);(case side1=>repeat(first|(with_reducible first|exact HI711.out|apply IsS122.alloc|apply IsS122.drewN|apply IsS122.drew|apply IsS122.set_1|refine IsS122.far ?_ NB711_707.out _|refine IsS122.far ?_ NB711_708.out _|refine IsS122.far ?_ NB711_717.out _|refine IsS122.far ?_ NB711_725.out _)|exact HI711.out));(case side2=>exact(by repeat(first|(with_reducible first|exact HB.out|apply qag|apply qad|apply qae|refine qac ?_ (IsS122.ge HI711.out)|refine qac ?_ GE707.out|refine qac ?_ GE708.out|refine qac ?_ GE717.out|refine qac ?_ GE725.out)|exact HB.out)));rintro e w72 ⟨rfl,hi,hb,hk⟩;replace HO_718001:=Aside0.mk (Kd.Q_mono (Kd.Q_keep (IsS122.apartQ (show IsS122 w _ g711 t709 x712001_2 from by repeat(first|(with_reducible first|exact HI711.out|apply IsS122.alloc|apply IsS122.drewN|apply IsS122.drew|apply IsS122.set_1|refine IsS122.far ?_ NB711_707.out _|refine IsS122.far ?_ NB711_708.out _|refine IsS122.far ?_ NB711_717.out _|refine IsS122.far ?_ NB711_725.out _)|exact HI711.out)) (za18 HO_718001) (by decide)) hk (fun _ h=>h.2)) (fun _ h=>h.1));replace HO_726002:=Aside0.mk (Kd.R_mono (Kd.R_keep (IsS122.apart (show IsS122 w _ g711 t709 x712001_2 from by repeat(first|(with_reducible first|exact HI711.out|apply IsS122.alloc|apply IsS122.drewN|apply IsS122.drew|apply IsS122.set_1|refine IsS122.far ?_ NB711_707.out _|refine IsS122.far ?_ NB711_708.out _|refine IsS122.far ?_ NB711_717.out _|refine IsS122.far ?_ NB711_725.out _)|exact HI711.out)) (za3 HO_726002) (by decide)) hk (fun _ h=>h.2)) (fun _ h=>h.1));replace BK707:=Aside0.mk (KeepBut.blk hk (zB BK707) NB707_711.out (by simp));replace BK708:=Aside0.mk (KeepBut.blk hk (zB BK708) NB708_711.out (by simp));replace BK717:=Aside0.mk (KeepBut.blk hk (zB BK717) NB717_711.out (by simp));replace BK725:=Aside0.mk (KeepBut.blk hk (zB BK725) NB725_711.out (by simp));replace HB:=Aside0.mk hb;replace HI711:=Aside0.mk hi;(try clear hb);(try clear hk);(try clear hi)))
        go_meet
        case rel=>exact⟨_,(t732),(x726001_2),H',⟨by have:=HJ5.out;have:=HK2.out;first|omega|exact Nat.le_refl _⟩,⟨za18 HO_718001⟩,⟨za3 HO_726002⟩,⟨za16 BK707⟩,⟨za16 BK708⟩,⟨za16 BK717⟩,⟨za16 BK725⟩,⟨by repeat(first|(with_reducible first|exact HI711.out|apply IsS122.alloc|apply IsS122.drewN|apply IsS122.drew|apply IsS122.set_1|refine IsS122.far ?_ NB711_707.out _|refine IsS122.far ?_ NB711_708.out _|refine IsS122.far ?_ NB711_717.out _|refine IsS122.far ?_ NB711_725.out _)|exact HI711.out)⟩,⟨by repeat(first|(with_reducible first|exact HB.out|apply qag|apply qad|apply qae|refine qac ?_ (IsS122.ge HI711.out)|refine qac ?_ GE707.out|refine qac ?_ GE708.out|refine qac ?_ GE717.out|refine qac ?_ GE725.out)|exact HB.out)⟩⟩
      ·rw[if_neg c40] at H
       have c40b0:decide (x7_2<6)=false:=decide_eq_false c40
       clear c40
       (first|rw[c40b0]|(simp only[qaj,qak];rw[c40b0])|skip)
       have H':=Aside0.mk H
       clear H
       go_wp2
       go_meet
       case rel=>exact⟨_,(x712001_2),(x726001_2),H',⟨by have:=HJ5.out;have:=HK2.out;first|omega|exact Nat.le_refl _⟩,⟨za18 HO_718001⟩,⟨za3 HO_726002⟩,⟨za16 BK707⟩,⟨za16 BK708⟩,⟨za16 BK717⟩,⟨za16 BK725⟩,⟨by repeat(first|(with_reducible first|exact HI711.out|apply IsS122.alloc|apply IsS122.drewN|apply IsS122.drew|apply IsS122.set_1|refine IsS122.far ?_ NB711_707.out _|refine IsS122.far ?_ NB711_708.out _|refine IsS122.far ?_ NB711_717.out _|refine IsS122.far ?_ NB711_725.out _)|exact HI711.out)⟩,⟨by repeat(first|(with_reducible first|exact HB.out|apply qag|apply qad|apply qae|refine qac ?_ (IsS122.ge HI711.out)|refine qac ?_ GE707.out|refine qac ?_ GE708.out|refine qac ?_ GE717.out|refine qac ?_ GE725.out)|exact HB.out)⟩⟩
   case rest=>
    clear HC39
    try clear c1
    try clear c2
    try clear p2
    try clear c3
    try clear c4
    try clear c5
    try clear c6
    try clear p6
    try clear c7
    try clear c12
    try clear c13
    try clear c14
    try clear c23
    try clear c24
    try clear c25
    try clear c26
    try clear c28
    try clear c28b0
    try clear c28b1
    try clear c34
    try clear c35
    try clear c36
    try clear c37
    try clear c40
    try clear c40b0
    try clear c42
    try clear c42b0
    try clear c43
    try clear c44
    try clear c46
    try clear c47
    try clear c48
    try clear c49
    try clear c51
    try clear c52
    try clear c53
    try clear c59
    try clear c60
    try clear c61
    try clear c62
    try clear c64
    try clear p64
    try clear c65
    try clear c66
    try clear c71
    try clear hcz15_0
    try clear hcz15_1
    try clear hcz27_0
    try clear hcz27_1
    try clear hcz27_2
    try clear hcz38_0
    try clear hcz38_1
    try clear hcz38_2
    try clear hcz50_0
    try clear hcz50_1
    try clear hcz54_0
    try clear hcz54_1
    try clear hcz54_2
    try clear hcz63_0
    try clear hcz63_1
    try clear hcz67_0
    try clear hcz67_1
    try clear hcz67_2
    try clear hcz71_0
    try clear hcz71_1
    try clear hcz71_2
    try clear hfz15_0
    try clear hfz15_1
    try clear hfz27_0
    try clear hfz27_1
    try clear hfz27_2
    try clear hfz38_0
    try clear hfz38_1
    try clear hfz38_2
    try clear hfz50_0
    try clear hfz50_1
    try clear hfz54_0
    try clear hfz54_1
    try clear hfz54_2
    try clear hfz63_0
    try clear hfz63_1
    try clear hfz67_0
    try clear hfz67_1
    try clear hfz67_2
    try clear hfz71_0
    try clear hfz71_1
    try clear hfz71_2
    try clear p2
    try clear p6
    obtain⟨kq,x712001_38,x726001_38,HA,HJ38,HO_718001,HO_726002,BK707,BK708,BK717,BK725,HI711,HB⟩:=hcut
    cases kq with
    |zero=>exact absurd HA.out (by simp[spec_DrawStockMay.j2])
    |succ kj38=>
     have H:=HA.out
     clear HA
     simp only[spec_DrawStockMay.j2] at H
     replace H:=Option.bind_eq_some_iff.mp H
     obtain⟨⟨t736,t737⟩,A730,H⟩:=H
     replace H:(if t736=0 then((spec_l71RecV.f kj38 t709 t737).bind fun bt738=>(some (t712,t713,bt738.1,bt738.2.1,bt738.2.2.1))) else(some (t712,t713,(wrap64 (1+t718)),x726001_38,x726002_5)))=some (r1,r2,r3,r4,r5):=H
     have A73:=Aside0.mk A730
     clear A730
     by_cases c74:t736=0
     ·rw[if_pos c74] at H
      have c74b0:(t736 == 0)=true:=beq_iff_eq.mpr c74
      have c74b1:(t736 != 0)=false:=bne_eq_false_iff_eq.mpr c74
      clear c74
      replace H:=Option.bind_eq_some_iff.mp H
      obtain⟨⟨t738,t739,t740,t743⟩,A750,H⟩:=H
      replace H:(some (t712,t713,t738,t739,t740))=some (r1,r2,r3,r4,r5):=H
      have A75:=Aside0.mk A750
      clear A750
      simp only[Option.some.injEq,Prod.mk.injEq] at H
      obtain⟨rfl,rfl,rfl,rfl,rfl⟩:=H
      try go_wp2_with(first|((with_reducible refine qaf (f:=65) rfl ?_);refine zF (some 48) Try.func65 #[.pointer (some ⟨g711,0,none⟩),.int .i64 12] ?_;(with_reducible refine(spec_l6Rd_pick.calls kj38 g711 t709 x712001_38 12 t736 t737 w _ ?side1 ?side2 A73.out).mono ?_);(case side1=>repeat(first|(with_reducible first|exact HI711.out|apply IsS122.alloc|apply IsS122.drewN|apply IsS122.drew|apply IsS122.set_1|refine IsS122.far ?_ NB711_707.out _|refine IsS122.far ?_ NB711_708.out _|refine IsS122.far ?_ NB711_717.out _|refine IsS122.far ?_ NB711_725.out _)|exact HI711.out));(case side2=>exact(by repeat(first|(with_reducible first|exact HB.out|apply qag|apply qad|apply qae|refine qac ?_ (IsS122.ge HI711.out)|refine qac ?_ GE707.out|refine qac ?_ GE708.out|refine qac ?_ GE717.out|refine qac ?_ GE725.out)|exact HB.out)));rintro e w76 ⟨rfl,hi,hb,hk⟩;refine⟨_,rfl,?_⟩;replace HO_718001:=Aside0.mk (Kd.Q_mono (Kd.Q_keep (IsS122.apartQ (show IsS122 w _ g711 t709 x712001_38 from by repeat(first|(with_reducible first|exact HI711.out|apply IsS122.alloc|apply IsS122.drewN|apply IsS122.drew|apply IsS122.set_1|refine IsS122.far ?_ NB711_707.out _|refine IsS122.far ?_ NB711_708.out _|refine IsS122.far ?_ NB711_717.out _|refine IsS122.far ?_ NB711_725.out _)|exact HI711.out)) (za18 HO_718001) (by decide)) hk (fun _ h=>h.2)) (fun _ h=>h.1));replace HO_726002:=Aside0.mk (Kd.R_mono (Kd.R_keep (IsS122.apart (show IsS122 w _ g711 t709 x712001_38 from by repeat(first|(with_reducible first|exact HI711.out|apply IsS122.alloc|apply IsS122.drewN|apply IsS122.drew|apply IsS122.set_1|refine IsS122.far ?_ NB711_707.out _|refine IsS122.far ?_ NB711_708.out _|refine IsS122.far ?_ NB711_717.out _|refine IsS122.far ?_ NB711_725.out _)|exact HI711.out)) (za3 HO_726002) (by decide)) hk (fun _ h=>h.2)) (fun _ h=>h.1));replace BK707:=Aside0.mk (KeepBut.blk hk (zB BK707) NB707_711.out (by simp));replace BK708:=Aside0.mk (KeepBut.blk hk (zB BK708) NB708_711.out (by simp));replace BK717:=Aside0.mk (KeepBut.blk hk (zB BK717) NB717_711.out (by simp));replace BK725:=Aside0.mk (KeepBut.blk hk (zB BK725) NB725_711.out (by simp));replace HB:=Aside0.mk hb;replace HI711:=Aside0.mk hi;(try clear hb);(try clear hk);(try clear hi))|((with_reducible refine qaf (f:=85) rfl ?_);refine zF (some 51) Try.func85 #[.pointer (some ⟨g711,0,none⟩)] ?_;(with_reducible refine(spec_l71RecV.calls kj38 g711 t709 t737 t738 t739 t740 t743 w _ ?side1 ?side2 A75.out).mono ?_);(case side1=>repeat(first|(with_reducible first|exact HI711.out|apply IsS122.alloc|apply IsS122.drewN|apply IsS122.drew|apply IsS122.set_1|refine IsS122.far ?_ NB711_707.out _|refine IsS122.far ?_ NB711_708.out _|refine IsS122.far ?_ NB711_717.out _|refine IsS122.far ?_ NB711_725.out _)|exact HI711.out));(case side2=>exact(by repeat(first|(with_reducible first|exact HB.out|apply qag|apply qad|apply qae|refine qac ?_ (IsS122.ge HI711.out)|refine qac ?_ GE707.out|refine qac ?_ GE708.out|refine qac ?_ GE717.out|refine qac ?_ GE725.out)|exact HB.out)));rintro e w77 ⟨v741,rfl,ho0,hi,hb,hk⟩;refine⟨_,rfl,?_⟩;have HO742:=Aside0.mk (Kd.V_lower (Kd.V_mono (ok':=fun k_=>(w.heap.size≤k_)∧some k_≠(.slice Ao16 t713.length co16:Value).ownBlock∧some k_≠(u726002:Value).ownBlock∧k_≠gb707∧k_≠gb708∧k_≠gb717∧k_≠gb725∧k_≠g711) ho0 (fun k_ hk_=>⟨(Nat.le_trans (below_size (by repeat(first|(with_reducible first|exact HB.out|apply qag|apply qad|apply qae|refine qac ?_ (IsS122.ge HI711.out)|refine qac ?_ GE707.out|refine qac ?_ GE708.out|refine qac ?_ GE717.out|refine qac ?_ GE725.out)|exact HB.out))) hk_),(Kd.fresh' (Kd.Q_lt (za18 HO_718001)) k_ hk_),(Kd.fresh' (Kd.R_lt (za3 HO_726002)) k_ hk_),(Kd.freshB (zB BK707) k_ hk_),(Kd.freshB (zB BK708) k_ hk_),(Kd.freshB (zB BK717) k_ hk_),(Kd.freshB (zB BK725) k_ hk_),(IsS122.fresh (by repeat(first|(with_reducible first|exact HI711.out|apply IsS122.alloc|apply IsS122.drewN|apply IsS122.drew|apply IsS122.set_1|refine IsS122.far ?_ NB711_707.out _|refine IsS122.far ?_ NB711_708.out _|refine IsS122.far ?_ NB711_717.out _|refine IsS122.far ?_ NB711_725.out _)|exact HI711.out)) k_ hk_)⟩)) (below_size (by repeat(first|(with_reducible first|exact HB.out|apply qag|apply qad|apply qae|refine qac ?_ (IsS122.ge HI711.out)|refine qac ?_ GE707.out|refine qac ?_ GE708.out|refine qac ?_ GE717.out|refine qac ?_ GE725.out)|exact HB.out))));replace HO_718001:=Aside0.mk (Kd.Q_mono (Kd.Q_keep (IsS122.apartQ (show IsS122 w _ g711 t709 t737 from by repeat(first|(with_reducible first|exact HI711.out|apply IsS122.alloc|apply IsS122.drewN|apply IsS122.drew|apply IsS122.set_1|refine IsS122.far ?_ NB711_707.out _|refine IsS122.far ?_ NB711_708.out _|refine IsS122.far ?_ NB711_717.out _|refine IsS122.far ?_ NB711_725.out _)|exact HI711.out)) (za18 HO_718001) (by decide)) hk (fun _ h=>h.2)) (fun _ h=>h.1));replace HO_726002:=Aside0.mk (Kd.R_mono (Kd.R_keep (IsS122.apart (show IsS122 w _ g711 t709 t737 from by repeat(first|(with_reducible first|exact HI711.out|apply IsS122.alloc|apply IsS122.drewN|apply IsS122.drew|apply IsS122.set_1|refine IsS122.far ?_ NB711_707.out _|refine IsS122.far ?_ NB711_708.out _|refine IsS122.far ?_ NB711_717.out _|refine IsS122.far ?_ NB711_725.out _)|exact HI711.out)) (za3 HO_726002) (by decide)) hk (fun _ h=>h.2)) (fun _ h=>h.1));replace BK707:=Aside0.mk (KeepBut.blk hk (zB BK707) NB707_711.out (by simp));replace BK708:=Aside0.mk (KeepBut.blk hk (zB BK708) NB708_711.out (by simp));replace BK717:=Aside0.mk (KeepBut.blk hk (zB BK717) NB717_711.out (by simp));replace BK725:=Aside0.mk (KeepBut.blk hk (zB BK725) NB725_711.out (by simp));replace HB:=Aside0.mk hb;replace HI711:=Aside0.mk hi;(try clear hb);(try clear hk);(try clear hi);(try clear ho0);have hnb78:=NB725_707.out;have hnc78:=NB707_725.out;have hnb79:=NB725_708.out;have hnc79:=NB708_725.out;have hnb80:=NB725_717.out;have hnc80:=NB717_725.out;have hnb81:=NB725_711.out;have hnc81:=NB711_725.out;obtain⟨hcz82_0,hcz82_1,hcz82_2,hfz82_0,hfz82_1,hfz82_2⟩:=zC3 BK725;obtain⟨Ao83,co83,eo83⟩:=Kd.V_slice HO742.out;subst eo83))
      have n0_:Aside0 (Kd.Q k46 46 (((w77.setCell ⟨gb725,0,none⟩ (.int .i64 t738)).setCell ⟨gb725,1,none⟩ (.int .i64 t739)).setCell ⟨gb725,2,none⟩ (.slice Ao83 t740.length co83)) w.heap.size (fun k_=>(w.heap.size≤k_)) (.slice Ao16 t713.length co16) t713):=⟨by(with_reducible repeat(first|apply Kd.Q_alloc|apply Kd.Q_drewN|apply Kd.Q_drew));exact Kd.Q_mono (Kd.Q_far (p:=⟨gb725,2,none⟩) (Kd.Q_far (p:=⟨gb725,1,none⟩) (Kd.Q_far (p:=⟨gb725,0,none⟩) (Kd.Q_types HO_718001.out BK725.out (by decide)) (fun _ hk=>hk.2) (.int .i64 t738)) (fun _ hk=>hk.2) (.int .i64 t739)) (fun _ hk=>hk.2) (.slice Ao83 t740.length co83)) (fun _ hk=>hk.1)⟩
      have n1_:Aside0 (Kd.R (Kd.int .i64) 3 (((w77.setCell ⟨gb725,0,none⟩ (.int .i64 t738)).setCell ⟨gb725,1,none⟩ (.int .i64 t739)).setCell ⟨gb725,2,none⟩ (.slice Ao83 t740.length co83)) w.heap.size (fun k_=>(w.heap.size≤k_)) u726002 x726002_5):=⟨by(with_reducible repeat(first|apply Kd.R_alloc|apply Kd.R_drewN|apply Kd.R_drew));exact Kd.R_mono (Kd.R_far (p:=⟨gb725,2,none⟩) (Kd.R_far (p:=⟨gb725,1,none⟩) (Kd.R_far (p:=⟨gb725,0,none⟩) (Kd.R_types HO_726002.out BK725.out (by decide)) (fun _ hk=>hk.2) (.int .i64 t738)) (fun _ hk=>hk.2) (.int .i64 t739)) (fun _ hk=>hk.2) (.slice Ao83 t740.length co83)) (fun _ hk=>hk.1)⟩
      have n2_:Aside0 (Kd.V (Kd.int .i64) 3 (((w77.setCell ⟨gb725,0,none⟩ (.int .i64 t738)).setCell ⟨gb725,1,none⟩ (.int .i64 t739)).setCell ⟨gb725,2,none⟩ (.slice Ao83 t740.length co83)) w.heap.size (fun k_=>(w.heap.size≤k_)∧some k_≠(.slice Ao16 t713.length co16:Value).ownBlock∧some k_≠(u726002:Value).ownBlock∧k_≠gb707∧k_≠gb708∧k_≠gb717∧k_≠gb725∧k_≠g711) (.slice Ao83 t740.length co83) t740):=⟨by(with_reducible repeat(first|apply Kd.V_alloc|apply Kd.V_drewN|apply Kd.V_drew));exact Kd.V_mono (Kd.V_far (p:=⟨gb725,2,none⟩) (Kd.V_far (p:=⟨gb725,1,none⟩) (Kd.V_far (p:=⟨gb725,0,none⟩) (Kd.V_mono HO742.out (fun k_ hk=>(⟨hk,hk.2.2.2.2.2.2.1⟩:_∧k_≠gb725))) (fun _ hk=>hk.2) (.int .i64 t738)) (fun _ hk=>hk.2) (.int .i64 t739)) (fun _ hk=>hk.2) (.slice Ao83 t740.length co83)) (fun _ hk=>⟨hk.1.1,⟨hk.1.2.1,⟨hk.1.2.2.1,⟨hk.1.2.2.2.1,⟨hk.1.2.2.2.2.1,⟨hk.1.2.2.2.2.2.1,⟨hk.1.2.2.2.2.2.2.1,hk.1.2.2.2.2.2.2.2⟩⟩⟩⟩⟩⟩⟩)⟩
      have n3_:Aside0 ((((w77.setCell ⟨gb725,0,none⟩ (.int .i64 t738)).setCell ⟨gb725,1,none⟩ (.int .i64 t739)).setCell ⟨gb725,2,none⟩ (.slice Ao83 t740.length co83)).heap[gb707]?=some (.cells #[.int .i64 0,.slice none 0 0] 36 (0,0))):=⟨za6 NB707_725 BK707⟩
      have n4_:Aside0 ((((w77.setCell ⟨gb725,0,none⟩ (.int .i64 t738)).setCell ⟨gb725,1,none⟩ (.int .i64 t739)).setCell ⟨gb725,2,none⟩ (.slice Ao83 t740.length co83)).heap[gb708]?=some (.cells #[.int .i64 0,.int .i64 0,.slice none 0 0] 62 (0,0))):=⟨za6 NB708_725 BK708⟩
      have n5_:Aside0 ((((w77.setCell ⟨gb725,0,none⟩ (.int .i64 t738)).setCell ⟨gb725,1,none⟩ (.int .i64 t739)).setCell ⟨gb725,2,none⟩ (.slice Ao83 t740.length co83)).heap[gb717]?=some (.cells #[.int .i64 t712,.slice Ao16 t713.length co16] 36 (0,0))):=⟨za6 NB717_725 BK717⟩
      have n6_:Aside0 ((((w77.setCell ⟨gb725,0,none⟩ (.int .i64 t738)).setCell ⟨gb725,1,none⟩ (.int .i64 t739)).setCell ⟨gb725,2,none⟩ (.slice Ao83 t740.length co83)).heap[gb725]?=some (.cells #[.int .i64 t738,.int .i64 t739,.slice Ao83 t740.length co83] 62 (0,0))):=⟨by(with_reducible repeat(first|refine blk_drewN ?_ _|refine blk_drew ?_|refine blk_alloc ?_ _));refine qai (cs:=#[.int .i64 t738,.int .i64 t739,u726002]) ?_ 2 _ rfl;(with_reducible repeat(first|refine blk_drewN ?_ _|refine blk_drew ?_|refine blk_alloc ?_ _));refine qai (cs:=#[.int .i64 t738,.int .i64 x726001_38,u726002]) ?_ 1 _ rfl;(with_reducible repeat(first|refine blk_drewN ?_ _|refine blk_drew ?_|refine blk_alloc ?_ _));refine qai (cs:=#[.int .i64 (wrap64 (1+t718)),.int .i64 x726001_38,u726002]) ?_ 0 _ rfl;(with_reducible repeat(first|refine blk_drewN ?_ _|refine blk_drew ?_|refine blk_alloc ?_ _));exact BK725.out⟩
      have n7_:Aside0 (IsS122 w (((w77.setCell ⟨gb725,0,none⟩ (.int .i64 t738)).setCell ⟨gb725,1,none⟩ (.int .i64 t739)).setCell ⟨gb725,2,none⟩ (.slice Ao83 t740.length co83)) g711 t709 t743):=⟨by repeat(first|(with_reducible first|exact HI711.out|apply IsS122.alloc|apply IsS122.drewN|apply IsS122.drew|apply IsS122.set_1|refine IsS122.far ?_ NB711_707.out _|refine IsS122.far ?_ NB711_708.out _|refine IsS122.far ?_ NB711_717.out _|refine IsS122.far ?_ NB711_725.out _)|exact HI711.out)⟩
      have n8_:Aside0 (Below w.heap.size w (((w77.setCell ⟨gb725,0,none⟩ (.int .i64 t738)).setCell ⟨gb725,1,none⟩ (.int .i64 t739)).setCell ⟨gb725,2,none⟩ (.slice Ao83 t740.length co83))):=⟨by repeat(first|(with_reducible first|exact HB.out|apply qag|apply qad|apply qae|refine qac ?_ (IsS122.ge HI711.out)|refine qac ?_ GE707.out|refine qac ?_ GE708.out|refine qac ?_ GE717.out|refine qac ?_ GE725.out)|exact HB.out)⟩
      (try clear HO_718001)
      (try clear HO_726002)
      (try clear HO742)
      (try clear BK707)
      (try clear BK708)
      (try clear BK717)
      (try clear BK725)
      (try clear HI711)
      (try clear HB)
      generalize (((w77.setCell ⟨gb725,0,none⟩ (.int .i64 t738)).setCell ⟨gb725,1,none⟩ (.int .i64 t739)).setCell ⟨gb725,2,none⟩ (.slice Ao83 t740.length co83))=w84 at n0_ n1_ n2_ n3_ n4_ n5_ n6_ n7_ n8_ ⊢
      have HO_718001:=n0_
      have HO_726002:=n1_
      have HO742:=n2_
      have BK707:=n3_
      have BK708:=n4_
      have BK717:=n5_
      have BK725:=n6_
      have HI711:=n7_
      have HB:=n8_
      clear n0_ n1_ n2_ n3_ n4_ n5_ n6_ n7_ n8_
      replace HO_718001:=Aside0.mk (Kd.Q_drew HO_718001.out)
      replace HO_726002:=Aside0.mk (Kd.R_drew HO_726002.out)
      replace HO742:=Aside0.mk (Kd.V_drew HO742.out)
      replace BK707:=Aside0.mk (blk_drew BK707.out)
      replace BK708:=Aside0.mk (blk_drew BK708.out)
      replace BK717:=Aside0.mk (blk_drew BK717.out)
      replace BK725:=Aside0.mk (blk_drew BK725.out)
      replace HI711:=Aside0.mk (IsS122.drew HI711.out)
      replace HB:=Aside0.mk (qae HB.out)
      refine start_ (n:=4) (S:=fun w'=>w'.cell? ⟨gb717,0,none⟩=some (.int .i64 t712)∧w'.cell? ⟨gb717,1,none⟩=some (.slice Ao16 t713.length co16)∧w'.cell? ⟨gb725,0,none⟩=some (.int .i64 t738)∧w'.cell? ⟨gb725,1,none⟩=some (.int .i64 t739)∧w'.cell? ⟨gb725,2,none⟩=some (.slice Ao83 t740.length co83)) (ds:=[]) #[false,false,false,false] (by kernel_rfl) rfl rfl ⟨(blk_cell BK717.out 0).trans rfl,(blk_cell BK717.out 1).trans rfl,(blk_cell BK725.out 0).trans rfl,(blk_cell BK725.out 1).trans rfl,(blk_cell BK725.out 2).trans rfl⟩ (fun hHeld=>?_)
      generalize w84.drew=w85 at HO_718001 HO_726002 HO742 BK707 BK708 BK717 BK725 HI711 HB hHeld ⊢
      refine take_ (i:=0) (N:=some 52) (v:=?_) (a':=?_) #[true,false,false,false] rfl rfl (by kernel_rfl) (fun _ _ _ h=>h) (Or.inl ⟨by rfl,?_⟩) hHeld ?_ ?_
      rotate_left
      ·rintro w' ⟨s0,s1,s2,s3,s4⟩
       go_simp
       with_reducible rfl
      rotate_left
      ·simp only[Act.put,List.setIfInBounds_toArray,List.set_cons_zero,List.set_cons_succ,qaj,qak]
       rfl
      refine take_ (i:=1) (N:=some 53) (v:=?_) (a':=?_) #[true,true,false,false] rfl rfl (by kernel_rfl) (fun _ _ _ h=>h) (Or.inl ⟨by rfl,?_⟩) hHeld ?_ ?_
      rotate_left
      ·rintro w' ⟨s0,s1,s2,s3,s4⟩
       go_simp
       with_reducible rfl
      rotate_left
      ·simp only[Act.put,List.setIfInBounds_toArray,List.set_cons_zero,List.set_cons_succ,qaj,qak]
       rfl
      refine one_ (i:=2) (N:=none) #[true,true,true,false] rfl rfl (by kernel_rfl) (by decide) (fun K hK=>?_)
      have hs86:w85.cell? ⟨gb707,0,none⟩=some (.int .i64 0):=(blk_cell BK707.out 0).trans rfl
      have hfs86:=blk_frozen BK707.out 0
      have hns86_1:=NB708_707.out
      have hns86_2:=NB717_707.out
      have hns86_3:=NB725_707.out
      have hms86_1:=NB707_708.out
      have hms86_2:=NB707_717.out
      have hms86_3:=NB707_725.out
      have hs87:w85.cell? ⟨gb707,1,none⟩=some (.slice none 0 0):=(blk_cell BK707.out 1).trans rfl
      have hfs87:=blk_frozen BK707.out 1
      have hns87_1:=NB708_707.out
      have hns87_2:=NB717_707.out
      have hns87_3:=NB725_707.out
      have hms87_1:=NB707_708.out
      have hms87_2:=NB707_717.out
      have hms87_3:=NB707_725.out
      refine skip_ (w1:=?_) (by rfl) rfl ?_ ?_
      rotate_left
      ·go_simp
       rfl
      refine hK.out _ _ ⟨((qap (p:=⟨gb707,_,none⟩) NB717_707.out _).trans (((qap (p:=⟨gb707,_,none⟩) NB717_707.out _).trans (hHeld.1)))),((qap (p:=⟨gb707,_,none⟩) NB717_707.out _).trans (((qap (p:=⟨gb707,_,none⟩) NB717_707.out _).trans (hHeld.2.1)))),((qap (p:=⟨gb707,_,none⟩) NB725_707.out _).trans (((qap (p:=⟨gb707,_,none⟩) NB725_707.out _).trans (hHeld.2.2.1)))),((qap (p:=⟨gb707,_,none⟩) NB725_707.out _).trans (((qap (p:=⟨gb707,_,none⟩) NB725_707.out _).trans (hHeld.2.2.2.1)))),((qap (p:=⟨gb707,_,none⟩) NB725_707.out _).trans (((qap (p:=⟨gb707,_,none⟩) NB725_707.out _).trans (hHeld.2.2.2.2))))⟩ (fun hHeld=>?_)
      clear hK K
      refine one_ (i:=3) (N:=none) #[true,true,true,true] rfl rfl (by kernel_rfl) (by decide) (fun K hK=>?_)
      have hs88:w85.cell? ⟨gb708,0,none⟩=some (.int .i64 0):=(blk_cell BK708.out 0).trans rfl
      have hfs88:=blk_frozen BK708.out 0
      have hns88_0:=NB707_708.out
      have hns88_2:=NB717_708.out
      have hns88_3:=NB725_708.out
      have hms88_0:=NB708_707.out
      have hms88_2:=NB708_717.out
      have hms88_3:=NB708_725.out
      have hs89:w85.cell? ⟨gb708,1,none⟩=some (.int .i64 0):=(blk_cell BK708.out 1).trans rfl
      have hfs89:=blk_frozen BK708.out 1
      have hns89_0:=NB707_708.out
      have hns89_2:=NB717_708.out
      have hns89_3:=NB725_708.out
      have hms89_0:=NB708_707.out
      have hms89_2:=NB708_717.out
      have hms89_3:=NB708_725.out
      have hs90:w85.cell? ⟨gb708,2,none⟩=some (.slice none 0 0):=(blk_cell BK708.out 2).trans rfl
      have hfs90:=blk_frozen BK708.out 2
      have hns90_0:=NB707_708.out
      have hns90_2:=NB717_708.out
      have hns90_3:=NB725_708.out
      have hms90_0:=NB708_707.out
      have hms90_2:=NB708_717.out
      have hms90_3:=NB708_725.out
      refine skip_ (w1:=?_) (by rfl) rfl ?_ ?_
      rotate_left
      ·go_simp
       rfl
      refine hK.out _ _ ⟨((qap (p:=⟨gb708,_,none⟩) NB717_708.out _).trans (((qap (p:=⟨gb708,_,none⟩) NB717_708.out _).trans (((qap (p:=⟨gb708,_,none⟩) NB717_708.out _).trans (hHeld.1)))))),((qap (p:=⟨gb708,_,none⟩) NB717_708.out _).trans (((qap (p:=⟨gb708,_,none⟩) NB717_708.out _).trans (((qap (p:=⟨gb708,_,none⟩) NB717_708.out _).trans (hHeld.2.1)))))),((qap (p:=⟨gb708,_,none⟩) NB725_708.out _).trans (((qap (p:=⟨gb708,_,none⟩) NB725_708.out _).trans (((qap (p:=⟨gb708,_,none⟩) NB725_708.out _).trans (hHeld.2.2.1)))))),((qap (p:=⟨gb708,_,none⟩) NB725_708.out _).trans (((qap (p:=⟨gb708,_,none⟩) NB725_708.out _).trans (((qap (p:=⟨gb708,_,none⟩) NB725_708.out _).trans (hHeld.2.2.2.1)))))),((qap (p:=⟨gb708,_,none⟩) NB725_708.out _).trans (((qap (p:=⟨gb708,_,none⟩) NB725_708.out _).trans (((qap (p:=⟨gb708,_,none⟩) NB725_708.out _).trans (hHeld.2.2.2.2))))))⟩ (fun hHeld=>?_)
      clear hK K
      refine done_ (by kernel_rfl) ?_
      try go_wp2
      refine bodyPost_ret (results_cc rfl _ _ gb707 gb708 36 62 #[.int .i64 t712,.slice Ao16 t713.length co16] #[.int .i64 t738,.int .i64 t739,.slice Ao83 t740.length co83] (0,0) (0,0) _ _ rfl (by(with_reducible repeat(first|refine blk_drewN ?_ _|refine blk_drew ?_|refine blk_alloc ?_ _));refine blk_far ?_ NB707_708.out _;(with_reducible repeat(first|refine blk_drewN ?_ _|refine blk_drew ?_|refine blk_alloc ?_ _));refine blk_far ?_ NB707_708.out _;(with_reducible repeat(first|refine blk_drewN ?_ _|refine blk_drew ?_|refine blk_alloc ?_ _));refine blk_far ?_ NB707_708.out _;(with_reducible repeat(first|refine blk_drewN ?_ _|refine blk_drew ?_|refine blk_alloc ?_ _));refine qai (cs:=#[.int .i64 t712,.slice none 0 0]) ?_ 1 _ rfl;(with_reducible repeat(first|refine blk_drewN ?_ _|refine blk_drew ?_|refine blk_alloc ?_ _));refine qai (cs:=#[.int .i64 0,.slice none 0 0]) ?_ 0 _ rfl;(with_reducible repeat(first|refine blk_drewN ?_ _|refine blk_drew ?_|refine blk_alloc ?_ _));exact BK707.out) Try.underlying36 rfl (by kernel_rfl) rfl (by(with_reducible repeat(first|refine blk_drewN ?_ _|refine blk_drew ?_|refine blk_alloc ?_ _));refine qai (cs:=#[.int .i64 t738,.int .i64 t739,.slice none 0 0]) ?_ 2 _ rfl;(with_reducible repeat(first|refine blk_drewN ?_ _|refine blk_drew ?_|refine blk_alloc ?_ _));refine qai (cs:=#[.int .i64 t738,.int .i64 0,.slice none 0 0]) ?_ 1 _ rfl;(with_reducible repeat(first|refine blk_drewN ?_ _|refine blk_drew ?_|refine blk_alloc ?_ _));refine qai (cs:=#[.int .i64 0,.int .i64 0,.slice none 0 0]) ?_ 0 _ rfl;(with_reducible repeat(first|refine blk_drewN ?_ _|refine blk_drew ?_|refine blk_alloc ?_ _));refine blk_far ?_ NB708_707.out _;(with_reducible repeat(first|refine blk_drewN ?_ _|refine blk_drew ?_|refine blk_alloc ?_ _));refine blk_far ?_ NB708_707.out _;(with_reducible repeat(first|refine blk_drewN ?_ _|refine blk_drew ?_|refine blk_alloc ?_ _));exact BK708.out) Try.underlying62 rfl (by kernel_rfl)) rfl ?_
      exact⟨_,_,za9,by(with_reducible repeat(first|apply Kd.Q_alloc|apply Kd.Q_drewN|apply Kd.Q_drew));exact Kd.Q_mono (Kd.Q_far (p:=⟨gb708,2,none⟩) (Kd.Q_far (p:=⟨gb708,1,none⟩) (Kd.Q_far (p:=⟨gb708,0,none⟩) (Kd.Q_far (p:=⟨gb707,1,none⟩) (Kd.Q_far (p:=⟨gb707,0,none⟩) (Kd.Q_types (Kd.Q_types HO_718001.out BK707.out (by decide)) BK708.out (by decide)) (fun _ hk=>hk.1.2) (.int .i64 t712)) (fun _ hk=>hk.1.2) (.slice Ao16 t713.length co16)) (fun _ hk=>hk.2) (.int .i64 t738)) (fun _ hk=>hk.2) (.int .i64 t739)) (fun _ hk=>hk.2) (.slice Ao83 t740.length co83)) (fun _ hk=>hk.1.1),by(with_reducible repeat(first|apply Kd.V_alloc|apply Kd.V_drewN|apply Kd.V_drew));exact Kd.V_mono (Kd.V_far (p:=⟨gb708,2,none⟩) (Kd.V_far (p:=⟨gb708,1,none⟩) (Kd.V_far (p:=⟨gb708,0,none⟩) (Kd.V_far (p:=⟨gb707,1,none⟩) (Kd.V_far (p:=⟨gb707,0,none⟩) (Kd.V_mono (Kd.V_mono HO742.out (fun k_ hk=>(⟨hk,hk.2.2.2.1⟩:_∧k_≠gb707))) (fun k_ hk=>(⟨hk,hk.1.2.2.2.2.1⟩:_∧k_≠gb708))) (fun _ hk=>hk.1.2) (.int .i64 t712)) (fun _ hk=>hk.1.2) (.slice Ao16 t713.length co16)) (fun _ hk=>hk.2) (.int .i64 t738)) (fun _ hk=>hk.2) (.int .i64 t739)) (fun _ hk=>hk.2) (.slice Ao83 t740.length co83)) (fun _ hk=>⟨hk.1.1.1,hk.1.1.2.1⟩),by repeat(first|(with_reducible first|exact HB.out|apply qag|apply qad|apply qae|refine qac ?_ (IsS122.ge HI711.out)|refine qac ?_ GE707.out|refine qac ?_ GE708.out|refine qac ?_ GE717.out|refine qac ?_ GE725.out)|exact HB.out)⟩
     ·rw[if_neg c74] at H
      have c74b0:(t736 == 0)=false:=beq_eq_false_iff_ne.mpr c74
      have c74b1:(t736 != 0)=true:=bne_iff_ne.mpr c74
      simp only[Option.some.injEq,Prod.mk.injEq] at H
      obtain⟨rfl,rfl,rfl,rfl,rfl⟩:=H
      try go_wp2_with(first|((with_reducible refine qaf (f:=65) rfl ?_);refine zF (some 48) Try.func65 #[.pointer (some ⟨g711,0,none⟩),.int .i64 12] ?_;(with_reducible refine(spec_l6Rd_pick.calls kj38 g711 t709 x712001_38 12 t736 t737 w _ ?side1 ?side2 A73.out).mono ?_);(case side1=>repeat(first|(with_reducible first|exact HI711.out|apply IsS122.alloc|apply IsS122.drewN|apply IsS122.drew|apply IsS122.set_1|refine IsS122.far ?_ NB711_707.out _|refine IsS122.far ?_ NB711_708.out _|refine IsS122.far ?_ NB711_717.out _|refine IsS122.far ?_ NB711_725.out _)|exact HI711.out));(case side2=>exact(by repeat(first|(with_reducible first|exact HB.out|apply qag|apply qad|apply qae|refine qac ?_ (IsS122.ge HI711.out)|refine qac ?_ GE707.out|refine qac ?_ GE708.out|refine qac ?_ GE717.out|refine qac ?_ GE725.out)|exact HB.out)));rintro e w91 ⟨rfl,hi,hb,hk⟩;refine⟨_,rfl,?_⟩;replace HO_718001:=Aside0.mk (Kd.Q_mono (Kd.Q_keep (IsS122.apartQ (show IsS122 w _ g711 t709 x712001_38 from by repeat(first|(with_reducible first|exact HI711.out|apply IsS122.alloc|apply IsS122.drewN|apply IsS122.drew|apply IsS122.set_1|refine IsS122.far ?_ NB711_707.out _|refine IsS122.far ?_ NB711_708.out _|refine IsS122.far ?_ NB711_717.out _|refine IsS122.far ?_ NB711_725.out _)|exact HI711.out)) (za18 HO_718001) (by decide)) hk (fun _ h=>h.2)) (fun _ h=>h.1));replace HO_726002:=Aside0.mk (Kd.R_mono (Kd.R_keep (IsS122.apart (show IsS122 w _ g711 t709 x712001_38 from by repeat(first|(with_reducible first|exact HI711.out|apply IsS122.alloc|apply IsS122.drewN|apply IsS122.drew|apply IsS122.set_1|refine IsS122.far ?_ NB711_707.out _|refine IsS122.far ?_ NB711_708.out _|refine IsS122.far ?_ NB711_717.out _|refine IsS122.far ?_ NB711_725.out _)|exact HI711.out)) (za3 HO_726002) (by decide)) hk (fun _ h=>h.2)) (fun _ h=>h.1));replace BK707:=Aside0.mk (KeepBut.blk hk (zB BK707) NB707_711.out (by simp));replace BK708:=Aside0.mk (KeepBut.blk hk (zB BK708) NB708_711.out (by simp));replace BK717:=Aside0.mk (KeepBut.blk hk (zB BK717) NB717_711.out (by simp));replace BK725:=Aside0.mk (KeepBut.blk hk (zB BK725) NB725_711.out (by simp));replace HB:=Aside0.mk hb;replace HI711:=Aside0.mk hi;(try clear hb);(try clear hk);(try clear hi)))
      replace HO_718001:=Aside0.mk (Kd.Q_drew HO_718001.out)
      replace HO_726002:=Aside0.mk (Kd.R_drew HO_726002.out)
      replace BK707:=Aside0.mk (blk_drew BK707.out)
      replace BK708:=Aside0.mk (blk_drew BK708.out)
      replace BK717:=Aside0.mk (blk_drew BK717.out)
      replace BK725:=Aside0.mk (blk_drew BK725.out)
      replace HI711:=Aside0.mk (IsS122.drew HI711.out)
      replace HB:=Aside0.mk (qae HB.out)
      obtain⟨Ao97,co97,eo97⟩:=Kd.R_slice HO_726002.out
      (first|subst eo97|(injection eo97 with f1_ f2_ f3_;have f4_:=f1_.symm;have f5_:=f3_.symm;clear f1_ f2_ f3_;subst f4_;subst f5_))
      refine start_ (n:=4) (S:=fun w'=>w'.cell? ⟨gb717,0,none⟩=some (.int .i64 t712)∧w'.cell? ⟨gb717,1,none⟩=some (.slice Ao16 t713.length co16)∧w'.cell? ⟨gb725,0,none⟩=some (.int .i64 (wrap64 (1+t718)))∧w'.cell? ⟨gb725,1,none⟩=some (.int .i64 x726001_38)∧w'.cell? ⟨gb725,2,none⟩=some (.slice Ao97 x726002_5.length co97)) (ds:=[]) #[false,false,false,false] (by kernel_rfl) rfl rfl ⟨(blk_cell BK717.out 0).trans rfl,(blk_cell BK717.out 1).trans rfl,(blk_cell BK725.out 0).trans rfl,(blk_cell BK725.out 1).trans rfl,(blk_cell BK725.out 2).trans rfl⟩ (fun hHeld=>?_)
      generalize w91.drew=w92 at HO_718001 HO_726002 BK707 BK708 BK717 BK725 HI711 HB hHeld ⊢
      refine take_ (i:=0) (N:=some 52) (v:=?_) (a':=?_) #[true,false,false,false] rfl rfl (by kernel_rfl) (fun _ _ _ h=>h) (Or.inl ⟨by rfl,?_⟩) hHeld ?_ ?_
      rotate_left
      ·rintro w' ⟨s0,s1,s2,s3,s4⟩
       go_simp
       with_reducible rfl
      rotate_left
      ·simp only[Act.put,List.setIfInBounds_toArray,List.set_cons_zero,List.set_cons_succ,qaj,qak]
       rfl
      refine take_ (i:=1) (N:=some 53) (v:=?_) (a':=?_) #[true,true,false,false] rfl rfl (by kernel_rfl) (fun _ _ _ h=>h) (Or.inl ⟨by rfl,?_⟩) hHeld ?_ ?_
      rotate_left
      ·rintro w' ⟨s0,s1,s2,s3,s4⟩
       go_simp
       with_reducible rfl
      rotate_left
      ·simp only[Act.put,List.setIfInBounds_toArray,List.set_cons_zero,List.set_cons_succ,qaj,qak]
       rfl
      refine one_ (i:=2) (N:=none) #[true,true,true,false] rfl rfl (by kernel_rfl) (by decide) (fun K hK=>?_)
      have hs93:w92.cell? ⟨gb707,0,none⟩=some (.int .i64 0):=(blk_cell BK707.out 0).trans rfl
      have hfs93:=blk_frozen BK707.out 0
      have hns93_1:=NB708_707.out
      have hns93_2:=NB717_707.out
      have hns93_3:=NB725_707.out
      have hms93_1:=NB707_708.out
      have hms93_2:=NB707_717.out
      have hms93_3:=NB707_725.out
      have hs94:w92.cell? ⟨gb707,1,none⟩=some (.slice none 0 0):=(blk_cell BK707.out 1).trans rfl
      have hfs94:=blk_frozen BK707.out 1
      have hns94_1:=NB708_707.out
      have hns94_2:=NB717_707.out
      have hns94_3:=NB725_707.out
      have hms94_1:=NB707_708.out
      have hms94_2:=NB707_717.out
      have hms94_3:=NB707_725.out
      refine skip_ (w1:=?_) (by rfl) rfl ?_ ?_
      rotate_left
      ·go_simp
       rfl
      refine hK.out _ _ ⟨((qap (p:=⟨gb707,_,none⟩) NB717_707.out _).trans (((qap (p:=⟨gb707,_,none⟩) NB717_707.out _).trans (hHeld.1)))),((qap (p:=⟨gb707,_,none⟩) NB717_707.out _).trans (((qap (p:=⟨gb707,_,none⟩) NB717_707.out _).trans (hHeld.2.1)))),((qap (p:=⟨gb707,_,none⟩) NB725_707.out _).trans (((qap (p:=⟨gb707,_,none⟩) NB725_707.out _).trans (hHeld.2.2.1)))),((qap (p:=⟨gb707,_,none⟩) NB725_707.out _).trans (((qap (p:=⟨gb707,_,none⟩) NB725_707.out _).trans (hHeld.2.2.2.1)))),((qap (p:=⟨gb707,_,none⟩) NB725_707.out _).trans (((qap (p:=⟨gb707,_,none⟩) NB725_707.out _).trans (hHeld.2.2.2.2))))⟩ (fun hHeld=>?_)
      clear hK K
      refine one_ (i:=3) (N:=none) #[true,true,true,true] rfl rfl (by kernel_rfl) (by decide) (fun K hK=>?_)
      have hs95:w92.cell? ⟨gb708,0,none⟩=some (.int .i64 0):=(blk_cell BK708.out 0).trans rfl
      have hfs95:=blk_frozen BK708.out 0
      have hns95_0:=NB707_708.out
      have hns95_2:=NB717_708.out
      have hns95_3:=NB725_708.out
      have hms95_0:=NB708_707.out
      have hms95_2:=NB708_717.out
      have hms95_3:=NB708_725.out
      have hs96:w92.cell? ⟨gb708,1,none⟩=some (.int .i64 0):=(blk_cell BK708.out 1).trans rfl
      have hfs96:=blk_frozen BK708.out 1
      have hns96_0:=NB707_708.out
      have hns96_2:=NB717_708.out
      have hns96_3:=NB725_708.out
      have hms96_0:=NB708_707.out
      have hms96_2:=NB708_717.out
      have hms96_3:=NB708_725.out
      have hs98:w92.cell? ⟨gb708,2,none⟩=some (.slice none 0 0):=(blk_cell BK708.out 2).trans rfl
      have hfs98:=blk_frozen BK708.out 2
      have hns98_0:=NB707_708.out
      have hns98_2:=NB717_708.out
      have hns98_3:=NB725_708.out
      have hms98_0:=NB708_707.out
      have hms98_2:=NB708_717.out
      have hms98_3:=NB708_725.out
      refine skip_ (w1:=?_) (by rfl) rfl ?_ ?_
      rotate_left
      ·go_simp
       rfl
      refine hK.out _ _ ⟨((qap (p:=⟨gb708,_,none⟩) NB717_708.out _).trans (((qap (p:=⟨gb708,_,none⟩) NB717_708.out _).trans (((qap (p:=⟨gb708,_,none⟩) NB717_708.out _).trans (hHeld.1)))))),((qap (p:=⟨gb708,_,none⟩) NB717_708.out _).trans (((qap (p:=⟨gb708,_,none⟩) NB717_708.out _).trans (((qap (p:=⟨gb708,_,none⟩) NB717_708.out _).trans (hHeld.2.1)))))),((qap (p:=⟨gb708,_,none⟩) NB725_708.out _).trans (((qap (p:=⟨gb708,_,none⟩) NB725_708.out _).trans (((qap (p:=⟨gb708,_,none⟩) NB725_708.out _).trans (hHeld.2.2.1)))))),((qap (p:=⟨gb708,_,none⟩) NB725_708.out _).trans (((qap (p:=⟨gb708,_,none⟩) NB725_708.out _).trans (((qap (p:=⟨gb708,_,none⟩) NB725_708.out _).trans (hHeld.2.2.2.1)))))),((qap (p:=⟨gb708,_,none⟩) NB725_708.out _).trans (((qap (p:=⟨gb708,_,none⟩) NB725_708.out _).trans (((qap (p:=⟨gb708,_,none⟩) NB725_708.out _).trans (hHeld.2.2.2.2))))))⟩ (fun hHeld=>?_)
      clear hK K
      refine done_ (by kernel_rfl) ?_
      try go_wp2
      refine bodyPost_ret (results_cc rfl _ _ gb707 gb708 36 62 #[.int .i64 t712,.slice Ao16 t713.length co16] #[.int .i64 (wrap64 (1+t718)),.int .i64 x726001_38,.slice Ao97 x726002_5.length co97] (0,0) (0,0) _ _ rfl (by(with_reducible repeat(first|refine blk_drewN ?_ _|refine blk_drew ?_|refine blk_alloc ?_ _));refine blk_far ?_ NB707_708.out _;(with_reducible repeat(first|refine blk_drewN ?_ _|refine blk_drew ?_|refine blk_alloc ?_ _));refine blk_far ?_ NB707_708.out _;(with_reducible repeat(first|refine blk_drewN ?_ _|refine blk_drew ?_|refine blk_alloc ?_ _));refine blk_far ?_ NB707_708.out _;(with_reducible repeat(first|refine blk_drewN ?_ _|refine blk_drew ?_|refine blk_alloc ?_ _));refine qai (cs:=#[.int .i64 t712,.slice none 0 0]) ?_ 1 _ rfl;(with_reducible repeat(first|refine blk_drewN ?_ _|refine blk_drew ?_|refine blk_alloc ?_ _));refine qai (cs:=#[.int .i64 0,.slice none 0 0]) ?_ 0 _ rfl;(with_reducible repeat(first|refine blk_drewN ?_ _|refine blk_drew ?_|refine blk_alloc ?_ _));exact BK707.out) Try.underlying36 rfl (by kernel_rfl) rfl (by(with_reducible repeat(first|refine blk_drewN ?_ _|refine blk_drew ?_|refine blk_alloc ?_ _));refine qai (cs:=#[.int .i64 (wrap64 (1+t718)),.int .i64 x726001_38,.slice none 0 0]) ?_ 2 _ rfl;(with_reducible repeat(first|refine blk_drewN ?_ _|refine blk_drew ?_|refine blk_alloc ?_ _));refine qai (cs:=#[.int .i64 (wrap64 (1+t718)),.int .i64 0,.slice none 0 0]) ?_ 1 _ rfl;(with_reducible repeat(first|refine blk_drewN ?_ _|refine blk_drew ?_|refine blk_alloc ?_ _));refine qai (cs:=#[.int .i64 0,.int .i64 0,.slice none 0 0]) ?_ 0 _ rfl;(with_reducible repeat(first|refine blk_drewN ?_ _|refine blk_drew ?_|refine blk_alloc ?_ _));refine blk_far ?_ NB708_707.out _;(with_reducible repeat(first|refine blk_drewN ?_ _|refine blk_drew ?_|refine blk_alloc ?_ _));refine blk_far ?_ NB708_707.out _;(with_reducible repeat(first|refine blk_drewN ?_ _|refine blk_drew ?_|refine blk_alloc ?_ _));exact BK708.out) Try.underlying62 rfl (by kernel_rfl)) rfl ?_
      exact⟨_,_,za9,by(with_reducible repeat(first|apply Kd.Q_alloc|apply Kd.Q_drewN|apply Kd.Q_drew));exact Kd.Q_mono (Kd.Q_far (p:=⟨gb708,2,none⟩) (Kd.Q_far (p:=⟨gb708,1,none⟩) (Kd.Q_far (p:=⟨gb708,0,none⟩) (Kd.Q_far (p:=⟨gb707,1,none⟩) (Kd.Q_far (p:=⟨gb707,0,none⟩) (Kd.Q_types (Kd.Q_types HO_718001.out BK707.out (by decide)) BK708.out (by decide)) (fun _ hk=>hk.1.2) (.int .i64 t712)) (fun _ hk=>hk.1.2) (.slice Ao16 t713.length co16)) (fun _ hk=>hk.2) (.int .i64 (wrap64 (1+t718)))) (fun _ hk=>hk.2) (.int .i64 x726001_38)) (fun _ hk=>hk.2) (.slice Ao97 x726002_5.length co97)) (fun _ hk=>hk.1.1),Kd.R_V (by(with_reducible repeat(first|apply Kd.R_alloc|apply Kd.R_drewN|apply Kd.R_drew));exact Kd.R_mono (Kd.R_far (p:=⟨gb708,2,none⟩) (Kd.R_far (p:=⟨gb708,1,none⟩) (Kd.R_far (p:=⟨gb708,0,none⟩) (Kd.R_far (p:=⟨gb707,1,none⟩) (Kd.R_far (p:=⟨gb707,0,none⟩) (Kd.R_types (Kd.R_types (Kd.R_apart' HO_726002.out (Kd.Q_typed HO_718001.out) (by decide)) BK707.out (by decide)) BK708.out (by decide)) (fun _ hk=>hk.1.2) (.int .i64 t712)) (fun _ hk=>hk.1.2) (.slice Ao16 t713.length co16)) (fun _ hk=>hk.2) (.int .i64 (wrap64 (1+t718)))) (fun _ hk=>hk.2) (.int .i64 x726001_38)) (fun _ hk=>hk.2) (.slice Ao97 x726002_5.length co97)) (fun _ hk=>⟨hk.1.1.1,hk.1.1.2⟩)),by repeat(first|(with_reducible first|exact HB.out|apply qag|apply qad|apply qae|refine qac ?_ (IsS122.ge HI711.out)|refine qac ?_ GE707.out|refine qac ?_ GE708.out|refine qac ?_ GE717.out|refine qac ?_ GE725.out)|exact HB.out)⟩
end Go.Proofs.Ytjccnaklodbbfaa.Print
