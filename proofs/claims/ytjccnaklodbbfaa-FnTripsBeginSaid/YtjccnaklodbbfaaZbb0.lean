-- Written by squeeze.py: not trusted, Lean checks it.
import Derived.Test.YtjccnaklodbbfaaZK
import Derived.Test.YtjccnaklodbbfaaZf0
import Derived.Test.YtjccnaklodbbfaaZf1
import Derived.Test.YtjccnaklodbbfaaZs0
import Derived.Test.YtjccnaklodbbfaaZt0
import Derived.Test.YtjccnaklodbbfaaZv0
import Derived.Test.YtjccnaklodbbfaaZx0
namespace Go.Proofs.Ytjccnaklodbbfaa.Print
open Go.RowKit Go.Proofs.YtjccnaklodbbfaaW.PrintWords Go.Proofs.YtjccnaklodbbfaaW.PrintLast Go.Proofs.YtjccnaklodbbfaaW.PrintMore
attribute [local go_sem] max2_int min2_int max_two min_two max_three min_three max_four min_four
set_option linter.unusedVariables false
set_option linter.unusedSimpArgs false
mutual
def spec_DrawTripsMay.l0:Nat→List (S73)→Int→List Int→Int→Int→Int→List Int→Option ((List (S73)) × Int × Int × List Int)
 |0,_,_,_,_,_,_,_=>none
 |k+1,x5,x7,x1032000,x1032001,x1041000,x1041001,x1041002=>if x7<4 then(if(x5.length:Int)>0 then((spec_l6Rd_pick.f k x1032000 x1032001 5).bind fun bt1041=>(spec_DrawTripsMay.j1 k x5 x7 (decide (bt1041.1>0)) x1032000 bt1041.2 x1041000 x1041001 x1041002)) else(spec_DrawTripsMay.j1 k x5 x7 false x1032000 x1032001 x1041000 x1041001 x1041002)) else(spec_DrawTripsMay.j1 k x5 x7 false x1032000 x1032001 x1041000 x1041001 x1041002)
def spec_DrawTripsMay.j1:Nat→List (S73)→Int→Bool→List Int→Int→Int→Int→List Int→Option ((List (S73)) × Int × Int × List Int)
 |0,_,_,_,_,_,_,_,_=>none
 |k+1,x5,x7,x29,x1032000,x1032001,x1041000,x1041001,x1041002=>if x29=true then((spec_l6Rd_pick.f k x1032000 x1032001 3).bind fun bt1043=>((spec_l6Rd_pick.f k x1032000 bt1043.2 (x5.length:Int)).bind fun bt1045=>((some (([]:List Int):List Int)).bind fun y1047=>((spec_TripsMay.f k x5 (wrap64 (5+bt1043.1)) (wrap64 (1+bt1045.1)) y1047).bind fun t1050=>(if t1050=true then(some (x5,wrap64 (5+bt1043.1),wrap64 (1+bt1045.1),y1047)) else(spec_DrawTripsMay.l0 k x5 (wrap64 (x7+1)) x1032000 bt1045.2 (wrap64 (5+bt1043.1)) (wrap64 (1+bt1045.1)) y1047)))))) else((spec_l6Rd_pick.f k x1032000 x1032001 12).bind fun bt1051=>(if bt1051.1=0 then((spec_l71RecV.f k x1032000 bt1051.2).bind fun bt1053=>(some (x5,bt1053.1,bt1053.2.1,bt1053.2.2.1))) else(some (x5,x1041000,x1041001,x1041002))))
end
def spec_DrawTripsMay.f (k:Nat) (l0:List Int):Option ((List (S73)) × Int × Int × List Int):=(spec_l6Open.f l0).bind fun bt1029=>((spec_l71TripList.f k bt1029.1 bt1029.2).bind fun bt1032=>((spec_l71ManyV.f k bt1029.1 bt1032.2).bind fun bt1036=>(spec_DrawTripsMay.l0 k bt1032.1 0 bt1029.1 bt1036.2 4 (wrap64 ((bt1032.1.length:Int)+1)) bt1036.1)))
theorem spec_DrawTripsMay.mono_l:∀k,(∀y0 y1 y2 y3 y4 y5 y6,LeO (spec_DrawTripsMay.l0 k y0 y1 y2 y3 y4 y5 y6) (spec_DrawTripsMay.l0 (k+1) y0 y1 y2 y3 y4 y5 y6))∧(∀y0 y1 y2 y3 y4 y5 y6 y7,LeO (spec_DrawTripsMay.j1 k y0 y1 y2 y3 y4 y5 y6 y7) (spec_DrawTripsMay.j1 (k+1) y0 y1 y2 y3 y4 y5 y6 y7))
 |0=>⟨fun _ _ _ _ _ _ _ r h=>by simp[spec_DrawTripsMay.l0] at h,fun _ _ _ _ _ _ _ _ r h=>by simp[spec_DrawTripsMay.j1] at h⟩
 |k+1=>by
  obtain⟨ih0,ih1⟩:=spec_DrawTripsMay.mono_l k
  refine⟨?_,?_⟩
  ·intro y0 y1 y2 y3 y4 y5 y6
   unfold spec_DrawTripsMay.l0
   repeat' first
   |(with_reducible exact ih0 _ _ _ _ _ _ _)
   |(with_reducible exact ih1 _ _ _ _ _ _ _ _)
   |(with_reducible exact spec_TripsMay.mono _ _ _ _ _)
   |(with_reducible exact spec_l6Rd_pick.mono _ _ _ _)
   |(with_reducible exact spec_l71ManyV.mono _ _ _)
   |(with_reducible exact spec_l71RecV.mono _ _ _)
   |(with_reducible exact spec_l71TripList.mono _ _ _)
   |(with_reducible exact LeO.refl _)
   |(with_reducible exact LeO.none _)
   |(with_reducible refine LeO.ite ?_ ?_)
   |(with_reducible refine LeO.bind ?_ (fun _=>?_))
   |exact ih0 _ _ _ _ _ _ _
   |exact ih1 _ _ _ _ _ _ _ _
   |exact spec_TripsMay.mono _ _ _ _ _
   |exact spec_l6Rd_pick.mono _ _ _ _
   |exact spec_l71ManyV.mono _ _ _
   |exact spec_l71RecV.mono _ _ _
   |exact spec_l71TripList.mono _ _ _
   |exact LeO.none _
   |refine LeO.ite ?_ ?_
   |refine LeO.bind ?_ (fun _=>?_)
  ·intro y0 y1 y2 y3 y4 y5 y6 y7
   unfold spec_DrawTripsMay.j1
   repeat' first
   |(with_reducible exact ih0 _ _ _ _ _ _ _)
   |(with_reducible exact ih1 _ _ _ _ _ _ _ _)
   |(with_reducible exact spec_TripsMay.mono _ _ _ _ _)
   |(with_reducible exact spec_l6Rd_pick.mono _ _ _ _)
   |(with_reducible exact spec_l71ManyV.mono _ _ _)
   |(with_reducible exact spec_l71RecV.mono _ _ _)
   |(with_reducible exact spec_l71TripList.mono _ _ _)
   |(with_reducible exact LeO.refl _)
   |(with_reducible exact LeO.none _)
   |(with_reducible refine LeO.ite ?_ ?_)
   |(with_reducible refine LeO.bind ?_ (fun _=>?_))
   |exact ih0 _ _ _ _ _ _ _
   |exact ih1 _ _ _ _ _ _ _ _
   |exact spec_TripsMay.mono _ _ _ _ _
   |exact spec_l6Rd_pick.mono _ _ _ _
   |exact spec_l71ManyV.mono _ _ _
   |exact spec_l71RecV.mono _ _ _
   |exact spec_l71TripList.mono _ _ _
   |exact LeO.none _
   |refine LeO.ite ?_ ?_
   |refine LeO.bind ?_ (fun _=>?_)
theorem spec_DrawTripsMay.mono:∀a0 k,LeO (spec_DrawTripsMay.f k a0) (spec_DrawTripsMay.f (k+1) a0):=by
 intro a0 k
 obtain⟨ih0,ih1⟩:=spec_DrawTripsMay.mono_l k
 unfold spec_DrawTripsMay.f
 repeat' first
   |(with_reducible exact ih0 _ _ _ _ _ _ _)
   |(with_reducible exact ih1 _ _ _ _ _ _ _ _)
   |(with_reducible exact spec_TripsMay.mono _ _ _ _ _)
   |(with_reducible exact spec_l6Rd_pick.mono _ _ _ _)
   |(with_reducible exact spec_l71ManyV.mono _ _ _)
   |(with_reducible exact spec_l71RecV.mono _ _ _)
   |(with_reducible exact spec_l71TripList.mono _ _ _)
   |(with_reducible exact LeO.refl _)
   |(with_reducible exact LeO.none _)
   |(with_reducible refine LeO.ite ?_ ?_)
   |(with_reducible refine LeO.bind ?_ (fun _=>?_))
   |exact ih0 _ _ _ _ _ _ _
   |exact ih1 _ _ _ _ _ _ _ _
   |exact spec_TripsMay.mono _ _ _ _ _
   |exact spec_l6Rd_pick.mono _ _ _ _
   |exact spec_l71ManyV.mono _ _ _
   |exact spec_l71RecV.mono _ _ _
   |exact spec_l71TripList.mono _ _ _
   |exact LeO.none _
   |refine LeO.ite ?_ ?_
   |refine LeO.bind ?_ (fun _=>?_)
set_option maxHeartbeats 8000000 in
set_option maxRecDepth 100000 in
theorem spec_DrawTripsMay.calls (k:Nat) (A0:Option Addr) (c0:Nat) (l0:List Int) (r1:List (S73)) (r2:Int) (r3:Int) (r4:List Int) (w:World) (hr0:Kd.C (Kd.int .u8) w A0 l0.length l0) (hc0:l0.length≤c0) (h:spec_DrawTripsMay.f k l0=some (r1,r2,r3,r4)) :
  Calls Try.prog 53 #[.slice A0 l0.length c0] w fun e w'=>∃v0_ v3_:Value,e=.returned (.tuple #[v0_,.agg #[.int .i64 r2,.int .i64 r3,v3_]])∧Kd.N k73 73 w' w.heap.size (fun k_=>(w.heap.size≤k_)) v0_ r1∧Kd.V (Kd.int .i64) 3 w' w.heap.size (fun k_=>(w.heap.size≤k_)∧some k_≠(v0_:Value).ownBlock) v3_ r4∧Below w.heap.size w w':=by
 have hu62:=Try.underlying62
 have HR0:=Aside0.mk hr0
 have HC0:=Aside0.mk hc0
 clear hr0 hc0
 have HB:=Aside0.mk (Below.refl w.heap.size w)
 have H:((spec_l6Open.f l0).bind fun bt1029=>((spec_l71TripList.f k bt1029.1 bt1029.2).bind fun bt1032=>((spec_l71ManyV.f k bt1029.1 bt1032.2).bind fun bt1036=>(spec_DrawTripsMay.l0 k bt1032.1 0 bt1029.1 bt1036.2 4 (wrap64 ((bt1032.1.length:Int)+1)) bt1036.1))))=some (r1,r2,r3,r4):=h
 clear h
 replace H:=Option.bind_eq_some_iff.mp H
 obtain⟨⟨t1029,t1030⟩,A20,H⟩:=H
 replace H:((spec_l71TripList.f k t1029 t1030).bind fun bt1032=>((spec_l71ManyV.f k t1029 bt1032.2).bind fun bt1036=>(spec_DrawTripsMay.l0 k bt1032.1 0 t1029 bt1036.2 4 (wrap64 ((bt1032.1.length:Int)+1)) bt1036.1)))=some (r1,r2,r3,r4):=H
 have A2:=Aside0.mk A20
 clear A20
 replace H:=Option.bind_eq_some_iff.mp H
 obtain⟨⟨t1032,t1035⟩,A30,H⟩:=H
 replace H:((spec_l71ManyV.f k t1029 t1035).bind fun bt1036=>(spec_DrawTripsMay.l0 k t1032 0 t1029 bt1036.2 4 (wrap64 ((t1032.length:Int)+1)) bt1036.1))=some (r1,r2,r3,r4):=H
 have A3:=Aside0.mk A30
 clear A30
 replace H:=Option.bind_eq_some_iff.mp H
 obtain⟨⟨t1036,t1039⟩,A40,H⟩:=H
 replace H:(spec_DrawTripsMay.l0 k t1032 0 t1029 t1039 4 (wrap64 ((t1032.length:Int)+1)) t1036)=some (r1,r2,r3,r4):=H
 have A4:=Aside0.mk A40
 clear A40
 have H':=Aside0.mk H
 clear H
 go_enter Try.func53,Try.ntmps53
 go_wp2_with(first|((with_reducible refine qah (N:=3) rfl ?_);(try(refine qaq (by rfl) ?_;dsimp only));refine zX (N:=3) (cs:=#[.int .i64 0,.int .i64 0,.slice none 0 0]) (t:=62) ?_;intro gb1028 hg w5 hbox hb;have BK1028:=Aside0.mk hbox;have GW1028:=zH (w:=w) hg (za1 HB);have GE1028:=GW1028;replace HB:=Aside0.mk (qab (za1 HB) hb);clear hb hbox hg)|((with_reducible refine qaf (f:=64) rfl ?_);refine zF (some 9) Try.func64 #[.slice A0 l0.length c0] ?_;(with_reducible refine(spec_l6Open.calls _ _ l0 t1029 t1030 w _ ?side1 ?side2 ?side3 A2.out).mono ?_);(case side1=>exact(za0 HB GE1028));(case side2=>exact HR0.out);(case side3=>exact HC0.out);rintro e w6 ⟨g1031,rfl,hi,hb,hb2⟩;refine⟨_,rfl,?_⟩;replace HB:=Aside0.mk hb;have HI1031:=Aside0.mk hi;have NB1031_1028:=Aside0.mk (IsS122.ne_blk hi (qaa (zB BK1028) hb2) (by decide));have NB1028_1031:=Aside0.mk (Ne.symm (IsS122.ne_blk hi (qaa (zB BK1028) hb2) (by decide)));replace BK1028:=Aside0.mk (qaa (zB BK1028) hb2);(try clear hb);(try clear hb2);(try clear hi))|((with_reducible refine qaf (f:=87) rfl ?_);refine zF (some 11) Try.func87 #[.pointer (some ⟨g1031,0,none⟩)] ?_;(with_reducible refine(spec_l71TripList.calls k g1031 t1029 t1030 t1032 t1035 w _ ?side1 ?side2 A3.out).mono ?_);(case side1=>repeat(first|(with_reducible first|exact HI1031.out|apply IsS122.alloc|apply IsS122.drewN|apply IsS122.drew|apply IsS122.set_1|refine IsS122.far ?_ NB1031_1028.out _)|exact HI1031.out));(case side2=>exact(by repeat(first|(with_reducible first|exact HB.out|apply qag|apply qad|apply qae|refine qac ?_ (IsS122.ge HI1031.out)|refine qac ?_ GE1028.out)|exact HB.out)));rintro e w7 ⟨v1033,rfl,ho0,hi,hb,hk⟩;refine⟨_,rfl,?_⟩;have HO1034:=Aside0.mk (Kd.N_lower (Kd.N_mono (ok':=fun k_=>(w.heap.size≤k_)∧k_≠gb1028∧k_≠g1031) ho0 (fun k_ hk_=>⟨(Nat.le_trans (below_size (by repeat(first|(with_reducible first|exact HB.out|apply qag|apply qad|apply qae|refine qac ?_ (IsS122.ge HI1031.out)|refine qac ?_ GE1028.out)|exact HB.out))) hk_),(Kd.freshB (zB BK1028) k_ hk_),(IsS122.fresh (by repeat(first|(with_reducible first|exact HI1031.out|apply IsS122.alloc|apply IsS122.drewN|apply IsS122.drew|apply IsS122.set_1|refine IsS122.far ?_ NB1031_1028.out _)|exact HI1031.out)) k_ hk_)⟩)) (below_size (by repeat(first|(with_reducible first|exact HB.out|apply qag|apply qad|apply qae|refine qac ?_ (IsS122.ge HI1031.out)|refine qac ?_ GE1028.out)|exact HB.out))));replace BK1028:=Aside0.mk (KeepBut.blk hk (zB BK1028) NB1028_1031.out (by simp));replace HB:=Aside0.mk hb;replace HI1031:=Aside0.mk hi;(try clear hb);(try clear hk);(try clear hi);(try clear ho0);obtain⟨Ao8,co8,eo8⟩:=Kd.N_slice HO1034.out;subst eo8)|((with_reducible refine qaf (f:=88) rfl ?_);refine zF (some 16) Try.func88 #[.pointer (some ⟨g1031,0,none⟩)] ?_;(with_reducible refine(spec_l71ManyV.calls k g1031 t1029 t1035 t1036 t1039 w _ ?side1 ?side2 A4.out).mono ?_);(case side1=>repeat(first|(with_reducible first|exact HI1031.out|apply IsS122.alloc|apply IsS122.drewN|apply IsS122.drew|apply IsS122.set_1|refine IsS122.far ?_ NB1031_1028.out _)|exact HI1031.out));(case side2=>exact(by repeat(first|(with_reducible first|exact HB.out|apply qag|apply qad|apply qae|refine qac ?_ (IsS122.ge HI1031.out)|refine qac ?_ GE1028.out)|exact HB.out)));rintro e w9 ⟨v1037,rfl,ho0,hi,hb,hk⟩;refine⟨_,rfl,?_⟩;have HO1038:=Aside0.mk (Kd.V_lower (Kd.V_mono (ok':=fun k_=>(w.heap.size≤k_)∧some k_≠(.slice Ao8 t1032.length co8:Value).ownBlock∧k_≠gb1028∧k_≠g1031) ho0 (fun k_ hk_=>⟨(Nat.le_trans (below_size (by repeat(first|(with_reducible first|exact HB.out|apply qag|apply qad|apply qae|refine qac ?_ (IsS122.ge HI1031.out)|refine qac ?_ GE1028.out)|exact HB.out))) hk_),(Kd.fresh' (Kd.N_lt (za11 HO1034)) k_ hk_),(Kd.freshB (zB BK1028) k_ hk_),(IsS122.fresh (by repeat(first|(with_reducible first|exact HI1031.out|apply IsS122.alloc|apply IsS122.drewN|apply IsS122.drew|apply IsS122.set_1|refine IsS122.far ?_ NB1031_1028.out _)|exact HI1031.out)) k_ hk_)⟩)) (below_size (by repeat(first|(with_reducible first|exact HB.out|apply qag|apply qad|apply qae|refine qac ?_ (IsS122.ge HI1031.out)|refine qac ?_ GE1028.out)|exact HB.out))));replace BK1028:=Aside0.mk (KeepBut.blk hk (zB BK1028) NB1028_1031.out (by simp));replace HO1034:=Aside0.mk (Kd.N_mono (Kd.N_keep (Kd.N_mono (ok:=fun k_=>(((w.heap.size≤k_))∧(k_≠gb1028∧k_≠g1031))) (za11 HO1034) (fun k_ hk_=>(⟨hk_,hk_.2.2⟩:_∧k_≠g1031))) hk (fun _ h=>h.2)) (fun _ h=>h.1));replace HB:=Aside0.mk hb;replace HI1031:=Aside0.mk hi;(try clear hb);(try clear hk);(try clear hi);(try clear ho0);obtain⟨Ao10,co10,eo10⟩:=Kd.V_slice HO1038.out;subst eo10)|((with_reducible refine qah (N:=6) rfl ?_);(try(refine qaq (by rfl) ?_;dsimp only));refine zX (N:=6) (cs:=#[.int .i64 0,.int .i64 0,.slice none 0 0]) (t:=62) ?_;intro gb1040 hg w11 hbox hb;replace HO1034:=Aside0.mk (Kd.N_below (Kd.N_elderB (za11 HO1034) gb1040 (Nat.le_of_eq hg.symm)) hb);replace HO1038:=Aside0.mk (Kd.V_below (Kd.V_elderB (za19 HO1038) gb1040 (Nat.le_of_eq hg.symm)) hb);have BK1040:=Aside0.mk hbox;have GW1040:=zH (w:=w) hg (by repeat(first|(with_reducible first|exact HB.out|apply qag|apply qad|apply qae|refine qac ?_ (IsS122.ge HI1031.out)|refine qac ?_ GE1028.out)|exact HB.out));have GE1040:=GW1040;replace HB:=Aside0.mk (qab (by repeat(first|(with_reducible first|exact HB.out|apply qag|apply qad|apply qae|refine qac ?_ (IsS122.ge HI1031.out)|refine qac ?_ GE1028.out)|exact HB.out)) hb);have NB1028_1040:=zL BK1028 hg;have NB1040_1028:=zG BK1028 hg;replace BK1028:=Aside0.mk (qaa (zB BK1028) hb);have NB1031_1040:=Aside0.mk ((by rw[hg];exact Nat.ne_of_lt (IsS122.lt (show IsS122 w _ g1031 t1029 t1039 from by repeat(first|(with_reducible first|exact HI1031.out|apply IsS122.alloc|apply IsS122.drewN|apply IsS122.drew|apply IsS122.set_1|refine IsS122.far ?_ NB1031_1028.out _)|exact HI1031.out))):g1031≠gb1040));have NB1040_1031:=Aside0.mk ((by rw[hg];exact Nat.ne_of_gt (IsS122.lt (show IsS122 w _ g1031 t1029 t1039 from by repeat(first|(with_reducible first|exact HI1031.out|apply IsS122.alloc|apply IsS122.drewN|apply IsS122.drew|apply IsS122.set_1|refine IsS122.far ?_ NB1031_1028.out _)|exact HI1031.out))):gb1040≠g1031));replace HI1031:=Aside0.mk (IsS122.below (by repeat(first|(with_reducible first|exact HI1031.out|apply IsS122.alloc|apply IsS122.drewN|apply IsS122.drew|apply IsS122.set_1|refine IsS122.far ?_ NB1031_1028.out _)|exact HI1031.out)) hb);clear hb hbox hg;have hnb12:=NB1040_1028.out;have hnc12:=NB1028_1040.out;have hnb13:=NB1040_1031.out;have hnc13:=NB1031_1040.out;obtain⟨hcz14_0,hcz14_1,hcz14_2,hfz14_0,hfz14_1,hfz14_2⟩:=zC3 BK1040))
 go_loopg [7] k (fun kq v7 w'=>∃(x7_1:Int) (x1029000_1:Int) (x1029001_1:Int) (x1032001_1:Int) (x1041000_1:Int) (x1041001_1:Int) (x1041002_1:List Int) (u1041002:Value),v7=.int .i64 x7_1∧Aside0 (spec_DrawTripsMay.l0 kq t1032 x7_1 t1029 x1032001_1 x1041000_1 x1041001_1 x1041002_1=some (r1,r2,r3,r4))∧Aside0 (kq≤k)∧Aside0 (Kd.N k73 73 w' w.heap.size (fun k_=>(w.heap.size≤k_)∧k_≠gb1028∧k_≠gb1040∧k_≠g1031) (.slice Ao8 t1032.length co8) t1032)∧Aside0 (Kd.V (Kd.int .i64) 3 w' w.heap.size (fun k_=>(w.heap.size≤k_)∧some k_≠((.slice Ao8 t1032.length co8):Value).ownBlock∧k_≠gb1028∧k_≠gb1040∧k_≠g1031) u1041002 x1041002_1)∧Aside0 (w'.heap[gb1028]?=some (.cells #[.int .i64 x1029000_1,.int .i64 x1029001_1,(.slice none 0 0)] 62 (0,0)))∧Aside0 (w'.heap[gb1040]?=some (.cells #[.int .i64 x1041000_1,.int .i64 x1041001_1,u1041002] 62 (0,0)))∧Aside0 (IsS122 w w' g1031 t1029 x1032001_1)∧Aside0 (Below w.heap.size w w'))
 case atStart=>exact⟨(0),(0),(0),(t1039),(4),(wrap64 ((t1032.length:Int)+1)),(t1036),(.slice Ao10 t1036.length co10),(za17),H',⟨Nat.le_refl _⟩,⟨by(with_reducible repeat(first|apply Kd.N_alloc|apply Kd.N_drewN|apply Kd.N_drew));exact Kd.N_mono (Kd.N_far (p:=⟨gb1040,2,none⟩) (Kd.N_far (p:=⟨gb1040,1,none⟩) (Kd.N_far (p:=⟨gb1040,0,none⟩) (Kd.N_mono HO1034.out (fun k_ hk=>(⟨hk,hk.2⟩:_∧k_≠gb1040))) (fun _ hk=>hk.2) (.int .i64 4)) (fun _ hk=>hk.2) (.int .i64 (wrap64 ((t1032.length:Int)+1)))) (fun _ hk=>hk.2) (.slice Ao10 t1036.length co10)) (fun _ hk=>⟨hk.1.1.1,⟨hk.1.1.2.1,⟨hk.1.2,hk.1.1.2.2⟩⟩⟩)⟩,⟨by(with_reducible repeat(first|apply Kd.V_alloc|apply Kd.V_drewN|apply Kd.V_drew));exact Kd.V_mono (Kd.V_far (p:=⟨gb1040,2,none⟩) (Kd.V_far (p:=⟨gb1040,1,none⟩) (Kd.V_far (p:=⟨gb1040,0,none⟩) (Kd.V_mono HO1038.out (fun k_ hk=>(⟨hk,hk.2⟩:_∧k_≠gb1040))) (fun _ hk=>hk.2) (.int .i64 4)) (fun _ hk=>hk.2) (.int .i64 (wrap64 ((t1032.length:Int)+1)))) (fun _ hk=>hk.2) (.slice Ao10 t1036.length co10)) (fun _ hk=>⟨hk.1.1.1,⟨hk.1.1.2.1,⟨hk.1.1.2.2.1,⟨hk.1.2,hk.1.1.2.2.2⟩⟩⟩⟩)⟩,⟨za6 NB1028_1040 BK1028⟩,⟨by(with_reducible repeat(first|refine blk_drewN ?_ _|refine blk_drew ?_|refine blk_alloc ?_ _));refine qai (cs:=#[.int .i64 4,.int .i64 (wrap64 ((t1032.length:Int)+1)),.slice none 0 0]) ?_ 2 _ rfl;(with_reducible repeat(first|refine blk_drewN ?_ _|refine blk_drew ?_|refine blk_alloc ?_ _));refine qai (cs:=#[.int .i64 4,.int .i64 0,.slice none 0 0]) ?_ 1 _ rfl;(with_reducible repeat(first|refine blk_drewN ?_ _|refine blk_drew ?_|refine blk_alloc ?_ _));refine qai (cs:=#[.int .i64 0,.int .i64 0,.slice none 0 0]) ?_ 0 _ rfl;(with_reducible repeat(first|refine blk_drewN ?_ _|refine blk_drew ?_|refine blk_alloc ?_ _));exact BK1040.out⟩,⟨by repeat(first|(with_reducible first|exact HI1031.out|apply IsS122.alloc|apply IsS122.drewN|apply IsS122.drew|apply IsS122.set_1|refine IsS122.far ?_ NB1031_1028.out _|refine IsS122.far ?_ NB1031_1040.out _)|exact HI1031.out)⟩,⟨by repeat(first|(with_reducible first|exact HB.out|apply qag|apply qad|apply qae|refine qac ?_ (IsS122.ge HI1031.out)|refine qac ?_ GE1028.out|refine qac ?_ GE1040.out)|exact HB.out)⟩⟩
 case round=>
  clear H'
  try clear c1
  try clear p2
  try clear c5
  try clear c6
  try clear p6
  try clear c8
  try clear c12
  try clear c13
  try clear hcz14_0
  try clear hcz14_1
  try clear hcz14_2
  try clear hfz14_0
  try clear hfz14_1
  try clear hfz14_2
  obtain⟨x7_1,x1029000_1,x1029001_1,x1032001_1,x1041000_1,x1041001_1,x1041002_1,u1041002,rfl,HA,HK1,HO_5,HO_1041002,BK1028,BK1040,HI1031,HB⟩:=hrel
  cases gk with
  |zero=>exact absurd HA.out (by simp[spec_DrawTripsMay.l0])
  |succ k1=>
   have H:=HA.out
   clear HA
   simp only[spec_DrawTripsMay.l0] at H
   have HC15:=Aside0.mk H
   clear H
   go_upto_region 5 with(fail)
   go_cut [29] (fun v29 wc=>∃(kq:Nat) (x29_14:Bool) (x1032001_14:Int),v29=.bool x29_14∧Aside0 (spec_DrawTripsMay.j1 kq t1032 x7_1 x29_14 t1029 x1032001_14 x1041000_1 x1041001_1 x1041002_1=some (r1,r2,r3,r4))∧Aside0 (kq≤k1)∧Aside0 (Kd.N k73 73 wc w.heap.size (fun k_=>(w.heap.size≤k_)∧k_≠gb1028∧k_≠gb1040∧k_≠g1031) (.slice Ao8 t1032.length co8) t1032)∧Aside0 (Kd.V (Kd.int .i64) 3 wc w.heap.size (fun k_=>(w.heap.size≤k_)∧some k_≠((.slice Ao8 t1032.length co8):Value).ownBlock∧k_≠gb1028∧k_≠gb1040∧k_≠g1031) u1041002 x1041002_1)∧Aside0 (wc.heap[gb1028]?=some (.cells #[.int .i64 x1029000_1,.int .i64 x1029001_1,(.slice none 0 0)] 62 (0,0)))∧Aside0 (wc.heap[gb1040]?=some (.cells #[.int .i64 x1041000_1,.int .i64 x1041001_1,u1041002] 62 (0,0)))∧Aside0 (IsS122 w wc g1031 t1029 x1032001_14)∧Aside0 (Below w.heap.size w wc))
   case first=>
    have H:=HC15.out
    clear HC15
    by_cases c16:x7_1<4
    ·rw[if_pos c16] at H
     have c16b0:decide (x7_1<4)=true:=decide_eq_true c16
     clear c16
     (first|rw[c16b0]|(simp only[qaj,qak];rw[c16b0])|skip)
     by_cases c17:(t1032.length:Int)>0
     ·rw[if_pos c17] at H
      have c17b0:decide (0<(t1032.length:Int))=true:=decide_eq_true c17
      have c17b1:decide (0<t1032.length)=true:=decide_eq_true (by omega)
      clear c17
      replace H:=Option.bind_eq_some_iff.mp H
      obtain⟨⟨t1041,t1042⟩,A180,H⟩:=H
      replace H:(spec_DrawTripsMay.j1 k1 t1032 x7_1 (decide (t1041>0)) t1029 t1042 x1041000_1 x1041001_1 x1041002_1)=some (r1,r2,r3,r4):=H
      have A18:=Aside0.mk A180
      clear A180
      have H':=Aside0.mk H
      clear H
      go_wp2_with(first|(go_at_call 65;(with_reducible refine(spec_l6Rd_pick.calls k1 g1031 t1029 x1032001_1 5 t1041 t1042 w _ ?side1 ?side2 A18.out).mono ?_);(case side1=>repeat(first|(with_reducible first|exact HI1031.out|apply IsS122.alloc|apply IsS122.drewN|apply IsS122.drew|apply IsS122.set_1|refine IsS122.far ?_ NB1031_1028.out _|refine IsS122.far ?_ NB1031_1040.out _)|exact HI1031.out));(case side2=>exact(by repeat(first|(with_reducible first|exact HB.out|apply qag|apply qad|apply qae|refine qac ?_ (IsS122.ge HI1031.out)|refine qac ?_ GE1028.out|refine qac ?_ GE1040.out)|exact HB.out)));rintro e w19 ⟨rfl,hi,hb,hk⟩;replace HO_5:=Aside0.mk (Kd.N_mono (Kd.N_keep (Kd.N_mono (ok:=fun k_=>(((w.heap.size≤k_))∧(k_≠gb1028∧(k_≠gb1040∧k_≠g1031)))) (za11 HO_5) (fun k_ hk_=>(⟨hk_,hk_.2.2.2⟩:_∧k_≠g1031))) hk (fun _ h=>h.2)) (fun _ h=>h.1));replace HO_1041002:=Aside0.mk (Kd.V_mono (Kd.V_keep (Kd.V_mono (ok:=fun k_=>(((w.heap.size≤k_))∧(some k_≠(.slice Ao8 t1032.length co8:Value).ownBlock∧(k_≠gb1028∧(k_≠gb1040∧k_≠g1031))))) (za19 HO_1041002) (fun k_ hk_=>(⟨hk_,hk_.2.2.2.2⟩:_∧k_≠g1031))) hk (fun _ h=>h.2)) (fun _ h=>h.1));replace BK1028:=Aside0.mk (KeepBut.blk hk (zB BK1028) NB1028_1031.out (by simp));replace BK1040:=Aside0.mk (KeepBut.blk hk (zB BK1040) NB1040_1031.out (by simp));replace HB:=Aside0.mk hb;replace HI1031:=Aside0.mk hi;(try clear hb);(try clear hk);(try clear hi)))
      go_meet
      case rel=>exact⟨_,(decide (t1041>0)),(t1042),(za17),H',⟨za27 HK1⟩,⟨za11 HO_5⟩,⟨za19 HO_1041002⟩,⟨za16 BK1028⟩,⟨za16 BK1040⟩,⟨by repeat(first|(with_reducible first|exact HI1031.out|apply IsS122.alloc|apply IsS122.drewN|apply IsS122.drew|apply IsS122.set_1|refine IsS122.far ?_ NB1031_1028.out _|refine IsS122.far ?_ NB1031_1040.out _)|exact HI1031.out)⟩,⟨by repeat(first|(with_reducible first|exact HB.out|apply qag|apply qad|apply qae|refine qac ?_ (IsS122.ge HI1031.out)|refine qac ?_ GE1028.out|refine qac ?_ GE1040.out)|exact HB.out)⟩⟩
     ·rw[if_neg c17] at H
      have c17b0:decide (0<(t1032.length:Int))=false:=decide_eq_false c17
      have c17b1:decide (0<t1032.length)=false:=decide_eq_false (by omega)
      clear c17
      have H':=Aside0.mk H
      clear H
      go_wp2
      go_meet
      case rel=>exact⟨_,(false),(x1032001_1),(za17),H',⟨za27 HK1⟩,⟨za11 HO_5⟩,⟨za19 HO_1041002⟩,⟨za16 BK1028⟩,⟨za16 BK1040⟩,⟨by repeat(first|(with_reducible first|exact HI1031.out|apply IsS122.alloc|apply IsS122.drewN|apply IsS122.drew|apply IsS122.set_1|refine IsS122.far ?_ NB1031_1028.out _|refine IsS122.far ?_ NB1031_1040.out _)|exact HI1031.out)⟩,⟨by repeat(first|(with_reducible first|exact HB.out|apply qag|apply qad|apply qae|refine qac ?_ (IsS122.ge HI1031.out)|refine qac ?_ GE1028.out|refine qac ?_ GE1040.out)|exact HB.out)⟩⟩
    ·rw[if_neg c16] at H
     have c16b0:decide (x7_1<4)=false:=decide_eq_false c16
     clear c16
     (first|rw[c16b0]|(simp only[qaj,qak];rw[c16b0])|skip)
     have H':=Aside0.mk H
     clear H
     go_wp2
     go_meet
     case rel=>exact⟨_,(false),(x1032001_1),(za17),H',⟨za27 HK1⟩,⟨za11 HO_5⟩,⟨za19 HO_1041002⟩,⟨za16 BK1028⟩,⟨za16 BK1040⟩,⟨by repeat(first|(with_reducible first|exact HI1031.out|apply IsS122.alloc|apply IsS122.drewN|apply IsS122.drew|apply IsS122.set_1|refine IsS122.far ?_ NB1031_1028.out _|refine IsS122.far ?_ NB1031_1040.out _)|exact HI1031.out)⟩,⟨by repeat(first|(with_reducible first|exact HB.out|apply qag|apply qad|apply qae|refine qac ?_ (IsS122.ge HI1031.out)|refine qac ?_ GE1028.out|refine qac ?_ GE1040.out)|exact HB.out)⟩⟩
   case rest=>
    clear HC15
    try clear c1
    try clear p2
    try clear c5
    try clear c6
    try clear p6
    try clear c8
    try clear c12
    try clear c13
    try clear c16
    try clear c16b0
    try clear c17
    try clear c17b0
    try clear c17b1
    try clear hcz14_0
    try clear hcz14_1
    try clear hcz14_2
    try clear hfz14_0
    try clear hfz14_1
    try clear hfz14_2
    try clear p2
    try clear p6
    obtain⟨kq,x29_14,x1032001_14,rfl,HA,HJ14,HO_5,HO_1041002,BK1028,BK1040,HI1031,HB⟩:=hcut
    cases kq with
    |zero=>exact absurd HA.out (by simp[spec_DrawTripsMay.j1])
    |succ kj14=>
     have H:=HA.out
     clear HA
     simp only[spec_DrawTripsMay.j1] at H
     by_cases c20:x29_14=true
     ·subst c20
      have H1:((spec_l6Rd_pick.f kj14 t1029 x1032001_14 3).bind fun bt1043=>((spec_l6Rd_pick.f kj14 t1029 bt1043.2 (t1032.length:Int)).bind fun bt1045=>((some (([]:List Int):List Int)).bind fun y1047=>((spec_TripsMay.f kj14 t1032 (wrap64 (5+bt1043.1)) (wrap64 (1+bt1045.1)) y1047).bind fun t1050=>(if t1050=true then(some (t1032,wrap64 (5+bt1043.1),wrap64 (1+bt1045.1),y1047)) else(spec_DrawTripsMay.l0 kj14 t1032 (wrap64 (x7_1+1)) t1029 bt1045.2 (wrap64 (5+bt1043.1)) (wrap64 (1+bt1045.1)) y1047))))))=some (r1,r2,r3,r4):=by rw[if_pos rfl] at H;exact H
      clear H
      have H:=H1
      clear H1
      replace H:=Option.bind_eq_some_iff.mp H
      obtain⟨⟨t1043,t1044⟩,A210,H⟩:=H
      replace H:((spec_l6Rd_pick.f kj14 t1029 t1044 (t1032.length:Int)).bind fun bt1045=>((some (([]:List Int):List Int)).bind fun y1047=>((spec_TripsMay.f kj14 t1032 (wrap64 (5+t1043)) (wrap64 (1+bt1045.1)) y1047).bind fun t1050=>(if t1050=true then(some (t1032,wrap64 (5+t1043),wrap64 (1+bt1045.1),y1047)) else(spec_DrawTripsMay.l0 kj14 t1032 (wrap64 (x7_1+1)) t1029 bt1045.2 (wrap64 (5+t1043)) (wrap64 (1+bt1045.1)) y1047)))))=some (r1,r2,r3,r4):=H
      have A21:=Aside0.mk A210
      clear A210
      replace H:=Option.bind_eq_some_iff.mp H
      obtain⟨⟨t1045,t1046⟩,A220,H⟩:=H
      replace H:((some (([]:List Int):List Int)).bind fun y1047=>((spec_TripsMay.f kj14 t1032 (wrap64 (5+t1043)) (wrap64 (1+t1045)) y1047).bind fun t1050=>(if t1050=true then(some (t1032,wrap64 (5+t1043),wrap64 (1+t1045),y1047)) else(spec_DrawTripsMay.l0 kj14 t1032 (wrap64 (x7_1+1)) t1029 t1046 (wrap64 (5+t1043)) (wrap64 (1+t1045)) y1047))))=some (r1,r2,r3,r4):=H
      have A22:=Aside0.mk A220
      clear A220
      obtain⟨y1047,hy1047⟩:∃y_:List Int,y_=(([]:List Int)):=⟨_,rfl⟩
      replace H:((spec_TripsMay.f kj14 t1032 (wrap64 (5+t1043)) (wrap64 (1+t1045)) y1047).bind fun t1050=>(if t1050=true then(some (t1032,wrap64 (5+t1043),wrap64 (1+t1045),y1047)) else(spec_DrawTripsMay.l0 kj14 t1032 (wrap64 (x7_1+1)) t1029 t1046 (wrap64 (5+t1043)) (wrap64 (1+t1045)) y1047)))=some (r1,r2,r3,r4):=by first|(rw[hy1047];with_reducible exact H)|(have H2_:=(Option.bind_some _ _).symm.trans H;rw[hy1047];with_reducible exact H2_)|(have H2_:=(Option.bind_some _ _).symm.trans H;with_reducible exact H2_)|with_reducible exact H|(rw[hy1047];exact H)|exact H
      have Ny1047:=Aside0.mk hy1047
      clear hy1047
      replace H:=Option.bind_eq_some_iff.mp H
      obtain⟨t1050,A230,H⟩:=H
      replace H:(if t1050=true then(some (t1032,wrap64 (5+t1043),wrap64 (1+t1045),y1047)) else(spec_DrawTripsMay.l0 kj14 t1032 (wrap64 (x7_1+1)) t1029 t1046 (wrap64 (5+t1043)) (wrap64 (1+t1045)) y1047))=some (r1,r2,r3,r4):=H
      have A23:=Aside0.mk A230
      clear A230
      by_cases c24:t1050=true
      ·subst c24
       have H1:(some (t1032,wrap64 (5+t1043),wrap64 (1+t1045),y1047))=some (r1,r2,r3,r4):=by rw[if_pos rfl] at H;exact H
       clear H
       have H:=H1
       clear H1
       simp only[Option.some.injEq,Prod.mk.injEq] at H
       obtain⟨rfl,rfl,rfl,rfl⟩:=H
       try go_wp2_with(first|((with_reducible refine qaf (f:=65) rfl ?_);refine zF (some 33) Try.func65 #[.pointer (some ⟨g1031,0,none⟩),.int .i64 3] ?_;(with_reducible refine(spec_l6Rd_pick.calls kj14 g1031 t1029 x1032001_14 3 t1043 t1044 w _ ?side1 ?side2 A21.out).mono ?_);(case side1=>repeat(first|(with_reducible first|exact HI1031.out|apply IsS122.alloc|apply IsS122.drewN|apply IsS122.drew|apply IsS122.set_1|refine IsS122.far ?_ NB1031_1028.out _|refine IsS122.far ?_ NB1031_1040.out _)|exact HI1031.out));(case side2=>exact(by repeat(first|(with_reducible first|exact HB.out|apply qag|apply qad|apply qae|refine qac ?_ (IsS122.ge HI1031.out)|refine qac ?_ GE1028.out|refine qac ?_ GE1040.out)|exact HB.out)));rintro e w25 ⟨rfl,hi,hb,hk⟩;refine⟨_,rfl,?_⟩;replace HO_5:=Aside0.mk (Kd.N_mono (Kd.N_keep (Kd.N_mono (ok:=fun k_=>(((w.heap.size≤k_))∧(k_≠gb1028∧(k_≠gb1040∧k_≠g1031)))) (za11 HO_5) (fun k_ hk_=>(⟨hk_,hk_.2.2.2⟩:_∧k_≠g1031))) hk (fun _ h=>h.2)) (fun _ h=>h.1));replace HO_1041002:=Aside0.mk (Kd.V_mono (Kd.V_keep (Kd.V_mono (ok:=fun k_=>(((w.heap.size≤k_))∧(some k_≠(.slice Ao8 t1032.length co8:Value).ownBlock∧(k_≠gb1028∧(k_≠gb1040∧k_≠g1031))))) (za19 HO_1041002) (fun k_ hk_=>(⟨hk_,hk_.2.2.2.2⟩:_∧k_≠g1031))) hk (fun _ h=>h.2)) (fun _ h=>h.1));replace BK1028:=Aside0.mk (KeepBut.blk hk (zB BK1028) NB1028_1031.out (by simp));replace BK1040:=Aside0.mk (KeepBut.blk hk (zB BK1040) NB1040_1031.out (by simp));replace HB:=Aside0.mk hb;replace HI1031:=Aside0.mk hi;(try clear hb);(try clear hk);(try clear hi))|((with_reducible refine qaf (f:=65) rfl ?_);refine zF (some 38) Try.func65 #[.pointer (some ⟨g1031,0,none⟩),.int .i64 (t1032.length:Int)] ?_;(with_reducible refine(spec_l6Rd_pick.calls kj14 g1031 t1029 t1044 (t1032.length:Int) t1045 t1046 w _ ?side1 ?side2 A22.out).mono ?_);(case side1=>repeat(first|(with_reducible first|exact HI1031.out|apply IsS122.alloc|apply IsS122.drewN|apply IsS122.drew|apply IsS122.set_1|refine IsS122.far ?_ NB1031_1028.out _|refine IsS122.far ?_ NB1031_1040.out _)|exact HI1031.out));(case side2=>exact(by repeat(first|(with_reducible first|exact HB.out|apply qag|apply qad|apply qae|refine qac ?_ (IsS122.ge HI1031.out)|refine qac ?_ GE1028.out|refine qac ?_ GE1040.out)|exact HB.out)));rintro e w26 ⟨rfl,hi,hb,hk⟩;refine⟨_,rfl,?_⟩;replace HO_5:=Aside0.mk (Kd.N_mono (Kd.N_keep (Kd.N_mono (ok:=fun k_=>(((w.heap.size≤k_))∧(k_≠gb1028∧(k_≠gb1040∧k_≠g1031)))) (za11 HO_5) (fun k_ hk_=>(⟨hk_,hk_.2.2.2⟩:_∧k_≠g1031))) hk (fun _ h=>h.2)) (fun _ h=>h.1));replace HO_1041002:=Aside0.mk (Kd.V_mono (Kd.V_keep (Kd.V_mono (ok:=fun k_=>(((w.heap.size≤k_))∧(some k_≠(.slice Ao8 t1032.length co8:Value).ownBlock∧(k_≠gb1028∧(k_≠gb1040∧k_≠g1031))))) (za19 HO_1041002) (fun k_ hk_=>(⟨hk_,hk_.2.2.2.2⟩:_∧k_≠g1031))) hk (fun _ h=>h.2)) (fun _ h=>h.1));replace BK1028:=Aside0.mk (KeepBut.blk hk (zB BK1028) NB1028_1031.out (by simp));replace BK1040:=Aside0.mk (KeepBut.blk hk (zB BK1040) NB1040_1031.out (by simp));replace HB:=Aside0.mk hb;replace HI1031:=Aside0.mk hi;(try clear hb);(try clear hk);(try clear hi))|((with_reducible refine qah (N:=40) rfl ?_);(try(refine qaq (by rfl) ?_;dsimp only));refine Kd.R_lit (Kd.int .i64) _ 3 (by rfl) (N:=40) (by rfl) (xs:=([]:List Int)) (inner:=[]) (ok:=fun _=>True) (okp:=fun _=>True) (by first|(go_simp;done)|(go_simp;rfl)) (Reps.none _ _) (fun _ hk=>hk) trivial (Below.refl _ _) (Nat.le_refl _) (by simp) ?_;intro v1048 w27 ho28 hb hg_ hnew_;clear hg_ hnew_;(first|rw[←Ny1047.out] at ho28|(simp only[Int.reduceToNat] at ho28;rw[←Ny1047.out] at ho28));replace HO_5:=Aside0.mk (Kd.N_elder' (za11 HO_5) (Kd.R_base ho28) hb);replace HO_1041002:=Aside0.mk (Kd.V_elder' (za19 HO_1041002) (Kd.R_base ho28) hb);have HO1049:=Aside0.mk (Kd.R_lower (Kd.R_newM (M:=fun k_=>(w.heap.size≤k_)) ho28 (below_size (by repeat(first|(with_reducible first|exact HB.out|apply qag|apply qad|apply qae|refine qac ?_ (IsS122.ge HI1031.out)|refine qac ?_ GE1028.out|refine qac ?_ GE1040.out)|exact HB.out))) (fun k_ h_=>h_)) (below_size (by repeat(first|(with_reducible first|exact HB.out|apply qag|apply qad|apply qae|refine qac ?_ (IsS122.ge HI1031.out)|refine qac ?_ GE1028.out|refine qac ?_ GE1040.out)|exact HB.out))));replace BK1028:=Aside0.mk (qaa (zB BK1028) hb);replace BK1040:=Aside0.mk (qaa (zB BK1040) hb);replace HB:=Aside0.mk (qab (by repeat(first|(with_reducible first|exact HB.out|apply qag|apply qad|apply qae|refine qac ?_ (IsS122.ge HI1031.out)|refine qac ?_ GE1028.out|refine qac ?_ GE1040.out)|exact HB.out)) hb);replace HI1031:=Aside0.mk (IsS122.below (by repeat(first|(with_reducible first|exact HI1031.out|apply IsS122.alloc|apply IsS122.drewN|apply IsS122.drew|apply IsS122.set_1|refine IsS122.far ?_ NB1031_1028.out _|refine IsS122.far ?_ NB1031_1040.out _)|exact HI1031.out)) hb);clear hb ho28;obtain⟨Ao29,co29,eo29⟩:=Kd.R_slice HO1049.out;subst eo29;have hnb30:=NB1040_1028.out;have hnc30:=NB1028_1040.out;have hnb31:=NB1040_1031.out;have hnc31:=NB1031_1040.out;obtain⟨hcz32_0,hcz32_1,hcz32_2,hfz32_0,hfz32_1,hfz32_2⟩:=zC3 BK1040)|((with_reducible refine qaf (f:=49) rfl ?_);refine zF (some 44) Try.func49 #[.slice Ao8 t1032.length co8,.agg #[.int .i64 (wrap64 (5+t1043)),.int .i64 (wrap64 (1+t1045)),.slice Ao29 y1047.length co29]] ?_;(with_reducible refine(spec_TripsMay.calls kj14 _ _ t1032 (wrap64 (5+t1043)) (wrap64 (1+t1045)) _ _ y1047 true _ ?side1 ?side2 ?side3 ?side4 A23.out).mono ?_);(case side1=>refine(Kd.N_reads' (e:=73) (base:=w.heap.size) (ok:=fun k_=>(((w.heap.size≤k_)∧(k_≠gb1028∧(k_≠gb1040∧k_≠g1031)))∧some k_≠(.slice Ao29 y1047.length co29:Value).ownBlock)) (n:=t1032.length) (c:=co8) ?_).2.2;exact(by(with_reducible repeat(first|apply Kd.N_alloc|apply Kd.N_drewN|apply Kd.N_drew));exact(Kd.N_mono (Kd.N_far (p:=⟨gb1040,2,none⟩) (Kd.N_far (p:=⟨gb1040,1,none⟩) (Kd.N_far (p:=⟨gb1040,0,none⟩) (Kd.N_mono HO_5.out (fun k_ hk=>(⟨hk,hk.1.2.2.1⟩:_∧k_≠gb1040))) (fun _ hk=>hk.2) (.int .i64 (wrap64 (5+t1043)))) (fun _ hk=>hk.2) (.int .i64 (wrap64 (1+t1045)))) (fun _ hk=>hk.2) (.slice Ao29 y1047.length co29)) (fun _ h_=>h_.1))));(case side2=>exact(Kd.N_reads' HO_5.out).2.1);(case side3=>refine(Kd.R_reads' (e:=3) (base:=w.heap.size) (ok:=fun k_=>((w.heap.size≤k_)∧True)) (n:=y1047.length) (c:=co29) ?_).2.2;exact(by(with_reducible repeat(first|apply Kd.R_alloc|apply Kd.R_drewN|apply Kd.R_drew));exact(Kd.R_mono (Kd.R_far (p:=⟨gb1040,2,none⟩) (Kd.R_far (p:=⟨gb1040,1,none⟩) (Kd.R_far (p:=⟨gb1040,0,none⟩) (Kd.R_types HO1049.out BK1040.out (by decide)) (fun _ hk=>hk.2) (.int .i64 (wrap64 (5+t1043)))) (fun _ hk=>hk.2) (.int .i64 (wrap64 (1+t1045)))) (fun _ hk=>hk.2) (.slice Ao29 y1047.length co29)) (fun _ h_=>h_.1))));(case side4=>exact(Kd.R_reads' HO1049.out).2.1);rintro e w33 ⟨rfl,hb⟩;refine⟨_,rfl,?_⟩;replace HO_5:=Aside0.mk (Kd.N_below (by(with_reducible repeat(first|apply Kd.N_alloc|apply Kd.N_drewN|apply Kd.N_drew));exact(Kd.N_mono (Kd.N_far (p:=⟨gb1040,2,none⟩) (Kd.N_far (p:=⟨gb1040,1,none⟩) (Kd.N_far (p:=⟨gb1040,0,none⟩) (Kd.N_mono HO_5.out (fun k_ hk=>(⟨hk,hk.1.2.2.1⟩:_∧k_≠gb1040))) (fun _ hk=>hk.2) (.int .i64 (wrap64 (5+t1043)))) (fun _ hk=>hk.2) (.int .i64 (wrap64 (1+t1045)))) (fun _ hk=>hk.2) (.slice Ao29 y1047.length co29)) (fun _ h_=>h_.1))) hb);replace HO_1041002:=Aside0.mk (Kd.V_below (by(with_reducible repeat(first|apply Kd.V_alloc|apply Kd.V_drewN|apply Kd.V_drew));exact(Kd.V_mono (Kd.V_far (p:=⟨gb1040,2,none⟩) (Kd.V_far (p:=⟨gb1040,1,none⟩) (Kd.V_far (p:=⟨gb1040,0,none⟩) (Kd.V_mono HO_1041002.out (fun k_ hk=>(⟨hk,hk.1.2.2.2.1⟩:_∧k_≠gb1040))) (fun _ hk=>hk.2) (.int .i64 (wrap64 (5+t1043)))) (fun _ hk=>hk.2) (.int .i64 (wrap64 (1+t1045)))) (fun _ hk=>hk.2) (.slice Ao29 y1047.length co29)) (fun _ h_=>h_.1))) hb);replace HO1049:=Aside0.mk (Kd.R_below (by(with_reducible repeat(first|apply Kd.R_alloc|apply Kd.R_drewN|apply Kd.R_drew));exact(Kd.R_mono (Kd.R_far (p:=⟨gb1040,2,none⟩) (Kd.R_far (p:=⟨gb1040,1,none⟩) (Kd.R_far (p:=⟨gb1040,0,none⟩) (Kd.R_types HO1049.out BK1040.out (by decide)) (fun _ hk=>hk.2) (.int .i64 (wrap64 (5+t1043)))) (fun _ hk=>hk.2) (.int .i64 (wrap64 (1+t1045)))) (fun _ hk=>hk.2) (.slice Ao29 y1047.length co29)) (fun _ h_=>h_.1))) hb);replace BK1028:=Aside0.mk (qaa (g:=gb1028) (o:=.cells #[.int .i64 x1029000_1,.int .i64 x1029001_1,.slice none 0 0] 62 (0,0)) (za6 NB1028_1040 BK1028) hb);replace BK1040:=Aside0.mk (qaa (g:=gb1040) (o:=.cells #[.int .i64 (wrap64 (5+t1043)),.int .i64 (wrap64 (1+t1045)),.slice Ao29 y1047.length co29] 62 (0,0)) (by(with_reducible repeat(first|refine blk_drewN ?_ _|refine blk_drew ?_|refine blk_alloc ?_ _));refine qai (cs:=#[.int .i64 (wrap64 (5+t1043)),.int .i64 (wrap64 (1+t1045)),u1041002]) ?_ 2 _ rfl;(with_reducible repeat(first|refine blk_drewN ?_ _|refine blk_drew ?_|refine blk_alloc ?_ _));refine qai (cs:=#[.int .i64 (wrap64 (5+t1043)),.int .i64 x1041001_1,u1041002]) ?_ 1 _ rfl;(with_reducible repeat(first|refine blk_drewN ?_ _|refine blk_drew ?_|refine blk_alloc ?_ _));refine qai (cs:=#[.int .i64 x1041000_1,.int .i64 x1041001_1,u1041002]) ?_ 0 _ rfl;(with_reducible repeat(first|refine blk_drewN ?_ _|refine blk_drew ?_|refine blk_alloc ?_ _));exact BK1040.out) hb);replace HB:=Aside0.mk (qab (by repeat(first|(with_reducible first|exact HB.out|apply qag|apply qad|apply qae|refine qac ?_ (IsS122.ge HI1031.out)|refine qac ?_ GE1028.out|refine qac ?_ GE1040.out)|exact HB.out)) hb);replace HI1031:=Aside0.mk (IsS122.below (show IsS122 w (((w27.setCell ⟨gb1040,0,none⟩ (.int .i64 (wrap64 (5+t1043)))).setCell ⟨gb1040,1,none⟩ (.int .i64 (wrap64 (1+t1045)))).setCell ⟨gb1040,2,none⟩ (.slice Ao29 y1047.length co29)) g1031 t1029 t1046 from by repeat(first|(with_reducible first|exact HI1031.out|apply IsS122.alloc|apply IsS122.drewN|apply IsS122.drew|apply IsS122.set_1|refine IsS122.far ?_ NB1031_1028.out _|refine IsS122.far ?_ NB1031_1040.out _)|exact HI1031.out)) hb);(try clear hb)))
       replace HO_5:=Aside0.mk (Kd.N_drew HO_5.out)
       replace HO_1041002:=Aside0.mk (Kd.V_drew HO_1041002.out)
       replace HO1049:=Aside0.mk (Kd.R_drew HO1049.out)
       replace BK1028:=Aside0.mk (blk_drew BK1028.out)
       replace BK1040:=Aside0.mk (blk_drew BK1040.out)
       replace HI1031:=Aside0.mk (IsS122.drew HI1031.out)
       replace HB:=Aside0.mk (qae HB.out)
       refine start_ (n:=4) (S:=fun w'=>w'.cell? ⟨gb1040,0,none⟩=some (.int .i64 (wrap64 (5+t1043)))∧w'.cell? ⟨gb1040,1,none⟩=some (.int .i64 (wrap64 (1+t1045)))∧w'.cell? ⟨gb1040,2,none⟩=some (.slice Ao29 y1047.length co29)) (ds:=[]) #[false,false,false,false] (by kernel_rfl) rfl rfl ⟨(blk_cell BK1040.out 0).trans rfl,(blk_cell BK1040.out 1).trans rfl,(blk_cell BK1040.out 2).trans rfl⟩ (fun hHeld=>?_)
       generalize w33.drew=w34 at HO_5 HO_1041002 HO1049 BK1028 BK1040 HI1031 HB hHeld ⊢
       refine qar (i:=0) (N:=some 45) (v:=?_) (a':=?_) #[true,false,false,false] rfl rfl (by kernel_rfl) (fun _ _ _ h=>h) (Or.inl ⟨by rfl,?_⟩) ?_ ?_
       rotate_left
       ·intro w'
        go_simp
        with_reducible rfl
       rotate_left
       ·simp only[Act.put,List.setIfInBounds_toArray,List.set_cons_zero,List.set_cons_succ,qaj,qak]
        rfl
       refine qar (i:=2) (N:=some 2) (v:=?_) (a':=?_) #[true,false,true,false] rfl rfl (by kernel_rfl) (fun _ _ _ h=>h) (Or.inl ⟨by rfl,?_⟩) ?_ ?_
       rotate_left
       ·intro w'
        go_simp
        with_reducible rfl
       rotate_left
       ·simp only[Act.put,List.setIfInBounds_toArray,List.set_cons_zero,List.set_cons_succ,qaj,qak]
        rfl
       refine take_ (i:=1) (N:=some 46) (v:=?_) (a':=?_) #[true,true,true,false] rfl rfl (by kernel_rfl) (fun _ _ _ h=>h) (Or.inl ⟨by rfl,?_⟩) hHeld ?_ ?_
       rotate_left
       ·rintro w' ⟨s0,s1,s2⟩
        go_simp
        with_reducible rfl
       rotate_left
       ·simp only[Act.put,List.setIfInBounds_toArray,List.set_cons_zero,List.set_cons_succ,qaj,qak]
        rfl
       refine one_ (i:=3) (N:=none) #[true,true,true,true] rfl rfl (by kernel_rfl) (by decide) (fun K hK=>?_)
       have hs35:w34.cell? ⟨gb1028,0,none⟩=some (.int .i64 x1029000_1):=(blk_cell BK1028.out 0).trans rfl
       have hfs35:=blk_frozen BK1028.out 0
       have hns35_1:=NB1040_1028.out
       have hms35_1:=NB1028_1040.out
       have hs36:w34.cell? ⟨gb1028,1,none⟩=some (.int .i64 x1029001_1):=(blk_cell BK1028.out 1).trans rfl
       have hfs36:=blk_frozen BK1028.out 1
       have hns36_1:=NB1040_1028.out
       have hms36_1:=NB1028_1040.out
       have hs37:w34.cell? ⟨gb1028,2,none⟩=some (.slice none 0 0):=(blk_cell BK1028.out 2).trans rfl
       have hfs37:=blk_frozen BK1028.out 2
       have hns37_1:=NB1040_1028.out
       have hms37_1:=NB1028_1040.out
       refine skip_ (w1:=?_) (by rfl) rfl ?_ ?_
       rotate_left
       ·go_simp
        rfl
       refine hK.out _ _ ⟨((qap (p:=⟨gb1028,_,none⟩) NB1040_1028.out _).trans (((qap (p:=⟨gb1028,_,none⟩) NB1040_1028.out _).trans (((qap (p:=⟨gb1028,_,none⟩) NB1040_1028.out _).trans (hHeld.1)))))),((qap (p:=⟨gb1028,_,none⟩) NB1040_1028.out _).trans (((qap (p:=⟨gb1028,_,none⟩) NB1040_1028.out _).trans (((qap (p:=⟨gb1028,_,none⟩) NB1040_1028.out _).trans (hHeld.2.1)))))),((qap (p:=⟨gb1028,_,none⟩) NB1040_1028.out _).trans (((qap (p:=⟨gb1028,_,none⟩) NB1040_1028.out _).trans (((qap (p:=⟨gb1028,_,none⟩) NB1040_1028.out _).trans (hHeld.2.2))))))⟩ (fun hHeld=>?_)
       clear hK K
       refine done_ (by kernel_rfl) ?_
       try go_wp2
       refine bodyPost_ret (results_tc rfl _ _ gb1028 62 #[.int .i64 (wrap64 (5+t1043)),.int .i64 (wrap64 (1+t1045)),.slice Ao29 y1047.length co29] (0,0) _ rfl (by(with_reducible repeat(first|refine blk_drewN ?_ _|refine blk_drew ?_|refine blk_alloc ?_ _));refine qai (cs:=#[.int .i64 (wrap64 (5+t1043)),.int .i64 (wrap64 (1+t1045)),.slice none 0 0]) ?_ 2 _ rfl;(with_reducible repeat(first|refine blk_drewN ?_ _|refine blk_drew ?_|refine blk_alloc ?_ _));refine qai (cs:=#[.int .i64 (wrap64 (5+t1043)),.int .i64 x1029001_1,.slice none 0 0]) ?_ 1 _ rfl;(with_reducible repeat(first|refine blk_drewN ?_ _|refine blk_drew ?_|refine blk_alloc ?_ _));refine qai (cs:=#[.int .i64 x1029000_1,.int .i64 x1029001_1,.slice none 0 0]) ?_ 0 _ rfl;(with_reducible repeat(first|refine blk_drewN ?_ _|refine blk_drew ?_|refine blk_alloc ?_ _));exact BK1028.out) Try.underlying62 rfl (by kernel_rfl)) rfl ?_
       exact⟨_,_,za9,by(with_reducible repeat(first|apply Kd.N_alloc|apply Kd.N_drewN|apply Kd.N_drew));exact Kd.N_mono (Kd.N_far (p:=⟨gb1028,2,none⟩) (Kd.N_far (p:=⟨gb1028,1,none⟩) (Kd.N_far (p:=⟨gb1028,0,none⟩) (Kd.N_mono HO_5.out (fun k_ hk=>(⟨hk,hk.1.2.1⟩:_∧k_≠gb1028))) (fun _ hk=>hk.2) (.int .i64 (wrap64 (5+t1043)))) (fun _ hk=>hk.2) (.int .i64 (wrap64 (1+t1045)))) (fun _ hk=>hk.2) (.slice Ao29 y1047.length co29)) (fun _ hk=>hk.1.1.1),Kd.R_V (by(with_reducible repeat(first|apply Kd.R_alloc|apply Kd.R_drewN|apply Kd.R_drew));exact Kd.R_mono (Kd.R_far (p:=⟨gb1028,2,none⟩) (Kd.R_far (p:=⟨gb1028,1,none⟩) (Kd.R_far (p:=⟨gb1028,0,none⟩) (Kd.R_types (Kd.R_apart' HO1049.out (Kd.N_typed HO_5.out) (by decide)) BK1028.out (by decide)) (fun _ hk=>hk.2) (.int .i64 (wrap64 (5+t1043)))) (fun _ hk=>hk.2) (.int .i64 (wrap64 (1+t1045)))) (fun _ hk=>hk.2) (.slice Ao29 y1047.length co29)) (fun _ hk=>⟨hk.1.1.1,hk.1.2⟩)),by repeat(first|(with_reducible first|exact HB.out|apply qag|apply qad|apply qae|refine qac ?_ (IsS122.ge HI1031.out)|refine qac ?_ GE1028.out|refine qac ?_ GE1040.out)|exact HB.out)⟩
      ·replace c24:=Bool.eq_false_iff.mpr c24
       subst c24
       have H1:(spec_DrawTripsMay.l0 kj14 t1032 (wrap64 (x7_1+1)) t1029 t1046 (wrap64 (5+t1043)) (wrap64 (1+t1045)) y1047)=some (r1,r2,r3,r4):=by rw[if_neg (show ¬(false=true) by decide)] at H;exact H
       clear H
       have H:=H1
       clear H1
       have H':=Aside0.mk H
       clear H
       go_wp2_with(first|((with_reducible refine qaf (f:=65) rfl ?_);refine zF (some 33) Try.func65 #[.pointer (some ⟨g1031,0,none⟩),.int .i64 3] ?_;(with_reducible refine(spec_l6Rd_pick.calls kj14 g1031 t1029 x1032001_14 3 t1043 t1044 w _ ?side1 ?side2 A21.out).mono ?_);(case side1=>repeat(first|(with_reducible first|exact HI1031.out|apply IsS122.alloc|apply IsS122.drewN|apply IsS122.drew|apply IsS122.set_1|refine IsS122.far ?_ NB1031_1028.out _|refine IsS122.far ?_ NB1031_1040.out _)|exact HI1031.out));(case side2=>exact(by repeat(first|(with_reducible first|exact HB.out|apply qag|apply qad|apply qae|refine qac ?_ (IsS122.ge HI1031.out)|refine qac ?_ GE1028.out|refine qac ?_ GE1040.out)|exact HB.out)));rintro e w38 ⟨rfl,hi,hb,hk⟩;refine⟨_,rfl,?_⟩;replace HO_5:=Aside0.mk (Kd.N_mono (Kd.N_keep (Kd.N_mono (ok:=fun k_=>(((w.heap.size≤k_))∧(k_≠gb1028∧(k_≠gb1040∧k_≠g1031)))) (za11 HO_5) (fun k_ hk_=>(⟨hk_,hk_.2.2.2⟩:_∧k_≠g1031))) hk (fun _ h=>h.2)) (fun _ h=>h.1));replace HO_1041002:=Aside0.mk (Kd.V_mono (Kd.V_keep (Kd.V_mono (ok:=fun k_=>(((w.heap.size≤k_))∧(some k_≠(.slice Ao8 t1032.length co8:Value).ownBlock∧(k_≠gb1028∧(k_≠gb1040∧k_≠g1031))))) (za19 HO_1041002) (fun k_ hk_=>(⟨hk_,hk_.2.2.2.2⟩:_∧k_≠g1031))) hk (fun _ h=>h.2)) (fun _ h=>h.1));replace BK1028:=Aside0.mk (KeepBut.blk hk (zB BK1028) NB1028_1031.out (by simp));replace BK1040:=Aside0.mk (KeepBut.blk hk (zB BK1040) NB1040_1031.out (by simp));replace HB:=Aside0.mk hb;replace HI1031:=Aside0.mk hi;(try clear hb);(try clear hk);(try clear hi))|((with_reducible refine qaf (f:=65) rfl ?_);refine zF (some 38) Try.func65 #[.pointer (some ⟨g1031,0,none⟩),.int .i64 (t1032.length:Int)] ?_;(with_reducible refine(spec_l6Rd_pick.calls kj14 g1031 t1029 t1044 (t1032.length:Int) t1045 t1046 w _ ?side1 ?side2 A22.out).mono ?_);(case side1=>repeat(first|(with_reducible first|exact HI1031.out|apply IsS122.alloc|apply IsS122.drewN|apply IsS122.drew|apply IsS122.set_1|refine IsS122.far ?_ NB1031_1028.out _|refine IsS122.far ?_ NB1031_1040.out _)|exact HI1031.out));(case side2=>exact(by repeat(first|(with_reducible first|exact HB.out|apply qag|apply qad|apply qae|refine qac ?_ (IsS122.ge HI1031.out)|refine qac ?_ GE1028.out|refine qac ?_ GE1040.out)|exact HB.out)));rintro e w39 ⟨rfl,hi,hb,hk⟩;refine⟨_,rfl,?_⟩;replace HO_5:=Aside0.mk (Kd.N_mono (Kd.N_keep (Kd.N_mono (ok:=fun k_=>(((w.heap.size≤k_))∧(k_≠gb1028∧(k_≠gb1040∧k_≠g1031)))) (za11 HO_5) (fun k_ hk_=>(⟨hk_,hk_.2.2.2⟩:_∧k_≠g1031))) hk (fun _ h=>h.2)) (fun _ h=>h.1));replace HO_1041002:=Aside0.mk (Kd.V_mono (Kd.V_keep (Kd.V_mono (ok:=fun k_=>(((w.heap.size≤k_))∧(some k_≠(.slice Ao8 t1032.length co8:Value).ownBlock∧(k_≠gb1028∧(k_≠gb1040∧k_≠g1031))))) (za19 HO_1041002) (fun k_ hk_=>(⟨hk_,hk_.2.2.2.2⟩:_∧k_≠g1031))) hk (fun _ h=>h.2)) (fun _ h=>h.1));replace BK1028:=Aside0.mk (KeepBut.blk hk (zB BK1028) NB1028_1031.out (by simp));replace BK1040:=Aside0.mk (KeepBut.blk hk (zB BK1040) NB1040_1031.out (by simp));replace HB:=Aside0.mk hb;replace HI1031:=Aside0.mk hi;(try clear hb);(try clear hk);(try clear hi))|((with_reducible refine qah (N:=40) rfl ?_);(try(refine qaq (by rfl) ?_;dsimp only));refine Kd.R_lit (Kd.int .i64) _ 3 (by rfl) (N:=40) (by rfl) (xs:=([]:List Int)) (inner:=[]) (ok:=fun _=>True) (okp:=fun _=>True) (by first|(go_simp;done)|(go_simp;rfl)) (Reps.none _ _) (fun _ hk=>hk) trivial (Below.refl _ _) (Nat.le_refl _) (by simp) ?_;intro v1048 w40 ho41 hb hg_ hnew_;clear hg_ hnew_;(first|rw[←Ny1047.out] at ho41|(simp only[Int.reduceToNat] at ho41;rw[←Ny1047.out] at ho41));replace HO_5:=Aside0.mk (Kd.N_elder' (za11 HO_5) (Kd.R_base ho41) hb);replace HO_1041002:=Aside0.mk (Kd.V_elder' (za19 HO_1041002) (Kd.R_base ho41) hb);have HO1049:=Aside0.mk (Kd.R_lower (Kd.R_newM (M:=fun k_=>(w.heap.size≤k_)) ho41 (below_size (by repeat(first|(with_reducible first|exact HB.out|apply qag|apply qad|apply qae|refine qac ?_ (IsS122.ge HI1031.out)|refine qac ?_ GE1028.out|refine qac ?_ GE1040.out)|exact HB.out))) (fun k_ h_=>h_)) (below_size (by repeat(first|(with_reducible first|exact HB.out|apply qag|apply qad|apply qae|refine qac ?_ (IsS122.ge HI1031.out)|refine qac ?_ GE1028.out|refine qac ?_ GE1040.out)|exact HB.out))));replace BK1028:=Aside0.mk (qaa (zB BK1028) hb);replace BK1040:=Aside0.mk (qaa (zB BK1040) hb);replace HB:=Aside0.mk (qab (by repeat(first|(with_reducible first|exact HB.out|apply qag|apply qad|apply qae|refine qac ?_ (IsS122.ge HI1031.out)|refine qac ?_ GE1028.out|refine qac ?_ GE1040.out)|exact HB.out)) hb);replace HI1031:=Aside0.mk (IsS122.below (by repeat(first|(with_reducible first|exact HI1031.out|apply IsS122.alloc|apply IsS122.drewN|apply IsS122.drew|apply IsS122.set_1|refine IsS122.far ?_ NB1031_1028.out _|refine IsS122.far ?_ NB1031_1040.out _)|exact HI1031.out)) hb);clear hb ho41;obtain⟨Ao42,co42,eo42⟩:=Kd.R_slice HO1049.out;subst eo42;have hnb43:=NB1040_1028.out;have hnc43:=NB1028_1040.out;have hnb44:=NB1040_1031.out;have hnc44:=NB1031_1040.out;obtain⟨hcz45_0,hcz45_1,hcz45_2,hfz45_0,hfz45_1,hfz45_2⟩:=zC3 BK1040)|((with_reducible refine qaf (f:=49) rfl ?_);refine zF (some 44) Try.func49 #[.slice Ao8 t1032.length co8,.agg #[.int .i64 (wrap64 (5+t1043)),.int .i64 (wrap64 (1+t1045)),.slice Ao42 y1047.length co42]] ?_;(with_reducible refine(spec_TripsMay.calls kj14 _ _ t1032 (wrap64 (5+t1043)) (wrap64 (1+t1045)) _ _ y1047 false _ ?side1 ?side2 ?side3 ?side4 A23.out).mono ?_);(case side1=>refine(Kd.N_reads' (e:=73) (base:=w.heap.size) (ok:=fun k_=>(((w.heap.size≤k_)∧(k_≠gb1028∧(k_≠gb1040∧k_≠g1031)))∧some k_≠(.slice Ao42 y1047.length co42:Value).ownBlock)) (n:=t1032.length) (c:=co8) ?_).2.2;exact(by(with_reducible repeat(first|apply Kd.N_alloc|apply Kd.N_drewN|apply Kd.N_drew));exact(Kd.N_mono (Kd.N_far (p:=⟨gb1040,2,none⟩) (Kd.N_far (p:=⟨gb1040,1,none⟩) (Kd.N_far (p:=⟨gb1040,0,none⟩) (Kd.N_mono HO_5.out (fun k_ hk=>(⟨hk,hk.1.2.2.1⟩:_∧k_≠gb1040))) (fun _ hk=>hk.2) (.int .i64 (wrap64 (5+t1043)))) (fun _ hk=>hk.2) (.int .i64 (wrap64 (1+t1045)))) (fun _ hk=>hk.2) (.slice Ao42 y1047.length co42)) (fun _ h_=>h_.1))));(case side2=>exact(Kd.N_reads' HO_5.out).2.1);(case side3=>refine(Kd.R_reads' (e:=3) (base:=w.heap.size) (ok:=fun k_=>((w.heap.size≤k_)∧True)) (n:=y1047.length) (c:=co42) ?_).2.2;exact(by(with_reducible repeat(first|apply Kd.R_alloc|apply Kd.R_drewN|apply Kd.R_drew));exact(Kd.R_mono (Kd.R_far (p:=⟨gb1040,2,none⟩) (Kd.R_far (p:=⟨gb1040,1,none⟩) (Kd.R_far (p:=⟨gb1040,0,none⟩) (Kd.R_types HO1049.out BK1040.out (by decide)) (fun _ hk=>hk.2) (.int .i64 (wrap64 (5+t1043)))) (fun _ hk=>hk.2) (.int .i64 (wrap64 (1+t1045)))) (fun _ hk=>hk.2) (.slice Ao42 y1047.length co42)) (fun _ h_=>h_.1))));(case side4=>exact(Kd.R_reads' HO1049.out).2.1);rintro e w46 ⟨rfl,hb⟩;refine⟨_,rfl,?_⟩;replace HO_5:=Aside0.mk (Kd.N_below (by(with_reducible repeat(first|apply Kd.N_alloc|apply Kd.N_drewN|apply Kd.N_drew));exact(Kd.N_mono (Kd.N_far (p:=⟨gb1040,2,none⟩) (Kd.N_far (p:=⟨gb1040,1,none⟩) (Kd.N_far (p:=⟨gb1040,0,none⟩) (Kd.N_mono HO_5.out (fun k_ hk=>(⟨hk,hk.1.2.2.1⟩:_∧k_≠gb1040))) (fun _ hk=>hk.2) (.int .i64 (wrap64 (5+t1043)))) (fun _ hk=>hk.2) (.int .i64 (wrap64 (1+t1045)))) (fun _ hk=>hk.2) (.slice Ao42 y1047.length co42)) (fun _ h_=>h_.1))) hb);replace HO_1041002:=Aside0.mk (Kd.V_below (by(with_reducible repeat(first|apply Kd.V_alloc|apply Kd.V_drewN|apply Kd.V_drew));exact(Kd.V_mono (Kd.V_far (p:=⟨gb1040,2,none⟩) (Kd.V_far (p:=⟨gb1040,1,none⟩) (Kd.V_far (p:=⟨gb1040,0,none⟩) (Kd.V_mono HO_1041002.out (fun k_ hk=>(⟨hk,hk.1.2.2.2.1⟩:_∧k_≠gb1040))) (fun _ hk=>hk.2) (.int .i64 (wrap64 (5+t1043)))) (fun _ hk=>hk.2) (.int .i64 (wrap64 (1+t1045)))) (fun _ hk=>hk.2) (.slice Ao42 y1047.length co42)) (fun _ h_=>h_.1))) hb);replace HO1049:=Aside0.mk (Kd.R_below (by(with_reducible repeat(first|apply Kd.R_alloc|apply Kd.R_drewN|apply Kd.R_drew));exact(Kd.R_mono (Kd.R_far (p:=⟨gb1040,2,none⟩) (Kd.R_far (p:=⟨gb1040,1,none⟩) (Kd.R_far (p:=⟨gb1040,0,none⟩) (Kd.R_types HO1049.out BK1040.out (by decide)) (fun _ hk=>hk.2) (.int .i64 (wrap64 (5+t1043)))) (fun _ hk=>hk.2) (.int .i64 (wrap64 (1+t1045)))) (fun _ hk=>hk.2) (.slice Ao42 y1047.length co42)) (fun _ h_=>h_.1))) hb);replace BK1028:=Aside0.mk (qaa (g:=gb1028) (o:=.cells #[.int .i64 x1029000_1,.int .i64 x1029001_1,.slice none 0 0] 62 (0,0)) (za6 NB1028_1040 BK1028) hb);replace BK1040:=Aside0.mk (qaa (g:=gb1040) (o:=.cells #[.int .i64 (wrap64 (5+t1043)),.int .i64 (wrap64 (1+t1045)),.slice Ao42 y1047.length co42] 62 (0,0)) (by(with_reducible repeat(first|refine blk_drewN ?_ _|refine blk_drew ?_|refine blk_alloc ?_ _));refine qai (cs:=#[.int .i64 (wrap64 (5+t1043)),.int .i64 (wrap64 (1+t1045)),u1041002]) ?_ 2 _ rfl;(with_reducible repeat(first|refine blk_drewN ?_ _|refine blk_drew ?_|refine blk_alloc ?_ _));refine qai (cs:=#[.int .i64 (wrap64 (5+t1043)),.int .i64 x1041001_1,u1041002]) ?_ 1 _ rfl;(with_reducible repeat(first|refine blk_drewN ?_ _|refine blk_drew ?_|refine blk_alloc ?_ _));refine qai (cs:=#[.int .i64 x1041000_1,.int .i64 x1041001_1,u1041002]) ?_ 0 _ rfl;(with_reducible repeat(first|refine blk_drewN ?_ _|refine blk_drew ?_|refine blk_alloc ?_ _));exact BK1040.out) hb);replace HB:=Aside0.mk (qab (by repeat(first|(with_reducible first|exact HB.out|apply qag|apply qad|apply qae|refine qac ?_ (IsS122.ge HI1031.out)|refine qac ?_ GE1028.out|refine qac ?_ GE1040.out)|exact HB.out)) hb);replace HI1031:=Aside0.mk (IsS122.below (show IsS122 w (((w40.setCell ⟨gb1040,0,none⟩ (.int .i64 (wrap64 (5+t1043)))).setCell ⟨gb1040,1,none⟩ (.int .i64 (wrap64 (1+t1045)))).setCell ⟨gb1040,2,none⟩ (.slice Ao42 y1047.length co42)) g1031 t1029 t1046 from by repeat(first|(with_reducible first|exact HI1031.out|apply IsS122.alloc|apply IsS122.drewN|apply IsS122.drew|apply IsS122.set_1|refine IsS122.far ?_ NB1031_1028.out _|refine IsS122.far ?_ NB1031_1040.out _)|exact HI1031.out)) hb);(try clear hb)))
       go_roundg kj14
       case measure=>have:=HK1.out;have:=HJ14.out;omega
       case rel=>exact⟨(wrap64 (x7_1+1)),(x1029000_1),(x1029001_1),(t1046),(wrap64 (5+t1043)),(wrap64 (1+t1045)),(y1047),(.slice Ao42 y1047.length co42),(za17),H',⟨by have:=HK1.out;have:=HJ14.out;omega⟩,⟨by(with_reducible repeat(first|apply Kd.N_alloc|apply Kd.N_drewN|apply Kd.N_drew));exact Kd.N_mono HO_5.out (fun _ hk=>⟨hk.1.1,⟨hk.1.2.1,⟨hk.1.2.2.1,hk.1.2.2.2⟩⟩⟩)⟩,⟨Kd.R_V (by(with_reducible repeat(first|apply Kd.R_alloc|apply Kd.R_drewN|apply Kd.R_drew));exact Kd.R_mono (IsS122.apart HI1031.out (Kd.R_types (Kd.R_types (Kd.R_apart' HO1049.out (Kd.N_typed HO_5.out) (by decide)) BK1028.out (by decide)) BK1040.out (by decide)) (by decide)) (fun _ hk=>⟨hk.1.1.1.1.1,⟨hk.1.1.1.2,⟨hk.1.1.2,⟨hk.1.2,hk.2⟩⟩⟩⟩))⟩,⟨za16 BK1028⟩,⟨za16 BK1040⟩,⟨by repeat(first|(with_reducible first|exact HI1031.out|apply IsS122.alloc|apply IsS122.drewN|apply IsS122.drew|apply IsS122.set_1|refine IsS122.far ?_ NB1031_1028.out _|refine IsS122.far ?_ NB1031_1040.out _)|exact HI1031.out)⟩,⟨by repeat(first|(with_reducible first|exact HB.out|apply qag|apply qad|apply qae|refine qac ?_ (IsS122.ge HI1031.out)|refine qac ?_ GE1028.out|refine qac ?_ GE1040.out)|exact HB.out)⟩⟩
     ·replace c20:=Bool.eq_false_iff.mpr c20
      subst c20
      have H1:((spec_l6Rd_pick.f kj14 t1029 x1032001_14 12).bind fun bt1051=>(if bt1051.1=0 then((spec_l71RecV.f kj14 t1029 bt1051.2).bind fun bt1053=>(some (t1032,bt1053.1,bt1053.2.1,bt1053.2.2.1))) else(some (t1032,x1041000_1,x1041001_1,x1041002_1))))=some (r1,r2,r3,r4):=by rw[if_neg (show ¬(false=true) by decide)] at H;exact H
      clear H
      have H:=H1
      clear H1
      replace H:=Option.bind_eq_some_iff.mp H
      obtain⟨⟨t1051,t1052⟩,A470,H⟩:=H
      replace H:(if t1051=0 then((spec_l71RecV.f kj14 t1029 t1052).bind fun bt1053=>(some (t1032,bt1053.1,bt1053.2.1,bt1053.2.2.1))) else(some (t1032,x1041000_1,x1041001_1,x1041002_1)))=some (r1,r2,r3,r4):=H
      have A47:=Aside0.mk A470
      clear A470
      by_cases c48:t1051=0
      ·rw[if_pos c48] at H
       have c48b0:(t1051 == 0)=true:=beq_iff_eq.mpr c48
       have c48b1:(t1051 != 0)=false:=bne_eq_false_iff_eq.mpr c48
       clear c48
       replace H:=Option.bind_eq_some_iff.mp H
       obtain⟨⟨t1053,t1054,t1055,t1058⟩,A490,H⟩:=H
       replace H:(some (t1032,t1053,t1054,t1055))=some (r1,r2,r3,r4):=H
       have A49:=Aside0.mk A490
       clear A490
       simp only[Option.some.injEq,Prod.mk.injEq] at H
       obtain⟨rfl,rfl,rfl,rfl⟩:=H
       try go_wp2_with(first|((with_reducible refine qaf (f:=65) rfl ?_);refine zF (some 48) Try.func65 #[.pointer (some ⟨g1031,0,none⟩),.int .i64 12] ?_;(with_reducible refine(spec_l6Rd_pick.calls kj14 g1031 t1029 x1032001_14 12 t1051 t1052 w _ ?side1 ?side2 A47.out).mono ?_);(case side1=>repeat(first|(with_reducible first|exact HI1031.out|apply IsS122.alloc|apply IsS122.drewN|apply IsS122.drew|apply IsS122.set_1|refine IsS122.far ?_ NB1031_1028.out _|refine IsS122.far ?_ NB1031_1040.out _)|exact HI1031.out));(case side2=>exact(by repeat(first|(with_reducible first|exact HB.out|apply qag|apply qad|apply qae|refine qac ?_ (IsS122.ge HI1031.out)|refine qac ?_ GE1028.out|refine qac ?_ GE1040.out)|exact HB.out)));rintro e w50 ⟨rfl,hi,hb,hk⟩;refine⟨_,rfl,?_⟩;replace HO_5:=Aside0.mk (Kd.N_mono (Kd.N_keep (Kd.N_mono (ok:=fun k_=>(((w.heap.size≤k_))∧(k_≠gb1028∧(k_≠gb1040∧k_≠g1031)))) (za11 HO_5) (fun k_ hk_=>(⟨hk_,hk_.2.2.2⟩:_∧k_≠g1031))) hk (fun _ h=>h.2)) (fun _ h=>h.1));replace HO_1041002:=Aside0.mk (Kd.V_mono (Kd.V_keep (Kd.V_mono (ok:=fun k_=>(((w.heap.size≤k_))∧(some k_≠(.slice Ao8 t1032.length co8:Value).ownBlock∧(k_≠gb1028∧(k_≠gb1040∧k_≠g1031))))) (za19 HO_1041002) (fun k_ hk_=>(⟨hk_,hk_.2.2.2.2⟩:_∧k_≠g1031))) hk (fun _ h=>h.2)) (fun _ h=>h.1));replace BK1028:=Aside0.mk (KeepBut.blk hk (zB BK1028) NB1028_1031.out (by simp));replace BK1040:=Aside0.mk (KeepBut.blk hk (zB BK1040) NB1040_1031.out (by simp));replace HB:=Aside0.mk hb;replace HI1031:=Aside0.mk hi;(try clear hb);(try clear hk);(try clear hi))|((with_reducible refine qaf (f:=85) rfl ?_);refine zF (some 51) Try.func85 #[.pointer (some ⟨g1031,0,none⟩)] ?_;(with_reducible refine(spec_l71RecV.calls kj14 g1031 t1029 t1052 t1053 t1054 t1055 t1058 w _ ?side1 ?side2 A49.out).mono ?_);(case side1=>repeat(first|(with_reducible first|exact HI1031.out|apply IsS122.alloc|apply IsS122.drewN|apply IsS122.drew|apply IsS122.set_1|refine IsS122.far ?_ NB1031_1028.out _|refine IsS122.far ?_ NB1031_1040.out _)|exact HI1031.out));(case side2=>exact(by repeat(first|(with_reducible first|exact HB.out|apply qag|apply qad|apply qae|refine qac ?_ (IsS122.ge HI1031.out)|refine qac ?_ GE1028.out|refine qac ?_ GE1040.out)|exact HB.out)));rintro e w51 ⟨v1056,rfl,ho0,hi,hb,hk⟩;refine⟨_,rfl,?_⟩;replace HO_1041002:=Aside0.mk (Kd.V_mono (Kd.V_keep (Kd.V_mono (ok:=fun k_=>(((w.heap.size≤k_))∧(some k_≠(.slice Ao8 t1032.length co8:Value).ownBlock∧(k_≠gb1028∧(k_≠gb1040∧k_≠g1031))))) (za19 HO_1041002) (fun k_ hk_=>(⟨hk_,hk_.2.2.2.2⟩:_∧k_≠g1031))) hk (fun _ h=>h.2)) (fun _ h=>h.1));have HO1057:=Aside0.mk (Kd.V_lower (Kd.V_mono (ok':=fun k_=>(w.heap.size≤k_)∧some k_≠(.slice Ao8 t1032.length co8:Value).ownBlock∧k_≠gb1028∧k_≠gb1040∧k_≠g1031) ho0 (fun k_ hk_=>⟨(Nat.le_trans (below_size (by repeat(first|(with_reducible first|exact HB.out|apply qag|apply qad|apply qae|refine qac ?_ (IsS122.ge HI1031.out)|refine qac ?_ GE1028.out|refine qac ?_ GE1040.out)|exact HB.out))) hk_),(Kd.fresh' (Kd.N_lt (za11 HO_5)) k_ hk_),(Kd.freshB (zB BK1028) k_ hk_),(Kd.freshB (zB BK1040) k_ hk_),(IsS122.fresh (by repeat(first|(with_reducible first|exact HI1031.out|apply IsS122.alloc|apply IsS122.drewN|apply IsS122.drew|apply IsS122.set_1|refine IsS122.far ?_ NB1031_1028.out _|refine IsS122.far ?_ NB1031_1040.out _)|exact HI1031.out)) k_ hk_)⟩)) (below_size (by repeat(first|(with_reducible first|exact HB.out|apply qag|apply qad|apply qae|refine qac ?_ (IsS122.ge HI1031.out)|refine qac ?_ GE1028.out|refine qac ?_ GE1040.out)|exact HB.out))));replace HO_5:=Aside0.mk (Kd.N_mono (Kd.N_keep (Kd.N_mono (ok:=fun k_=>(((w.heap.size≤k_))∧(k_≠gb1028∧(k_≠gb1040∧k_≠g1031)))) (za11 HO_5) (fun k_ hk_=>(⟨hk_,hk_.2.2.2⟩:_∧k_≠g1031))) hk (fun _ h=>h.2)) (fun _ h=>h.1));replace BK1028:=Aside0.mk (KeepBut.blk hk (zB BK1028) NB1028_1031.out (by simp));replace BK1040:=Aside0.mk (KeepBut.blk hk (zB BK1040) NB1040_1031.out (by simp));replace HB:=Aside0.mk hb;replace HI1031:=Aside0.mk hi;(try clear hb);(try clear hk);(try clear hi);(try clear ho0);have hnb52:=NB1040_1028.out;have hnc52:=NB1028_1040.out;have hnb53:=NB1040_1031.out;have hnc53:=NB1031_1040.out;obtain⟨hcz54_0,hcz54_1,hcz54_2,hfz54_0,hfz54_1,hfz54_2⟩:=zC3 BK1040;obtain⟨Ao55,co55,eo55⟩:=Kd.V_slice HO1057.out;subst eo55))
       have n0_:Aside0 (Kd.N k73 73 (((w51.setCell ⟨gb1040,0,none⟩ (.int .i64 t1053)).setCell ⟨gb1040,1,none⟩ (.int .i64 t1054)).setCell ⟨gb1040,2,none⟩ (.slice Ao55 t1055.length co55)) w.heap.size (fun k_=>(w.heap.size≤k_)∧k_≠gb1028∧k_≠gb1040∧k_≠g1031) (.slice Ao8 t1032.length co8) t1032):=⟨by(with_reducible repeat(first|apply Kd.N_alloc|apply Kd.N_drewN|apply Kd.N_drew));exact Kd.N_mono (Kd.N_far (p:=⟨gb1040,2,none⟩) (Kd.N_far (p:=⟨gb1040,1,none⟩) (Kd.N_far (p:=⟨gb1040,0,none⟩) (Kd.N_mono HO_5.out (fun k_ hk=>(⟨hk,hk.2.2.1⟩:_∧k_≠gb1040))) (fun _ hk=>hk.2) (.int .i64 t1053)) (fun _ hk=>hk.2) (.int .i64 t1054)) (fun _ hk=>hk.2) (.slice Ao55 t1055.length co55)) (fun _ hk=>⟨hk.1.1,⟨hk.1.2.1,⟨hk.1.2.2.1,hk.1.2.2.2⟩⟩⟩)⟩
       have n1_:Aside0 (Kd.V (Kd.int .i64) 3 (((w51.setCell ⟨gb1040,0,none⟩ (.int .i64 t1053)).setCell ⟨gb1040,1,none⟩ (.int .i64 t1054)).setCell ⟨gb1040,2,none⟩ (.slice Ao55 t1055.length co55)) w.heap.size (fun k_=>(w.heap.size≤k_)∧some k_≠(.slice Ao8 t1032.length co8:Value).ownBlock∧k_≠gb1028∧k_≠gb1040∧k_≠g1031) u1041002 x1041002_1):=⟨by(with_reducible repeat(first|apply Kd.V_alloc|apply Kd.V_drewN|apply Kd.V_drew));exact Kd.V_mono (Kd.V_far (p:=⟨gb1040,2,none⟩) (Kd.V_far (p:=⟨gb1040,1,none⟩) (Kd.V_far (p:=⟨gb1040,0,none⟩) (Kd.V_mono HO_1041002.out (fun k_ hk=>(⟨hk,hk.2.2.2.1⟩:_∧k_≠gb1040))) (fun _ hk=>hk.2) (.int .i64 t1053)) (fun _ hk=>hk.2) (.int .i64 t1054)) (fun _ hk=>hk.2) (.slice Ao55 t1055.length co55)) (fun _ hk=>⟨hk.1.1,⟨hk.1.2.1,⟨hk.1.2.2.1,⟨hk.1.2.2.2.1,hk.1.2.2.2.2⟩⟩⟩⟩)⟩
       have n2_:Aside0 (Kd.V (Kd.int .i64) 3 (((w51.setCell ⟨gb1040,0,none⟩ (.int .i64 t1053)).setCell ⟨gb1040,1,none⟩ (.int .i64 t1054)).setCell ⟨gb1040,2,none⟩ (.slice Ao55 t1055.length co55)) w.heap.size (fun k_=>(w.heap.size≤k_)∧some k_≠(.slice Ao8 t1032.length co8:Value).ownBlock∧k_≠gb1028∧k_≠gb1040∧k_≠g1031) (.slice Ao55 t1055.length co55) t1055):=⟨by(with_reducible repeat(first|apply Kd.V_alloc|apply Kd.V_drewN|apply Kd.V_drew));exact Kd.V_mono (Kd.V_far (p:=⟨gb1040,2,none⟩) (Kd.V_far (p:=⟨gb1040,1,none⟩) (Kd.V_far (p:=⟨gb1040,0,none⟩) (Kd.V_mono HO1057.out (fun k_ hk=>(⟨hk,hk.2.2.2.1⟩:_∧k_≠gb1040))) (fun _ hk=>hk.2) (.int .i64 t1053)) (fun _ hk=>hk.2) (.int .i64 t1054)) (fun _ hk=>hk.2) (.slice Ao55 t1055.length co55)) (fun _ hk=>⟨hk.1.1,⟨hk.1.2.1,⟨hk.1.2.2.1,⟨hk.1.2.2.2.1,hk.1.2.2.2.2⟩⟩⟩⟩)⟩
       have n3_:Aside0 ((((w51.setCell ⟨gb1040,0,none⟩ (.int .i64 t1053)).setCell ⟨gb1040,1,none⟩ (.int .i64 t1054)).setCell ⟨gb1040,2,none⟩ (.slice Ao55 t1055.length co55)).heap[gb1028]?=some (.cells #[.int .i64 x1029000_1,.int .i64 x1029001_1,.slice none 0 0] 62 (0,0))):=⟨za6 NB1028_1040 BK1028⟩
       have n4_:Aside0 ((((w51.setCell ⟨gb1040,0,none⟩ (.int .i64 t1053)).setCell ⟨gb1040,1,none⟩ (.int .i64 t1054)).setCell ⟨gb1040,2,none⟩ (.slice Ao55 t1055.length co55)).heap[gb1040]?=some (.cells #[.int .i64 t1053,.int .i64 t1054,.slice Ao55 t1055.length co55] 62 (0,0))):=⟨by(with_reducible repeat(first|refine blk_drewN ?_ _|refine blk_drew ?_|refine blk_alloc ?_ _));refine qai (cs:=#[.int .i64 t1053,.int .i64 t1054,u1041002]) ?_ 2 _ rfl;(with_reducible repeat(first|refine blk_drewN ?_ _|refine blk_drew ?_|refine blk_alloc ?_ _));refine qai (cs:=#[.int .i64 t1053,.int .i64 x1041001_1,u1041002]) ?_ 1 _ rfl;(with_reducible repeat(first|refine blk_drewN ?_ _|refine blk_drew ?_|refine blk_alloc ?_ _));refine qai (cs:=#[.int .i64 x1041000_1,.int .i64 x1041001_1,u1041002]) ?_ 0 _ rfl;(with_reducible repeat(first|refine blk_drewN ?_ _|refine blk_drew ?_|refine blk_alloc ?_ _));exact BK1040.out⟩
       have n5_:Aside0 (IsS122 w (((w51.setCell ⟨gb1040,0,none⟩ (.int .i64 t1053)).setCell ⟨gb1040,1,none⟩ (.int .i64 t1054)).setCell ⟨gb1040,2,none⟩ (.slice Ao55 t1055.length co55)) g1031 t1029 t1058):=⟨by repeat(first|(with_reducible first|exact HI1031.out|apply IsS122.alloc|apply IsS122.drewN|apply IsS122.drew|apply IsS122.set_1|refine IsS122.far ?_ NB1031_1028.out _|refine IsS122.far ?_ NB1031_1040.out _)|exact HI1031.out)⟩
       have n6_:Aside0 (Below w.heap.size w (((w51.setCell ⟨gb1040,0,none⟩ (.int .i64 t1053)).setCell ⟨gb1040,1,none⟩ (.int .i64 t1054)).setCell ⟨gb1040,2,none⟩ (.slice Ao55 t1055.length co55))):=⟨by repeat(first|(with_reducible first|exact HB.out|apply qag|apply qad|apply qae|refine qac ?_ (IsS122.ge HI1031.out)|refine qac ?_ GE1028.out|refine qac ?_ GE1040.out)|exact HB.out)⟩
       (try clear HO_5)
       (try clear HO_1041002)
       (try clear HO1057)
       (try clear BK1028)
       (try clear BK1040)
       (try clear HI1031)
       (try clear HB)
       generalize (((w51.setCell ⟨gb1040,0,none⟩ (.int .i64 t1053)).setCell ⟨gb1040,1,none⟩ (.int .i64 t1054)).setCell ⟨gb1040,2,none⟩ (.slice Ao55 t1055.length co55))=w56 at n0_ n1_ n2_ n3_ n4_ n5_ n6_ ⊢
       have HO_5:=n0_
       have HO_1041002:=n1_
       have HO1057:=n2_
       have BK1028:=n3_
       have BK1040:=n4_
       have HI1031:=n5_
       have HB:=n6_
       clear n0_ n1_ n2_ n3_ n4_ n5_ n6_
       replace HO_5:=Aside0.mk (Kd.N_drew HO_5.out)
       replace HO_1041002:=Aside0.mk (Kd.V_drew HO_1041002.out)
       replace HO1057:=Aside0.mk (Kd.V_drew HO1057.out)
       replace BK1028:=Aside0.mk (blk_drew BK1028.out)
       replace BK1040:=Aside0.mk (blk_drew BK1040.out)
       replace HI1031:=Aside0.mk (IsS122.drew HI1031.out)
       replace HB:=Aside0.mk (qae HB.out)
       refine start_ (n:=4) (S:=fun w'=>w'.cell? ⟨gb1040,0,none⟩=some (.int .i64 t1053)∧w'.cell? ⟨gb1040,1,none⟩=some (.int .i64 t1054)∧w'.cell? ⟨gb1040,2,none⟩=some (.slice Ao55 t1055.length co55)) (ds:=[]) #[false,false,false,false] (by kernel_rfl) rfl rfl ⟨(blk_cell BK1040.out 0).trans rfl,(blk_cell BK1040.out 1).trans rfl,(blk_cell BK1040.out 2).trans rfl⟩ (fun hHeld=>?_)
       generalize w56.drew=w57 at HO_5 HO_1041002 HO1057 BK1028 BK1040 HI1031 HB hHeld ⊢
       refine qar (i:=0) (N:=some 52) (v:=?_) (a':=?_) #[true,false,false,false] rfl rfl (by kernel_rfl) (fun _ _ _ h=>h) (Or.inl ⟨by rfl,?_⟩) ?_ ?_
       rotate_left
       ·intro w'
        go_simp
        with_reducible rfl
       rotate_left
       ·simp only[Act.put,List.setIfInBounds_toArray,List.set_cons_zero,List.set_cons_succ,qaj,qak]
        rfl
       refine qar (i:=2) (N:=some 2) (v:=?_) (a':=?_) #[true,false,true,false] rfl rfl (by kernel_rfl) (fun _ _ _ h=>h) (Or.inl ⟨by rfl,?_⟩) ?_ ?_
       rotate_left
       ·intro w'
        go_simp
        with_reducible rfl
       rotate_left
       ·simp only[Act.put,List.setIfInBounds_toArray,List.set_cons_zero,List.set_cons_succ,qaj,qak]
        rfl
       refine take_ (i:=1) (N:=some 53) (v:=?_) (a':=?_) #[true,true,true,false] rfl rfl (by kernel_rfl) (fun _ _ _ h=>h) (Or.inl ⟨by rfl,?_⟩) hHeld ?_ ?_
       rotate_left
       ·rintro w' ⟨s0,s1,s2⟩
        go_simp
        with_reducible rfl
       rotate_left
       ·simp only[Act.put,List.setIfInBounds_toArray,List.set_cons_zero,List.set_cons_succ,qaj,qak]
        rfl
       refine one_ (i:=3) (N:=none) #[true,true,true,true] rfl rfl (by kernel_rfl) (by decide) (fun K hK=>?_)
       have hs58:w57.cell? ⟨gb1028,0,none⟩=some (.int .i64 x1029000_1):=(blk_cell BK1028.out 0).trans rfl
       have hfs58:=blk_frozen BK1028.out 0
       have hns58_1:=NB1040_1028.out
       have hms58_1:=NB1028_1040.out
       have hs59:w57.cell? ⟨gb1028,1,none⟩=some (.int .i64 x1029001_1):=(blk_cell BK1028.out 1).trans rfl
       have hfs59:=blk_frozen BK1028.out 1
       have hns59_1:=NB1040_1028.out
       have hms59_1:=NB1028_1040.out
       have hs60:w57.cell? ⟨gb1028,2,none⟩=some (.slice none 0 0):=(blk_cell BK1028.out 2).trans rfl
       have hfs60:=blk_frozen BK1028.out 2
       have hns60_1:=NB1040_1028.out
       have hms60_1:=NB1028_1040.out
       refine skip_ (w1:=?_) (by rfl) rfl ?_ ?_
       rotate_left
       ·go_simp
        rfl
       refine hK.out _ _ ⟨((qap (p:=⟨gb1028,_,none⟩) NB1040_1028.out _).trans (((qap (p:=⟨gb1028,_,none⟩) NB1040_1028.out _).trans (((qap (p:=⟨gb1028,_,none⟩) NB1040_1028.out _).trans (hHeld.1)))))),((qap (p:=⟨gb1028,_,none⟩) NB1040_1028.out _).trans (((qap (p:=⟨gb1028,_,none⟩) NB1040_1028.out _).trans (((qap (p:=⟨gb1028,_,none⟩) NB1040_1028.out _).trans (hHeld.2.1)))))),((qap (p:=⟨gb1028,_,none⟩) NB1040_1028.out _).trans (((qap (p:=⟨gb1028,_,none⟩) NB1040_1028.out _).trans (((qap (p:=⟨gb1028,_,none⟩) NB1040_1028.out _).trans (hHeld.2.2))))))⟩ (fun hHeld=>?_)
       clear hK K
       refine done_ (by kernel_rfl) ?_
       try go_wp2
       refine bodyPost_ret (results_tc rfl _ _ gb1028 62 #[.int .i64 t1053,.int .i64 t1054,.slice Ao55 t1055.length co55] (0,0) _ rfl (by(with_reducible repeat(first|refine blk_drewN ?_ _|refine blk_drew ?_|refine blk_alloc ?_ _));refine qai (cs:=#[.int .i64 t1053,.int .i64 t1054,.slice none 0 0]) ?_ 2 _ rfl;(with_reducible repeat(first|refine blk_drewN ?_ _|refine blk_drew ?_|refine blk_alloc ?_ _));refine qai (cs:=#[.int .i64 t1053,.int .i64 x1029001_1,.slice none 0 0]) ?_ 1 _ rfl;(with_reducible repeat(first|refine blk_drewN ?_ _|refine blk_drew ?_|refine blk_alloc ?_ _));refine qai (cs:=#[.int .i64 x1029000_1,.int .i64 x1029001_1,.slice none 0 0]) ?_ 0 _ rfl;(with_reducible repeat(first|refine blk_drewN ?_ _|refine blk_drew ?_|refine blk_alloc ?_ _));exact BK1028.out) Try.underlying62 rfl (by kernel_rfl)) rfl ?_
       exact⟨_,_,za9,by(with_reducible repeat(first|apply Kd.N_alloc|apply Kd.N_drewN|apply Kd.N_drew));exact Kd.N_mono (Kd.N_far (p:=⟨gb1028,2,none⟩) (Kd.N_far (p:=⟨gb1028,1,none⟩) (Kd.N_far (p:=⟨gb1028,0,none⟩) (Kd.N_mono HO_5.out (fun k_ hk=>(⟨hk,hk.2.1⟩:_∧k_≠gb1028))) (fun _ hk=>hk.2) (.int .i64 t1053)) (fun _ hk=>hk.2) (.int .i64 t1054)) (fun _ hk=>hk.2) (.slice Ao55 t1055.length co55)) (fun _ hk=>hk.1.1),by(with_reducible repeat(first|apply Kd.V_alloc|apply Kd.V_drewN|apply Kd.V_drew));exact Kd.V_mono (Kd.V_far (p:=⟨gb1028,2,none⟩) (Kd.V_far (p:=⟨gb1028,1,none⟩) (Kd.V_far (p:=⟨gb1028,0,none⟩) (Kd.V_mono HO1057.out (fun k_ hk=>(⟨hk,hk.2.2.1⟩:_∧k_≠gb1028))) (fun _ hk=>hk.2) (.int .i64 t1053)) (fun _ hk=>hk.2) (.int .i64 t1054)) (fun _ hk=>hk.2) (.slice Ao55 t1055.length co55)) (fun _ hk=>⟨hk.1.1,hk.1.2.1⟩),by repeat(first|(with_reducible first|exact HB.out|apply qag|apply qad|apply qae|refine qac ?_ (IsS122.ge HI1031.out)|refine qac ?_ GE1028.out|refine qac ?_ GE1040.out)|exact HB.out)⟩
      ·rw[if_neg c48] at H
       have c48b0:(t1051 == 0)=false:=beq_eq_false_iff_ne.mpr c48
       have c48b1:(t1051 != 0)=true:=bne_iff_ne.mpr c48
       simp only[Option.some.injEq,Prod.mk.injEq] at H
       obtain⟨rfl,rfl,rfl,rfl⟩:=H
       try go_wp2_with(first|((with_reducible refine qaf (f:=65) rfl ?_);refine zF (some 48) Try.func65 #[.pointer (some ⟨g1031,0,none⟩),.int .i64 12] ?_;(with_reducible refine(spec_l6Rd_pick.calls kj14 g1031 t1029 x1032001_14 12 t1051 t1052 w _ ?side1 ?side2 A47.out).mono ?_);(case side1=>repeat(first|(with_reducible first|exact HI1031.out|apply IsS122.alloc|apply IsS122.drewN|apply IsS122.drew|apply IsS122.set_1|refine IsS122.far ?_ NB1031_1028.out _|refine IsS122.far ?_ NB1031_1040.out _)|exact HI1031.out));(case side2=>exact(by repeat(first|(with_reducible first|exact HB.out|apply qag|apply qad|apply qae|refine qac ?_ (IsS122.ge HI1031.out)|refine qac ?_ GE1028.out|refine qac ?_ GE1040.out)|exact HB.out)));rintro e w61 ⟨rfl,hi,hb,hk⟩;refine⟨_,rfl,?_⟩;replace HO_5:=Aside0.mk (Kd.N_mono (Kd.N_keep (Kd.N_mono (ok:=fun k_=>(((w.heap.size≤k_))∧(k_≠gb1028∧(k_≠gb1040∧k_≠g1031)))) (za11 HO_5) (fun k_ hk_=>(⟨hk_,hk_.2.2.2⟩:_∧k_≠g1031))) hk (fun _ h=>h.2)) (fun _ h=>h.1));replace HO_1041002:=Aside0.mk (Kd.V_mono (Kd.V_keep (Kd.V_mono (ok:=fun k_=>(((w.heap.size≤k_))∧(some k_≠(.slice Ao8 t1032.length co8:Value).ownBlock∧(k_≠gb1028∧(k_≠gb1040∧k_≠g1031))))) (za19 HO_1041002) (fun k_ hk_=>(⟨hk_,hk_.2.2.2.2⟩:_∧k_≠g1031))) hk (fun _ h=>h.2)) (fun _ h=>h.1));replace BK1028:=Aside0.mk (KeepBut.blk hk (zB BK1028) NB1028_1031.out (by simp));replace BK1040:=Aside0.mk (KeepBut.blk hk (zB BK1040) NB1040_1031.out (by simp));replace HB:=Aside0.mk hb;replace HI1031:=Aside0.mk hi;(try clear hb);(try clear hk);(try clear hi)))
       replace HO_5:=Aside0.mk (Kd.N_drew HO_5.out)
       replace HO_1041002:=Aside0.mk (Kd.V_drew HO_1041002.out)
       replace BK1028:=Aside0.mk (blk_drew BK1028.out)
       replace BK1040:=Aside0.mk (blk_drew BK1040.out)
       replace HI1031:=Aside0.mk (IsS122.drew HI1031.out)
       replace HB:=Aside0.mk (qae HB.out)
       obtain⟨Ao65,co65,eo65⟩:=Kd.V_slice HO_1041002.out
       (first|subst eo65|(injection eo65 with f1_ f2_ f3_;have f4_:=f1_.symm;have f5_:=f3_.symm;clear f1_ f2_ f3_;subst f4_;subst f5_))
       refine start_ (n:=4) (S:=fun w'=>w'.cell? ⟨gb1040,0,none⟩=some (.int .i64 x1041000_1)∧w'.cell? ⟨gb1040,1,none⟩=some (.int .i64 x1041001_1)∧w'.cell? ⟨gb1040,2,none⟩=some (.slice Ao65 x1041002_1.length co65)) (ds:=[]) #[false,false,false,false] (by kernel_rfl) rfl rfl ⟨(blk_cell BK1040.out 0).trans rfl,(blk_cell BK1040.out 1).trans rfl,(blk_cell BK1040.out 2).trans rfl⟩ (fun hHeld=>?_)
       generalize w61.drew=w62 at HO_5 HO_1041002 BK1028 BK1040 HI1031 HB hHeld ⊢
       refine qar (i:=0) (N:=some 52) (v:=?_) (a':=?_) #[true,false,false,false] rfl rfl (by kernel_rfl) (fun _ _ _ h=>h) (Or.inl ⟨by rfl,?_⟩) ?_ ?_
       rotate_left
       ·intro w'
        go_simp
        with_reducible rfl
       rotate_left
       ·simp only[Act.put,List.setIfInBounds_toArray,List.set_cons_zero,List.set_cons_succ,qaj,qak]
        rfl
       refine qar (i:=2) (N:=some 2) (v:=?_) (a':=?_) #[true,false,true,false] rfl rfl (by kernel_rfl) (fun _ _ _ h=>h) (Or.inl ⟨by rfl,?_⟩) ?_ ?_
       rotate_left
       ·intro w'
        go_simp
        with_reducible rfl
       rotate_left
       ·simp only[Act.put,List.setIfInBounds_toArray,List.set_cons_zero,List.set_cons_succ,qaj,qak]
        rfl
       refine take_ (i:=1) (N:=some 53) (v:=?_) (a':=?_) #[true,true,true,false] rfl rfl (by kernel_rfl) (fun _ _ _ h=>h) (Or.inl ⟨by rfl,?_⟩) hHeld ?_ ?_
       rotate_left
       ·rintro w' ⟨s0,s1,s2⟩
        go_simp
        with_reducible rfl
       rotate_left
       ·simp only[Act.put,List.setIfInBounds_toArray,List.set_cons_zero,List.set_cons_succ,qaj,qak]
        rfl
       refine one_ (i:=3) (N:=none) #[true,true,true,true] rfl rfl (by kernel_rfl) (by decide) (fun K hK=>?_)
       have hs63:w62.cell? ⟨gb1028,0,none⟩=some (.int .i64 x1029000_1):=(blk_cell BK1028.out 0).trans rfl
       have hfs63:=blk_frozen BK1028.out 0
       have hns63_1:=NB1040_1028.out
       have hms63_1:=NB1028_1040.out
       have hs64:w62.cell? ⟨gb1028,1,none⟩=some (.int .i64 x1029001_1):=(blk_cell BK1028.out 1).trans rfl
       have hfs64:=blk_frozen BK1028.out 1
       have hns64_1:=NB1040_1028.out
       have hms64_1:=NB1028_1040.out
       have hs66:w62.cell? ⟨gb1028,2,none⟩=some (.slice none 0 0):=(blk_cell BK1028.out 2).trans rfl
       have hfs66:=blk_frozen BK1028.out 2
       have hns66_1:=NB1040_1028.out
       have hms66_1:=NB1028_1040.out
       refine skip_ (w1:=?_) (by rfl) rfl ?_ ?_
       rotate_left
       ·go_simp
        rfl
       refine hK.out _ _ ⟨((qap (p:=⟨gb1028,_,none⟩) NB1040_1028.out _).trans (((qap (p:=⟨gb1028,_,none⟩) NB1040_1028.out _).trans (((qap (p:=⟨gb1028,_,none⟩) NB1040_1028.out _).trans (hHeld.1)))))),((qap (p:=⟨gb1028,_,none⟩) NB1040_1028.out _).trans (((qap (p:=⟨gb1028,_,none⟩) NB1040_1028.out _).trans (((qap (p:=⟨gb1028,_,none⟩) NB1040_1028.out _).trans (hHeld.2.1)))))),((qap (p:=⟨gb1028,_,none⟩) NB1040_1028.out _).trans (((qap (p:=⟨gb1028,_,none⟩) NB1040_1028.out _).trans (((qap (p:=⟨gb1028,_,none⟩) NB1040_1028.out _).trans (hHeld.2.2))))))⟩ (fun hHeld=>?_)
       clear hK K
       refine done_ (by kernel_rfl) ?_
       try go_wp2
       refine bodyPost_ret (results_tc rfl _ _ gb1028 62 #[.int .i64 x1041000_1,.int .i64 x1041001_1,.slice Ao65 x1041002_1.length co65] (0,0) _ rfl (by(with_reducible repeat(first|refine blk_drewN ?_ _|refine blk_drew ?_|refine blk_alloc ?_ _));refine qai (cs:=#[.int .i64 x1041000_1,.int .i64 x1041001_1,.slice none 0 0]) ?_ 2 _ rfl;(with_reducible repeat(first|refine blk_drewN ?_ _|refine blk_drew ?_|refine blk_alloc ?_ _));refine qai (cs:=#[.int .i64 x1041000_1,.int .i64 x1029001_1,.slice none 0 0]) ?_ 1 _ rfl;(with_reducible repeat(first|refine blk_drewN ?_ _|refine blk_drew ?_|refine blk_alloc ?_ _));refine qai (cs:=#[.int .i64 x1029000_1,.int .i64 x1029001_1,.slice none 0 0]) ?_ 0 _ rfl;(with_reducible repeat(first|refine blk_drewN ?_ _|refine blk_drew ?_|refine blk_alloc ?_ _));exact BK1028.out) Try.underlying62 rfl (by kernel_rfl)) rfl ?_
       exact⟨_,_,za9,by(with_reducible repeat(first|apply Kd.N_alloc|apply Kd.N_drewN|apply Kd.N_drew));exact Kd.N_mono (Kd.N_far (p:=⟨gb1028,2,none⟩) (Kd.N_far (p:=⟨gb1028,1,none⟩) (Kd.N_far (p:=⟨gb1028,0,none⟩) (Kd.N_mono HO_5.out (fun k_ hk=>(⟨hk,hk.2.1⟩:_∧k_≠gb1028))) (fun _ hk=>hk.2) (.int .i64 x1041000_1)) (fun _ hk=>hk.2) (.int .i64 x1041001_1)) (fun _ hk=>hk.2) (.slice Ao65 x1041002_1.length co65)) (fun _ hk=>hk.1.1),by(with_reducible repeat(first|apply Kd.V_alloc|apply Kd.V_drewN|apply Kd.V_drew));exact Kd.V_mono (Kd.V_far (p:=⟨gb1028,2,none⟩) (Kd.V_far (p:=⟨gb1028,1,none⟩) (Kd.V_far (p:=⟨gb1028,0,none⟩) (Kd.V_mono HO_1041002.out (fun k_ hk=>(⟨hk,hk.2.2.1⟩:_∧k_≠gb1028))) (fun _ hk=>hk.2) (.int .i64 x1041000_1)) (fun _ hk=>hk.2) (.int .i64 x1041001_1)) (fun _ hk=>hk.2) (.slice Ao65 x1041002_1.length co65)) (fun _ hk=>⟨hk.1.1,hk.1.2.1⟩),by repeat(first|(with_reducible first|exact HB.out|apply qag|apply qad|apply qae|refine qac ?_ (IsS122.ge HI1031.out)|refine qac ?_ GE1028.out|refine qac ?_ GE1040.out)|exact HB.out)⟩
end Go.Proofs.Ytjccnaklodbbfaa.Print
