-- Written by squeeze.py, a program of this session, out of what print.sh and myprint.py had printed: cut to what is used, narrowed. Not trusted, Lean checks it.
import Derived.Test.YtjccnaklodbbfaaZK
import Derived.Test.YtjccnaklodbbfaaZg0
namespace Go.Proofs.Ytjccnaklodbbfaa.Print
open Go.RowKit Go.Proofs.YtjccnaklodbbfaaW.PrintWords Go.Proofs.YtjccnaklodbbfaaW.PrintLast Go.Proofs.YtjccnaklodbbfaaW.PrintMore
attribute [local go_sem] max2_int min2_int max_two min_two max_three min_three max_four min_four
set_option linter.unusedVariables false
set_option linter.unusedSimpArgs false
theorem eqA46 (d:Nat) (w:World) (x0 y0:Int) (x1 y1:Int) :
  (Op.equalIn (d+2) 46 (.agg #[.int .i64 x0,.int .i64 x1]) (.agg #[.int .i64 y0,.int .i64 y1])).run Try.prog w=.ok (x0 == y0 && (x1 == y1)) w:=by
 refine eqA_of Try.underlying46 (by kernel_rfl) ?_
 refine eqf_cons (by rfl) (by go_simp;rfl) (by go_simp;rfl) (by go_simp) ?_
 exact eqf_last (by rfl) (by go_simp;rfl) (by go_simp;rfl) (by go_simp)
def spec_DrawStockNew.f (k:Nat) (l0:List Int):Option (Int):=(spec_l6Open.f l0).bind fun bt187=>((spec_l6Rd_pick.f k bt187.1 bt187.2 12).bind fun bt190=>(some (wrap64 (bt190.1 - 1))))
theorem spec_DrawStockNew.mono:∀a0 k,LeO (spec_DrawStockNew.f k a0) (spec_DrawStockNew.f (k+1) a0):=by
 intro a0 k
 unfold spec_DrawStockNew.f
 repeat' first
   |(with_reducible exact spec_l6Rd_pick.mono _ _ _ _)
   |(with_reducible exact LeO.refl _)
   |(with_reducible exact LeO.none _)
   |(with_reducible refine LeO.ite ?_ ?_)
   |(with_reducible refine LeO.bind ?_ (fun _=>?_))
   |exact spec_l6Rd_pick.mono _ _ _ _
   |exact LeO.none _
   |refine LeO.ite ?_ ?_
   |refine LeO.bind ?_ (fun _=>?_)
set_option maxHeartbeats 8000000 in
set_option maxRecDepth 100000 in
theorem spec_DrawStockNew.calls (k:Nat) (A0:Option Addr) (c0:Nat) (l0:List Int) (r:Int) (w:World) (hr0:Kd.C (Kd.int .u8) w A0 l0.length l0) (hc0:l0.length≤c0) (h:spec_DrawStockNew.f k l0=some r) :
  Calls Try.prog 20 #[.slice A0 l0.length c0] w fun e w'=>e=.returned (.int .i64 r)∧Below w.heap.size w w':=by
 have HR0:=qal.mk hr0
 have HC0:=qal.mk hc0
 clear hr0 hc0
 have HB:=qal.mk (Below.refl w.heap.size w)
 have H:((spec_l6Open.f l0).bind fun bt187=>((spec_l6Rd_pick.f k bt187.1 bt187.2 12).bind fun bt190=>(some (wrap64 (bt190.1 - 1)))))=some r:=h
 clear h
 replace H:=Option.bind_eq_some_iff.mp H
 obtain⟨⟨t187,t188⟩,A20,H⟩:=H
 replace H:((spec_l6Rd_pick.f k t187 t188 12).bind fun bt190=>(some (wrap64 (bt190.1 - 1))))=some r:=H
 have A2:=qal.mk A20
 clear A20
 replace H:=Option.bind_eq_some_iff.mp H
 obtain⟨⟨t190,t191⟩,A30,H⟩:=H
 replace H:(some (wrap64 (t190 - 1)))=some r:=H
 have A3:=qal.mk A30
 clear A30
 obtain rfl:=Option.some.inj H
 go_enter Try.func20,Try.ntmps20
 go_wp2_with(first|((with_reducible refine qai (f:=64) rfl ?_);refine qau (some 4) rfl rfl Try.func64 (by kernel_rfl) rfl #[.slice A0 l0.length c0] rfl (by(try simp only[List.map_toArray,List.map_cons,List.map_nil]);first|done|rfl|(simp only[List.length_drop,List.length_take];rfl)) ?_;(with_reducible refine(spec_l6Open.calls _ _ l0 t187 t188 w _ ?side1 ?side2 ?side3 A2.out).mono ?_);(case side1=>repeat(first|(with_reducible first|exact HB.out|apply qar|apply qap|apply qaq)|exact HB.out));(case side2=>exact HR0.out);(case side3=>exact HC0.out);rintro e w4 ⟨g189,rfl,hi,hb,hb2⟩;refine⟨_,rfl,?_⟩;have n0_:=qal.mk (hb);have n1_:=qal.mk (hi);clear HB;have HB:=n0_;have HI189:=n1_;clear n0_ n1_;(try clear hb);(try clear hb2);(try clear hk);(try clear hi))|((with_reducible refine qai (f:=65) rfl ?_);refine qau (some 5) rfl rfl Try.func65 (by kernel_rfl) rfl #[.pointer (some ⟨g189,0,none⟩),.int .i64 12] rfl (by(try simp only[List.map_toArray,List.map_cons,List.map_nil]);first|done|rfl|(simp only[List.length_drop,List.length_take];rfl)) ?_;(with_reducible refine(spec_l6Rd_pick.calls k g189 t187 t188 12 t190 t191 w _ ?side1 ?side2 A3.out).mono ?_);(case side1=>repeat(first|(with_reducible first|exact HI189.out|apply IsS122.alloc|apply IsS122.drewN|apply IsS122.drew|apply IsS122.set_1)|exact HI189.out));(case side2=>repeat(first|(with_reducible first|exact HB.out|apply qar|apply qap|apply qaq|refine qam ?_ (IsS122.ge HI189.out))|exact HB.out));rintro e w5 ⟨rfl,hi,hb,hk⟩;refine⟨_,rfl,?_⟩;have n0_:=qal.mk (hb);have n1_:=qal.mk (hi);clear HB;clear HI189;have HB:=n0_;have HI189:=n1_;clear n0_ n1_;(try clear hb);(try clear hb2);(try clear hk);(try clear hi)))
 go_ret
 exact⟨za9,by repeat(first|(with_reducible first|exact HB.out|apply qar|apply qap|apply qaq|refine qam ?_ (IsS122.ge HI189.out))|exact HB.out)⟩
attribute [local go_sem high] eqA46
mutual
def laws_lnStock.j0:Nat→Bool→Int→List (S46)→Int→List (S46)→Option (Bool)
 |0,_,_,_,_,_=>none
 |k+1,x19,x198000,x198001,x199000,x199001=>if x19=true then(some false) else(laws_lnStock.l0 k 0 x198000 x198001 x199000 x199001)
def laws_lnStock.l0:Nat→Int→Int→List (S46)→Int→List (S46)→Option (Bool)
 |0,_,_,_,_,_=>none
 |k+1,x5,x198000,x198001,x199000,x199001=>if x5<(x198001.length:Int) then(if 0≤x5 then(if x5<(x199001.length:Int) then(if(!(((rd_T46 x198001 x5).f0) == ((rd_T46 x199001 x5).f0)) || (!(((rd_T46 x198001 x5).f1) == ((rd_T46 x199001 x5).f1))))=true then(some false) else(laws_lnStock.l0 k (wrap64 (x5+1)) x198000 x198001 x199000 x199001)) else(none)) else(none)) else(some true)
end
def laws_lnStock.f (k:Nat) (a0_0:Int) (l0_1:List (S46)) (a1_0:Int) (l1_1:List (S46)):Option (Bool):=if a0_0=a1_0 then(laws_lnStock.j0 k ((l0_1.length:Int) != (l1_1.length:Int)) a0_0 l0_1 a1_0 l1_1) else(laws_lnStock.j0 k true a0_0 l0_1 a1_0 l1_1)
theorem laws_lnStock.mono_l:∀k,(∀y0 y1 y2 y3 y4,LeO (laws_lnStock.j0 k y0 y1 y2 y3 y4) (laws_lnStock.j0 (k+1) y0 y1 y2 y3 y4))∧(∀y0 y1 y2 y3 y4,LeO (laws_lnStock.l0 k y0 y1 y2 y3 y4) (laws_lnStock.l0 (k+1) y0 y1 y2 y3 y4))
 |0=>⟨fun _ _ _ _ _ r h=>by simp[laws_lnStock.j0] at h,fun _ _ _ _ _ r h=>by simp[laws_lnStock.l0] at h⟩
 |k+1=>by
  obtain⟨ih0,ih1⟩:=laws_lnStock.mono_l k
  refine⟨?_,?_⟩
  ·intro y0 y1 y2 y3 y4
   unfold laws_lnStock.j0
   repeat' first
   |(with_reducible exact ih0 _ _ _ _ _)
   |(with_reducible exact ih1 _ _ _ _ _)
   |(with_reducible exact LeO.refl _)
   |(with_reducible exact LeO.none _)
   |(with_reducible refine LeO.ite ?_ ?_)
   |(with_reducible refine LeO.bind ?_ (fun _=>?_))
   |exact ih0 _ _ _ _ _
   |exact ih1 _ _ _ _ _
   |exact LeO.none _
   |refine LeO.ite ?_ ?_
   |refine LeO.bind ?_ (fun _=>?_)
  ·intro y0 y1 y2 y3 y4
   unfold laws_lnStock.l0
   repeat' first
   |(with_reducible exact ih0 _ _ _ _ _)
   |(with_reducible exact ih1 _ _ _ _ _)
   |(with_reducible exact LeO.refl _)
   |(with_reducible exact LeO.none _)
   |(with_reducible refine LeO.ite ?_ ?_)
   |(with_reducible refine LeO.bind ?_ (fun _=>?_))
   |exact ih0 _ _ _ _ _
   |exact ih1 _ _ _ _ _
   |exact LeO.none _
   |refine LeO.ite ?_ ?_
   |refine LeO.bind ?_ (fun _=>?_)
theorem laws_lnStock.mono:∀a0 a1 a2 a3 k,LeO (laws_lnStock.f k a0 a1 a2 a3) (laws_lnStock.f (k+1) a0 a1 a2 a3):=by
 intro a0 a1 a2 a3 k
 obtain⟨ih0,ih1⟩:=laws_lnStock.mono_l k
 unfold laws_lnStock.f
 repeat' first
   |(with_reducible exact ih0 _ _ _ _ _)
   |(with_reducible exact ih1 _ _ _ _ _)
   |(with_reducible exact LeO.refl _)
   |(with_reducible exact LeO.none _)
   |(with_reducible refine LeO.ite ?_ ?_)
   |(with_reducible refine LeO.bind ?_ (fun _=>?_))
   |exact ih0 _ _ _ _ _
   |exact ih1 _ _ _ _ _
   |exact LeO.none _
   |refine LeO.ite ?_ ?_
   |refine LeO.bind ?_ (fun _=>?_)
set_option maxHeartbeats 8000000 in
set_option maxRecDepth 100000 in
theorem laws_lnStock.calls (k:Nat) (a0_0:Int) (A0_1:Option Addr) (c0_1:Nat) (l0_1:List (S46)) (a1_0:Int) (A1_1:Option Addr) (c1_1:Nat) (l1_1:List (S46)) (r:Bool) (w:World) (hr0_1:Kd.C k46 w A0_1 l0_1.length l0_1) (hc0_1:l0_1.length≤c0_1) (hr1_1:Kd.C k46 w A1_1 l1_1.length l1_1) (hc1_1:l1_1.length≤c1_1) (h:laws_lnStock.f k a0_0 l0_1 a1_0 l1_1=some r) :
  Calls Try.prog 23 #[.agg #[.int .i64 a0_0,.slice A0_1 l0_1.length c0_1],.agg #[.int .i64 a1_0,.slice A1_1 l1_1.length c1_1]] w fun e w'=>e=.returned (.bool r)∧Below w.heap.size w w':=by
 have hu36:=Try.underlying36
 have hu46:=Try.underlying46
 have HR0_1:=qal.mk hr0_1
 have HC0_1:=qal.mk hc0_1
 clear hr0_1 hc0_1
 have HR1_1:=qal.mk hr1_1
 have HC1_1:=qal.mk hc1_1
 clear hr1_1 hc1_1
 have HB:=qal.mk (Below.refl w.heap.size w)
 have H:(if a0_0=a1_0 then(laws_lnStock.j0 k ((l0_1.length:Int) != (l1_1.length:Int)) a0_0 l0_1 a1_0 l1_1) else(laws_lnStock.j0 k true a0_0 l0_1 a1_0 l1_1))=some r:=h
 clear h
 have HC3:=qal.mk H
 clear H
 go_enter Try.func23,Try.ntmps23
 go_upto_region 1 with(first|((with_reducible refine qak (N:=2) rfl ?_);(try(refine qbc (by rfl) ?_;dsimp only));refine qaj ?hg (N:=2) ?hd (cs:=#[.int .i64 a0_0,.slice A0_1 l0_1.length c0_1]) (t:=36) ?hr ?_;(case hd=>rfl);(case hg=>rfl);(case hr=>first|(go_simp;done)|(go_simp;rfl));intro gb197 hg w4 hbox hb;have n0_:=qal.mk (qae (za2 HB) hb);have n1_:=qal.mk (hbox);have n2_:=qal.mk ((by rw[hg];exact(qad (za2 HB)):w.heap.size≤gb197));have n3_:=qal.mk ((by rw[hg];exact(qad (za2 HB)):w.heap.size≤gb197));clear HB;have HB:=n0_;have BK197:=n1_;have GW197:=n2_;have GE197:=n3_;clear n0_ n1_ n2_ n3_;clear hb hbox hg)|((with_reducible refine qak (N:=3) rfl ?_);(try(refine qbc (by rfl) ?_;dsimp only));refine qaj ?hg (N:=3) ?hd (cs:=#[.int .i64 a1_0,.slice A1_1 l1_1.length c1_1]) (t:=36) ?hr ?_;(case hd=>rfl);(case hg=>rfl);(case hr=>first|(go_simp;done)|(go_simp;rfl));intro gb198 hg w5 hbox hb;have n0_:=qal.mk (qac (g:=gb197) (o:=.cells #[.int .i64 a0_0,.slice A0_1 l0_1.length c0_1] 36 (0,0)) (za0 BK197) hb);have n1_:=qal.mk (qae (za1 HB GE197) hb);have n2_:=qal.mk (hbox);have n3_:=qal.mk ((by rw[hg];exact(qad (za1 HB GE197)):w.heap.size≤gb198));have n4_:=qal.mk ((by rw[hg];exact(qad (za1 HB GE197)):w.heap.size≤gb198));have n5_:=qal.mk ((by rw[hg];exact Nat.ne_of_lt (qao (g:=gb197) (o:=.cells #[.int .i64 a0_0,.slice A0_1 l0_1.length c0_1] 36 (0,0)) (za0 BK197)):gb197≠gb198));have n6_:=qal.mk ((by rw[hg];exact Nat.ne_of_gt (qao (g:=gb197) (o:=.cells #[.int .i64 a0_0,.slice A0_1 l0_1.length c0_1] 36 (0,0)) (za0 BK197)):gb198≠gb197));clear BK197;clear HB;have BK197:=n0_;have HB:=n1_;have BK198:=n2_;have GW198:=n3_;have GE198:=n4_;have NB197_198:=n5_;have NB198_197:=n6_;clear n0_ n1_ n2_ n3_ n4_ n5_ n6_;clear hb hbox hg))
 repeat(go_quiet(first|((with_reducible refine qak (N:=2) rfl ?_);(try(refine qbc (by rfl) ?_;dsimp only));refine qaj ?hg (N:=2) ?hd (cs:=#[.int .i64 a0_0,.slice A0_1 l0_1.length c0_1]) (t:=36) ?hr ?_;(case hd=>rfl);(case hg=>rfl);(case hr=>first|(go_simp;done)|(go_simp;rfl));intro gb197 hg w4 hbox hb;have n0_:=qal.mk (qae (za2 HB) hb);have n1_:=qal.mk (hbox);have n2_:=qal.mk ((by rw[hg];exact(qad (za2 HB)):w.heap.size≤gb197));have n3_:=qal.mk ((by rw[hg];exact(qad (za2 HB)):w.heap.size≤gb197));clear HB;have HB:=n0_;have BK197:=n1_;have GW197:=n2_;have GE197:=n3_;clear n0_ n1_ n2_ n3_;clear hb hbox hg)|((with_reducible refine qak (N:=3) rfl ?_);(try(refine qbc (by rfl) ?_;dsimp only));refine qaj ?hg (N:=3) ?hd (cs:=#[.int .i64 a1_0,.slice A1_1 l1_1.length c1_1]) (t:=36) ?hr ?_;(case hd=>rfl);(case hg=>rfl);(case hr=>first|(go_simp;done)|(go_simp;rfl));intro gb198 hg w5 hbox hb;have n0_:=qal.mk (qac (g:=gb197) (o:=.cells #[.int .i64 a0_0,.slice A0_1 l0_1.length c0_1] 36 (0,0)) (za0 BK197) hb);have n1_:=qal.mk (qae (za1 HB GE197) hb);have n2_:=qal.mk (hbox);have n3_:=qal.mk ((by rw[hg];exact(qad (za1 HB GE197)):w.heap.size≤gb198));have n4_:=qal.mk ((by rw[hg];exact(qad (za1 HB GE197)):w.heap.size≤gb198));have n5_:=qal.mk ((by rw[hg];exact Nat.ne_of_lt (qao (g:=gb197) (o:=.cells #[.int .i64 a0_0,.slice A0_1 l0_1.length c0_1] 36 (0,0)) (za0 BK197)):gb197≠gb198));have n6_:=qal.mk ((by rw[hg];exact Nat.ne_of_gt (qao (g:=gb197) (o:=.cells #[.int .i64 a0_0,.slice A0_1 l0_1.length c0_1] 36 (0,0)) (za0 BK197)):gb198≠gb197));clear BK197;clear HB;have BK197:=n0_;have HB:=n1_;have BK198:=n2_;have GW198:=n3_;have GE198:=n4_;have NB197_198:=n5_;have NB198_197:=n6_;clear n0_ n1_ n2_ n3_ n4_ n5_ n6_;clear hb hbox hg));go_upto_region 1 with(first|((with_reducible refine qak (N:=2) rfl ?_);(try(refine qbc (by rfl) ?_;dsimp only));refine qaj ?hg (N:=2) ?hd (cs:=#[.int .i64 a0_0,.slice A0_1 l0_1.length c0_1]) (t:=36) ?hr ?_;(case hd=>rfl);(case hg=>rfl);(case hr=>first|(go_simp;done)|(go_simp;rfl));intro gb197 hg w4 hbox hb;have n0_:=qal.mk (qae (za2 HB) hb);have n1_:=qal.mk (hbox);have n2_:=qal.mk ((by rw[hg];exact(qad (za2 HB)):w.heap.size≤gb197));have n3_:=qal.mk ((by rw[hg];exact(qad (za2 HB)):w.heap.size≤gb197));clear HB;have HB:=n0_;have BK197:=n1_;have GW197:=n2_;have GE197:=n3_;clear n0_ n1_ n2_ n3_;clear hb hbox hg)|((with_reducible refine qak (N:=3) rfl ?_);(try(refine qbc (by rfl) ?_;dsimp only));refine qaj ?hg (N:=3) ?hd (cs:=#[.int .i64 a1_0,.slice A1_1 l1_1.length c1_1]) (t:=36) ?hr ?_;(case hd=>rfl);(case hg=>rfl);(case hr=>first|(go_simp;done)|(go_simp;rfl));intro gb198 hg w5 hbox hb;have n0_:=qal.mk (qac (g:=gb197) (o:=.cells #[.int .i64 a0_0,.slice A0_1 l0_1.length c0_1] 36 (0,0)) (za0 BK197) hb);have n1_:=qal.mk (qae (za1 HB GE197) hb);have n2_:=qal.mk (hbox);have n3_:=qal.mk ((by rw[hg];exact(qad (za1 HB GE197)):w.heap.size≤gb198));have n4_:=qal.mk ((by rw[hg];exact(qad (za1 HB GE197)):w.heap.size≤gb198));have n5_:=qal.mk ((by rw[hg];exact Nat.ne_of_lt (qao (g:=gb197) (o:=.cells #[.int .i64 a0_0,.slice A0_1 l0_1.length c0_1] 36 (0,0)) (za0 BK197)):gb197≠gb198));have n6_:=qal.mk ((by rw[hg];exact Nat.ne_of_gt (qao (g:=gb197) (o:=.cells #[.int .i64 a0_0,.slice A0_1 l0_1.length c0_1] 36 (0,0)) (za0 BK197)):gb198≠gb197));clear BK197;clear HB;have BK197:=n0_;have HB:=n1_;have BK198:=n2_;have GW198:=n3_;have GE198:=n4_;have NB197_198:=n5_;have NB198_197:=n6_;clear n0_ n1_ n2_ n3_ n4_ n5_ n6_;clear hb hbox hg)))
 (try simp only[Act.put,List.setIfInBounds_toArray,List.set_cons_zero,List.set_cons_succ])
 go_cut [19] (fun v19 wc=>∃(kq:Nat) (x19_2:Bool),v19=.bool x19_2∧qal (laws_lnStock.j0 kq x19_2 a0_0 l0_1 a1_0 l1_1=some r)∧qal (kq≤k)∧qal (wc.heap[gb197]?=some (.cells #[.int .i64 a0_0,(.slice A0_1 l0_1.length c0_1)] 36 (0,0)))∧qal (wc.heap[gb198]?=some (.cells #[.int .i64 a1_0,(.slice A1_1 l1_1.length c1_1)] 36 (0,0)))∧qal (Below w.heap.size w wc))
 case first=>
  have H:=HC3.out
  clear HC3
  by_cases c6:a0_0=a1_0
  ·rw[if_pos c6] at H
   have c6b0:(a0_0 == a1_0)=true:=beq_iff_eq.mpr c6
   have c6b1:(a0_0 != a1_0)=false:=bne_eq_false_iff_eq.mpr c6
   clear c6
   (first|rw[c6b0]|(simp only[qas,qat];rw[c6b0])|skip)
   have H':=qal.mk H
   clear H
   have hnb7:=NB197_198.out
   have hnc7:=NB198_197.out
   have hcz8_0:w5.cell? ⟨gb197,0,none⟩=some (.int .i64 a0_0):=(qab BK197.out 0).trans rfl
   have hcz8_1:w5.cell? ⟨gb197,1,none⟩=some (.slice A0_1 l0_1.length c0_1):=(qab BK197.out 1).trans rfl
   have hfz8_0:=qaa BK197.out 0
   have hfz8_1:=qaa BK197.out 1
   have hcz9_0:w5.cell? ⟨gb198,0,none⟩=some (.int .i64 a1_0):=(qab BK198.out 0).trans rfl
   have hcz9_1:w5.cell? ⟨gb198,1,none⟩=some (.slice A1_1 l1_1.length c1_1):=(qab BK198.out 1).trans rfl
   have hfz9_0:=qaa BK198.out 0
   have hfz9_1:=qaa BK198.out 1
   go_wp2
   repeat(go_quiet(fail);try go_wp2)
   go_meet
   case rel=>exact⟨_,(((l0_1.length:Int) != (l1_1.length:Int))),(za22),H',⟨za46⟩,⟨za0 BK197⟩,⟨za0 BK198⟩,⟨za3 HB GE197 GE198⟩⟩
  ·rw[if_neg c6] at H
   have c6b0:(a0_0 == a1_0)=false:=beq_eq_false_iff_ne.mpr c6
   have c6b1:(a0_0 != a1_0)=true:=bne_iff_ne.mpr c6
   (first|rw[c6b0]|(simp only[qas,qat];rw[c6b0])|skip)
   have H':=qal.mk H
   clear H
   have hnb10:=NB197_198.out
   have hnc10:=NB198_197.out
   have hcz11_0:w5.cell? ⟨gb197,0,none⟩=some (.int .i64 a0_0):=(qab BK197.out 0).trans rfl
   have hcz11_1:w5.cell? ⟨gb197,1,none⟩=some (.slice A0_1 l0_1.length c0_1):=(qab BK197.out 1).trans rfl
   have hfz11_0:=qaa BK197.out 0
   have hfz11_1:=qaa BK197.out 1
   have hcz12_0:w5.cell? ⟨gb198,0,none⟩=some (.int .i64 a1_0):=(qab BK198.out 0).trans rfl
   have hcz12_1:w5.cell? ⟨gb198,1,none⟩=some (.slice A1_1 l1_1.length c1_1):=(qab BK198.out 1).trans rfl
   have hfz12_0:=qaa BK198.out 0
   have hfz12_1:=qaa BK198.out 1
   go_wp2
   repeat(go_quiet(fail);try go_wp2)
   go_meet
   case rel=>exact⟨_,(true),(za22),H',⟨za46⟩,⟨za0 BK197⟩,⟨za0 BK198⟩,⟨za3 HB GE197 GE198⟩⟩
 case rest=>
  clear HC3
  try clear c1
  try clear c2
  try clear p2
  try clear c6
  try clear c6b0
  try clear c6b1
  try clear c7
  try clear c10
  try clear hcz11_0
  try clear hcz11_1
  try clear hcz12_0
  try clear hcz12_1
  try clear hcz8_0
  try clear hcz8_1
  try clear hcz9_0
  try clear hcz9_1
  try clear hfz11_0
  try clear hfz11_1
  try clear hfz12_0
  try clear hfz12_1
  try clear hfz8_0
  try clear hfz8_1
  try clear hfz9_0
  try clear hfz9_1
  obtain⟨kq,x19_2,rfl,HA,HJ2,BK197,BK198,HB⟩:=hcut
  cases kq with
  |zero=>exact absurd HA.out (by simp[laws_lnStock.j0])
  |succ kj2=>
   have H:=HA.out
   clear HA
   simp only[laws_lnStock.j0] at H
   by_cases c13:x19_2=true
   ·subst c13
    have H1:(some false)=some r:=by rw[if_pos rfl] at H;exact H
    clear H
    have H:=H1
    clear H1
    obtain rfl:=Option.some.inj H
    go_wp2
    repeat(go_quiet(fail);try go_wp2)
    go_ret
    exact⟨za9,za3 HB GE197 GE198⟩
   ·replace c13:=Bool.eq_false_iff.mpr c13
    subst c13
    have H1:(laws_lnStock.l0 kj2 0 a0_0 l0_1 a1_0 l1_1)=some r:=by rw[if_neg (show ¬(false=true) by decide)] at H;exact H
    clear H
    have H:=H1
    clear H1
    have H':=qal.mk H
    clear H
    go_wp2
    repeat(go_quiet(fail);try go_wp2)
    go_loopg [5] kj2 (fun kq v5 w'=>∃(x5_2:Int),v5=.int .i64 x5_2∧qal (laws_lnStock.l0 kq x5_2 a0_0 l0_1 a1_0 l1_1=some r)∧qal (kq≤kj2)∧qal (w'.heap[gb197]?=some (.cells #[.int .i64 a0_0,(.slice A0_1 l0_1.length c0_1)] 36 (0,0)))∧qal (w'.heap[gb198]?=some (.cells #[.int .i64 a1_0,(.slice A1_1 l1_1.length c1_1)] 36 (0,0)))∧qal (Below w.heap.size w w'))
    case atStart=>exact⟨(0),(za22),H',⟨Nat.le_refl _⟩,⟨za0 BK197⟩,⟨za0 BK198⟩,⟨za3 HB GE197 GE198⟩⟩
    case round=>
     clear H'
     try clear c1
     try clear c2
     try clear p2
     try clear c6
     try clear c6b0
     try clear c6b1
     try clear c7
     try clear c10
     try clear c13
     try clear hcz11_0
     try clear hcz11_1
     try clear hcz12_0
     try clear hcz12_1
     try clear hcz8_0
     try clear hcz8_1
     try clear hcz9_0
     try clear hcz9_1
     try clear hfz11_0
     try clear hfz11_1
     try clear hfz12_0
     try clear hfz12_1
     try clear hfz8_0
     try clear hfz8_1
     try clear hfz9_0
     try clear hfz9_1
     try clear p2
     obtain⟨x5_2,rfl,HA,HK2,BK197,BK198,HB⟩:=hrel
     cases gk with
     |zero=>exact absurd HA.out (by simp[laws_lnStock.l0])
     |succ k2=>
      have H:=HA.out
      clear HA
      simp only[laws_lnStock.l0] at H
      by_cases c14:x5_2<(l0_1.length:Int)
      ·rw[if_pos c14] at H
       have c14b0:decide (x5_2<(l0_1.length:Int))=true:=decide_eq_true c14
       clear c14
       by_cases c15:0≤x5_2
       ·rw[if_pos c15] at H
        have c15b0:decide (0≤x5_2)=true:=decide_eq_true c15
        clear c15
        by_cases c16:x5_2<(l1_1.length:Int)
        ·rw[if_pos c16] at H
         have c16b0:decide (x5_2<(l1_1.length:Int))=true:=decide_eq_true c16
         clear c16
         by_cases c17:(!(((rd_T46 l0_1 x5_2).f0) == ((rd_T46 l1_1 x5_2).f0)) || (!(((rd_T46 l0_1 x5_2).f1) == ((rd_T46 l1_1 x5_2).f1))))=true
         ·rw[if_pos c17] at H
          have c17b0:(!(((rd_T46 l0_1 x5_2).f0) == ((rd_T46 l1_1 x5_2).f0)) || (!(((rd_T46 l0_1 x5_2).f1) == ((rd_T46 l1_1 x5_2).f1))))=true:=c17
          clear c17
          obtain rfl:=Option.some.inj H
          have hnb18:=NB197_198.out
          have hnc18:=NB198_197.out
          have hcz19_0:wr.cell? ⟨gb197,0,none⟩=some (.int .i64 a0_0):=(qab BK197.out 0).trans rfl
          have hcz19_1:wr.cell? ⟨gb197,1,none⟩=some (.slice A0_1 l0_1.length c0_1):=(qab BK197.out 1).trans rfl
          have hfz19_0:=qaa BK197.out 0
          have hfz19_1:=qaa BK197.out 1
          have p199:0≤(x5_2:Int):=of_decide_eq_true (za8)
          have q199:x5_2<(l0_1.length:Int):=of_decide_eq_true (za8)
          obtain⟨ad199,e199,hx199_0,hx199_1⟩:=at_T46 HR0_1.out x5_2 p199 q199
          cases e199
          replace hx199_0:=(HB.out.cell (World.block_lt_of_cell? w _ hx199_0)).trans hx199_0
          replace hx199_1:=(HB.out.cell (World.block_lt_of_cell? w _ hx199_1)).trans hx199_1
          replace p199:=eq_true p199
          replace q199:=eq_true q199
          have hcz20_0:wr.cell? ⟨gb198,0,none⟩=some (.int .i64 a1_0):=(qab BK198.out 0).trans rfl
          have hcz20_1:wr.cell? ⟨gb198,1,none⟩=some (.slice A1_1 l1_1.length c1_1):=(qab BK198.out 1).trans rfl
          have hfz20_0:=qaa BK198.out 0
          have hfz20_1:=qaa BK198.out 1
          have p200:0≤(x5_2:Int):=of_decide_eq_true (za8)
          have q200:x5_2<(l1_1.length:Int):=of_decide_eq_true (za8)
          obtain⟨ad200,e200,hx200_0,hx200_1⟩:=at_T46 HR1_1.out x5_2 p200 q200
          cases e200
          replace hx200_0:=(HB.out.cell (World.block_lt_of_cell? w _ hx200_0)).trans hx200_0
          replace hx200_1:=(HB.out.cell (World.block_lt_of_cell? w _ hx200_1)).trans hx200_1
          replace p200:=eq_true p200
          replace q200:=eq_true q200
          go_wp2
          repeat(go_quiet(fail);try go_wp2)
          go_ret
          exact⟨za9,za3 HB GE197 GE198⟩
         ·rw[if_neg c17] at H
          have c17b0:(!(((rd_T46 l0_1 x5_2).f0) == ((rd_T46 l1_1 x5_2).f0)) || (!(((rd_T46 l0_1 x5_2).f1) == ((rd_T46 l1_1 x5_2).f1))))=false:=by simpa using c17
          clear c17
          have H':=qal.mk H
          clear H
          have hnb21:=NB197_198.out
          have hnc21:=NB198_197.out
          have hcz22_0:wr.cell? ⟨gb197,0,none⟩=some (.int .i64 a0_0):=(qab BK197.out 0).trans rfl
          have hcz22_1:wr.cell? ⟨gb197,1,none⟩=some (.slice A0_1 l0_1.length c0_1):=(qab BK197.out 1).trans rfl
          have hfz22_0:=qaa BK197.out 0
          have hfz22_1:=qaa BK197.out 1
          have p199:0≤(x5_2:Int):=of_decide_eq_true (za8)
          have q199:x5_2<(l0_1.length:Int):=of_decide_eq_true (za8)
          obtain⟨ad199,e199,hx199_0,hx199_1⟩:=at_T46 HR0_1.out x5_2 p199 q199
          cases e199
          replace hx199_0:=(HB.out.cell (World.block_lt_of_cell? w _ hx199_0)).trans hx199_0
          replace hx199_1:=(HB.out.cell (World.block_lt_of_cell? w _ hx199_1)).trans hx199_1
          replace p199:=eq_true p199
          replace q199:=eq_true q199
          have hcz23_0:wr.cell? ⟨gb198,0,none⟩=some (.int .i64 a1_0):=(qab BK198.out 0).trans rfl
          have hcz23_1:wr.cell? ⟨gb198,1,none⟩=some (.slice A1_1 l1_1.length c1_1):=(qab BK198.out 1).trans rfl
          have hfz23_0:=qaa BK198.out 0
          have hfz23_1:=qaa BK198.out 1
          have p200:0≤(x5_2:Int):=of_decide_eq_true (za8)
          have q200:x5_2<(l1_1.length:Int):=of_decide_eq_true (za8)
          obtain⟨ad200,e200,hx200_0,hx200_1⟩:=at_T46 HR1_1.out x5_2 p200 q200
          cases e200
          replace hx200_0:=(HB.out.cell (World.block_lt_of_cell? w _ hx200_0)).trans hx200_0
          replace hx200_1:=(HB.out.cell (World.block_lt_of_cell? w _ hx200_1)).trans hx200_1
          replace p200:=eq_true p200
          replace q200:=eq_true q200
          go_wp2
          repeat(go_quiet(fail);try go_wp2)
          go_roundg k2
          case measure=>have:=HJ2.out;have:=HK2.out;omega
          case rel=>exact⟨(wrap64 (x5_2+1)),(za22),H',⟨by have:=HJ2.out;have:=HK2.out;omega⟩,⟨za0 BK197⟩,⟨za0 BK198⟩,⟨za3 HB GE197 GE198⟩⟩
        ·rw[if_neg c16] at H
         exact absurd H (by simp)
       ·rw[if_neg c15] at H
        exact absurd H (by simp)
      ·rw[if_neg c14] at H
       have c14b0:decide (x5_2<(l0_1.length:Int))=false:=decide_eq_false c14
       clear c14
       obtain rfl:=Option.some.inj H
       have hnb24:=NB197_198.out
       have hnc24:=NB198_197.out
       have hcz25_0:wr.cell? ⟨gb197,0,none⟩=some (.int .i64 a0_0):=(qab BK197.out 0).trans rfl
       have hcz25_1:wr.cell? ⟨gb197,1,none⟩=some (.slice A0_1 l0_1.length c0_1):=(qab BK197.out 1).trans rfl
       have hfz25_0:=qaa BK197.out 0
       have hfz25_1:=qaa BK197.out 1
       go_wp2
       repeat(go_quiet(fail);try go_wp2)
       go_ret
       exact⟨za9,za3 HB GE197 GE198⟩
end Go.Proofs.Ytjccnaklodbbfaa.Print
