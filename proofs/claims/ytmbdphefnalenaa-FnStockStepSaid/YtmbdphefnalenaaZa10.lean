-- Written by squeeze.py: not trusted, Lean checks it.
import Derived.Test.YtmbdphefnalenaaZK
import Derived.Test.YtmbdphefnalenaaZa3
import Derived.Test.YtmbdphefnalenaaZa9
namespace Go.Proofs.Ytmbdphefnalenaa.Print
open Go.RowKit Go.Proofs.YtmbdphefnalenaaW.PrintWords Go.Proofs.YtmbdphefnalenaaW.PrintLast Go.Proofs.YtmbdphefnalenaaW.PrintMore
attribute [local go_sem] max2_int min2_int max_two min_two max_three min_three max_four min_four
set_option linter.unusedVariables false
set_option linter.unusedSimpArgs false
def spec_StockOf.f (k:Nat) (a0:Int) (l1:List (S32)):Option (Int × (List (S49)) × Bool):=(spec_l2Of.f k a0 l1).bind fun bt532=>(some (bt532.1,bt532.2.1,bt532.2.2))
theorem spec_StockOf.mono:∀a0 a1 k,LeO (spec_StockOf.f k a0 a1) (spec_StockOf.f (k+1) a0 a1):=by
 intro a0 a1 k;unfold spec_StockOf.f
 repeat' first|(with_reducible exact spec_l2Of.mono _ _ _)|(with_reducible exact LeO.refl _)|(with_reducible exact LeO.none _)|(with_reducible refine LeO.ite ?_ ?_)|(with_reducible refine LeO.bind ?_ (fun _=>?_))|exact spec_l2Of.mono _ _ _|exact LeO.none _|refine LeO.ite ?_ ?_|refine LeO.bind ?_ (fun _=>?_)
set_option maxHeartbeats 8000000 in
set_option maxRecDepth 100000 in
theorem spec_StockOf.calls (k:Nat) (a0:Int) (A1:Option Addr) (c1:Nat) (l1:List (S32)) (r1:Int) (r2:List (S49)) (r3:Bool) (w:World) (hr1:Kd.C k32 w A1 l1.length l1) (hc1:l1.length≤c1) (h:spec_StockOf.f k a0 l1=some (r1,r2,r3)) :
  Calls Try.prog 21 #[.int .i64 a0,.slice A1 l1.length c1] w fun e w'=>∃v1_:Value,e=.returned (.tuple #[.agg #[.int .i64 r1,v1_],.bool r3])∧Kd.R k49 49 w' w.heap.size (fun _=>True) v1_ r2∧Below w.heap.size w w':=by
 have hu38:=Try.underlying38;have HR1:=qae.mk hr1;have HC1:=qae.mk hc1;clear hr1 hc1;have HB:=qae.mk (Below.refl w.heap.size w);have H:((spec_l2Of.f k a0 l1).bind fun bt532=>(some (bt532.1,bt532.2.1,bt532.2.2)))=some (r1,r2,r3):=h;clear h;replace H:=Option.bind_eq_some_iff.mp H;obtain⟨⟨t532,t533,t536⟩,A30,H⟩:=H;replace H:(some (t532,t533,t536))=some (r1,r2,r3):=H;have A3:=qae.mk A30;clear A30;simp only[Option.some.injEq,Prod.mk.injEq] at H;obtain⟨rfl,rfl,rfl⟩:=H;go_enter Try.func21,Try.ntmps21
 go_wp2_with(first|((with_reducible refine qai (N:=4) rfl ?_);refine zX (N:=4) (cs:=#[.int .i64 0,.slice none 0 0]) (t:=38) ?_;intro gb531 hg w4 hbox hb;have BK531:=qae.mk hbox;have GW531:=zH (w:=w) hg (za3 HB);have GE531:=GW531;replace HB:=qae.mk (qad (za3 HB) hb);clear hb hbox hg)|((with_reducible refine qag (f:=55) rfl ?_);refine zF (some 8) Try.func55 #[.int .i64 a0,.slice A1 l1.length c1] ?_;(with_reducible refine(spec_l2Of.calls k a0 _ _ l1 t532 t533 t536 _ ?side1 ?side2 A3.out).mono ?_);(case side1=>exact zR HR1 HB);(case side2=>exact HC1.out);rintro e w5 ⟨v534,rfl,ho0,hb⟩;refine⟨_,rfl,?_⟩;have HO535:=qae.mk (Kd.R_lower ho0 (below_size (za1 HB GE531)));replace BK531:=zY BK531 hb;replace HB:=qae.mk (qad (za1 HB GE531) hb);(try clear hb);(try clear ho0);obtain⟨hcz6_0,hcz6_1,hfz6_0,hfz6_1⟩:=zC2 BK531;obtain⟨Ao7,co7,eo7⟩:=Kd.R_slice HO535.out;subst eo7))
 refine bodyPost_ret (results_ct rfl _ _ gb531 38 #[.int .i64 t532,.slice Ao7 t533.length co7] (0,0) _ rfl (by(with_reducible repeat(first|refine qac ?_ _|refine qaa ?_|refine qab ?_ _));refine qah (cs:=#[.int .i64 t532,.slice none 0 0]) ?_ 1 _ rfl;(with_reducible repeat(first|refine qac ?_ _|refine qaa ?_|refine qab ?_ _));refine qah (cs:=#[.int .i64 0,.slice none 0 0]) ?_ 0 _ rfl;(with_reducible repeat(first|refine qac ?_ _|refine qaa ?_|refine qab ?_ _));exact BK531.out) Try.underlying38 rfl (by kernel_rfl)) rfl ?_;exact⟨_,za27,by(with_reducible repeat(first|apply Kd.R_alloc|apply Kd.R_drewN|apply Kd.R_drew));exact Kd.R_mono (Kd.R_far (p:=⟨gb531,1,none⟩) (Kd.R_far (p:=⟨gb531,0,none⟩) (Kd.R_types HO535.out BK531.out (by decide)) (fun _ hk=>hk.2) (.int .i64 t532)) (fun _ hk=>hk.2) (.slice Ao7 t533.length co7)) (fun _ hk=>trivial),za1 HB GE531⟩
def impl_Stock_free.l0:Nat→Int→List (S49)→Int→Int→Option (Int)
 |0,_,_,_,_=>none
 |k+1,x3,x9,x10,x11=>if x11<x10 then(if 0≤x11 then(if x11<(x9.length:Int) then(if((rd_T49 x9 x11).f1)=1 then(impl_Stock_free.l0 k (wrap64 (x3 - ((rd_T49 x9 x11).f0))) x9 x10 (wrap64 (x11+1))) else(if((rd_T49 x9 x11).f1)=2 then(impl_Stock_free.l0 k (wrap64 (x3 - ((rd_T49 x9 x11).f0))) x9 x10 (wrap64 (x11+1))) else(impl_Stock_free.l0 k x3 x9 x10 (wrap64 (x11+1))))) else(none)) else(none)) else(some x3)
def impl_Stock_free.f (k:Nat) (a0_0:Int) (l0_1:List (S49)):Option (Int):=impl_Stock_free.l0 k a0_0 l0_1 (l0_1.length:Int) 0
theorem impl_Stock_free.mono_l:∀k,(∀y0 y1 y2 y3,LeO (impl_Stock_free.l0 k y0 y1 y2 y3) (impl_Stock_free.l0 (k+1) y0 y1 y2 y3))
 |0=>fun _ _ _ _ r h=>by simp[impl_Stock_free.l0] at h
 |k+1=>by
  have ih0:=impl_Stock_free.mono_l k
  ·intro y0 y1 y2 y3;unfold impl_Stock_free.l0
   repeat' first|(with_reducible exact ih0 _ _ _ _)|(with_reducible exact LeO.refl _)|(with_reducible exact LeO.none _)|(with_reducible refine LeO.ite ?_ ?_)|(with_reducible refine LeO.bind ?_ (fun _=>?_))|exact ih0 _ _ _ _|exact LeO.none _|refine LeO.ite ?_ ?_|refine LeO.bind ?_ (fun _=>?_)
theorem impl_Stock_free.mono:∀a0 a1 k,LeO (impl_Stock_free.f k a0 a1) (impl_Stock_free.f (k+1) a0 a1):=by
 intro a0 a1 k;have ih0:=impl_Stock_free.mono_l k;unfold impl_Stock_free.f
 repeat' first|(with_reducible exact ih0 _ _ _ _)|(with_reducible exact LeO.refl _)|(with_reducible exact LeO.none _)|(with_reducible refine LeO.ite ?_ ?_)|(with_reducible refine LeO.bind ?_ (fun _=>?_))|exact ih0 _ _ _ _|exact LeO.none _|refine LeO.ite ?_ ?_|refine LeO.bind ?_ (fun _=>?_)
set_option maxHeartbeats 8000000 in
set_option maxRecDepth 100000 in
theorem impl_Stock_free.calls (k:Nat) (a0_0:Int) (A0_1:Option Addr) (c0_1:Nat) (l0_1:List (S49)) (r:Int) (w:World) (hr0_1:Kd.C k49 w A0_1 l0_1.length l0_1) (hc0_1:l0_1.length≤c0_1) (h:impl_Stock_free.f k a0_0 l0_1=some r) :
  Calls Try.prog 58 #[.agg #[.int .i64 a0_0,.slice A0_1 l0_1.length c0_1]] w fun e w'=>e=.returned (.int .i64 r)∧Below w.heap.size w w':=by
 have hu38:=Try.underlying38;have hu49:=Try.underlying49;have HR0_1:=qae.mk hr0_1;have HC0_1:=qae.mk hc0_1;clear hr0_1 hc0_1;have HB:=qae.mk (Below.refl w.heap.size w);have H:(impl_Stock_free.l0 k a0_0 l0_1 (l0_1.length:Int) 0)=some r:=h;clear h;have H':=qae.mk H;clear H;go_enter Try.func58,Try.ntmps58
 go_wp2_with(first|((with_reducible refine qai (N:=1) rfl ?_);refine zX (N:=1) (cs:=#[.int .i64 a0_0,.slice A0_1 l0_1.length c0_1]) (t:=38) ?_;intro gb537 hg w2 hbox hb;have BK537:=qae.mk hbox;have GW537:=zH (w:=w) hg (za3 HB);have GE537:=GW537;replace HB:=qae.mk (qad (za3 HB) hb);clear hb hbox hg;obtain⟨hcz3_0,hcz3_1,hfz3_0,hfz3_1⟩:=zC2 BK537))
 go_loopg [3,11] k (fun kq v3 v11 w'=>∃(x3_1:Int) (x11_1:Int),v3=.int .i64 x3_1∧v11=.int .i64 x11_1∧qae (impl_Stock_free.l0 kq x3_1 l0_1 (l0_1.length:Int) x11_1=some r)∧qae (kq≤k)∧qae (w'.heap[gb537]?=some (.cells #[.int .i64 a0_0,(.slice A0_1 l0_1.length c0_1)] 38 (0,0)))∧qae (Below w.heap.size w w'))
 case atStart=>exact⟨(a0_0),(0),(za46),(za46),H',⟨Nat.le_refl _⟩,⟨za21 BK537⟩,⟨za1 HB GE537⟩⟩
 case round=>
  clear H'
  try clear p2
  try clear hcz3_0
  try clear hcz3_1
  try clear hfz3_0
  try clear hfz3_1
  obtain⟨x3_1,x11_1,rfl,rfl,HA,HK1,BK537,HB⟩:=hrel
  cases gk with
  |zero=>exact absurd HA.out (by simp[impl_Stock_free.l0])
  |succ k1=>
   have H:=HA.out;clear HA;simp only[impl_Stock_free.l0] at H;by_cases c4:x11_1<(l0_1.length:Int)
   ·rw[if_pos c4] at H;have c4b0:decide (x11_1<(l0_1.length:Int))=true:=decide_eq_true c4;clear c4;by_cases c5:0≤x11_1
    ·rw[if_pos c5] at H;have c5b0:decide (0≤x11_1)=true:=decide_eq_true c5;clear c5;by_cases c6:x11_1<(l0_1.length:Int)
     ·rw[if_pos c6] at H;have c6b0:decide (x11_1<(l0_1.length:Int))=true:=decide_eq_true c6;clear c6;by_cases c7:((rd_T49 l0_1 x11_1).f1)=1
      ·rw[if_pos c7] at H;have c7b0:(((rd_T49 l0_1 x11_1).f1) == 1)=true:=beq_iff_eq.mpr c7;have c7b1:(((rd_T49 l0_1 x11_1).f1) != 1)=false:=bne_eq_false_iff_eq.mpr c7;clear c7;have H':=qae.mk H;clear H;have p538:0≤(x11_1:Int):=of_decide_eq_true (za6);have q538:x11_1<(l0_1.length:Int):=of_decide_eq_true (za6);obtain⟨ad538,e538,hx538_0,hx538_1⟩:=at_T49 HR0_1.out x11_1 p538 q538
       cases e538
       replace hx538_0:=(HB.out.cell (World.block_lt_of_cell? w _ hx538_0)).trans hx538_0;replace hx538_1:=(HB.out.cell (World.block_lt_of_cell? w _ hx538_1)).trans hx538_1;replace p538:=eq_true p538;replace q538:=eq_true q538
       go_wp2_with(first|((with_reducible refine qai (N:=5) rfl ?_);refine zX (N:=5) (cs:=#[.int .i64 0,.int .i64 0]) (t:=49) ?_;intro gb539 hg w8 hbox hb;have BK539:=qae.mk hbox;have GW539:=zH (w:=w) hg (za1 HB GE537);have GE539:=GW539;replace HB:=qae.mk (qad (za1 HB GE537) hb);have NB537_539:=zL BK537 hg;have NB539_537:=zG BK537 hg;replace BK537:=zY BK537 hb;clear hb hbox hg;have hnb9:=NB539_537.out;have hnc9:=NB537_539.out;obtain⟨hcz10_0,hcz10_1,hfz10_0,hfz10_1⟩:=zC2 BK539))
       go_roundg k1
       case measure=>have:=HK1.out;omega
       case rel=>exact⟨(wrap64 (x3_1 - ((rd_T49 l0_1 x11_1).f0))),(wrap64 (x11_1+1)),(za46),(za46),H',⟨by have:=HK1.out;omega⟩,⟨za0 NB537_539 BK537⟩,⟨za4 HB GE537 GE539⟩⟩
      ·rw[if_neg c7] at H;have c7b0:(((rd_T49 l0_1 x11_1).f1) == 1)=false:=beq_eq_false_iff_ne.mpr c7;have c7b1:(((rd_T49 l0_1 x11_1).f1) != 1)=true:=bne_iff_ne.mpr c7;by_cases c11:((rd_T49 l0_1 x11_1).f1)=2
       ·rw[if_pos c11] at H;have c11b0:(((rd_T49 l0_1 x11_1).f1) == 2)=true:=beq_iff_eq.mpr c11;have c11b1:(((rd_T49 l0_1 x11_1).f1) != 2)=false:=bne_eq_false_iff_eq.mpr c11;clear c11;have H':=qae.mk H;clear H;have p538:0≤(x11_1:Int):=of_decide_eq_true (za6);have q538:x11_1<(l0_1.length:Int):=of_decide_eq_true (za6);obtain⟨ad538,e538,hx538_0,hx538_1⟩:=at_T49 HR0_1.out x11_1 p538 q538
        cases e538
        replace hx538_0:=(HB.out.cell (World.block_lt_of_cell? w _ hx538_0)).trans hx538_0;replace hx538_1:=(HB.out.cell (World.block_lt_of_cell? w _ hx538_1)).trans hx538_1;replace p538:=eq_true p538;replace q538:=eq_true q538
        go_wp2_with(first|((with_reducible refine qai (N:=5) rfl ?_);refine zX (N:=5) (cs:=#[.int .i64 0,.int .i64 0]) (t:=49) ?_;intro gb539 hg w12 hbox hb;have BK539:=qae.mk hbox;have GW539:=zH (w:=w) hg (za1 HB GE537);have GE539:=GW539;replace HB:=qae.mk (qad (za1 HB GE537) hb);have NB537_539:=zL BK537 hg;have NB539_537:=zG BK537 hg;replace BK537:=zY BK537 hb;clear hb hbox hg;have hnb13:=NB539_537.out;have hnc13:=NB537_539.out;obtain⟨hcz14_0,hcz14_1,hfz14_0,hfz14_1⟩:=zC2 BK539))
        go_roundg k1
        case measure=>have:=HK1.out;omega
        case rel=>exact⟨(wrap64 (x3_1 - ((rd_T49 l0_1 x11_1).f0))),(wrap64 (x11_1+1)),(za46),(za46),H',⟨by have:=HK1.out;omega⟩,⟨za0 NB537_539 BK537⟩,⟨za4 HB GE537 GE539⟩⟩
       ·rw[if_neg c11] at H;have c11b0:(((rd_T49 l0_1 x11_1).f1) == 2)=false:=beq_eq_false_iff_ne.mpr c11;have c11b1:(((rd_T49 l0_1 x11_1).f1) != 2)=true:=bne_iff_ne.mpr c11;have H':=qae.mk H;clear H;have p538:0≤(x11_1:Int):=of_decide_eq_true (za6);have q538:x11_1<(l0_1.length:Int):=of_decide_eq_true (za6);obtain⟨ad538,e538,hx538_0,hx538_1⟩:=at_T49 HR0_1.out x11_1 p538 q538
        cases e538
        replace hx538_0:=(HB.out.cell (World.block_lt_of_cell? w _ hx538_0)).trans hx538_0;replace hx538_1:=(HB.out.cell (World.block_lt_of_cell? w _ hx538_1)).trans hx538_1;replace p538:=eq_true p538;replace q538:=eq_true q538
        go_wp2_with(first|((with_reducible refine qai (N:=5) rfl ?_);refine zX (N:=5) (cs:=#[.int .i64 0,.int .i64 0]) (t:=49) ?_;intro gb539 hg w15 hbox hb;have BK539:=qae.mk hbox;have GW539:=zH (w:=w) hg (za1 HB GE537);have GE539:=GW539;replace HB:=qae.mk (qad (za1 HB GE537) hb);have NB537_539:=zL BK537 hg;have NB539_537:=zG BK537 hg;replace BK537:=zY BK537 hb;clear hb hbox hg;have hnb16:=NB539_537.out;have hnc16:=NB537_539.out;obtain⟨hcz17_0,hcz17_1,hfz17_0,hfz17_1⟩:=zC2 BK539))
        go_roundg k1
        case measure=>have:=HK1.out;omega
        case rel=>exact⟨(x3_1),(wrap64 (x11_1+1)),(za46),(za46),H',⟨by have:=HK1.out;omega⟩,⟨za0 NB537_539 BK537⟩,⟨za4 HB GE537 GE539⟩⟩
     ·rw[if_neg c6] at H;exact absurd H (by simp)
    ·rw[if_neg c5] at H;exact absurd H (by simp)
   ·rw[if_neg c4] at H;have c4b0:decide (x11_1<(l0_1.length:Int))=false:=decide_eq_false c4;clear c4;obtain rfl:=Option.some.inj H;go_wp2;go_ret;exact⟨za27,za1 HB GE537⟩
def impl_Hold_ok.j0:Nat→Int→Bool→Int→Int→Option (Bool)
 |0,_,_,_,_=>none
 |k+1,x4,x10,x541000,x541001=>if x10=true then((impl_in.f x541000 1 3).bind fun t541=>(some t541)) else(if x4=3 then((impl_in.f x541000 0 3).bind fun t542=>(some t542)) else(some false))
def impl_Hold_ok.f (k:Nat) (a0_0:Int) (a0_1:Int):Option (Bool):=if a0_1=0 then(some (a0_0 == 0)) else(if a0_1=1 then(impl_Hold_ok.j0 k a0_1 (a0_1 == 1) a0_0 a0_1) else(impl_Hold_ok.j0 k a0_1 (a0_1 == 2) a0_0 a0_1))
theorem impl_Hold_ok.mono_l:∀k,(∀y0 y1 y2 y3,LeO (impl_Hold_ok.j0 k y0 y1 y2 y3) (impl_Hold_ok.j0 (k+1) y0 y1 y2 y3))
 |0=>fun _ _ _ _ r h=>by simp[impl_Hold_ok.j0] at h
 |k+1=>by
  have ih0:=impl_Hold_ok.mono_l k
  ·intro y0 y1 y2 y3;unfold impl_Hold_ok.j0
   repeat' first|(with_reducible exact ih0 _ _ _ _)|(with_reducible exact LeO.refl _)|(with_reducible exact LeO.none _)|(with_reducible refine LeO.ite ?_ ?_)|(with_reducible refine LeO.bind ?_ (fun _=>?_))|exact ih0 _ _ _ _|exact LeO.none _|refine LeO.ite ?_ ?_|refine LeO.bind ?_ (fun _=>?_)
theorem impl_Hold_ok.mono:∀a0 a1 k,LeO (impl_Hold_ok.f k a0 a1) (impl_Hold_ok.f (k+1) a0 a1):=by
 intro a0 a1 k;have ih0:=impl_Hold_ok.mono_l k;unfold impl_Hold_ok.f
 repeat' first|(with_reducible exact ih0 _ _ _ _)|(with_reducible exact LeO.refl _)|(with_reducible exact LeO.none _)|(with_reducible refine LeO.ite ?_ ?_)|(with_reducible refine LeO.bind ?_ (fun _=>?_))|exact ih0 _ _ _ _|exact LeO.none _|refine LeO.ite ?_ ?_|refine LeO.bind ?_ (fun _=>?_)
set_option maxHeartbeats 8000000 in
set_option maxRecDepth 100000 in
theorem impl_Hold_ok.calls (k:Nat) (a0_0:Int) (a0_1:Int) (r:Bool) (w:World) (h:impl_Hold_ok.f k a0_0 a0_1=some r) :
  Calls Try.prog 65 #[.agg #[.int .i64 a0_0,.int .i64 a0_1]] w fun e w'=>e=.returned (.bool r)∧Below w.heap.size w w':=by
 have hu49:=Try.underlying49;have HB:=qae.mk (Below.refl w.heap.size w);have H:(if a0_1=0 then(some (a0_0 == 0)) else(if a0_1=1 then(impl_Hold_ok.j0 k a0_1 (a0_1 == 1) a0_0 a0_1) else(impl_Hold_ok.j0 k a0_1 (a0_1 == 2) a0_0 a0_1)))=some r:=h;clear h;by_cases c2:a0_1=0
 ·rw[if_pos c2] at H;have c2b0:(a0_1 == 0)=true:=beq_iff_eq.mpr c2;have c2b1:(a0_1 != 0)=false:=bne_eq_false_iff_eq.mpr c2;clear c2;obtain rfl:=Option.some.inj H;go_enter Try.func65,Try.ntmps65
  go_wp2_with(first|((with_reducible refine qai (N:=1) rfl ?_);refine zX (N:=1) (cs:=#[.int .i64 a0_0,.int .i64 a0_1]) (t:=49) ?_;intro gb540 hg w3 hbox hb;have BK540:=qae.mk hbox;have GW540:=zH (w:=w) hg (za3 HB);have GE540:=GW540;replace HB:=qae.mk (qad (za3 HB) hb);clear hb hbox hg;obtain⟨hcz4_0,hcz4_1,hfz4_0,hfz4_1⟩:=zC2 BK540))
  go_ret;exact⟨za27,za1 HB GE540⟩
 ·rw[if_neg c2] at H;have c2b0:(a0_1 == 0)=false:=beq_eq_false_iff_ne.mpr c2;have c2b1:(a0_1 != 0)=true:=bne_iff_ne.mpr c2;have HC5:=qae.mk H;clear H;go_enter Try.func65,Try.ntmps65
  go_upto_if 10 with(first|((with_reducible refine qai (N:=1) rfl ?_);refine zX (N:=1) (cs:=#[.int .i64 a0_0,.int .i64 a0_1]) (t:=49) ?_;intro gb540 hg w6 hbox hb;have BK540:=qae.mk hbox;have GW540:=zH (w:=w) hg (za3 HB);have GE540:=GW540;replace HB:=qae.mk (qad (za3 HB) hb);clear hb hbox hg;obtain⟨hcz7_0,hcz7_1,hfz7_0,hfz7_1⟩:=zC2 BK540))
  (try simp only[Act.put,List.setIfInBounds_toArray,List.set_cons_zero,List.set_cons_succ])
  go_cut [10] (fun v10 wc=>∃(kq:Nat) (x10_4:Bool),v10=.bool x10_4∧qae (impl_Hold_ok.j0 kq a0_1 x10_4 a0_0 a0_1=some r)∧qae (kq≤k)∧qae (wc.heap[gb540]?=some (.cells #[.int .i64 a0_0,.int .i64 a0_1] 49 (0,0)))∧qae (Below w.heap.size w wc))
  case first=>
   have H:=HC5.out;clear HC5;by_cases c8:a0_1=1
   ·rw[if_pos c8] at H;have c8b0:(a0_1 == 1)=true:=beq_iff_eq.mpr c8;have c8b1:(a0_1 != 1)=false:=bne_eq_false_iff_eq.mpr c8;clear c8;(first|rw[c8b0]|(simp only[qaj,qak];rw[c8b0])|skip);have H':=qae.mk H;clear H;go_wp2
    go_meet
    case rel=>exact⟨_,((a0_1 == 1)),(za46),H',⟨za48⟩,⟨za21 BK540⟩,⟨za1 HB GE540⟩⟩
   ·rw[if_neg c8] at H;have c8b0:(a0_1 == 1)=false:=beq_eq_false_iff_ne.mpr c8;have c8b1:(a0_1 != 1)=true:=bne_iff_ne.mpr c8;(first|rw[c8b0]|(simp only[qaj,qak];rw[c8b0])|skip);have H':=qae.mk H;clear H;go_wp2
    go_meet
    case rel=>exact⟨_,((a0_1 == 2)),(za46),H',⟨za48⟩,⟨za21 BK540⟩,⟨za1 HB GE540⟩⟩
  case rest=>
   clear HC5
   try clear c2
   try clear c2b0
   try clear c2b1
   try clear p2
   try clear c6
   try clear c8
   try clear c8b0
   try clear c8b1
   try clear hcz4_0
   try clear hcz4_1
   try clear hcz7_0
   try clear hcz7_1
   try clear hfz4_0
   try clear hfz4_1
   try clear hfz7_0
   try clear hfz7_1
   obtain⟨kq,x10_4,rfl,HA,HJ4,BK540,HB⟩:=hcut
   cases kq with
   |zero=>exact absurd HA.out (by simp[impl_Hold_ok.j0])
   |succ kj4=>
    have H:=HA.out;clear HA;simp only[impl_Hold_ok.j0] at H;by_cases c9:x10_4=true
    ·subst c9
     have H1:((impl_in.f a0_0 1 3).bind fun t541=>(some t541))=some r:=by rw[if_pos rfl] at H;exact H
     clear H;have H:=H1;clear H1;replace H:=Option.bind_eq_some_iff.mp H;obtain⟨t541,A100,H⟩:=H;replace H:(some t541)=some r:=H;have A10:=qae.mk A100;clear A100;obtain rfl:=Option.some.inj H;obtain⟨hcz11_0,hcz11_1,hfz11_0,hfz11_1⟩:=zC2 BK540
     go_wp2_with(first|((with_reducible refine qag (f:=66) rfl ?_);refine zF (some 15) Try.func66 #[.int .i64 a0_0,.int .i64 1,.int .i64 3] ?_;(with_reducible refine(impl_in.calls a0_0 1 3 t541 _ A10.out).mono ?_);rintro e w' ⟨rfl,⟨nd,rfl⟩⟩;refine⟨_,rfl,?_⟩))
     go_ret;exact⟨za27,za1 HB GE540⟩
    ·replace c9:=Bool.eq_false_iff.mpr c9;subst c9
     have H1:(if a0_1=3 then((impl_in.f a0_0 0 3).bind fun t542=>(some t542)) else(some false))=some r:=by rw[if_neg (show ¬(false=true) by decide)] at H;exact H
     clear H;have H:=H1;clear H1;by_cases c12:a0_1=3
     ·rw[if_pos c12] at H;have c12b0:(a0_1 == 3)=true:=beq_iff_eq.mpr c12;have c12b1:(a0_1 != 3)=false:=bne_eq_false_iff_eq.mpr c12;clear c12;replace H:=Option.bind_eq_some_iff.mp H;obtain⟨t542,A130,H⟩:=H;replace H:(some t542)=some r:=H;have A13:=qae.mk A130;clear A130;obtain rfl:=Option.some.inj H;obtain⟨hcz14_0,hcz14_1,hfz14_0,hfz14_1⟩:=zC2 BK540
      go_wp2_with(first|((with_reducible refine qag (f:=66) rfl ?_);refine zF (some 20) Try.func66 #[.int .i64 a0_0,.int .i64 0,.int .i64 3] ?_;(with_reducible refine(impl_in.calls a0_0 0 3 t542 _ A13.out).mono ?_);rintro e w' ⟨rfl,⟨nd,rfl⟩⟩;refine⟨_,rfl,?_⟩))
      go_ret;exact⟨za27,za1 HB GE540⟩
     ·rw[if_neg c12] at H;have c12b0:(a0_1 == 3)=false:=beq_eq_false_iff_ne.mpr c12;have c12b1:(a0_1 != 3)=true:=bne_iff_ne.mpr c12;obtain rfl:=Option.some.inj H;go_wp2;go_ret;exact⟨za27,za1 HB GE540⟩
def impl_StockOk_1.f (k:Nat) (a0_0:Int) (a0_1:Int):Option (Bool):=(impl_Hold_ok.f k a0_0 a0_1).bind fun t544=>(some (!t544))
theorem impl_StockOk_1.mono:∀a0 a1 k,LeO (impl_StockOk_1.f k a0 a1) (impl_StockOk_1.f (k+1) a0 a1):=by
 intro a0 a1 k;unfold impl_StockOk_1.f
 repeat' first|(with_reducible exact impl_Hold_ok.mono _ _ _)|(with_reducible exact LeO.refl _)|(with_reducible exact LeO.none _)|(with_reducible refine LeO.ite ?_ ?_)|(with_reducible refine LeO.bind ?_ (fun _=>?_))|exact impl_Hold_ok.mono _ _ _|exact LeO.none _|refine LeO.ite ?_ ?_|refine LeO.bind ?_ (fun _=>?_)
set_option maxHeartbeats 8000000 in
set_option maxRecDepth 100000 in
theorem impl_StockOk_1.calls (k:Nat) (a0_0:Int) (a0_1:Int) (r:Bool) (w:World) (h:impl_StockOk_1.f k a0_0 a0_1=some r) :
  Calls Try.prog 64 #[.agg #[.int .i64 a0_0,.int .i64 a0_1]] w fun e w'=>e=.returned (.bool r)∧Below w.heap.size w w':=by
 have hu49:=Try.underlying49;have HB:=qae.mk (Below.refl w.heap.size w);have H:((impl_Hold_ok.f k a0_0 a0_1).bind fun t544=>(some (!t544)))=some r:=h;clear h;replace H:=Option.bind_eq_some_iff.mp H;obtain⟨t544,A20,H⟩:=H;replace H:(some (!t544))=some r:=H;have A2:=qae.mk A20;clear A20;obtain rfl:=Option.some.inj H;go_enter Try.func64,Try.ntmps64
 go_wp2_with(first|((with_reducible refine qai (N:=1) rfl ?_);refine zX (N:=1) (cs:=#[.int .i64 a0_0,.int .i64 a0_1]) (t:=49) ?_;intro gb543 hg w3 hbox hb;have BK543:=qae.mk hbox;have GW543:=zH (w:=w) hg (za3 HB);have GE543:=GW543;replace HB:=qae.mk (qad (za3 HB) hb);clear hb hbox hg;obtain⟨hcz4_0,hcz4_1,hfz4_0,hfz4_1⟩:=zC2 BK543)|((with_reducible refine qag (f:=65) rfl ?_);refine zF (some 4) Try.func65 #[.agg #[.int .i64 a0_0,.int .i64 a0_1]] ?_;(with_reducible refine(impl_Hold_ok.calls k a0_0 a0_1 t544 _ A2.out).mono ?_);rintro e w5 ⟨rfl,hb⟩;refine⟨_,rfl,?_⟩;replace BK543:=zY BK543 hb;replace HB:=qae.mk (qad (za1 HB GE543) hb);(try clear hb)))
 go_ret;exact⟨za27,za1 HB GE543⟩
theorem drop_cons_T49 {l:List S49} {k:Nat} (h:k<l.length):l.drop k=rd_T49 l (k:Int) :: l.drop (k+1):=by
 rw[List.drop_eq_getElem_cons h];simp[rd_T49,List.getD_eq_getElem?_getD,List.getElem?_eq_getElem h]
set_option maxHeartbeats 4000000 in
set_option maxRecDepth 100000 in
theorem idx_T49 (p:S49→Option Bool) (g:Nat) (A_:Option Addr) (c_:Nat) (l0:List S49) (r:Bool) (w:World) (hr0:Kd.C k49 w A_ l0.length l0) (hc0:l0.length≤c_)
  (eg:∀args w,(callFunc g args).run Try.prog w=.ok (.enter g args) w)
  (hg:∀(W:World) (x:S49)  (b:Bool),p x=some b→Calls Try.prog g #[.agg #[.int .i64 (x.f0),.int .i64 (x.f1)]] W fun e w'=>e=.returned (.bool b)∧Below W.heap.size W w') (h:anyO p l0=some r) :
  Calls Try.prog 95 #[.slice A_ l0.length c_,.func (.func g) #[] #[]] w (IdxB r w):=by
 have HR:=qae.mk hr0;have HG:=qae.mk hg;have HH:=qae.mk h;clear hr0 hc0 hg h
 have hbig:l0.length≤9223372036854775807:=by
  have:=HR.out;exact this.2.1
 go_enter Try.func95,Try.ntmps95;go_wp2
 go_loopg [5,8] l0.length (fun gg _ s8 wr=>∃kk:Nat,kk≤l0.length∧l0.length - kk≤gg∧s8=.int .i64 kk∧qae (Below w.heap.size w wr)∧qae (anyO p (l0.drop kk)=some r))
 case atStart=>exact⟨0,Nat.zero_le _,by omega,rfl,⟨Below.refl _ _⟩,HH⟩
 case round=>
  obtain⟨kk,hkk,hg',rfl,BW,B⟩:=hrel;clear HH;by_cases hlt:kk<l0.length
  ·have hltz:(kk:Int)<(l0.length:Int):=by omega
   obtain⟨ad,e0,hx0,hx1⟩:=at_T49 HR.out (kk:Int) (by omega) hltz
   cases e0
   rw[Int.toNat_natCast] at hx0;rw[Int.toNat_natCast] at hx1;replace hx0:=(BW.out.cell (World.block_lt_of_cell? w _ hx0)).trans hx0;replace hx1:=(BW.out.cell (World.block_lt_of_cell? w _ hx1)).trans hx1;have B':=B.out;rw[drop_cons_T49 hlt] at B';obtain⟨b,hb,hb'⟩:=anyO_cons B';clear B B';generalize rd_T49 l0 (kk:Int)=x at *;have HB:=qae.mk hb;clear hb
   rcases hb' with⟨rfl,rfl⟩|⟨rfl,hb'⟩
   ·have hcall:=HG.out wr x  true  HB.out
    go_wp2_with(go_at_fn g;refine hcall.mono ?_;rintro e w' ⟨rfl,hbl⟩)
    go_ret;exact⟨kk,rfl,by simp,qad BW.out hbl⟩
   ·have B2:=qae.mk hb';clear hb';have hcall:=HG.out wr x  false  HB.out
    go_wp2_with(go_at_fn g;refine hcall.mono ?_;rintro e w' ⟨rfl,hbl⟩)
    go_roundg (l0.length - (kk+1))
    case measure=>omega
    case rel=>exact⟨kk+1,by omega,by omega,by go_num,⟨qad BW.out hbl⟩,B2⟩
  ·have hltz:¬(kk:Int)<(l0.length:Int):=by omega
   have B':=B.out;rw[List.drop_eq_nil_of_le (by omega)] at B'
   have hr:false=r:=by injection B'
   subst hr;clear B';go_wp2;go_ret;exact⟨-1,rfl,by decide,BW.out⟩
set_option maxHeartbeats 4000000 in
theorem contains_T49 (p:S49→Option Bool) (g:Nat) (A_:Option Addr) (c_:Nat) (l0:List S49) (r:Bool) (w:World) (hr0:Kd.C k49 w A_ l0.length l0) (hc0:l0.length≤c_)
  (eg:∀args w,(callFunc g args).run Try.prog w=.ok (.enter g args) w)
  (hg:∀(W:World) (x:S49)  (b:Bool),p x=some b→Calls Try.prog g #[.agg #[.int .i64 (x.f0),.int .i64 (x.f1)]] W fun e w'=>e=.returned (.bool b)∧Below W.heap.size W w') (h:anyO p l0=some r) :
  Calls Try.prog 67 #[.slice A_ l0.length c_,.func (.func g) #[] #[]] w fun e w'=>e=.returned (.bool r)∧Below w.heap.size w w':=by
 have hI:=fun W=>idx_T49 p g A_ c_ l0 r W
 have HR:=qae.mk hr0;have HG:=qae.mk hg;have HH:=qae.mk h;have HC:=qae.mk hc0;clear hr0 hc0 hg h;go_enter Try.func67,Try.ntmps67
 go_wp2_with(go_at_call 95;refine(hI _ HR.out HC.out eg HG.out HH.out).mono ?_;rintro e w' ⟨i,rfl,hi,hb⟩)
 go_ret;exact⟨by rw[←hi];rfl,hb⟩
def impl_StockOk.f (k:Nat) (a0_0:Int) (l0_1:List (S49)):Option (Bool):=(impl_in.f a0_0 0 9).bind fun t=>if t=true then(if(l0_1.length:Int)=6 then((anyO (fun x:S49=>impl_StockOk_1.f k x.f0 x.f1) l0_1).bind fun a=>if a=true then some false else((impl_Stock_free.f k a0_0 l0_1).bind fun v=>some (decide (0≤v)))) else some false) else some false
theorem impl_StockOk.mono:∀a0 a1 k,LeO (impl_StockOk.f k a0 a1) (impl_StockOk.f (k+1) a0 a1):=by
 intro a0 a1 k;unfold impl_StockOk.f;refine LeO.bind (LeO.refl _) (fun t=>LeO.ite (LeO.ite (LeO.bind (anyO_mono (fun x=>impl_StockOk_1.mono _ _ _) _) (fun a=>LeO.ite (LeO.refl _) (LeO.bind (impl_Stock_free.mono _ _ _) (fun v=>LeO.refl _)))) (LeO.refl _)) (LeO.refl _))
set_option maxHeartbeats 8000000 in
set_option maxRecDepth 100000 in
theorem impl_StockOk.calls (k:Nat) (a0_0:Int) (A0_1:Option Addr) (c0_1:Nat) (l0_1:List (S49)) (r:Bool) (w:World) (hr0_1:Kd.C k49 w A0_1 l0_1.length l0_1) (hc0_1:l0_1.length≤c0_1) (h:impl_StockOk.f k a0_0 l0_1=some r) :
  Calls Try.prog 29 #[.agg #[.int .i64 a0_0,.slice A0_1 l0_1.length c0_1]] w fun e w'=>e=.returned (.bool r)∧Below w.heap.size w w':=by
 have HR:=qae.mk hr0_1;have HC:=qae.mk hc0_1
 have c1:=fun(W:World) (r':Bool) (hr:Kd.C k49 W A0_1 l0_1.length l0_1) (h:anyO (fun x:S49=>impl_StockOk_1.f k x.f0 x.f1) l0_1=some r')=>contains_T49 (fun x:S49=>impl_StockOk_1.f k x.f0 x.f1) 64 A0_1 c0_1 l0_1 r' W hr HC.out (enters_of Try.func64 (by kernel_rfl) rfl) (fun W x b hb=>(impl_StockOk_1.calls k x.f0 x.f1 b W hb).mono fun e w' ⟨he,hd⟩=>⟨he,hd⟩) h
 have C1:=qae.mk c1;clear hr0_1 hc0_1 c1;unfold impl_StockOk.f at h;obtain⟨t,ht,h⟩:=Option.bind_eq_some_iff.mp h;have HT:=qae.mk ht;clear ht
 cases t with
 |false=>
  rw[if_neg (by decide)] at h
  injection h with h
  subst h;go_enter Try.func29,Try.ntmps29
  go_wp2_with(go_at_call 66;refine(impl_in.calls _ _ _ false _ HT.out).mono ?_;rintro e w' ⟨rfl,⟨nd,rfl⟩⟩)
  go_ret;exact⟨rfl,pw_below_drewN (below_alloc (Below.refl _ _) _) _⟩
 |true=>
  rw[if_pos rfl] at h;by_cases h3:(l0_1.length:Int)=6
  ·rw[if_pos h3] at h
   have h3b:((l0_1.length:Int) == 6)=true:=by simpa using h3
   have h3c:(l0_1.length == 6)=true:=by simp;omega
   clear h3;obtain⟨a,ha,h⟩:=Option.bind_eq_some_iff.mp h;have HA:=qae.mk ha;clear ha
   cases a with
   |true=>
    rw[if_pos rfl] at h
    injection h with h
    subst h;go_enter Try.func29,Try.ntmps29
    go_wp2_with(first|(go_at_call 66;refine(impl_in.calls _ _ _ true _ HT.out).mono ?_;rintro e w' ⟨rfl,⟨nd,rfl⟩⟩)|(go_at_call 67;refine(C1.out _ true ?side1 HA.out).mono ?_;(case side1=>repeat(first|exact HR.out|(with_reducible refine Kd.C_alloc ?_ _)|(with_reducible refine Kd.C_drewN ?_ _)|(with_reducible refine Kd.C_drew ?_)));rintro e w' ⟨rfl,hb⟩))
    go_ret;exact⟨rfl,qad (pw_below_drewN (below_alloc (Below.refl _ _) _) _) hb⟩
   |false=>
    rw[if_neg (by decide)] at h;obtain⟨v,hv,h⟩:=Option.bind_eq_some_iff.mp h
    injection h with h
    subst h;have HV:=qae.mk hv;clear hv;go_enter Try.func29,Try.ntmps29
    go_wp2_with fail
    go_at_call 66
    refine(impl_in.calls _ _ _ true _ HT.out).mono ?_;rintro e w' ⟨rfl,⟨nd,rfl⟩⟩
    go_wp2_with fail
    go_at_call 67
    refine(C1.out _ false ?side1 HA.out).mono ?_;(case side1=>repeat(first|exact HR.out|(with_reducible refine Kd.C_alloc ?_ _)|(with_reducible refine Kd.C_drewN ?_ _)|(with_reducible refine Kd.C_drew ?_)));rintro e w1 ⟨rfl,hb⟩;have hx0:w1.cell? ⟨w.heap.size,0,none⟩=some (.int .i64 a0_0):=(hb.cell (p:=⟨w.heap.size,0,none⟩) (by simp)).trans (by go_simp);have hx1:w1.cell? ⟨w.heap.size,1,none⟩=some (.slice A0_1 l0_1.length c0_1):=(hb.cell (p:=⟨w.heap.size,1,none⟩) (by simp)).trans (by go_simp);have HB:=qae.mk (qad (pw_below_drewN (below_alloc (Below.refl w.heap.size w) _) _) hb);clear hb
    go_wp2_with fail
    go_at_call 58
    refine(impl_Stock_free.calls k a0_0 A0_1 c0_1 l0_1 v _ ?side1 ?side2 HV.out).mono ?_;(case side1=>exact Kd.C_below HR.out HB.out);(case side2=>exact HC.out);rintro e w2 ⟨rfl,hd⟩;have HB2:=qae.mk (qad HB.out hd);clear hd
    go_wp2_with fail
    go_ret;exact⟨rfl,HB2.out⟩
  ·rw[if_neg h3] at h
   injection h with h
   subst h
   have h3b:((l0_1.length:Int) == 6)=false:=by simpa using h3
   have h3c:(l0_1.length == 6)=false:=by simp;omega
   clear h3;go_enter Try.func29,Try.ntmps29
   go_wp2_with(go_at_call 66;refine(impl_in.calls _ _ _ true _ HT.out).mono ?_;rintro e w' ⟨rfl,⟨nd,rfl⟩⟩)
   go_ret;exact⟨rfl,pw_below_drewN (below_alloc (Below.refl _ _) _) _⟩
end Go.Proofs.Ytmbdphefnalenaa.Print
