-- Written by squeeze.py: not trusted, Lean checks it.
import Derived.Test.YtmbdphefnalenaaZK
import Derived.Test.YtmbdphefnalenaaZj1
namespace Go.Proofs.Ytmbdphefnalenaa.Print
open Go.RowKit Go.Proofs.YtmbdphefnalenaaW.PrintWords Go.Proofs.YtmbdphefnalenaaW.PrintLast Go.Proofs.YtmbdphefnalenaaW.PrintMore
attribute [local go_sem] max2_int min2_int max_two min_two max_three min_three max_four min_four
set_option linter.unusedVariables false
set_option linter.unusedSimpArgs false
def spec_DrawStockDo.f (k:Nat) (l0:List Int):Option (Int × (List (S49)) × Int × Int × List Int):=(spec_DrawStockMay.f k l0).bind fun bt660=>(some (bt660.1,bt660.2.1,bt660.2.2.1,bt660.2.2.2.1,bt660.2.2.2.2))
theorem spec_DrawStockDo.mono:∀a0 k,LeO (spec_DrawStockDo.f k a0) (spec_DrawStockDo.f (k+1) a0):=by
 intro a0 k
 unfold spec_DrawStockDo.f
 repeat' first
   |(with_reducible exact spec_DrawStockMay.mono _ _)
   |(with_reducible exact LeO.refl _)
   |(with_reducible exact LeO.none _)
   |(with_reducible refine LeO.ite ?_ ?_)
   |(with_reducible refine LeO.bind ?_ (fun _=>?_))
   |exact spec_DrawStockMay.mono _ _
   |exact LeO.none _
   |refine LeO.ite ?_ ?_
   |refine LeO.bind ?_ (fun _=>?_)
set_option maxHeartbeats 8000000 in
set_option maxRecDepth 100000 in
theorem spec_DrawStockDo.calls (k:Nat) (A0:Option Addr) (c0:Nat) (l0:List Int) (r1:Int) (r2:List (S49)) (r3:Int) (r4:Int) (r5:List Int) (w:World) (hr0:Kd.C (Kd.int .u8) w A0 l0.length l0) (hc0:l0.length≤c0) (h:spec_DrawStockDo.f k l0=some (r1,r2,r3,r4,r5)) :
  Calls Try.prog 26 #[.slice A0 l0.length c0] w fun e w'=>∃v1_ v4_:Value,e=.returned (.tuple #[.agg #[.int .i64 r1,v1_],.agg #[.int .i64 r3,.int .i64 r4,v4_]])∧Kd.Q k49 49 w' w.heap.size (fun k_=>(w.heap.size≤k_)) v1_ r2∧Kd.V (Kd.int .i64) 3 w' w.heap.size (fun k_=>(w.heap.size≤k_)∧some k_≠(v1_:Value).ownBlock) v4_ r5∧Below w.heap.size w w':=by
 have hu38:=Try.underlying38
 have hu32:=Try.underlying32
 have HR0:=Aside0.mk hr0
 have HC0:=Aside0.mk hc0
 clear hr0 hc0
 have HB:=Aside0.mk (Below.refl w.heap.size w)
 have H:((spec_DrawStockMay.f k l0).bind fun bt660=>(some (bt660.1,bt660.2.1,bt660.2.2.1,bt660.2.2.2.1,bt660.2.2.2.2)))=some (r1,r2,r3,r4,r5):=h
 clear h
 replace H:=Option.bind_eq_some_iff.mp H
 obtain⟨⟨t660,t661,t664,t665,t666⟩,A20,H⟩:=H
 replace H:(some (t660,t661,t664,t665,t666))=some (r1,r2,r3,r4,r5):=H
 have A2:=Aside0.mk A20
 clear A20
 simp only[Option.some.injEq,Prod.mk.injEq] at H
 obtain⟨rfl,rfl,rfl,rfl,rfl⟩:=H
 go_enter Try.func26,Try.ntmps26
 go_wp2_with(first|((with_reducible refine qae (N:=2) rfl ?_);refine zX (N:=2) (cs:=#[.int .i64 0,.slice none 0 0]) (t:=38) ?_;intro gb658 hg w3 hbox hb;have BK658:=Aside0.mk hbox;have GW658:=zH (w:=w) hg (za4 HB);have GE658:=GW658;replace HB:=Aside0.mk (qab (za4 HB) hb);clear hb hbox hg)|((with_reducible refine qae (N:=3) rfl ?_);refine zX (N:=3) (cs:=#[.int .i64 0,.int .i64 0,.slice none 0 0]) (t:=32) ?_;intro gb659 hg w4 hbox hb;have BK659:=Aside0.mk hbox;have GW659:=zH (w:=w) hg (za1 HB GE658);have GE659:=GW659;replace HB:=Aside0.mk (qab (za1 HB GE658) hb);have NB658_659:=zL BK658 hg;have NB659_658:=zG BK658 hg;replace BK658:=Aside0.mk (qaa (zB BK658) hb);clear hb hbox hg)|((with_reducible refine qac (f:=59) rfl ?_);refine zF (some 5) Try.func59 #[.slice A0 l0.length c0] ?_;(with_reducible refine(spec_DrawStockMay.calls k _ _ l0 t660 t661 t664 t665 t666 _ ?side1 ?side2 A2.out).mono ?_);(case side1=>exact zR HR0 HB);(case side2=>exact HC0.out);rintro e w5 ⟨v662,v667,rfl,ho0,ho1,hb⟩;refine⟨_,rfl,?_⟩;have HO663:=Aside0.mk (Kd.Q_lower (Kd.Q_newM (M:=fun k_=>(w.heap.size≤k_)) (Kd.Q_mono (ok':=fun k_=>True) ho0 (fun _ hk_=>trivial)) (below_size (za2 HB GE658 GE659)) (fun k_ h_=>h_)) (below_size (za2 HB GE658 GE659)));have HO668:=Aside0.mk (Kd.V_lower (Kd.V_mono (ok':=fun k_=>(w.heap.size≤k_)∧some k_≠(v662:Value).ownBlock∧k_≠gb658∧k_≠gb659) ho1 (fun k_ hk_=>⟨(Nat.le_trans (below_size (za2 HB GE658 GE659)) hk_.1),hk_.2,(Kd.freshB (zB BK658) k_ hk_.1),(Kd.freshB (zB BK659) k_ hk_.1)⟩)) (below_size (za2 HB GE658 GE659)));replace BK658:=Aside0.mk (qaa (zB BK658) hb);replace BK659:=Aside0.mk (qaa (zB BK659) hb);replace HB:=Aside0.mk (qab (za2 HB GE658 GE659) hb);(try clear hb);(try clear ho0);(try clear ho1);have hnb6:=NB658_659.out;have hnc6:=NB659_658.out;obtain⟨hcz7_0,hcz7_1,hfz7_0,hfz7_1⟩:=zC2 BK658;obtain⟨Ao8,co8,eo8,_⟩:=Kd.Q_slice HO663.out;subst eo8;obtain⟨hcz9_0,hcz9_1,hcz9_2,hfz9_0,hfz9_1,hfz9_2⟩:=zC3 BK659;obtain⟨Ao10,co10,eo10⟩:=Kd.V_slice HO668.out;subst eo10))
 refine bodyPost_ret (results_cc rfl _ _ gb658 gb659 38 32 #[.int .i64 t660,.slice Ao8 t661.length co8] #[.int .i64 t664,.int .i64 t665,.slice Ao10 t666.length co10] (0,0) (0,0) _ _ rfl (by(with_reducible repeat(first|refine blk_drewN ?_ _|refine blk_drew ?_|refine blk_alloc ?_ _));refine blk_far ?_ NB658_659.out _;(with_reducible repeat(first|refine blk_drewN ?_ _|refine blk_drew ?_|refine blk_alloc ?_ _));refine blk_far ?_ NB658_659.out _;(with_reducible repeat(first|refine blk_drewN ?_ _|refine blk_drew ?_|refine blk_alloc ?_ _));refine blk_far ?_ NB658_659.out _;(with_reducible repeat(first|refine blk_drewN ?_ _|refine blk_drew ?_|refine blk_alloc ?_ _));refine qad (cs:=#[.int .i64 t660,.slice none 0 0]) ?_ 1 _ rfl;(with_reducible repeat(first|refine blk_drewN ?_ _|refine blk_drew ?_|refine blk_alloc ?_ _));refine qad (cs:=#[.int .i64 0,.slice none 0 0]) ?_ 0 _ rfl;(with_reducible repeat(first|refine blk_drewN ?_ _|refine blk_drew ?_|refine blk_alloc ?_ _));exact BK658.out) Try.underlying38 rfl (by kernel_rfl) rfl (by(with_reducible repeat(first|refine blk_drewN ?_ _|refine blk_drew ?_|refine blk_alloc ?_ _));refine qad (cs:=#[.int .i64 t664,.int .i64 t665,.slice none 0 0]) ?_ 2 _ rfl;(with_reducible repeat(first|refine blk_drewN ?_ _|refine blk_drew ?_|refine blk_alloc ?_ _));refine qad (cs:=#[.int .i64 t664,.int .i64 0,.slice none 0 0]) ?_ 1 _ rfl;(with_reducible repeat(first|refine blk_drewN ?_ _|refine blk_drew ?_|refine blk_alloc ?_ _));refine qad (cs:=#[.int .i64 0,.int .i64 0,.slice none 0 0]) ?_ 0 _ rfl;(with_reducible repeat(first|refine blk_drewN ?_ _|refine blk_drew ?_|refine blk_alloc ?_ _));refine blk_far ?_ NB659_658.out _;(with_reducible repeat(first|refine blk_drewN ?_ _|refine blk_drew ?_|refine blk_alloc ?_ _));refine blk_far ?_ NB659_658.out _;(with_reducible repeat(first|refine blk_drewN ?_ _|refine blk_drew ?_|refine blk_alloc ?_ _));exact BK659.out) Try.underlying32 rfl (by kernel_rfl)) rfl ?_
 exact⟨_,_,za16,by(with_reducible repeat(first|apply Kd.Q_alloc|apply Kd.Q_drewN|apply Kd.Q_drew));exact Kd.Q_mono (Kd.Q_far (p:=⟨gb659,2,none⟩) (Kd.Q_far (p:=⟨gb659,1,none⟩) (Kd.Q_far (p:=⟨gb659,0,none⟩) (Kd.Q_far (p:=⟨gb658,1,none⟩) (Kd.Q_far (p:=⟨gb658,0,none⟩) (Kd.Q_types (Kd.Q_types HO663.out BK658.out (by decide)) BK659.out (by decide)) (fun _ hk=>hk.1.2) (.int .i64 t660)) (fun _ hk=>hk.1.2) (.slice Ao8 t661.length co8)) (fun _ hk=>hk.2) (.int .i64 t664)) (fun _ hk=>hk.2) (.int .i64 t665)) (fun _ hk=>hk.2) (.slice Ao10 t666.length co10)) (fun _ hk=>hk.1.1.1),by(with_reducible repeat(first|apply Kd.V_alloc|apply Kd.V_drewN|apply Kd.V_drew));exact Kd.V_mono (Kd.V_far (p:=⟨gb659,2,none⟩) (Kd.V_far (p:=⟨gb659,1,none⟩) (Kd.V_far (p:=⟨gb659,0,none⟩) (Kd.V_far (p:=⟨gb658,1,none⟩) (Kd.V_far (p:=⟨gb658,0,none⟩) (Kd.V_mono (Kd.V_mono HO668.out (fun k_ hk=>(⟨hk,hk.2.2.1⟩:_∧k_≠gb658))) (fun k_ hk=>(⟨hk,hk.1.2.2.2⟩:_∧k_≠gb659))) (fun _ hk=>hk.1.2) (.int .i64 t660)) (fun _ hk=>hk.1.2) (.slice Ao8 t661.length co8)) (fun _ hk=>hk.2) (.int .i64 t664)) (fun _ hk=>hk.2) (.int .i64 t665)) (fun _ hk=>hk.2) (.slice Ao10 t666.length co10)) (fun _ hk=>⟨hk.1.1.1,hk.1.1.2.1⟩),za2 HB GE658 GE659⟩
end Go.Proofs.Ytmbdphefnalenaa.Print
