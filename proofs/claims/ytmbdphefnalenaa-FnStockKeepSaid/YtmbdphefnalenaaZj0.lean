-- Written by squeeze.py: not trusted, Lean checks it.
import Derived.Test.YtmbdphefnalenaaZK
import Derived.Test.YtmbdphefnalenaaZg1
namespace Go.Proofs.Ytmbdphefnalenaa.Print
open Go.RowKit Go.Proofs.YtmbdphefnalenaaW.PrintWords Go.Proofs.YtmbdphefnalenaaW.PrintLast Go.Proofs.YtmbdphefnalenaaW.PrintMore
attribute [local go_sem] max2_int min2_int max_two min_two max_three min_three max_four min_four
set_option linter.unusedVariables false
set_option linter.unusedSimpArgs false
def spec_StockOf.f (k:Nat) (a0:Int) (l1:List (S32)):Option (Int × (List (S49)) × Bool):=(spec_l2Of.f k a0 l1).bind fun bt532=>(some (bt532.1,bt532.2.1,bt532.2.2))
theorem spec_StockOf.mono:∀a0 a1 k,LeO (spec_StockOf.f k a0 a1) (spec_StockOf.f (k+1) a0 a1):=by
 intro a0 a1 k;unfold spec_StockOf.f
 repeat' first|(with_reducible exact spec_l2Of.mono _ _ _)|(with_reducible exact LeO.refl _)|(with_reducible exact LeO.none _)|(with_reducible refine LeO.ite ?_ ?_)|(with_reducible refine LeO.bind ?_ (fun _=>?_))|exact spec_l2Of.mono _ _ _|exact LeO.none _|refine LeO.ite ?_ ?_|refine LeO.bind ?_ (fun _=>?_)
set_option maxHeartbeats 8000000 in
set_option maxRecDepth 100000 in
theorem spec_StockOf.calls (k:Nat) (a0:Int) (A1:Option Addr) (c1:Nat) (l1:List (S32)) (r1:Int) (r2:List (S49)) (r3:Bool) (w:World) (hr1:Kd.C k32 w A1 l1.length l1) (hc1:l1.length≤c1) (h:spec_StockOf.f k a0 l1=some (r1,r2,r3)) :
  Calls Try.prog 21 #[.int .i64 a0,.slice A1 l1.length c1] w fun e w'=>∃v1_:Value,e=.returned (.tuple #[.agg #[.int .i64 r1,v1_],.bool r3])∧Kd.R k49 49 w' w.heap.size (fun _=>True) v1_ r2∧Below w.heap.size w w':=by
 have hu38:=Try.underlying38;have HR1:=qaf.mk hr1;have HC1:=qaf.mk hc1;clear hr1 hc1;have HB:=qaf.mk (Below.refl w.heap.size w);have H:((spec_l2Of.f k a0 l1).bind fun bt532=>(some (bt532.1,bt532.2.1,bt532.2.2)))=some (r1,r2,r3):=h;clear h;replace H:=Option.bind_eq_some_iff.mp H;obtain⟨⟨t532,t533,t536⟩,A30,H⟩:=H;replace H:(some (t532,t533,t536))=some (r1,r2,r3):=H;have A3:=qaf.mk A30;clear A30;simp only[Option.some.injEq,Prod.mk.injEq] at H;obtain⟨rfl,rfl,rfl⟩:=H;go_enter Try.func21,Try.ntmps21
 go_wp2_with(first|((with_reducible refine qam (N:=4) rfl ?_);refine zX (N:=4) (cs:=#[.int .i64 0,.slice none 0 0]) (t:=38) ?_;intro gb531 hg w4 hbox hb;have BK531:=qaf.mk hbox;have GW531:=zH (w:=w) hg (za2 HB);have GE531:=GW531;replace HB:=qaf.mk (qad (za2 HB) hb);clear hb hbox hg)|((with_reducible refine qag (f:=55) rfl ?_);refine zF (some 8) Try.func55 #[.int .i64 a0,.slice A1 l1.length c1] ?_;(with_reducible refine(spec_l2Of.calls k a0 _ _ l1 t532 t533 t536 _ ?side1 ?side2 A3.out).mono ?_);(case side1=>exact zR HR1 HB);(case side2=>exact HC1.out);rintro e w5 ⟨v534,rfl,ho0,hb⟩;refine⟨_,rfl,?_⟩;have HO535:=qaf.mk (Kd.R_lower ho0 (qan (za3 HB GE531)));replace BK531:=zY BK531 hb;replace HB:=qaf.mk (qad (za3 HB GE531) hb);(try clear hb);(try clear ho0);obtain⟨hcz6_0,hcz6_1,hfz6_0,hfz6_1⟩:=zC2 BK531;obtain⟨Ao7,co7,eo7⟩:=Kd.R_slice HO535.out;subst eo7))
 refine bodyPost_ret (results_ct rfl _ _ gb531 38 #[.int .i64 t532,.slice Ao7 t533.length co7] (0,0) _ rfl (by(with_reducible repeat(first|refine qac ?_ _|refine qaa ?_|refine qab ?_ _));refine qah (cs:=#[.int .i64 t532,.slice none 0 0]) ?_ 1 _ rfl;(with_reducible repeat(first|refine qac ?_ _|refine qaa ?_|refine qab ?_ _));refine qah (cs:=#[.int .i64 0,.slice none 0 0]) ?_ 0 _ rfl;(with_reducible repeat(first|refine qac ?_ _|refine qaa ?_|refine qab ?_ _));exact BK531.out) Try.underlying38 rfl (by kernel_rfl)) rfl ?_;exact⟨_,za12,by(with_reducible repeat(first|apply Kd.R_alloc|apply Kd.R_drewN|apply Kd.R_drew));exact Kd.R_mono (Kd.R_far (p:=⟨gb531,1,none⟩) (Kd.R_far (p:=⟨gb531,0,none⟩) (Kd.R_types HO535.out BK531.out (by decide)) (fun _ hk=>hk.2) (.int .i64 t532)) (fun _ hk=>hk.2) (.slice Ao7 t533.length co7)) (fun _ hk=>trivial),za3 HB GE531⟩
end Go.Proofs.Ytmbdphefnalenaa.Print
