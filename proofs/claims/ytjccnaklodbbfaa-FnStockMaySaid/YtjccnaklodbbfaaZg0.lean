-- Written by squeeze.py: not trusted, Lean checks it.
import Derived.Test.YtjccnaklodbbfaaZK
import Derived.Test.YtjccnaklodbbfaaZb0
namespace Go.Proofs.Ytjccnaklodbbfaa.Print
open Go.RowKit Go.Proofs.YtjccnaklodbbfaaW.PrintWords Go.Proofs.YtjccnaklodbbfaaW.PrintLast Go.Proofs.YtjccnaklodbbfaaW.PrintMore
attribute [local go_sem] max2_int min2_int max_two min_two max_three min_three max_four min_four
set_option linter.unusedVariables false
set_option linter.unusedSimpArgs false
def impl_StockNew.f (a0:Int):Option (Int × (List (S46)) × Bool):=(impl_in.f a0 0 9).bind fun t178=>(if t178=true then(if 6≤17592186044416 then(some (a0,(List.replicate 6 z46),true)) else(none)) else(some (0,([]:List (S46)),false)))
set_option maxHeartbeats 8000000 in
set_option maxRecDepth 100000 in
theorem impl_StockNew.calls (a0:Int) (r1:Int) (r2:List (S46)) (r3:Bool) (w:World) (h:impl_StockNew.f a0=some (r1,r2,r3)) :
  Calls Try.prog 22 #[.int .i64 a0] w fun e w'=>∃v1_:Value,e=.returned (.tuple #[.agg #[.int .i64 r1,v1_],.bool r3])∧Kd.R k46 46 w' w.heap.size (fun _=>True) v1_ r2∧Below w.heap.size w w':=by
 have hu36:=Try.underlying36
 have HB:=Aside0.mk (Below.refl w.heap.size w)
 have H:((impl_in.f a0 0 9).bind fun t178=>(if t178=true then(if 6≤17592186044416 then(some (a0,(List.replicate 6 z46),true)) else(none)) else(some (0,([]:List (S46)),false))))=some (r1,r2,r3):=h
 clear h
 replace H:=Option.bind_eq_some_iff.mp H
 obtain⟨t178,A20,H⟩:=H
 replace H:(if t178=true then(if 6≤17592186044416 then(some (a0,(List.replicate 6 z46),true)) else(none)) else(some (0,([]:List (S46)),false)))=some (r1,r2,r3):=H
 have A2:=Aside0.mk A20
 clear A20
 by_cases c3:t178=true
 ·subst c3
  have H1:(if 6≤17592186044416 then(some (a0,(List.replicate 6 z46),true)) else(none))=some (r1,r2,r3):=by rw[if_pos rfl] at H;exact H
  clear H
  have H:=H1
  clear H1
  by_cases c4:6≤17592186044416
  ·rw[if_pos c4] at H
   have c4b0:=eq_true c4
   have c4b1:decide (6≤17592186044416)=true:=decide_eq_true c4
   clear c4
   obtain⟨y179,hy179⟩:∃y_:List (S46),y_=(List.replicate 6 z46):=⟨_,rfl⟩
   replace H:(some (a0,y179,true))=some (r1,r2,r3):=by first|(rw[hy179];with_reducible exact H)|(have H2_:=(Option.bind_some _ _).symm.trans H;rw[hy179];with_reducible exact H2_)|(have H2_:=(Option.bind_some _ _).symm.trans H;with_reducible exact H2_)|with_reducible exact H|(rw[hy179];exact H)|exact H
   have Ny179:=Aside0.mk hy179
   clear hy179
   simp only[Option.some.injEq,Prod.mk.injEq] at H
   obtain⟨rfl,rfl,rfl⟩:=H
   go_enter Try.func22,Try.ntmps22
   go_wp2_with(first|((with_reducible refine qah (N:=2) rfl ?_);refine zX (N:=2) (cs:=#[.int .i64 0,.slice none 0 0]) (t:=36) ?_;intro gb177 hg w5 hbox hb;have BK177:=Aside0.mk hbox;have GW177:=zH (w:=w) hg (za1 HB);have GE177:=GW177;replace HB:=Aside0.mk (qab (za1 HB) hb);clear hb hbox hg)|((with_reducible refine qaf (f:=60) rfl ?_);refine zF (some 5) Try.func60 #[.int .i64 a0,.int .i64 0,.int .i64 9] ?_;(with_reducible refine(impl_in.calls a0 0 9 true _ A2.out).mono ?_);rintro e w' ⟨rfl,⟨nd,rfl⟩⟩;refine⟨_,rfl,?_⟩;(try(rw[drewN_self w5];generalize hq_:World.drewN w5 _=w5;replace BK177:Aside0 (w5.heap[gb177]?=some (.cells #[.int .i64 0,.slice none 0 0] 36 (0,0))):=⟨by rw[←hq_];exact(zB BK177)⟩;replace HB:Aside0 (Below w.heap.size w w5):=⟨by rw[←hq_];exact(za0 HB GE177)⟩;clear hq_;have hczugb177_0:w5.cell? ⟨gb177,0,none⟩=some _:=(blk_cell BK177.out 0).trans rfl;have hfzugb177_0:=blk_frozen BK177.out 0;have hczugb177_1:w5.cell? ⟨gb177,1,none⟩=some _:=(blk_cell BK177.out 1).trans rfl;have hfzugb177_1:=blk_frozen BK177.out 1)))|((with_reducible refine qah (N:=9) rfl ?_);refine Kd.R_make k46 _ 46 rfl (N:=9) rfl 34 _ _ rfl 6 rfl rfl Try.underlying34 (.agg #[(.int .i64 0),(.int .i64 0)]) 16 info46 rfl (by decide) (by omega) z46 (ok:=fun _=>True) (okp:=fun _=>True) (k46_mkM _ _ _ z46 ) (fun _ hk=>hk) trivial (by omega) (by omega) (Below.refl _ _) (Nat.le_refl _) ?_;intro v180 w6 ho7 hb hg_ hnew_;clear hg_ hnew_;(first|rw[←Ny179.out] at ho7|(simp only[Int.reduceToNat] at ho7;rw[←Ny179.out] at ho7));have HO181:=Aside0.mk (Kd.R_lower ho7 (below_size (za0 HB GE177)));replace BK177:=Aside0.mk (qaa (zB BK177) hb);replace HB:=Aside0.mk (qab (za0 HB GE177) hb);clear hb ho7;obtain⟨Ao8,co8,eo8⟩:=Kd.R_slice HO181.out;subst eo8;obtain⟨hcz9_0,hcz9_1,hfz9_0,hfz9_1⟩:=zC2 BK177))
   refine bodyPost_ret (results_ct rfl _ _ gb177 36 #[.int .i64 a0,.slice Ao8 y179.length co8] (0,0) _ rfl (by(with_reducible repeat(first|refine blk_drewN ?_ _|refine blk_drew ?_|refine blk_alloc ?_ _));refine qai (cs:=#[.int .i64 a0,.slice none 0 0]) ?_ 1 _ rfl;(with_reducible repeat(first|refine blk_drewN ?_ _|refine blk_drew ?_|refine blk_alloc ?_ _));refine qai (cs:=#[.int .i64 0,.slice none 0 0]) ?_ 0 _ rfl;(with_reducible repeat(first|refine blk_drewN ?_ _|refine blk_drew ?_|refine blk_alloc ?_ _));exact BK177.out) Try.underlying36 rfl (by kernel_rfl)) rfl ?_
   exact⟨_,za9,by(with_reducible repeat(first|apply Kd.R_alloc|apply Kd.R_drewN|apply Kd.R_drew));exact Kd.R_mono (Kd.R_far (p:=⟨gb177,1,none⟩) (Kd.R_far (p:=⟨gb177,0,none⟩) (Kd.R_types HO181.out BK177.out (by decide)) (fun _ hk=>hk.2) (.int .i64 a0)) (fun _ hk=>hk.2) (.slice Ao8 y179.length co8)) (fun _ hk=>trivial),za0 HB GE177⟩
  ·rw[if_neg c4] at H
   exact absurd H (by simp)
 ·replace c3:=Bool.eq_false_iff.mpr c3
  subst c3
  have H1:(some (0,([]:List (S46)),false))=some (r1,r2,r3):=by rw[if_neg (show ¬(false=true) by decide)] at H;exact H
  clear H
  have H:=H1
  clear H1
  simp only[Option.some.injEq,Prod.mk.injEq] at H
  obtain⟨rfl,rfl,rfl⟩:=H
  go_enter Try.func22,Try.ntmps22
  go_wp2_with(first|((with_reducible refine qah (N:=2) rfl ?_);refine zX (N:=2) (cs:=#[.int .i64 0,.slice none 0 0]) (t:=36) ?_;intro gb177 hg w10 hbox hb;have BK177:=Aside0.mk hbox;have GW177:=zH (w:=w) hg (za1 HB);have GE177:=GW177;replace HB:=Aside0.mk (qab (za1 HB) hb);clear hb hbox hg)|((with_reducible refine qaf (f:=60) rfl ?_);refine zF (some 5) Try.func60 #[.int .i64 a0,.int .i64 0,.int .i64 9] ?_;(with_reducible refine(impl_in.calls a0 0 9 false _ A2.out).mono ?_);rintro e w' ⟨rfl,⟨nd,rfl⟩⟩;refine⟨_,rfl,?_⟩;(try(rw[drewN_self w10];generalize hq_:World.drewN w10 _=w10;replace BK177:Aside0 (w10.heap[gb177]?=some (.cells #[.int .i64 0,.slice none 0 0] 36 (0,0))):=⟨by rw[←hq_];exact(zB BK177)⟩;replace HB:Aside0 (Below w.heap.size w w10):=⟨by rw[←hq_];exact(za0 HB GE177)⟩;clear hq_;have hczugb177_0:w10.cell? ⟨gb177,0,none⟩=some _:=(blk_cell BK177.out 0).trans rfl;have hfzugb177_0:=blk_frozen BK177.out 0;have hczugb177_1:w10.cell? ⟨gb177,1,none⟩=some _:=(blk_cell BK177.out 1).trans rfl;have hfzugb177_1:=blk_frozen BK177.out 1));obtain⟨hcz11_0,hcz11_1,hfz11_0,hfz11_1⟩:=zC2 BK177))
  refine bodyPost_ret (results_ct rfl _ _ gb177 36 #[.int .i64 0,.slice none 0 0] (0,0) _ rfl (by(with_reducible repeat(first|refine blk_drewN ?_ _|refine blk_drew ?_|refine blk_alloc ?_ _));refine qai (cs:=#[.int .i64 0,.slice none 0 0]) ?_ 1 _ rfl;(with_reducible repeat(first|refine blk_drewN ?_ _|refine blk_drew ?_|refine blk_alloc ?_ _));refine qai (cs:=#[.int .i64 0,.slice none 0 0]) ?_ 0 _ rfl;(with_reducible repeat(first|refine blk_drewN ?_ _|refine blk_drew ?_|refine blk_alloc ?_ _));exact BK177.out) Try.underlying36 rfl (by kernel_rfl)) rfl ?_
  exact⟨_,za9,za24,za0 HB GE177⟩
def impl_Hold_104.f (l0:List (S46)):Option ((List (S46))):=if l0.length<8796093022208 then some l0 else none
set_option maxHeartbeats 8000000 in
set_option maxRecDepth 100000 in
theorem impl_Hold_104.calls (A0:Option Addr) (c0:Nat) (l0:List (S46)) (r:List (S46)) (w:World) (hr0:Kd.C k46 w A0 l0.length l0) (hc0:l0.length≤c0) (h:impl_Hold_104.f l0=some r) :
  Calls Try.prog 104 #[.slice A0 l0.length c0] w fun e w'=>∃v0_:Value,e=.returned (v0_)∧Kd.R k46 46 w' w.heap.size (fun _=>True) v0_ r∧Below w.heap.size w w':=by
 unfold impl_Hold_104.f at h
 by_cases hl:l0.length<8796093022208
 ·rw[if_pos hl] at h
  injection h with h
  subst h
  have HL:=Aside0.mk hl
  have HR:=Aside0.mk hr0
  clear hl hr0
  cases A0 with
  |none=>
   have hl0:l0.length=0:=by
    rcases Nat.eq_zero_or_pos l0.length with h0|h0
    ·exact h0
    ·obtain⟨ad,h,_⟩:=HR.out.2.2 h0
     cases h
   obtain rfl:l0=[]:=List.eq_nil_of_length_eq_zero hl0
   clear hl0 HL HR
   have heq:=fun(W:World) (n_:Nat)=>Lib.run_eql_slice_nil (P:=Try.prog) W 34 46 none n_ c0 0 0 Try.underlying34
   go_enter Try.func104,Try.ntmps104
   go_wp2
   go_ret
   exact⟨_,rfl,Kd.R_nil _ _ _ _ _,Below.refl _ _⟩
  |some ad=>
   have heq:=fun W:World=>Lib.run_eql_slice_nil (P:=Try.prog) W 34 46 (some ad) l0.length c0 0 0 Try.underlying34
   go_enter Try.func104,Try.ntmps104
   go_wp2_with(first|((with_reducible refine qah (N:=5) rfl ?_);refine Kd.R_lit k46 _ 46 (by rfl) (N:=5) (by rfl) (xs:=([]:List S46)) (inner:=[]) (ok:=fun _=>True) (okp:=fun _=>True) (by first|(go_simp;done)|(go_simp;rfl)) (Reps.none _ _) (fun _ hk=>hk) trivial (Below.refl _ _) (Nat.le_refl _) (by simp) ?_;intro v1 w1 ho1 hb hg_ hnew_;have HO1:=Aside0.mk ho1;have HB:=Aside0.mk hb;clear ho1 hb hg_ hnew_)|((with_reducible refine gate_builtin (b:=.append) (xs:=#[.tmp 5,.tmp 6]) rfl ?_);(try(refine qaq (by rfl) ?_;dsimp only));at_builtin;refine Kd.R_append_rows k46 (w0:=w) w.heap.size rfl (.tmp 5) (.tmp 6) 34 46 (.agg #[(.int .i64 0),(.int .i64 0)]) 16 rfl Try.underlying34 info46 rfl (by decide) (by omega) v1 [] l0 _ _ _ (fun _=>True) (fun _=>False) rfl rfl ?aO ?aR (fun _ _ h=>h) (fun _ h=>h.elim) ?aF ?aB ?aS ?aL ?_;(case aR=>exact Kd.C_below HR.out HB.out);(case aB=>exact HB.out);(case aF=>exact(fun _ _=>trivial));(case aO=>exact HO1.out);(case aS=>exact(below_size HB.out));(case aL=>have:=HL.out;simp only[List.length_nil];omega);intro v2 w2 ho2 hb2 hg2 hat2;have HO2:=Aside0.mk ho2;have HB2:=Aside0.mk hb2;clear ho2 hb2 hg2 hat2))
   go_ret
   exact⟨_,rfl,HO2.out,HB2.out⟩
 ·rw[if_neg hl] at h
  exact absurd h (by simp)
end Go.Proofs.Ytjccnaklodbbfaa.Print
