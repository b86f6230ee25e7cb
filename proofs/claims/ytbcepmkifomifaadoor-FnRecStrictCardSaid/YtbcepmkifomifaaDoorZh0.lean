-- Written by squeeze.py: not trusted, Lean checks it.
import Derived.Test.YtbcepmkifomifaaDoorZK
namespace Go.Proofs.YtbcepmkifomifaaDoor.Print
open Go.RowKit Go.Proofs.YtbcepmkifomifaaDoorW.PrintWords Go.Proofs.YtbcepmkifomifaaDoorW.PrintLast Go.Proofs.YtbcepmkifomifaaDoorW.PrintMore
attribute [local go_sem] max2_int min2_int max_two min_two max_three min_three max_four min_four
set_option linter.unusedVariables false
set_option linter.unusedSimpArgs false
def slices_Clone_int_int.f (l0:List Int):Option (List Int):=if l0.length<17592186044416 then some l0 else none
set_option maxHeartbeats 8000000 in
set_option maxRecDepth 100000 in
theorem slices_Clone_int_int.calls (A0:Option Addr) (c0:Nat) (l0:List Int) (r:List Int) (w:World) (hr0:Kd.C (Kd.int .i64) w A0 l0.length l0) (hc0:l0.length≤c0) (h:slices_Clone_int_int.f l0=some r) :
  Calls Tryd.prog 45 #[.slice A0 l0.length c0] w fun e w'=>∃v0_:Value,e=.returned (v0_)∧Kd.R (Kd.int .i64) 3 w' w.heap.size (fun _=>True) v0_ r∧Below w.heap.size w w':=by
 unfold slices_Clone_int_int.f at h;by_cases hl:l0.length<17592186044416
 ·rw[if_pos hl] at h
  injection h with h
  subst h;have HL:=qaj.mk hl;have HR:=qaj.mk hr0;clear hl hr0
  cases A0 with
  |none=>
   have hl0:l0.length=0:=by
    rcases Nat.eq_zero_or_pos l0.length with h0|h0
    ·exact h0
    ·obtain⟨ad,h,_⟩:=HR.out.2.2 h0
     cases h
   obtain rfl:l0=[]:=List.eq_nil_of_length_eq_zero hl0;clear hl0 HL HR
   have heq:=fun(W:World) (n_:Nat)=>Lib.run_eql_slice_nil (P:=Tryd.prog) W 23 3 none n_ c0 0 0 Tryd.underlying23
   go_enter Tryd.func45,Tryd.ntmps45;go_wp2;go_ret;exact⟨_,rfl,Kd.R_nil _ _ _ _ _,Below.refl _ _⟩
  |some ad=>
   have heq:=fun W:World=>Lib.run_eql_slice_nil (P:=Tryd.prog) W 23 3 (some ad) l0.length c0 0 0 Tryd.underlying23
   go_enter Tryd.func45,Tryd.ntmps45
   go_wp2_with(first|((with_reducible refine qai (N:=5) rfl ?_);refine Kd.R_lit (Kd.int .i64) _ 3 (by rfl) (N:=5) (by rfl) (xs:=([]:List Int)) (inner:=[]) (ok:=fun _=>True) (okp:=fun _=>True) (by first|(go_simp;done)|(go_simp;rfl)) (Reps.none _ _) (fun _ hk=>hk) trivial (Below.refl _ _) (Nat.le_refl _) (by simp) ?_;intro v1 w1 ho1 hb hg_ hnew_;have HO1:=qaj.mk ho1;have HB:=qaj.mk hb;clear ho1 hb hg_ hnew_)|((with_reducible refine gate_builtin (b:=.append) (xs:=#[.tmp 5,.tmp 6]) rfl ?_);(try(refine gate_guard (by rfl) ?_;dsimp only));at_builtin;refine Kd.R_append_rows (Kd.int .i64) (w0:=w) w.heap.size rfl (.tmp 5) (.tmp 6) 23 3 (.int .i64 0) 8 rfl Tryd.underlying23 info3 rfl (by decide) (by omega) v1 [] l0 _ _ _ (fun _=>True) (fun _=>False) rfl rfl ?aO ?aR (fun _ _ h=>h) (fun _ h=>h.elim) ?aF ?aB ?aS ?aL ?_;(case aR=>exact Kd.C_below HR.out HB.out);(case aB=>exact HB.out);(case aF=>exact(fun _ _=>trivial));(case aO=>exact HO1.out);(case aS=>exact(qam HB.out));(case aL=>have:=HL.out;simp only[List.length_nil];omega);intro v2 w2 ho2 hb2 hg2 hat2;have HO2:=qaj.mk ho2;have HB2:=qaj.mk hb2;clear ho2 hb2 hg2 hat2))
   go_ret;exact⟨_,rfl,HO2.out,HB2.out⟩
 ·rw[if_neg hl] at h;exact absurd h (by simp)
end Go.Proofs.YtbcepmkifomifaaDoor.Print
