-- Written by squeeze.py, a program of this session, out of what print.sh and myprint.py had printed: cut to what is used, narrowed. Not trusted, Lean checks it.
import Derived.Test.YtjccnaklodbbfaaZK
namespace Go.Proofs.Ytjccnaklodbbfaa.Print
open Go.RowKit Go.Proofs.YtjccnaklodbbfaaW.PrintWords Go.Proofs.YtjccnaklodbbfaaW.PrintLast Go.Proofs.YtjccnaklodbbfaaW.PrintMore
attribute [local go_sem] max2_int min2_int max_two min_two max_three min_three max_four min_four
set_option linter.unusedVariables false
set_option linter.unusedSimpArgs false
def impl_Log_known.f (l0_0:List (S62)) (a0_1:Int) (a1:Bool):Option ((List (S62))):=if a1=true then(if 0≤a0_1 then(if a0_1≤(l0_0.length:Int) then(some (l0_0.take (a0_1:Int).toNat)) else(none)) else(none)) else(some l0_0)
set_option maxHeartbeats 8000000 in
set_option maxRecDepth 100000 in
theorem impl_Log_known.calls (P0_0_:Nat→Prop) (A0_0:Option Addr) (c0_0:Nat) (l0_0:List (S62)) (a0_1:Int) (a1:Bool) (r:List (S62)) (w:World) (hs0_0:Kd.V k62 62 w w.heap.size (fun k_=>P0_0_ k_) (.slice A0_0 l0_0.length c0_0) l0_0) (h:impl_Log_known.f l0_0 a0_1 a1=some r) :
  Calls Try.prog 111 #[.agg #[.slice A0_0 l0_0.length c0_0,.int .i64 a0_1],.bool a1] w fun e w'=>∃v0_:Value,e=.returned (v0_)∧Kd.V k62 62 w' w.heap.size (fun k_=>(P0_0_ k_∨w.heap.size≤k_)) v0_ r∧Below w.heap.size w w':=by
 have hu24:=Try.underlying24
 have HO0_0:=qal.mk (show Kd.V k62 62 w w.heap.size (fun k_=>(P0_0_ k_∨w.heap.size≤k_)) (.slice A0_0 l0_0.length c0_0) l0_0 from Kd.V_mono hs0_0 (fun k_ hk=>.inl hk))
 have HB:=qal.mk (Below.refl w.heap.size w)
 have H:(if a1=true then(if 0≤a0_1 then(if a0_1≤(l0_0.length:Int) then(some (l0_0.take (a0_1:Int).toNat)) else(none)) else(none)) else(some l0_0))=some r:=h
 clear h
 by_cases c3:a1=true
 ·subst c3
  have H1:(if 0≤a0_1 then(if a0_1≤(l0_0.length:Int) then(some (l0_0.take (a0_1:Int).toNat)) else(none)) else(none))=some r:=by rw[if_pos rfl] at H;exact H
  clear H
  have H:=H1
  clear H1
  by_cases c4:0≤a0_1
  ·rw[if_pos c4] at H
   have c4b0:=eq_true c4
   have c4b1:decide (0≤a0_1)=true:=decide_eq_true c4
   clear c4
   by_cases c5:a0_1≤(l0_0.length:Int)
   ·rw[if_pos c5] at H
    have c5b0:=eq_true c5
    have c5b1:decide (a0_1≤(l0_0.length:Int))=true:=decide_eq_true c5
    clear c5
    obtain⟨y530,hy530⟩:∃y_:List (S62),y_=(l0_0.take (a0_1:Int).toNat):=⟨_,rfl⟩
    replace H:(some y530)=some r:=by first|(rw[hy530];with_reducible exact H)|(have H2_:=(Option.bind_some _ _).symm.trans H;rw[hy530];with_reducible exact H2_)|(have H2_:=(Option.bind_some _ _).symm.trans H;with_reducible exact H2_)|with_reducible exact H|(rw[hy530];exact H)|exact H
    have Ny530:=qal.mk hy530
    clear hy530
    obtain rfl:=Option.some.inj H
    go_enter Try.func111,Try.ntmps111
    go_wp2_with(first|((with_reducible refine qak (N:=2) rfl ?_);refine qaj ?hg (N:=2) ?hd (cs:=#[.slice A0_0 l0_0.length c0_0,.int .i64 a0_1]) (t:=24) ?hr ?_;(case hd=>rfl);(case hg=>rfl);(case hr=>first|(go_simp;done)|(go_simp;rfl));intro gb529 hg w6 hbox hb;have n0_:=qal.mk (Kd.V_below (Kd.V_elderB (za45 HO0_0) gb529 (Nat.le_of_eq hg.symm)) hb);have n1_:=qal.mk (qae (za2 HB) hb);have n2_:=qal.mk (hbox);have n3_:=qal.mk ((by rw[hg];exact(qad (za2 HB)):w.heap.size≤gb529));have n4_:=qal.mk ((by rw[hg];exact(qad (za2 HB)):w.heap.size≤gb529));clear HO0_0;clear HB;have HO0_0:=n0_;have HB:=n1_;have BK529:=n2_;have GW529:=n3_;have GE529:=n4_;clear n0_ n1_ n2_ n3_ n4_;clear hb hbox hg;have hcz7_0:w6.cell? ⟨gb529,0,none⟩=some (.slice A0_0 l0_0.length c0_0):=(qab BK529.out 0).trans rfl;have hcz7_1:w6.cell? ⟨gb529,1,none⟩=some (.int .i64 a0_1):=(qab BK529.out 1).trans rfl;have hfz7_0:=qaa BK529.out 0;have hfz7_1:=qaa BK529.out 1;have q8:(a0_1:Int)≤((l0_0.length:Int):Int):=of_decide_eq_true (za8);obtain⟨i08,hi08,_,hsz8,_⟩:=info_parts info62;have hroom8:l0_0.length≤c0_0:=(Kd.V_reads' HO0_0.out).2.1;have hC8:Kd.F k62 _ _ A0_0 l0_0.length l0_0:=(Kd.V_at (base:=w.heap.size) HO0_0.out).2.2;have hcut8:=cut_to (P:=Try.prog) 22 62 .i64 Try.underlying22 hi08 A0_0 l0_0.length c0_0 a0_1 (of_decide_eq_true (za8)) q8 hroom8;have hr8:=Kd.F_take (m:=(a0_1:Int).toNat) hC8 (by omega);have hy8:y530.length=(a0_1:Int).toNat:=(by rw[Ny530.out,List.length_take];omega);rw[←Ny530.out] at hr8;rw[←hy8] at hcut8;have HO534:=qal.mk (show Kd.V k62 62 _ w.heap.size _ (.slice A0_0 y530.length c0_0) y530 from Kd.V_mk (by omega) hr8);have HC534:=qal.mk (show y530.length≤c0_0 from by omega);clear hr8 hC8 hroom8 hi08 hsz8;have KY8:=qal.mk hy8;clear hy8;replace q8:=eq_true q8))
    go_ret
    exact⟨_,za9,by(with_reducible repeat(first|apply Kd.V_alloc|apply Kd.V_drewN|apply Kd.V_drew));exact Kd.V_mono HO534.out (fun _ hk=>hk.1),za1 HB GE529⟩
   ·rw[if_neg c5] at H
    exact absurd H (by simp)
  ·rw[if_neg c4] at H
   exact absurd H (by simp)
 ·replace c3:=Bool.eq_false_iff.mpr c3
  subst c3
  have H1:(some l0_0)=some r:=by rw[if_neg (show ¬(false=true) by decide)] at H;exact H
  clear H
  have H:=H1
  clear H1
  obtain rfl:=Option.some.inj H
  go_enter Try.func111,Try.ntmps111
  go_wp2_with(first|((with_reducible refine qak (N:=2) rfl ?_);refine qaj ?hg (N:=2) ?hd (cs:=#[.slice A0_0 l0_0.length c0_0,.int .i64 a0_1]) (t:=24) ?hr ?_;(case hd=>rfl);(case hg=>rfl);(case hr=>first|(go_simp;done)|(go_simp;rfl));intro gb529 hg w9 hbox hb;have n0_:=qal.mk (Kd.V_below (Kd.V_elderB (za45 HO0_0) gb529 (Nat.le_of_eq hg.symm)) hb);have n1_:=qal.mk (qae (za2 HB) hb);have n2_:=qal.mk (hbox);have n3_:=qal.mk ((by rw[hg];exact(qad (za2 HB)):w.heap.size≤gb529));have n4_:=qal.mk ((by rw[hg];exact(qad (za2 HB)):w.heap.size≤gb529));clear HO0_0;clear HB;have HO0_0:=n0_;have HB:=n1_;have BK529:=n2_;have GW529:=n3_;have GE529:=n4_;clear n0_ n1_ n2_ n3_ n4_;clear hb hbox hg;have hcz10_0:w9.cell? ⟨gb529,0,none⟩=some (.slice A0_0 l0_0.length c0_0):=(qab BK529.out 0).trans rfl;have hcz10_1:w9.cell? ⟨gb529,1,none⟩=some (.int .i64 a0_1):=(qab BK529.out 1).trans rfl;have hfz10_0:=qaa BK529.out 0;have hfz10_1:=qaa BK529.out 1))
  go_ret
  exact⟨_,za9,by(with_reducible repeat(first|apply Kd.V_alloc|apply Kd.V_drewN|apply Kd.V_drew));exact Kd.V_mono HO0_0.out (fun _ hk=>hk.1),za1 HB GE529⟩
end Go.Proofs.Ytjccnaklodbbfaa.Print
