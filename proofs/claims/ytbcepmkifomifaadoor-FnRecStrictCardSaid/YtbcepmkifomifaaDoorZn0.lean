-- Written by squeeze.py: not trusted, Lean checks it.
import Derived.Test.YtbcepmkifomifaaDoorZK
import Derived.Test.YtbcepmkifomifaaDoorZb0
namespace Go.Proofs.YtbcepmkifomifaaDoor.Print
open Go.RowKit Go.Proofs.YtbcepmkifomifaaDoorW.PrintWords Go.Proofs.YtbcepmkifomifaaDoorW.PrintLast Go.Proofs.YtbcepmkifomifaaDoorW.PrintMore
attribute [local go_sem] max2_int min2_int max_two min_two max_three min_three max_four min_four
set_option linter.unusedVariables false
set_option linter.unusedSimpArgs false
def spec_l6Rd_of.f (k:Nat) (s0_0:List Int) (s0_1:Int) (l1:List ByteArray):Option (ByteArray × Int):=(spec_l6Rd_pick.f k s0_0 s0_1 (l1.length:Int)).bind fun bt345=>(if 0≤bt345.1 then(if bt345.1<(l1.length:Int) then(some (rdOf ByteArray.empty l1 bt345.1,bt345.2)) else(none)) else(none))
theorem spec_l6Rd_of.mono:∀a0 a1 a2 k,LeO (spec_l6Rd_of.f k a0 a1 a2) (spec_l6Rd_of.f (k+1) a0 a1 a2):=by
 intro a0 a1 a2 k;unfold spec_l6Rd_of.f
 repeat' first|(with_reducible exact spec_l6Rd_pick.mono _ _ _ _)|(with_reducible exact LeO.refl _)|(with_reducible exact LeO.none _)|(with_reducible refine LeO.ite ?_ ?_)|(with_reducible refine LeO.bind ?_ (fun _=>?_))|exact spec_l6Rd_pick.mono _ _ _ _|exact LeO.none _|refine LeO.ite ?_ ?_|refine LeO.bind ?_ (fun _=>?_)
set_option maxHeartbeats 8000000 in
set_option maxRecDepth 100000 in
theorem spec_l6Rd_of.calls (k:Nat) (g:Nat) (s0_0:List Int) (s0_1:Int) (A1:Option Addr) (c1:Nat) (l1:List ByteArray) (r1:ByteArray) (r2:Int) (w0 w:World) (hI:IsS74 w0 w g s0_0 s0_1) (hB:Below w0.heap.size w0 w) (hr1:Kd.C Kd.string w A1 l1.length l1) (hc1:l1.length≤c1) (hf1:∀ad,A1=some ad→0<l1.length→ad.block≠g) (h:spec_l6Rd_of.f k s0_0 s0_1 l1=some (r1,r2)) :
  Calls Tryd.prog 53 #[.pointer (some ⟨g,0,none⟩),.slice A1 l1.length c1] w fun e w'=>e=.returned (.string r1)∧IsS74 w0 w' g s0_0 r2∧Below w0.heap.size w0 w'∧KeepBut w w' g none:=by
 have HR1:=qaj.mk hr1;have HC1:=qaj.mk hc1;clear hr1 hc1;have HI0:=qaj.mk hI;have HK:=qaj.mk (KeepBut.refl w g none);have HL:=qaj.mk hB.size;clear hI;have HW0:=qaj.mk hB.size;have HB:=qaj.mk hB;clear hB;have H:((spec_l6Rd_pick.f k s0_0 s0_1 (l1.length:Int)).bind fun bt345=>(if 0≤bt345.1 then(if bt345.1<(l1.length:Int) then(some (rdOf ByteArray.empty l1 bt345.1,bt345.2)) else(none)) else(none)))=some (r1,r2):=h;clear h;replace H:=Option.bind_eq_some_iff.mp H;obtain⟨⟨t345,t346⟩,A30,H⟩:=H;replace H:(if 0≤t345 then(if t345<(l1.length:Int) then(some (rdOf ByteArray.empty l1 t345,t346)) else(none)) else(none))=some (r1,r2):=H;have A3:=qaj.mk A30;clear A30;by_cases c4:0≤t345
 ·rw[if_pos c4] at H;have c4b0:decide (0≤t345)=true:=decide_eq_true c4;clear c4;by_cases c5:t345<(l1.length:Int)
  ·rw[if_pos c5] at H;have c5b0:decide (t345<(l1.length:Int))=true:=decide_eq_true c5;clear c5;simp only[Option.some.injEq,Prod.mk.injEq] at H;obtain⟨rfl,rfl⟩:=H;go_enter Tryd.func53,Tryd.ntmps53
   go_wp2_with(first|((with_reducible refine qae (f:=52) rfl ?_);refine zF (some 9) Tryd.func52 #[.pointer (some ⟨g,0,none⟩),.int .i64 (l1.length:Int)] ?_;(with_reducible refine(spec_l6Rd_pick.calls k g s0_0 s0_1 (l1.length:Int) t345 t346 w0 _ ?side1 ?side2 A3.out).mono ?_);(case side1=>repeat(first|(with_reducible first|exact HI0.out|apply IsS74.alloc|apply IsS74.drewN|apply IsS74.drew|apply IsS74.set_1)|exact HI0.out));(case side2=>exact(by repeat(first|(with_reducible first|exact HB.out|apply below_alloc|apply pw_below_drewN|apply qar|refine below_set ?_ (IsS74.ge HI0.out))|exact HB.out)));rintro e w6 ⟨rfl,hi,hb,hk⟩;refine⟨_,rfl,?_⟩;replace HK:=qaj.mk (KeepBut.trans (za12 HK) hk (.inl rfl));replace HB:=qaj.mk hb;replace HI0:=qaj.mk hi;(try clear hb);(try clear hk);(try clear hi);have p347:0≤(t345:Int):=of_decide_eq_true (za13);have q347:t345<(l1.length:Int):=of_decide_eq_true (za13);obtain⟨ad347,e347,hx347_0⟩:=Kd.at_string HR1.out t345 p347 q347;cases e347;replace hx347_0:=keep_cell HK.out hx347_0 (by first|(rw[qap];exact hf1 _ rfl (by omega))|exact hf1 _ rfl (by omega)|exact hf1 ad347 rfl (by omega));replace p347:=eq_true p347;replace q347:=eq_true q347))
   go_ret;exact⟨za10,by repeat(first|(with_reducible first|exact HI0.out|apply IsS74.alloc|apply IsS74.drewN|apply IsS74.drew|apply IsS74.set_1)|exact HI0.out),by repeat(first|(with_reducible first|exact HB.out|apply below_alloc|apply pw_below_drewN|apply qar|refine below_set ?_ (IsS74.ge HI0.out))|exact HB.out),za12 HK⟩
  ·rw[if_neg c5] at H;exact absurd H (by simp)
 ·rw[if_neg c4] at H;exact absurd H (by simp)
end Go.Proofs.YtbcepmkifomifaaDoor.Print
