-- Written by squeeze.py: not trusted, Lean checks it.
import Derived.Test.YtjccnaklodbbfaaZK
import Derived.Test.YtjccnaklodbbfaaZm0
import Derived.Test.YtjccnaklodbbfaaZv0
import Derived.Test.YtjccnaklodbbfaaZw0
namespace Go.Proofs.Ytjccnaklodbbfaa.Print
open Go.RowKit Go.Proofs.YtjccnaklodbbfaaW.PrintWords Go.Proofs.YtjccnaklodbbfaaW.PrintLast Go.Proofs.YtjccnaklodbbfaaW.PrintMore
attribute [local go_sem] max2_int min2_int max_two min_two max_three min_three max_four min_four
set_option linter.unusedVariables false
set_option linter.unusedSimpArgs false
def spec_l12Of.l0:Nat→List (S62)→List (S73)→Int→Option ((List (S73)) × Bool)
 |0,_,_,_=>none
 |k+1,x0,x4,x5=>if x5<(x0.length:Int) then(if 0≤x5 then((spec_RecOk.f k ((rd_T62 x0 x5).f0) ((rd_T62 x0 x5).f1) ((rd_T62 x0 x5).f2)).bind fun t783=>(if t783=true then((spec_l12May.f k x4 ((rd_T62 x0 x5).f0) ((rd_T62 x0 x5).f1) ((rd_T62 x0 x5).f2)).bind fun t785=>(if t785=true then((spec_l12Do.f x4 ((rd_T62 x0 x5).f0) ((rd_T62 x0 x5).f1) ((rd_T62 x0 x5).f2)).bind fun t787=>(spec_l12Of.l0 k x0 t787 (wrap64 (x5+1)))) else(some ((([]:List (S73))),false)))) else(some ((([]:List (S73))),false)))) else(none)) else(some (x4,true))
def spec_l12Of.f (k:Nat) (l0:List (S62)):Option ((List (S73)) × Bool):=spec_l12Of.l0 k l0 (([]:List (S73))) 0
theorem spec_l12Of.mono_l:∀k,(∀y0 y1 y2,LeO (spec_l12Of.l0 k y0 y1 y2) (spec_l12Of.l0 (k+1) y0 y1 y2))
 |0=>fun _ _ _ r h=>by simp[spec_l12Of.l0] at h
 |k+1=>by
  have ih0:=spec_l12Of.mono_l k
  ·intro y0 y1 y2
   unfold spec_l12Of.l0
   repeat' first
   |(with_reducible exact ih0 _ _ _)
   |(with_reducible exact spec_RecOk.mono _ _ _ _)
   |(with_reducible exact spec_l12May.mono _ _ _ _ _)
   |(with_reducible exact LeO.refl _)
   |(with_reducible exact LeO.none _)
   |(with_reducible refine LeO.ite ?_ ?_)
   |(with_reducible refine LeO.bind ?_ (fun _=>?_))
   |exact ih0 _ _ _
   |exact spec_RecOk.mono _ _ _ _
   |exact spec_l12May.mono _ _ _ _ _
   |exact LeO.none _
   |refine LeO.ite ?_ ?_
   |refine LeO.bind ?_ (fun _=>?_)
theorem spec_l12Of.mono:∀a0 k,LeO (spec_l12Of.f k a0) (spec_l12Of.f (k+1) a0):=by
 intro a0 k
 have ih0:=spec_l12Of.mono_l k
 unfold spec_l12Of.f
 repeat' first
   |(with_reducible exact ih0 _ _ _)
   |(with_reducible exact spec_RecOk.mono _ _ _ _)
   |(with_reducible exact spec_l12May.mono _ _ _ _ _)
   |(with_reducible exact LeO.refl _)
   |(with_reducible exact LeO.none _)
   |(with_reducible refine LeO.ite ?_ ?_)
   |(with_reducible refine LeO.bind ?_ (fun _=>?_))
   |exact ih0 _ _ _
   |exact spec_RecOk.mono _ _ _ _
   |exact spec_l12May.mono _ _ _ _ _
   |exact LeO.none _
   |refine LeO.ite ?_ ?_
   |refine LeO.bind ?_ (fun _=>?_)
set_option maxHeartbeats 8000000 in
set_option maxRecDepth 100000 in
theorem spec_l12Of.calls (k:Nat) (A0:Option Addr) (c0:Nat) (l0:List (S62)) (r1:List (S73)) (r2:Bool) (w:World) (hr0:Kd.C k62 w A0 l0.length l0) (hc0:l0.length≤c0) (h:spec_l12Of.f k l0=some (r1,r2)) :
  Calls Try.prog 98 #[.slice A0 l0.length c0] w fun e w'=>∃v0_:Value,e=.returned (.tuple #[v0_,.bool r2])∧Kd.S k73 73 w' w.heap.size (fun _=>True) v0_ r1∧Below w.heap.size w w':=by
 have hu62:=Try.underlying62
 have HR0:=Aside0.mk hr0
 have HC0:=Aside0.mk hc0
 clear hr0 hc0
 have HB:=Aside0.mk (Below.refl w.heap.size w)
 have H:(spec_l12Of.l0 k l0 (([]:List (S73))) 0)=some (r1,r2):=h
 clear h
 obtain⟨y779,hy779⟩:∃y_:List (S73),y_=(([]:List (S73))):=⟨_,rfl⟩
 replace H:(spec_l12Of.l0 k l0 y779 0)=some (r1,r2):=by first|(rw[hy779];with_reducible exact H)|(have H2_:=(Option.bind_some _ _).symm.trans H;rw[hy779];with_reducible exact H2_)|(have H2_:=(Option.bind_some _ _).symm.trans H;with_reducible exact H2_)|with_reducible exact H|(rw[hy779];exact H)|exact H
 have Ny779:=Aside0.mk hy779
 clear hy779
 have H':=Aside0.mk H
 clear H
 go_enter Try.func98,Try.ntmps98
 go_wp2_with(first|((with_reducible refine qah (N:=6) rfl ?_);refine Kd.S_lit k73 _ 73 (by rfl) (N:=6) (by rfl) (xs:=([]:List (S73))) (inner:=[]) (ok:=fun _=>True) (okp:=fun _=>True) (by first|(go_simp;done)|(go_simp;rfl)) (Reps.none _ _) (fun _ hk=>hk) trivial (Below.refl _ _) (Nat.le_refl _) (by simp) ?_;intro v780 w2 ho3 hb hg_ hnew_;clear hg_ hnew_;(first|rw[←Ny779.out] at ho3|(simp only[Int.reduceToNat] at ho3;rw[←Ny779.out] at ho3));have HO781:=Aside0.mk (Kd.S_lower ho3 (below_size (za1 HB)));replace HB:=Aside0.mk (qab (za1 HB) hb);clear hb ho3))
 go_loopg [4,5] k (fun kq v4 v5 w'=>∃(x4_1:List (S73)) (x5_1:Int),v5=.int .i64 x5_1∧Aside0 (spec_l12Of.l0 kq l0 x4_1 x5_1=some (r1,r2))∧Aside0 (kq≤k)∧Aside0 (Kd.S k73 73 w' w.heap.size (fun _=>True) v4 x4_1)∧Aside0 (Below w.heap.size w w'))
 case atStart=>exact⟨(y779),(0),(za17),H',⟨Nat.le_refl _⟩,⟨za8 HO781⟩,⟨za1 HB⟩⟩
 case round=>
  clear H'
  try clear p2
  obtain⟨x4_1,x5_1,rfl,HA,HK1,HO_4,HB⟩:=hrel
  cases gk with
  |zero=>exact absurd HA.out (by simp[spec_l12Of.l0])
  |succ k1=>
   have H:=HA.out
   clear HA
   simp only[spec_l12Of.l0] at H
   by_cases c4:x5_1<(l0.length:Int)
   ·rw[if_pos c4] at H
    have c4b0:decide (x5_1<(l0.length:Int))=true:=decide_eq_true c4
    clear c4
    by_cases c5:0≤x5_1
    ·rw[if_pos c5] at H
     have c5b0:decide (0≤x5_1)=true:=decide_eq_true c5
     clear c5
     replace H:=Option.bind_eq_some_iff.mp H
     obtain⟨t783,A60,H⟩:=H
     replace H:(if t783=true then((spec_l12May.f k1 x4_1 ((rd_T62 l0 x5_1).f0) ((rd_T62 l0 x5_1).f1) ((rd_T62 l0 x5_1).f2)).bind fun t785=>(if t785=true then((spec_l12Do.f x4_1 ((rd_T62 l0 x5_1).f0) ((rd_T62 l0 x5_1).f1) ((rd_T62 l0 x5_1).f2)).bind fun t787=>(spec_l12Of.l0 k1 l0 t787 (wrap64 (x5_1+1)))) else(some ((([]:List (S73))),false)))) else(some ((([]:List (S73))),false)))=some (r1,r2):=H
     have A6:=Aside0.mk A60
     clear A60
     by_cases c7:t783=true
     ·subst c7
      have H1:((spec_l12May.f k1 x4_1 ((rd_T62 l0 x5_1).f0) ((rd_T62 l0 x5_1).f1) ((rd_T62 l0 x5_1).f2)).bind fun t785=>(if t785=true then((spec_l12Do.f x4_1 ((rd_T62 l0 x5_1).f0) ((rd_T62 l0 x5_1).f1) ((rd_T62 l0 x5_1).f2)).bind fun t787=>(spec_l12Of.l0 k1 l0 t787 (wrap64 (x5_1+1)))) else(some ((([]:List (S73))),false))))=some (r1,r2):=by rw[if_pos rfl] at H;exact H
      clear H
      have H:=H1
      clear H1
      replace H:=Option.bind_eq_some_iff.mp H
      obtain⟨t785,A80,H⟩:=H
      replace H:(if t785=true then((spec_l12Do.f x4_1 ((rd_T62 l0 x5_1).f0) ((rd_T62 l0 x5_1).f1) ((rd_T62 l0 x5_1).f2)).bind fun t787=>(spec_l12Of.l0 k1 l0 t787 (wrap64 (x5_1+1)))) else(some ((([]:List (S73))),false)))=some (r1,r2):=H
      have A8:=Aside0.mk A80
      clear A80
      by_cases c9:t785=true
      ·subst c9
       have H1:((spec_l12Do.f x4_1 ((rd_T62 l0 x5_1).f0) ((rd_T62 l0 x5_1).f1) ((rd_T62 l0 x5_1).f2)).bind fun t787=>(spec_l12Of.l0 k1 l0 t787 (wrap64 (x5_1+1))))=some (r1,r2):=by rw[if_pos rfl] at H;exact H
       clear H
       have H:=H1
       clear H1
       replace H:=Option.bind_eq_some_iff.mp H
       obtain⟨t787,A100,H⟩:=H
       replace H:(spec_l12Of.l0 k1 l0 t787 (wrap64 (x5_1+1)))=some (r1,r2):=H
       have A10:=Aside0.mk A100
       clear A100
       have H':=Aside0.mk H
       clear H
       have p782:0≤(x5_1:Int):=of_decide_eq_true (za5)
       have q782:x5_1<(l0.length:Int):=of_decide_eq_true (za5)
       obtain⟨ad782,A782_2,c782_2,e782,hx782_0,hx782_1,hx782_2,hl782_2,hi782_2⟩:=at_T62 HR0.out x5_1 p782 q782
       cases e782
       have hxo782_2:=Aside0.mk hx782_2
       replace hx782_0:=(HB.out.cell (World.block_lt_of_cell? w _ hx782_0)).trans hx782_0
       replace hx782_1:=(HB.out.cell (World.block_lt_of_cell? w _ hx782_1)).trans hx782_1
       replace hx782_2:=(HB.out.cell (World.block_lt_of_cell? w _ hx782_2)).trans hx782_2
       have HR782_2:=Aside0.mk hi782_2
       have HC782_2:=Aside0.mk hl782_2
       clear hi782_2 hl782_2
       replace p782:=eq_true p782
       replace q782:=eq_true q782
       go_wp2_with(first|((with_reducible refine qaf (f:=44) rfl ?_);refine zF (some 17) Try.func44 #[.agg #[.int .i64 ((rd_T62 l0 x5_1).f0),.int .i64 ((rd_T62 l0 x5_1).f1),.slice A782_2 ((rd_T62 l0 x5_1).f2).length c782_2]] ?_;(with_reducible refine(spec_RecOk.calls k1 ((rd_T62 l0 x5_1).f0) ((rd_T62 l0 x5_1).f1) _ _ ((rd_T62 l0 x5_1).f2) true _ ?side1 ?side2 A6.out).mono ?_);(case side1=>exact zR HR782_2 HB);(case side2=>exact HC782_2.out);rintro e w11 ⟨rfl,hb⟩;refine⟨_,rfl,?_⟩;replace HO_4:=Aside0.mk (Kd.S_below (za8 HO_4) hb);replace HB:=Aside0.mk (qab (za1 HB) hb);(try clear hb);have p784:0≤(x5_1:Int):=of_decide_eq_true (za5);have q784:x5_1<(l0.length:Int):=of_decide_eq_true (za5);obtain⟨ad784,A784_2,c784_2,e784,hx784_0,hx784_1,hx784_2,hl784_2,hi784_2⟩:=at_T62 HR0.out x5_1 p784 q784;obtain rfl:ad782=ad784:=(by injection e784);have ea_:=Option.some.inj (hxo782_2.out.symm.trans hx784_2);injection ea_ with ea_ en_ ec_;subst ea_;subst ec_;clear en_;replace hx784_0:=(HB.out.cell (World.block_lt_of_cell? w _ hx784_0)).trans hx784_0;replace hx784_1:=(HB.out.cell (World.block_lt_of_cell? w _ hx784_1)).trans hx784_1;replace hx784_2:=(HB.out.cell (World.block_lt_of_cell? w _ hx784_2)).trans hx784_2;have HR784_2:=Aside0.mk hi784_2;have HC784_2:=Aside0.mk hl784_2;clear hi784_2 hl784_2;replace p784:=eq_true p784;replace q784:=eq_true q784;obtain⟨Ao12,co12,eo12⟩:=Kd.S_slice HO_4.out;subst eo12)|(go_at_call 93;(with_reducible refine(spec_l12May.calls k1 _ _ x4_1 ((rd_T62 l0 x5_1).f0) ((rd_T62 l0 x5_1).f1) _ _ ((rd_T62 l0 x5_1).f2) true _ ?side1 ?side2 ?side3 ?side4 A8.out).mono ?_);(case side1=>repeat(first|exact(Kd.S_reads' HO_4.out).2.2|(with_reducible refine Kd.C_alloc ?_ _)|(with_reducible refine Kd.C_drewN ?_ _)|(with_reducible refine Kd.C_drew ?_)));(case side2=>exact(Kd.S_reads' HO_4.out).2.1);(case side3=>exact zR HR784_2 HB);(case side4=>exact HC784_2.out);rintro e w13 ⟨rfl,hb⟩;replace HO_4:=Aside0.mk (Kd.S_below (za8 HO_4) hb);replace HB:=Aside0.mk (qab (za1 HB) hb);(try clear hb);have p786:0≤(x5_1:Int):=of_decide_eq_true (za5);have q786:x5_1<(l0.length:Int):=of_decide_eq_true (za5);obtain⟨ad786,A786_2,c786_2,e786,hx786_0,hx786_1,hx786_2,hl786_2,hi786_2⟩:=at_T62 HR0.out x5_1 p786 q786;obtain rfl:ad782=ad786:=(by injection e786);have ea_:=Option.some.inj (hxo782_2.out.symm.trans hx786_2);injection ea_ with ea_ en_ ec_;subst ea_;subst ec_;clear en_;replace hx786_0:=(HB.out.cell (World.block_lt_of_cell? w _ hx786_0)).trans hx786_0;replace hx786_1:=(HB.out.cell (World.block_lt_of_cell? w _ hx786_1)).trans hx786_1;replace hx786_2:=(HB.out.cell (World.block_lt_of_cell? w _ hx786_2)).trans hx786_2;have HR786_2:=Aside0.mk hi786_2;have HC786_2:=Aside0.mk hl786_2;clear hi786_2 hl786_2;replace p786:=eq_true p786;replace q786:=eq_true q786)|((with_reducible refine qaf (f:=120) rfl ?_);refine zF (some 34) Try.func120 #[.slice Ao12 x4_1.length co12,.agg #[.int .i64 ((rd_T62 l0 x5_1).f0),.int .i64 ((rd_T62 l0 x5_1).f1),.slice A782_2 ((rd_T62 l0 x5_1).f2).length c782_2]] ?_;(with_reducible refine(spec_l12Do.calls ?pw (.slice Ao12 x4_1.length co12) x4_1 ((rd_T62 l0 x5_1).f0) ((rd_T62 l0 x5_1).f1) _ _ ((rd_T62 l0 x5_1).f2) t787 w _ ?side1 ?side2 ?side3 ?side4 A10.out).mono ?_);(case side1=>exact(za1 HB));(case side2=>exact Kd.S_wide HO_4.out);(case side3=>exact Kd.C_kept_came (Kd.heap_int .i64) HR786_2.out (za1 HB) (fun k_ hs_=>(fun e_=>e_.1) hs_));(case side4=>exact HC786_2.out);rintro e w14 ⟨v788,rfl,ho0,hb,hkp⟩;refine⟨_,rfl,?_⟩;have HO789:=Aside0.mk (Kd.S_mono (ok':=fun k_=>True) ho0 (fun k_ hk_=>trivial));replace HB:=Aside0.mk hb;clear HO_4;(try clear hb);(try clear hkp);(try clear ho0)))
       go_roundg k1
       case measure=>have:=HK1.out;omega
       case rel=>exact⟨(t787),(wrap64 (x5_1+1)),(za17),H',⟨by have:=HK1.out;omega⟩,⟨za8 HO789⟩,⟨za1 HB⟩⟩
      ·replace c9:=Bool.eq_false_iff.mpr c9
       subst c9
       have H1:(some ((([]:List (S73))),false))=some (r1,r2):=by rw[if_neg (show ¬(false=true) by decide)] at H;exact H
       clear H
       have H:=H1
       clear H1
       obtain⟨y790,hy790⟩:∃y_:List (S73),y_=(([]:List (S73))):=⟨_,rfl⟩
       replace H:(some (y790,false))=some (r1,r2):=by first|(rw[hy790];with_reducible exact H)|(have H2_:=(Option.bind_some _ _).symm.trans H;rw[hy790];with_reducible exact H2_)|(have H2_:=(Option.bind_some _ _).symm.trans H;with_reducible exact H2_)|with_reducible exact H|(rw[hy790];exact H)|exact H
       have Ny790:=Aside0.mk hy790
       clear hy790
       simp only[Option.some.injEq,Prod.mk.injEq] at H
       obtain⟨rfl,rfl⟩:=H
       have p782:0≤(x5_1:Int):=of_decide_eq_true (za5)
       have q782:x5_1<(l0.length:Int):=of_decide_eq_true (za5)
       obtain⟨ad782,A782_2,c782_2,e782,hx782_0,hx782_1,hx782_2,hl782_2,hi782_2⟩:=at_T62 HR0.out x5_1 p782 q782
       cases e782
       have hxo782_2:=Aside0.mk hx782_2
       replace hx782_0:=(HB.out.cell (World.block_lt_of_cell? w _ hx782_0)).trans hx782_0
       replace hx782_1:=(HB.out.cell (World.block_lt_of_cell? w _ hx782_1)).trans hx782_1
       replace hx782_2:=(HB.out.cell (World.block_lt_of_cell? w _ hx782_2)).trans hx782_2
       have HR782_2:=Aside0.mk hi782_2
       have HC782_2:=Aside0.mk hl782_2
       clear hi782_2 hl782_2
       replace p782:=eq_true p782
       replace q782:=eq_true q782
       go_wp2_with(first|((with_reducible refine qaf (f:=44) rfl ?_);refine zF (some 17) Try.func44 #[.agg #[.int .i64 ((rd_T62 l0 x5_1).f0),.int .i64 ((rd_T62 l0 x5_1).f1),.slice A782_2 ((rd_T62 l0 x5_1).f2).length c782_2]] ?_;(with_reducible refine(spec_RecOk.calls k1 ((rd_T62 l0 x5_1).f0) ((rd_T62 l0 x5_1).f1) _ _ ((rd_T62 l0 x5_1).f2) true _ ?side1 ?side2 A6.out).mono ?_);(case side1=>exact zR HR782_2 HB);(case side2=>exact HC782_2.out);rintro e w15 ⟨rfl,hb⟩;refine⟨_,rfl,?_⟩;replace HO_4:=Aside0.mk (Kd.S_below (za8 HO_4) hb);replace HB:=Aside0.mk (qab (za1 HB) hb);(try clear hb);have p784:0≤(x5_1:Int):=of_decide_eq_true (za5);have q784:x5_1<(l0.length:Int):=of_decide_eq_true (za5);obtain⟨ad784,A784_2,c784_2,e784,hx784_0,hx784_1,hx784_2,hl784_2,hi784_2⟩:=at_T62 HR0.out x5_1 p784 q784;obtain rfl:ad782=ad784:=(by injection e784);have ea_:=Option.some.inj (hxo782_2.out.symm.trans hx784_2);injection ea_ with ea_ en_ ec_;subst ea_;subst ec_;clear en_;replace hx784_0:=(HB.out.cell (World.block_lt_of_cell? w _ hx784_0)).trans hx784_0;replace hx784_1:=(HB.out.cell (World.block_lt_of_cell? w _ hx784_1)).trans hx784_1;replace hx784_2:=(HB.out.cell (World.block_lt_of_cell? w _ hx784_2)).trans hx784_2;have HR784_2:=Aside0.mk hi784_2;have HC784_2:=Aside0.mk hl784_2;clear hi784_2 hl784_2;replace p784:=eq_true p784;replace q784:=eq_true q784;obtain⟨Ao16,co16,eo16⟩:=Kd.S_slice HO_4.out;subst eo16)|(go_at_call 93;(with_reducible refine(spec_l12May.calls k1 _ _ x4_1 ((rd_T62 l0 x5_1).f0) ((rd_T62 l0 x5_1).f1) _ _ ((rd_T62 l0 x5_1).f2) false _ ?side1 ?side2 ?side3 ?side4 A8.out).mono ?_);(case side1=>repeat(first|exact(Kd.S_reads' HO_4.out).2.2|(with_reducible refine Kd.C_alloc ?_ _)|(with_reducible refine Kd.C_drewN ?_ _)|(with_reducible refine Kd.C_drew ?_)));(case side2=>exact(Kd.S_reads' HO_4.out).2.1);(case side3=>exact zR HR784_2 HB);(case side4=>exact HC784_2.out);rintro e w17 ⟨rfl,hb⟩;replace HO_4:=Aside0.mk (Kd.S_below (za8 HO_4) hb);replace HB:=Aside0.mk (qab (za1 HB) hb);(try clear hb))|((with_reducible refine qah (N:=28) rfl ?_);refine Kd.S_lit k73 _ 73 (by rfl) (N:=28) (by rfl) (xs:=([]:List (S73))) (inner:=[]) (ok:=fun _=>True) (okp:=fun _=>True) (by first|(go_simp;done)|(go_simp;rfl)) (Reps.none _ _) (fun _ hk=>hk) trivial (Below.refl _ _) (Nat.le_refl _) (by simp) ?_;intro v791 w18 ho19 hb hg_ hnew_;clear hg_ hnew_;(first|rw[←Ny790.out] at ho19|(simp only[Int.reduceToNat] at ho19;rw[←Ny790.out] at ho19));have HO792:=Aside0.mk (Kd.S_lower (Kd.S_new' ho19 (Kd.S_lt (za8 HO_4))) (below_size (za1 HB)));replace HO_4:=Aside0.mk (Kd.S_elder' (za8 HO_4) (Kd.S_base ho19) hb);replace HB:=Aside0.mk (qab (za1 HB) hb);clear hb ho19))
       go_ret2
       exact⟨_,za9,by(with_reducible repeat(first|apply Kd.S_alloc|apply Kd.S_drewN|apply Kd.S_drew));exact Kd.S_mono HO792.out (fun _ hk=>trivial),za1 HB⟩
     ·replace c7:=Bool.eq_false_iff.mpr c7
      subst c7
      have H1:(some ((([]:List (S73))),false))=some (r1,r2):=by rw[if_neg (show ¬(false=true) by decide)] at H;exact H
      clear H
      have H:=H1
      clear H1
      obtain⟨y793,hy793⟩:∃y_:List (S73),y_=(([]:List (S73))):=⟨_,rfl⟩
      replace H:(some (y793,false))=some (r1,r2):=by first|(rw[hy793];with_reducible exact H)|(have H2_:=(Option.bind_some _ _).symm.trans H;rw[hy793];with_reducible exact H2_)|(have H2_:=(Option.bind_some _ _).symm.trans H;with_reducible exact H2_)|with_reducible exact H|(rw[hy793];exact H)|exact H
      have Ny793:=Aside0.mk hy793
      clear hy793
      simp only[Option.some.injEq,Prod.mk.injEq] at H
      obtain⟨rfl,rfl⟩:=H
      have p782:0≤(x5_1:Int):=of_decide_eq_true (za5)
      have q782:x5_1<(l0.length:Int):=of_decide_eq_true (za5)
      obtain⟨ad782,A782_2,c782_2,e782,hx782_0,hx782_1,hx782_2,hl782_2,hi782_2⟩:=at_T62 HR0.out x5_1 p782 q782
      cases e782
      have hxo782_2:=Aside0.mk hx782_2
      replace hx782_0:=(HB.out.cell (World.block_lt_of_cell? w _ hx782_0)).trans hx782_0
      replace hx782_1:=(HB.out.cell (World.block_lt_of_cell? w _ hx782_1)).trans hx782_1
      replace hx782_2:=(HB.out.cell (World.block_lt_of_cell? w _ hx782_2)).trans hx782_2
      have HR782_2:=Aside0.mk hi782_2
      have HC782_2:=Aside0.mk hl782_2
      clear hi782_2 hl782_2
      replace p782:=eq_true p782
      replace q782:=eq_true q782
      go_wp2_with(first|((with_reducible refine qaf (f:=44) rfl ?_);refine zF (some 17) Try.func44 #[.agg #[.int .i64 ((rd_T62 l0 x5_1).f0),.int .i64 ((rd_T62 l0 x5_1).f1),.slice A782_2 ((rd_T62 l0 x5_1).f2).length c782_2]] ?_;(with_reducible refine(spec_RecOk.calls k1 ((rd_T62 l0 x5_1).f0) ((rd_T62 l0 x5_1).f1) _ _ ((rd_T62 l0 x5_1).f2) false _ ?side1 ?side2 A6.out).mono ?_);(case side1=>exact zR HR782_2 HB);(case side2=>exact HC782_2.out);rintro e w20 ⟨rfl,hb⟩;refine⟨_,rfl,?_⟩;replace HO_4:=Aside0.mk (Kd.S_below (za8 HO_4) hb);replace HB:=Aside0.mk (qab (za1 HB) hb);(try clear hb))|((with_reducible refine qah (N:=28) rfl ?_);refine Kd.S_lit k73 _ 73 (by rfl) (N:=28) (by rfl) (xs:=([]:List (S73))) (inner:=[]) (ok:=fun _=>True) (okp:=fun _=>True) (by first|(go_simp;done)|(go_simp;rfl)) (Reps.none _ _) (fun _ hk=>hk) trivial (Below.refl _ _) (Nat.le_refl _) (by simp) ?_;intro v794 w21 ho22 hb hg_ hnew_;clear hg_ hnew_;(first|rw[←Ny793.out] at ho22|(simp only[Int.reduceToNat] at ho22;rw[←Ny793.out] at ho22));have HO795:=Aside0.mk (Kd.S_lower (Kd.S_new' ho22 (Kd.S_lt (za8 HO_4))) (below_size (za1 HB)));replace HO_4:=Aside0.mk (Kd.S_elder' (za8 HO_4) (Kd.S_base ho22) hb);replace HB:=Aside0.mk (qab (za1 HB) hb);clear hb ho22))
      go_ret2
      exact⟨_,za9,by(with_reducible repeat(first|apply Kd.S_alloc|apply Kd.S_drewN|apply Kd.S_drew));exact Kd.S_mono HO795.out (fun _ hk=>trivial),za1 HB⟩
    ·rw[if_neg c5] at H
     exact absurd H (by simp)
   ·rw[if_neg c4] at H
    have c4b0:decide (x5_1<(l0.length:Int))=false:=decide_eq_false c4
    clear c4
    simp only[Option.some.injEq,Prod.mk.injEq] at H
    obtain⟨rfl,rfl⟩:=H
    go_wp2
    go_ret2
    exact⟨_,za9,za8 HO_4,za1 HB⟩
def spec_TripsOf.f (k:Nat) (l0:List (S62)):Option ((List (S73)) × Bool):=(spec_l12Of.f k l0).bind fun bt796=>(some (bt796.1,bt796.2))
theorem spec_TripsOf.mono:∀a0 k,LeO (spec_TripsOf.f k a0) (spec_TripsOf.f (k+1) a0):=by
 intro a0 k
 unfold spec_TripsOf.f
 repeat' first
   |(with_reducible exact spec_l12Of.mono _ _)
   |(with_reducible exact LeO.refl _)
   |(with_reducible exact LeO.none _)
   |(with_reducible refine LeO.ite ?_ ?_)
   |(with_reducible refine LeO.bind ?_ (fun _=>?_))
   |exact spec_l12Of.mono _ _
   |exact LeO.none _
   |refine LeO.ite ?_ ?_
   |refine LeO.bind ?_ (fun _=>?_)
set_option maxHeartbeats 8000000 in
set_option maxRecDepth 100000 in
theorem spec_TripsOf.calls (k:Nat) (A0:Option Addr) (c0:Nat) (l0:List (S62)) (r1:List (S73)) (r2:Bool) (w:World) (hr0:Kd.C k62 w A0 l0.length l0) (hc0:l0.length≤c0) (h:spec_TripsOf.f k l0=some (r1,r2)) :
  Calls Try.prog 55 #[.slice A0 l0.length c0] w fun e w'=>∃v0_:Value,e=.returned (.tuple #[v0_,.bool r2])∧Kd.S k73 73 w' w.heap.size (fun _=>True) v0_ r1∧Below w.heap.size w w':=by
 have HR0:=Aside0.mk hr0
 have HC0:=Aside0.mk hc0
 clear hr0 hc0
 have HB:=Aside0.mk (Below.refl w.heap.size w)
 have H:((spec_l12Of.f k l0).bind fun bt796=>(some (bt796.1,bt796.2)))=some (r1,r2):=h
 clear h
 replace H:=Option.bind_eq_some_iff.mp H
 obtain⟨⟨t796,t797⟩,A20,H⟩:=H
 replace H:(some (t796,t797))=some (r1,r2):=H
 have A2:=Aside0.mk A20
 clear A20
 simp only[Option.some.injEq,Prod.mk.injEq] at H
 obtain⟨rfl,rfl⟩:=H
 go_enter Try.func55,Try.ntmps55
 go_wp2_with(first|((with_reducible refine qaf (f:=98) rfl ?_);refine zF (some 5) Try.func98 #[.slice A0 l0.length c0] ?_;(with_reducible refine(spec_l12Of.calls k _ _ l0 t796 t797 _ ?side1 ?side2 A2.out).mono ?_);(case side1=>repeat(first|exact HR0.out|(with_reducible refine Kd.C_alloc ?_ _)|(with_reducible refine Kd.C_drewN ?_ _)|(with_reducible refine Kd.C_drew ?_)));(case side2=>exact HC0.out);rintro e w3 ⟨v798,rfl,ho0,hb⟩;refine⟨_,rfl,?_⟩;have HO799:=Aside0.mk (Kd.S_lower ho0 (below_size (za1 HB)));replace HB:=Aside0.mk (qab (za1 HB) hb);(try clear hb);(try clear ho0)))
 go_ret2
 exact⟨_,za9,za8 HO799,za1 HB⟩
def spec_l12Copy.l0:Nat→List (S73)→List (S73)→Int→Option ((List (S73)))
 |0,_,_,_=>none
 |k+1,x0,x3,x4=>if x4<(x0.length:Int) then((some (([]:List Int):List Int)).bind fun y811=>(if 0≤x4 then(if y811.length+((rd_T73 x0 x4).f0).length<17592186044416 then(if x3.length<4398046511104 then(spec_l12Copy.l0 k x0 (x3++[(⟨(y811++((rd_T73 x0 x4).f0)),(rd_T73 x0 x4).f1⟩:S73)]) (wrap64 (x4+1))) else(none)) else(none)) else(none))) else(some x3)
def spec_l12Copy.f (k:Nat) (l0:List (S73)):Option ((List (S73))):=spec_l12Copy.l0 k l0 (([]:List (S73))) 0
theorem spec_l12Copy.mono_l:∀k,(∀y0 y1 y2,LeO (spec_l12Copy.l0 k y0 y1 y2) (spec_l12Copy.l0 (k+1) y0 y1 y2))
 |0=>fun _ _ _ r h=>by simp[spec_l12Copy.l0] at h
 |k+1=>by
  have ih0:=spec_l12Copy.mono_l k
  ·intro y0 y1 y2
   unfold spec_l12Copy.l0
   repeat' first
   |(with_reducible exact ih0 _ _ _)
   |(with_reducible exact LeO.refl _)
   |(with_reducible exact LeO.none _)
   |(with_reducible refine LeO.ite ?_ ?_)
   |(with_reducible refine LeO.bind ?_ (fun _=>?_))
   |exact ih0 _ _ _
   |exact LeO.none _
   |refine LeO.ite ?_ ?_
   |refine LeO.bind ?_ (fun _=>?_)
theorem spec_l12Copy.mono:∀a0 k,LeO (spec_l12Copy.f k a0) (spec_l12Copy.f (k+1) a0):=by
 intro a0 k
 have ih0:=spec_l12Copy.mono_l k
 unfold spec_l12Copy.f
 repeat' first
   |(with_reducible exact ih0 _ _ _)
   |(with_reducible exact LeO.refl _)
   |(with_reducible exact LeO.none _)
   |(with_reducible refine LeO.ite ?_ ?_)
   |(with_reducible refine LeO.bind ?_ (fun _=>?_))
   |exact ih0 _ _ _
   |exact LeO.none _
   |refine LeO.ite ?_ ?_
   |refine LeO.bind ?_ (fun _=>?_)
def spec_l12Copy.T5:Bool × List (List Nat × List Nat):=(true,[([],[]),([],[]),([],[]),([],[]),([2,3],[2,3]),([4],[4]),([5],[5]),([1,6],[1,6]),([],[]),([],[]),([8,9],[8,9]),([10],[10]),([11],[11]),([7,12],[7,12]),([13],[13]),([0,14,7],[0,14]),([15,15,0,1,2,3,4,5,6,7,8,9,10,11,12,13,14,15],[0,15])])
def spec_l12Copy.B5:List Nat:=[0,0,0,0,12,28,60,126,0,0,768,1792,3840,8190,16382,32767,65535]
theorem spec_l12Copy.tab5:rtab .any (opsOf Try.f129 5)=spec_l12Copy.T5:=by kernel_rfl
theorem spec_l12Copy.bits5:waitsOk spec_l12Copy.T5.2 spec_l12Copy.B5=true:=by kernel_rfl
set_option maxHeartbeats 8000000 in
set_option maxRecDepth 100000 in
theorem spec_l12Copy.calls (k:Nat) (A0:Option Addr) (c0:Nat) (l0:List (S73)) (r:List (S73)) (w:World) (hr0:Kd.C k73 w A0 l0.length l0) (hc0:l0.length≤c0) (h:spec_l12Copy.f k l0=some r) :
  Calls Try.prog 129 #[.slice A0 l0.length c0] w fun e w'=>∃v0_:Value,e=.returned (v0_)∧Kd.S k73 73 w' w.heap.size (fun _=>True) v0_ r∧Below w.heap.size w w':=by
 have hu73:=Try.underlying73
 have HR0:=Aside0.mk hr0
 have HC0:=Aside0.mk hc0
 clear hr0 hc0
 have HB:=Aside0.mk (Below.refl w.heap.size w)
 have H:(spec_l12Copy.l0 k l0 (([]:List (S73))) 0)=some r:=h
 clear h
 obtain⟨y808,hy808⟩:∃y_:List (S73),y_=(([]:List (S73))):=⟨_,rfl⟩
 replace H:(spec_l12Copy.l0 k l0 y808 0)=some r:=by first|(rw[hy808];with_reducible exact H)|(have H2_:=(Option.bind_some _ _).symm.trans H;rw[hy808];with_reducible exact H2_)|(have H2_:=(Option.bind_some _ _).symm.trans H;with_reducible exact H2_)|with_reducible exact H|(rw[hy808];exact H)|exact H
 have Ny808:=Aside0.mk hy808
 clear hy808
 have H':=Aside0.mk H
 clear H
 go_enter Try.func129,Try.ntmps129
 go_wp2_with(first|((with_reducible refine qah (N:=5) rfl ?_);refine Kd.S_lit k73 _ 73 (by rfl) (N:=5) (by rfl) (xs:=([]:List (S73))) (inner:=[]) (ok:=fun _=>True) (okp:=fun _=>True) (by first|(go_simp;done)|(go_simp;rfl)) (Reps.none _ _) (fun _ hk=>hk) trivial (Below.refl _ _) (Nat.le_refl _) (by simp) ?_;intro v809 w2 ho3 hb hg_ hnew_;clear hg_ hnew_;(first|rw[←Ny808.out] at ho3|(simp only[Int.reduceToNat] at ho3;rw[←Ny808.out] at ho3));have HO810:=Aside0.mk (Kd.S_lower ho3 (below_size (za1 HB)));replace HB:=Aside0.mk (qab (za1 HB) hb);clear hb ho3))
 go_loopg [3,4] k (fun kq v3 v4 w'=>∃(x3_1:List (S73)) (x4_1:Int),v4=.int .i64 x4_1∧Aside0 (spec_l12Copy.l0 kq l0 x3_1 x4_1=some r)∧Aside0 (kq≤k)∧Aside0 (Kd.S k73 73 w' w.heap.size (fun _=>True) v3 x3_1)∧Aside0 (Below w.heap.size w w'))
 case atStart=>exact⟨(y808),(0),(za17),H',⟨Nat.le_refl _⟩,⟨za8 HO810⟩,⟨za1 HB⟩⟩
 case round=>
  clear H'
  try clear c1
  try clear p2
  obtain⟨x3_1,x4_1,rfl,HA,HK1,HO_3,HB⟩:=hrel
  cases gk with
  |zero=>exact absurd HA.out (by simp[spec_l12Copy.l0])
  |succ k1=>
   have H:=HA.out
   clear HA
   simp only[spec_l12Copy.l0] at H
   by_cases c4:x4_1<(l0.length:Int)
   ·rw[if_pos c4] at H
    have c4b0:decide (x4_1<(l0.length:Int))=true:=decide_eq_true c4
    clear c4
    obtain⟨y811,hy811⟩:∃y_:List Int,y_=(([]:List Int)):=⟨_,rfl⟩
    replace H:(if 0≤x4_1 then(if y811.length+((rd_T73 l0 x4_1).f0).length<17592186044416 then(if x3_1.length<4398046511104 then(spec_l12Copy.l0 k1 l0 (x3_1++[(⟨(y811++((rd_T73 l0 x4_1).f0)),(rd_T73 l0 x4_1).f1⟩:S73)]) (wrap64 (x4_1+1))) else(none)) else(none)) else(none))=some r:=by first|(rw[hy811];with_reducible exact H)|(have H2_:=(Option.bind_some _ _).symm.trans H;rw[hy811];with_reducible exact H2_)|(have H2_:=(Option.bind_some _ _).symm.trans H;with_reducible exact H2_)|with_reducible exact H|(rw[hy811];exact H)|exact H
    have Ny811:=Aside0.mk hy811
    clear hy811
    by_cases c5:0≤x4_1
    ·rw[if_pos c5] at H
     have c5b0:decide (0≤x4_1)=true:=decide_eq_true c5
     clear c5
     by_cases c6:y811.length+((rd_T73 l0 x4_1).f0).length<17592186044416
     ·rw[if_pos c6] at H
      have LMc6:=Aside0.mk c6
      clear c6
      obtain⟨y815,hy815⟩:∃y_:List Int,y_=(y811++((rd_T73 l0 x4_1).f0)):=⟨_,rfl⟩
      replace H:(if x3_1.length<4398046511104 then(spec_l12Copy.l0 k1 l0 (x3_1++[(⟨y815,(rd_T73 l0 x4_1).f1⟩:S73)]) (wrap64 (x4_1+1))) else(none))=some r:=by first|(rw[hy815];with_reducible exact H)|(have H2_:=(Option.bind_some _ _).symm.trans H;rw[hy815];with_reducible exact H2_)|(have H2_:=(Option.bind_some _ _).symm.trans H;with_reducible exact H2_)|with_reducible exact H|(rw[hy815];exact H)|exact H
      have Ny815:=Aside0.mk hy815
      clear hy815
      by_cases c7:x3_1.length<4398046511104
      ·rw[if_pos c7] at H
       have LMc7:=Aside0.mk c7
       clear c7
       obtain⟨y819,hy819⟩:∃y_:List (S73),y_=(x3_1++[(⟨y815,(rd_T73 l0 x4_1).f1⟩:S73)]):=⟨_,rfl⟩
       replace H:(spec_l12Copy.l0 k1 l0 y819 (wrap64 (x4_1+1)))=some r:=by first|(rw[hy819];with_reducible exact H)|(have H2_:=(Option.bind_some _ _).symm.trans H;rw[hy819];with_reducible exact H2_)|(have H2_:=(Option.bind_some _ _).symm.trans H;with_reducible exact H2_)|with_reducible exact H|(rw[hy819];exact H)|exact H
       have Ny819:=Aside0.mk hy819
       clear hy819
       have H':=Aside0.mk H
       clear H
       try go_wp2
       replace HO_3:=Aside0.mk (Kd.S_drew HO_3.out)
       replace HB:=Aside0.mk (qae HB.out)
       have p814:0≤(x4_1:Int):=of_decide_eq_true (za5)
       have q814:x4_1<(l0.length:Int):=of_decide_eq_true (za5)
       obtain⟨ad814,A814_0,c814_0,e814,hx814_0,hx814_1,hl814_0,hi814_0⟩:=at_T73 HR0.out x4_1 p814 q814
       have hw814_1:=hx814_1
       have hw814_0:=hx814_0
       cases e814
       have hxo814_0:=Aside0.mk hx814_0
       replace hx814_0:=(HB.out.cell (World.block_lt_of_cell? w _ hx814_0)).trans hx814_0
       replace hx814_1:=(HB.out.cell (World.block_lt_of_cell? w _ hx814_1)).trans hx814_1
       have HR814_0:=Aside0.mk hi814_0
       have HC814_0:=Aside0.mk hl814_0
       clear hi814_0 hl814_0
       replace p814:=eq_true p814
       replace q814:=eq_true q814
       have p818:0≤(x4_1:Int):=of_decide_eq_true (za5)
       have q818:x4_1<(l0.length:Int):=of_decide_eq_true (za5)
       obtain⟨ad818,A818_0,c818_0,e818,hx818_0,hx818_1,hl818_0,hi818_0⟩:=at_T73 HR0.out x4_1 p818 q818
       have hw818_1:=hx818_1
       have hw818_0:=hx818_0
       obtain rfl:ad814=ad818:=(by injection e818)
       have ea_:=Option.some.inj (hxo814_0.out.symm.trans hx818_0)
       injection ea_ with ea_ en_ ec_
       subst ea_
       subst ec_
       clear en_
       replace hx818_0:=(HB.out.cell (World.block_lt_of_cell? w _ hx818_0)).trans hx818_0
       replace hx818_1:=(HB.out.cell (World.block_lt_of_cell? w _ hx818_1)).trans hx818_1
       have HR818_0:=Aside0.mk hi818_0
       have HC818_0:=Aside0.mk hl818_0
       clear hi818_0 hl818_0
       replace p818:=eq_true p818
       replace q818:=eq_true q818
       refine start_ (n:=17) (S:=fun w'=>w'.cell? (ad814.add ((x4_1).toNat*2))=some (.slice A814_0 ((rd_T73 l0 x4_1).f0).length c814_0)∧w'.cell? ⟨(ad814.add ((x4_1).toNat*2)).block,(ad814.add ((x4_1).toNat*2)).off+1,none⟩=some (.int .i64 ((rd_T73 l0 x4_1).f1))∧w'.cell? (ad814.add ((x4_1).toNat*2))=some (.slice A814_0 ((rd_T73 l0 x4_1).f0).length c814_0)∧w'.cell? ⟨(ad814.add ((x4_1).toNat*2)).block,(ad814.add ((x4_1).toNat*2)).off+1,none⟩=some (.int .i64 ((rd_T73 l0 x4_1).f1))) (ds:=[]) #[false,false,false,false,false,false,false,false,false,false,false,false,false,false,false,false,false] (by kernel_rfl) rfl rfl ⟨((HB.out.cell (World.block_lt_of_cell? w _ hw814_0)).trans hw814_0),((HB.out.cell (World.block_lt_of_cell? w _ hw814_1)).trans hw814_1),((HB.out.cell (World.block_lt_of_cell? w _ hw818_0)).trans hw818_0),((HB.out.cell (World.block_lt_of_cell? w _ hw818_1)).trans hw818_1)⟩ (fun hHeld=>?_);refine with_tabW spec_l12Copy.tab5 spec_l12Copy.bits5 (fun HT_ HW_=>?_)
       generalize wr.drew=w8 at HO_3 HB HR814_0 HR818_0 hx814_0 hx814_1 hx818_0 hx818_1 hHeld ⊢
       refine qar (i:=0) (N:=some 12) (v:=?_) (a':=?_) #[true,false,false,false,false,false,false,false,false,false,false,false,false,false,false,false,false] rfl rfl (qan HT_.out (by kernel_rfl)) (fun _ _ _ h=>h) (Or.inl ⟨by rfl,?_⟩) ?_ ?_
       rotate_left
       ·intro w'
        go_simp
        with_reducible rfl
       rotate_left
       ·simp only[Act.put,List.setIfInBounds_toArray,List.set_cons_zero,List.set_cons_succ,qaj,qak]
        rfl
       refine qar (i:=2) (N:=some 14) (v:=?_) (a':=?_) #[true,false,true,false,false,false,false,false,false,false,false,false,false,false,false,false,false] rfl rfl (qan HT_.out (by kernel_rfl)) (fun _ _ _ h=>h) (Or.inl ⟨by rfl,?_⟩) ?_ ?_
       rotate_left
       ·intro w'
        go_simp
        with_reducible rfl
       rotate_left
       ·simp only[Act.put,List.setIfInBounds_toArray,List.set_cons_zero,List.set_cons_succ,qaj,qak]
        rfl
       refine qar (i:=3) (N:=some 15) (v:=?_) (a':=?_) #[true,false,true,true,false,false,false,false,false,false,false,false,false,false,false,false,false] rfl rfl (qan HT_.out (by kernel_rfl)) (fun _ _ _ h=>h) (Or.inl ⟨by rfl,?_⟩) ?_ ?_
       rotate_left
       ·intro w'
        go_simp
        with_reducible rfl
       rotate_left
       ·simp only[Act.put,List.setIfInBounds_toArray,List.set_cons_zero,List.set_cons_succ,qaj,qak]
        rfl
       refine qar (i:=4) (N:=some 16) (v:=?_) (a':=?_) #[true,false,true,true,true,false,false,false,false,false,false,false,false,false,false,false,false] rfl rfl (qan HT_.out (by kernel_rfl)) (fun _ _ _ h=>h) (Or.inl ⟨by rfl,?_⟩) ?_ ?_
       rotate_left
       ·intro w'
        go_simp
        with_reducible rfl
       rotate_left
       ·simp only[Act.put,List.setIfInBounds_toArray,List.set_cons_zero,List.set_cons_succ,qaj,qak]
        rfl
       refine qar (i:=5) (N:=some 17) (v:=?_) (a':=?_) #[true,false,true,true,true,true,false,false,false,false,false,false,false,false,false,false,false] rfl rfl (qan HT_.out (by kernel_rfl)) (fun _ _ _ h=>h) (Or.inl ⟨by rfl,?_⟩) ?_ ?_
       rotate_left
       ·intro w'
        go_simp
        with_reducible rfl
       rotate_left
       ·simp only[Act.put,List.setIfInBounds_toArray,List.set_cons_zero,List.set_cons_succ,qaj,qak]
        rfl
       refine qar (i:=8) (N:=some 20) (v:=?_) (a':=?_) #[true,false,true,true,true,true,false,false,true,false,false,false,false,false,false,false,false] rfl rfl (qan HT_.out (by kernel_rfl)) (fun _ _ _ h=>h) (Or.inl ⟨by rfl,?_⟩) ?_ ?_
       rotate_left
       ·intro w'
        go_simp
        with_reducible rfl
       rotate_left
       ·simp only[Act.put,List.setIfInBounds_toArray,List.set_cons_zero,List.set_cons_succ,qaj,qak]
        rfl
       refine qar (i:=9) (N:=some 21) (v:=?_) (a':=?_) #[true,false,true,true,true,true,false,false,true,true,false,false,false,false,false,false,false] rfl rfl (qan HT_.out (by kernel_rfl)) (fun _ _ _ h=>h) (Or.inl ⟨by rfl,?_⟩) ?_ ?_
       rotate_left
       ·intro w'
        go_simp
        with_reducible rfl
       rotate_left
       ·simp only[Act.put,List.setIfInBounds_toArray,List.set_cons_zero,List.set_cons_succ,qaj,qak]
        rfl
       refine qar (i:=10) (N:=some 22) (v:=?_) (a':=?_) #[true,false,true,true,true,true,false,false,true,true,true,false,false,false,false,false,false] rfl rfl (qan HT_.out (by kernel_rfl)) (fun _ _ _ h=>h) (Or.inl ⟨by rfl,?_⟩) ?_ ?_
       rotate_left
       ·intro w'
        go_simp
        with_reducible rfl
       rotate_left
       ·simp only[Act.put,List.setIfInBounds_toArray,List.set_cons_zero,List.set_cons_succ,qaj,qak]
        rfl
       refine qar (i:=11) (N:=some 23) (v:=?_) (a':=?_) #[true,false,true,true,true,true,false,false,true,true,true,true,false,false,false,false,false] rfl rfl (qan HT_.out (by kernel_rfl)) (fun _ _ _ h=>h) (Or.inl ⟨by rfl,?_⟩) ?_ ?_
       rotate_left
       ·intro w'
        go_simp
        with_reducible rfl
       rotate_left
       ·simp only[Act.put,List.setIfInBounds_toArray,List.set_cons_zero,List.set_cons_succ,qaj,qak]
        rfl
       refine take_ (i:=6) (N:=some 18) (v:=?_) (a':=?_) #[true,false,true,true,true,true,true,false,true,true,true,true,false,false,false,false,false] rfl rfl (take_ofW HT_.out HW_.out (by kernel_rfl)) (fun _ _ _ h=>h) (Or.inl ⟨by rfl,?_⟩) hHeld ?_ ?_
       rotate_left
       ·rintro w' ⟨s0,s1,s2,s3⟩
        go_simp
        with_reducible rfl
       rotate_left
       ·simp only[Act.put,List.setIfInBounds_toArray,List.set_cons_zero,List.set_cons_succ,qaj,qak]
        rfl
       refine take_ (i:=12) (N:=some 24) (v:=?_) (a':=?_) #[true,false,true,true,true,true,true,false,true,true,true,true,true,false,false,false,false] rfl rfl (take_ofW HT_.out HW_.out (by kernel_rfl)) (fun _ _ _ h=>h) (Or.inl ⟨by rfl,?_⟩) hHeld ?_ ?_
       rotate_left
       ·rintro w' ⟨s0,s1,s2,s3⟩
        go_simp
        with_reducible rfl
       rotate_left
       ·simp only[Act.put,List.setIfInBounds_toArray,List.set_cons_zero,List.set_cons_succ,qaj,qak]
        rfl
       refine one_ (i:=1) (N:=some 13) #[true,true,true,true,true,true,true,false,true,true,true,true,true,false,false,false,false] rfl rfl (one_of HT_.out (by kernel_rfl)) (by decide) (fun K hK=>?_)
       refine Kd.R_lit_step (Kd.int .i64) _ 3 (by rfl) (N:=13) (by rfl) (xs:=([]:List Int)) (inner:=[]) (ok:=fun _=>True) (okp:=fun _=>True) (by first|(go_simp;done)|(go_simp;rfl)) (Reps.none _ _) (fun _ hk=>hk) trivial (Below.refl _ _) (Nat.le_refl _) (by simp) ?_
       intro v812 w9 ho10 hb hg_ hnew_
       clear hg_ hnew_
       (first|rw[←Ny811.out] at ho10|(simp only[Int.reduceToNat] at ho10;rw[←Ny811.out] at ho10))
       replace HO_3:=Aside0.mk (Kd.S_elder' (za8 HO_3) (Kd.R_base ho10) hb)
       have HO813:=Aside0.mk (Kd.R_lower ho10 (below_size (za1 HB)))
       replace HB:=Aside0.mk (qab (za1 HB) hb)
       clear hb ho10
       refine hK.out _ _ ⟨((HB.out.cell (World.block_lt_of_cell? w _ hw814_0)).trans hw814_0),((HB.out.cell (World.block_lt_of_cell? w _ hw814_1)).trans hw814_1),((HB.out.cell (World.block_lt_of_cell? w _ hw818_0)).trans hw818_0),((HB.out.cell (World.block_lt_of_cell? w _ hw818_1)).trans hw818_1)⟩ (fun hHeld=>?_)
       clear hK K
       refine norm_ (a':=?_) ?_ ?_
       rotate_left
       ·show Act.put _ (some 13) _=_
        simp only[Act.put,List.setIfInBounds_toArray,List.set_cons_zero,List.set_cons_succ,qaj,qak]
        rfl
       refine one_ (i:=7) (N:=some 19) #[true,true,true,true,true,true,true,true,true,true,true,true,true,false,false,false,false] rfl rfl (one_of HT_.out (by kernel_rfl)) (by decide) (fun K hK=>?_)
       refine Kd.R_append_rows_step (Kd.int .i64) (w0:=w) w.heap.size (by rfl) (.tmp 13) (.tmp 18) 55 3 (.int .i64 0) 8 rfl Try.underlying55 info3 rfl (by decide) (by omega) v812 y811 ((rd_T73 l0 x4_1).f0) _ _ _ (fun _=>True) (fun _=>False) rfl rfl ?aO ?aR (fun _ _ h=>h) (fun _ h=>h.elim) ?aF ?aB ?aS ?aL ?_
       (case aR=>repeat(first|exact(Kd.C_below HR814_0.out HB.out)|(with_reducible refine Kd.C_alloc ?_ _)|(with_reducible refine Kd.C_drewN ?_ _)|(with_reducible refine Kd.C_drew ?_)))
       (case aB=>exact(za1 HB))
       (case aF=>exact(fun _ _=>trivial))
       (case aO=>exact(za3 HO813))
       (case aS=>exact(below_size (za1 HB)))
       (case aL=>have:=LMc6.out;omega)
       intro v816 w11 ho hb hg hat
       rw[←Ny815.out] at ho
       replace HO_3:=Aside0.mk (Kd.S_after (ok:=(fun _=>True)) (za8 HO_3) hg hat)
       replace HB:=Aside0.mk hb
       have HO817:=Aside0.mk ho
       clear HO813
       clear ho hb hg hat
       obtain⟨Ao12,co12,eo12⟩:=Kd.R_slice HO817.out
       (first|subst eo12|(injection eo12 with f1_ f2_ f3_;have f4_:=f1_.symm;have f5_:=f3_.symm;clear f1_ f2_ f3_;subst f4_;subst f5_))
       refine hK.out _ _ ⟨((HB.out.cell (World.block_lt_of_cell? w _ hw814_0)).trans hw814_0),((HB.out.cell (World.block_lt_of_cell? w _ hw814_1)).trans hw814_1),((HB.out.cell (World.block_lt_of_cell? w _ hw818_0)).trans hw818_0),((HB.out.cell (World.block_lt_of_cell? w _ hw818_1)).trans hw818_1)⟩ (fun hHeld=>?_)
       clear hK K
       refine norm_ (a':=?_) ?_ ?_
       rotate_left
       ·show Act.put _ (some 19) _=_
        simp only[Act.put,List.setIfInBounds_toArray,List.set_cons_zero,List.set_cons_succ,qaj,qak]
        rfl
       refine qar (i:=13) (N:=some 25) (v:=?_) (a':=?_) #[true,true,true,true,true,true,true,true,true,true,true,true,true,true,false,false,false] rfl rfl (qan HT_.out (by kernel_rfl)) (fun _ _ _ h=>h) (Or.inl ⟨by rfl,?_⟩) ?_ ?_
       rotate_left
       ·intro w'
        go_simp
        with_reducible rfl
       rotate_left
       ·simp only[Act.put,List.setIfInBounds_toArray,List.set_cons_zero,List.set_cons_succ,qaj,qak]
        rfl
       refine one_ (i:=14) (N:=some 26) #[true,true,true,true,true,true,true,true,true,true,true,true,true,true,true,false,false] rfl rfl (one_of HT_.out (by kernel_rfl)) (by decide) (fun K hK=>?_)
       refine value_ (w1:=?_) (v:=?_) (by rfl) rfl ?_ ?_
       rotate_left 2
       ·go_simp
        constructor
        ·rfl
        ·rfl
       refine hK.out _ _ ⟨(World.cell?_alloc_lt _ _ _ (World.block_lt_of_cell? _ _ (((HB.out.cell (World.block_lt_of_cell? w _ hw814_0)).trans hw814_0)))).trans (((HB.out.cell (World.block_lt_of_cell? w _ hw814_0)).trans hw814_0)),(World.cell?_alloc_lt _ _ _ (World.block_lt_of_cell? _ _ (((HB.out.cell (World.block_lt_of_cell? w _ hw814_1)).trans hw814_1)))).trans (((HB.out.cell (World.block_lt_of_cell? w _ hw814_1)).trans hw814_1)),(World.cell?_alloc_lt _ _ _ (World.block_lt_of_cell? _ _ (((HB.out.cell (World.block_lt_of_cell? w _ hw818_0)).trans hw818_0)))).trans (((HB.out.cell (World.block_lt_of_cell? w _ hw818_0)).trans hw818_0)),(World.cell?_alloc_lt _ _ _ (World.block_lt_of_cell? _ _ (((HB.out.cell (World.block_lt_of_cell? w _ hw818_1)).trans hw818_1)))).trans (((HB.out.cell (World.block_lt_of_cell? w _ hw818_1)).trans hw818_1))⟩ (fun hHeld=>?_)
       clear hK K
       refine norm_ (a':=?_) ?_ ?_
       rotate_left
       ·show Act.put _ (some 26) _=_
        simp only[Act.put,List.setIfInBounds_toArray,List.set_cons_zero,List.set_cons_succ,qaj,qak]
        rfl
       refine one_ (i:=15) (N:=some 27) #[true,true,true,true,true,true,true,true,true,true,true,true,true,true,true,true,false] rfl rfl (one_of HT_.out (by kernel_rfl)) (by decide) (fun K hK=>?_)
       refine Kd.S_append_step k73 (w0:=w) w.heap.size (by rfl) (.tmp 12) (.tmp 26) 69 73 (.agg #[(.slice none 0 0),(.int .i64 0)]) 32 rfl Try.underlying69 info73 rfl (by decide) (by omega) u3 x3_1 (⟨y815,(rd_T73 l0 x4_1).f1⟩:S73) [.slice Ao12 y815.length co12,.int .i64 ((rd_T73 l0 x4_1).f1)] (fun _=>True) (fun k_=>some k_=(.slice Ao12 y815.length co12:Value).ownBlock) rfl rfl ?aP (fun k_ hk_=>((Kd.R_mono (ok':=fun k_=>((fun _=>True)) k_∧some k_≠(u3:Value).ownBlock) (Kd.R_apart' (HO817.out) (Kd.S_typed HO_3.out) (by decide)) (fun k_ hk=>⟨trivial,hk.2⟩))).1 k_ hk_.symm) ?aF ?aO ?aB ?aS ?aL ?_
       (case aP=>exact k73_mkM _ _ _ (⟨y815,(rd_T73 l0 x4_1).f1⟩:S73) (Kd.R_mono (Kd.R_tight rfl (Kd.R_mono (ok':=fun k_=>((fun _=>True)) k_∧some k_≠(u3:Value).ownBlock) (Kd.R_apart' (HO817.out) (Kd.S_typed HO_3.out) (by decide)) (fun k_ hk=>⟨trivial,hk.2⟩))) (fun _ h_=>h_)))
       (case aB=>exact(za1 HB))
       (case aF=>exact(fun _ _=>trivial))
       (case aO=>exact(by(with_reducible repeat(first|apply Kd.S_alloc|apply Kd.S_drewN|apply Kd.S_drew));exact Kd.S_mono HO_3.out (fun k_ hk=>⟨trivial,fun e_=>hk.2 e_⟩)))
       (case aS=>exact(below_size (za1 HB)))
       (case aL=>have:=LMc7.out;omega)
       intro v820 w13 ho hb hg hat
       rw[←Ny819.out] at ho
       replace HB:=Aside0.mk hb
       have HO821:=Aside0.mk ho
       clear HO_3 HO817
       clear ho hb hg hat
       refine hK.out _ _ ⟨((HB.out.cell (World.block_lt_of_cell? w _ hw814_0)).trans hw814_0),((HB.out.cell (World.block_lt_of_cell? w _ hw814_1)).trans hw814_1),((HB.out.cell (World.block_lt_of_cell? w _ hw818_0)).trans hw818_0),((HB.out.cell (World.block_lt_of_cell? w _ hw818_1)).trans hw818_1)⟩ (fun hHeld=>?_)
       clear hK K
       refine norm_ (a':=?_) ?_ ?_
       rotate_left
       ·show Act.put _ (some 27) _=_
        simp only[Act.put,List.setIfInBounds_toArray,List.set_cons_zero,List.set_cons_succ,qaj,qak]
        rfl
       refine qar (i:=16) (N:=some 3) (v:=?_) (a':=?_) #[true,true,true,true,true,true,true,true,true,true,true,true,true,true,true,true,true] rfl rfl (qan HT_.out (by kernel_rfl)) (fun _ _ _ h=>h) (Or.inl ⟨by rfl,?_⟩) ?_ ?_
       rotate_left
       ·intro w'
        go_simp
        with_reducible rfl
       rotate_left
       ·simp only[Act.put,List.setIfInBounds_toArray,List.set_cons_zero,List.set_cons_succ,qaj,qak]
        rfl
       refine done_ (done_of HT_.out (by kernel_rfl)) ?_
       try go_wp2
       go_roundg k1
       case measure=>have:=HK1.out;omega
       case rel=>exact⟨(y819),(wrap64 (x4_1+1)),(za17),H',⟨by have:=HK1.out;omega⟩,⟨za8 HO821⟩,⟨za1 HB⟩⟩
      ·rw[if_neg c7] at H
       exact absurd H (by simp)
     ·rw[if_neg c6] at H
      exact absurd H (by simp)
    ·rw[if_neg c5] at H
     exact absurd H (by simp)
   ·rw[if_neg c4] at H
    have c4b0:decide (x4_1<(l0.length:Int))=false:=decide_eq_false c4
    clear c4
    obtain rfl:=Option.some.inj H
    go_wp2
    go_ret
    exact⟨_,za9,za8 HO_3,za1 HB⟩
end Go.Proofs.Ytjccnaklodbbfaa.Print
