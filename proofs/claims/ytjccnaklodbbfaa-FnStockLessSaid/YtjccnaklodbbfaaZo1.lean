-- Written by squeeze.py, a program of this session, out of what print.sh and myprint.py had printed: cut to what is used, narrowed. Not trusted, Lean checks it.
import Derived.Test.YtjccnaklodbbfaaZK
import Derived.Test.YtjccnaklodbbfaaZg0
import Derived.Test.YtjccnaklodbbfaaZi0
import Derived.Test.YtjccnaklodbbfaaZl0
import Derived.Test.YtjccnaklodbbfaaZo0
namespace Go.Proofs.Ytjccnaklodbbfaa.Print
open Go.RowKit Go.Proofs.YtjccnaklodbbfaaW.PrintWords Go.Proofs.YtjccnaklodbbfaaW.PrintLast Go.Proofs.YtjccnaklodbbfaaW.PrintMore
attribute [local go_sem] max2_int min2_int max_two min_two max_three min_three max_four min_four
set_option linter.unusedVariables false
set_option linter.unusedSimpArgs false
mutual
def laws_FnStockLess.j0:Nat→List Int→List Int→Bool→Option (Bool)
 |0,_,_,_=>none
 |k+1,x0,x1,x18=>if x18=true then(some true) else((spec_DrawStockOk.f k x0).bind fun bt449=>((impl_StockOk.f k bt449.1 bt449.2).bind fun t454=>((spec_StockOk.f k bt449.1 bt449.2).bind fun t455=>(if(t454 != t455)=true then(laws_FnStockLess.j1 k x1 t454 true bt449.1 bt449.2) else(laws_FnStockLess.j1 k x1 t454 (!t454) bt449.1 bt449.2)))))
def laws_FnStockLess.j1:Nat→List Int→Bool→Bool→Int→List (S46)→Option (Bool)
 |0,_,_,_,_,_=>none
 |k+1,x1,x6,x30,x454000,x454001=>if x30=true then((spec_StockOk.f k x454000 x454001).bind fun t456=>(some (x6 == t456))) else(if(x454001.length:Int)=0 then(none) else((some (([]:List (S46)):List (S46))).bind fun y458=>(if y458.length+x454001.length<8796093022208 then((some (y458++x454001:List (S46))).bind fun y461=>(if 0≤((x1.length:Int)%(x454001.length:Int)) then(if((x1.length:Int)%(x454001.length:Int))<(y461.length:Int) then((impl_StockFree.f k x454000 x454001).bind fun t466=>((impl_StockOk.f k x454000 (y461.set (((x1.length:Int)%(x454001.length:Int)):Int).toNat (⟨0,0⟩:S46))).bind fun t468=>(if t468=true then((impl_StockOk.f k (wrap64 (x454000 - t466)) x454001).bind fun t469=>(if t469=true then((impl_StockFree.f k (wrap64 (x454000 - t466)) x454001).bind fun t470=>(if t470=0 then((impl_StockOk.f k (wrap64 ((wrap64 (x454000 - t466)) - 1)) x454001).bind fun t471=>(some (!t471))) else(some false))) else(some false))) else(some false)))) else(none)) else(none))) else(none))))
end
def laws_FnStockLess.f (k:Nat) (l0:List Int) (l1:List Int):Option (Bool):=if(l0.length:Int)>1048576 then(laws_FnStockLess.j0 k l0 l1 true) else(laws_FnStockLess.j0 k l0 l1 (decide ((l1.length:Int)>1048576)))
theorem laws_FnStockLess.mono_l:∀k,(∀y0 y1 y2,LeO (laws_FnStockLess.j0 k y0 y1 y2) (laws_FnStockLess.j0 (k+1) y0 y1 y2))∧(∀y0 y1 y2 y3 y4,LeO (laws_FnStockLess.j1 k y0 y1 y2 y3 y4) (laws_FnStockLess.j1 (k+1) y0 y1 y2 y3 y4))
 |0=>⟨fun _ _ _ r h=>by simp[laws_FnStockLess.j0] at h,fun _ _ _ _ _ r h=>by simp[laws_FnStockLess.j1] at h⟩
 |k+1=>by
  obtain⟨ih0,ih1⟩:=laws_FnStockLess.mono_l k
  refine⟨?_,?_⟩
  ·intro y0 y1 y2
   unfold laws_FnStockLess.j0
   repeat' first
   |(with_reducible exact ih0 _ _ _)
   |(with_reducible exact ih1 _ _ _ _ _)
   |(with_reducible exact impl_StockFree.mono _ _ _)
   |(with_reducible exact impl_StockOk.mono _ _ _)
   |(with_reducible exact spec_DrawStockOk.mono _ _)
   |(with_reducible exact spec_StockOk.mono _ _ _)
   |(with_reducible exact LeO.refl _)
   |(with_reducible exact LeO.none _)
   |(with_reducible refine LeO.ite ?_ ?_)
   |(with_reducible refine LeO.bind ?_ (fun _=>?_))
   |exact ih0 _ _ _
   |exact ih1 _ _ _ _ _
   |exact impl_StockFree.mono _ _ _
   |exact impl_StockOk.mono _ _ _
   |exact spec_DrawStockOk.mono _ _
   |exact spec_StockOk.mono _ _ _
   |exact LeO.none _
   |refine LeO.ite ?_ ?_
   |refine LeO.bind ?_ (fun _=>?_)
  ·intro y0 y1 y2 y3 y4
   unfold laws_FnStockLess.j1
   repeat' first
   |(with_reducible exact ih0 _ _ _)
   |(with_reducible exact ih1 _ _ _ _ _)
   |(with_reducible exact impl_StockFree.mono _ _ _)
   |(with_reducible exact impl_StockOk.mono _ _ _)
   |(with_reducible exact spec_DrawStockOk.mono _ _)
   |(with_reducible exact spec_StockOk.mono _ _ _)
   |(with_reducible exact LeO.refl _)
   |(with_reducible exact LeO.none _)
   |(with_reducible refine LeO.ite ?_ ?_)
   |(with_reducible refine LeO.bind ?_ (fun _=>?_))
   |exact ih0 _ _ _
   |exact ih1 _ _ _ _ _
   |exact impl_StockFree.mono _ _ _
   |exact impl_StockOk.mono _ _ _
   |exact spec_DrawStockOk.mono _ _
   |exact spec_StockOk.mono _ _ _
   |exact LeO.none _
   |refine LeO.ite ?_ ?_
   |refine LeO.bind ?_ (fun _=>?_)
theorem laws_FnStockLess.mono:∀a0 a1 k,LeO (laws_FnStockLess.f k a0 a1) (laws_FnStockLess.f (k+1) a0 a1):=by
 intro a0 a1 k
 obtain⟨ih0,ih1⟩:=laws_FnStockLess.mono_l k
 unfold laws_FnStockLess.f
 repeat' first
   |(with_reducible exact ih0 _ _ _)
   |(with_reducible exact ih1 _ _ _ _ _)
   |(with_reducible exact impl_StockFree.mono _ _ _)
   |(with_reducible exact impl_StockOk.mono _ _ _)
   |(with_reducible exact spec_DrawStockOk.mono _ _)
   |(with_reducible exact spec_StockOk.mono _ _ _)
   |(with_reducible exact LeO.refl _)
   |(with_reducible exact LeO.none _)
   |(with_reducible refine LeO.ite ?_ ?_)
   |(with_reducible refine LeO.bind ?_ (fun _=>?_))
   |exact ih0 _ _ _
   |exact ih1 _ _ _ _ _
   |exact impl_StockFree.mono _ _ _
   |exact impl_StockOk.mono _ _ _
   |exact spec_DrawStockOk.mono _ _
   |exact spec_StockOk.mono _ _ _
   |exact LeO.none _
   |refine LeO.ite ?_ ?_
   |refine LeO.bind ?_ (fun _=>?_)
set_option maxHeartbeats 8000000 in
set_option maxRecDepth 100000 in
theorem laws_FnStockLess.calls (k:Nat) (A0:Option Addr) (c0:Nat) (l0:List Int) (A1:Option Addr) (c1:Nat) (l1:List Int) (r:Bool) (w:World) (hr0:Kd.C (Kd.int .u8) w A0 l0.length l0) (hc0:l0.length≤c0) (hr1:Kd.C (Kd.int .u8) w A1 l1.length l1) (hc1:l1.length≤c1) (h:laws_FnStockLess.f k l0 l1=some r) :
  Calls Try.prog 5 #[.slice A0 l0.length c0,.slice A1 l1.length c1] w fun e w'=>e=.returned (.bool r)∧Below w.heap.size w w':=by
 have hu36:=Try.underlying36
 have hu46:=Try.underlying46
 have HR0:=qal.mk hr0
 have HC0:=qal.mk hc0
 clear hr0 hc0
 have HR1:=qal.mk hr1
 have HC1:=qal.mk hc1
 clear hr1 hc1
 have HB:=qal.mk (Below.refl w.heap.size w)
 have H:(if(l0.length:Int)>1048576 then(laws_FnStockLess.j0 k l0 l1 true) else(laws_FnStockLess.j0 k l0 l1 (decide ((l1.length:Int)>1048576))))=some r:=h
 clear h
 have HC3:=qal.mk H
 clear H
 go_enter Try.func5,Try.ntmps5
 go_upto_region 1 with(fail)
 go_cut [18] (fun v18 wc=>∃(kq:Nat) (x18_2:Bool),v18=.bool x18_2∧qal (laws_FnStockLess.j0 kq l0 l1 x18_2=some r)∧qal (kq≤k)∧qal (Below w.heap.size w wc))
 case first=>
  have H:=HC3.out
  clear HC3
  by_cases c4:(l0.length:Int)>1048576
  ·rw[if_pos c4] at H
   have c4b0:decide (1048576<(l0.length:Int))=true:=decide_eq_true c4
   have c4b1:decide (1048576<l0.length)=true:=decide_eq_true (by omega)
   clear c4
   (first|rw[c4b0]|(simp only[qas,qat];rw[c4b0])|skip)
   have H':=qal.mk H
   clear H
   go_wp2
   go_meet
   case rel=>exact⟨_,(true),(za22),H',⟨za46⟩,⟨za2 HB⟩⟩
  ·rw[if_neg c4] at H
   have c4b0:decide (1048576<(l0.length:Int))=false:=decide_eq_false c4
   have c4b1:decide (1048576<l0.length)=false:=decide_eq_false (by omega)
   clear c4
   (first|rw[c4b0]|(simp only[qas,qat];rw[c4b0])|skip)
   have H':=qal.mk H
   clear H
   go_wp2
   go_meet
   case rel=>exact⟨_,(decide ((l1.length:Int)>1048576)),(za22),H',⟨za46⟩,⟨za2 HB⟩⟩
 case rest=>
  clear HC3
  try clear c1
  try clear p2
  try clear c4
  try clear c4b0
  try clear c4b1
  obtain⟨kq,x18_2,rfl,HA,HJ2,HB⟩:=hcut
  cases kq with
  |zero=>exact absurd HA.out (by simp[laws_FnStockLess.j0])
  |succ kj2=>
   have H:=HA.out
   clear HA
   simp only[laws_FnStockLess.j0] at H
   by_cases c5:x18_2=true
   ·subst c5
    have H1:(some true)=some r:=by rw[if_pos rfl] at H;exact H
    clear H
    have H:=H1
    clear H1
    obtain rfl:=Option.some.inj H
    go_wp2
    go_ret
    exact⟨za9,za2 HB⟩
   ·replace c5:=Bool.eq_false_iff.mpr c5
    subst c5
    have H1:((spec_DrawStockOk.f kj2 l0).bind fun bt449=>((impl_StockOk.f kj2 bt449.1 bt449.2).bind fun t454=>((spec_StockOk.f kj2 bt449.1 bt449.2).bind fun t455=>(if(t454 != t455)=true then(laws_FnStockLess.j1 kj2 l1 t454 true bt449.1 bt449.2) else(laws_FnStockLess.j1 kj2 l1 t454 (!t454) bt449.1 bt449.2)))))=some r:=by rw[if_neg (show ¬(false=true) by decide)] at H;exact H
    clear H
    have H:=H1
    clear H1
    replace H:=Option.bind_eq_some_iff.mp H
    obtain⟨⟨t449,t450⟩,A60,H⟩:=H
    replace H:((impl_StockOk.f kj2 t449 t450).bind fun t454=>((spec_StockOk.f kj2 t449 t450).bind fun t455=>(if(t454 != t455)=true then(laws_FnStockLess.j1 kj2 l1 t454 true t449 t450) else(laws_FnStockLess.j1 kj2 l1 t454 (!t454) t449 t450))))=some r:=H
    have A6:=qal.mk A60
    clear A60
    replace H:=Option.bind_eq_some_iff.mp H
    obtain⟨t454,A70,H⟩:=H
    replace H:((spec_StockOk.f kj2 t449 t450).bind fun t455=>(if(t454 != t455)=true then(laws_FnStockLess.j1 kj2 l1 t454 true t449 t450) else(laws_FnStockLess.j1 kj2 l1 t454 (!t454) t449 t450)))=some r:=H
    have A7:=qal.mk A70
    clear A70
    have HC8:=qal.mk H
    clear H
    go_upto_region 5 with(first|((with_reducible refine qai (f:=27) rfl ?_);refine qau (some 20) rfl rfl Try.func27 (by kernel_rfl) rfl #[.slice A0 l0.length c0] rfl (by(try simp only[List.map_toArray,List.map_cons,List.map_nil]);first|done|rfl|(simp only[List.length_drop,List.length_take];rfl)) ?_;(with_reducible refine(spec_DrawStockOk.calls kj2 _ _ l0 t449 t450 _ ?side1 ?side2 A6.out).mono ?_);(case side1=>repeat(first|exact(Kd.C_below HR0.out HB.out)|(with_reducible refine Kd.C_alloc ?_ _)|(with_reducible refine Kd.C_drewN ?_ _)|(with_reducible refine Kd.C_drew ?_)));(case side2=>exact HC0.out);rintro e w9 ⟨v451,rfl,ho0,hb⟩;refine⟨_,rfl,?_⟩;have n0_:=qal.mk (Kd.Q_lower ho0 (qad (za2 HB)));have n1_:=qal.mk (qae (za2 HB) hb);clear HB;have HO452:=n0_;have HB:=n1_;clear n0_ n1_;(try clear hb);(try clear hb2);(try clear hk);(try clear hi);(try clear ho0))|((with_reducible refine qak (N:=5) rfl ?_);(try(refine qbc (by rfl) ?_;dsimp only));refine qaj ?hg (N:=5) ?hd (cs:=#[.int .i64 0,.slice none 0 0]) (t:=36) ?hr ?_;(case hd=>rfl);(case hg=>rfl);(case hr=>first|(go_simp;done)|(go_simp;rfl));intro gb453 hg w10 hbox hb;have n0_:=qal.mk (Kd.Q_below (za16 HO452) hb);have n1_:=qal.mk (qae (za2 HB) hb);have n2_:=qal.mk (hbox);have n3_:=qal.mk ((by rw[hg];exact(qad (za2 HB)):w.heap.size≤gb453));have n4_:=qal.mk ((by rw[hg];exact(qad (za2 HB)):w.heap.size≤gb453));clear HO452;clear HB;have HO452:=n0_;have HB:=n1_;have BK453:=n2_;have GW453:=n3_;have GE453:=n4_;clear n0_ n1_ n2_ n3_ n4_;clear hb hbox hg;have hcz11_0:w10.cell? ⟨gb453,0,none⟩=some (.int .i64 0):=(qab BK453.out 0).trans rfl;have hcz11_1:w10.cell? ⟨gb453,1,none⟩=some (.slice none 0 0):=(qab BK453.out 1).trans rfl;have hfz11_0:=qaa BK453.out 0;have hfz11_1:=qaa BK453.out 1;obtain⟨Ao12,co12,eo12,_⟩:=Kd.Q_slice HO452.out;subst eo12)|((with_reducible refine qai (f:=25) rfl ?_);refine qau (some 22) rfl rfl Try.func25 (by kernel_rfl) rfl #[.agg #[.int .i64 t449,.slice Ao12 t450.length co12]] rfl (by(try simp only[List.map_toArray,List.map_cons,List.map_nil]);first|done|rfl|(simp only[List.length_drop,List.length_take];rfl)) ?_;(with_reducible refine(impl_StockOk.calls kj2 t449 _ _ t450 t454 _ ?side1 ?side2 A7.out).mono ?_);(case side1=>refine(Kd.Q_reads' (e:=46) (base:=w.heap.size) (ok:=fun k_=>True) (n:=t450.length) (c:=co12) ?_).2.2;exact(by(with_reducible repeat(first|apply Kd.Q_alloc|apply Kd.Q_drewN|apply Kd.Q_drew));exact(Kd.Q_mono (Kd.Q_far (p:=⟨gb453,1,none⟩) (Kd.Q_far (p:=⟨gb453,0,none⟩) (Kd.Q_types HO452.out BK453.out (by decide)) (fun _ hk=>hk.2) (.int .i64 t449)) (fun _ hk=>hk.2) (.slice Ao12 t450.length co12)) (fun _ h_=>h_.1))));(case side2=>exact(Kd.Q_reads' HO452.out).2.1);rintro e w13 ⟨rfl,hb⟩;refine⟨_,rfl,?_⟩;have n0_:=qal.mk (Kd.Q_below (by(with_reducible repeat(first|apply Kd.Q_alloc|apply Kd.Q_drewN|apply Kd.Q_drew));exact(Kd.Q_mono (Kd.Q_far (p:=⟨gb453,1,none⟩) (Kd.Q_far (p:=⟨gb453,0,none⟩) (Kd.Q_types HO452.out BK453.out (by decide)) (fun _ hk=>hk.2) (.int .i64 t449)) (fun _ hk=>hk.2) (.slice Ao12 t450.length co12)) (fun _ h_=>h_.1))) hb);have n1_:=qal.mk (qac (g:=gb453) (o:=.cells #[.int .i64 t449,.slice Ao12 t450.length co12] 36 (0,0)) (by(with_reducible repeat(first|refine qag ?_ _|refine qah ?_|refine qaf ?_ _));refine qan (cs:=#[.int .i64 t449,.slice none 0 0]) ?_ 1 _ rfl;(with_reducible repeat(first|refine qag ?_ _|refine qah ?_|refine qaf ?_ _));refine qan (cs:=#[.int .i64 0,.slice none 0 0]) ?_ 0 _ rfl;(with_reducible repeat(first|refine qag ?_ _|refine qah ?_|refine qaf ?_ _));exact BK453.out) hb);have n2_:=qal.mk (qae (za1 HB GE453) hb);clear HO452;clear BK453;clear HB;have HO452:=n0_;have BK453:=n1_;have HB:=n2_;clear n0_ n1_ n2_;(try clear hb);(try clear hb2);(try clear hk);(try clear hi)))
    (try simp only[Act.put,List.setIfInBounds_toArray,List.set_cons_zero,List.set_cons_succ])
    go_cut [30] (fun v30 wc=>∃(kq:Nat) (x30_7:Bool),v30=.bool x30_7∧qal (laws_FnStockLess.j1 kq l1 t454 x30_7 t449 t450=some r)∧qal (kq≤kj2)∧qal (Kd.Q k46 46 wc w.heap.size (fun _=>True) (.slice Ao12 t450.length co12) t450)∧qal (wc.heap[gb453]?=some (.cells #[.int .i64 t449,(.slice Ao12 t450.length co12)] 36 (0,0)))∧qal (Below w.heap.size w wc))
    case first=>
     have H:=HC8.out
     clear HC8
     replace H:=Option.bind_eq_some_iff.mp H
     obtain⟨t455,A140,H⟩:=H
     replace H:(if(t454 != t455)=true then(laws_FnStockLess.j1 kj2 l1 t454 true t449 t450) else(laws_FnStockLess.j1 kj2 l1 t454 (!t454) t449 t450))=some r:=H
     have A14:=qal.mk A140
     clear A140
     by_cases c15:(t454 != t455)=true
     ·rw[if_pos c15] at H
      have c15b0:(t454 != t455)=true:=c15
      (try(have c15b1:decide (t454=t455)=false:=by simpa using c15))
      (try(have c15b2:(t454 == t455)=false:=by simpa using c15))
      (try(have c15b3:¬(t454=t455):=by simpa using c15))
      clear c15
      (first|rw[c15b0]|(simp only[qas,qat];rw[c15b0])|skip)
      have H':=qal.mk H
      clear H
      have hcz16_0:w13.cell? ⟨gb453,0,none⟩=some (.int .i64 t449):=(qab BK453.out 0).trans rfl
      have hcz16_1:w13.cell? ⟨gb453,1,none⟩=some (.slice Ao12 t450.length co12):=(qab BK453.out 1).trans rfl
      have hfz16_0:=qaa BK453.out 0
      have hfz16_1:=qaa BK453.out 1
      go_wp2_with(first|((with_reducible refine qai (f:=28) rfl ?_);refine qau (some 25) rfl rfl Try.func28 (by kernel_rfl) rfl #[.agg #[.int .i64 t449,.slice Ao12 t450.length co12]] rfl (by(try simp only[List.map_toArray,List.map_cons,List.map_nil]);first|done|rfl|(simp only[List.length_drop,List.length_take];rfl)) ?_;(with_reducible refine(spec_StockOk.calls kj2 t449 _ _ t450 t455 _ ?side1 ?side2 A14.out).mono ?_);(case side1=>repeat(first|exact(Kd.Q_reads' HO452.out).2.2|(with_reducible refine Kd.C_alloc ?_ _)|(with_reducible refine Kd.C_drewN ?_ _)|(with_reducible refine Kd.C_drew ?_)));(case side2=>exact(Kd.Q_reads' HO452.out).2.1);rintro e w17 ⟨rfl,hb⟩;refine⟨_,rfl,?_⟩;have n0_:=qal.mk (Kd.Q_below (za16 HO452) hb);have n1_:=qal.mk (qac (g:=gb453) (o:=.cells #[.int .i64 t449,.slice Ao12 t450.length co12] 36 (0,0)) (za0 BK453) hb);have n2_:=qal.mk (qae (za1 HB GE453) hb);clear HO452;clear BK453;clear HB;have HO452:=n0_;have BK453:=n1_;have HB:=n2_;clear n0_ n1_ n2_;(try clear hb);(try clear hb2);(try clear hk);(try clear hi)))
      go_meet
      case rel=>exact⟨_,(true),(za22),H',⟨by have:=HJ2.out;first|omega|exact Nat.le_refl _⟩,⟨za16 HO452⟩,⟨za0 BK453⟩,⟨za1 HB GE453⟩⟩
     ·rw[if_neg c15] at H
      have c15b0:(t454 != t455)=false:=by simpa using c15
      (try(have c15b1:decide (t454=t455)=true:=by simpa using c15))
      (try(have c15b2:(t454 == t455)=true:=by simpa using c15))
      clear c15
      (first|rw[c15b0]|(simp only[qas,qat];rw[c15b0])|skip)
      have H':=qal.mk H
      clear H
      have hcz18_0:w13.cell? ⟨gb453,0,none⟩=some (.int .i64 t449):=(qab BK453.out 0).trans rfl
      have hcz18_1:w13.cell? ⟨gb453,1,none⟩=some (.slice Ao12 t450.length co12):=(qab BK453.out 1).trans rfl
      have hfz18_0:=qaa BK453.out 0
      have hfz18_1:=qaa BK453.out 1
      go_wp2_with(first|((with_reducible refine qai (f:=28) rfl ?_);refine qau (some 25) rfl rfl Try.func28 (by kernel_rfl) rfl #[.agg #[.int .i64 t449,.slice Ao12 t450.length co12]] rfl (by(try simp only[List.map_toArray,List.map_cons,List.map_nil]);first|done|rfl|(simp only[List.length_drop,List.length_take];rfl)) ?_;(with_reducible refine(spec_StockOk.calls kj2 t449 _ _ t450 t455 _ ?side1 ?side2 A14.out).mono ?_);(case side1=>repeat(first|exact(Kd.Q_reads' HO452.out).2.2|(with_reducible refine Kd.C_alloc ?_ _)|(with_reducible refine Kd.C_drewN ?_ _)|(with_reducible refine Kd.C_drew ?_)));(case side2=>exact(Kd.Q_reads' HO452.out).2.1);rintro e w19 ⟨rfl,hb⟩;refine⟨_,rfl,?_⟩;have n0_:=qal.mk (Kd.Q_below (za16 HO452) hb);have n1_:=qal.mk (qac (g:=gb453) (o:=.cells #[.int .i64 t449,.slice Ao12 t450.length co12] 36 (0,0)) (za0 BK453) hb);have n2_:=qal.mk (qae (za1 HB GE453) hb);clear HO452;clear BK453;clear HB;have HO452:=n0_;have BK453:=n1_;have HB:=n2_;clear n0_ n1_ n2_;(try clear hb);(try clear hb2);(try clear hk);(try clear hi)))
      go_meet
      case rel=>exact⟨_,(!t454),(za22),H',⟨by have:=HJ2.out;first|omega|exact Nat.le_refl _⟩,⟨za16 HO452⟩,⟨za0 BK453⟩,⟨za1 HB GE453⟩⟩
    case rest=>
     clear HC8
     try clear c1
     try clear c2
     try clear p2
     try clear c4
     try clear c4b0
     try clear c4b1
     try clear c5
     try clear c15
     try clear c15b0
     try clear c15b1
     try clear c15b2
     try clear hcz11_0
     try clear hcz11_1
     try clear hcz16_0
     try clear hcz16_1
     try clear hcz18_0
     try clear hcz18_1
     try clear hfz11_0
     try clear hfz11_1
     try clear hfz16_0
     try clear hfz16_1
     try clear hfz18_0
     try clear hfz18_1
     try clear p2
     obtain⟨kq,x30_7,rfl,HA,HJ7,HO_454001,BK453,HB⟩:=hcut
     cases kq with
     |zero=>exact absurd HA.out (by simp[laws_FnStockLess.j1])
     |succ kj7=>
      have H:=HA.out
      clear HA
      simp only[laws_FnStockLess.j1] at H
      by_cases c20:x30_7=true
      ·subst c20
       have H1:((spec_StockOk.f kj7 t449 t450).bind fun t456=>(some (t454 == t456)))=some r:=by rw[if_pos rfl] at H;exact H
       clear H
       have H:=H1
       clear H1
       replace H:=Option.bind_eq_some_iff.mp H
       obtain⟨t456,A210,H⟩:=H
       replace H:(some (t454 == t456))=some r:=H
       have A21:=qal.mk A210
       clear A210
       obtain rfl:=Option.some.inj H
       have hcz22_0:wc.cell? ⟨gb453,0,none⟩=some (.int .i64 t449):=(qab BK453.out 0).trans rfl
       have hcz22_1:wc.cell? ⟨gb453,1,none⟩=some (.slice Ao12 t450.length co12):=(qab BK453.out 1).trans rfl
       have hfz22_0:=qaa BK453.out 0
       have hfz22_1:=qaa BK453.out 1
       go_wp2_with(first|((with_reducible refine qai (f:=28) rfl ?_);refine qau (some 33) rfl rfl Try.func28 (by kernel_rfl) rfl #[.agg #[.int .i64 t449,.slice Ao12 t450.length co12]] rfl (by(try simp only[List.map_toArray,List.map_cons,List.map_nil]);first|done|rfl|(simp only[List.length_drop,List.length_take];rfl)) ?_;(with_reducible refine(spec_StockOk.calls kj7 t449 _ _ t450 t456 _ ?side1 ?side2 A21.out).mono ?_);(case side1=>repeat(first|exact(Kd.Q_reads' HO_454001.out).2.2|(with_reducible refine Kd.C_alloc ?_ _)|(with_reducible refine Kd.C_drewN ?_ _)|(with_reducible refine Kd.C_drew ?_)));(case side2=>exact(Kd.Q_reads' HO_454001.out).2.1);rintro e w23 ⟨rfl,hb⟩;refine⟨_,rfl,?_⟩;have n0_:=qal.mk (Kd.Q_below (za16 HO_454001) hb);have n1_:=qal.mk (qac (g:=gb453) (o:=.cells #[.int .i64 t449,.slice Ao12 t450.length co12] 36 (0,0)) (za0 BK453) hb);have n2_:=qal.mk (qae (za1 HB GE453) hb);clear HO_454001;clear BK453;clear HB;have HO_454001:=n0_;have BK453:=n1_;have HB:=n2_;clear n0_ n1_ n2_;(try clear hb);(try clear hb2);(try clear hk);(try clear hi)))
       go_ret
       exact⟨za9,za1 HB GE453⟩
      ·replace c20:=Bool.eq_false_iff.mpr c20
       subst c20
       have H1:(if(t450.length:Int)=0 then(none) else((some (([]:List (S46)):List (S46))).bind fun y458=>(if y458.length+t450.length<8796093022208 then((some (y458++t450:List (S46))).bind fun y461=>(if 0≤((l1.length:Int)%(t450.length:Int)) then(if((l1.length:Int)%(t450.length:Int))<(y461.length:Int) then((impl_StockFree.f kj7 t449 t450).bind fun t466=>((impl_StockOk.f kj7 t449 (y461.set (((l1.length:Int)%(t450.length:Int)):Int).toNat (⟨0,0⟩:S46))).bind fun t468=>(if t468=true then((impl_StockOk.f kj7 (wrap64 (t449 - t466)) t450).bind fun t469=>(if t469=true then((impl_StockFree.f kj7 (wrap64 (t449 - t466)) t450).bind fun t470=>(if t470=0 then((impl_StockOk.f kj7 (wrap64 ((wrap64 (t449 - t466)) - 1)) t450).bind fun t471=>(some (!t471))) else(some false))) else(some false))) else(some false)))) else(none)) else(none))) else(none))))=some r:=by rw[if_neg (show ¬(false=true) by decide)] at H;exact H
       clear H
       have H:=H1
       clear H1
       by_cases c24:(t450.length:Int)=0
       ·rw[if_pos c24] at H
        exact absurd H (by simp)
       ·rw[if_neg c24] at H
        have c24b0:((t450.length:Int) == 0)=false:=beq_eq_false_iff_ne.mpr c24
        have c24b1:((t450.length:Int) != 0)=true:=bne_iff_ne.mpr c24
        have c24b2:¬(t450=[]):=fun h_=>c24 (by rw[h_];rfl)
        obtain⟨y458,hy458⟩:∃y_:List (S46),y_=(([]:List (S46))):=⟨_,rfl⟩
        replace H:(if y458.length+t450.length<8796093022208 then((some (y458++t450:List (S46))).bind fun y461=>(if 0≤((l1.length:Int)%(t450.length:Int)) then(if((l1.length:Int)%(t450.length:Int))<(y461.length:Int) then((impl_StockFree.f kj7 t449 t450).bind fun t466=>((impl_StockOk.f kj7 t449 (y461.set (((l1.length:Int)%(t450.length:Int)):Int).toNat (⟨0,0⟩:S46))).bind fun t468=>(if t468=true then((impl_StockOk.f kj7 (wrap64 (t449 - t466)) t450).bind fun t469=>(if t469=true then((impl_StockFree.f kj7 (wrap64 (t449 - t466)) t450).bind fun t470=>(if t470=0 then((impl_StockOk.f kj7 (wrap64 ((wrap64 (t449 - t466)) - 1)) t450).bind fun t471=>(some (!t471))) else(some false))) else(some false))) else(some false)))) else(none)) else(none))) else(none))=some r:=by first|(rw[hy458];with_reducible exact H)|(have H2_:=(Option.bind_some _ _).symm.trans H;rw[hy458];with_reducible exact H2_)|(have H2_:=(Option.bind_some _ _).symm.trans H;with_reducible exact H2_)|with_reducible exact H|(rw[hy458];exact H)|exact H
        have Ny458:=qal.mk hy458
        clear hy458
        by_cases c25:y458.length+t450.length<8796093022208
        ·rw[if_pos c25] at H
         have LMc25:=qal.mk c25
         clear c25
         obtain⟨y461,hy461⟩:∃y_:List (S46),y_=(y458++t450):=⟨_,rfl⟩
         replace H:(if 0≤((l1.length:Int)%(t450.length:Int)) then(if((l1.length:Int)%(t450.length:Int))<(y461.length:Int) then((impl_StockFree.f kj7 t449 t450).bind fun t466=>((impl_StockOk.f kj7 t449 (y461.set (((l1.length:Int)%(t450.length:Int)):Int).toNat (⟨0,0⟩:S46))).bind fun t468=>(if t468=true then((impl_StockOk.f kj7 (wrap64 (t449 - t466)) t450).bind fun t469=>(if t469=true then((impl_StockFree.f kj7 (wrap64 (t449 - t466)) t450).bind fun t470=>(if t470=0 then((impl_StockOk.f kj7 (wrap64 ((wrap64 (t449 - t466)) - 1)) t450).bind fun t471=>(some (!t471))) else(some false))) else(some false))) else(some false)))) else(none)) else(none))=some r:=by first|(rw[hy461];with_reducible exact H)|(have H2_:=(Option.bind_some _ _).symm.trans H;rw[hy461];with_reducible exact H2_)|(have H2_:=(Option.bind_some _ _).symm.trans H;with_reducible exact H2_)|with_reducible exact H|(rw[hy461];exact H)|exact H
         have Ny461:=qal.mk hy461
         clear hy461
         obtain⟨ji26,hji26⟩:∃j_:Int,((l1.length:Int)%(t450.length:Int))=j_:=⟨_,rfl⟩
         replace H:(if 0≤(ji26) then(if(ji26)<(y461.length:Int) then((impl_StockFree.f kj7 t449 t450).bind fun t466=>((impl_StockOk.f kj7 t449 (y461.set ((ji26):Int).toNat (⟨0,0⟩:S46))).bind fun t468=>(if t468=true then((impl_StockOk.f kj7 (wrap64 (t449 - t466)) t450).bind fun t469=>(if t469=true then((impl_StockFree.f kj7 (wrap64 (t449 - t466)) t450).bind fun t470=>(if t470=0 then((impl_StockOk.f kj7 (wrap64 ((wrap64 (t449 - t466)) - 1)) t450).bind fun t471=>(some (!t471))) else(some false))) else(some false))) else(some false)))) else(none)) else(none))=some r:=by first|(rw[hji26] at H;exact H)|(simp only[hji26] at H ⊢;exact H)
         by_cases c27:0≤(ji26)
         ·rw[if_pos c27] at H
          have c27b0:decide (0≤(ji26))=true:=decide_eq_true c27
          clear c27
          by_cases c28:(ji26)<(y461.length:Int)
          ·rw[if_pos c28] at H
           have c28b0:decide ((ji26)<(y461.length:Int))=true:=decide_eq_true c28
           clear c28
           obtain⟨y464,hy464⟩:∃y_:List (S46),y_=(y461.set ((ji26):Int).toNat (⟨0,0⟩:S46)):=⟨_,rfl⟩
           replace H:((impl_StockFree.f kj7 t449 t450).bind fun t466=>((impl_StockOk.f kj7 t449 y464).bind fun t468=>(if t468=true then((impl_StockOk.f kj7 (wrap64 (t449 - t466)) t450).bind fun t469=>(if t469=true then((impl_StockFree.f kj7 (wrap64 (t449 - t466)) t450).bind fun t470=>(if t470=0 then((impl_StockOk.f kj7 (wrap64 ((wrap64 (t449 - t466)) - 1)) t450).bind fun t471=>(some (!t471))) else(some false))) else(some false))) else(some false))))=some r:=by first|(rw[hy464];with_reducible exact H)|(have H2_:=(Option.bind_some _ _).symm.trans H;rw[hy464];with_reducible exact H2_)|(have H2_:=(Option.bind_some _ _).symm.trans H;with_reducible exact H2_)|with_reducible exact H|(rw[hy464];exact H)|exact H
           have Ny464:=qal.mk hy464
           clear hy464
           replace H:=Option.bind_eq_some_iff.mp H
           obtain⟨t466,A300,H⟩:=H
           replace H:((impl_StockOk.f kj7 t449 y464).bind fun t468=>(if t468=true then((impl_StockOk.f kj7 (wrap64 (t449 - t466)) t450).bind fun t469=>(if t469=true then((impl_StockFree.f kj7 (wrap64 (t449 - t466)) t450).bind fun t470=>(if t470=0 then((impl_StockOk.f kj7 (wrap64 ((wrap64 (t449 - t466)) - 1)) t450).bind fun t471=>(some (!t471))) else(some false))) else(some false))) else(some false)))=some r:=H
           have A30:=qal.mk A300
           clear A300
           replace H:=Option.bind_eq_some_iff.mp H
           obtain⟨t468,A310,H⟩:=H
           replace H:(if t468=true then((impl_StockOk.f kj7 (wrap64 (t449 - t466)) t450).bind fun t469=>(if t469=true then((impl_StockFree.f kj7 (wrap64 (t449 - t466)) t450).bind fun t470=>(if t470=0 then((impl_StockOk.f kj7 (wrap64 ((wrap64 (t449 - t466)) - 1)) t450).bind fun t471=>(some (!t471))) else(some false))) else(some false))) else(some false))=some r:=H
           have A31:=qal.mk A310
           clear A310
           by_cases c32:t468=true
           ·subst c32
            have H1:((impl_StockOk.f kj7 (wrap64 (t449 - t466)) t450).bind fun t469=>(if t469=true then((impl_StockFree.f kj7 (wrap64 (t449 - t466)) t450).bind fun t470=>(if t470=0 then((impl_StockOk.f kj7 (wrap64 ((wrap64 (t449 - t466)) - 1)) t450).bind fun t471=>(some (!t471))) else(some false))) else(some false)))=some r:=by rw[if_pos rfl] at H;exact H
            clear H
            have H:=H1
            clear H1
            replace H:=Option.bind_eq_some_iff.mp H
            obtain⟨t469,A330,H⟩:=H
            replace H:(if t469=true then((impl_StockFree.f kj7 (wrap64 (t449 - t466)) t450).bind fun t470=>(if t470=0 then((impl_StockOk.f kj7 (wrap64 ((wrap64 (t449 - t466)) - 1)) t450).bind fun t471=>(some (!t471))) else(some false))) else(some false))=some r:=H
            have A33:=qal.mk A330
            clear A330
            by_cases c34:t469=true
            ·subst c34
             have H1:((impl_StockFree.f kj7 (wrap64 (t449 - t466)) t450).bind fun t470=>(if t470=0 then((impl_StockOk.f kj7 (wrap64 ((wrap64 (t449 - t466)) - 1)) t450).bind fun t471=>(some (!t471))) else(some false)))=some r:=by rw[if_pos rfl] at H;exact H
             clear H
             have H:=H1
             clear H1
             replace H:=Option.bind_eq_some_iff.mp H
             obtain⟨t470,A350,H⟩:=H
             replace H:(if t470=0 then((impl_StockOk.f kj7 (wrap64 ((wrap64 (t449 - t466)) - 1)) t450).bind fun t471=>(some (!t471))) else(some false))=some r:=H
             have A35:=qal.mk A350
             clear A350
             by_cases c36:t470=0
             ·rw[if_pos c36] at H
              have c36b0:(t470 == 0)=true:=beq_iff_eq.mpr c36
              have c36b1:(t470 != 0)=false:=bne_eq_false_iff_eq.mpr c36
              clear c36
              replace H:=Option.bind_eq_some_iff.mp H
              obtain⟨t471,A370,H⟩:=H
              replace H:(some (!t471))=some r:=H
              have A37:=qal.mk A370
              clear A370
              obtain rfl:=Option.some.inj H
              have hcz38_0:wc.cell? ⟨gb453,0,none⟩=some (.int .i64 t449):=(qab BK453.out 0).trans rfl
              have hcz38_1:wc.cell? ⟨gb453,1,none⟩=some (.slice Ao12 t450.length co12):=(qab BK453.out 1).trans rfl
              have hfz38_0:=qaa BK453.out 0
              have hfz38_1:=qaa BK453.out 1
              try go_wp2_with(first|((with_reducible refine qak (N:=8) rfl ?_);(try(refine qbc (by rfl) ?_;dsimp only));refine qaj ?hg (N:=8) ?hd (cs:=#[.int .i64 0,.slice none 0 0]) (t:=36) ?hr ?_;(case hd=>rfl);(case hg=>rfl);(case hr=>first|(go_simp;done)|(go_simp;rfl));intro gb457 hg w39 hbox hb;have n0_:=qal.mk (Kd.Q_below (za16 HO_454001) hb);have n1_:=qal.mk (qac (g:=gb453) (o:=.cells #[.int .i64 t449,.slice Ao12 t450.length co12] 36 (0,0)) (za0 BK453) hb);have n2_:=qal.mk (qae (za1 HB GE453) hb);have n3_:=qal.mk (hbox);have n4_:=qal.mk ((by rw[hg];exact(qad (za1 HB GE453)):w.heap.size≤gb457));have n5_:=qal.mk ((by rw[hg];exact(qad (za1 HB GE453)):w.heap.size≤gb457));have n6_:=qal.mk ((by rw[hg];exact Nat.ne_of_lt (qao (g:=gb453) (o:=.cells #[.int .i64 t449,.slice Ao12 t450.length co12] 36 (0,0)) (za0 BK453)):gb453≠gb457));have n7_:=qal.mk ((by rw[hg];exact Nat.ne_of_gt (qao (g:=gb453) (o:=.cells #[.int .i64 t449,.slice Ao12 t450.length co12] 36 (0,0)) (za0 BK453)):gb457≠gb453));clear HO_454001;clear BK453;clear HB;have HO_454001:=n0_;have BK453:=n1_;have HB:=n2_;have BK457:=n3_;have GW457:=n4_;have GE457:=n5_;have NB453_457:=n6_;have NB457_453:=n7_;clear n0_ n1_ n2_ n3_ n4_ n5_ n6_ n7_;clear hb hbox hg;have hnb40:=NB457_453.out;have hnc40:=NB453_457.out;have hcz41_0:w39.cell? ⟨gb457,0,none⟩=some (.int .i64 0):=(qab BK457.out 0).trans rfl;have hcz41_1:w39.cell? ⟨gb457,1,none⟩=some (.slice none 0 0):=(qab BK457.out 1).trans rfl;have hfz41_0:=qaa BK457.out 0;have hfz41_1:=qaa BK457.out 1)|((with_reducible refine qak (N:=42) rfl ?_);(try(refine qbc (by rfl) ?_;dsimp only));refine Kd.R_lit k46 _ 46 ?hg (N:=42) ?hd (xs:=([]:List (S46))) (inner:=[]) (ok:=fun _=>True) (okp:=fun _=>True) ?hr ?hp (fun _ hk=>hk) trivial (Below.refl _ _) (Nat.le_refl _) (by simp) ?_;(case hd=>rfl);(case hg=>rfl);(case hr=>first|(go_simp;done)|(go_simp;rfl));(case hp=>exact(Reps.none _ _));intro v459 w42 ho43 hb hg_ hnew_;clear hg_ hnew_;(first|rw[←Ny458.out] at ho43|(simp only[Int.reduceToNat] at ho43;rw[←Ny458.out] at ho43));have n0_:=qal.mk (Kd.Q_elder' (by(with_reducible repeat(first|apply Kd.Q_alloc|apply Kd.Q_drewN|apply Kd.Q_drew));exact(Kd.Q_mono (Kd.Q_far (p:=⟨gb457,1,none⟩) (Kd.Q_far (p:=⟨gb457,0,none⟩) (Kd.Q_types HO_454001.out BK457.out (by decide)) (fun _ hk=>hk.2) (.int .i64 t449)) (fun _ hk=>hk.2) (.slice Ao12 t450.length co12)) (fun _ h_=>h_.1))) (Kd.R_base ho43) hb);have n1_:=qal.mk (Kd.R_lower (Kd.R_new' ho43 (Kd.Q_lt (by(with_reducible repeat(first|apply Kd.Q_alloc|apply Kd.Q_drewN|apply Kd.Q_drew));exact(Kd.Q_mono (Kd.Q_far (p:=⟨gb457,1,none⟩) (Kd.Q_far (p:=⟨gb457,0,none⟩) (Kd.Q_types HO_454001.out BK457.out (by decide)) (fun _ hk=>hk.2) (.int .i64 t449)) (fun _ hk=>hk.2) (.slice Ao12 t450.length co12)) (fun _ h_=>h_.1))))) (qad (za3 HB GE453 GE457)));have n2_:=qal.mk (qac (g:=gb453) (o:=.cells #[.int .i64 t449,.slice Ao12 t450.length co12] 36 (0,0)) (za5 NB453_457 BK453) hb);have n3_:=qal.mk (qac (g:=gb457) (o:=.cells #[.int .i64 t449,.slice Ao12 t450.length co12] 36 (0,0)) (by(with_reducible repeat(first|refine qag ?_ _|refine qah ?_|refine qaf ?_ _));refine qan (cs:=#[.int .i64 t449,.slice none 0 0]) ?_ 1 _ rfl;(with_reducible repeat(first|refine qag ?_ _|refine qah ?_|refine qaf ?_ _));refine qan (cs:=#[.int .i64 0,.slice none 0 0]) ?_ 0 _ rfl;(with_reducible repeat(first|refine qag ?_ _|refine qah ?_|refine qaf ?_ _));exact BK457.out) hb);have n4_:=qal.mk (qae (za3 HB GE453 GE457) hb);clear HO_454001;clear BK453;clear BK457;clear HB;have HO_454001:=n0_;have HO460:=n1_;have BK453:=n2_;have BK457:=n3_;have HB:=n4_;clear n0_ n1_ n2_ n3_ n4_;clear hb ho43;have hcz44_0:w42.cell? ⟨gb453,0,none⟩=some (.int .i64 t449):=(qab BK453.out 0).trans rfl;have hcz44_1:w42.cell? ⟨gb453,1,none⟩=some (.slice Ao12 t450.length co12):=(qab BK453.out 1).trans rfl;have hfz44_0:=qaa BK453.out 0;have hfz44_1:=qaa BK453.out 1)|((with_reducible refine gate_builtin (b:=.append) (xs:=#[.tmp 42,.tmp 44]) rfl ?_);(try(refine qbc (by rfl) ?_;dsimp only));at_builtin;refine Kd.R_append_rows k46 (w0:=w) w.heap.size rfl (.tmp 42) (.tmp 44) 34 46 (.agg #[(.int .i64 0),(.int .i64 0)]) 16 rfl Try.underlying34 info46 rfl (by decide) (by omega) v459 y458 t450 _ _ _ (fun k_=>some k_≠(.slice Ao12 t450.length co12:Value).ownBlock) (fun _=>False) rfl rfl ?aO ?aR (fun _ _ h=>h) (fun _ h=>h.elim) ?aF ?aB ?aS ?aL ?_;(case aR=>repeat(first|exact(Kd.Q_reads' HO_454001.out).2.2|(with_reducible refine Kd.C_alloc ?_ _)|(with_reducible refine Kd.C_drewN ?_ _)|(with_reducible refine Kd.C_drew ?_)));(case aB=>exact(za3 HB GE453 GE457));(case aF=>exact(fun k_ hk=>Kd.fresh' (Kd.Q_lt (za16 HO_454001)) k_ hk));(case aO=>exact(by(with_reducible repeat(first|apply Kd.R_alloc|apply Kd.R_drewN|apply Kd.R_drew));exact Kd.R_mono HO460.out (fun _ hk=>hk.2)));(case aS=>exact(qad (za3 HB GE453 GE457)));(case aL=>have:=LMc25.out;omega);intro v462 w45 ho hb hg hat;rw[←Ny461.out] at ho;have n0_:=qal.mk (Kd.Q_after (ok:=(fun _=>True)) (za16 HO_454001) hg hat);have n1_:=qal.mk (qbb (g:=gb453) (o:=.cells #[.int .i64 t449,.slice Ao12 t450.length co12] 36 (0,0)) (za0 BK453) hg (Kd.R_ne HO460.out BK453.out (by decide)));have n2_:=qal.mk (qbb (g:=gb457) (o:=.cells #[.int .i64 t449,.slice Ao12 t450.length co12] 36 (0,0)) (za0 BK457) hg (Kd.R_ne HO460.out BK457.out (by decide)));have n3_:=qal.mk (hb);have n4_:=qal.mk (ho);clear HO_454001;clear BK453;clear BK457;clear HB;clear HO460;have HO_454001:=n0_;have BK453:=n1_;have BK457:=n2_;have HB:=n3_;have HO463:=n4_;clear n0_ n1_ n2_ n3_ n4_;clear ho hb hg hat;obtain⟨Ao46,co46,eo46⟩:=Kd.R_slice HO463.out;subst eo46;have hcz47_0:w45.cell? ⟨gb457,0,none⟩=some (.int .i64 t449):=(qab BK457.out 0).trans rfl;have hcz47_1:w45.cell? ⟨gb457,1,none⟩=some (.slice Ao12 t450.length co12):=(qab BK457.out 1).trans rfl;have hfz47_0:=qaa BK457.out 0;have hfz47_1:=qaa BK457.out 1)|((with_reducible refine gate_store (t:=34) (p:=46) rfl ?_);refine store_event (t:=34) (p:=46) (v:=?vo_w48) (w1:=(w45.setCell ⟨gb457,1,none⟩ (.slice Ao46 y461.length co46))) ?hg ?ho ?hn ?hr ?_;(case ho=>rfl);(case hg=>rfl);(case hn=>rfl);(case hr=>first|(go_simp;done)|(go_simp;rfl));intro w48 hw;have n0_:qal (Kd.Q k46 46 w48 w.heap.size (fun k_=>some k_≠(.slice Ao46 y461.length co46:Value).ownBlock) (.slice Ao12 t450.length co12) t450):=⟨(by rw[hw];exact(by(with_reducible repeat(first|apply Kd.Q_alloc|apply Kd.Q_drewN|apply Kd.Q_drew));exact Kd.Q_mono (Kd.Q_far (p:=⟨gb457,1,none⟩) (Kd.Q_types HO_454001.out BK457.out (by decide)) (fun _ hk=>hk.2) (.slice Ao46 y461.length co46)) (fun _ hk=>hk.1.2)))⟩;have n1_:qal (Kd.R k46 46 w48 w.heap.size (fun k_=>some k_≠(.slice Ao12 t450.length co12:Value).ownBlock) (.slice Ao46 y461.length co46) y461):=⟨(by rw[hw];exact(by(with_reducible repeat(first|apply Kd.R_alloc|apply Kd.R_drewN|apply Kd.R_drew));exact Kd.R_mono (Kd.R_far (p:=⟨gb457,1,none⟩) (Kd.R_types HO463.out BK457.out (by decide)) (fun _ hk=>hk.2) (.slice Ao46 y461.length co46)) (fun _ hk=>hk.1)))⟩;have n2_:qal (w48.heap[gb453]?=some (.cells #[.int .i64 t449,.slice Ao12 t450.length co12] 36 (0,0))):=⟨(by rw[hw];exact(za14 NB453_457 BK453))⟩;have n3_:qal (w48.heap[gb457]?=some (.cells #[.int .i64 t449,.slice Ao46 y461.length co46] 36 (0,0))):=⟨(by rw[hw];exact(by(with_reducible repeat(first|refine qag ?_ _|refine qah ?_|refine qaf ?_ _));refine qan (cs:=#[.int .i64 t449,.slice Ao12 t450.length co12]) ?_ 1 _ rfl;(with_reducible repeat(first|refine qag ?_ _|refine qah ?_|refine qaf ?_ _));exact BK457.out))⟩;have n4_:qal (Below w.heap.size w w48):=⟨(by rw[hw];exact(za3 HB GE453 GE457))⟩;clear hw;clear HO_454001;clear HO463;clear BK453;clear BK457;clear HB;have HO_454001:=n0_;have HO463:=n1_;have BK453:=n2_;have BK457:=n3_;have HB:=n4_;clear n0_ n1_ n2_ n3_ n4_;have hcz49_0:w48.cell? ⟨gb457,0,none⟩=some (.int .i64 t449):=(qab BK457.out 0).trans rfl;have hcz49_1:w48.cell? ⟨gb457,1,none⟩=some (.slice Ao46 y461.length co46):=(qab BK457.out 1).trans rfl;have hfz49_0:=qaa BK457.out 0;have hfz49_1:=qaa BK457.out 1;have p29:0≤((ji26):Int):=of_decide_eq_true (za8);have q29:((ji26):Int)<((y461.length:Int):Int):=of_decide_eq_true (za8);obtain⟨go29,co29,eo29,gb29,gl29,cl29,HG29⟩:=Kd.R_form HO463.out (by omega);(first|cases eo29|(injection eo29 with ea_ en_ ec_;(first|subst ea_|(injection ea_ with ea_;subst ea_));subst ec_;clear en_));have GB29:=qal.mk gb29;have GG29:=qal.mk HG29;clear gb29 gl29 HG29;obtain⟨ce29,hcl29,hM29,hcc29,hfr29⟩:=Kd.R_elem HO463.out z46 ((ji26):Int) p29 q29;obtain rfl:=k46_openM hM29;have hx29_0:w48.cell? ⟨go29,((ji26):Int).toNat*2,none⟩=some (.int .i64 ((rd_T46 y461 (ji26)).f0)):=hcc29 0 _ rfl;have hx29_1:w48.cell? ⟨go29,((ji26):Int).toNat*2+1,none⟩=some (.int .i64 ((rd_T46 y461 (ji26)).f1)):=hcc29 1 _ rfl;have hf29_0:w48.frozen? ⟨go29,((ji26):Int).toNat*2,none⟩=false:=hfr29 0;have hf29_1:w48.frozen? ⟨go29,((ji26):Int).toNat*2+1,none⟩=false:=hfr29 1;clear hcl29 hcc29 hfr29 hM29;replace p29:=eq_true p29;replace q29:=eq_true q29;have HX50:=qal.mk (show Kd.R k46 46 w48 w.heap.size (fun k_=>some k_≠(.slice Ao12 t450.length co12:Value).ownBlock) (.slice (some ⟨go29,0,none⟩) y461.length co46) y461 from(za4 HO463));obtain⟨ce50,hcl50,hM50,hcc50,hfr50⟩:=Kd.R_elem HX50.out z46 ((ji26):Int) (of_decide_eq_true (za8)) (by have h_:((ji26):Int)<((y461.length:Int):Int):=of_decide_eq_true (za8);first|exact h_|(have e_:=(Kd.R_reads' HO463.out).1;omega)|simpa using h_);obtain rfl:=k46_openM hM50;have HP50:=Kd.R_seg HX50.out ((ji26):Int) (of_decide_eq_true (za8)) (by have h_:((ji26):Int)<((y461.length:Int):Int):=of_decide_eq_true (za8);first|exact h_|(have e_:=(Kd.R_reads' HO463.out).1;omega)|simpa using h_) (seg:=[.int .i64 0,.int .i64 0]) (j:=0) hcl50 hcc50 (show 2≤2 from by decide) (x':=(⟨0,0⟩:S46)) (k46_mkM _ _ _ (⟨0,0⟩:S46) ) (fun _ hk=>hk);have hx50_0:=hcc50 0 _ rfl;(try simp only[show(k46).sz=2 from rfl,Nat.mul_one,Nat.add_zero] at hx50_0);have hf50_0:=hfr50 0;(try simp only[show(k46).sz=2 from rfl,Nat.mul_one,Nat.add_zero] at hf50_0);have hx50_1:=hcc50 1 _ rfl;(try simp only[show(k46).sz=2 from rfl,Nat.mul_one,Nat.add_zero] at hx50_1);have hf50_1:=hfr50 1;(try simp only[show(k46).sz=2 from rfl,Nat.mul_one,Nat.add_zero] at hf50_1);clear hcl50 hcc50 hfr50 hM50)|((with_reducible refine gate_store (t:=46) (p:=51) rfl ?_);refine store_event (t:=46) (p:=51) (v:=?vo_w51) (w1:=((w48.setCell ⟨go29,((ji26):Int).toNat*2,none⟩ (.int .i64 0)).setCell ⟨go29,((ji26):Int).toNat*2+1,none⟩ (.int .i64 0))) ?hg ?ho ?hn ?hr ?_;(case ho=>rfl);(case hg=>rfl);(case hn=>rfl);(case hr=>first|(go_simp;done)|(go_simp;rfl));intro w51 hw;have hg:w48.grownBy w51 (some go29):=(by rw[hw];exact HP50.2);have hp_:Kd.R k46 46 w51 w.heap.size (fun k_=>some k_≠(.slice Ao12 t450.length co12:Value).ownBlock) (.slice (some ⟨go29,0,none⟩) y461.length co46) y464:=(by rw[hw,Ny464.out];exact HP50.1);clear HP50;have n0_:=qal.mk (Kd.Q_after (v:=(.slice (some ⟨go29,0,none⟩) y461.length co46)) (v1:=(.slice (some ⟨go29,0,none⟩) y461.length co46)) (ok:=(fun _=>True)) (by(with_reducible repeat(first|apply Kd.Q_alloc|apply Kd.Q_drewN|apply Kd.Q_drew));exact Kd.Q_mono HO_454001.out (fun _ hk=>⟨trivial,hk⟩)) hg (.inl rfl));have n1_:=qal.mk (qbb (g:=gb453) (o:=.cells #[.int .i64 t449,.slice Ao12 t450.length co12] 36 (0,0)) (za0 BK453) hg (Kd.R_ne HO463.out BK453.out (by decide)));have n2_:=qal.mk (qbb (g:=gb457) (o:=.cells #[.int .i64 t449,.slice (some ⟨go29,0,none⟩) y461.length co46] 36 (0,0)) (za0 BK457) hg (Kd.R_ne HO463.out BK457.out (by decide)));have n3_:=qal.mk (hp_);have n4_:=qal.mk ((by rw[hw];exact qam (qam (HB.out) GB29.out) GB29.out:Below w.heap.size w w51));clear HO_454001;clear BK453;clear BK457;clear HO463;clear HB;have HO_454001:=n0_;have BK453:=n1_;have BK457:=n2_;have HO463:=n3_;have HB:=n4_;clear n0_ n1_ n2_ n3_ n4_;clear hg hw hp_;have hcz52_0:w51.cell? ⟨gb453,0,none⟩=some (.int .i64 t449):=(qab BK453.out 0).trans rfl;have hcz52_1:w51.cell? ⟨gb453,1,none⟩=some (.slice Ao12 t450.length co12):=(qab BK453.out 1).trans rfl;have hfz52_0:=qaa BK453.out 0;have hfz52_1:=qaa BK453.out 1)|((with_reducible refine qak (N:=9) rfl ?_);(try(refine qbc (by rfl) ?_;dsimp only));refine qaj ?hg (N:=9) ?hd (cs:=#[.int .i64 0,.slice none 0 0]) (t:=36) ?hr ?_;(case hd=>rfl);(case hg=>rfl);(case hr=>first|(go_simp;done)|(go_simp;rfl));intro gb465 hg w53 hbox hb;have n0_:=qal.mk (Kd.Q_below (za16 HO_454001) hb);have n1_:=qal.mk (Kd.R_below (za4 HO463) hb);have n2_:=qal.mk (qac (g:=gb453) (o:=.cells #[.int .i64 t449,.slice Ao12 t450.length co12] 36 (0,0)) (za0 BK453) hb);have n3_:=qal.mk (qac (g:=gb457) (o:=.cells #[.int .i64 t449,.slice (some ⟨go29,0,none⟩) y461.length co46] 36 (0,0)) (za0 BK457) hb);have n4_:=qal.mk (qae (za3 HB GE453 GE457) hb);have n5_:=qal.mk (hbox);have n6_:=qal.mk ((by rw[hg];exact(qad (za3 HB GE453 GE457)):w.heap.size≤gb465));have n7_:=qal.mk ((by rw[hg];exact(qad (za3 HB GE453 GE457)):w.heap.size≤gb465));have n8_:=qal.mk ((by rw[hg];exact Nat.ne_of_lt (qao (g:=gb453) (o:=.cells #[.int .i64 t449,.slice Ao12 t450.length co12] 36 (0,0)) (za0 BK453)):gb453≠gb465));have n9_:=qal.mk ((by rw[hg];exact Nat.ne_of_gt (qao (g:=gb453) (o:=.cells #[.int .i64 t449,.slice Ao12 t450.length co12] 36 (0,0)) (za0 BK453)):gb465≠gb453));have n10_:=qal.mk ((by rw[hg];exact Nat.ne_of_lt (qao (g:=gb457) (o:=.cells #[.int .i64 t449,.slice (some ⟨go29,0,none⟩) y461.length co46] 36 (0,0)) (za0 BK457)):gb457≠gb465));have n11_:=qal.mk ((by rw[hg];exact Nat.ne_of_gt (qao (g:=gb457) (o:=.cells #[.int .i64 t449,.slice (some ⟨go29,0,none⟩) y461.length co46] 36 (0,0)) (za0 BK457)):gb465≠gb457));clear HO_454001;clear HO463;clear BK453;clear BK457;clear HB;have HO_454001:=n0_;have HO463:=n1_;have BK453:=n2_;have BK457:=n3_;have HB:=n4_;have BK465:=n5_;have GW465:=n6_;have GE465:=n7_;have NB453_465:=n8_;have NB465_453:=n9_;have NB457_465:=n10_;have NB465_457:=n11_;clear n0_ n1_ n2_ n3_ n4_ n5_ n6_ n7_ n8_ n9_ n10_ n11_;clear hb hbox hg;have hnb54:=NB465_453.out;have hnc54:=NB453_465.out;have hnb55:=NB465_457.out;have hnc55:=NB457_465.out;have hcz56_0:w53.cell? ⟨gb465,0,none⟩=some (.int .i64 0):=(qab BK465.out 0).trans rfl;have hcz56_1:w53.cell? ⟨gb465,1,none⟩=some (.slice none 0 0):=(qab BK465.out 1).trans rfl;have hfz56_0:=qaa BK465.out 0;have hfz56_1:=qaa BK465.out 1))
              have n0_:qal (Kd.Q k46 46 ((w53.setCell ⟨gb465,0,none⟩ (.int .i64 t449)).setCell ⟨gb465,1,none⟩ (.slice Ao12 t450.length co12)) w.heap.size (fun k_=>some k_≠(.slice (some ⟨go29,0,none⟩) y461.length co46:Value).ownBlock) (.slice Ao12 t450.length co12) t450):=⟨by(with_reducible repeat(first|apply Kd.Q_alloc|apply Kd.Q_drewN|apply Kd.Q_drew));exact Kd.Q_mono (Kd.Q_far (p:=⟨gb465,1,none⟩) (Kd.Q_far (p:=⟨gb465,0,none⟩) (Kd.Q_types HO_454001.out BK465.out (by decide)) (fun _ hk=>hk.2) (.int .i64 t449)) (fun _ hk=>hk.2) (.slice Ao12 t450.length co12)) (fun _ hk=>hk.1.2)⟩
              have n1_:qal (Kd.R k46 46 ((w53.setCell ⟨gb465,0,none⟩ (.int .i64 t449)).setCell ⟨gb465,1,none⟩ (.slice Ao12 t450.length co12)) w.heap.size (fun k_=>some k_≠(.slice Ao12 t450.length co12:Value).ownBlock) (.slice (some ⟨go29,0,none⟩) y461.length co46) y464):=⟨by(with_reducible repeat(first|apply Kd.R_alloc|apply Kd.R_drewN|apply Kd.R_drew));exact Kd.R_mono (Kd.R_far (p:=⟨gb465,1,none⟩) (Kd.R_far (p:=⟨gb465,0,none⟩) (Kd.R_types HO463.out BK465.out (by decide)) (fun _ hk=>hk.2) (.int .i64 t449)) (fun _ hk=>hk.2) (.slice Ao12 t450.length co12)) (fun _ hk=>hk.1)⟩
              have n2_:qal (((w53.setCell ⟨gb465,0,none⟩ (.int .i64 t449)).setCell ⟨gb465,1,none⟩ (.slice Ao12 t450.length co12)).heap[gb453]?=some (.cells #[.int .i64 t449,.slice Ao12 t450.length co12] 36 (0,0))):=⟨za5 NB453_465 BK453⟩
              have n3_:qal (((w53.setCell ⟨gb465,0,none⟩ (.int .i64 t449)).setCell ⟨gb465,1,none⟩ (.slice Ao12 t450.length co12)).heap[gb457]?=some (.cells #[.int .i64 t449,.slice (some ⟨go29,0,none⟩) y461.length co46] 36 (0,0))):=⟨za5 NB457_465 BK457⟩
              have n4_:qal (((w53.setCell ⟨gb465,0,none⟩ (.int .i64 t449)).setCell ⟨gb465,1,none⟩ (.slice Ao12 t450.length co12)).heap[gb465]?=some (.cells #[.int .i64 t449,.slice Ao12 t450.length co12] 36 (0,0))):=⟨by(with_reducible repeat(first|refine qag ?_ _|refine qah ?_|refine qaf ?_ _));refine qan (cs:=#[.int .i64 t449,.slice none 0 0]) ?_ 1 _ rfl;(with_reducible repeat(first|refine qag ?_ _|refine qah ?_|refine qaf ?_ _));refine qan (cs:=#[.int .i64 0,.slice none 0 0]) ?_ 0 _ rfl;(with_reducible repeat(first|refine qag ?_ _|refine qah ?_|refine qaf ?_ _));exact BK465.out⟩
              have n5_:qal (Below w.heap.size w ((w53.setCell ⟨gb465,0,none⟩ (.int .i64 t449)).setCell ⟨gb465,1,none⟩ (.slice Ao12 t450.length co12))):=⟨za6 HB GE453 GE457 GE465⟩
              (try clear HO_454001)
              (try clear HO463)
              (try clear BK453)
              (try clear BK457)
              (try clear BK465)
              (try clear HB)
              generalize ((w53.setCell ⟨gb465,0,none⟩ (.int .i64 t449)).setCell ⟨gb465,1,none⟩ (.slice Ao12 t450.length co12))=w57 at n0_ n1_ n2_ n3_ n4_ n5_ ⊢
              have HO_454001:=n0_
              have HO463:=n1_
              have BK453:=n2_
              have BK457:=n3_
              have BK465:=n4_
              have HB:=n5_
              clear n0_ n1_ n2_ n3_ n4_ n5_
              have n0_:=qal.mk (Kd.Q_drew HO_454001.out)
              have n1_:=qal.mk (Kd.R_drew HO463.out)
              have n2_:=qal.mk (qah BK453.out)
              have n3_:=qal.mk (qah BK457.out)
              have n4_:=qal.mk (qah BK465.out)
              have n5_:=qal.mk (qaq HB.out)
              clear HO_454001
              clear HO463
              clear BK453
              clear BK457
              clear BK465
              clear HB
              have HO_454001:=n0_
              have HO463:=n1_
              have BK453:=n2_
              have BK457:=n3_
              have BK465:=n4_
              have HB:=n5_
              clear n0_ n1_ n2_ n3_ n4_ n5_
              refine start_ (n:=7) (S:=fun w'=>w'.cell? ⟨gb453,0,none⟩=some (.int .i64 t449)∧w'.cell? ⟨gb453,1,none⟩=some (.slice Ao12 t450.length co12)) (ds:=[]) #[false,false,false,false,false,false,false] (by kernel_rfl) rfl rfl ⟨(qab BK453.out 0).trans rfl,(qab BK453.out 1).trans rfl⟩ (fun hHeld=>?_)
              generalize w57.drew=w58 at HO_454001 HO463 BK453 BK457 BK465 HB hHeld ⊢
              refine qaz (i:=0) (N:=some 53) (v:=?_) (a':=?_) #[true,false,false,false,false,false,false] rfl rfl (by kernel_rfl) (fun _ _ _ h=>h) (Or.inl ⟨by rfl,?_⟩) ?_ ?_
              rotate_left
              ·intro w'
               go_simp
               with_reducible rfl
              rotate_left
              ·simp only[Act.put,List.setIfInBounds_toArray,List.set_cons_zero,List.set_cons_succ,qas,qat]
               rfl
              refine take_ (i:=1) (N:=some 54) (v:=?_) (a':=?_) #[true,true,false,false,false,false,false] rfl rfl (by kernel_rfl) (fun _ _ _ h=>h) (Or.inl ⟨by rfl,?_⟩) hHeld ?_ ?_
              rotate_left
              ·rintro w' ⟨s0,s1⟩
               go_simp
               with_reducible rfl
              rotate_left
              ·simp only[Act.put,List.setIfInBounds_toArray,List.set_cons_zero,List.set_cons_succ,qas,qat]
               rfl
              refine take_ (i:=2) (N:=some 55) (v:=?_) (a':=?_) #[true,true,true,false,false,false,false] rfl rfl (by kernel_rfl) (fun _ _ _ h=>h) (Or.inl ⟨by rfl,?_⟩) hHeld ?_ ?_
              rotate_left
              ·rintro w' ⟨s0,s1⟩
               go_simp
               with_reducible rfl
              rotate_left
              ·simp only[Act.put,List.setIfInBounds_toArray,List.set_cons_zero,List.set_cons_succ,qas,qat]
               rfl
              refine one_ (i:=3) (N:=some 56) #[true,true,true,true,false,false,false] rfl rfl (by kernel_rfl) (by decide) (fun K hK=>?_)
              refine goes_ Try.func26 (by kernel_rfl) rfl #[.agg #[.int .i64 t449,.slice Ao12 t450.length co12]] (by rfl) rfl rfl (by(try simp only[List.map_toArray,List.map_cons,List.map_nil]);first|done|rfl|(simp only[List.length_drop,List.length_take];rfl)) ?_
              with_reducible refine(impl_StockFree.calls kj7 t449 _ _ t450 t466 _ ?side1 ?side2 A30.out).mono ?_
              (case side1=>repeat(first|exact(Kd.Q_reads' HO_454001.out).2.2|(with_reducible refine Kd.C_alloc ?_ _)|(with_reducible refine Kd.C_drewN ?_ _)|(with_reducible refine Kd.C_drew ?_)))
              (case side2=>exact(Kd.Q_reads' HO_454001.out).2.1)
              rintro e w59 ⟨rfl,hb⟩
              refine⟨_,rfl,?_⟩
              have n0_:=qal.mk (Kd.Q_below (za16 HO_454001) hb)
              have n1_:=qal.mk (Kd.R_below (za4 HO463) hb)
              have n2_:=qal.mk (qac (g:=gb453) (o:=.cells #[.int .i64 t449,.slice Ao12 t450.length co12] 36 (0,0)) (za0 BK453) hb)
              have n3_:=qal.mk (qac (g:=gb457) (o:=.cells #[.int .i64 t449,.slice (some ⟨go29,0,none⟩) y461.length co46] 36 (0,0)) (za0 BK457) hb)
              have n4_:=qal.mk (qac (g:=gb465) (o:=.cells #[.int .i64 t449,.slice Ao12 t450.length co12] 36 (0,0)) (za0 BK465) hb)
              have n5_:=qal.mk (qae (za6 HB GE453 GE457 GE465) hb)
              clear HO_454001
              clear HO463
              clear BK453
              clear BK457
              clear BK465
              clear HB
              have HO_454001:=n0_
              have HO463:=n1_
              have BK453:=n2_
              have BK457:=n3_
              have BK465:=n4_
              have HB:=n5_
              clear n0_ n1_ n2_ n3_ n4_ n5_
              (try clear hb)
              (try clear hb2)
              (try clear hk)
              (try clear hi)
              refine hK.out _ _ ⟨(qab BK453.out 0).trans rfl,(qab BK453.out 1).trans rfl⟩ (fun hHeld=>?_)
              clear hK K
              refine norm_ (a':=?_) ?_ ?_
              rotate_left
              ·show Act.put _ (some 56) _=_
               simp only[Act.put,List.setIfInBounds_toArray,List.set_cons_zero,List.set_cons_succ,qas,qat]
               rfl
              refine qaz (i:=4) (N:=some 57) (v:=?_) (a':=?_) #[true,true,true,true,true,false,false] rfl rfl (by kernel_rfl) (fun _ _ _ h=>h) (Or.inl ⟨by rfl,?_⟩) ?_ ?_
              rotate_left
              ·intro w'
               go_simp
               with_reducible rfl
              rotate_left
              ·simp only[Act.put,List.setIfInBounds_toArray,List.set_cons_zero,List.set_cons_succ,qas,qat]
               rfl
              refine qaz (i:=5) (N:=some 58) (v:=?_) (a':=?_) #[true,true,true,true,true,true,false] rfl rfl (by kernel_rfl) (fun _ _ _ h=>h) (Or.inl ⟨by rfl,?_⟩) ?_ ?_
              rotate_left
              ·intro w'
               go_simp
               with_reducible rfl
              rotate_left
              ·simp only[Act.put,List.setIfInBounds_toArray,List.set_cons_zero,List.set_cons_succ,qas,qat]
               rfl
              refine one_ (i:=6) (N:=none) #[true,true,true,true,true,true,true] rfl rfl (by kernel_rfl) (by decide) (fun K hK=>?_)
              have hs60:w59.cell? ⟨gb465,0,none⟩=some (.int .i64 t449):=(qab BK465.out 0).trans rfl
              have hfs60:=qaa BK465.out 0
              have hns60_0:=NB453_465.out
              have hns60_1:=NB457_465.out
              have hms60_0:=NB465_453.out
              have hms60_1:=NB465_457.out
              refine skip_ (w1:=?_) (by rfl) rfl ?_ ?_
              rotate_left
              ·go_simp
               rfl
              refine hK.out _ _ ⟨((qay (p:=⟨gb465,_,none⟩) NB453_465.out _).trans (hHeld.1)),((qay (p:=⟨gb465,_,none⟩) NB453_465.out _).trans (hHeld.2))⟩ (fun hHeld=>?_)
              clear hK K
              refine done_ (by kernel_rfl) ?_
              have hcz61_0:w59.cell? ⟨gb465,0,none⟩=some (.int .i64 t449):=(qab BK465.out 0).trans rfl
              have hcz61_1:w59.cell? ⟨gb465,1,none⟩=some (.slice Ao12 t450.length co12):=(qab BK465.out 1).trans rfl
              have hfz61_0:=qaa BK465.out 0
              have hfz61_1:=qaa BK465.out 1
              try go_wp2_with(first|((with_reducible refine qak (N:=10) rfl ?_);(try(refine qbc (by rfl) ?_;dsimp only));refine qaj ?hg (N:=10) ?hd (cs:=#[.int .i64 0,.slice none 0 0]) (t:=36) ?hr ?_;(case hd=>rfl);(case hg=>rfl);(case hr=>first|(go_simp;done)|(go_simp;rfl));intro gb467 hg w62 hbox hb;have n0_:=qal.mk (Kd.Q_below (by(with_reducible repeat(first|apply Kd.Q_alloc|apply Kd.Q_drewN|apply Kd.Q_drew));exact(Kd.Q_mono (Kd.Q_far (p:=⟨gb465,0,none⟩) (Kd.Q_types HO_454001.out BK465.out (by decide)) (fun _ hk=>hk.2) (.int .i64 (wrap64 (t449 - t466)))) (fun _ h_=>h_.1))) hb);have n1_:=qal.mk (Kd.R_below (by(with_reducible repeat(first|apply Kd.R_alloc|apply Kd.R_drewN|apply Kd.R_drew));exact(Kd.R_mono (Kd.R_far (p:=⟨gb465,0,none⟩) (Kd.R_types HO463.out BK465.out (by decide)) (fun _ hk=>hk.2) (.int .i64 (wrap64 (t449 - t466)))) (fun _ h_=>h_.1))) hb);have n2_:=qal.mk (qac (g:=gb453) (o:=.cells #[.int .i64 t449,.slice Ao12 t450.length co12] 36 (0,0)) (za14 NB453_465 BK453) hb);have n3_:=qal.mk (qac (g:=gb457) (o:=.cells #[.int .i64 t449,.slice (some ⟨go29,0,none⟩) y461.length co46] 36 (0,0)) (za14 NB457_465 BK457) hb);have n4_:=qal.mk (qac (g:=gb465) (o:=.cells #[.int .i64 (wrap64 (t449 - t466)),.slice Ao12 t450.length co12] 36 (0,0)) (by(with_reducible repeat(first|refine qag ?_ _|refine qah ?_|refine qaf ?_ _));refine qan (cs:=#[.int .i64 t449,.slice Ao12 t450.length co12]) ?_ 0 _ rfl;(with_reducible repeat(first|refine qag ?_ _|refine qah ?_|refine qaf ?_ _));exact BK465.out) hb);have n5_:=qal.mk (qae (za6 HB GE453 GE457 GE465) hb);have n6_:=qal.mk (hbox);have n7_:=qal.mk ((by rw[hg];exact(qad (za6 HB GE453 GE457 GE465)):w.heap.size≤gb467));have n8_:=qal.mk ((by rw[hg];exact(qad (za6 HB GE453 GE457 GE465)):w.heap.size≤gb467));have n9_:=qal.mk ((by rw[hg];exact Nat.ne_of_lt (qao (g:=gb453) (o:=.cells #[.int .i64 t449,.slice Ao12 t450.length co12] 36 (0,0)) (za14 NB453_465 BK453)):gb453≠gb467));have n10_:=qal.mk ((by rw[hg];exact Nat.ne_of_gt (qao (g:=gb453) (o:=.cells #[.int .i64 t449,.slice Ao12 t450.length co12] 36 (0,0)) (za14 NB453_465 BK453)):gb467≠gb453));have n11_:=qal.mk ((by rw[hg];exact Nat.ne_of_lt (qao (g:=gb457) (o:=.cells #[.int .i64 t449,.slice (some ⟨go29,0,none⟩) y461.length co46] 36 (0,0)) (za14 NB457_465 BK457)):gb457≠gb467));have n12_:=qal.mk ((by rw[hg];exact Nat.ne_of_gt (qao (g:=gb457) (o:=.cells #[.int .i64 t449,.slice (some ⟨go29,0,none⟩) y461.length co46] 36 (0,0)) (za14 NB457_465 BK457)):gb467≠gb457));have n13_:=qal.mk ((by rw[hg];exact Nat.ne_of_lt (qao (g:=gb465) (o:=.cells #[.int .i64 (wrap64 (t449 - t466)),.slice Ao12 t450.length co12] 36 (0,0)) (by(with_reducible repeat(first|refine qag ?_ _|refine qah ?_|refine qaf ?_ _));refine qan (cs:=#[.int .i64 t449,.slice Ao12 t450.length co12]) ?_ 0 _ rfl;(with_reducible repeat(first|refine qag ?_ _|refine qah ?_|refine qaf ?_ _));exact BK465.out)):gb465≠gb467));have n14_:=qal.mk ((by rw[hg];exact Nat.ne_of_gt (qao (g:=gb465) (o:=.cells #[.int .i64 (wrap64 (t449 - t466)),.slice Ao12 t450.length co12] 36 (0,0)) (by(with_reducible repeat(first|refine qag ?_ _|refine qah ?_|refine qaf ?_ _));refine qan (cs:=#[.int .i64 t449,.slice Ao12 t450.length co12]) ?_ 0 _ rfl;(with_reducible repeat(first|refine qag ?_ _|refine qah ?_|refine qaf ?_ _));exact BK465.out)):gb467≠gb465));clear HO_454001;clear HO463;clear BK453;clear BK457;clear BK465;clear HB;have HO_454001:=n0_;have HO463:=n1_;have BK453:=n2_;have BK457:=n3_;have BK465:=n4_;have HB:=n5_;have BK467:=n6_;have GW467:=n7_;have GE467:=n8_;have NB453_467:=n9_;have NB467_453:=n10_;have NB457_467:=n11_;have NB467_457:=n12_;have NB465_467:=n13_;have NB467_465:=n14_;clear n0_ n1_ n2_ n3_ n4_ n5_ n6_ n7_ n8_ n9_ n10_ n11_ n12_ n13_ n14_;clear hb hbox hg;have hnb63:=NB467_453.out;have hnc63:=NB453_467.out;have hnb64:=NB467_457.out;have hnc64:=NB457_467.out;have hnb65:=NB467_465.out;have hnc65:=NB465_467.out;have hcz66_0:w62.cell? ⟨gb467,0,none⟩=some (.int .i64 0):=(qab BK467.out 0).trans rfl;have hcz66_1:w62.cell? ⟨gb467,1,none⟩=some (.slice none 0 0):=(qab BK467.out 1).trans rfl;have hfz66_0:=qaa BK467.out 0;have hfz66_1:=qaa BK467.out 1;have hcz67_0:w62.cell? ⟨gb465,0,none⟩=some (.int .i64 (wrap64 (t449 - t466))):=(qab BK465.out 0).trans rfl;have hcz67_1:w62.cell? ⟨gb465,1,none⟩=some (.slice Ao12 t450.length co12):=(qab BK465.out 1).trans rfl;have hfz67_0:=qaa BK465.out 0;have hfz67_1:=qaa BK465.out 1;have hcz68_0:w62.cell? ⟨gb457,0,none⟩=some (.int .i64 t449):=(qab BK457.out 0).trans rfl;have hcz68_1:w62.cell? ⟨gb457,1,none⟩=some (.slice (some ⟨go29,0,none⟩) y461.length co46):=(qab BK457.out 1).trans rfl;have hfz68_0:=qaa BK457.out 0;have hfz68_1:=qaa BK457.out 1)|((with_reducible refine qai (f:=25) rfl ?_);refine qau (some 65) rfl rfl Try.func25 (by kernel_rfl) rfl #[.agg #[.int .i64 t449,.slice (some ⟨go29,0,none⟩) y464.length co46]] rfl (by(try simp only[List.map_toArray,List.map_cons,List.map_nil]);first|done|(rw[show y464.length=y461.length from(Kd.R_reads' HO463.out).1.symm]<;>rfl)|rfl|(simp only[List.length_drop,List.length_take];rfl)) ?_;(with_reducible refine(impl_StockOk.calls kj7 t449 _ _ y464 true _ ?side1 ?side2 A31.out).mono ?_);(case side1=>refine(Kd.R_reads' (e:=46) (base:=w.heap.size) (ok:=fun k_=>some k_≠(.slice Ao12 t450.length co12:Value).ownBlock) (n:=y461.length) (c:=co46) ?_).2.2;exact(by(with_reducible repeat(first|apply Kd.R_alloc|apply Kd.R_drewN|apply Kd.R_drew));exact(Kd.R_mono (Kd.R_far (p:=⟨gb467,0,none⟩) (Kd.R_far (p:=⟨gb467,1,none⟩) (Kd.R_far (p:=⟨gb467,0,none⟩) (Kd.R_types HO463.out BK467.out (by decide)) (fun _ hk=>hk.2) (.int .i64 (wrap64 (t449 - t466)))) (fun _ hk=>hk.2) (.slice Ao12 t450.length co12)) (fun _ hk=>hk.2) (.int .i64 (wrap64 ((wrap64 (t449 - t466)) - 1)))) (fun _ h_=>h_.1))));(case side2=>rw[show y464.length=y461.length from(Kd.R_reads' HO463.out).1.symm];exact(Kd.R_reads' HO463.out).2.1);rintro e w69 ⟨rfl,hb⟩;refine⟨_,rfl,?_⟩;have n0_:=qal.mk (Kd.Q_below (by(with_reducible repeat(first|apply Kd.Q_alloc|apply Kd.Q_drewN|apply Kd.Q_drew));exact(Kd.Q_mono (Kd.Q_far (p:=⟨gb467,0,none⟩) (Kd.Q_far (p:=⟨gb467,1,none⟩) (Kd.Q_far (p:=⟨gb467,0,none⟩) (Kd.Q_types HO_454001.out BK467.out (by decide)) (fun _ hk=>hk.2) (.int .i64 (wrap64 (t449 - t466)))) (fun _ hk=>hk.2) (.slice Ao12 t450.length co12)) (fun _ hk=>hk.2) (.int .i64 (wrap64 ((wrap64 (t449 - t466)) - 1)))) (fun _ h_=>h_.1))) hb);have n1_:=qal.mk (Kd.R_below (by(with_reducible repeat(first|apply Kd.R_alloc|apply Kd.R_drewN|apply Kd.R_drew));exact(Kd.R_mono (Kd.R_far (p:=⟨gb467,0,none⟩) (Kd.R_far (p:=⟨gb467,1,none⟩) (Kd.R_far (p:=⟨gb467,0,none⟩) (Kd.R_types HO463.out BK467.out (by decide)) (fun _ hk=>hk.2) (.int .i64 (wrap64 (t449 - t466)))) (fun _ hk=>hk.2) (.slice Ao12 t450.length co12)) (fun _ hk=>hk.2) (.int .i64 (wrap64 ((wrap64 (t449 - t466)) - 1)))) (fun _ h_=>h_.1))) hb);have n2_:=qal.mk (qac (g:=gb453) (o:=.cells #[.int .i64 t449,.slice Ao12 t450.length co12] 36 (0,0)) (za7 NB453_467 BK453) hb);have n3_:=qal.mk (qac (g:=gb457) (o:=.cells #[.int .i64 t449,.slice (some ⟨go29,0,none⟩) y461.length co46] 36 (0,0)) (za7 NB457_467 BK457) hb);have n4_:=qal.mk (qac (g:=gb465) (o:=.cells #[.int .i64 (wrap64 (t449 - t466)),.slice Ao12 t450.length co12] 36 (0,0)) (za7 NB465_467 BK465) hb);have n5_:=qal.mk (qac (g:=gb467) (o:=.cells #[.int .i64 (wrap64 ((wrap64 (t449 - t466)) - 1)),.slice Ao12 t450.length co12] 36 (0,0)) (by(with_reducible repeat(first|refine qag ?_ _|refine qah ?_|refine qaf ?_ _));refine qan (cs:=#[.int .i64 (wrap64 (t449 - t466)),.slice Ao12 t450.length co12]) ?_ 0 _ rfl;(with_reducible repeat(first|refine qag ?_ _|refine qah ?_|refine qaf ?_ _));refine qan (cs:=#[.int .i64 (wrap64 (t449 - t466)),.slice none 0 0]) ?_ 1 _ rfl;(with_reducible repeat(first|refine qag ?_ _|refine qah ?_|refine qaf ?_ _));refine qan (cs:=#[.int .i64 0,.slice none 0 0]) ?_ 0 _ rfl;(with_reducible repeat(first|refine qag ?_ _|refine qah ?_|refine qaf ?_ _));exact BK467.out) hb);have n6_:=qal.mk (qae (za11 HB GE453 GE457 GE465 GE467) hb);clear HO_454001;clear HO463;clear BK453;clear BK457;clear BK465;clear BK467;clear HB;have HO_454001:=n0_;have HO463:=n1_;have BK453:=n2_;have BK457:=n3_;have BK465:=n4_;have BK467:=n5_;have HB:=n6_;clear n0_ n1_ n2_ n3_ n4_ n5_ n6_;(try clear hb);(try clear hb2);(try clear hk);(try clear hi);have hcz70_0:w69.cell? ⟨gb465,0,none⟩=some (.int .i64 (wrap64 (t449 - t466))):=(qab BK465.out 0).trans rfl;have hcz70_1:w69.cell? ⟨gb465,1,none⟩=some (.slice Ao12 t450.length co12):=(qab BK465.out 1).trans rfl;have hfz70_0:=qaa BK465.out 0;have hfz70_1:=qaa BK465.out 1)|(go_at_call 25;(with_reducible refine(impl_StockOk.calls kj7 (wrap64 (t449 - t466)) _ _ t450 true _ ?side1 ?side2 A33.out).mono ?_);(case side1=>repeat(first|exact(Kd.Q_reads' HO_454001.out).2.2|(with_reducible refine Kd.C_alloc ?_ _)|(with_reducible refine Kd.C_drewN ?_ _)|(with_reducible refine Kd.C_drew ?_)));(case side2=>exact(Kd.Q_reads' HO_454001.out).2.1);rintro e w71 ⟨rfl,hb⟩;have n0_:=qal.mk (Kd.Q_below (za16 HO_454001) hb);have n1_:=qal.mk (Kd.R_below (za4 HO463) hb);have n2_:=qal.mk (qac (g:=gb453) (o:=.cells #[.int .i64 t449,.slice Ao12 t450.length co12] 36 (0,0)) (za0 BK453) hb);have n3_:=qal.mk (qac (g:=gb457) (o:=.cells #[.int .i64 t449,.slice (some ⟨go29,0,none⟩) y461.length co46] 36 (0,0)) (za0 BK457) hb);have n4_:=qal.mk (qac (g:=gb465) (o:=.cells #[.int .i64 (wrap64 (t449 - t466)),.slice Ao12 t450.length co12] 36 (0,0)) (za0 BK465) hb);have n5_:=qal.mk (qac (g:=gb467) (o:=.cells #[.int .i64 (wrap64 ((wrap64 (t449 - t466)) - 1)),.slice Ao12 t450.length co12] 36 (0,0)) (za0 BK467) hb);have n6_:=qal.mk (qae (za11 HB GE453 GE457 GE465 GE467) hb);clear HO_454001;clear HO463;clear BK453;clear BK457;clear BK465;clear BK467;clear HB;have HO_454001:=n0_;have HO463:=n1_;have BK453:=n2_;have BK457:=n3_;have BK465:=n4_;have BK467:=n5_;have HB:=n6_;clear n0_ n1_ n2_ n3_ n4_ n5_ n6_;(try clear hb);(try clear hb2);(try clear hk);(try clear hi);have hcz72_0:w71.cell? ⟨gb465,0,none⟩=some (.int .i64 (wrap64 (t449 - t466))):=(qab BK465.out 0).trans rfl;have hcz72_1:w71.cell? ⟨gb465,1,none⟩=some (.slice Ao12 t450.length co12):=(qab BK465.out 1).trans rfl;have hfz72_0:=qaa BK465.out 0;have hfz72_1:=qaa BK465.out 1)|(go_at_call 26;(with_reducible refine(impl_StockFree.calls kj7 (wrap64 (t449 - t466)) _ _ t450 t470 _ ?side1 ?side2 A35.out).mono ?_);(case side1=>repeat(first|exact(Kd.Q_reads' HO_454001.out).2.2|(with_reducible refine Kd.C_alloc ?_ _)|(with_reducible refine Kd.C_drewN ?_ _)|(with_reducible refine Kd.C_drew ?_)));(case side2=>exact(Kd.Q_reads' HO_454001.out).2.1);rintro e w73 ⟨rfl,hb⟩;have n0_:=qal.mk (Kd.Q_below (za16 HO_454001) hb);have n1_:=qal.mk (Kd.R_below (za4 HO463) hb);have n2_:=qal.mk (qac (g:=gb453) (o:=.cells #[.int .i64 t449,.slice Ao12 t450.length co12] 36 (0,0)) (za0 BK453) hb);have n3_:=qal.mk (qac (g:=gb457) (o:=.cells #[.int .i64 t449,.slice (some ⟨go29,0,none⟩) y461.length co46] 36 (0,0)) (za0 BK457) hb);have n4_:=qal.mk (qac (g:=gb465) (o:=.cells #[.int .i64 (wrap64 (t449 - t466)),.slice Ao12 t450.length co12] 36 (0,0)) (za0 BK465) hb);have n5_:=qal.mk (qac (g:=gb467) (o:=.cells #[.int .i64 (wrap64 ((wrap64 (t449 - t466)) - 1)),.slice Ao12 t450.length co12] 36 (0,0)) (za0 BK467) hb);have n6_:=qal.mk (qae (za11 HB GE453 GE457 GE465 GE467) hb);clear HO_454001;clear HO463;clear BK453;clear BK457;clear BK465;clear BK467;clear HB;have HO_454001:=n0_;have HO463:=n1_;have BK453:=n2_;have BK457:=n3_;have BK465:=n4_;have BK467:=n5_;have HB:=n6_;clear n0_ n1_ n2_ n3_ n4_ n5_ n6_;(try clear hb);(try clear hb2);(try clear hk);(try clear hi);have hcz74_0:w73.cell? ⟨gb467,0,none⟩=some (.int .i64 (wrap64 ((wrap64 (t449 - t466)) - 1))):=(qab BK467.out 0).trans rfl;have hcz74_1:w73.cell? ⟨gb467,1,none⟩=some (.slice Ao12 t450.length co12):=(qab BK467.out 1).trans rfl;have hfz74_0:=qaa BK467.out 0;have hfz74_1:=qaa BK467.out 1)|(go_at_call 25;(with_reducible refine(impl_StockOk.calls kj7 (wrap64 ((wrap64 (t449 - t466)) - 1)) _ _ t450 t471 _ ?side1 ?side2 A37.out).mono ?_);(case side1=>repeat(first|exact(Kd.Q_reads' HO_454001.out).2.2|(with_reducible refine Kd.C_alloc ?_ _)|(with_reducible refine Kd.C_drewN ?_ _)|(with_reducible refine Kd.C_drew ?_)));(case side2=>exact(Kd.Q_reads' HO_454001.out).2.1);rintro e w75 ⟨rfl,hb⟩;have n0_:=qal.mk (Kd.Q_below (za16 HO_454001) hb);have n1_:=qal.mk (Kd.R_below (za4 HO463) hb);have n2_:=qal.mk (qac (g:=gb453) (o:=.cells #[.int .i64 t449,.slice Ao12 t450.length co12] 36 (0,0)) (za0 BK453) hb);have n3_:=qal.mk (qac (g:=gb457) (o:=.cells #[.int .i64 t449,.slice (some ⟨go29,0,none⟩) y461.length co46] 36 (0,0)) (za0 BK457) hb);have n4_:=qal.mk (qac (g:=gb465) (o:=.cells #[.int .i64 (wrap64 (t449 - t466)),.slice Ao12 t450.length co12] 36 (0,0)) (za0 BK465) hb);have n5_:=qal.mk (qac (g:=gb467) (o:=.cells #[.int .i64 (wrap64 ((wrap64 (t449 - t466)) - 1)),.slice Ao12 t450.length co12] 36 (0,0)) (za0 BK467) hb);have n6_:=qal.mk (qae (za11 HB GE453 GE457 GE465 GE467) hb);clear HO_454001;clear HO463;clear BK453;clear BK457;clear BK465;clear BK467;clear HB;have HO_454001:=n0_;have HO463:=n1_;have BK453:=n2_;have BK457:=n3_;have BK465:=n4_;have BK467:=n5_;have HB:=n6_;clear n0_ n1_ n2_ n3_ n4_ n5_ n6_;(try clear hb);(try clear hb2);(try clear hk);(try clear hi)))
              go_ret
              exact⟨by first|rfl|(simp[qaw,qav]<;>rfl)|(simp only[←hji26];first|rfl|(simp[qaw,qav]<;>rfl))|(simp[*,qaw,qav]<;>rfl),za11 HB GE453 GE457 GE465 GE467⟩
             ·rw[if_neg c36] at H
              have c36b0:(t470 == 0)=false:=beq_eq_false_iff_ne.mpr c36
              have c36b1:(t470 != 0)=true:=bne_iff_ne.mpr c36
              obtain rfl:=Option.some.inj H
              have hcz76_0:wc.cell? ⟨gb453,0,none⟩=some (.int .i64 t449):=(qab BK453.out 0).trans rfl
              have hcz76_1:wc.cell? ⟨gb453,1,none⟩=some (.slice Ao12 t450.length co12):=(qab BK453.out 1).trans rfl
              have hfz76_0:=qaa BK453.out 0
              have hfz76_1:=qaa BK453.out 1
              try go_wp2_with(first|((with_reducible refine qak (N:=8) rfl ?_);(try(refine qbc (by rfl) ?_;dsimp only));refine qaj ?hg (N:=8) ?hd (cs:=#[.int .i64 0,.slice none 0 0]) (t:=36) ?hr ?_;(case hd=>rfl);(case hg=>rfl);(case hr=>first|(go_simp;done)|(go_simp;rfl));intro gb457 hg w77 hbox hb;have n0_:=qal.mk (Kd.Q_below (za16 HO_454001) hb);have n1_:=qal.mk (qac (g:=gb453) (o:=.cells #[.int .i64 t449,.slice Ao12 t450.length co12] 36 (0,0)) (za0 BK453) hb);have n2_:=qal.mk (qae (za1 HB GE453) hb);have n3_:=qal.mk (hbox);have n4_:=qal.mk ((by rw[hg];exact(qad (za1 HB GE453)):w.heap.size≤gb457));have n5_:=qal.mk ((by rw[hg];exact(qad (za1 HB GE453)):w.heap.size≤gb457));have n6_:=qal.mk ((by rw[hg];exact Nat.ne_of_lt (qao (g:=gb453) (o:=.cells #[.int .i64 t449,.slice Ao12 t450.length co12] 36 (0,0)) (za0 BK453)):gb453≠gb457));have n7_:=qal.mk ((by rw[hg];exact Nat.ne_of_gt (qao (g:=gb453) (o:=.cells #[.int .i64 t449,.slice Ao12 t450.length co12] 36 (0,0)) (za0 BK453)):gb457≠gb453));clear HO_454001;clear BK453;clear HB;have HO_454001:=n0_;have BK453:=n1_;have HB:=n2_;have BK457:=n3_;have GW457:=n4_;have GE457:=n5_;have NB453_457:=n6_;have NB457_453:=n7_;clear n0_ n1_ n2_ n3_ n4_ n5_ n6_ n7_;clear hb hbox hg;have hnb78:=NB457_453.out;have hnc78:=NB453_457.out;have hcz79_0:w77.cell? ⟨gb457,0,none⟩=some (.int .i64 0):=(qab BK457.out 0).trans rfl;have hcz79_1:w77.cell? ⟨gb457,1,none⟩=some (.slice none 0 0):=(qab BK457.out 1).trans rfl;have hfz79_0:=qaa BK457.out 0;have hfz79_1:=qaa BK457.out 1)|((with_reducible refine qak (N:=42) rfl ?_);(try(refine qbc (by rfl) ?_;dsimp only));refine Kd.R_lit k46 _ 46 ?hg (N:=42) ?hd (xs:=([]:List (S46))) (inner:=[]) (ok:=fun _=>True) (okp:=fun _=>True) ?hr ?hp (fun _ hk=>hk) trivial (Below.refl _ _) (Nat.le_refl _) (by simp) ?_;(case hd=>rfl);(case hg=>rfl);(case hr=>first|(go_simp;done)|(go_simp;rfl));(case hp=>exact(Reps.none _ _));intro v459 w80 ho81 hb hg_ hnew_;clear hg_ hnew_;(first|rw[←Ny458.out] at ho81|(simp only[Int.reduceToNat] at ho81;rw[←Ny458.out] at ho81));have n0_:=qal.mk (Kd.Q_elder' (by(with_reducible repeat(first|apply Kd.Q_alloc|apply Kd.Q_drewN|apply Kd.Q_drew));exact(Kd.Q_mono (Kd.Q_far (p:=⟨gb457,1,none⟩) (Kd.Q_far (p:=⟨gb457,0,none⟩) (Kd.Q_types HO_454001.out BK457.out (by decide)) (fun _ hk=>hk.2) (.int .i64 t449)) (fun _ hk=>hk.2) (.slice Ao12 t450.length co12)) (fun _ h_=>h_.1))) (Kd.R_base ho81) hb);have n1_:=qal.mk (Kd.R_lower (Kd.R_new' ho81 (Kd.Q_lt (by(with_reducible repeat(first|apply Kd.Q_alloc|apply Kd.Q_drewN|apply Kd.Q_drew));exact(Kd.Q_mono (Kd.Q_far (p:=⟨gb457,1,none⟩) (Kd.Q_far (p:=⟨gb457,0,none⟩) (Kd.Q_types HO_454001.out BK457.out (by decide)) (fun _ hk=>hk.2) (.int .i64 t449)) (fun _ hk=>hk.2) (.slice Ao12 t450.length co12)) (fun _ h_=>h_.1))))) (qad (za3 HB GE453 GE457)));have n2_:=qal.mk (qac (g:=gb453) (o:=.cells #[.int .i64 t449,.slice Ao12 t450.length co12] 36 (0,0)) (za5 NB453_457 BK453) hb);have n3_:=qal.mk (qac (g:=gb457) (o:=.cells #[.int .i64 t449,.slice Ao12 t450.length co12] 36 (0,0)) (by(with_reducible repeat(first|refine qag ?_ _|refine qah ?_|refine qaf ?_ _));refine qan (cs:=#[.int .i64 t449,.slice none 0 0]) ?_ 1 _ rfl;(with_reducible repeat(first|refine qag ?_ _|refine qah ?_|refine qaf ?_ _));refine qan (cs:=#[.int .i64 0,.slice none 0 0]) ?_ 0 _ rfl;(with_reducible repeat(first|refine qag ?_ _|refine qah ?_|refine qaf ?_ _));exact BK457.out) hb);have n4_:=qal.mk (qae (za3 HB GE453 GE457) hb);clear HO_454001;clear BK453;clear BK457;clear HB;have HO_454001:=n0_;have HO460:=n1_;have BK453:=n2_;have BK457:=n3_;have HB:=n4_;clear n0_ n1_ n2_ n3_ n4_;clear hb ho81;have hcz82_0:w80.cell? ⟨gb453,0,none⟩=some (.int .i64 t449):=(qab BK453.out 0).trans rfl;have hcz82_1:w80.cell? ⟨gb453,1,none⟩=some (.slice Ao12 t450.length co12):=(qab BK453.out 1).trans rfl;have hfz82_0:=qaa BK453.out 0;have hfz82_1:=qaa BK453.out 1)|((with_reducible refine gate_builtin (b:=.append) (xs:=#[.tmp 42,.tmp 44]) rfl ?_);(try(refine qbc (by rfl) ?_;dsimp only));at_builtin;refine Kd.R_append_rows k46 (w0:=w) w.heap.size rfl (.tmp 42) (.tmp 44) 34 46 (.agg #[(.int .i64 0),(.int .i64 0)]) 16 rfl Try.underlying34 info46 rfl (by decide) (by omega) v459 y458 t450 _ _ _ (fun k_=>some k_≠(.slice Ao12 t450.length co12:Value).ownBlock) (fun _=>False) rfl rfl ?aO ?aR (fun _ _ h=>h) (fun _ h=>h.elim) ?aF ?aB ?aS ?aL ?_;(case aR=>repeat(first|exact(Kd.Q_reads' HO_454001.out).2.2|(with_reducible refine Kd.C_alloc ?_ _)|(with_reducible refine Kd.C_drewN ?_ _)|(with_reducible refine Kd.C_drew ?_)));(case aB=>exact(za3 HB GE453 GE457));(case aF=>exact(fun k_ hk=>Kd.fresh' (Kd.Q_lt (za16 HO_454001)) k_ hk));(case aO=>exact(by(with_reducible repeat(first|apply Kd.R_alloc|apply Kd.R_drewN|apply Kd.R_drew));exact Kd.R_mono HO460.out (fun _ hk=>hk.2)));(case aS=>exact(qad (za3 HB GE453 GE457)));(case aL=>have:=LMc25.out;omega);intro v462 w83 ho hb hg hat;rw[←Ny461.out] at ho;have n0_:=qal.mk (Kd.Q_after (ok:=(fun _=>True)) (za16 HO_454001) hg hat);have n1_:=qal.mk (qbb (g:=gb453) (o:=.cells #[.int .i64 t449,.slice Ao12 t450.length co12] 36 (0,0)) (za0 BK453) hg (Kd.R_ne HO460.out BK453.out (by decide)));have n2_:=qal.mk (qbb (g:=gb457) (o:=.cells #[.int .i64 t449,.slice Ao12 t450.length co12] 36 (0,0)) (za0 BK457) hg (Kd.R_ne HO460.out BK457.out (by decide)));have n3_:=qal.mk (hb);have n4_:=qal.mk (ho);clear HO_454001;clear BK453;clear BK457;clear HB;clear HO460;have HO_454001:=n0_;have BK453:=n1_;have BK457:=n2_;have HB:=n3_;have HO463:=n4_;clear n0_ n1_ n2_ n3_ n4_;clear ho hb hg hat;obtain⟨Ao84,co84,eo84⟩:=Kd.R_slice HO463.out;subst eo84;have hcz85_0:w83.cell? ⟨gb457,0,none⟩=some (.int .i64 t449):=(qab BK457.out 0).trans rfl;have hcz85_1:w83.cell? ⟨gb457,1,none⟩=some (.slice Ao12 t450.length co12):=(qab BK457.out 1).trans rfl;have hfz85_0:=qaa BK457.out 0;have hfz85_1:=qaa BK457.out 1)|((with_reducible refine gate_store (t:=34) (p:=46) rfl ?_);refine store_event (t:=34) (p:=46) (v:=?vo_w86) (w1:=(w83.setCell ⟨gb457,1,none⟩ (.slice Ao84 y461.length co84))) ?hg ?ho ?hn ?hr ?_;(case ho=>rfl);(case hg=>rfl);(case hn=>rfl);(case hr=>first|(go_simp;done)|(go_simp;rfl));intro w86 hw;have n0_:qal (Kd.Q k46 46 w86 w.heap.size (fun k_=>some k_≠(.slice Ao84 y461.length co84:Value).ownBlock) (.slice Ao12 t450.length co12) t450):=⟨(by rw[hw];exact(by(with_reducible repeat(first|apply Kd.Q_alloc|apply Kd.Q_drewN|apply Kd.Q_drew));exact Kd.Q_mono (Kd.Q_far (p:=⟨gb457,1,none⟩) (Kd.Q_types HO_454001.out BK457.out (by decide)) (fun _ hk=>hk.2) (.slice Ao84 y461.length co84)) (fun _ hk=>hk.1.2)))⟩;have n1_:qal (Kd.R k46 46 w86 w.heap.size (fun k_=>some k_≠(.slice Ao12 t450.length co12:Value).ownBlock) (.slice Ao84 y461.length co84) y461):=⟨(by rw[hw];exact(by(with_reducible repeat(first|apply Kd.R_alloc|apply Kd.R_drewN|apply Kd.R_drew));exact Kd.R_mono (Kd.R_far (p:=⟨gb457,1,none⟩) (Kd.R_types HO463.out BK457.out (by decide)) (fun _ hk=>hk.2) (.slice Ao84 y461.length co84)) (fun _ hk=>hk.1)))⟩;have n2_:qal (w86.heap[gb453]?=some (.cells #[.int .i64 t449,.slice Ao12 t450.length co12] 36 (0,0))):=⟨(by rw[hw];exact(za14 NB453_457 BK453))⟩;have n3_:qal (w86.heap[gb457]?=some (.cells #[.int .i64 t449,.slice Ao84 y461.length co84] 36 (0,0))):=⟨(by rw[hw];exact(by(with_reducible repeat(first|refine qag ?_ _|refine qah ?_|refine qaf ?_ _));refine qan (cs:=#[.int .i64 t449,.slice Ao12 t450.length co12]) ?_ 1 _ rfl;(with_reducible repeat(first|refine qag ?_ _|refine qah ?_|refine qaf ?_ _));exact BK457.out))⟩;have n4_:qal (Below w.heap.size w w86):=⟨(by rw[hw];exact(za3 HB GE453 GE457))⟩;clear hw;clear HO_454001;clear HO463;clear BK453;clear BK457;clear HB;have HO_454001:=n0_;have HO463:=n1_;have BK453:=n2_;have BK457:=n3_;have HB:=n4_;clear n0_ n1_ n2_ n3_ n4_;have hcz87_0:w86.cell? ⟨gb457,0,none⟩=some (.int .i64 t449):=(qab BK457.out 0).trans rfl;have hcz87_1:w86.cell? ⟨gb457,1,none⟩=some (.slice Ao84 y461.length co84):=(qab BK457.out 1).trans rfl;have hfz87_0:=qaa BK457.out 0;have hfz87_1:=qaa BK457.out 1;have p29:0≤((ji26):Int):=of_decide_eq_true (za8);have q29:((ji26):Int)<((y461.length:Int):Int):=of_decide_eq_true (za8);obtain⟨go29,co29,eo29,gb29,gl29,cl29,HG29⟩:=Kd.R_form HO463.out (by omega);(first|cases eo29|(injection eo29 with ea_ en_ ec_;(first|subst ea_|(injection ea_ with ea_;subst ea_));subst ec_;clear en_));have GB29:=qal.mk gb29;have GG29:=qal.mk HG29;clear gb29 gl29 HG29;obtain⟨ce29,hcl29,hM29,hcc29,hfr29⟩:=Kd.R_elem HO463.out z46 ((ji26):Int) p29 q29;obtain rfl:=k46_openM hM29;have hx29_0:w86.cell? ⟨go29,((ji26):Int).toNat*2,none⟩=some (.int .i64 ((rd_T46 y461 (ji26)).f0)):=hcc29 0 _ rfl;have hx29_1:w86.cell? ⟨go29,((ji26):Int).toNat*2+1,none⟩=some (.int .i64 ((rd_T46 y461 (ji26)).f1)):=hcc29 1 _ rfl;have hf29_0:w86.frozen? ⟨go29,((ji26):Int).toNat*2,none⟩=false:=hfr29 0;have hf29_1:w86.frozen? ⟨go29,((ji26):Int).toNat*2+1,none⟩=false:=hfr29 1;clear hcl29 hcc29 hfr29 hM29;replace p29:=eq_true p29;replace q29:=eq_true q29;have HX88:=qal.mk (show Kd.R k46 46 w86 w.heap.size (fun k_=>some k_≠(.slice Ao12 t450.length co12:Value).ownBlock) (.slice (some ⟨go29,0,none⟩) y461.length co84) y461 from(za4 HO463));obtain⟨ce88,hcl88,hM88,hcc88,hfr88⟩:=Kd.R_elem HX88.out z46 ((ji26):Int) (of_decide_eq_true (za8)) (by have h_:((ji26):Int)<((y461.length:Int):Int):=of_decide_eq_true (za8);first|exact h_|(have e_:=(Kd.R_reads' HO463.out).1;omega)|simpa using h_);obtain rfl:=k46_openM hM88;have HP88:=Kd.R_seg HX88.out ((ji26):Int) (of_decide_eq_true (za8)) (by have h_:((ji26):Int)<((y461.length:Int):Int):=of_decide_eq_true (za8);first|exact h_|(have e_:=(Kd.R_reads' HO463.out).1;omega)|simpa using h_) (seg:=[.int .i64 0,.int .i64 0]) (j:=0) hcl88 hcc88 (show 2≤2 from by decide) (x':=(⟨0,0⟩:S46)) (k46_mkM _ _ _ (⟨0,0⟩:S46) ) (fun _ hk=>hk);have hx88_0:=hcc88 0 _ rfl;(try simp only[show(k46).sz=2 from rfl,Nat.mul_one,Nat.add_zero] at hx88_0);have hf88_0:=hfr88 0;(try simp only[show(k46).sz=2 from rfl,Nat.mul_one,Nat.add_zero] at hf88_0);have hx88_1:=hcc88 1 _ rfl;(try simp only[show(k46).sz=2 from rfl,Nat.mul_one,Nat.add_zero] at hx88_1);have hf88_1:=hfr88 1;(try simp only[show(k46).sz=2 from rfl,Nat.mul_one,Nat.add_zero] at hf88_1);clear hcl88 hcc88 hfr88 hM88)|((with_reducible refine gate_store (t:=46) (p:=51) rfl ?_);refine store_event (t:=46) (p:=51) (v:=?vo_w89) (w1:=((w86.setCell ⟨go29,((ji26):Int).toNat*2,none⟩ (.int .i64 0)).setCell ⟨go29,((ji26):Int).toNat*2+1,none⟩ (.int .i64 0))) ?hg ?ho ?hn ?hr ?_;(case ho=>rfl);(case hg=>rfl);(case hn=>rfl);(case hr=>first|(go_simp;done)|(go_simp;rfl));intro w89 hw;have hg:w86.grownBy w89 (some go29):=(by rw[hw];exact HP88.2);have hp_:Kd.R k46 46 w89 w.heap.size (fun k_=>some k_≠(.slice Ao12 t450.length co12:Value).ownBlock) (.slice (some ⟨go29,0,none⟩) y461.length co84) y464:=(by rw[hw,Ny464.out];exact HP88.1);clear HP88;have n0_:=qal.mk (Kd.Q_after (v:=(.slice (some ⟨go29,0,none⟩) y461.length co84)) (v1:=(.slice (some ⟨go29,0,none⟩) y461.length co84)) (ok:=(fun _=>True)) (by(with_reducible repeat(first|apply Kd.Q_alloc|apply Kd.Q_drewN|apply Kd.Q_drew));exact Kd.Q_mono HO_454001.out (fun _ hk=>⟨trivial,hk⟩)) hg (.inl rfl));have n1_:=qal.mk (qbb (g:=gb453) (o:=.cells #[.int .i64 t449,.slice Ao12 t450.length co12] 36 (0,0)) (za0 BK453) hg (Kd.R_ne HO463.out BK453.out (by decide)));have n2_:=qal.mk (qbb (g:=gb457) (o:=.cells #[.int .i64 t449,.slice (some ⟨go29,0,none⟩) y461.length co84] 36 (0,0)) (za0 BK457) hg (Kd.R_ne HO463.out BK457.out (by decide)));have n3_:=qal.mk (hp_);have n4_:=qal.mk ((by rw[hw];exact qam (qam (HB.out) GB29.out) GB29.out:Below w.heap.size w w89));clear HO_454001;clear BK453;clear BK457;clear HO463;clear HB;have HO_454001:=n0_;have BK453:=n1_;have BK457:=n2_;have HO463:=n3_;have HB:=n4_;clear n0_ n1_ n2_ n3_ n4_;clear hg hw hp_;have hcz90_0:w89.cell? ⟨gb453,0,none⟩=some (.int .i64 t449):=(qab BK453.out 0).trans rfl;have hcz90_1:w89.cell? ⟨gb453,1,none⟩=some (.slice Ao12 t450.length co12):=(qab BK453.out 1).trans rfl;have hfz90_0:=qaa BK453.out 0;have hfz90_1:=qaa BK453.out 1)|((with_reducible refine qak (N:=9) rfl ?_);(try(refine qbc (by rfl) ?_;dsimp only));refine qaj ?hg (N:=9) ?hd (cs:=#[.int .i64 0,.slice none 0 0]) (t:=36) ?hr ?_;(case hd=>rfl);(case hg=>rfl);(case hr=>first|(go_simp;done)|(go_simp;rfl));intro gb465 hg w91 hbox hb;have n0_:=qal.mk (Kd.Q_below (za16 HO_454001) hb);have n1_:=qal.mk (Kd.R_below (za4 HO463) hb);have n2_:=qal.mk (qac (g:=gb453) (o:=.cells #[.int .i64 t449,.slice Ao12 t450.length co12] 36 (0,0)) (za0 BK453) hb);have n3_:=qal.mk (qac (g:=gb457) (o:=.cells #[.int .i64 t449,.slice (some ⟨go29,0,none⟩) y461.length co84] 36 (0,0)) (za0 BK457) hb);have n4_:=qal.mk (qae (za3 HB GE453 GE457) hb);have n5_:=qal.mk (hbox);have n6_:=qal.mk ((by rw[hg];exact(qad (za3 HB GE453 GE457)):w.heap.size≤gb465));have n7_:=qal.mk ((by rw[hg];exact(qad (za3 HB GE453 GE457)):w.heap.size≤gb465));have n8_:=qal.mk ((by rw[hg];exact Nat.ne_of_lt (qao (g:=gb453) (o:=.cells #[.int .i64 t449,.slice Ao12 t450.length co12] 36 (0,0)) (za0 BK453)):gb453≠gb465));have n9_:=qal.mk ((by rw[hg];exact Nat.ne_of_gt (qao (g:=gb453) (o:=.cells #[.int .i64 t449,.slice Ao12 t450.length co12] 36 (0,0)) (za0 BK453)):gb465≠gb453));have n10_:=qal.mk ((by rw[hg];exact Nat.ne_of_lt (qao (g:=gb457) (o:=.cells #[.int .i64 t449,.slice (some ⟨go29,0,none⟩) y461.length co84] 36 (0,0)) (za0 BK457)):gb457≠gb465));have n11_:=qal.mk ((by rw[hg];exact Nat.ne_of_gt (qao (g:=gb457) (o:=.cells #[.int .i64 t449,.slice (some ⟨go29,0,none⟩) y461.length co84] 36 (0,0)) (za0 BK457)):gb465≠gb457));clear HO_454001;clear HO463;clear BK453;clear BK457;clear HB;have HO_454001:=n0_;have HO463:=n1_;have BK453:=n2_;have BK457:=n3_;have HB:=n4_;have BK465:=n5_;have GW465:=n6_;have GE465:=n7_;have NB453_465:=n8_;have NB465_453:=n9_;have NB457_465:=n10_;have NB465_457:=n11_;clear n0_ n1_ n2_ n3_ n4_ n5_ n6_ n7_ n8_ n9_ n10_ n11_;clear hb hbox hg;have hnb92:=NB465_453.out;have hnc92:=NB453_465.out;have hnb93:=NB465_457.out;have hnc93:=NB457_465.out;have hcz94_0:w91.cell? ⟨gb465,0,none⟩=some (.int .i64 0):=(qab BK465.out 0).trans rfl;have hcz94_1:w91.cell? ⟨gb465,1,none⟩=some (.slice none 0 0):=(qab BK465.out 1).trans rfl;have hfz94_0:=qaa BK465.out 0;have hfz94_1:=qaa BK465.out 1))
              have n0_:qal (Kd.Q k46 46 ((w91.setCell ⟨gb465,0,none⟩ (.int .i64 t449)).setCell ⟨gb465,1,none⟩ (.slice Ao12 t450.length co12)) w.heap.size (fun k_=>some k_≠(.slice (some ⟨go29,0,none⟩) y461.length co84:Value).ownBlock) (.slice Ao12 t450.length co12) t450):=⟨by(with_reducible repeat(first|apply Kd.Q_alloc|apply Kd.Q_drewN|apply Kd.Q_drew));exact Kd.Q_mono (Kd.Q_far (p:=⟨gb465,1,none⟩) (Kd.Q_far (p:=⟨gb465,0,none⟩) (Kd.Q_types HO_454001.out BK465.out (by decide)) (fun _ hk=>hk.2) (.int .i64 t449)) (fun _ hk=>hk.2) (.slice Ao12 t450.length co12)) (fun _ hk=>hk.1.2)⟩
              have n1_:qal (Kd.R k46 46 ((w91.setCell ⟨gb465,0,none⟩ (.int .i64 t449)).setCell ⟨gb465,1,none⟩ (.slice Ao12 t450.length co12)) w.heap.size (fun k_=>some k_≠(.slice Ao12 t450.length co12:Value).ownBlock) (.slice (some ⟨go29,0,none⟩) y461.length co84) y464):=⟨by(with_reducible repeat(first|apply Kd.R_alloc|apply Kd.R_drewN|apply Kd.R_drew));exact Kd.R_mono (Kd.R_far (p:=⟨gb465,1,none⟩) (Kd.R_far (p:=⟨gb465,0,none⟩) (Kd.R_types HO463.out BK465.out (by decide)) (fun _ hk=>hk.2) (.int .i64 t449)) (fun _ hk=>hk.2) (.slice Ao12 t450.length co12)) (fun _ hk=>hk.1)⟩
              have n2_:qal (((w91.setCell ⟨gb465,0,none⟩ (.int .i64 t449)).setCell ⟨gb465,1,none⟩ (.slice Ao12 t450.length co12)).heap[gb453]?=some (.cells #[.int .i64 t449,.slice Ao12 t450.length co12] 36 (0,0))):=⟨za5 NB453_465 BK453⟩
              have n3_:qal (((w91.setCell ⟨gb465,0,none⟩ (.int .i64 t449)).setCell ⟨gb465,1,none⟩ (.slice Ao12 t450.length co12)).heap[gb457]?=some (.cells #[.int .i64 t449,.slice (some ⟨go29,0,none⟩) y461.length co84] 36 (0,0))):=⟨za5 NB457_465 BK457⟩
              have n4_:qal (((w91.setCell ⟨gb465,0,none⟩ (.int .i64 t449)).setCell ⟨gb465,1,none⟩ (.slice Ao12 t450.length co12)).heap[gb465]?=some (.cells #[.int .i64 t449,.slice Ao12 t450.length co12] 36 (0,0))):=⟨by(with_reducible repeat(first|refine qag ?_ _|refine qah ?_|refine qaf ?_ _));refine qan (cs:=#[.int .i64 t449,.slice none 0 0]) ?_ 1 _ rfl;(with_reducible repeat(first|refine qag ?_ _|refine qah ?_|refine qaf ?_ _));refine qan (cs:=#[.int .i64 0,.slice none 0 0]) ?_ 0 _ rfl;(with_reducible repeat(first|refine qag ?_ _|refine qah ?_|refine qaf ?_ _));exact BK465.out⟩
              have n5_:qal (Below w.heap.size w ((w91.setCell ⟨gb465,0,none⟩ (.int .i64 t449)).setCell ⟨gb465,1,none⟩ (.slice Ao12 t450.length co12))):=⟨za6 HB GE453 GE457 GE465⟩
              (try clear HO_454001)
              (try clear HO463)
              (try clear BK453)
              (try clear BK457)
              (try clear BK465)
              (try clear HB)
              generalize ((w91.setCell ⟨gb465,0,none⟩ (.int .i64 t449)).setCell ⟨gb465,1,none⟩ (.slice Ao12 t450.length co12))=w95 at n0_ n1_ n2_ n3_ n4_ n5_ ⊢
              have HO_454001:=n0_
              have HO463:=n1_
              have BK453:=n2_
              have BK457:=n3_
              have BK465:=n4_
              have HB:=n5_
              clear n0_ n1_ n2_ n3_ n4_ n5_
              have n0_:=qal.mk (Kd.Q_drew HO_454001.out)
              have n1_:=qal.mk (Kd.R_drew HO463.out)
              have n2_:=qal.mk (qah BK453.out)
              have n3_:=qal.mk (qah BK457.out)
              have n4_:=qal.mk (qah BK465.out)
              have n5_:=qal.mk (qaq HB.out)
              clear HO_454001
              clear HO463
              clear BK453
              clear BK457
              clear BK465
              clear HB
              have HO_454001:=n0_
              have HO463:=n1_
              have BK453:=n2_
              have BK457:=n3_
              have BK465:=n4_
              have HB:=n5_
              clear n0_ n1_ n2_ n3_ n4_ n5_
              refine start_ (n:=7) (S:=fun w'=>w'.cell? ⟨gb453,0,none⟩=some (.int .i64 t449)∧w'.cell? ⟨gb453,1,none⟩=some (.slice Ao12 t450.length co12)) (ds:=[]) #[false,false,false,false,false,false,false] (by kernel_rfl) rfl rfl ⟨(qab BK453.out 0).trans rfl,(qab BK453.out 1).trans rfl⟩ (fun hHeld=>?_)
              generalize w95.drew=w96 at HO_454001 HO463 BK453 BK457 BK465 HB hHeld ⊢
              refine qaz (i:=0) (N:=some 53) (v:=?_) (a':=?_) #[true,false,false,false,false,false,false] rfl rfl (by kernel_rfl) (fun _ _ _ h=>h) (Or.inl ⟨by rfl,?_⟩) ?_ ?_
              rotate_left
              ·intro w'
               go_simp
               with_reducible rfl
              rotate_left
              ·simp only[Act.put,List.setIfInBounds_toArray,List.set_cons_zero,List.set_cons_succ,qas,qat]
               rfl
              refine take_ (i:=1) (N:=some 54) (v:=?_) (a':=?_) #[true,true,false,false,false,false,false] rfl rfl (by kernel_rfl) (fun _ _ _ h=>h) (Or.inl ⟨by rfl,?_⟩) hHeld ?_ ?_
              rotate_left
              ·rintro w' ⟨s0,s1⟩
               go_simp
               with_reducible rfl
              rotate_left
              ·simp only[Act.put,List.setIfInBounds_toArray,List.set_cons_zero,List.set_cons_succ,qas,qat]
               rfl
              refine take_ (i:=2) (N:=some 55) (v:=?_) (a':=?_) #[true,true,true,false,false,false,false] rfl rfl (by kernel_rfl) (fun _ _ _ h=>h) (Or.inl ⟨by rfl,?_⟩) hHeld ?_ ?_
              rotate_left
              ·rintro w' ⟨s0,s1⟩
               go_simp
               with_reducible rfl
              rotate_left
              ·simp only[Act.put,List.setIfInBounds_toArray,List.set_cons_zero,List.set_cons_succ,qas,qat]
               rfl
              refine one_ (i:=3) (N:=some 56) #[true,true,true,true,false,false,false] rfl rfl (by kernel_rfl) (by decide) (fun K hK=>?_)
              refine goes_ Try.func26 (by kernel_rfl) rfl #[.agg #[.int .i64 t449,.slice Ao12 t450.length co12]] (by rfl) rfl rfl (by(try simp only[List.map_toArray,List.map_cons,List.map_nil]);first|done|rfl|(simp only[List.length_drop,List.length_take];rfl)) ?_
              with_reducible refine(impl_StockFree.calls kj7 t449 _ _ t450 t466 _ ?side1 ?side2 A30.out).mono ?_
              (case side1=>repeat(first|exact(Kd.Q_reads' HO_454001.out).2.2|(with_reducible refine Kd.C_alloc ?_ _)|(with_reducible refine Kd.C_drewN ?_ _)|(with_reducible refine Kd.C_drew ?_)))
              (case side2=>exact(Kd.Q_reads' HO_454001.out).2.1)
              rintro e w97 ⟨rfl,hb⟩
              refine⟨_,rfl,?_⟩
              have n0_:=qal.mk (Kd.Q_below (za16 HO_454001) hb)
              have n1_:=qal.mk (Kd.R_below (za4 HO463) hb)
              have n2_:=qal.mk (qac (g:=gb453) (o:=.cells #[.int .i64 t449,.slice Ao12 t450.length co12] 36 (0,0)) (za0 BK453) hb)
              have n3_:=qal.mk (qac (g:=gb457) (o:=.cells #[.int .i64 t449,.slice (some ⟨go29,0,none⟩) y461.length co84] 36 (0,0)) (za0 BK457) hb)
              have n4_:=qal.mk (qac (g:=gb465) (o:=.cells #[.int .i64 t449,.slice Ao12 t450.length co12] 36 (0,0)) (za0 BK465) hb)
              have n5_:=qal.mk (qae (za6 HB GE453 GE457 GE465) hb)
              clear HO_454001
              clear HO463
              clear BK453
              clear BK457
              clear BK465
              clear HB
              have HO_454001:=n0_
              have HO463:=n1_
              have BK453:=n2_
              have BK457:=n3_
              have BK465:=n4_
              have HB:=n5_
              clear n0_ n1_ n2_ n3_ n4_ n5_
              (try clear hb)
              (try clear hb2)
              (try clear hk)
              (try clear hi)
              refine hK.out _ _ ⟨(qab BK453.out 0).trans rfl,(qab BK453.out 1).trans rfl⟩ (fun hHeld=>?_)
              clear hK K
              refine norm_ (a':=?_) ?_ ?_
              rotate_left
              ·show Act.put _ (some 56) _=_
               simp only[Act.put,List.setIfInBounds_toArray,List.set_cons_zero,List.set_cons_succ,qas,qat]
               rfl
              refine qaz (i:=4) (N:=some 57) (v:=?_) (a':=?_) #[true,true,true,true,true,false,false] rfl rfl (by kernel_rfl) (fun _ _ _ h=>h) (Or.inl ⟨by rfl,?_⟩) ?_ ?_
              rotate_left
              ·intro w'
               go_simp
               with_reducible rfl
              rotate_left
              ·simp only[Act.put,List.setIfInBounds_toArray,List.set_cons_zero,List.set_cons_succ,qas,qat]
               rfl
              refine qaz (i:=5) (N:=some 58) (v:=?_) (a':=?_) #[true,true,true,true,true,true,false] rfl rfl (by kernel_rfl) (fun _ _ _ h=>h) (Or.inl ⟨by rfl,?_⟩) ?_ ?_
              rotate_left
              ·intro w'
               go_simp
               with_reducible rfl
              rotate_left
              ·simp only[Act.put,List.setIfInBounds_toArray,List.set_cons_zero,List.set_cons_succ,qas,qat]
               rfl
              refine one_ (i:=6) (N:=none) #[true,true,true,true,true,true,true] rfl rfl (by kernel_rfl) (by decide) (fun K hK=>?_)
              have hs98:w97.cell? ⟨gb465,0,none⟩=some (.int .i64 t449):=(qab BK465.out 0).trans rfl
              have hfs98:=qaa BK465.out 0
              have hns98_0:=NB453_465.out
              have hns98_1:=NB457_465.out
              have hms98_0:=NB465_453.out
              have hms98_1:=NB465_457.out
              refine skip_ (w1:=?_) (by rfl) rfl ?_ ?_
              rotate_left
              ·go_simp
               rfl
              refine hK.out _ _ ⟨((qay (p:=⟨gb465,_,none⟩) NB453_465.out _).trans (hHeld.1)),((qay (p:=⟨gb465,_,none⟩) NB453_465.out _).trans (hHeld.2))⟩ (fun hHeld=>?_)
              clear hK K
              refine done_ (by kernel_rfl) ?_
              have hcz99_0:w97.cell? ⟨gb465,0,none⟩=some (.int .i64 t449):=(qab BK465.out 0).trans rfl
              have hcz99_1:w97.cell? ⟨gb465,1,none⟩=some (.slice Ao12 t450.length co12):=(qab BK465.out 1).trans rfl
              have hfz99_0:=qaa BK465.out 0
              have hfz99_1:=qaa BK465.out 1
              try go_wp2_with(first|((with_reducible refine qak (N:=10) rfl ?_);(try(refine qbc (by rfl) ?_;dsimp only));refine qaj ?hg (N:=10) ?hd (cs:=#[.int .i64 0,.slice none 0 0]) (t:=36) ?hr ?_;(case hd=>rfl);(case hg=>rfl);(case hr=>first|(go_simp;done)|(go_simp;rfl));intro gb467 hg w100 hbox hb;have n0_:=qal.mk (Kd.Q_below (by(with_reducible repeat(first|apply Kd.Q_alloc|apply Kd.Q_drewN|apply Kd.Q_drew));exact(Kd.Q_mono (Kd.Q_far (p:=⟨gb465,0,none⟩) (Kd.Q_types HO_454001.out BK465.out (by decide)) (fun _ hk=>hk.2) (.int .i64 (wrap64 (t449 - t466)))) (fun _ h_=>h_.1))) hb);have n1_:=qal.mk (Kd.R_below (by(with_reducible repeat(first|apply Kd.R_alloc|apply Kd.R_drewN|apply Kd.R_drew));exact(Kd.R_mono (Kd.R_far (p:=⟨gb465,0,none⟩) (Kd.R_types HO463.out BK465.out (by decide)) (fun _ hk=>hk.2) (.int .i64 (wrap64 (t449 - t466)))) (fun _ h_=>h_.1))) hb);have n2_:=qal.mk (qac (g:=gb453) (o:=.cells #[.int .i64 t449,.slice Ao12 t450.length co12] 36 (0,0)) (za14 NB453_465 BK453) hb);have n3_:=qal.mk (qac (g:=gb457) (o:=.cells #[.int .i64 t449,.slice (some ⟨go29,0,none⟩) y461.length co84] 36 (0,0)) (za14 NB457_465 BK457) hb);have n4_:=qal.mk (qac (g:=gb465) (o:=.cells #[.int .i64 (wrap64 (t449 - t466)),.slice Ao12 t450.length co12] 36 (0,0)) (by(with_reducible repeat(first|refine qag ?_ _|refine qah ?_|refine qaf ?_ _));refine qan (cs:=#[.int .i64 t449,.slice Ao12 t450.length co12]) ?_ 0 _ rfl;(with_reducible repeat(first|refine qag ?_ _|refine qah ?_|refine qaf ?_ _));exact BK465.out) hb);have n5_:=qal.mk (qae (za6 HB GE453 GE457 GE465) hb);have n6_:=qal.mk (hbox);have n7_:=qal.mk ((by rw[hg];exact(qad (za6 HB GE453 GE457 GE465)):w.heap.size≤gb467));have n8_:=qal.mk ((by rw[hg];exact(qad (za6 HB GE453 GE457 GE465)):w.heap.size≤gb467));have n9_:=qal.mk ((by rw[hg];exact Nat.ne_of_lt (qao (g:=gb453) (o:=.cells #[.int .i64 t449,.slice Ao12 t450.length co12] 36 (0,0)) (za14 NB453_465 BK453)):gb453≠gb467));have n10_:=qal.mk ((by rw[hg];exact Nat.ne_of_gt (qao (g:=gb453) (o:=.cells #[.int .i64 t449,.slice Ao12 t450.length co12] 36 (0,0)) (za14 NB453_465 BK453)):gb467≠gb453));have n11_:=qal.mk ((by rw[hg];exact Nat.ne_of_lt (qao (g:=gb457) (o:=.cells #[.int .i64 t449,.slice (some ⟨go29,0,none⟩) y461.length co84] 36 (0,0)) (za14 NB457_465 BK457)):gb457≠gb467));have n12_:=qal.mk ((by rw[hg];exact Nat.ne_of_gt (qao (g:=gb457) (o:=.cells #[.int .i64 t449,.slice (some ⟨go29,0,none⟩) y461.length co84] 36 (0,0)) (za14 NB457_465 BK457)):gb467≠gb457));have n13_:=qal.mk ((by rw[hg];exact Nat.ne_of_lt (qao (g:=gb465) (o:=.cells #[.int .i64 (wrap64 (t449 - t466)),.slice Ao12 t450.length co12] 36 (0,0)) (by(with_reducible repeat(first|refine qag ?_ _|refine qah ?_|refine qaf ?_ _));refine qan (cs:=#[.int .i64 t449,.slice Ao12 t450.length co12]) ?_ 0 _ rfl;(with_reducible repeat(first|refine qag ?_ _|refine qah ?_|refine qaf ?_ _));exact BK465.out)):gb465≠gb467));have n14_:=qal.mk ((by rw[hg];exact Nat.ne_of_gt (qao (g:=gb465) (o:=.cells #[.int .i64 (wrap64 (t449 - t466)),.slice Ao12 t450.length co12] 36 (0,0)) (by(with_reducible repeat(first|refine qag ?_ _|refine qah ?_|refine qaf ?_ _));refine qan (cs:=#[.int .i64 t449,.slice Ao12 t450.length co12]) ?_ 0 _ rfl;(with_reducible repeat(first|refine qag ?_ _|refine qah ?_|refine qaf ?_ _));exact BK465.out)):gb467≠gb465));clear HO_454001;clear HO463;clear BK453;clear BK457;clear BK465;clear HB;have HO_454001:=n0_;have HO463:=n1_;have BK453:=n2_;have BK457:=n3_;have BK465:=n4_;have HB:=n5_;have BK467:=n6_;have GW467:=n7_;have GE467:=n8_;have NB453_467:=n9_;have NB467_453:=n10_;have NB457_467:=n11_;have NB467_457:=n12_;have NB465_467:=n13_;have NB467_465:=n14_;clear n0_ n1_ n2_ n3_ n4_ n5_ n6_ n7_ n8_ n9_ n10_ n11_ n12_ n13_ n14_;clear hb hbox hg;have hnb101:=NB467_453.out;have hnc101:=NB453_467.out;have hnb102:=NB467_457.out;have hnc102:=NB457_467.out;have hnb103:=NB467_465.out;have hnc103:=NB465_467.out;have hcz104_0:w100.cell? ⟨gb467,0,none⟩=some (.int .i64 0):=(qab BK467.out 0).trans rfl;have hcz104_1:w100.cell? ⟨gb467,1,none⟩=some (.slice none 0 0):=(qab BK467.out 1).trans rfl;have hfz104_0:=qaa BK467.out 0;have hfz104_1:=qaa BK467.out 1;have hcz105_0:w100.cell? ⟨gb465,0,none⟩=some (.int .i64 (wrap64 (t449 - t466))):=(qab BK465.out 0).trans rfl;have hcz105_1:w100.cell? ⟨gb465,1,none⟩=some (.slice Ao12 t450.length co12):=(qab BK465.out 1).trans rfl;have hfz105_0:=qaa BK465.out 0;have hfz105_1:=qaa BK465.out 1;have hcz106_0:w100.cell? ⟨gb457,0,none⟩=some (.int .i64 t449):=(qab BK457.out 0).trans rfl;have hcz106_1:w100.cell? ⟨gb457,1,none⟩=some (.slice (some ⟨go29,0,none⟩) y461.length co84):=(qab BK457.out 1).trans rfl;have hfz106_0:=qaa BK457.out 0;have hfz106_1:=qaa BK457.out 1)|((with_reducible refine qai (f:=25) rfl ?_);refine qau (some 65) rfl rfl Try.func25 (by kernel_rfl) rfl #[.agg #[.int .i64 t449,.slice (some ⟨go29,0,none⟩) y464.length co84]] rfl (by(try simp only[List.map_toArray,List.map_cons,List.map_nil]);first|done|(rw[show y464.length=y461.length from(Kd.R_reads' HO463.out).1.symm]<;>rfl)|rfl|(simp only[List.length_drop,List.length_take];rfl)) ?_;(with_reducible refine(impl_StockOk.calls kj7 t449 _ _ y464 true _ ?side1 ?side2 A31.out).mono ?_);(case side1=>refine(Kd.R_reads' (e:=46) (base:=w.heap.size) (ok:=fun k_=>some k_≠(.slice Ao12 t450.length co12:Value).ownBlock) (n:=y461.length) (c:=co84) ?_).2.2;exact(by(with_reducible repeat(first|apply Kd.R_alloc|apply Kd.R_drewN|apply Kd.R_drew));exact(Kd.R_mono (Kd.R_far (p:=⟨gb467,0,none⟩) (Kd.R_far (p:=⟨gb467,1,none⟩) (Kd.R_far (p:=⟨gb467,0,none⟩) (Kd.R_types HO463.out BK467.out (by decide)) (fun _ hk=>hk.2) (.int .i64 (wrap64 (t449 - t466)))) (fun _ hk=>hk.2) (.slice Ao12 t450.length co12)) (fun _ hk=>hk.2) (.int .i64 (wrap64 ((wrap64 (t449 - t466)) - 1)))) (fun _ h_=>h_.1))));(case side2=>rw[show y464.length=y461.length from(Kd.R_reads' HO463.out).1.symm];exact(Kd.R_reads' HO463.out).2.1);rintro e w107 ⟨rfl,hb⟩;refine⟨_,rfl,?_⟩;have n0_:=qal.mk (Kd.Q_below (by(with_reducible repeat(first|apply Kd.Q_alloc|apply Kd.Q_drewN|apply Kd.Q_drew));exact(Kd.Q_mono (Kd.Q_far (p:=⟨gb467,0,none⟩) (Kd.Q_far (p:=⟨gb467,1,none⟩) (Kd.Q_far (p:=⟨gb467,0,none⟩) (Kd.Q_types HO_454001.out BK467.out (by decide)) (fun _ hk=>hk.2) (.int .i64 (wrap64 (t449 - t466)))) (fun _ hk=>hk.2) (.slice Ao12 t450.length co12)) (fun _ hk=>hk.2) (.int .i64 (wrap64 ((wrap64 (t449 - t466)) - 1)))) (fun _ h_=>h_.1))) hb);have n1_:=qal.mk (Kd.R_below (by(with_reducible repeat(first|apply Kd.R_alloc|apply Kd.R_drewN|apply Kd.R_drew));exact(Kd.R_mono (Kd.R_far (p:=⟨gb467,0,none⟩) (Kd.R_far (p:=⟨gb467,1,none⟩) (Kd.R_far (p:=⟨gb467,0,none⟩) (Kd.R_types HO463.out BK467.out (by decide)) (fun _ hk=>hk.2) (.int .i64 (wrap64 (t449 - t466)))) (fun _ hk=>hk.2) (.slice Ao12 t450.length co12)) (fun _ hk=>hk.2) (.int .i64 (wrap64 ((wrap64 (t449 - t466)) - 1)))) (fun _ h_=>h_.1))) hb);have n2_:=qal.mk (qac (g:=gb453) (o:=.cells #[.int .i64 t449,.slice Ao12 t450.length co12] 36 (0,0)) (za7 NB453_467 BK453) hb);have n3_:=qal.mk (qac (g:=gb457) (o:=.cells #[.int .i64 t449,.slice (some ⟨go29,0,none⟩) y461.length co84] 36 (0,0)) (za7 NB457_467 BK457) hb);have n4_:=qal.mk (qac (g:=gb465) (o:=.cells #[.int .i64 (wrap64 (t449 - t466)),.slice Ao12 t450.length co12] 36 (0,0)) (za7 NB465_467 BK465) hb);have n5_:=qal.mk (qac (g:=gb467) (o:=.cells #[.int .i64 (wrap64 ((wrap64 (t449 - t466)) - 1)),.slice Ao12 t450.length co12] 36 (0,0)) (by(with_reducible repeat(first|refine qag ?_ _|refine qah ?_|refine qaf ?_ _));refine qan (cs:=#[.int .i64 (wrap64 (t449 - t466)),.slice Ao12 t450.length co12]) ?_ 0 _ rfl;(with_reducible repeat(first|refine qag ?_ _|refine qah ?_|refine qaf ?_ _));refine qan (cs:=#[.int .i64 (wrap64 (t449 - t466)),.slice none 0 0]) ?_ 1 _ rfl;(with_reducible repeat(first|refine qag ?_ _|refine qah ?_|refine qaf ?_ _));refine qan (cs:=#[.int .i64 0,.slice none 0 0]) ?_ 0 _ rfl;(with_reducible repeat(first|refine qag ?_ _|refine qah ?_|refine qaf ?_ _));exact BK467.out) hb);have n6_:=qal.mk (qae (za11 HB GE453 GE457 GE465 GE467) hb);clear HO_454001;clear HO463;clear BK453;clear BK457;clear BK465;clear BK467;clear HB;have HO_454001:=n0_;have HO463:=n1_;have BK453:=n2_;have BK457:=n3_;have BK465:=n4_;have BK467:=n5_;have HB:=n6_;clear n0_ n1_ n2_ n3_ n4_ n5_ n6_;(try clear hb);(try clear hb2);(try clear hk);(try clear hi);have hcz108_0:w107.cell? ⟨gb465,0,none⟩=some (.int .i64 (wrap64 (t449 - t466))):=(qab BK465.out 0).trans rfl;have hcz108_1:w107.cell? ⟨gb465,1,none⟩=some (.slice Ao12 t450.length co12):=(qab BK465.out 1).trans rfl;have hfz108_0:=qaa BK465.out 0;have hfz108_1:=qaa BK465.out 1)|(go_at_call 25;(with_reducible refine(impl_StockOk.calls kj7 (wrap64 (t449 - t466)) _ _ t450 true _ ?side1 ?side2 A33.out).mono ?_);(case side1=>repeat(first|exact(Kd.Q_reads' HO_454001.out).2.2|(with_reducible refine Kd.C_alloc ?_ _)|(with_reducible refine Kd.C_drewN ?_ _)|(with_reducible refine Kd.C_drew ?_)));(case side2=>exact(Kd.Q_reads' HO_454001.out).2.1);rintro e w109 ⟨rfl,hb⟩;have n0_:=qal.mk (Kd.Q_below (za16 HO_454001) hb);have n1_:=qal.mk (Kd.R_below (za4 HO463) hb);have n2_:=qal.mk (qac (g:=gb453) (o:=.cells #[.int .i64 t449,.slice Ao12 t450.length co12] 36 (0,0)) (za0 BK453) hb);have n3_:=qal.mk (qac (g:=gb457) (o:=.cells #[.int .i64 t449,.slice (some ⟨go29,0,none⟩) y461.length co84] 36 (0,0)) (za0 BK457) hb);have n4_:=qal.mk (qac (g:=gb465) (o:=.cells #[.int .i64 (wrap64 (t449 - t466)),.slice Ao12 t450.length co12] 36 (0,0)) (za0 BK465) hb);have n5_:=qal.mk (qac (g:=gb467) (o:=.cells #[.int .i64 (wrap64 ((wrap64 (t449 - t466)) - 1)),.slice Ao12 t450.length co12] 36 (0,0)) (za0 BK467) hb);have n6_:=qal.mk (qae (za11 HB GE453 GE457 GE465 GE467) hb);clear HO_454001;clear HO463;clear BK453;clear BK457;clear BK465;clear BK467;clear HB;have HO_454001:=n0_;have HO463:=n1_;have BK453:=n2_;have BK457:=n3_;have BK465:=n4_;have BK467:=n5_;have HB:=n6_;clear n0_ n1_ n2_ n3_ n4_ n5_ n6_;(try clear hb);(try clear hb2);(try clear hk);(try clear hi);have hcz110_0:w109.cell? ⟨gb465,0,none⟩=some (.int .i64 (wrap64 (t449 - t466))):=(qab BK465.out 0).trans rfl;have hcz110_1:w109.cell? ⟨gb465,1,none⟩=some (.slice Ao12 t450.length co12):=(qab BK465.out 1).trans rfl;have hfz110_0:=qaa BK465.out 0;have hfz110_1:=qaa BK465.out 1)|(go_at_call 26;(with_reducible refine(impl_StockFree.calls kj7 (wrap64 (t449 - t466)) _ _ t450 t470 _ ?side1 ?side2 A35.out).mono ?_);(case side1=>repeat(first|exact(Kd.Q_reads' HO_454001.out).2.2|(with_reducible refine Kd.C_alloc ?_ _)|(with_reducible refine Kd.C_drewN ?_ _)|(with_reducible refine Kd.C_drew ?_)));(case side2=>exact(Kd.Q_reads' HO_454001.out).2.1);rintro e w111 ⟨rfl,hb⟩;have n0_:=qal.mk (Kd.Q_below (za16 HO_454001) hb);have n1_:=qal.mk (Kd.R_below (za4 HO463) hb);have n2_:=qal.mk (qac (g:=gb453) (o:=.cells #[.int .i64 t449,.slice Ao12 t450.length co12] 36 (0,0)) (za0 BK453) hb);have n3_:=qal.mk (qac (g:=gb457) (o:=.cells #[.int .i64 t449,.slice (some ⟨go29,0,none⟩) y461.length co84] 36 (0,0)) (za0 BK457) hb);have n4_:=qal.mk (qac (g:=gb465) (o:=.cells #[.int .i64 (wrap64 (t449 - t466)),.slice Ao12 t450.length co12] 36 (0,0)) (za0 BK465) hb);have n5_:=qal.mk (qac (g:=gb467) (o:=.cells #[.int .i64 (wrap64 ((wrap64 (t449 - t466)) - 1)),.slice Ao12 t450.length co12] 36 (0,0)) (za0 BK467) hb);have n6_:=qal.mk (qae (za11 HB GE453 GE457 GE465 GE467) hb);clear HO_454001;clear HO463;clear BK453;clear BK457;clear BK465;clear BK467;clear HB;have HO_454001:=n0_;have HO463:=n1_;have BK453:=n2_;have BK457:=n3_;have BK465:=n4_;have BK467:=n5_;have HB:=n6_;clear n0_ n1_ n2_ n3_ n4_ n5_ n6_;(try clear hb);(try clear hb2);(try clear hk);(try clear hi)))
              go_ret
              exact⟨by first|rfl|(simp[qaw,qav]<;>rfl)|(simp only[←hji26];first|rfl|(simp[qaw,qav]<;>rfl))|(simp[*,qaw,qav]<;>rfl),za11 HB GE453 GE457 GE465 GE467⟩
            ·replace c34:=Bool.eq_false_iff.mpr c34
             subst c34
             have H1:(some false)=some r:=by rw[if_neg (show ¬(false=true) by decide)] at H;exact H
             clear H
             have H:=H1
             clear H1
             obtain rfl:=Option.some.inj H
             have hcz112_0:wc.cell? ⟨gb453,0,none⟩=some (.int .i64 t449):=(qab BK453.out 0).trans rfl
             have hcz112_1:wc.cell? ⟨gb453,1,none⟩=some (.slice Ao12 t450.length co12):=(qab BK453.out 1).trans rfl
             have hfz112_0:=qaa BK453.out 0
             have hfz112_1:=qaa BK453.out 1
             try go_wp2_with(first|((with_reducible refine qak (N:=8) rfl ?_);(try(refine qbc (by rfl) ?_;dsimp only));refine qaj ?hg (N:=8) ?hd (cs:=#[.int .i64 0,.slice none 0 0]) (t:=36) ?hr ?_;(case hd=>rfl);(case hg=>rfl);(case hr=>first|(go_simp;done)|(go_simp;rfl));intro gb457 hg w113 hbox hb;have n0_:=qal.mk (Kd.Q_below (za16 HO_454001) hb);have n1_:=qal.mk (qac (g:=gb453) (o:=.cells #[.int .i64 t449,.slice Ao12 t450.length co12] 36 (0,0)) (za0 BK453) hb);have n2_:=qal.mk (qae (za1 HB GE453) hb);have n3_:=qal.mk (hbox);have n4_:=qal.mk ((by rw[hg];exact(qad (za1 HB GE453)):w.heap.size≤gb457));have n5_:=qal.mk ((by rw[hg];exact(qad (za1 HB GE453)):w.heap.size≤gb457));have n6_:=qal.mk ((by rw[hg];exact Nat.ne_of_lt (qao (g:=gb453) (o:=.cells #[.int .i64 t449,.slice Ao12 t450.length co12] 36 (0,0)) (za0 BK453)):gb453≠gb457));have n7_:=qal.mk ((by rw[hg];exact Nat.ne_of_gt (qao (g:=gb453) (o:=.cells #[.int .i64 t449,.slice Ao12 t450.length co12] 36 (0,0)) (za0 BK453)):gb457≠gb453));clear HO_454001;clear BK453;clear HB;have HO_454001:=n0_;have BK453:=n1_;have HB:=n2_;have BK457:=n3_;have GW457:=n4_;have GE457:=n5_;have NB453_457:=n6_;have NB457_453:=n7_;clear n0_ n1_ n2_ n3_ n4_ n5_ n6_ n7_;clear hb hbox hg;have hnb114:=NB457_453.out;have hnc114:=NB453_457.out;have hcz115_0:w113.cell? ⟨gb457,0,none⟩=some (.int .i64 0):=(qab BK457.out 0).trans rfl;have hcz115_1:w113.cell? ⟨gb457,1,none⟩=some (.slice none 0 0):=(qab BK457.out 1).trans rfl;have hfz115_0:=qaa BK457.out 0;have hfz115_1:=qaa BK457.out 1)|((with_reducible refine qak (N:=42) rfl ?_);(try(refine qbc (by rfl) ?_;dsimp only));refine Kd.R_lit k46 _ 46 ?hg (N:=42) ?hd (xs:=([]:List (S46))) (inner:=[]) (ok:=fun _=>True) (okp:=fun _=>True) ?hr ?hp (fun _ hk=>hk) trivial (Below.refl _ _) (Nat.le_refl _) (by simp) ?_;(case hd=>rfl);(case hg=>rfl);(case hr=>first|(go_simp;done)|(go_simp;rfl));(case hp=>exact(Reps.none _ _));intro v459 w116 ho117 hb hg_ hnew_;clear hg_ hnew_;(first|rw[←Ny458.out] at ho117|(simp only[Int.reduceToNat] at ho117;rw[←Ny458.out] at ho117));have n0_:=qal.mk (Kd.Q_elder' (by(with_reducible repeat(first|apply Kd.Q_alloc|apply Kd.Q_drewN|apply Kd.Q_drew));exact(Kd.Q_mono (Kd.Q_far (p:=⟨gb457,1,none⟩) (Kd.Q_far (p:=⟨gb457,0,none⟩) (Kd.Q_types HO_454001.out BK457.out (by decide)) (fun _ hk=>hk.2) (.int .i64 t449)) (fun _ hk=>hk.2) (.slice Ao12 t450.length co12)) (fun _ h_=>h_.1))) (Kd.R_base ho117) hb);have n1_:=qal.mk (Kd.R_lower (Kd.R_new' ho117 (Kd.Q_lt (by(with_reducible repeat(first|apply Kd.Q_alloc|apply Kd.Q_drewN|apply Kd.Q_drew));exact(Kd.Q_mono (Kd.Q_far (p:=⟨gb457,1,none⟩) (Kd.Q_far (p:=⟨gb457,0,none⟩) (Kd.Q_types HO_454001.out BK457.out (by decide)) (fun _ hk=>hk.2) (.int .i64 t449)) (fun _ hk=>hk.2) (.slice Ao12 t450.length co12)) (fun _ h_=>h_.1))))) (qad (za3 HB GE453 GE457)));have n2_:=qal.mk (qac (g:=gb453) (o:=.cells #[.int .i64 t449,.slice Ao12 t450.length co12] 36 (0,0)) (za5 NB453_457 BK453) hb);have n3_:=qal.mk (qac (g:=gb457) (o:=.cells #[.int .i64 t449,.slice Ao12 t450.length co12] 36 (0,0)) (by(with_reducible repeat(first|refine qag ?_ _|refine qah ?_|refine qaf ?_ _));refine qan (cs:=#[.int .i64 t449,.slice none 0 0]) ?_ 1 _ rfl;(with_reducible repeat(first|refine qag ?_ _|refine qah ?_|refine qaf ?_ _));refine qan (cs:=#[.int .i64 0,.slice none 0 0]) ?_ 0 _ rfl;(with_reducible repeat(first|refine qag ?_ _|refine qah ?_|refine qaf ?_ _));exact BK457.out) hb);have n4_:=qal.mk (qae (za3 HB GE453 GE457) hb);clear HO_454001;clear BK453;clear BK457;clear HB;have HO_454001:=n0_;have HO460:=n1_;have BK453:=n2_;have BK457:=n3_;have HB:=n4_;clear n0_ n1_ n2_ n3_ n4_;clear hb ho117;have hcz118_0:w116.cell? ⟨gb453,0,none⟩=some (.int .i64 t449):=(qab BK453.out 0).trans rfl;have hcz118_1:w116.cell? ⟨gb453,1,none⟩=some (.slice Ao12 t450.length co12):=(qab BK453.out 1).trans rfl;have hfz118_0:=qaa BK453.out 0;have hfz118_1:=qaa BK453.out 1)|((with_reducible refine gate_builtin (b:=.append) (xs:=#[.tmp 42,.tmp 44]) rfl ?_);(try(refine qbc (by rfl) ?_;dsimp only));at_builtin;refine Kd.R_append_rows k46 (w0:=w) w.heap.size rfl (.tmp 42) (.tmp 44) 34 46 (.agg #[(.int .i64 0),(.int .i64 0)]) 16 rfl Try.underlying34 info46 rfl (by decide) (by omega) v459 y458 t450 _ _ _ (fun k_=>some k_≠(.slice Ao12 t450.length co12:Value).ownBlock) (fun _=>False) rfl rfl ?aO ?aR (fun _ _ h=>h) (fun _ h=>h.elim) ?aF ?aB ?aS ?aL ?_;(case aR=>repeat(first|exact(Kd.Q_reads' HO_454001.out).2.2|(with_reducible refine Kd.C_alloc ?_ _)|(with_reducible refine Kd.C_drewN ?_ _)|(with_reducible refine Kd.C_drew ?_)));(case aB=>exact(za3 HB GE453 GE457));(case aF=>exact(fun k_ hk=>Kd.fresh' (Kd.Q_lt (za16 HO_454001)) k_ hk));(case aO=>exact(by(with_reducible repeat(first|apply Kd.R_alloc|apply Kd.R_drewN|apply Kd.R_drew));exact Kd.R_mono HO460.out (fun _ hk=>hk.2)));(case aS=>exact(qad (za3 HB GE453 GE457)));(case aL=>have:=LMc25.out;omega);intro v462 w119 ho hb hg hat;rw[←Ny461.out] at ho;have n0_:=qal.mk (Kd.Q_after (ok:=(fun _=>True)) (za16 HO_454001) hg hat);have n1_:=qal.mk (qbb (g:=gb453) (o:=.cells #[.int .i64 t449,.slice Ao12 t450.length co12] 36 (0,0)) (za0 BK453) hg (Kd.R_ne HO460.out BK453.out (by decide)));have n2_:=qal.mk (qbb (g:=gb457) (o:=.cells #[.int .i64 t449,.slice Ao12 t450.length co12] 36 (0,0)) (za0 BK457) hg (Kd.R_ne HO460.out BK457.out (by decide)));have n3_:=qal.mk (hb);have n4_:=qal.mk (ho);clear HO_454001;clear BK453;clear BK457;clear HB;clear HO460;have HO_454001:=n0_;have BK453:=n1_;have BK457:=n2_;have HB:=n3_;have HO463:=n4_;clear n0_ n1_ n2_ n3_ n4_;clear ho hb hg hat;obtain⟨Ao120,co120,eo120⟩:=Kd.R_slice HO463.out;subst eo120;have hcz121_0:w119.cell? ⟨gb457,0,none⟩=some (.int .i64 t449):=(qab BK457.out 0).trans rfl;have hcz121_1:w119.cell? ⟨gb457,1,none⟩=some (.slice Ao12 t450.length co12):=(qab BK457.out 1).trans rfl;have hfz121_0:=qaa BK457.out 0;have hfz121_1:=qaa BK457.out 1)|((with_reducible refine gate_store (t:=34) (p:=46) rfl ?_);refine store_event (t:=34) (p:=46) (v:=?vo_w122) (w1:=(w119.setCell ⟨gb457,1,none⟩ (.slice Ao120 y461.length co120))) ?hg ?ho ?hn ?hr ?_;(case ho=>rfl);(case hg=>rfl);(case hn=>rfl);(case hr=>first|(go_simp;done)|(go_simp;rfl));intro w122 hw;have n0_:qal (Kd.Q k46 46 w122 w.heap.size (fun k_=>some k_≠(.slice Ao120 y461.length co120:Value).ownBlock) (.slice Ao12 t450.length co12) t450):=⟨(by rw[hw];exact(by(with_reducible repeat(first|apply Kd.Q_alloc|apply Kd.Q_drewN|apply Kd.Q_drew));exact Kd.Q_mono (Kd.Q_far (p:=⟨gb457,1,none⟩) (Kd.Q_types HO_454001.out BK457.out (by decide)) (fun _ hk=>hk.2) (.slice Ao120 y461.length co120)) (fun _ hk=>hk.1.2)))⟩;have n1_:qal (Kd.R k46 46 w122 w.heap.size (fun k_=>some k_≠(.slice Ao12 t450.length co12:Value).ownBlock) (.slice Ao120 y461.length co120) y461):=⟨(by rw[hw];exact(by(with_reducible repeat(first|apply Kd.R_alloc|apply Kd.R_drewN|apply Kd.R_drew));exact Kd.R_mono (Kd.R_far (p:=⟨gb457,1,none⟩) (Kd.R_types HO463.out BK457.out (by decide)) (fun _ hk=>hk.2) (.slice Ao120 y461.length co120)) (fun _ hk=>hk.1)))⟩;have n2_:qal (w122.heap[gb453]?=some (.cells #[.int .i64 t449,.slice Ao12 t450.length co12] 36 (0,0))):=⟨(by rw[hw];exact(za14 NB453_457 BK453))⟩;have n3_:qal (w122.heap[gb457]?=some (.cells #[.int .i64 t449,.slice Ao120 y461.length co120] 36 (0,0))):=⟨(by rw[hw];exact(by(with_reducible repeat(first|refine qag ?_ _|refine qah ?_|refine qaf ?_ _));refine qan (cs:=#[.int .i64 t449,.slice Ao12 t450.length co12]) ?_ 1 _ rfl;(with_reducible repeat(first|refine qag ?_ _|refine qah ?_|refine qaf ?_ _));exact BK457.out))⟩;have n4_:qal (Below w.heap.size w w122):=⟨(by rw[hw];exact(za3 HB GE453 GE457))⟩;clear hw;clear HO_454001;clear HO463;clear BK453;clear BK457;clear HB;have HO_454001:=n0_;have HO463:=n1_;have BK453:=n2_;have BK457:=n3_;have HB:=n4_;clear n0_ n1_ n2_ n3_ n4_;have hcz123_0:w122.cell? ⟨gb457,0,none⟩=some (.int .i64 t449):=(qab BK457.out 0).trans rfl;have hcz123_1:w122.cell? ⟨gb457,1,none⟩=some (.slice Ao120 y461.length co120):=(qab BK457.out 1).trans rfl;have hfz123_0:=qaa BK457.out 0;have hfz123_1:=qaa BK457.out 1;have p29:0≤((ji26):Int):=of_decide_eq_true (za8);have q29:((ji26):Int)<((y461.length:Int):Int):=of_decide_eq_true (za8);obtain⟨go29,co29,eo29,gb29,gl29,cl29,HG29⟩:=Kd.R_form HO463.out (by omega);(first|cases eo29|(injection eo29 with ea_ en_ ec_;(first|subst ea_|(injection ea_ with ea_;subst ea_));subst ec_;clear en_));have GB29:=qal.mk gb29;have GG29:=qal.mk HG29;clear gb29 gl29 HG29;obtain⟨ce29,hcl29,hM29,hcc29,hfr29⟩:=Kd.R_elem HO463.out z46 ((ji26):Int) p29 q29;obtain rfl:=k46_openM hM29;have hx29_0:w122.cell? ⟨go29,((ji26):Int).toNat*2,none⟩=some (.int .i64 ((rd_T46 y461 (ji26)).f0)):=hcc29 0 _ rfl;have hx29_1:w122.cell? ⟨go29,((ji26):Int).toNat*2+1,none⟩=some (.int .i64 ((rd_T46 y461 (ji26)).f1)):=hcc29 1 _ rfl;have hf29_0:w122.frozen? ⟨go29,((ji26):Int).toNat*2,none⟩=false:=hfr29 0;have hf29_1:w122.frozen? ⟨go29,((ji26):Int).toNat*2+1,none⟩=false:=hfr29 1;clear hcl29 hcc29 hfr29 hM29;replace p29:=eq_true p29;replace q29:=eq_true q29;have HX124:=qal.mk (show Kd.R k46 46 w122 w.heap.size (fun k_=>some k_≠(.slice Ao12 t450.length co12:Value).ownBlock) (.slice (some ⟨go29,0,none⟩) y461.length co120) y461 from(za4 HO463));obtain⟨ce124,hcl124,hM124,hcc124,hfr124⟩:=Kd.R_elem HX124.out z46 ((ji26):Int) (of_decide_eq_true (za8)) (by have h_:((ji26):Int)<((y461.length:Int):Int):=of_decide_eq_true (za8);first|exact h_|(have e_:=(Kd.R_reads' HO463.out).1;omega)|simpa using h_);obtain rfl:=k46_openM hM124;have HP124:=Kd.R_seg HX124.out ((ji26):Int) (of_decide_eq_true (za8)) (by have h_:((ji26):Int)<((y461.length:Int):Int):=of_decide_eq_true (za8);first|exact h_|(have e_:=(Kd.R_reads' HO463.out).1;omega)|simpa using h_) (seg:=[.int .i64 0,.int .i64 0]) (j:=0) hcl124 hcc124 (show 2≤2 from by decide) (x':=(⟨0,0⟩:S46)) (k46_mkM _ _ _ (⟨0,0⟩:S46) ) (fun _ hk=>hk);have hx124_0:=hcc124 0 _ rfl;(try simp only[show(k46).sz=2 from rfl,Nat.mul_one,Nat.add_zero] at hx124_0);have hf124_0:=hfr124 0;(try simp only[show(k46).sz=2 from rfl,Nat.mul_one,Nat.add_zero] at hf124_0);have hx124_1:=hcc124 1 _ rfl;(try simp only[show(k46).sz=2 from rfl,Nat.mul_one,Nat.add_zero] at hx124_1);have hf124_1:=hfr124 1;(try simp only[show(k46).sz=2 from rfl,Nat.mul_one,Nat.add_zero] at hf124_1);clear hcl124 hcc124 hfr124 hM124)|((with_reducible refine gate_store (t:=46) (p:=51) rfl ?_);refine store_event (t:=46) (p:=51) (v:=?vo_w125) (w1:=((w122.setCell ⟨go29,((ji26):Int).toNat*2,none⟩ (.int .i64 0)).setCell ⟨go29,((ji26):Int).toNat*2+1,none⟩ (.int .i64 0))) ?hg ?ho ?hn ?hr ?_;(case ho=>rfl);(case hg=>rfl);(case hn=>rfl);(case hr=>first|(go_simp;done)|(go_simp;rfl));intro w125 hw;have hg:w122.grownBy w125 (some go29):=(by rw[hw];exact HP124.2);have hp_:Kd.R k46 46 w125 w.heap.size (fun k_=>some k_≠(.slice Ao12 t450.length co12:Value).ownBlock) (.slice (some ⟨go29,0,none⟩) y461.length co120) y464:=(by rw[hw,Ny464.out];exact HP124.1);clear HP124;have n0_:=qal.mk (Kd.Q_after (v:=(.slice (some ⟨go29,0,none⟩) y461.length co120)) (v1:=(.slice (some ⟨go29,0,none⟩) y461.length co120)) (ok:=(fun _=>True)) (by(with_reducible repeat(first|apply Kd.Q_alloc|apply Kd.Q_drewN|apply Kd.Q_drew));exact Kd.Q_mono HO_454001.out (fun _ hk=>⟨trivial,hk⟩)) hg (.inl rfl));have n1_:=qal.mk (qbb (g:=gb453) (o:=.cells #[.int .i64 t449,.slice Ao12 t450.length co12] 36 (0,0)) (za0 BK453) hg (Kd.R_ne HO463.out BK453.out (by decide)));have n2_:=qal.mk (qbb (g:=gb457) (o:=.cells #[.int .i64 t449,.slice (some ⟨go29,0,none⟩) y461.length co120] 36 (0,0)) (za0 BK457) hg (Kd.R_ne HO463.out BK457.out (by decide)));have n3_:=qal.mk (hp_);have n4_:=qal.mk ((by rw[hw];exact qam (qam (HB.out) GB29.out) GB29.out:Below w.heap.size w w125));clear HO_454001;clear BK453;clear BK457;clear HO463;clear HB;have HO_454001:=n0_;have BK453:=n1_;have BK457:=n2_;have HO463:=n3_;have HB:=n4_;clear n0_ n1_ n2_ n3_ n4_;clear hg hw hp_;have hcz126_0:w125.cell? ⟨gb453,0,none⟩=some (.int .i64 t449):=(qab BK453.out 0).trans rfl;have hcz126_1:w125.cell? ⟨gb453,1,none⟩=some (.slice Ao12 t450.length co12):=(qab BK453.out 1).trans rfl;have hfz126_0:=qaa BK453.out 0;have hfz126_1:=qaa BK453.out 1)|((with_reducible refine qak (N:=9) rfl ?_);(try(refine qbc (by rfl) ?_;dsimp only));refine qaj ?hg (N:=9) ?hd (cs:=#[.int .i64 0,.slice none 0 0]) (t:=36) ?hr ?_;(case hd=>rfl);(case hg=>rfl);(case hr=>first|(go_simp;done)|(go_simp;rfl));intro gb465 hg w127 hbox hb;have n0_:=qal.mk (Kd.Q_below (za16 HO_454001) hb);have n1_:=qal.mk (Kd.R_below (za4 HO463) hb);have n2_:=qal.mk (qac (g:=gb453) (o:=.cells #[.int .i64 t449,.slice Ao12 t450.length co12] 36 (0,0)) (za0 BK453) hb);have n3_:=qal.mk (qac (g:=gb457) (o:=.cells #[.int .i64 t449,.slice (some ⟨go29,0,none⟩) y461.length co120] 36 (0,0)) (za0 BK457) hb);have n4_:=qal.mk (qae (za3 HB GE453 GE457) hb);have n5_:=qal.mk (hbox);have n6_:=qal.mk ((by rw[hg];exact(qad (za3 HB GE453 GE457)):w.heap.size≤gb465));have n7_:=qal.mk ((by rw[hg];exact(qad (za3 HB GE453 GE457)):w.heap.size≤gb465));have n8_:=qal.mk ((by rw[hg];exact Nat.ne_of_lt (qao (g:=gb453) (o:=.cells #[.int .i64 t449,.slice Ao12 t450.length co12] 36 (0,0)) (za0 BK453)):gb453≠gb465));have n9_:=qal.mk ((by rw[hg];exact Nat.ne_of_gt (qao (g:=gb453) (o:=.cells #[.int .i64 t449,.slice Ao12 t450.length co12] 36 (0,0)) (za0 BK453)):gb465≠gb453));have n10_:=qal.mk ((by rw[hg];exact Nat.ne_of_lt (qao (g:=gb457) (o:=.cells #[.int .i64 t449,.slice (some ⟨go29,0,none⟩) y461.length co120] 36 (0,0)) (za0 BK457)):gb457≠gb465));have n11_:=qal.mk ((by rw[hg];exact Nat.ne_of_gt (qao (g:=gb457) (o:=.cells #[.int .i64 t449,.slice (some ⟨go29,0,none⟩) y461.length co120] 36 (0,0)) (za0 BK457)):gb465≠gb457));clear HO_454001;clear HO463;clear BK453;clear BK457;clear HB;have HO_454001:=n0_;have HO463:=n1_;have BK453:=n2_;have BK457:=n3_;have HB:=n4_;have BK465:=n5_;have GW465:=n6_;have GE465:=n7_;have NB453_465:=n8_;have NB465_453:=n9_;have NB457_465:=n10_;have NB465_457:=n11_;clear n0_ n1_ n2_ n3_ n4_ n5_ n6_ n7_ n8_ n9_ n10_ n11_;clear hb hbox hg;have hnb128:=NB465_453.out;have hnc128:=NB453_465.out;have hnb129:=NB465_457.out;have hnc129:=NB457_465.out;have hcz130_0:w127.cell? ⟨gb465,0,none⟩=some (.int .i64 0):=(qab BK465.out 0).trans rfl;have hcz130_1:w127.cell? ⟨gb465,1,none⟩=some (.slice none 0 0):=(qab BK465.out 1).trans rfl;have hfz130_0:=qaa BK465.out 0;have hfz130_1:=qaa BK465.out 1))
             have n0_:qal (Kd.Q k46 46 ((w127.setCell ⟨gb465,0,none⟩ (.int .i64 t449)).setCell ⟨gb465,1,none⟩ (.slice Ao12 t450.length co12)) w.heap.size (fun k_=>some k_≠(.slice (some ⟨go29,0,none⟩) y461.length co120:Value).ownBlock) (.slice Ao12 t450.length co12) t450):=⟨by(with_reducible repeat(first|apply Kd.Q_alloc|apply Kd.Q_drewN|apply Kd.Q_drew));exact Kd.Q_mono (Kd.Q_far (p:=⟨gb465,1,none⟩) (Kd.Q_far (p:=⟨gb465,0,none⟩) (Kd.Q_types HO_454001.out BK465.out (by decide)) (fun _ hk=>hk.2) (.int .i64 t449)) (fun _ hk=>hk.2) (.slice Ao12 t450.length co12)) (fun _ hk=>hk.1.2)⟩
             have n1_:qal (Kd.R k46 46 ((w127.setCell ⟨gb465,0,none⟩ (.int .i64 t449)).setCell ⟨gb465,1,none⟩ (.slice Ao12 t450.length co12)) w.heap.size (fun k_=>some k_≠(.slice Ao12 t450.length co12:Value).ownBlock) (.slice (some ⟨go29,0,none⟩) y461.length co120) y464):=⟨by(with_reducible repeat(first|apply Kd.R_alloc|apply Kd.R_drewN|apply Kd.R_drew));exact Kd.R_mono (Kd.R_far (p:=⟨gb465,1,none⟩) (Kd.R_far (p:=⟨gb465,0,none⟩) (Kd.R_types HO463.out BK465.out (by decide)) (fun _ hk=>hk.2) (.int .i64 t449)) (fun _ hk=>hk.2) (.slice Ao12 t450.length co12)) (fun _ hk=>hk.1)⟩
             have n2_:qal (((w127.setCell ⟨gb465,0,none⟩ (.int .i64 t449)).setCell ⟨gb465,1,none⟩ (.slice Ao12 t450.length co12)).heap[gb453]?=some (.cells #[.int .i64 t449,.slice Ao12 t450.length co12] 36 (0,0))):=⟨za5 NB453_465 BK453⟩
             have n3_:qal (((w127.setCell ⟨gb465,0,none⟩ (.int .i64 t449)).setCell ⟨gb465,1,none⟩ (.slice Ao12 t450.length co12)).heap[gb457]?=some (.cells #[.int .i64 t449,.slice (some ⟨go29,0,none⟩) y461.length co120] 36 (0,0))):=⟨za5 NB457_465 BK457⟩
             have n4_:qal (((w127.setCell ⟨gb465,0,none⟩ (.int .i64 t449)).setCell ⟨gb465,1,none⟩ (.slice Ao12 t450.length co12)).heap[gb465]?=some (.cells #[.int .i64 t449,.slice Ao12 t450.length co12] 36 (0,0))):=⟨by(with_reducible repeat(first|refine qag ?_ _|refine qah ?_|refine qaf ?_ _));refine qan (cs:=#[.int .i64 t449,.slice none 0 0]) ?_ 1 _ rfl;(with_reducible repeat(first|refine qag ?_ _|refine qah ?_|refine qaf ?_ _));refine qan (cs:=#[.int .i64 0,.slice none 0 0]) ?_ 0 _ rfl;(with_reducible repeat(first|refine qag ?_ _|refine qah ?_|refine qaf ?_ _));exact BK465.out⟩
             have n5_:qal (Below w.heap.size w ((w127.setCell ⟨gb465,0,none⟩ (.int .i64 t449)).setCell ⟨gb465,1,none⟩ (.slice Ao12 t450.length co12))):=⟨za6 HB GE453 GE457 GE465⟩
             (try clear HO_454001)
             (try clear HO463)
             (try clear BK453)
             (try clear BK457)
             (try clear BK465)
             (try clear HB)
             generalize ((w127.setCell ⟨gb465,0,none⟩ (.int .i64 t449)).setCell ⟨gb465,1,none⟩ (.slice Ao12 t450.length co12))=w131 at n0_ n1_ n2_ n3_ n4_ n5_ ⊢
             have HO_454001:=n0_
             have HO463:=n1_
             have BK453:=n2_
             have BK457:=n3_
             have BK465:=n4_
             have HB:=n5_
             clear n0_ n1_ n2_ n3_ n4_ n5_
             have n0_:=qal.mk (Kd.Q_drew HO_454001.out)
             have n1_:=qal.mk (Kd.R_drew HO463.out)
             have n2_:=qal.mk (qah BK453.out)
             have n3_:=qal.mk (qah BK457.out)
             have n4_:=qal.mk (qah BK465.out)
             have n5_:=qal.mk (qaq HB.out)
             clear HO_454001
             clear HO463
             clear BK453
             clear BK457
             clear BK465
             clear HB
             have HO_454001:=n0_
             have HO463:=n1_
             have BK453:=n2_
             have BK457:=n3_
             have BK465:=n4_
             have HB:=n5_
             clear n0_ n1_ n2_ n3_ n4_ n5_
             refine start_ (n:=7) (S:=fun w'=>w'.cell? ⟨gb453,0,none⟩=some (.int .i64 t449)∧w'.cell? ⟨gb453,1,none⟩=some (.slice Ao12 t450.length co12)) (ds:=[]) #[false,false,false,false,false,false,false] (by kernel_rfl) rfl rfl ⟨(qab BK453.out 0).trans rfl,(qab BK453.out 1).trans rfl⟩ (fun hHeld=>?_)
             generalize w131.drew=w132 at HO_454001 HO463 BK453 BK457 BK465 HB hHeld ⊢
             refine qaz (i:=0) (N:=some 53) (v:=?_) (a':=?_) #[true,false,false,false,false,false,false] rfl rfl (by kernel_rfl) (fun _ _ _ h=>h) (Or.inl ⟨by rfl,?_⟩) ?_ ?_
             rotate_left
             ·intro w'
              go_simp
              with_reducible rfl
             rotate_left
             ·simp only[Act.put,List.setIfInBounds_toArray,List.set_cons_zero,List.set_cons_succ,qas,qat]
              rfl
             refine take_ (i:=1) (N:=some 54) (v:=?_) (a':=?_) #[true,true,false,false,false,false,false] rfl rfl (by kernel_rfl) (fun _ _ _ h=>h) (Or.inl ⟨by rfl,?_⟩) hHeld ?_ ?_
             rotate_left
             ·rintro w' ⟨s0,s1⟩
              go_simp
              with_reducible rfl
             rotate_left
             ·simp only[Act.put,List.setIfInBounds_toArray,List.set_cons_zero,List.set_cons_succ,qas,qat]
              rfl
             refine take_ (i:=2) (N:=some 55) (v:=?_) (a':=?_) #[true,true,true,false,false,false,false] rfl rfl (by kernel_rfl) (fun _ _ _ h=>h) (Or.inl ⟨by rfl,?_⟩) hHeld ?_ ?_
             rotate_left
             ·rintro w' ⟨s0,s1⟩
              go_simp
              with_reducible rfl
             rotate_left
             ·simp only[Act.put,List.setIfInBounds_toArray,List.set_cons_zero,List.set_cons_succ,qas,qat]
              rfl
             refine one_ (i:=3) (N:=some 56) #[true,true,true,true,false,false,false] rfl rfl (by kernel_rfl) (by decide) (fun K hK=>?_)
             refine goes_ Try.func26 (by kernel_rfl) rfl #[.agg #[.int .i64 t449,.slice Ao12 t450.length co12]] (by rfl) rfl rfl (by(try simp only[List.map_toArray,List.map_cons,List.map_nil]);first|done|rfl|(simp only[List.length_drop,List.length_take];rfl)) ?_
             with_reducible refine(impl_StockFree.calls kj7 t449 _ _ t450 t466 _ ?side1 ?side2 A30.out).mono ?_
             (case side1=>repeat(first|exact(Kd.Q_reads' HO_454001.out).2.2|(with_reducible refine Kd.C_alloc ?_ _)|(with_reducible refine Kd.C_drewN ?_ _)|(with_reducible refine Kd.C_drew ?_)))
             (case side2=>exact(Kd.Q_reads' HO_454001.out).2.1)
             rintro e w133 ⟨rfl,hb⟩
             refine⟨_,rfl,?_⟩
             have n0_:=qal.mk (Kd.Q_below (za16 HO_454001) hb)
             have n1_:=qal.mk (Kd.R_below (za4 HO463) hb)
             have n2_:=qal.mk (qac (g:=gb453) (o:=.cells #[.int .i64 t449,.slice Ao12 t450.length co12] 36 (0,0)) (za0 BK453) hb)
             have n3_:=qal.mk (qac (g:=gb457) (o:=.cells #[.int .i64 t449,.slice (some ⟨go29,0,none⟩) y461.length co120] 36 (0,0)) (za0 BK457) hb)
             have n4_:=qal.mk (qac (g:=gb465) (o:=.cells #[.int .i64 t449,.slice Ao12 t450.length co12] 36 (0,0)) (za0 BK465) hb)
             have n5_:=qal.mk (qae (za6 HB GE453 GE457 GE465) hb)
             clear HO_454001
             clear HO463
             clear BK453
             clear BK457
             clear BK465
             clear HB
             have HO_454001:=n0_
             have HO463:=n1_
             have BK453:=n2_
             have BK457:=n3_
             have BK465:=n4_
             have HB:=n5_
             clear n0_ n1_ n2_ n3_ n4_ n5_
             (try clear hb)
             (try clear hb2)
             (try clear hk)
             (try clear hi)
             refine hK.out _ _ ⟨(qab BK453.out 0).trans rfl,(qab BK453.out 1).trans rfl⟩ (fun hHeld=>?_)
             clear hK K
             refine norm_ (a':=?_) ?_ ?_
             rotate_left
             ·show Act.put _ (some 56) _=_
              simp only[Act.put,List.setIfInBounds_toArray,List.set_cons_zero,List.set_cons_succ,qas,qat]
              rfl
             refine qaz (i:=4) (N:=some 57) (v:=?_) (a':=?_) #[true,true,true,true,true,false,false] rfl rfl (by kernel_rfl) (fun _ _ _ h=>h) (Or.inl ⟨by rfl,?_⟩) ?_ ?_
             rotate_left
             ·intro w'
              go_simp
              with_reducible rfl
             rotate_left
             ·simp only[Act.put,List.setIfInBounds_toArray,List.set_cons_zero,List.set_cons_succ,qas,qat]
              rfl
             refine qaz (i:=5) (N:=some 58) (v:=?_) (a':=?_) #[true,true,true,true,true,true,false] rfl rfl (by kernel_rfl) (fun _ _ _ h=>h) (Or.inl ⟨by rfl,?_⟩) ?_ ?_
             rotate_left
             ·intro w'
              go_simp
              with_reducible rfl
             rotate_left
             ·simp only[Act.put,List.setIfInBounds_toArray,List.set_cons_zero,List.set_cons_succ,qas,qat]
              rfl
             refine one_ (i:=6) (N:=none) #[true,true,true,true,true,true,true] rfl rfl (by kernel_rfl) (by decide) (fun K hK=>?_)
             have hs134:w133.cell? ⟨gb465,0,none⟩=some (.int .i64 t449):=(qab BK465.out 0).trans rfl
             have hfs134:=qaa BK465.out 0
             have hns134_0:=NB453_465.out
             have hns134_1:=NB457_465.out
             have hms134_0:=NB465_453.out
             have hms134_1:=NB465_457.out
             refine skip_ (w1:=?_) (by rfl) rfl ?_ ?_
             rotate_left
             ·go_simp
              rfl
             refine hK.out _ _ ⟨((qay (p:=⟨gb465,_,none⟩) NB453_465.out _).trans (hHeld.1)),((qay (p:=⟨gb465,_,none⟩) NB453_465.out _).trans (hHeld.2))⟩ (fun hHeld=>?_)
             clear hK K
             refine done_ (by kernel_rfl) ?_
             have hcz135_0:w133.cell? ⟨gb465,0,none⟩=some (.int .i64 t449):=(qab BK465.out 0).trans rfl
             have hcz135_1:w133.cell? ⟨gb465,1,none⟩=some (.slice Ao12 t450.length co12):=(qab BK465.out 1).trans rfl
             have hfz135_0:=qaa BK465.out 0
             have hfz135_1:=qaa BK465.out 1
             try go_wp2_with(first|((with_reducible refine qak (N:=10) rfl ?_);(try(refine qbc (by rfl) ?_;dsimp only));refine qaj ?hg (N:=10) ?hd (cs:=#[.int .i64 0,.slice none 0 0]) (t:=36) ?hr ?_;(case hd=>rfl);(case hg=>rfl);(case hr=>first|(go_simp;done)|(go_simp;rfl));intro gb467 hg w136 hbox hb;have n0_:=qal.mk (Kd.Q_below (by(with_reducible repeat(first|apply Kd.Q_alloc|apply Kd.Q_drewN|apply Kd.Q_drew));exact(Kd.Q_mono (Kd.Q_far (p:=⟨gb465,0,none⟩) (Kd.Q_types HO_454001.out BK465.out (by decide)) (fun _ hk=>hk.2) (.int .i64 (wrap64 (t449 - t466)))) (fun _ h_=>h_.1))) hb);have n1_:=qal.mk (Kd.R_below (by(with_reducible repeat(first|apply Kd.R_alloc|apply Kd.R_drewN|apply Kd.R_drew));exact(Kd.R_mono (Kd.R_far (p:=⟨gb465,0,none⟩) (Kd.R_types HO463.out BK465.out (by decide)) (fun _ hk=>hk.2) (.int .i64 (wrap64 (t449 - t466)))) (fun _ h_=>h_.1))) hb);have n2_:=qal.mk (qac (g:=gb453) (o:=.cells #[.int .i64 t449,.slice Ao12 t450.length co12] 36 (0,0)) (za14 NB453_465 BK453) hb);have n3_:=qal.mk (qac (g:=gb457) (o:=.cells #[.int .i64 t449,.slice (some ⟨go29,0,none⟩) y461.length co120] 36 (0,0)) (za14 NB457_465 BK457) hb);have n4_:=qal.mk (qac (g:=gb465) (o:=.cells #[.int .i64 (wrap64 (t449 - t466)),.slice Ao12 t450.length co12] 36 (0,0)) (by(with_reducible repeat(first|refine qag ?_ _|refine qah ?_|refine qaf ?_ _));refine qan (cs:=#[.int .i64 t449,.slice Ao12 t450.length co12]) ?_ 0 _ rfl;(with_reducible repeat(first|refine qag ?_ _|refine qah ?_|refine qaf ?_ _));exact BK465.out) hb);have n5_:=qal.mk (qae (za6 HB GE453 GE457 GE465) hb);have n6_:=qal.mk (hbox);have n7_:=qal.mk ((by rw[hg];exact(qad (za6 HB GE453 GE457 GE465)):w.heap.size≤gb467));have n8_:=qal.mk ((by rw[hg];exact(qad (za6 HB GE453 GE457 GE465)):w.heap.size≤gb467));have n9_:=qal.mk ((by rw[hg];exact Nat.ne_of_lt (qao (g:=gb453) (o:=.cells #[.int .i64 t449,.slice Ao12 t450.length co12] 36 (0,0)) (za14 NB453_465 BK453)):gb453≠gb467));have n10_:=qal.mk ((by rw[hg];exact Nat.ne_of_gt (qao (g:=gb453) (o:=.cells #[.int .i64 t449,.slice Ao12 t450.length co12] 36 (0,0)) (za14 NB453_465 BK453)):gb467≠gb453));have n11_:=qal.mk ((by rw[hg];exact Nat.ne_of_lt (qao (g:=gb457) (o:=.cells #[.int .i64 t449,.slice (some ⟨go29,0,none⟩) y461.length co120] 36 (0,0)) (za14 NB457_465 BK457)):gb457≠gb467));have n12_:=qal.mk ((by rw[hg];exact Nat.ne_of_gt (qao (g:=gb457) (o:=.cells #[.int .i64 t449,.slice (some ⟨go29,0,none⟩) y461.length co120] 36 (0,0)) (za14 NB457_465 BK457)):gb467≠gb457));have n13_:=qal.mk ((by rw[hg];exact Nat.ne_of_lt (qao (g:=gb465) (o:=.cells #[.int .i64 (wrap64 (t449 - t466)),.slice Ao12 t450.length co12] 36 (0,0)) (by(with_reducible repeat(first|refine qag ?_ _|refine qah ?_|refine qaf ?_ _));refine qan (cs:=#[.int .i64 t449,.slice Ao12 t450.length co12]) ?_ 0 _ rfl;(with_reducible repeat(first|refine qag ?_ _|refine qah ?_|refine qaf ?_ _));exact BK465.out)):gb465≠gb467));have n14_:=qal.mk ((by rw[hg];exact Nat.ne_of_gt (qao (g:=gb465) (o:=.cells #[.int .i64 (wrap64 (t449 - t466)),.slice Ao12 t450.length co12] 36 (0,0)) (by(with_reducible repeat(first|refine qag ?_ _|refine qah ?_|refine qaf ?_ _));refine qan (cs:=#[.int .i64 t449,.slice Ao12 t450.length co12]) ?_ 0 _ rfl;(with_reducible repeat(first|refine qag ?_ _|refine qah ?_|refine qaf ?_ _));exact BK465.out)):gb467≠gb465));clear HO_454001;clear HO463;clear BK453;clear BK457;clear BK465;clear HB;have HO_454001:=n0_;have HO463:=n1_;have BK453:=n2_;have BK457:=n3_;have BK465:=n4_;have HB:=n5_;have BK467:=n6_;have GW467:=n7_;have GE467:=n8_;have NB453_467:=n9_;have NB467_453:=n10_;have NB457_467:=n11_;have NB467_457:=n12_;have NB465_467:=n13_;have NB467_465:=n14_;clear n0_ n1_ n2_ n3_ n4_ n5_ n6_ n7_ n8_ n9_ n10_ n11_ n12_ n13_ n14_;clear hb hbox hg;have hnb137:=NB467_453.out;have hnc137:=NB453_467.out;have hnb138:=NB467_457.out;have hnc138:=NB457_467.out;have hnb139:=NB467_465.out;have hnc139:=NB465_467.out;have hcz140_0:w136.cell? ⟨gb467,0,none⟩=some (.int .i64 0):=(qab BK467.out 0).trans rfl;have hcz140_1:w136.cell? ⟨gb467,1,none⟩=some (.slice none 0 0):=(qab BK467.out 1).trans rfl;have hfz140_0:=qaa BK467.out 0;have hfz140_1:=qaa BK467.out 1;have hcz141_0:w136.cell? ⟨gb465,0,none⟩=some (.int .i64 (wrap64 (t449 - t466))):=(qab BK465.out 0).trans rfl;have hcz141_1:w136.cell? ⟨gb465,1,none⟩=some (.slice Ao12 t450.length co12):=(qab BK465.out 1).trans rfl;have hfz141_0:=qaa BK465.out 0;have hfz141_1:=qaa BK465.out 1;have hcz142_0:w136.cell? ⟨gb457,0,none⟩=some (.int .i64 t449):=(qab BK457.out 0).trans rfl;have hcz142_1:w136.cell? ⟨gb457,1,none⟩=some (.slice (some ⟨go29,0,none⟩) y461.length co120):=(qab BK457.out 1).trans rfl;have hfz142_0:=qaa BK457.out 0;have hfz142_1:=qaa BK457.out 1)|((with_reducible refine qai (f:=25) rfl ?_);refine qau (some 65) rfl rfl Try.func25 (by kernel_rfl) rfl #[.agg #[.int .i64 t449,.slice (some ⟨go29,0,none⟩) y464.length co120]] rfl (by(try simp only[List.map_toArray,List.map_cons,List.map_nil]);first|done|(rw[show y464.length=y461.length from(Kd.R_reads' HO463.out).1.symm]<;>rfl)|rfl|(simp only[List.length_drop,List.length_take];rfl)) ?_;(with_reducible refine(impl_StockOk.calls kj7 t449 _ _ y464 true _ ?side1 ?side2 A31.out).mono ?_);(case side1=>refine(Kd.R_reads' (e:=46) (base:=w.heap.size) (ok:=fun k_=>some k_≠(.slice Ao12 t450.length co12:Value).ownBlock) (n:=y461.length) (c:=co120) ?_).2.2;exact(by(with_reducible repeat(first|apply Kd.R_alloc|apply Kd.R_drewN|apply Kd.R_drew));exact(Kd.R_mono (Kd.R_far (p:=⟨gb467,0,none⟩) (Kd.R_far (p:=⟨gb467,1,none⟩) (Kd.R_far (p:=⟨gb467,0,none⟩) (Kd.R_types HO463.out BK467.out (by decide)) (fun _ hk=>hk.2) (.int .i64 (wrap64 (t449 - t466)))) (fun _ hk=>hk.2) (.slice Ao12 t450.length co12)) (fun _ hk=>hk.2) (.int .i64 (wrap64 ((wrap64 (t449 - t466)) - 1)))) (fun _ h_=>h_.1))));(case side2=>rw[show y464.length=y461.length from(Kd.R_reads' HO463.out).1.symm];exact(Kd.R_reads' HO463.out).2.1);rintro e w143 ⟨rfl,hb⟩;refine⟨_,rfl,?_⟩;have n0_:=qal.mk (Kd.Q_below (by(with_reducible repeat(first|apply Kd.Q_alloc|apply Kd.Q_drewN|apply Kd.Q_drew));exact(Kd.Q_mono (Kd.Q_far (p:=⟨gb467,0,none⟩) (Kd.Q_far (p:=⟨gb467,1,none⟩) (Kd.Q_far (p:=⟨gb467,0,none⟩) (Kd.Q_types HO_454001.out BK467.out (by decide)) (fun _ hk=>hk.2) (.int .i64 (wrap64 (t449 - t466)))) (fun _ hk=>hk.2) (.slice Ao12 t450.length co12)) (fun _ hk=>hk.2) (.int .i64 (wrap64 ((wrap64 (t449 - t466)) - 1)))) (fun _ h_=>h_.1))) hb);have n1_:=qal.mk (Kd.R_below (by(with_reducible repeat(first|apply Kd.R_alloc|apply Kd.R_drewN|apply Kd.R_drew));exact(Kd.R_mono (Kd.R_far (p:=⟨gb467,0,none⟩) (Kd.R_far (p:=⟨gb467,1,none⟩) (Kd.R_far (p:=⟨gb467,0,none⟩) (Kd.R_types HO463.out BK467.out (by decide)) (fun _ hk=>hk.2) (.int .i64 (wrap64 (t449 - t466)))) (fun _ hk=>hk.2) (.slice Ao12 t450.length co12)) (fun _ hk=>hk.2) (.int .i64 (wrap64 ((wrap64 (t449 - t466)) - 1)))) (fun _ h_=>h_.1))) hb);have n2_:=qal.mk (qac (g:=gb453) (o:=.cells #[.int .i64 t449,.slice Ao12 t450.length co12] 36 (0,0)) (za7 NB453_467 BK453) hb);have n3_:=qal.mk (qac (g:=gb457) (o:=.cells #[.int .i64 t449,.slice (some ⟨go29,0,none⟩) y461.length co120] 36 (0,0)) (za7 NB457_467 BK457) hb);have n4_:=qal.mk (qac (g:=gb465) (o:=.cells #[.int .i64 (wrap64 (t449 - t466)),.slice Ao12 t450.length co12] 36 (0,0)) (za7 NB465_467 BK465) hb);have n5_:=qal.mk (qac (g:=gb467) (o:=.cells #[.int .i64 (wrap64 ((wrap64 (t449 - t466)) - 1)),.slice Ao12 t450.length co12] 36 (0,0)) (by(with_reducible repeat(first|refine qag ?_ _|refine qah ?_|refine qaf ?_ _));refine qan (cs:=#[.int .i64 (wrap64 (t449 - t466)),.slice Ao12 t450.length co12]) ?_ 0 _ rfl;(with_reducible repeat(first|refine qag ?_ _|refine qah ?_|refine qaf ?_ _));refine qan (cs:=#[.int .i64 (wrap64 (t449 - t466)),.slice none 0 0]) ?_ 1 _ rfl;(with_reducible repeat(first|refine qag ?_ _|refine qah ?_|refine qaf ?_ _));refine qan (cs:=#[.int .i64 0,.slice none 0 0]) ?_ 0 _ rfl;(with_reducible repeat(first|refine qag ?_ _|refine qah ?_|refine qaf ?_ _));exact BK467.out) hb);have n6_:=qal.mk (qae (za11 HB GE453 GE457 GE465 GE467) hb);clear HO_454001;clear HO463;clear BK453;clear BK457;clear BK465;clear BK467;clear HB;have HO_454001:=n0_;have HO463:=n1_;have BK453:=n2_;have BK457:=n3_;have BK465:=n4_;have BK467:=n5_;have HB:=n6_;clear n0_ n1_ n2_ n3_ n4_ n5_ n6_;(try clear hb);(try clear hb2);(try clear hk);(try clear hi);have hcz144_0:w143.cell? ⟨gb465,0,none⟩=some (.int .i64 (wrap64 (t449 - t466))):=(qab BK465.out 0).trans rfl;have hcz144_1:w143.cell? ⟨gb465,1,none⟩=some (.slice Ao12 t450.length co12):=(qab BK465.out 1).trans rfl;have hfz144_0:=qaa BK465.out 0;have hfz144_1:=qaa BK465.out 1)|(go_at_call 25;(with_reducible refine(impl_StockOk.calls kj7 (wrap64 (t449 - t466)) _ _ t450 false _ ?side1 ?side2 A33.out).mono ?_);(case side1=>repeat(first|exact(Kd.Q_reads' HO_454001.out).2.2|(with_reducible refine Kd.C_alloc ?_ _)|(with_reducible refine Kd.C_drewN ?_ _)|(with_reducible refine Kd.C_drew ?_)));(case side2=>exact(Kd.Q_reads' HO_454001.out).2.1);rintro e w145 ⟨rfl,hb⟩;have n0_:=qal.mk (Kd.Q_below (za16 HO_454001) hb);have n1_:=qal.mk (Kd.R_below (za4 HO463) hb);have n2_:=qal.mk (qac (g:=gb453) (o:=.cells #[.int .i64 t449,.slice Ao12 t450.length co12] 36 (0,0)) (za0 BK453) hb);have n3_:=qal.mk (qac (g:=gb457) (o:=.cells #[.int .i64 t449,.slice (some ⟨go29,0,none⟩) y461.length co120] 36 (0,0)) (za0 BK457) hb);have n4_:=qal.mk (qac (g:=gb465) (o:=.cells #[.int .i64 (wrap64 (t449 - t466)),.slice Ao12 t450.length co12] 36 (0,0)) (za0 BK465) hb);have n5_:=qal.mk (qac (g:=gb467) (o:=.cells #[.int .i64 (wrap64 ((wrap64 (t449 - t466)) - 1)),.slice Ao12 t450.length co12] 36 (0,0)) (za0 BK467) hb);have n6_:=qal.mk (qae (za11 HB GE453 GE457 GE465 GE467) hb);clear HO_454001;clear HO463;clear BK453;clear BK457;clear BK465;clear BK467;clear HB;have HO_454001:=n0_;have HO463:=n1_;have BK453:=n2_;have BK457:=n3_;have BK465:=n4_;have BK467:=n5_;have HB:=n6_;clear n0_ n1_ n2_ n3_ n4_ n5_ n6_;(try clear hb);(try clear hb2);(try clear hk);(try clear hi)))
             go_ret
             exact⟨by first|rfl|(simp[qaw,qav]<;>rfl)|(simp only[←hji26];first|rfl|(simp[qaw,qav]<;>rfl))|(simp[*,qaw,qav]<;>rfl),za11 HB GE453 GE457 GE465 GE467⟩
           ·replace c32:=Bool.eq_false_iff.mpr c32
            subst c32
            have H1:(some false)=some r:=by rw[if_neg (show ¬(false=true) by decide)] at H;exact H
            clear H
            have H:=H1
            clear H1
            obtain rfl:=Option.some.inj H
            have hcz146_0:wc.cell? ⟨gb453,0,none⟩=some (.int .i64 t449):=(qab BK453.out 0).trans rfl
            have hcz146_1:wc.cell? ⟨gb453,1,none⟩=some (.slice Ao12 t450.length co12):=(qab BK453.out 1).trans rfl
            have hfz146_0:=qaa BK453.out 0
            have hfz146_1:=qaa BK453.out 1
            try go_wp2_with(first|((with_reducible refine qak (N:=8) rfl ?_);(try(refine qbc (by rfl) ?_;dsimp only));refine qaj ?hg (N:=8) ?hd (cs:=#[.int .i64 0,.slice none 0 0]) (t:=36) ?hr ?_;(case hd=>rfl);(case hg=>rfl);(case hr=>first|(go_simp;done)|(go_simp;rfl));intro gb457 hg w147 hbox hb;have n0_:=qal.mk (Kd.Q_below (za16 HO_454001) hb);have n1_:=qal.mk (qac (g:=gb453) (o:=.cells #[.int .i64 t449,.slice Ao12 t450.length co12] 36 (0,0)) (za0 BK453) hb);have n2_:=qal.mk (qae (za1 HB GE453) hb);have n3_:=qal.mk (hbox);have n4_:=qal.mk ((by rw[hg];exact(qad (za1 HB GE453)):w.heap.size≤gb457));have n5_:=qal.mk ((by rw[hg];exact(qad (za1 HB GE453)):w.heap.size≤gb457));have n6_:=qal.mk ((by rw[hg];exact Nat.ne_of_lt (qao (g:=gb453) (o:=.cells #[.int .i64 t449,.slice Ao12 t450.length co12] 36 (0,0)) (za0 BK453)):gb453≠gb457));have n7_:=qal.mk ((by rw[hg];exact Nat.ne_of_gt (qao (g:=gb453) (o:=.cells #[.int .i64 t449,.slice Ao12 t450.length co12] 36 (0,0)) (za0 BK453)):gb457≠gb453));clear HO_454001;clear BK453;clear HB;have HO_454001:=n0_;have BK453:=n1_;have HB:=n2_;have BK457:=n3_;have GW457:=n4_;have GE457:=n5_;have NB453_457:=n6_;have NB457_453:=n7_;clear n0_ n1_ n2_ n3_ n4_ n5_ n6_ n7_;clear hb hbox hg;have hnb148:=NB457_453.out;have hnc148:=NB453_457.out;have hcz149_0:w147.cell? ⟨gb457,0,none⟩=some (.int .i64 0):=(qab BK457.out 0).trans rfl;have hcz149_1:w147.cell? ⟨gb457,1,none⟩=some (.slice none 0 0):=(qab BK457.out 1).trans rfl;have hfz149_0:=qaa BK457.out 0;have hfz149_1:=qaa BK457.out 1)|((with_reducible refine qak (N:=42) rfl ?_);(try(refine qbc (by rfl) ?_;dsimp only));refine Kd.R_lit k46 _ 46 ?hg (N:=42) ?hd (xs:=([]:List (S46))) (inner:=[]) (ok:=fun _=>True) (okp:=fun _=>True) ?hr ?hp (fun _ hk=>hk) trivial (Below.refl _ _) (Nat.le_refl _) (by simp) ?_;(case hd=>rfl);(case hg=>rfl);(case hr=>first|(go_simp;done)|(go_simp;rfl));(case hp=>exact(Reps.none _ _));intro v459 w150 ho151 hb hg_ hnew_;clear hg_ hnew_;(first|rw[←Ny458.out] at ho151|(simp only[Int.reduceToNat] at ho151;rw[←Ny458.out] at ho151));have n0_:=qal.mk (Kd.Q_elder' (by(with_reducible repeat(first|apply Kd.Q_alloc|apply Kd.Q_drewN|apply Kd.Q_drew));exact(Kd.Q_mono (Kd.Q_far (p:=⟨gb457,1,none⟩) (Kd.Q_far (p:=⟨gb457,0,none⟩) (Kd.Q_types HO_454001.out BK457.out (by decide)) (fun _ hk=>hk.2) (.int .i64 t449)) (fun _ hk=>hk.2) (.slice Ao12 t450.length co12)) (fun _ h_=>h_.1))) (Kd.R_base ho151) hb);have n1_:=qal.mk (Kd.R_lower (Kd.R_new' ho151 (Kd.Q_lt (by(with_reducible repeat(first|apply Kd.Q_alloc|apply Kd.Q_drewN|apply Kd.Q_drew));exact(Kd.Q_mono (Kd.Q_far (p:=⟨gb457,1,none⟩) (Kd.Q_far (p:=⟨gb457,0,none⟩) (Kd.Q_types HO_454001.out BK457.out (by decide)) (fun _ hk=>hk.2) (.int .i64 t449)) (fun _ hk=>hk.2) (.slice Ao12 t450.length co12)) (fun _ h_=>h_.1))))) (qad (za3 HB GE453 GE457)));have n2_:=qal.mk (qac (g:=gb453) (o:=.cells #[.int .i64 t449,.slice Ao12 t450.length co12] 36 (0,0)) (za5 NB453_457 BK453) hb);have n3_:=qal.mk (qac (g:=gb457) (o:=.cells #[.int .i64 t449,.slice Ao12 t450.length co12] 36 (0,0)) (by(with_reducible repeat(first|refine qag ?_ _|refine qah ?_|refine qaf ?_ _));refine qan (cs:=#[.int .i64 t449,.slice none 0 0]) ?_ 1 _ rfl;(with_reducible repeat(first|refine qag ?_ _|refine qah ?_|refine qaf ?_ _));refine qan (cs:=#[.int .i64 0,.slice none 0 0]) ?_ 0 _ rfl;(with_reducible repeat(first|refine qag ?_ _|refine qah ?_|refine qaf ?_ _));exact BK457.out) hb);have n4_:=qal.mk (qae (za3 HB GE453 GE457) hb);clear HO_454001;clear BK453;clear BK457;clear HB;have HO_454001:=n0_;have HO460:=n1_;have BK453:=n2_;have BK457:=n3_;have HB:=n4_;clear n0_ n1_ n2_ n3_ n4_;clear hb ho151;have hcz152_0:w150.cell? ⟨gb453,0,none⟩=some (.int .i64 t449):=(qab BK453.out 0).trans rfl;have hcz152_1:w150.cell? ⟨gb453,1,none⟩=some (.slice Ao12 t450.length co12):=(qab BK453.out 1).trans rfl;have hfz152_0:=qaa BK453.out 0;have hfz152_1:=qaa BK453.out 1)|((with_reducible refine gate_builtin (b:=.append) (xs:=#[.tmp 42,.tmp 44]) rfl ?_);(try(refine qbc (by rfl) ?_;dsimp only));at_builtin;refine Kd.R_append_rows k46 (w0:=w) w.heap.size rfl (.tmp 42) (.tmp 44) 34 46 (.agg #[(.int .i64 0),(.int .i64 0)]) 16 rfl Try.underlying34 info46 rfl (by decide) (by omega) v459 y458 t450 _ _ _ (fun k_=>some k_≠(.slice Ao12 t450.length co12:Value).ownBlock) (fun _=>False) rfl rfl ?aO ?aR (fun _ _ h=>h) (fun _ h=>h.elim) ?aF ?aB ?aS ?aL ?_;(case aR=>repeat(first|exact(Kd.Q_reads' HO_454001.out).2.2|(with_reducible refine Kd.C_alloc ?_ _)|(with_reducible refine Kd.C_drewN ?_ _)|(with_reducible refine Kd.C_drew ?_)));(case aB=>exact(za3 HB GE453 GE457));(case aF=>exact(fun k_ hk=>Kd.fresh' (Kd.Q_lt (za16 HO_454001)) k_ hk));(case aO=>exact(by(with_reducible repeat(first|apply Kd.R_alloc|apply Kd.R_drewN|apply Kd.R_drew));exact Kd.R_mono HO460.out (fun _ hk=>hk.2)));(case aS=>exact(qad (za3 HB GE453 GE457)));(case aL=>have:=LMc25.out;omega);intro v462 w153 ho hb hg hat;rw[←Ny461.out] at ho;have n0_:=qal.mk (Kd.Q_after (ok:=(fun _=>True)) (za16 HO_454001) hg hat);have n1_:=qal.mk (qbb (g:=gb453) (o:=.cells #[.int .i64 t449,.slice Ao12 t450.length co12] 36 (0,0)) (za0 BK453) hg (Kd.R_ne HO460.out BK453.out (by decide)));have n2_:=qal.mk (qbb (g:=gb457) (o:=.cells #[.int .i64 t449,.slice Ao12 t450.length co12] 36 (0,0)) (za0 BK457) hg (Kd.R_ne HO460.out BK457.out (by decide)));have n3_:=qal.mk (hb);have n4_:=qal.mk (ho);clear HO_454001;clear BK453;clear BK457;clear HB;clear HO460;have HO_454001:=n0_;have BK453:=n1_;have BK457:=n2_;have HB:=n3_;have HO463:=n4_;clear n0_ n1_ n2_ n3_ n4_;clear ho hb hg hat;obtain⟨Ao154,co154,eo154⟩:=Kd.R_slice HO463.out;subst eo154;have hcz155_0:w153.cell? ⟨gb457,0,none⟩=some (.int .i64 t449):=(qab BK457.out 0).trans rfl;have hcz155_1:w153.cell? ⟨gb457,1,none⟩=some (.slice Ao12 t450.length co12):=(qab BK457.out 1).trans rfl;have hfz155_0:=qaa BK457.out 0;have hfz155_1:=qaa BK457.out 1)|((with_reducible refine gate_store (t:=34) (p:=46) rfl ?_);refine store_event (t:=34) (p:=46) (v:=?vo_w156) (w1:=(w153.setCell ⟨gb457,1,none⟩ (.slice Ao154 y461.length co154))) ?hg ?ho ?hn ?hr ?_;(case ho=>rfl);(case hg=>rfl);(case hn=>rfl);(case hr=>first|(go_simp;done)|(go_simp;rfl));intro w156 hw;have n0_:qal (Kd.Q k46 46 w156 w.heap.size (fun k_=>some k_≠(.slice Ao154 y461.length co154:Value).ownBlock) (.slice Ao12 t450.length co12) t450):=⟨(by rw[hw];exact(by(with_reducible repeat(first|apply Kd.Q_alloc|apply Kd.Q_drewN|apply Kd.Q_drew));exact Kd.Q_mono (Kd.Q_far (p:=⟨gb457,1,none⟩) (Kd.Q_types HO_454001.out BK457.out (by decide)) (fun _ hk=>hk.2) (.slice Ao154 y461.length co154)) (fun _ hk=>hk.1.2)))⟩;have n1_:qal (Kd.R k46 46 w156 w.heap.size (fun k_=>some k_≠(.slice Ao12 t450.length co12:Value).ownBlock) (.slice Ao154 y461.length co154) y461):=⟨(by rw[hw];exact(by(with_reducible repeat(first|apply Kd.R_alloc|apply Kd.R_drewN|apply Kd.R_drew));exact Kd.R_mono (Kd.R_far (p:=⟨gb457,1,none⟩) (Kd.R_types HO463.out BK457.out (by decide)) (fun _ hk=>hk.2) (.slice Ao154 y461.length co154)) (fun _ hk=>hk.1)))⟩;have n2_:qal (w156.heap[gb453]?=some (.cells #[.int .i64 t449,.slice Ao12 t450.length co12] 36 (0,0))):=⟨(by rw[hw];exact(za14 NB453_457 BK453))⟩;have n3_:qal (w156.heap[gb457]?=some (.cells #[.int .i64 t449,.slice Ao154 y461.length co154] 36 (0,0))):=⟨(by rw[hw];exact(by(with_reducible repeat(first|refine qag ?_ _|refine qah ?_|refine qaf ?_ _));refine qan (cs:=#[.int .i64 t449,.slice Ao12 t450.length co12]) ?_ 1 _ rfl;(with_reducible repeat(first|refine qag ?_ _|refine qah ?_|refine qaf ?_ _));exact BK457.out))⟩;have n4_:qal (Below w.heap.size w w156):=⟨(by rw[hw];exact(za3 HB GE453 GE457))⟩;clear hw;clear HO_454001;clear HO463;clear BK453;clear BK457;clear HB;have HO_454001:=n0_;have HO463:=n1_;have BK453:=n2_;have BK457:=n3_;have HB:=n4_;clear n0_ n1_ n2_ n3_ n4_;have hcz157_0:w156.cell? ⟨gb457,0,none⟩=some (.int .i64 t449):=(qab BK457.out 0).trans rfl;have hcz157_1:w156.cell? ⟨gb457,1,none⟩=some (.slice Ao154 y461.length co154):=(qab BK457.out 1).trans rfl;have hfz157_0:=qaa BK457.out 0;have hfz157_1:=qaa BK457.out 1;have p29:0≤((ji26):Int):=of_decide_eq_true (za8);have q29:((ji26):Int)<((y461.length:Int):Int):=of_decide_eq_true (za8);obtain⟨go29,co29,eo29,gb29,gl29,cl29,HG29⟩:=Kd.R_form HO463.out (by omega);(first|cases eo29|(injection eo29 with ea_ en_ ec_;(first|subst ea_|(injection ea_ with ea_;subst ea_));subst ec_;clear en_));have GB29:=qal.mk gb29;have GG29:=qal.mk HG29;clear gb29 gl29 HG29;obtain⟨ce29,hcl29,hM29,hcc29,hfr29⟩:=Kd.R_elem HO463.out z46 ((ji26):Int) p29 q29;obtain rfl:=k46_openM hM29;have hx29_0:w156.cell? ⟨go29,((ji26):Int).toNat*2,none⟩=some (.int .i64 ((rd_T46 y461 (ji26)).f0)):=hcc29 0 _ rfl;have hx29_1:w156.cell? ⟨go29,((ji26):Int).toNat*2+1,none⟩=some (.int .i64 ((rd_T46 y461 (ji26)).f1)):=hcc29 1 _ rfl;have hf29_0:w156.frozen? ⟨go29,((ji26):Int).toNat*2,none⟩=false:=hfr29 0;have hf29_1:w156.frozen? ⟨go29,((ji26):Int).toNat*2+1,none⟩=false:=hfr29 1;clear hcl29 hcc29 hfr29 hM29;replace p29:=eq_true p29;replace q29:=eq_true q29;have HX158:=qal.mk (show Kd.R k46 46 w156 w.heap.size (fun k_=>some k_≠(.slice Ao12 t450.length co12:Value).ownBlock) (.slice (some ⟨go29,0,none⟩) y461.length co154) y461 from(za4 HO463));obtain⟨ce158,hcl158,hM158,hcc158,hfr158⟩:=Kd.R_elem HX158.out z46 ((ji26):Int) (of_decide_eq_true (za8)) (by have h_:((ji26):Int)<((y461.length:Int):Int):=of_decide_eq_true (za8);first|exact h_|(have e_:=(Kd.R_reads' HO463.out).1;omega)|simpa using h_);obtain rfl:=k46_openM hM158;have HP158:=Kd.R_seg HX158.out ((ji26):Int) (of_decide_eq_true (za8)) (by have h_:((ji26):Int)<((y461.length:Int):Int):=of_decide_eq_true (za8);first|exact h_|(have e_:=(Kd.R_reads' HO463.out).1;omega)|simpa using h_) (seg:=[.int .i64 0,.int .i64 0]) (j:=0) hcl158 hcc158 (show 2≤2 from by decide) (x':=(⟨0,0⟩:S46)) (k46_mkM _ _ _ (⟨0,0⟩:S46) ) (fun _ hk=>hk);have hx158_0:=hcc158 0 _ rfl;(try simp only[show(k46).sz=2 from rfl,Nat.mul_one,Nat.add_zero] at hx158_0);have hf158_0:=hfr158 0;(try simp only[show(k46).sz=2 from rfl,Nat.mul_one,Nat.add_zero] at hf158_0);have hx158_1:=hcc158 1 _ rfl;(try simp only[show(k46).sz=2 from rfl,Nat.mul_one,Nat.add_zero] at hx158_1);have hf158_1:=hfr158 1;(try simp only[show(k46).sz=2 from rfl,Nat.mul_one,Nat.add_zero] at hf158_1);clear hcl158 hcc158 hfr158 hM158)|((with_reducible refine gate_store (t:=46) (p:=51) rfl ?_);refine store_event (t:=46) (p:=51) (v:=?vo_w159) (w1:=((w156.setCell ⟨go29,((ji26):Int).toNat*2,none⟩ (.int .i64 0)).setCell ⟨go29,((ji26):Int).toNat*2+1,none⟩ (.int .i64 0))) ?hg ?ho ?hn ?hr ?_;(case ho=>rfl);(case hg=>rfl);(case hn=>rfl);(case hr=>first|(go_simp;done)|(go_simp;rfl));intro w159 hw;have hg:w156.grownBy w159 (some go29):=(by rw[hw];exact HP158.2);have hp_:Kd.R k46 46 w159 w.heap.size (fun k_=>some k_≠(.slice Ao12 t450.length co12:Value).ownBlock) (.slice (some ⟨go29,0,none⟩) y461.length co154) y464:=(by rw[hw,Ny464.out];exact HP158.1);clear HP158;have n0_:=qal.mk (Kd.Q_after (v:=(.slice (some ⟨go29,0,none⟩) y461.length co154)) (v1:=(.slice (some ⟨go29,0,none⟩) y461.length co154)) (ok:=(fun _=>True)) (by(with_reducible repeat(first|apply Kd.Q_alloc|apply Kd.Q_drewN|apply Kd.Q_drew));exact Kd.Q_mono HO_454001.out (fun _ hk=>⟨trivial,hk⟩)) hg (.inl rfl));have n1_:=qal.mk (qbb (g:=gb453) (o:=.cells #[.int .i64 t449,.slice Ao12 t450.length co12] 36 (0,0)) (za0 BK453) hg (Kd.R_ne HO463.out BK453.out (by decide)));have n2_:=qal.mk (qbb (g:=gb457) (o:=.cells #[.int .i64 t449,.slice (some ⟨go29,0,none⟩) y461.length co154] 36 (0,0)) (za0 BK457) hg (Kd.R_ne HO463.out BK457.out (by decide)));have n3_:=qal.mk (hp_);have n4_:=qal.mk ((by rw[hw];exact qam (qam (HB.out) GB29.out) GB29.out:Below w.heap.size w w159));clear HO_454001;clear BK453;clear BK457;clear HO463;clear HB;have HO_454001:=n0_;have BK453:=n1_;have BK457:=n2_;have HO463:=n3_;have HB:=n4_;clear n0_ n1_ n2_ n3_ n4_;clear hg hw hp_;have hcz160_0:w159.cell? ⟨gb453,0,none⟩=some (.int .i64 t449):=(qab BK453.out 0).trans rfl;have hcz160_1:w159.cell? ⟨gb453,1,none⟩=some (.slice Ao12 t450.length co12):=(qab BK453.out 1).trans rfl;have hfz160_0:=qaa BK453.out 0;have hfz160_1:=qaa BK453.out 1)|((with_reducible refine qak (N:=9) rfl ?_);(try(refine qbc (by rfl) ?_;dsimp only));refine qaj ?hg (N:=9) ?hd (cs:=#[.int .i64 0,.slice none 0 0]) (t:=36) ?hr ?_;(case hd=>rfl);(case hg=>rfl);(case hr=>first|(go_simp;done)|(go_simp;rfl));intro gb465 hg w161 hbox hb;have n0_:=qal.mk (Kd.Q_below (za16 HO_454001) hb);have n1_:=qal.mk (Kd.R_below (za4 HO463) hb);have n2_:=qal.mk (qac (g:=gb453) (o:=.cells #[.int .i64 t449,.slice Ao12 t450.length co12] 36 (0,0)) (za0 BK453) hb);have n3_:=qal.mk (qac (g:=gb457) (o:=.cells #[.int .i64 t449,.slice (some ⟨go29,0,none⟩) y461.length co154] 36 (0,0)) (za0 BK457) hb);have n4_:=qal.mk (qae (za3 HB GE453 GE457) hb);have n5_:=qal.mk (hbox);have n6_:=qal.mk ((by rw[hg];exact(qad (za3 HB GE453 GE457)):w.heap.size≤gb465));have n7_:=qal.mk ((by rw[hg];exact(qad (za3 HB GE453 GE457)):w.heap.size≤gb465));have n8_:=qal.mk ((by rw[hg];exact Nat.ne_of_lt (qao (g:=gb453) (o:=.cells #[.int .i64 t449,.slice Ao12 t450.length co12] 36 (0,0)) (za0 BK453)):gb453≠gb465));have n9_:=qal.mk ((by rw[hg];exact Nat.ne_of_gt (qao (g:=gb453) (o:=.cells #[.int .i64 t449,.slice Ao12 t450.length co12] 36 (0,0)) (za0 BK453)):gb465≠gb453));have n10_:=qal.mk ((by rw[hg];exact Nat.ne_of_lt (qao (g:=gb457) (o:=.cells #[.int .i64 t449,.slice (some ⟨go29,0,none⟩) y461.length co154] 36 (0,0)) (za0 BK457)):gb457≠gb465));have n11_:=qal.mk ((by rw[hg];exact Nat.ne_of_gt (qao (g:=gb457) (o:=.cells #[.int .i64 t449,.slice (some ⟨go29,0,none⟩) y461.length co154] 36 (0,0)) (za0 BK457)):gb465≠gb457));clear HO_454001;clear HO463;clear BK453;clear BK457;clear HB;have HO_454001:=n0_;have HO463:=n1_;have BK453:=n2_;have BK457:=n3_;have HB:=n4_;have BK465:=n5_;have GW465:=n6_;have GE465:=n7_;have NB453_465:=n8_;have NB465_453:=n9_;have NB457_465:=n10_;have NB465_457:=n11_;clear n0_ n1_ n2_ n3_ n4_ n5_ n6_ n7_ n8_ n9_ n10_ n11_;clear hb hbox hg;have hnb162:=NB465_453.out;have hnc162:=NB453_465.out;have hnb163:=NB465_457.out;have hnc163:=NB457_465.out;have hcz164_0:w161.cell? ⟨gb465,0,none⟩=some (.int .i64 0):=(qab BK465.out 0).trans rfl;have hcz164_1:w161.cell? ⟨gb465,1,none⟩=some (.slice none 0 0):=(qab BK465.out 1).trans rfl;have hfz164_0:=qaa BK465.out 0;have hfz164_1:=qaa BK465.out 1))
            have n0_:qal (Kd.Q k46 46 ((w161.setCell ⟨gb465,0,none⟩ (.int .i64 t449)).setCell ⟨gb465,1,none⟩ (.slice Ao12 t450.length co12)) w.heap.size (fun k_=>some k_≠(.slice (some ⟨go29,0,none⟩) y461.length co154:Value).ownBlock) (.slice Ao12 t450.length co12) t450):=⟨by(with_reducible repeat(first|apply Kd.Q_alloc|apply Kd.Q_drewN|apply Kd.Q_drew));exact Kd.Q_mono (Kd.Q_far (p:=⟨gb465,1,none⟩) (Kd.Q_far (p:=⟨gb465,0,none⟩) (Kd.Q_types HO_454001.out BK465.out (by decide)) (fun _ hk=>hk.2) (.int .i64 t449)) (fun _ hk=>hk.2) (.slice Ao12 t450.length co12)) (fun _ hk=>hk.1.2)⟩
            have n1_:qal (Kd.R k46 46 ((w161.setCell ⟨gb465,0,none⟩ (.int .i64 t449)).setCell ⟨gb465,1,none⟩ (.slice Ao12 t450.length co12)) w.heap.size (fun k_=>some k_≠(.slice Ao12 t450.length co12:Value).ownBlock) (.slice (some ⟨go29,0,none⟩) y461.length co154) y464):=⟨by(with_reducible repeat(first|apply Kd.R_alloc|apply Kd.R_drewN|apply Kd.R_drew));exact Kd.R_mono (Kd.R_far (p:=⟨gb465,1,none⟩) (Kd.R_far (p:=⟨gb465,0,none⟩) (Kd.R_types HO463.out BK465.out (by decide)) (fun _ hk=>hk.2) (.int .i64 t449)) (fun _ hk=>hk.2) (.slice Ao12 t450.length co12)) (fun _ hk=>hk.1)⟩
            have n2_:qal (((w161.setCell ⟨gb465,0,none⟩ (.int .i64 t449)).setCell ⟨gb465,1,none⟩ (.slice Ao12 t450.length co12)).heap[gb453]?=some (.cells #[.int .i64 t449,.slice Ao12 t450.length co12] 36 (0,0))):=⟨za5 NB453_465 BK453⟩
            have n3_:qal (((w161.setCell ⟨gb465,0,none⟩ (.int .i64 t449)).setCell ⟨gb465,1,none⟩ (.slice Ao12 t450.length co12)).heap[gb457]?=some (.cells #[.int .i64 t449,.slice (some ⟨go29,0,none⟩) y461.length co154] 36 (0,0))):=⟨za5 NB457_465 BK457⟩
            have n4_:qal (((w161.setCell ⟨gb465,0,none⟩ (.int .i64 t449)).setCell ⟨gb465,1,none⟩ (.slice Ao12 t450.length co12)).heap[gb465]?=some (.cells #[.int .i64 t449,.slice Ao12 t450.length co12] 36 (0,0))):=⟨by(with_reducible repeat(first|refine qag ?_ _|refine qah ?_|refine qaf ?_ _));refine qan (cs:=#[.int .i64 t449,.slice none 0 0]) ?_ 1 _ rfl;(with_reducible repeat(first|refine qag ?_ _|refine qah ?_|refine qaf ?_ _));refine qan (cs:=#[.int .i64 0,.slice none 0 0]) ?_ 0 _ rfl;(with_reducible repeat(first|refine qag ?_ _|refine qah ?_|refine qaf ?_ _));exact BK465.out⟩
            have n5_:qal (Below w.heap.size w ((w161.setCell ⟨gb465,0,none⟩ (.int .i64 t449)).setCell ⟨gb465,1,none⟩ (.slice Ao12 t450.length co12))):=⟨za6 HB GE453 GE457 GE465⟩
            (try clear HO_454001)
            (try clear HO463)
            (try clear BK453)
            (try clear BK457)
            (try clear BK465)
            (try clear HB)
            generalize ((w161.setCell ⟨gb465,0,none⟩ (.int .i64 t449)).setCell ⟨gb465,1,none⟩ (.slice Ao12 t450.length co12))=w165 at n0_ n1_ n2_ n3_ n4_ n5_ ⊢
            have HO_454001:=n0_
            have HO463:=n1_
            have BK453:=n2_
            have BK457:=n3_
            have BK465:=n4_
            have HB:=n5_
            clear n0_ n1_ n2_ n3_ n4_ n5_
            have n0_:=qal.mk (Kd.Q_drew HO_454001.out)
            have n1_:=qal.mk (Kd.R_drew HO463.out)
            have n2_:=qal.mk (qah BK453.out)
            have n3_:=qal.mk (qah BK457.out)
            have n4_:=qal.mk (qah BK465.out)
            have n5_:=qal.mk (qaq HB.out)
            clear HO_454001
            clear HO463
            clear BK453
            clear BK457
            clear BK465
            clear HB
            have HO_454001:=n0_
            have HO463:=n1_
            have BK453:=n2_
            have BK457:=n3_
            have BK465:=n4_
            have HB:=n5_
            clear n0_ n1_ n2_ n3_ n4_ n5_
            refine start_ (n:=7) (S:=fun w'=>w'.cell? ⟨gb453,0,none⟩=some (.int .i64 t449)∧w'.cell? ⟨gb453,1,none⟩=some (.slice Ao12 t450.length co12)) (ds:=[]) #[false,false,false,false,false,false,false] (by kernel_rfl) rfl rfl ⟨(qab BK453.out 0).trans rfl,(qab BK453.out 1).trans rfl⟩ (fun hHeld=>?_)
            generalize w165.drew=w166 at HO_454001 HO463 BK453 BK457 BK465 HB hHeld ⊢
            refine qaz (i:=0) (N:=some 53) (v:=?_) (a':=?_) #[true,false,false,false,false,false,false] rfl rfl (by kernel_rfl) (fun _ _ _ h=>h) (Or.inl ⟨by rfl,?_⟩) ?_ ?_
            rotate_left
            ·intro w'
             go_simp
             with_reducible rfl
            rotate_left
            ·simp only[Act.put,List.setIfInBounds_toArray,List.set_cons_zero,List.set_cons_succ,qas,qat]
             rfl
            refine take_ (i:=1) (N:=some 54) (v:=?_) (a':=?_) #[true,true,false,false,false,false,false] rfl rfl (by kernel_rfl) (fun _ _ _ h=>h) (Or.inl ⟨by rfl,?_⟩) hHeld ?_ ?_
            rotate_left
            ·rintro w' ⟨s0,s1⟩
             go_simp
             with_reducible rfl
            rotate_left
            ·simp only[Act.put,List.setIfInBounds_toArray,List.set_cons_zero,List.set_cons_succ,qas,qat]
             rfl
            refine take_ (i:=2) (N:=some 55) (v:=?_) (a':=?_) #[true,true,true,false,false,false,false] rfl rfl (by kernel_rfl) (fun _ _ _ h=>h) (Or.inl ⟨by rfl,?_⟩) hHeld ?_ ?_
            rotate_left
            ·rintro w' ⟨s0,s1⟩
             go_simp
             with_reducible rfl
            rotate_left
            ·simp only[Act.put,List.setIfInBounds_toArray,List.set_cons_zero,List.set_cons_succ,qas,qat]
             rfl
            refine one_ (i:=3) (N:=some 56) #[true,true,true,true,false,false,false] rfl rfl (by kernel_rfl) (by decide) (fun K hK=>?_)
            refine goes_ Try.func26 (by kernel_rfl) rfl #[.agg #[.int .i64 t449,.slice Ao12 t450.length co12]] (by rfl) rfl rfl (by(try simp only[List.map_toArray,List.map_cons,List.map_nil]);first|done|rfl|(simp only[List.length_drop,List.length_take];rfl)) ?_
            with_reducible refine(impl_StockFree.calls kj7 t449 _ _ t450 t466 _ ?side1 ?side2 A30.out).mono ?_
            (case side1=>repeat(first|exact(Kd.Q_reads' HO_454001.out).2.2|(with_reducible refine Kd.C_alloc ?_ _)|(with_reducible refine Kd.C_drewN ?_ _)|(with_reducible refine Kd.C_drew ?_)))
            (case side2=>exact(Kd.Q_reads' HO_454001.out).2.1)
            rintro e w167 ⟨rfl,hb⟩
            refine⟨_,rfl,?_⟩
            have n0_:=qal.mk (Kd.Q_below (za16 HO_454001) hb)
            have n1_:=qal.mk (Kd.R_below (za4 HO463) hb)
            have n2_:=qal.mk (qac (g:=gb453) (o:=.cells #[.int .i64 t449,.slice Ao12 t450.length co12] 36 (0,0)) (za0 BK453) hb)
            have n3_:=qal.mk (qac (g:=gb457) (o:=.cells #[.int .i64 t449,.slice (some ⟨go29,0,none⟩) y461.length co154] 36 (0,0)) (za0 BK457) hb)
            have n4_:=qal.mk (qac (g:=gb465) (o:=.cells #[.int .i64 t449,.slice Ao12 t450.length co12] 36 (0,0)) (za0 BK465) hb)
            have n5_:=qal.mk (qae (za6 HB GE453 GE457 GE465) hb)
            clear HO_454001
            clear HO463
            clear BK453
            clear BK457
            clear BK465
            clear HB
            have HO_454001:=n0_
            have HO463:=n1_
            have BK453:=n2_
            have BK457:=n3_
            have BK465:=n4_
            have HB:=n5_
            clear n0_ n1_ n2_ n3_ n4_ n5_
            (try clear hb)
            (try clear hb2)
            (try clear hk)
            (try clear hi)
            refine hK.out _ _ ⟨(qab BK453.out 0).trans rfl,(qab BK453.out 1).trans rfl⟩ (fun hHeld=>?_)
            clear hK K
            refine norm_ (a':=?_) ?_ ?_
            rotate_left
            ·show Act.put _ (some 56) _=_
             simp only[Act.put,List.setIfInBounds_toArray,List.set_cons_zero,List.set_cons_succ,qas,qat]
             rfl
            refine qaz (i:=4) (N:=some 57) (v:=?_) (a':=?_) #[true,true,true,true,true,false,false] rfl rfl (by kernel_rfl) (fun _ _ _ h=>h) (Or.inl ⟨by rfl,?_⟩) ?_ ?_
            rotate_left
            ·intro w'
             go_simp
             with_reducible rfl
            rotate_left
            ·simp only[Act.put,List.setIfInBounds_toArray,List.set_cons_zero,List.set_cons_succ,qas,qat]
             rfl
            refine qaz (i:=5) (N:=some 58) (v:=?_) (a':=?_) #[true,true,true,true,true,true,false] rfl rfl (by kernel_rfl) (fun _ _ _ h=>h) (Or.inl ⟨by rfl,?_⟩) ?_ ?_
            rotate_left
            ·intro w'
             go_simp
             with_reducible rfl
            rotate_left
            ·simp only[Act.put,List.setIfInBounds_toArray,List.set_cons_zero,List.set_cons_succ,qas,qat]
             rfl
            refine one_ (i:=6) (N:=none) #[true,true,true,true,true,true,true] rfl rfl (by kernel_rfl) (by decide) (fun K hK=>?_)
            have hs168:w167.cell? ⟨gb465,0,none⟩=some (.int .i64 t449):=(qab BK465.out 0).trans rfl
            have hfs168:=qaa BK465.out 0
            have hns168_0:=NB453_465.out
            have hns168_1:=NB457_465.out
            have hms168_0:=NB465_453.out
            have hms168_1:=NB465_457.out
            refine skip_ (w1:=?_) (by rfl) rfl ?_ ?_
            rotate_left
            ·go_simp
             rfl
            refine hK.out _ _ ⟨((qay (p:=⟨gb465,_,none⟩) NB453_465.out _).trans (hHeld.1)),((qay (p:=⟨gb465,_,none⟩) NB453_465.out _).trans (hHeld.2))⟩ (fun hHeld=>?_)
            clear hK K
            refine done_ (by kernel_rfl) ?_
            have hcz169_0:w167.cell? ⟨gb465,0,none⟩=some (.int .i64 t449):=(qab BK465.out 0).trans rfl
            have hcz169_1:w167.cell? ⟨gb465,1,none⟩=some (.slice Ao12 t450.length co12):=(qab BK465.out 1).trans rfl
            have hfz169_0:=qaa BK465.out 0
            have hfz169_1:=qaa BK465.out 1
            try go_wp2_with(first|((with_reducible refine qak (N:=10) rfl ?_);(try(refine qbc (by rfl) ?_;dsimp only));refine qaj ?hg (N:=10) ?hd (cs:=#[.int .i64 0,.slice none 0 0]) (t:=36) ?hr ?_;(case hd=>rfl);(case hg=>rfl);(case hr=>first|(go_simp;done)|(go_simp;rfl));intro gb467 hg w170 hbox hb;have n0_:=qal.mk (Kd.Q_below (by(with_reducible repeat(first|apply Kd.Q_alloc|apply Kd.Q_drewN|apply Kd.Q_drew));exact(Kd.Q_mono (Kd.Q_far (p:=⟨gb465,0,none⟩) (Kd.Q_types HO_454001.out BK465.out (by decide)) (fun _ hk=>hk.2) (.int .i64 (wrap64 (t449 - t466)))) (fun _ h_=>h_.1))) hb);have n1_:=qal.mk (Kd.R_below (by(with_reducible repeat(first|apply Kd.R_alloc|apply Kd.R_drewN|apply Kd.R_drew));exact(Kd.R_mono (Kd.R_far (p:=⟨gb465,0,none⟩) (Kd.R_types HO463.out BK465.out (by decide)) (fun _ hk=>hk.2) (.int .i64 (wrap64 (t449 - t466)))) (fun _ h_=>h_.1))) hb);have n2_:=qal.mk (qac (g:=gb453) (o:=.cells #[.int .i64 t449,.slice Ao12 t450.length co12] 36 (0,0)) (za14 NB453_465 BK453) hb);have n3_:=qal.mk (qac (g:=gb457) (o:=.cells #[.int .i64 t449,.slice (some ⟨go29,0,none⟩) y461.length co154] 36 (0,0)) (za14 NB457_465 BK457) hb);have n4_:=qal.mk (qac (g:=gb465) (o:=.cells #[.int .i64 (wrap64 (t449 - t466)),.slice Ao12 t450.length co12] 36 (0,0)) (by(with_reducible repeat(first|refine qag ?_ _|refine qah ?_|refine qaf ?_ _));refine qan (cs:=#[.int .i64 t449,.slice Ao12 t450.length co12]) ?_ 0 _ rfl;(with_reducible repeat(first|refine qag ?_ _|refine qah ?_|refine qaf ?_ _));exact BK465.out) hb);have n5_:=qal.mk (qae (za6 HB GE453 GE457 GE465) hb);have n6_:=qal.mk (hbox);have n7_:=qal.mk ((by rw[hg];exact(qad (za6 HB GE453 GE457 GE465)):w.heap.size≤gb467));have n8_:=qal.mk ((by rw[hg];exact(qad (za6 HB GE453 GE457 GE465)):w.heap.size≤gb467));have n9_:=qal.mk ((by rw[hg];exact Nat.ne_of_lt (qao (g:=gb453) (o:=.cells #[.int .i64 t449,.slice Ao12 t450.length co12] 36 (0,0)) (za14 NB453_465 BK453)):gb453≠gb467));have n10_:=qal.mk ((by rw[hg];exact Nat.ne_of_gt (qao (g:=gb453) (o:=.cells #[.int .i64 t449,.slice Ao12 t450.length co12] 36 (0,0)) (za14 NB453_465 BK453)):gb467≠gb453));have n11_:=qal.mk ((by rw[hg];exact Nat.ne_of_lt (qao (g:=gb457) (o:=.cells #[.int .i64 t449,.slice (some ⟨go29,0,none⟩) y461.length co154] 36 (0,0)) (za14 NB457_465 BK457)):gb457≠gb467));have n12_:=qal.mk ((by rw[hg];exact Nat.ne_of_gt (qao (g:=gb457) (o:=.cells #[.int .i64 t449,.slice (some ⟨go29,0,none⟩) y461.length co154] 36 (0,0)) (za14 NB457_465 BK457)):gb467≠gb457));have n13_:=qal.mk ((by rw[hg];exact Nat.ne_of_lt (qao (g:=gb465) (o:=.cells #[.int .i64 (wrap64 (t449 - t466)),.slice Ao12 t450.length co12] 36 (0,0)) (by(with_reducible repeat(first|refine qag ?_ _|refine qah ?_|refine qaf ?_ _));refine qan (cs:=#[.int .i64 t449,.slice Ao12 t450.length co12]) ?_ 0 _ rfl;(with_reducible repeat(first|refine qag ?_ _|refine qah ?_|refine qaf ?_ _));exact BK465.out)):gb465≠gb467));have n14_:=qal.mk ((by rw[hg];exact Nat.ne_of_gt (qao (g:=gb465) (o:=.cells #[.int .i64 (wrap64 (t449 - t466)),.slice Ao12 t450.length co12] 36 (0,0)) (by(with_reducible repeat(first|refine qag ?_ _|refine qah ?_|refine qaf ?_ _));refine qan (cs:=#[.int .i64 t449,.slice Ao12 t450.length co12]) ?_ 0 _ rfl;(with_reducible repeat(first|refine qag ?_ _|refine qah ?_|refine qaf ?_ _));exact BK465.out)):gb467≠gb465));clear HO_454001;clear HO463;clear BK453;clear BK457;clear BK465;clear HB;have HO_454001:=n0_;have HO463:=n1_;have BK453:=n2_;have BK457:=n3_;have BK465:=n4_;have HB:=n5_;have BK467:=n6_;have GW467:=n7_;have GE467:=n8_;have NB453_467:=n9_;have NB467_453:=n10_;have NB457_467:=n11_;have NB467_457:=n12_;have NB465_467:=n13_;have NB467_465:=n14_;clear n0_ n1_ n2_ n3_ n4_ n5_ n6_ n7_ n8_ n9_ n10_ n11_ n12_ n13_ n14_;clear hb hbox hg;have hnb171:=NB467_453.out;have hnc171:=NB453_467.out;have hnb172:=NB467_457.out;have hnc172:=NB457_467.out;have hnb173:=NB467_465.out;have hnc173:=NB465_467.out;have hcz174_0:w170.cell? ⟨gb467,0,none⟩=some (.int .i64 0):=(qab BK467.out 0).trans rfl;have hcz174_1:w170.cell? ⟨gb467,1,none⟩=some (.slice none 0 0):=(qab BK467.out 1).trans rfl;have hfz174_0:=qaa BK467.out 0;have hfz174_1:=qaa BK467.out 1;have hcz175_0:w170.cell? ⟨gb465,0,none⟩=some (.int .i64 (wrap64 (t449 - t466))):=(qab BK465.out 0).trans rfl;have hcz175_1:w170.cell? ⟨gb465,1,none⟩=some (.slice Ao12 t450.length co12):=(qab BK465.out 1).trans rfl;have hfz175_0:=qaa BK465.out 0;have hfz175_1:=qaa BK465.out 1;have hcz176_0:w170.cell? ⟨gb457,0,none⟩=some (.int .i64 t449):=(qab BK457.out 0).trans rfl;have hcz176_1:w170.cell? ⟨gb457,1,none⟩=some (.slice (some ⟨go29,0,none⟩) y461.length co154):=(qab BK457.out 1).trans rfl;have hfz176_0:=qaa BK457.out 0;have hfz176_1:=qaa BK457.out 1)|((with_reducible refine qai (f:=25) rfl ?_);refine qau (some 65) rfl rfl Try.func25 (by kernel_rfl) rfl #[.agg #[.int .i64 t449,.slice (some ⟨go29,0,none⟩) y464.length co154]] rfl (by(try simp only[List.map_toArray,List.map_cons,List.map_nil]);first|done|(rw[show y464.length=y461.length from(Kd.R_reads' HO463.out).1.symm]<;>rfl)|rfl|(simp only[List.length_drop,List.length_take];rfl)) ?_;(with_reducible refine(impl_StockOk.calls kj7 t449 _ _ y464 false _ ?side1 ?side2 A31.out).mono ?_);(case side1=>refine(Kd.R_reads' (e:=46) (base:=w.heap.size) (ok:=fun k_=>some k_≠(.slice Ao12 t450.length co12:Value).ownBlock) (n:=y461.length) (c:=co154) ?_).2.2;exact(by(with_reducible repeat(first|apply Kd.R_alloc|apply Kd.R_drewN|apply Kd.R_drew));exact(Kd.R_mono (Kd.R_far (p:=⟨gb467,0,none⟩) (Kd.R_far (p:=⟨gb467,1,none⟩) (Kd.R_far (p:=⟨gb467,0,none⟩) (Kd.R_types HO463.out BK467.out (by decide)) (fun _ hk=>hk.2) (.int .i64 (wrap64 (t449 - t466)))) (fun _ hk=>hk.2) (.slice Ao12 t450.length co12)) (fun _ hk=>hk.2) (.int .i64 (wrap64 ((wrap64 (t449 - t466)) - 1)))) (fun _ h_=>h_.1))));(case side2=>rw[show y464.length=y461.length from(Kd.R_reads' HO463.out).1.symm];exact(Kd.R_reads' HO463.out).2.1);rintro e w177 ⟨rfl,hb⟩;refine⟨_,rfl,?_⟩;have n0_:=qal.mk (Kd.Q_below (by(with_reducible repeat(first|apply Kd.Q_alloc|apply Kd.Q_drewN|apply Kd.Q_drew));exact(Kd.Q_mono (Kd.Q_far (p:=⟨gb467,0,none⟩) (Kd.Q_far (p:=⟨gb467,1,none⟩) (Kd.Q_far (p:=⟨gb467,0,none⟩) (Kd.Q_types HO_454001.out BK467.out (by decide)) (fun _ hk=>hk.2) (.int .i64 (wrap64 (t449 - t466)))) (fun _ hk=>hk.2) (.slice Ao12 t450.length co12)) (fun _ hk=>hk.2) (.int .i64 (wrap64 ((wrap64 (t449 - t466)) - 1)))) (fun _ h_=>h_.1))) hb);have n1_:=qal.mk (Kd.R_below (by(with_reducible repeat(first|apply Kd.R_alloc|apply Kd.R_drewN|apply Kd.R_drew));exact(Kd.R_mono (Kd.R_far (p:=⟨gb467,0,none⟩) (Kd.R_far (p:=⟨gb467,1,none⟩) (Kd.R_far (p:=⟨gb467,0,none⟩) (Kd.R_types HO463.out BK467.out (by decide)) (fun _ hk=>hk.2) (.int .i64 (wrap64 (t449 - t466)))) (fun _ hk=>hk.2) (.slice Ao12 t450.length co12)) (fun _ hk=>hk.2) (.int .i64 (wrap64 ((wrap64 (t449 - t466)) - 1)))) (fun _ h_=>h_.1))) hb);have n2_:=qal.mk (qac (g:=gb453) (o:=.cells #[.int .i64 t449,.slice Ao12 t450.length co12] 36 (0,0)) (za7 NB453_467 BK453) hb);have n3_:=qal.mk (qac (g:=gb457) (o:=.cells #[.int .i64 t449,.slice (some ⟨go29,0,none⟩) y461.length co154] 36 (0,0)) (za7 NB457_467 BK457) hb);have n4_:=qal.mk (qac (g:=gb465) (o:=.cells #[.int .i64 (wrap64 (t449 - t466)),.slice Ao12 t450.length co12] 36 (0,0)) (za7 NB465_467 BK465) hb);have n5_:=qal.mk (qac (g:=gb467) (o:=.cells #[.int .i64 (wrap64 ((wrap64 (t449 - t466)) - 1)),.slice Ao12 t450.length co12] 36 (0,0)) (by(with_reducible repeat(first|refine qag ?_ _|refine qah ?_|refine qaf ?_ _));refine qan (cs:=#[.int .i64 (wrap64 (t449 - t466)),.slice Ao12 t450.length co12]) ?_ 0 _ rfl;(with_reducible repeat(first|refine qag ?_ _|refine qah ?_|refine qaf ?_ _));refine qan (cs:=#[.int .i64 (wrap64 (t449 - t466)),.slice none 0 0]) ?_ 1 _ rfl;(with_reducible repeat(first|refine qag ?_ _|refine qah ?_|refine qaf ?_ _));refine qan (cs:=#[.int .i64 0,.slice none 0 0]) ?_ 0 _ rfl;(with_reducible repeat(first|refine qag ?_ _|refine qah ?_|refine qaf ?_ _));exact BK467.out) hb);have n6_:=qal.mk (qae (za11 HB GE453 GE457 GE465 GE467) hb);clear HO_454001;clear HO463;clear BK453;clear BK457;clear BK465;clear BK467;clear HB;have HO_454001:=n0_;have HO463:=n1_;have BK453:=n2_;have BK457:=n3_;have BK465:=n4_;have BK467:=n5_;have HB:=n6_;clear n0_ n1_ n2_ n3_ n4_ n5_ n6_;(try clear hb);(try clear hb2);(try clear hk);(try clear hi)))
            go_ret
            exact⟨by first|rfl|(simp[qaw,qav]<;>rfl)|(simp only[←hji26];first|rfl|(simp[qaw,qav]<;>rfl))|(simp[*,qaw,qav]<;>rfl),za11 HB GE453 GE457 GE465 GE467⟩
          ·rw[if_neg c28] at H
           exact absurd H (by simp)
         ·rw[if_neg c27] at H
          exact absurd H (by simp)
        ·rw[if_neg c25] at H
         exact absurd H (by simp)
def laws_FnStockLess.Pure:Prop:=∀(l0:List Int) (l1:List Int),l0.length≤maxLen→l0.length*1≤140737488351232→(∀x ∈ l0,(Lit.int .u8 x).wf=true)→l1.length≤maxLen→l1.length*1≤140737488351232→(∀x ∈ l1,(Lit.int .u8 x).wf=true)→∃k,laws_FnStockLess.f k l0 l1=some true
theorem laws_FnStockLess.walk (P:laws_FnStockLess.Pure) (a0:Option Addr) (len0 cap0:Nat) (z0:List Int) (a1:Option Addr) (len1 cap1:Nat) (z1:List Int) (w:World) (w0:(a0=none∧len0=0∧cap0=0∧z0=[])∨∃x,a0=some x∧len0≤cap0∧cap0≤maxLen∧z0.length=cap0∧(∀i,i<z0.length→w.cell? (x.add i)=some (.int .u8 (z0.getD i 0)))∧∀n ∈ z0,(Lit.int .u8 n).wf=true) (y0:len0*1≤140737488351232) (w1:(a1=none∧len1=0∧cap1=0∧z1=[])∨∃x,a1=some x∧len1≤cap1∧cap1≤maxLen∧z1.length=cap1∧(∀i,i<z1.length→w.cell? (x.add i)=some (.int .u8 (z1.getD i 0)))∧∀n ∈ z1,(Lit.int .u8 n).wf=true) (y1:len1*1≤140737488351232) :
  Calls Try.prog 5 #[.slice a0 len0 cap0,.slice a1 len1 cap1] w fun e w'=>e=.returned (.bool true)∧Below w.heap.size w w':=by
 obtain⟨l0,rfl,hr0,hm0,hw0,hc0⟩:=ReadsInt.ofRowC w0
 obtain⟨l1,rfl,hr1,hm1,hw1,hc1⟩:=ReadsInt.ofRowC w1
 obtain⟨k,h⟩:=P l0 l1 hm0 y0 hw0 hm1 y1 hw1
 refine(laws_FnStockLess.calls k _ _ l0 _ _ l1 true w (Kd.C_of_reads (d:=(0:Int)) (h1:=fun _=>rfl) hr0) hc0 (Kd.C_of_reads (d:=(0:Int)) (h1:=fun _=>rfl) hr1) hc1 h).mono ?_
 rintro e w' ⟨rfl,hd⟩
 exact⟨rfl,hd⟩
end Go.Proofs.Ytjccnaklodbbfaa.Print
