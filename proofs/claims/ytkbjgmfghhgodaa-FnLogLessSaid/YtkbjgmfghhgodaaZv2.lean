-- Written by squeeze.py, a program of this session, out of what print.sh and myprint.py had printed: cut to what is used, narrowed. Not trusted, Lean checks it.
import Derived.Test.YtkbjgmfghhgodaaZK
import Derived.Test.YtkbjgmfghhgodaaZv1
import Derived.Test.YtkbjgmfghhgodaaZw0
namespace Go.Proofs.Ytkbjgmfghhgodaa.Print
open Go.RowKit Go.Proofs.YtkbjgmfghhgodaaW.PrintWords Go.Proofs.YtkbjgmfghhgodaaW.PrintLast Go.Proofs.YtkbjgmfghhgodaaW.PrintMore
attribute [local go_sem] max2_int min2_int max_two min_two max_three min_three max_four min_four
set_option linter.unusedVariables false
set_option linter.unusedSimpArgs false
mutual
def laws_FnLogLess.j0:Nat→List Int→List Int→Bool→Option (Bool)
 |0,_,_,_=>none
 |k+1,x0,x1,x15=>if x15=true then(some true) else((spec_DrawLogOk.f k x0).bind fun bt598=>((impl_LogOk.f bt598.1 bt598.2).bind fun t603=>((spec_LogOk.f k bt598.1 bt598.2).bind fun t604=>(if(t603 != t604)=true then(laws_FnLogLess.j1 k x1 t603 true bt598.1 bt598.2) else(laws_FnLogLess.j1 k x1 t603 (!t603) bt598.1 bt598.2)))))
def laws_FnLogLess.j1:Nat→List Int→Bool→Bool→List (S45)→Int→Option (Bool)
 |0,_,_,_,_,_=>none
 |k+1,x1,x6,x27,x603000,x603001=>if x27=true then((spec_LogOk.f k x603000 x603001).bind fun t605=>(some (x6 == t605))) else(if(wrap64 ((x603000.length:Int)+1))=0 then(none) else(if 0≤((x1.length:Int)%(wrap64 ((x603000.length:Int)+1))) then(if((x1.length:Int)%(wrap64 ((x603000.length:Int)+1)))≤(x603000.length:Int) then((some (x603000.take (((x1.length:Int)%(wrap64 ((x603000.length:Int)+1))):Int).toNat:List (S45))).bind fun y606=>((impl_LogOk.f y606 (mn ((x1.length:Int)%(wrap64 ((x603000.length:Int)+1))) x603001)).bind fun t611=>(if t611=true then((impl_LogOk.f y606 (wrap64 (((x1.length:Int)%(wrap64 ((x603000.length:Int)+1)))+1))).bind fun t617=>(if t617=true then(some false) else((impl_LogOk.f x603000 (-1)).bind fun t618=>(some (!t618))))) else(some false)))) else(none)) else(none)))
end
def laws_FnLogLess.f (k:Nat) (l0:List Int) (l1:List Int):Option (Bool):=if(l0.length:Int)>1048576 then(laws_FnLogLess.j0 k l0 l1 true) else(laws_FnLogLess.j0 k l0 l1 (decide ((l1.length:Int)>1048576)))
theorem laws_FnLogLess.mono_l:∀k,(∀y0 y1 y2,LeO (laws_FnLogLess.j0 k y0 y1 y2) (laws_FnLogLess.j0 (k+1) y0 y1 y2))∧(∀y0 y1 y2 y3 y4,LeO (laws_FnLogLess.j1 k y0 y1 y2 y3 y4) (laws_FnLogLess.j1 (k+1) y0 y1 y2 y3 y4))
 |0=>⟨fun _ _ _ r h=>by simp[laws_FnLogLess.j0] at h,fun _ _ _ _ _ r h=>by simp[laws_FnLogLess.j1] at h⟩
 |k+1=>by
  obtain⟨ih0,ih1⟩:=laws_FnLogLess.mono_l k
  refine⟨?_,?_⟩
  ·intro y0 y1 y2
   unfold laws_FnLogLess.j0
   repeat' first
   |(with_reducible exact ih0 _ _ _)
   |(with_reducible exact ih1 _ _ _ _ _)
   |(with_reducible exact spec_DrawLogOk.mono _ _)
   |(with_reducible exact spec_LogOk.mono _ _ _)
   |(with_reducible exact LeO.refl _)
   |(with_reducible exact LeO.none _)
   |(with_reducible refine LeO.ite ?_ ?_)
   |(with_reducible refine LeO.bind ?_ (fun _=>?_))
   |exact ih0 _ _ _
   |exact ih1 _ _ _ _ _
   |exact spec_DrawLogOk.mono _ _
   |exact spec_LogOk.mono _ _ _
   |exact LeO.none _
   |refine LeO.ite ?_ ?_
   |refine LeO.bind ?_ (fun _=>?_)
  ·intro y0 y1 y2 y3 y4
   unfold laws_FnLogLess.j1
   repeat' first
   |(with_reducible exact ih0 _ _ _)
   |(with_reducible exact ih1 _ _ _ _ _)
   |(with_reducible exact spec_DrawLogOk.mono _ _)
   |(with_reducible exact spec_LogOk.mono _ _ _)
   |(with_reducible exact LeO.refl _)
   |(with_reducible exact LeO.none _)
   |(with_reducible refine LeO.ite ?_ ?_)
   |(with_reducible refine LeO.bind ?_ (fun _=>?_))
   |exact ih0 _ _ _
   |exact ih1 _ _ _ _ _
   |exact spec_DrawLogOk.mono _ _
   |exact spec_LogOk.mono _ _ _
   |exact LeO.none _
   |refine LeO.ite ?_ ?_
   |refine LeO.bind ?_ (fun _=>?_)
theorem laws_FnLogLess.mono:∀a0 a1 k,LeO (laws_FnLogLess.f k a0 a1) (laws_FnLogLess.f (k+1) a0 a1):=by
 intro a0 a1 k
 obtain⟨ih0,ih1⟩:=laws_FnLogLess.mono_l k
 unfold laws_FnLogLess.f
 repeat' first
   |(with_reducible exact ih0 _ _ _)
   |(with_reducible exact ih1 _ _ _ _ _)
   |(with_reducible exact spec_DrawLogOk.mono _ _)
   |(with_reducible exact spec_LogOk.mono _ _ _)
   |(with_reducible exact LeO.refl _)
   |(with_reducible exact LeO.none _)
   |(with_reducible refine LeO.ite ?_ ?_)
   |(with_reducible refine LeO.bind ?_ (fun _=>?_))
   |exact ih0 _ _ _
   |exact ih1 _ _ _ _ _
   |exact spec_DrawLogOk.mono _ _
   |exact spec_LogOk.mono _ _ _
   |exact LeO.none _
   |refine LeO.ite ?_ ?_
   |refine LeO.bind ?_ (fun _=>?_)
def laws_FnLogLess.T8:Bool × List (List Nat × List Nat):=(true,[([],[]),([0],[0]),([],[]),([1,2],[1,2]),([],[]),([],[]),([5],[5]),([4,6],[4,6]),([3,7],[3,7]),([8],[8]),([9,9],[9]),([10],[10]),([11,10],[10,11]),([10],[10]),([12,13,10],[10,12,13]),([10],[10]),([15,10],[10,15]),([14,16,10],[10,14,16]),([17,10,10],[10,17]),([18,10],[10,18]),([10,19],[10,19]),([20,18],[20]),([21],[21]),([22,21],[21,22]),([23,21],[21,23]),([24,21,21],[21,24]),([25,21],[21,25]),([21,26],[21,26]),([27,25,0,1,2,3,4,5,6,7,8,9,10,11,12,13,14,15,16,17,18,19,20,21,22,23,24,25,26,27],[27])])
def laws_FnLogLess.B8:List Nat:=[0,1,0,7,0,0,32,112,255,511,1023,2047,4095,2047,16383,2047,34815,131071,262143,524287,1048575,2097151,4194303,8388607,16777215,33554431,67108863,134217727,268435455]
theorem laws_FnLogLess.tab8:rtab .any (opsOf Try.f13 8)=laws_FnLogLess.T8:=by kernel_rfl
theorem laws_FnLogLess.bits8:waitsOk laws_FnLogLess.T8.2 laws_FnLogLess.B8=true:=by kernel_rfl
set_option maxHeartbeats 8000000 in
set_option maxRecDepth 100000 in
theorem laws_FnLogLess.calls (k:Nat) (A0:Option Addr) (c0:Nat) (l0:List Int) (A1:Option Addr) (c1:Nat) (l1:List Int) (r:Bool) (w:World) (hr0:Kd.C (Kd.int .u8) w A0 l0.length l0) (hc0:l0.length≤c0) (hr1:Kd.C (Kd.int .u8) w A1 l1.length l1) (hc1:l1.length≤c1) (h:laws_FnLogLess.f k l0 l1=some r) :
  Calls Try.prog 13 #[.slice A0 l0.length c0,.slice A1 l1.length c1] w fun e w'=>e=.returned (.bool r)∧Below w.heap.size w w':=by
 have hu68:=Try.underlying68
 have HR0:=qbb.mk hr0
 have HC0:=qbb.mk hc0
 clear hr0 hc0
 have HR1:=qbb.mk hr1
 have HC1:=qbb.mk hc1
 clear hr1 hc1
 have HB:=qbb.mk (Below.refl w.heap.size w)
 have H:(if(l0.length:Int)>1048576 then(laws_FnLogLess.j0 k l0 l1 true) else(laws_FnLogLess.j0 k l0 l1 (decide ((l1.length:Int)>1048576))))=some r:=h
 clear h
 have HC3:=qbb.mk H
 clear H
 go_enter Try.func13,Try.ntmps13
 go_upto_region 1 with(fail)
 go_cut [15] (fun v15 wc=>∃(kq:Nat) (x15_2:Bool),v15=.bool x15_2∧qbb (laws_FnLogLess.j0 kq l0 l1 x15_2=some r)∧qbb (kq≤k)∧qbb (Below w.heap.size w wc))
 case first=>
  have H:=HC3.out
  clear HC3
  by_cases c4:(l0.length:Int)>1048576
  ·rw[if_pos c4] at H
   have c4b0:decide (1048576<(l0.length:Int))=true:=decide_eq_true c4
   have c4b1:decide (1048576<l0.length)=true:=decide_eq_true (by omega)
   clear c4
   (first|rw[c4b0]|(simp only[qay,qaz];rw[c4b0])|skip)
   have H':=qbb.mk H
   clear H
   go_wp2
   go_meet
   case rel=>exact⟨_,(true),(by first|rfl|(simp;done)|(simp[*];done)),H',⟨by first|omega|exact Nat.le_refl _⟩,⟨by repeat(first|(with_reducible first|exact HB.out|apply qac|apply qaa|apply qab)|exact HB.out)⟩⟩
  ·rw[if_neg c4] at H
   have c4b0:decide (1048576<(l0.length:Int))=false:=decide_eq_false c4
   have c4b1:decide (1048576<l0.length)=false:=decide_eq_false (by omega)
   clear c4
   (first|rw[c4b0]|(simp only[qay,qaz];rw[c4b0])|skip)
   have H':=qbb.mk H
   clear H
   go_wp2
   go_meet
   case rel=>exact⟨_,(decide ((l1.length:Int)>1048576)),(by first|rfl|(simp;done)|(simp[*];done)),H',⟨by first|omega|exact Nat.le_refl _⟩,⟨by repeat(first|(with_reducible first|exact HB.out|apply qac|apply qaa|apply qab)|exact HB.out)⟩⟩
 case rest=>
  clear HC3
  try clear c1
  try clear p2
  try clear c4
  try clear c4b0
  try clear c4b1
  obtain⟨kq,x15_2,rfl,HA,HJ2,HB⟩:=hcut
  cases kq with
  |zero=>exact absurd HA.out (by simp[laws_FnLogLess.j0])
  |succ kj2=>
   have H:=HA.out
   clear HA
   simp only[laws_FnLogLess.j0] at H
   by_cases c5:x15_2=true
   ·subst c5
    have H1:(some true)=some r:=by rw[if_pos rfl] at H;exact H
    clear H
    have H:=H1
    clear H1
    obtain rfl:=Option.some.inj H
    go_wp2
    go_ret
    exact⟨by first|rfl|(simp[qan,qam]<;>rfl)|(simp[*,qan,qam]<;>rfl),by repeat(first|(with_reducible first|exact HB.out|apply qac|apply qaa|apply qab)|exact HB.out)⟩
   ·replace c5:=Bool.eq_false_iff.mpr c5
    subst c5
    have H1:((spec_DrawLogOk.f kj2 l0).bind fun bt598=>((impl_LogOk.f bt598.1 bt598.2).bind fun t603=>((spec_LogOk.f kj2 bt598.1 bt598.2).bind fun t604=>(if(t603 != t604)=true then(laws_FnLogLess.j1 kj2 l1 t603 true bt598.1 bt598.2) else(laws_FnLogLess.j1 kj2 l1 t603 (!t603) bt598.1 bt598.2)))))=some r:=by rw[if_neg (show ¬(false=true) by decide)] at H;exact H
    clear H
    have H:=H1
    clear H1
    replace H:=Option.bind_eq_some_iff.mp H
    obtain⟨⟨t598,t601⟩,A60,H⟩:=H
    replace H:((impl_LogOk.f t598 t601).bind fun t603=>((spec_LogOk.f kj2 t598 t601).bind fun t604=>(if(t603 != t604)=true then(laws_FnLogLess.j1 kj2 l1 t603 true t598 t601) else(laws_FnLogLess.j1 kj2 l1 t603 (!t603) t598 t601))))=some r:=H
    have A6:=qbb.mk A60
    clear A60
    replace H:=Option.bind_eq_some_iff.mp H
    obtain⟨t603,A70,H⟩:=H
    replace H:((spec_LogOk.f kj2 t598 t601).bind fun t604=>(if(t603 != t604)=true then(laws_FnLogLess.j1 kj2 l1 t603 true t598 t601) else(laws_FnLogLess.j1 kj2 l1 t603 (!t603) t598 t601)))=some r:=H
    have A7:=qbb.mk A70
    clear A70
    have HC8:=qbb.mk H
    clear H
    go_upto_region 5 with(first|((with_reducible refine qao (f:=41) rfl ?_);refine qax (some 17) rfl rfl Try.func41 (by kernel_rfl) rfl #[.slice A0 l0.length c0] rfl (by(try simp only[List.map_toArray,List.map_cons,List.map_nil]);first|done|rfl|(simp only[List.length_drop,List.length_take];rfl)) ?_;(with_reducible refine(spec_DrawLogOk.calls kj2 _ _ l0 t598 t601 _ ?side1 ?side2 A6.out).mono ?_);(case side1=>repeat(first|exact(Kd.C_below HR0.out HB.out)|(with_reducible refine Kd.C_alloc ?_ _)|(with_reducible refine Kd.C_drewN ?_ _)|(with_reducible refine Kd.C_drew ?_)));(case side2=>exact HC0.out);rintro e w9 ⟨v599,rfl,ho0,hb⟩;refine⟨_,rfl,?_⟩;have n0_:=qbb.mk (Kd.N_lower (Kd.N_mono (ok':=fun k_=>True) ho0 (fun k_ hk_=>trivial)) (qaj (by repeat(first|(with_reducible first|exact HB.out|apply qac|apply qaa|apply qab)|exact HB.out))));have n1_:=qbb.mk (qak (by repeat(first|(with_reducible first|exact HB.out|apply qac|apply qaa|apply qab)|exact HB.out)) hb);clear HB;have HO600:=n0_;have HB:=n1_;clear n0_ n1_;(try clear hb);(try clear hb2);(try clear hk);(try clear hi);(try clear ho0))|((with_reducible refine qav (N:=5) rfl ?_);(try(refine gate_guard (by rfl) ?_;dsimp only));refine qat ?hg (N:=5) ?hd (cs:=#[.slice none 0 0,.int .i64 0]) (t:=68) ?hr ?_;(case hd=>rfl);(case hg=>rfl);(case hr=>first|(go_simp;done)|(go_simp;rfl));intro gb602 hg w10 hbox hb;have n0_:=qbb.mk (Kd.N_below (Kd.N_elderB (by(with_reducible repeat(first|apply Kd.N_alloc|apply Kd.N_drewN|apply Kd.N_drew));exact HO600.out) gb602 (Nat.le_of_eq hg.symm)) hb);have n1_:=qbb.mk (qak (by repeat(first|(with_reducible first|exact HB.out|apply qac|apply qaa|apply qab)|exact HB.out)) hb);have n2_:=qbb.mk (hbox);have n3_:=qbb.mk ((by rw[hg];exact(qaj (by repeat(first|(with_reducible first|exact HB.out|apply qac|apply qaa|apply qab)|exact HB.out))):w.heap.size≤gb602));have n4_:=qbb.mk ((by rw[hg];exact(qaj (by repeat(first|(with_reducible first|exact HB.out|apply qac|apply qaa|apply qab)|exact HB.out))):w.heap.size≤gb602));clear HO600;clear HB;have HO600:=n0_;have HB:=n1_;have BK602:=n2_;have GW602:=n3_;have GE602:=n4_;clear n0_ n1_ n2_ n3_ n4_;clear hb hbox hg;obtain⟨Ao11,co11,eo11⟩:=Kd.N_slice HO600.out;subst eo11;have hcz12_0:w10.cell? ⟨gb602,0,none⟩=some (.slice none 0 0):=(qai BK602.out 0).trans rfl;have hcz12_1:w10.cell? ⟨gb602,1,none⟩=some (.int .i64 0):=(qai BK602.out 1).trans rfl;have hfz12_0:=qah BK602.out 0;have hfz12_1:=qah BK602.out 1)|((with_reducible refine qao (f:=42) rfl ?_);refine qax (some 19) rfl rfl Try.func42 (by kernel_rfl) rfl #[.agg #[.slice Ao11 t598.length co11,.int .i64 t601]] rfl (by(try simp only[List.map_toArray,List.map_cons,List.map_nil]);first|done|rfl|(simp only[List.length_drop,List.length_take];rfl)) ?_;(with_reducible refine(impl_LogOk.calls _ _ t598 t601 t603 _ ?side1 ?side2 A7.out).mono ?_);(case side1=>refine(Kd.N_reads' (e:=45) (base:=w.heap.size) (ok:=fun k_=>(True∧k_≠gb602)) (n:=t598.length) (c:=co11) ?_).2.2;exact(by(with_reducible repeat(first|apply Kd.N_alloc|apply Kd.N_drewN|apply Kd.N_drew));exact(Kd.N_mono (Kd.N_far (p:=⟨gb602,1,none⟩) (Kd.N_far (p:=⟨gb602,0,none⟩) (Kd.N_mono HO600.out (fun k_ hk=>(⟨hk,hk.2⟩:_∧k_≠gb602))) (fun _ hk=>hk.2) (.slice Ao11 t598.length co11)) (fun _ hk=>hk.2) (.int .i64 t601)) (fun _ h_=>h_.1))));(case side2=>exact(Kd.N_reads' HO600.out).2.1);rintro e w13 ⟨rfl,hb⟩;refine⟨_,rfl,?_⟩;have n0_:=qbb.mk (Kd.N_below (by(with_reducible repeat(first|apply Kd.N_alloc|apply Kd.N_drewN|apply Kd.N_drew));exact(Kd.N_mono (Kd.N_far (p:=⟨gb602,1,none⟩) (Kd.N_far (p:=⟨gb602,0,none⟩) (Kd.N_mono HO600.out (fun k_ hk=>(⟨hk,hk.2⟩:_∧k_≠gb602))) (fun _ hk=>hk.2) (.slice Ao11 t598.length co11)) (fun _ hk=>hk.2) (.int .i64 t601)) (fun _ h_=>h_.1))) hb);have n1_:=qbb.mk (qal (g:=gb602) (o:=.cells #[.slice Ao11 t598.length co11,.int .i64 t601] 68 (0,0)) (by(with_reducible repeat(first|refine qae ?_ _|refine qaf ?_|refine qad ?_ _));refine qaq (cs:=#[.slice Ao11 t598.length co11,.int .i64 0]) ?_ 1 _ rfl;(with_reducible repeat(first|refine qae ?_ _|refine qaf ?_|refine qad ?_ _));refine qaq (cs:=#[.slice none 0 0,.int .i64 0]) ?_ 0 _ rfl;(with_reducible repeat(first|refine qae ?_ _|refine qaf ?_|refine qad ?_ _));exact BK602.out) hb);have n2_:=qbb.mk (qak (by repeat(first|(with_reducible first|exact HB.out|apply qac|apply qaa|apply qab|refine qag ?_ GE602.out)|exact HB.out)) hb);clear HO600;clear BK602;clear HB;have HO600:=n0_;have BK602:=n1_;have HB:=n2_;clear n0_ n1_ n2_;(try clear hb);(try clear hb2);(try clear hk);(try clear hi)))
    (try simp only[Act.put,List.setIfInBounds_toArray,List.set_cons_zero,List.set_cons_succ])
    go_cut [27] (fun v27 wc=>∃(kq:Nat) (x27_7:Bool),v27=.bool x27_7∧qbb (laws_FnLogLess.j1 kq l1 t603 x27_7 t598 t601=some r)∧qbb (kq≤kj2)∧qbb (Kd.N k45 45 wc w.heap.size (fun k_=>k_≠gb602) (.slice Ao11 t598.length co11) t598)∧qbb (wc.heap[gb602]?=some (.cells #[(.slice Ao11 t598.length co11),.int .i64 t601] 68 (0,0)))∧qbb (Below w.heap.size w wc))
    case first=>
     have H:=HC8.out
     clear HC8
     replace H:=Option.bind_eq_some_iff.mp H
     obtain⟨t604,A140,H⟩:=H
     replace H:(if(t603 != t604)=true then(laws_FnLogLess.j1 kj2 l1 t603 true t598 t601) else(laws_FnLogLess.j1 kj2 l1 t603 (!t603) t598 t601))=some r:=H
     have A14:=qbb.mk A140
     clear A140
     by_cases c15:(t603 != t604)=true
     ·rw[if_pos c15] at H
      have c15b0:(t603 != t604)=true:=c15
      (try(have c15b1:decide (t603=t604)=false:=by simpa using c15))
      (try(have c15b2:(t603 == t604)=false:=by simpa using c15))
      (try(have c15b3:¬(t603=t604):=by simpa using c15))
      clear c15
      (first|rw[c15b0]|(simp only[qay,qaz];rw[c15b0])|skip)
      have H':=qbb.mk H
      clear H
      have hcz16_0:w13.cell? ⟨gb602,0,none⟩=some (.slice Ao11 t598.length co11):=(qai BK602.out 0).trans rfl
      have hcz16_1:w13.cell? ⟨gb602,1,none⟩=some (.int .i64 t601):=(qai BK602.out 1).trans rfl
      have hfz16_0:=qah BK602.out 0
      have hfz16_1:=qah BK602.out 1
      go_wp2_with(first|((with_reducible refine qao (f:=43) rfl ?_);refine qax (some 22) rfl rfl Try.func43 (by kernel_rfl) rfl #[.agg #[.slice Ao11 t598.length co11,.int .i64 t601]] rfl (by(try simp only[List.map_toArray,List.map_cons,List.map_nil]);first|done|rfl|(simp only[List.length_drop,List.length_take];rfl)) ?_;(with_reducible refine(spec_LogOk.calls kj2 _ _ t598 t601 t604 _ ?side1 ?side2 A14.out).mono ?_);(case side1=>repeat(first|exact(Kd.N_reads' HO600.out).2.2|(with_reducible refine Kd.C_alloc ?_ _)|(with_reducible refine Kd.C_drewN ?_ _)|(with_reducible refine Kd.C_drew ?_)));(case side2=>exact(Kd.N_reads' HO600.out).2.1);rintro e w17 ⟨rfl,hb⟩;refine⟨_,rfl,?_⟩;have n0_:=qbb.mk (Kd.N_below (by(with_reducible repeat(first|apply Kd.N_alloc|apply Kd.N_drewN|apply Kd.N_drew));exact HO600.out) hb);have n1_:=qbb.mk (qal (g:=gb602) (o:=.cells #[.slice Ao11 t598.length co11,.int .i64 t601] 68 (0,0)) (by(with_reducible repeat(first|refine qae ?_ _|refine qaf ?_|refine qad ?_ _));exact BK602.out) hb);have n2_:=qbb.mk (qak (by repeat(first|(with_reducible first|exact HB.out|apply qac|apply qaa|apply qab|refine qag ?_ GE602.out)|exact HB.out)) hb);clear HO600;clear BK602;clear HB;have HO600:=n0_;have BK602:=n1_;have HB:=n2_;clear n0_ n1_ n2_;(try clear hb);(try clear hb2);(try clear hk);(try clear hi)))
      go_meet
      case rel=>exact⟨_,(true),(by first|rfl|(simp;done)|(simp[*];done)),H',⟨by have:=HJ2.out;first|omega|exact Nat.le_refl _⟩,⟨by(with_reducible repeat(first|apply Kd.N_alloc|apply Kd.N_drewN|apply Kd.N_drew));exact Kd.N_mono HO600.out (fun _ hk=>hk.2)⟩,⟨by(with_reducible repeat(first|refine qae ?_ _|refine qaf ?_|refine qad ?_ _));exact BK602.out⟩,⟨by repeat(first|(with_reducible first|exact HB.out|apply qac|apply qaa|apply qab|refine qag ?_ GE602.out)|exact HB.out)⟩⟩
     ·rw[if_neg c15] at H
      have c15b0:(t603 != t604)=false:=by simpa using c15
      (try(have c15b1:decide (t603=t604)=true:=by simpa using c15))
      (try(have c15b2:(t603 == t604)=true:=by simpa using c15))
      clear c15
      (first|rw[c15b0]|(simp only[qay,qaz];rw[c15b0])|skip)
      have H':=qbb.mk H
      clear H
      have hcz18_0:w13.cell? ⟨gb602,0,none⟩=some (.slice Ao11 t598.length co11):=(qai BK602.out 0).trans rfl
      have hcz18_1:w13.cell? ⟨gb602,1,none⟩=some (.int .i64 t601):=(qai BK602.out 1).trans rfl
      have hfz18_0:=qah BK602.out 0
      have hfz18_1:=qah BK602.out 1
      go_wp2_with(first|((with_reducible refine qao (f:=43) rfl ?_);refine qax (some 22) rfl rfl Try.func43 (by kernel_rfl) rfl #[.agg #[.slice Ao11 t598.length co11,.int .i64 t601]] rfl (by(try simp only[List.map_toArray,List.map_cons,List.map_nil]);first|done|rfl|(simp only[List.length_drop,List.length_take];rfl)) ?_;(with_reducible refine(spec_LogOk.calls kj2 _ _ t598 t601 t604 _ ?side1 ?side2 A14.out).mono ?_);(case side1=>repeat(first|exact(Kd.N_reads' HO600.out).2.2|(with_reducible refine Kd.C_alloc ?_ _)|(with_reducible refine Kd.C_drewN ?_ _)|(with_reducible refine Kd.C_drew ?_)));(case side2=>exact(Kd.N_reads' HO600.out).2.1);rintro e w19 ⟨rfl,hb⟩;refine⟨_,rfl,?_⟩;have n0_:=qbb.mk (Kd.N_below (by(with_reducible repeat(first|apply Kd.N_alloc|apply Kd.N_drewN|apply Kd.N_drew));exact HO600.out) hb);have n1_:=qbb.mk (qal (g:=gb602) (o:=.cells #[.slice Ao11 t598.length co11,.int .i64 t601] 68 (0,0)) (by(with_reducible repeat(first|refine qae ?_ _|refine qaf ?_|refine qad ?_ _));exact BK602.out) hb);have n2_:=qbb.mk (qak (by repeat(first|(with_reducible first|exact HB.out|apply qac|apply qaa|apply qab|refine qag ?_ GE602.out)|exact HB.out)) hb);clear HO600;clear BK602;clear HB;have HO600:=n0_;have BK602:=n1_;have HB:=n2_;clear n0_ n1_ n2_;(try clear hb);(try clear hb2);(try clear hk);(try clear hi)))
      go_meet
      case rel=>exact⟨_,(!t603),(by first|rfl|(simp;done)|(simp[*];done)),H',⟨by have:=HJ2.out;first|omega|exact Nat.le_refl _⟩,⟨by(with_reducible repeat(first|apply Kd.N_alloc|apply Kd.N_drewN|apply Kd.N_drew));exact Kd.N_mono HO600.out (fun _ hk=>hk.2)⟩,⟨by(with_reducible repeat(first|refine qae ?_ _|refine qaf ?_|refine qad ?_ _));exact BK602.out⟩,⟨by repeat(first|(with_reducible first|exact HB.out|apply qac|apply qaa|apply qab|refine qag ?_ GE602.out)|exact HB.out)⟩⟩
    case rest=>
     clear HC8
     try clear c1
     try clear p2
     try clear c4
     try clear c4b0
     try clear c4b1
     try clear c5
     try clear c13
     try clear c15
     try clear c15b0
     try clear c15b1
     try clear c15b2
     try clear hcz12_0
     try clear hcz12_1
     try clear hcz16_0
     try clear hcz16_1
     try clear hcz18_0
     try clear hcz18_1
     try clear hfz12_0
     try clear hfz12_1
     try clear hfz16_0
     try clear hfz16_1
     try clear hfz18_0
     try clear hfz18_1
     try clear p2
     obtain⟨kq,x27_7,rfl,HA,HJ7,HO_603000,BK602,HB⟩:=hcut
     cases kq with
     |zero=>exact absurd HA.out (by simp[laws_FnLogLess.j1])
     |succ kj7=>
      have H:=HA.out
      clear HA
      simp only[laws_FnLogLess.j1] at H
      by_cases c20:x27_7=true
      ·subst c20
       have H1:((spec_LogOk.f kj7 t598 t601).bind fun t605=>(some (t603 == t605)))=some r:=by rw[if_pos rfl] at H;exact H
       clear H
       have H:=H1
       clear H1
       replace H:=Option.bind_eq_some_iff.mp H
       obtain⟨t605,A210,H⟩:=H
       replace H:(some (t603 == t605))=some r:=H
       have A21:=qbb.mk A210
       clear A210
       obtain rfl:=Option.some.inj H
       have hcz22_0:wc.cell? ⟨gb602,0,none⟩=some (.slice Ao11 t598.length co11):=(qai BK602.out 0).trans rfl
       have hcz22_1:wc.cell? ⟨gb602,1,none⟩=some (.int .i64 t601):=(qai BK602.out 1).trans rfl
       have hfz22_0:=qah BK602.out 0
       have hfz22_1:=qah BK602.out 1
       go_wp2_with(first|((with_reducible refine qao (f:=43) rfl ?_);refine qax (some 30) rfl rfl Try.func43 (by kernel_rfl) rfl #[.agg #[.slice Ao11 t598.length co11,.int .i64 t601]] rfl (by(try simp only[List.map_toArray,List.map_cons,List.map_nil]);first|done|rfl|(simp only[List.length_drop,List.length_take];rfl)) ?_;(with_reducible refine(spec_LogOk.calls kj7 _ _ t598 t601 t605 _ ?side1 ?side2 A21.out).mono ?_);(case side1=>repeat(first|exact(Kd.N_reads' HO_603000.out).2.2|(with_reducible refine Kd.C_alloc ?_ _)|(with_reducible refine Kd.C_drewN ?_ _)|(with_reducible refine Kd.C_drew ?_)));(case side2=>exact(Kd.N_reads' HO_603000.out).2.1);rintro e w23 ⟨rfl,hb⟩;refine⟨_,rfl,?_⟩;have n0_:=qbb.mk (Kd.N_below (by(with_reducible repeat(first|apply Kd.N_alloc|apply Kd.N_drewN|apply Kd.N_drew));exact HO_603000.out) hb);have n1_:=qbb.mk (qal (g:=gb602) (o:=.cells #[.slice Ao11 t598.length co11,.int .i64 t601] 68 (0,0)) (by(with_reducible repeat(first|refine qae ?_ _|refine qaf ?_|refine qad ?_ _));exact BK602.out) hb);have n2_:=qbb.mk (qak (by repeat(first|(with_reducible first|exact HB.out|apply qac|apply qaa|apply qab|refine qag ?_ GE602.out)|exact HB.out)) hb);clear HO_603000;clear BK602;clear HB;have HO_603000:=n0_;have BK602:=n1_;have HB:=n2_;clear n0_ n1_ n2_;(try clear hb);(try clear hb2);(try clear hk);(try clear hi)))
       go_ret
       exact⟨by first|rfl|(simp[qan,qam]<;>rfl)|(simp[*,qan,qam]<;>rfl),by repeat(first|(with_reducible first|exact HB.out|apply qac|apply qaa|apply qab|refine qag ?_ GE602.out)|exact HB.out)⟩
      ·replace c20:=Bool.eq_false_iff.mpr c20
       subst c20
       have H1:(if(wrap64 ((t598.length:Int)+1))=0 then(none) else(if 0≤((l1.length:Int)%(wrap64 ((t598.length:Int)+1))) then(if((l1.length:Int)%(wrap64 ((t598.length:Int)+1)))≤(t598.length:Int) then((some (t598.take (((l1.length:Int)%(wrap64 ((t598.length:Int)+1))):Int).toNat:List (S45))).bind fun y606=>((impl_LogOk.f y606 (mn ((l1.length:Int)%(wrap64 ((t598.length:Int)+1))) t601)).bind fun t611=>(if t611=true then((impl_LogOk.f y606 (wrap64 (((l1.length:Int)%(wrap64 ((t598.length:Int)+1)))+1))).bind fun t617=>(if t617=true then(some false) else((impl_LogOk.f t598 (-1)).bind fun t618=>(some (!t618))))) else(some false)))) else(none)) else(none)))=some r:=by rw[if_neg (show ¬(false=true) by decide)] at H;exact H
       clear H
       have H:=H1
       clear H1
       by_cases c24:(wrap64 ((t598.length:Int)+1))=0
       ·rw[if_pos c24] at H
        exact absurd H (by simp)
       ·rw[if_neg c24] at H
        have c24b0:((wrap64 ((t598.length:Int)+1)) == 0)=false:=beq_eq_false_iff_ne.mpr c24
        have c24b1:((wrap64 ((t598.length:Int)+1)) != 0)=true:=bne_iff_ne.mpr c24
        obtain⟨ji25,hji25⟩:∃j_:Int,((l1.length:Int)%(wrap64 ((t598.length:Int)+1)))=j_:=⟨_,rfl⟩
        replace H:(if 0≤(ji25) then(if(ji25)≤(t598.length:Int) then((some (t598.take ((ji25):Int).toNat:List (S45))).bind fun y606=>((impl_LogOk.f y606 (mn (ji25) t601)).bind fun t611=>(if t611=true then((impl_LogOk.f y606 (wrap64 ((ji25)+1))).bind fun t617=>(if t617=true then(some false) else((impl_LogOk.f t598 (-1)).bind fun t618=>(some (!t618))))) else(some false)))) else(none)) else(none))=some r:=by first|(rw[hji25] at H;exact H)|(simp only[hji25] at H ⊢;exact H)
        by_cases c26:0≤(ji25)
        ·rw[if_pos c26] at H
         have c26b0:=eq_true c26
         have c26b1:decide (0≤(ji25))=true:=decide_eq_true c26
         clear c26
         by_cases c27:(ji25)≤(t598.length:Int)
         ·rw[if_pos c27] at H
          have c27b0:=eq_true c27
          have c27b1:decide ((ji25)≤(t598.length:Int))=true:=decide_eq_true c27
          clear c27
          obtain⟨y606,hy606⟩:∃y_:List (S45),y_=(t598.take ((ji25):Int).toNat):=⟨_,rfl⟩
          replace H:((impl_LogOk.f y606 (mn (ji25) t601)).bind fun t611=>(if t611=true then((impl_LogOk.f y606 (wrap64 ((ji25)+1))).bind fun t617=>(if t617=true then(some false) else((impl_LogOk.f t598 (-1)).bind fun t618=>(some (!t618))))) else(some false)))=some r:=by first|(rw[hy606];with_reducible exact H)|(have H2_:=(Option.bind_some _ _).symm.trans H;rw[hy606];with_reducible exact H2_)|(have H2_:=(Option.bind_some _ _).symm.trans H;with_reducible exact H2_)|with_reducible exact H|(rw[hy606];exact H)|exact H
          have Ny606:=qbb.mk hy606
          clear hy606
          obtain⟨ji28,hji28⟩:∃j_:Int,(mn (ji25) t601)=j_:=⟨_,rfl⟩
          replace H:((impl_LogOk.f y606 (ji28)).bind fun t611=>(if t611=true then((impl_LogOk.f y606 (wrap64 ((ji25)+1))).bind fun t617=>(if t617=true then(some false) else((impl_LogOk.f t598 (-1)).bind fun t618=>(some (!t618))))) else(some false)))=some r:=by first|(rw[hji28] at H;exact H)|(simp only[hji28] at H ⊢;exact H)
          have hji28_:(if t601<(ji25) then t601 else(ji25))=ji28:=hji28
          replace H:=Option.bind_eq_some_iff.mp H
          obtain⟨t611,A290,H⟩:=H
          replace H:(if t611=true then((impl_LogOk.f y606 (wrap64 ((ji25)+1))).bind fun t617=>(if t617=true then(some false) else((impl_LogOk.f t598 (-1)).bind fun t618=>(some (!t618))))) else(some false))=some r:=H
          have A29:=qbb.mk A290
          clear A290
          by_cases c30:t611=true
          ·subst c30
           have H1:((impl_LogOk.f y606 (wrap64 ((ji25)+1))).bind fun t617=>(if t617=true then(some false) else((impl_LogOk.f t598 (-1)).bind fun t618=>(some (!t618)))))=some r:=by rw[if_pos rfl] at H;exact H
           clear H
           have H:=H1
           clear H1
           have c31b0:=eq_true (of_decide_eq_true (by first|(with_reducible assumption)|assumption):0≤(ji25))
           have c32b0:=eq_true (of_decide_eq_true (by first|(with_reducible assumption)|assumption):(ji25)≤(t598.length:Int))
           replace H:=Option.bind_eq_some_iff.mp H
           obtain⟨t617,A330,H⟩:=H
           replace H:(if t617=true then(some false) else((impl_LogOk.f t598 (-1)).bind fun t618=>(some (!t618))))=some r:=H
           have A33:=qbb.mk A330
           clear A330
           by_cases c34:t617=true
           ·subst c34
            have H1:(some false)=some r:=by rw[if_pos rfl] at H;exact H
            clear H
            have H:=H1
            clear H1
            obtain rfl:=Option.some.inj H
            have hcz35_0:wc.cell? ⟨gb602,0,none⟩=some (.slice Ao11 t598.length co11):=(qai BK602.out 0).trans rfl
            have hcz35_1:wc.cell? ⟨gb602,1,none⟩=some (.int .i64 t601):=(qai BK602.out 1).trans rfl
            have hfz35_0:=qah BK602.out 0
            have hfz35_1:=qah BK602.out 1
            try go_wp2
            have n0_:=qbb.mk (Kd.N_drew HO_603000.out)
            have n1_:=qbb.mk (qaf BK602.out)
            have n2_:=qbb.mk (qab HB.out)
            clear HO_603000
            clear BK602
            clear HB
            have HO_603000:=n0_
            have BK602:=n1_
            have HB:=n2_
            clear n0_ n1_ n2_
            have q37:((ji25):Int)≤((t598.length:Int):Int):=of_decide_eq_true (by first|(with_reducible assumption)|assumption)
            obtain⟨i037,hi037,_,hsz37,_⟩:=info_parts info45
            have hroom37:t598.length≤co11:=(Kd.N_reads' HO_603000.out).2.1
            have hC37:Kd.F k45 _ _ Ao11 t598.length t598:=(Kd.V_at (base:=w.heap.size) (Kd.N_V HO_603000.out)).2.2
            have hcut37:=cut_to (P:=Try.prog) 66 45 .i64 Try.underlying66 hi037 Ao11 t598.length co11 (ji25) (of_decide_eq_true (by first|(with_reducible assumption)|assumption)) q37 hroom37
            have hr37:=Kd.F_take (m:=((ji25):Int).toNat) hC37 (by omega)
            have hy37:y606.length=((ji25):Int).toNat:=(by rw[Ny606.out,List.length_take];omega)
            rw[←Ny606.out] at hr37
            rw[←hy37] at hcut37
            have HO610:=qbb.mk (show Kd.V k45 45 _ w.heap.size _ (.slice Ao11 y606.length co11) y606 from Kd.V_mk (by omega) hr37)
            have HC610:=qbb.mk (show y606.length≤co11 from by omega)
            clear hr37 hC37 hroom37 hi037 hsz37
            have KY37:=qbb.mk hy37
            clear hy37
            replace q37:=eq_true q37
            refine start_ (n:=29) (S:=fun w'=>w'.cell? ⟨gb602,0,none⟩=some (.slice Ao11 t598.length co11)∧w'.cell? ⟨gb602,1,none⟩=some (.int .i64 t601)) (ds:=[]) #[false,false,false,false,false,false,false,false,false,false,false,false,false,false,false,false,false,false,false,false,false,false,false,false,false,false,false,false,false] (by kernel_rfl) rfl rfl ⟨(qai BK602.out 0).trans rfl,(qai BK602.out 1).trans rfl⟩ (fun hHeld=>?_);refine with_tabW laws_FnLogLess.tab8 laws_FnLogLess.bits8 (fun HT_ HW_=>?_)
            generalize wc.drew=w36 at HO_603000 BK602 HB HO610 hHeld ⊢
            refine qbd (i:=0) (N:=some 39) (v:=?_) (a':=?_) #[true,false,false,false,false,false,false,false,false,false,false,false,false,false,false,false,false,false,false,false,false,false,false,false,false,false,false,false,false] rfl rfl (qba HT_.out (by kernel_rfl)) (fun _ _ _ h=>h) (Or.inl ⟨by rfl,?_⟩) ?_ ?_
            rotate_left
            ·intro w'
             go_simp
             with_reducible rfl
            rotate_left
            ·simp only[Act.put,List.setIfInBounds_toArray,List.set_cons_zero,List.set_cons_succ,qay,qaz]
             rfl
            refine qbd (i:=2) (N:=some 41) (v:=?_) (a':=?_) #[true,false,true,false,false,false,false,false,false,false,false,false,false,false,false,false,false,false,false,false,false,false,false,false,false,false,false,false,false] rfl rfl (qba HT_.out (by kernel_rfl)) (fun _ _ _ h=>h) (Or.inl ⟨by rfl,?_⟩) ?_ ?_
            rotate_left
            ·intro w'
             go_simp
             with_reducible rfl
            rotate_left
            ·simp only[Act.put,List.setIfInBounds_toArray,List.set_cons_zero,List.set_cons_succ,qay,qaz]
             rfl
            refine qbd (i:=4) (N:=some 43) (v:=?_) (a':=?_) #[true,false,true,false,true,false,false,false,false,false,false,false,false,false,false,false,false,false,false,false,false,false,false,false,false,false,false,false,false] rfl rfl (qba HT_.out (by kernel_rfl)) (fun _ _ _ h=>h) (Or.inl ⟨by rfl,?_⟩) ?_ ?_
            rotate_left
            ·intro w'
             go_simp
             with_reducible rfl
            rotate_left
            ·simp only[Act.put,List.setIfInBounds_toArray,List.set_cons_zero,List.set_cons_succ,qay,qaz]
             rfl
            refine qbd (i:=5) (N:=some 44) (v:=?_) (a':=?_) #[true,false,true,false,true,true,false,false,false,false,false,false,false,false,false,false,false,false,false,false,false,false,false,false,false,false,false,false,false] rfl rfl (qba HT_.out (by kernel_rfl)) (fun _ _ _ h=>h) (Or.inl ⟨by rfl,?_⟩) ?_ ?_
            rotate_left
            ·intro w'
             go_simp
             with_reducible rfl
            rotate_left
            ·simp only[Act.put,List.setIfInBounds_toArray,List.set_cons_zero,List.set_cons_succ,qay,qaz]
             rfl
            refine take_ (i:=1) (N:=some 40) (v:=?_) (a':=?_) #[true,true,true,false,true,true,false,false,false,false,false,false,false,false,false,false,false,false,false,false,false,false,false,false,false,false,false,false,false] rfl rfl (take_ofW HT_.out HW_.out (by kernel_rfl)) (fun _ _ _ h=>h) (Or.inl ⟨by rfl,?_⟩) hHeld ?_ ?_
            rotate_left
            ·rintro w' ⟨s0,s1⟩
             go_simp
             with_reducible rfl
            rotate_left
            ·simp only[Act.put,List.setIfInBounds_toArray,List.set_cons_zero,List.set_cons_succ,qay,qaz]
             rfl
            refine qbd (i:=3) (N:=some 42) (v:=?_) (a':=?_) #[true,true,true,true,true,true,false,false,false,false,false,false,false,false,false,false,false,false,false,false,false,false,false,false,false,false,false,false,false] rfl rfl (qba HT_.out (by kernel_rfl)) (fun _ _ _ h=>h) (Or.inl ⟨by rfl,?_⟩) ?_ ?_
            rotate_left
            ·intro w'
             go_simp
             with_reducible rfl
            rotate_left
            ·simp only[Act.put,List.setIfInBounds_toArray,List.set_cons_zero,List.set_cons_succ,qay,qaz]
             rfl
            refine take_ (i:=6) (N:=some 45) (v:=?_) (a':=?_) #[true,true,true,true,true,true,true,false,false,false,false,false,false,false,false,false,false,false,false,false,false,false,false,false,false,false,false,false,false] rfl rfl (take_ofW HT_.out HW_.out (by kernel_rfl)) (fun _ _ _ h=>h) (Or.inl ⟨by rfl,?_⟩) hHeld ?_ ?_
            rotate_left
            ·rintro w' ⟨s0,s1⟩
             go_simp
             with_reducible rfl
            rotate_left
            ·simp only[Act.put,List.setIfInBounds_toArray,List.set_cons_zero,List.set_cons_succ,qay,qaz]
             rfl
            refine qbd (i:=7) (N:=some 46) (v:=?_) (a':=?_) #[true,true,true,true,true,true,true,true,false,false,false,false,false,false,false,false,false,false,false,false,false,false,false,false,false,false,false,false,false] rfl rfl (qba HT_.out (by kernel_rfl)) (fun _ _ _ h=>h) (Or.inl ⟨by rfl,?_⟩) ?_ ?_
            rotate_left
            ·intro w'
             go_simp
             with_reducible rfl
            rotate_left
            ·simp only[Act.put,List.setIfInBounds_toArray,List.set_cons_zero,List.set_cons_succ,qay,qaz]
             rfl
            refine qbd (i:=8) (N:=some 47) (v:=?_) (a':=?_) #[true,true,true,true,true,true,true,true,true,false,false,false,false,false,false,false,false,false,false,false,false,false,false,false,false,false,false,false,false] rfl rfl (qba HT_.out (by kernel_rfl)) (fun _ _ _ h=>h) (Or.inl ⟨by rfl,?_⟩) ?_ ?_
            rotate_left
            ·intro w'
             go_simp
             with_reducible rfl
            rotate_left
            ·simp only[Act.put,List.setIfInBounds_toArray,List.set_cons_zero,List.set_cons_succ,qay,qaz]
             rfl
            refine one_ (i:=9) (N:=some 48) #[true,true,true,true,true,true,true,true,true,true,false,false,false,false,false,false,false,false,false,false,false,false,false,false,false,false,false,false,false] rfl rfl (one_of HT_.out (by kernel_rfl)) (by decide) (fun K hK=>?_)
            refine goes_ Try.func42 (by kernel_rfl) rfl #[.agg #[.slice Ao11 y606.length co11,.int .i64 ji28]] (by rfl) rfl rfl (by(try simp only[List.map_toArray,List.map_cons,List.map_nil]);first|done|(simp only[hji28];rfl)|rfl|(simp only[List.length_drop,List.length_take];rfl)) ?_
            with_reducible refine(impl_LogOk.calls _ _ y606 ji28 true _ ?side1 ?side2 A29.out).mono ?_
            (case side1=>repeat(first|exact(Kd.V_reads' HO610.out).2.2|(with_reducible refine Kd.C_alloc ?_ _)|(with_reducible refine Kd.C_drewN ?_ _)|(with_reducible refine Kd.C_drew ?_)))
            (case side2=>exact(Kd.V_reads' HO610.out).2.1)
            rintro e w38 ⟨rfl,hb⟩
            refine⟨_,rfl,?_⟩
            have n0_:=qbb.mk (Kd.N_below (by(with_reducible repeat(first|apply Kd.N_alloc|apply Kd.N_drewN|apply Kd.N_drew));exact HO_603000.out) hb)
            have n1_:=qbb.mk (Kd.V_below (by(with_reducible repeat(first|apply Kd.V_alloc|apply Kd.V_drewN|apply Kd.V_drew));exact HO610.out) hb)
            have n2_:=qbb.mk (qal (g:=gb602) (o:=.cells #[.slice Ao11 t598.length co11,.int .i64 t601] 68 (0,0)) (by(with_reducible repeat(first|refine qae ?_ _|refine qaf ?_|refine qad ?_ _));exact BK602.out) hb)
            have n3_:=qbb.mk (qak (by repeat(first|(with_reducible first|exact HB.out|apply qac|apply qaa|apply qab|refine qag ?_ GE602.out)|exact HB.out)) hb)
            clear HO_603000
            clear HO610
            clear BK602
            clear HB
            have HO_603000:=n0_
            have HO610:=n1_
            have BK602:=n2_
            have HB:=n3_
            clear n0_ n1_ n2_ n3_
            (try clear hb)
            (try clear hb2)
            (try clear hk)
            (try clear hi)
            refine hK.out _ _ ⟨(qai BK602.out 0).trans rfl,(qai BK602.out 1).trans rfl⟩ (fun hHeld=>?_)
            clear hK K
            refine norm_ (a':=?_) ?_ ?_
            rotate_left
            ·show Act.put _ (some 48) _=_
             simp only[Act.put,List.setIfInBounds_toArray,List.set_cons_zero,List.set_cons_succ,qay,qaz]
             rfl
            refine qbd (i:=10) (N:=some 49) (v:=?_) (a':=?_) #[true,true,true,true,true,true,true,true,true,true,true,false,false,false,false,false,false,false,false,false,false,false,false,false,false,false,false,false,false] rfl rfl (qba HT_.out (by kernel_rfl)) (fun _ _ _ h=>h) (Or.inl ⟨by rfl,?_⟩) ?_ ?_
            rotate_left
            ·intro w'
             go_simp
             with_reducible rfl
            rotate_left
            ·simp only[Act.put,List.setIfInBounds_toArray,List.set_cons_zero,List.set_cons_succ,qay,qaz]
             rfl
            refine qbd (i:=11) (N:=some 50) (v:=?_) (a':=?_) #[true,true,true,true,true,true,true,true,true,true,true,true,false,false,false,false,false,false,false,false,false,false,false,false,false,false,false,false,false] rfl rfl (qba HT_.out (by kernel_rfl)) (fun _ _ _ h=>h) (Or.inl ⟨by rfl,?_⟩) ?_ ?_
            rotate_left
            ·intro w'
             go_simp
             with_reducible rfl
            rotate_left
            ·simp only[Act.put,List.setIfInBounds_toArray,List.set_cons_zero,List.set_cons_succ,qay,qaz]
             rfl
            refine qbd (i:=13) (N:=some 52) (v:=?_) (a':=?_) #[true,true,true,true,true,true,true,true,true,true,true,true,false,true,false,false,false,false,false,false,false,false,false,false,false,false,false,false,false] rfl rfl (qba HT_.out (by kernel_rfl)) (fun _ _ _ h=>h) (Or.inl ⟨by rfl,?_⟩) ?_ ?_
            rotate_left
            ·intro w'
             go_simp
             with_reducible rfl
            rotate_left
            ·simp only[Act.put,List.setIfInBounds_toArray,List.set_cons_zero,List.set_cons_succ,qay,qaz]
             rfl
            refine qbd (i:=15) (N:=some 54) (v:=?_) (a':=?_) #[true,true,true,true,true,true,true,true,true,true,true,true,false,true,false,true,false,false,false,false,false,false,false,false,false,false,false,false,false] rfl rfl (qba HT_.out (by kernel_rfl)) (fun _ _ _ h=>h) (Or.inl ⟨by rfl,?_⟩) ?_ ?_
            rotate_left
            ·intro w'
             go_simp
             with_reducible rfl
            rotate_left
            ·simp only[Act.put,List.setIfInBounds_toArray,List.set_cons_zero,List.set_cons_succ,qay,qaz]
             rfl
            refine qbd (i:=16) (N:=some 55) (v:=?_) (a':=?_) #[true,true,true,true,true,true,true,true,true,true,true,true,false,true,false,true,true,false,false,false,false,false,false,false,false,false,false,false,false] rfl rfl (qba HT_.out (by kernel_rfl)) (fun _ _ _ h=>h) (Or.inl ⟨by rfl,?_⟩) ?_ ?_
            rotate_left
            ·intro w'
             go_simp
             with_reducible rfl
            rotate_left
            ·simp only[Act.put,List.setIfInBounds_toArray,List.set_cons_zero,List.set_cons_succ,qay,qaz]
             rfl
            refine take_ (i:=12) (N:=some 51) (v:=?_) (a':=?_) #[true,true,true,true,true,true,true,true,true,true,true,true,true,true,false,true,true,false,false,false,false,false,false,false,false,false,false,false,false] rfl rfl (take_ofW HT_.out HW_.out (by kernel_rfl)) (fun _ _ _ h=>h) (Or.inl ⟨by rfl,?_⟩) hHeld ?_ ?_
            rotate_left
            ·rintro w' ⟨s0,s1⟩
             go_simp
             with_reducible rfl
            rotate_left
            ·simp only[Act.put,List.setIfInBounds_toArray,List.set_cons_zero,List.set_cons_succ,qay,qaz]
             rfl
            refine qbd (i:=14) (N:=some 53) (v:=?_) (a':=?_) #[true,true,true,true,true,true,true,true,true,true,true,true,true,true,true,true,true,false,false,false,false,false,false,false,false,false,false,false,false] rfl rfl (qba HT_.out (by kernel_rfl)) (fun _ _ _ h=>h) (Or.inl ⟨by rfl,?_⟩) ?_ ?_
            rotate_left
            ·intro w'
             go_simp
             with_reducible rfl
            rotate_left
            ·simp only[Act.put,List.setIfInBounds_toArray,List.set_cons_zero,List.set_cons_succ,qay,qaz]
             rfl
            refine qbd (i:=17) (N:=some 56) (v:=?_) (a':=?_) #[true,true,true,true,true,true,true,true,true,true,true,true,true,true,true,true,true,true,false,false,false,false,false,false,false,false,false,false,false] rfl rfl (qba HT_.out (by kernel_rfl)) (fun _ _ _ h=>h) (Or.inl ⟨by rfl,?_⟩) ?_ ?_
            rotate_left
            ·intro w'
             go_simp
             with_reducible rfl
            rotate_left
            ·simp only[Act.put,List.setIfInBounds_toArray,List.set_cons_zero,List.set_cons_succ,qay,qaz]
             rfl
            refine one_ (i:=18) (N:=some 57) #[true,true,true,true,true,true,true,true,true,true,true,true,true,true,true,true,true,true,true,false,false,false,false,false,false,false,false,false,false] rfl rfl (one_of HT_.out (by kernel_rfl)) (by decide) (fun K hK=>?_)
            refine goes_ Try.func42 (by kernel_rfl) rfl #[.agg #[.slice Ao11 y606.length co11,.int .i64 (wrap64 ((ji25)+1))]] (by rfl) rfl rfl (by(try simp only[List.map_toArray,List.map_cons,List.map_nil]);first|done|(simp only[hji25];rfl)|rfl|(simp only[List.length_drop,List.length_take];rfl)) ?_
            with_reducible refine(impl_LogOk.calls _ _ y606 (wrap64 ((ji25)+1)) true _ ?side1 ?side2 A33.out).mono ?_
            (case side1=>repeat(first|exact(Kd.V_reads' HO610.out).2.2|(with_reducible refine Kd.C_alloc ?_ _)|(with_reducible refine Kd.C_drewN ?_ _)|(with_reducible refine Kd.C_drew ?_)))
            (case side2=>exact(Kd.V_reads' HO610.out).2.1)
            rintro e w39 ⟨rfl,hb⟩
            refine⟨_,rfl,?_⟩
            have n0_:=qbb.mk (Kd.N_below (by(with_reducible repeat(first|apply Kd.N_alloc|apply Kd.N_drewN|apply Kd.N_drew));exact HO_603000.out) hb)
            have n1_:=qbb.mk (Kd.V_below (by(with_reducible repeat(first|apply Kd.V_alloc|apply Kd.V_drewN|apply Kd.V_drew));exact HO610.out) hb)
            have n2_:=qbb.mk (qal (g:=gb602) (o:=.cells #[.slice Ao11 t598.length co11,.int .i64 t601] 68 (0,0)) (by(with_reducible repeat(first|refine qae ?_ _|refine qaf ?_|refine qad ?_ _));exact BK602.out) hb)
            have n3_:=qbb.mk (qak (by repeat(first|(with_reducible first|exact HB.out|apply qac|apply qaa|apply qab|refine qag ?_ GE602.out)|exact HB.out)) hb)
            clear HO_603000
            clear HO610
            clear BK602
            clear HB
            have HO_603000:=n0_
            have HO610:=n1_
            have BK602:=n2_
            have HB:=n3_
            clear n0_ n1_ n2_ n3_
            (try clear hb)
            (try clear hb2)
            (try clear hk)
            (try clear hi)
            refine hK.out _ _ ⟨(qai BK602.out 0).trans rfl,(qai BK602.out 1).trans rfl⟩ (fun hHeld=>?_)
            clear hK K
            refine norm_ (a':=?_) ?_ ?_
            rotate_left
            ·show Act.put _ (some 57) _=_
             simp only[Act.put,List.setIfInBounds_toArray,List.set_cons_zero,List.set_cons_succ,qay,qaz]
             rfl
            refine qbd (i:=19) (N:=some 58) (v:=?_) (a':=?_) #[true,true,true,true,true,true,true,true,true,true,true,true,true,true,true,true,true,true,true,true,false,false,false,false,false,false,false,false,false] rfl rfl (qba HT_.out (by kernel_rfl)) (fun _ _ _ h=>h) (Or.inl ⟨by rfl,?_⟩) ?_ ?_
            rotate_left
            ·intro w'
             go_simp
             with_reducible rfl
            rotate_left
            ·simp only[Act.put,List.setIfInBounds_toArray,List.set_cons_zero,List.set_cons_succ,qay,qaz]
             rfl
            refine qbd (i:=20) (N:=some 59) (v:=?_) (a':=?_) #[true,true,true,true,true,true,true,true,true,true,true,true,true,true,true,true,true,true,true,true,true,false,false,false,false,false,false,false,false] rfl rfl (qba HT_.out (by kernel_rfl)) (fun _ _ _ h=>h) (Or.inl ⟨by rfl,?_⟩) ?_ ?_
            rotate_left
            ·intro w'
             go_simp
             with_reducible rfl
            rotate_left
            ·simp only[Act.put,List.setIfInBounds_toArray,List.set_cons_zero,List.set_cons_succ,qay,qaz]
             rfl
            refine qbd (i:=21) (N:=some 60) (v:=?_) (a':=?_) #[true,true,true,true,true,true,true,true,true,true,true,true,true,true,true,true,true,true,true,true,true,true,false,false,false,false,false,false,false] rfl rfl (qba HT_.out (by kernel_rfl)) (fun _ _ _ h=>h) (Or.inl ⟨by rfl,?_⟩) ?_ ?_
            rotate_left
            ·intro w'
             go_simp
             with_reducible rfl
            rotate_left
            ·simp only[Act.put,List.setIfInBounds_toArray,List.set_cons_zero,List.set_cons_succ,qay,qaz]
             rfl
            refine qbd (i:=22) (N:=some 61) (v:=undef) (a':=?_) #[true,true,true,true,true,true,true,true,true,true,true,true,true,true,true,true,true,true,true,true,true,true,true,false,false,false,false,false,false] rfl rfl (qba HT_.out (by kernel_rfl)) (fun _ _ _ h=>h) (Or.inr ⟨by rfl,rfl⟩) ?_ ?_
            rotate_left
            ·simp only[Act.put,List.setIfInBounds_toArray,List.set_cons_zero,List.set_cons_succ,qay,qaz]
             rfl
            refine qbd (i:=23) (N:=some 62) (v:=undef) (a':=?_) #[true,true,true,true,true,true,true,true,true,true,true,true,true,true,true,true,true,true,true,true,true,true,true,true,false,false,false,false,false] rfl rfl (qba HT_.out (by kernel_rfl)) (fun _ _ _ h=>h) (Or.inr ⟨by rfl,rfl⟩) ?_ ?_
            rotate_left
            ·simp only[Act.put,List.setIfInBounds_toArray,List.set_cons_zero,List.set_cons_succ,qay,qaz]
             rfl
            refine qbd (i:=24) (N:=some 63) (v:=undef) (a':=?_) #[true,true,true,true,true,true,true,true,true,true,true,true,true,true,true,true,true,true,true,true,true,true,true,true,true,false,false,false,false] rfl rfl (qba HT_.out (by kernel_rfl)) (fun _ _ _ h=>h) (Or.inr ⟨by rfl,rfl⟩) ?_ ?_
            rotate_left
            ·simp only[Act.put,List.setIfInBounds_toArray,List.set_cons_zero,List.set_cons_succ,qay,qaz]
             rfl
            refine qbd (i:=25) (N:=some 64) (v:=undef) (a':=?_) #[true,true,true,true,true,true,true,true,true,true,true,true,true,true,true,true,true,true,true,true,true,true,true,true,true,true,false,false,false] rfl rfl (qba HT_.out (by kernel_rfl)) (fun _ _ _ h=>h) (Or.inr ⟨by rfl,rfl⟩) ?_ ?_
            rotate_left
            ·simp only[Act.put,List.setIfInBounds_toArray,List.set_cons_zero,List.set_cons_succ,qay,qaz]
             rfl
            refine qbd (i:=26) (N:=some 65) (v:=undef) (a':=?_) #[true,true,true,true,true,true,true,true,true,true,true,true,true,true,true,true,true,true,true,true,true,true,true,true,true,true,true,false,false] rfl rfl (qba HT_.out (by kernel_rfl)) (fun _ _ _ h=>h) (Or.inr ⟨by rfl,rfl⟩) ?_ ?_
            rotate_left
            ·simp only[Act.put,List.setIfInBounds_toArray,List.set_cons_zero,List.set_cons_succ,qay,qaz]
             rfl
            refine qbd (i:=27) (N:=some 66) (v:=?_) (a':=?_) #[true,true,true,true,true,true,true,true,true,true,true,true,true,true,true,true,true,true,true,true,true,true,true,true,true,true,true,true,false] rfl rfl (qba HT_.out (by kernel_rfl)) (fun _ _ _ h=>h) (Or.inl ⟨by rfl,?_⟩) ?_ ?_
            rotate_left
            ·intro w'
             go_simp
             with_reducible rfl
            rotate_left
            ·simp only[Act.put,List.setIfInBounds_toArray,List.set_cons_zero,List.set_cons_succ,qay,qaz]
             rfl
            refine qbd (i:=28) (N:=some 4) (v:=?_) (a':=?_) #[true,true,true,true,true,true,true,true,true,true,true,true,true,true,true,true,true,true,true,true,true,true,true,true,true,true,true,true,true] rfl rfl (qba HT_.out (by kernel_rfl)) (fun _ _ _ h=>h) (Or.inl ⟨by rfl,?_⟩) ?_ ?_
            rotate_left
            ·intro w'
             go_simp
             with_reducible rfl
            rotate_left
            ·simp only[Act.put,List.setIfInBounds_toArray,List.set_cons_zero,List.set_cons_succ,qay,qaz]
             rfl
            refine done_ (done_of HT_.out (by kernel_rfl)) ?_
            try go_wp2
            go_ret
            exact⟨by first|rfl|(simp[qan,qam]<;>rfl)|(simp only[←hji25,←hji28];first|rfl|(simp[qan,qam]<;>rfl))|(simp[*,qan,qam]<;>rfl),by repeat(first|(with_reducible first|exact HB.out|apply qac|apply qaa|apply qab|refine qag ?_ GE602.out)|exact HB.out)⟩
           ·replace c34:=Bool.eq_false_iff.mpr c34
            subst c34
            have H1:((impl_LogOk.f t598 (-1)).bind fun t618=>(some (!t618)))=some r:=by rw[if_neg (show ¬(false=true) by decide)] at H;exact H
            clear H
            have H:=H1
            clear H1
            replace H:=Option.bind_eq_some_iff.mp H
            obtain⟨t618,A400,H⟩:=H
            replace H:(some (!t618))=some r:=H
            have A40:=qbb.mk A400
            clear A400
            obtain rfl:=Option.some.inj H
            have hcz41_0:wc.cell? ⟨gb602,0,none⟩=some (.slice Ao11 t598.length co11):=(qai BK602.out 0).trans rfl
            have hcz41_1:wc.cell? ⟨gb602,1,none⟩=some (.int .i64 t601):=(qai BK602.out 1).trans rfl
            have hfz41_0:=qah BK602.out 0
            have hfz41_1:=qah BK602.out 1
            try go_wp2
            have n0_:=qbb.mk (Kd.N_drew HO_603000.out)
            have n1_:=qbb.mk (qaf BK602.out)
            have n2_:=qbb.mk (qab HB.out)
            clear HO_603000
            clear BK602
            clear HB
            have HO_603000:=n0_
            have BK602:=n1_
            have HB:=n2_
            clear n0_ n1_ n2_
            have q43:((ji25):Int)≤((t598.length:Int):Int):=of_decide_eq_true (by first|(with_reducible assumption)|assumption)
            obtain⟨i043,hi043,_,hsz43,_⟩:=info_parts info45
            have hroom43:t598.length≤co11:=(Kd.N_reads' HO_603000.out).2.1
            have hC43:Kd.F k45 _ _ Ao11 t598.length t598:=(Kd.V_at (base:=w.heap.size) (Kd.N_V HO_603000.out)).2.2
            have hcut43:=cut_to (P:=Try.prog) 66 45 .i64 Try.underlying66 hi043 Ao11 t598.length co11 (ji25) (of_decide_eq_true (by first|(with_reducible assumption)|assumption)) q43 hroom43
            have hr43:=Kd.F_take (m:=((ji25):Int).toNat) hC43 (by omega)
            have hy43:y606.length=((ji25):Int).toNat:=(by rw[Ny606.out,List.length_take];omega)
            rw[←Ny606.out] at hr43
            rw[←hy43] at hcut43
            have HO610:=qbb.mk (show Kd.V k45 45 _ w.heap.size _ (.slice Ao11 y606.length co11) y606 from Kd.V_mk (by omega) hr43)
            have HC610:=qbb.mk (show y606.length≤co11 from by omega)
            clear hr43 hC43 hroom43 hi043 hsz43
            have KY43:=qbb.mk hy43
            clear hy43
            replace q43:=eq_true q43
            refine start_ (n:=29) (S:=fun w'=>w'.cell? ⟨gb602,0,none⟩=some (.slice Ao11 t598.length co11)∧w'.cell? ⟨gb602,1,none⟩=some (.int .i64 t601)) (ds:=[]) #[false,false,false,false,false,false,false,false,false,false,false,false,false,false,false,false,false,false,false,false,false,false,false,false,false,false,false,false,false] (by kernel_rfl) rfl rfl ⟨(qai BK602.out 0).trans rfl,(qai BK602.out 1).trans rfl⟩ (fun hHeld=>?_);refine with_tabW laws_FnLogLess.tab8 laws_FnLogLess.bits8 (fun HT_ HW_=>?_)
            generalize wc.drew=w42 at HO_603000 BK602 HB HO610 hHeld ⊢
            refine qbd (i:=0) (N:=some 39) (v:=?_) (a':=?_) #[true,false,false,false,false,false,false,false,false,false,false,false,false,false,false,false,false,false,false,false,false,false,false,false,false,false,false,false,false] rfl rfl (qba HT_.out (by kernel_rfl)) (fun _ _ _ h=>h) (Or.inl ⟨by rfl,?_⟩) ?_ ?_
            rotate_left
            ·intro w'
             go_simp
             with_reducible rfl
            rotate_left
            ·simp only[Act.put,List.setIfInBounds_toArray,List.set_cons_zero,List.set_cons_succ,qay,qaz]
             rfl
            refine qbd (i:=2) (N:=some 41) (v:=?_) (a':=?_) #[true,false,true,false,false,false,false,false,false,false,false,false,false,false,false,false,false,false,false,false,false,false,false,false,false,false,false,false,false] rfl rfl (qba HT_.out (by kernel_rfl)) (fun _ _ _ h=>h) (Or.inl ⟨by rfl,?_⟩) ?_ ?_
            rotate_left
            ·intro w'
             go_simp
             with_reducible rfl
            rotate_left
            ·simp only[Act.put,List.setIfInBounds_toArray,List.set_cons_zero,List.set_cons_succ,qay,qaz]
             rfl
            refine qbd (i:=4) (N:=some 43) (v:=?_) (a':=?_) #[true,false,true,false,true,false,false,false,false,false,false,false,false,false,false,false,false,false,false,false,false,false,false,false,false,false,false,false,false] rfl rfl (qba HT_.out (by kernel_rfl)) (fun _ _ _ h=>h) (Or.inl ⟨by rfl,?_⟩) ?_ ?_
            rotate_left
            ·intro w'
             go_simp
             with_reducible rfl
            rotate_left
            ·simp only[Act.put,List.setIfInBounds_toArray,List.set_cons_zero,List.set_cons_succ,qay,qaz]
             rfl
            refine qbd (i:=5) (N:=some 44) (v:=?_) (a':=?_) #[true,false,true,false,true,true,false,false,false,false,false,false,false,false,false,false,false,false,false,false,false,false,false,false,false,false,false,false,false] rfl rfl (qba HT_.out (by kernel_rfl)) (fun _ _ _ h=>h) (Or.inl ⟨by rfl,?_⟩) ?_ ?_
            rotate_left
            ·intro w'
             go_simp
             with_reducible rfl
            rotate_left
            ·simp only[Act.put,List.setIfInBounds_toArray,List.set_cons_zero,List.set_cons_succ,qay,qaz]
             rfl
            refine take_ (i:=1) (N:=some 40) (v:=?_) (a':=?_) #[true,true,true,false,true,true,false,false,false,false,false,false,false,false,false,false,false,false,false,false,false,false,false,false,false,false,false,false,false] rfl rfl (take_ofW HT_.out HW_.out (by kernel_rfl)) (fun _ _ _ h=>h) (Or.inl ⟨by rfl,?_⟩) hHeld ?_ ?_
            rotate_left
            ·rintro w' ⟨s0,s1⟩
             go_simp
             with_reducible rfl
            rotate_left
            ·simp only[Act.put,List.setIfInBounds_toArray,List.set_cons_zero,List.set_cons_succ,qay,qaz]
             rfl
            refine qbd (i:=3) (N:=some 42) (v:=?_) (a':=?_) #[true,true,true,true,true,true,false,false,false,false,false,false,false,false,false,false,false,false,false,false,false,false,false,false,false,false,false,false,false] rfl rfl (qba HT_.out (by kernel_rfl)) (fun _ _ _ h=>h) (Or.inl ⟨by rfl,?_⟩) ?_ ?_
            rotate_left
            ·intro w'
             go_simp
             with_reducible rfl
            rotate_left
            ·simp only[Act.put,List.setIfInBounds_toArray,List.set_cons_zero,List.set_cons_succ,qay,qaz]
             rfl
            refine take_ (i:=6) (N:=some 45) (v:=?_) (a':=?_) #[true,true,true,true,true,true,true,false,false,false,false,false,false,false,false,false,false,false,false,false,false,false,false,false,false,false,false,false,false] rfl rfl (take_ofW HT_.out HW_.out (by kernel_rfl)) (fun _ _ _ h=>h) (Or.inl ⟨by rfl,?_⟩) hHeld ?_ ?_
            rotate_left
            ·rintro w' ⟨s0,s1⟩
             go_simp
             with_reducible rfl
            rotate_left
            ·simp only[Act.put,List.setIfInBounds_toArray,List.set_cons_zero,List.set_cons_succ,qay,qaz]
             rfl
            refine qbd (i:=7) (N:=some 46) (v:=?_) (a':=?_) #[true,true,true,true,true,true,true,true,false,false,false,false,false,false,false,false,false,false,false,false,false,false,false,false,false,false,false,false,false] rfl rfl (qba HT_.out (by kernel_rfl)) (fun _ _ _ h=>h) (Or.inl ⟨by rfl,?_⟩) ?_ ?_
            rotate_left
            ·intro w'
             go_simp
             with_reducible rfl
            rotate_left
            ·simp only[Act.put,List.setIfInBounds_toArray,List.set_cons_zero,List.set_cons_succ,qay,qaz]
             rfl
            refine qbd (i:=8) (N:=some 47) (v:=?_) (a':=?_) #[true,true,true,true,true,true,true,true,true,false,false,false,false,false,false,false,false,false,false,false,false,false,false,false,false,false,false,false,false] rfl rfl (qba HT_.out (by kernel_rfl)) (fun _ _ _ h=>h) (Or.inl ⟨by rfl,?_⟩) ?_ ?_
            rotate_left
            ·intro w'
             go_simp
             with_reducible rfl
            rotate_left
            ·simp only[Act.put,List.setIfInBounds_toArray,List.set_cons_zero,List.set_cons_succ,qay,qaz]
             rfl
            refine one_ (i:=9) (N:=some 48) #[true,true,true,true,true,true,true,true,true,true,false,false,false,false,false,false,false,false,false,false,false,false,false,false,false,false,false,false,false] rfl rfl (one_of HT_.out (by kernel_rfl)) (by decide) (fun K hK=>?_)
            refine goes_ Try.func42 (by kernel_rfl) rfl #[.agg #[.slice Ao11 y606.length co11,.int .i64 ji28]] (by rfl) rfl rfl (by(try simp only[List.map_toArray,List.map_cons,List.map_nil]);first|done|(simp only[hji28];rfl)|rfl|(simp only[List.length_drop,List.length_take];rfl)) ?_
            with_reducible refine(impl_LogOk.calls _ _ y606 ji28 true _ ?side1 ?side2 A29.out).mono ?_
            (case side1=>repeat(first|exact(Kd.V_reads' HO610.out).2.2|(with_reducible refine Kd.C_alloc ?_ _)|(with_reducible refine Kd.C_drewN ?_ _)|(with_reducible refine Kd.C_drew ?_)))
            (case side2=>exact(Kd.V_reads' HO610.out).2.1)
            rintro e w44 ⟨rfl,hb⟩
            refine⟨_,rfl,?_⟩
            have n0_:=qbb.mk (Kd.N_below (by(with_reducible repeat(first|apply Kd.N_alloc|apply Kd.N_drewN|apply Kd.N_drew));exact HO_603000.out) hb)
            have n1_:=qbb.mk (Kd.V_below (by(with_reducible repeat(first|apply Kd.V_alloc|apply Kd.V_drewN|apply Kd.V_drew));exact HO610.out) hb)
            have n2_:=qbb.mk (qal (g:=gb602) (o:=.cells #[.slice Ao11 t598.length co11,.int .i64 t601] 68 (0,0)) (by(with_reducible repeat(first|refine qae ?_ _|refine qaf ?_|refine qad ?_ _));exact BK602.out) hb)
            have n3_:=qbb.mk (qak (by repeat(first|(with_reducible first|exact HB.out|apply qac|apply qaa|apply qab|refine qag ?_ GE602.out)|exact HB.out)) hb)
            clear HO_603000
            clear HO610
            clear BK602
            clear HB
            have HO_603000:=n0_
            have HO610:=n1_
            have BK602:=n2_
            have HB:=n3_
            clear n0_ n1_ n2_ n3_
            (try clear hb)
            (try clear hb2)
            (try clear hk)
            (try clear hi)
            refine hK.out _ _ ⟨(qai BK602.out 0).trans rfl,(qai BK602.out 1).trans rfl⟩ (fun hHeld=>?_)
            clear hK K
            refine norm_ (a':=?_) ?_ ?_
            rotate_left
            ·show Act.put _ (some 48) _=_
             simp only[Act.put,List.setIfInBounds_toArray,List.set_cons_zero,List.set_cons_succ,qay,qaz]
             rfl
            refine qbd (i:=10) (N:=some 49) (v:=?_) (a':=?_) #[true,true,true,true,true,true,true,true,true,true,true,false,false,false,false,false,false,false,false,false,false,false,false,false,false,false,false,false,false] rfl rfl (qba HT_.out (by kernel_rfl)) (fun _ _ _ h=>h) (Or.inl ⟨by rfl,?_⟩) ?_ ?_
            rotate_left
            ·intro w'
             go_simp
             with_reducible rfl
            rotate_left
            ·simp only[Act.put,List.setIfInBounds_toArray,List.set_cons_zero,List.set_cons_succ,qay,qaz]
             rfl
            refine qbd (i:=11) (N:=some 50) (v:=?_) (a':=?_) #[true,true,true,true,true,true,true,true,true,true,true,true,false,false,false,false,false,false,false,false,false,false,false,false,false,false,false,false,false] rfl rfl (qba HT_.out (by kernel_rfl)) (fun _ _ _ h=>h) (Or.inl ⟨by rfl,?_⟩) ?_ ?_
            rotate_left
            ·intro w'
             go_simp
             with_reducible rfl
            rotate_left
            ·simp only[Act.put,List.setIfInBounds_toArray,List.set_cons_zero,List.set_cons_succ,qay,qaz]
             rfl
            refine qbd (i:=13) (N:=some 52) (v:=?_) (a':=?_) #[true,true,true,true,true,true,true,true,true,true,true,true,false,true,false,false,false,false,false,false,false,false,false,false,false,false,false,false,false] rfl rfl (qba HT_.out (by kernel_rfl)) (fun _ _ _ h=>h) (Or.inl ⟨by rfl,?_⟩) ?_ ?_
            rotate_left
            ·intro w'
             go_simp
             with_reducible rfl
            rotate_left
            ·simp only[Act.put,List.setIfInBounds_toArray,List.set_cons_zero,List.set_cons_succ,qay,qaz]
             rfl
            refine qbd (i:=15) (N:=some 54) (v:=?_) (a':=?_) #[true,true,true,true,true,true,true,true,true,true,true,true,false,true,false,true,false,false,false,false,false,false,false,false,false,false,false,false,false] rfl rfl (qba HT_.out (by kernel_rfl)) (fun _ _ _ h=>h) (Or.inl ⟨by rfl,?_⟩) ?_ ?_
            rotate_left
            ·intro w'
             go_simp
             with_reducible rfl
            rotate_left
            ·simp only[Act.put,List.setIfInBounds_toArray,List.set_cons_zero,List.set_cons_succ,qay,qaz]
             rfl
            refine qbd (i:=16) (N:=some 55) (v:=?_) (a':=?_) #[true,true,true,true,true,true,true,true,true,true,true,true,false,true,false,true,true,false,false,false,false,false,false,false,false,false,false,false,false] rfl rfl (qba HT_.out (by kernel_rfl)) (fun _ _ _ h=>h) (Or.inl ⟨by rfl,?_⟩) ?_ ?_
            rotate_left
            ·intro w'
             go_simp
             with_reducible rfl
            rotate_left
            ·simp only[Act.put,List.setIfInBounds_toArray,List.set_cons_zero,List.set_cons_succ,qay,qaz]
             rfl
            refine take_ (i:=12) (N:=some 51) (v:=?_) (a':=?_) #[true,true,true,true,true,true,true,true,true,true,true,true,true,true,false,true,true,false,false,false,false,false,false,false,false,false,false,false,false] rfl rfl (take_ofW HT_.out HW_.out (by kernel_rfl)) (fun _ _ _ h=>h) (Or.inl ⟨by rfl,?_⟩) hHeld ?_ ?_
            rotate_left
            ·rintro w' ⟨s0,s1⟩
             go_simp
             with_reducible rfl
            rotate_left
            ·simp only[Act.put,List.setIfInBounds_toArray,List.set_cons_zero,List.set_cons_succ,qay,qaz]
             rfl
            refine qbd (i:=14) (N:=some 53) (v:=?_) (a':=?_) #[true,true,true,true,true,true,true,true,true,true,true,true,true,true,true,true,true,false,false,false,false,false,false,false,false,false,false,false,false] rfl rfl (qba HT_.out (by kernel_rfl)) (fun _ _ _ h=>h) (Or.inl ⟨by rfl,?_⟩) ?_ ?_
            rotate_left
            ·intro w'
             go_simp
             with_reducible rfl
            rotate_left
            ·simp only[Act.put,List.setIfInBounds_toArray,List.set_cons_zero,List.set_cons_succ,qay,qaz]
             rfl
            refine qbd (i:=17) (N:=some 56) (v:=?_) (a':=?_) #[true,true,true,true,true,true,true,true,true,true,true,true,true,true,true,true,true,true,false,false,false,false,false,false,false,false,false,false,false] rfl rfl (qba HT_.out (by kernel_rfl)) (fun _ _ _ h=>h) (Or.inl ⟨by rfl,?_⟩) ?_ ?_
            rotate_left
            ·intro w'
             go_simp
             with_reducible rfl
            rotate_left
            ·simp only[Act.put,List.setIfInBounds_toArray,List.set_cons_zero,List.set_cons_succ,qay,qaz]
             rfl
            refine one_ (i:=18) (N:=some 57) #[true,true,true,true,true,true,true,true,true,true,true,true,true,true,true,true,true,true,true,false,false,false,false,false,false,false,false,false,false] rfl rfl (one_of HT_.out (by kernel_rfl)) (by decide) (fun K hK=>?_)
            refine goes_ Try.func42 (by kernel_rfl) rfl #[.agg #[.slice Ao11 y606.length co11,.int .i64 (wrap64 ((ji25)+1))]] (by rfl) rfl rfl (by(try simp only[List.map_toArray,List.map_cons,List.map_nil]);first|done|(simp only[hji25];rfl)|rfl|(simp only[List.length_drop,List.length_take];rfl)) ?_
            with_reducible refine(impl_LogOk.calls _ _ y606 (wrap64 ((ji25)+1)) false _ ?side1 ?side2 A33.out).mono ?_
            (case side1=>repeat(first|exact(Kd.V_reads' HO610.out).2.2|(with_reducible refine Kd.C_alloc ?_ _)|(with_reducible refine Kd.C_drewN ?_ _)|(with_reducible refine Kd.C_drew ?_)))
            (case side2=>exact(Kd.V_reads' HO610.out).2.1)
            rintro e w45 ⟨rfl,hb⟩
            refine⟨_,rfl,?_⟩
            have n0_:=qbb.mk (Kd.N_below (by(with_reducible repeat(first|apply Kd.N_alloc|apply Kd.N_drewN|apply Kd.N_drew));exact HO_603000.out) hb)
            have n1_:=qbb.mk (Kd.V_below (by(with_reducible repeat(first|apply Kd.V_alloc|apply Kd.V_drewN|apply Kd.V_drew));exact HO610.out) hb)
            have n2_:=qbb.mk (qal (g:=gb602) (o:=.cells #[.slice Ao11 t598.length co11,.int .i64 t601] 68 (0,0)) (by(with_reducible repeat(first|refine qae ?_ _|refine qaf ?_|refine qad ?_ _));exact BK602.out) hb)
            have n3_:=qbb.mk (qak (by repeat(first|(with_reducible first|exact HB.out|apply qac|apply qaa|apply qab|refine qag ?_ GE602.out)|exact HB.out)) hb)
            clear HO_603000
            clear HO610
            clear BK602
            clear HB
            have HO_603000:=n0_
            have HO610:=n1_
            have BK602:=n2_
            have HB:=n3_
            clear n0_ n1_ n2_ n3_
            (try clear hb)
            (try clear hb2)
            (try clear hk)
            (try clear hi)
            refine hK.out _ _ ⟨(qai BK602.out 0).trans rfl,(qai BK602.out 1).trans rfl⟩ (fun hHeld=>?_)
            clear hK K
            refine norm_ (a':=?_) ?_ ?_
            rotate_left
            ·show Act.put _ (some 57) _=_
             simp only[Act.put,List.setIfInBounds_toArray,List.set_cons_zero,List.set_cons_succ,qay,qaz]
             rfl
            refine qbd (i:=19) (N:=some 58) (v:=?_) (a':=?_) #[true,true,true,true,true,true,true,true,true,true,true,true,true,true,true,true,true,true,true,true,false,false,false,false,false,false,false,false,false] rfl rfl (qba HT_.out (by kernel_rfl)) (fun _ _ _ h=>h) (Or.inl ⟨by rfl,?_⟩) ?_ ?_
            rotate_left
            ·intro w'
             go_simp
             with_reducible rfl
            rotate_left
            ·simp only[Act.put,List.setIfInBounds_toArray,List.set_cons_zero,List.set_cons_succ,qay,qaz]
             rfl
            refine qbd (i:=20) (N:=some 59) (v:=?_) (a':=?_) #[true,true,true,true,true,true,true,true,true,true,true,true,true,true,true,true,true,true,true,true,true,false,false,false,false,false,false,false,false] rfl rfl (qba HT_.out (by kernel_rfl)) (fun _ _ _ h=>h) (Or.inl ⟨by rfl,?_⟩) ?_ ?_
            rotate_left
            ·intro w'
             go_simp
             with_reducible rfl
            rotate_left
            ·simp only[Act.put,List.setIfInBounds_toArray,List.set_cons_zero,List.set_cons_succ,qay,qaz]
             rfl
            refine qbd (i:=21) (N:=some 60) (v:=?_) (a':=?_) #[true,true,true,true,true,true,true,true,true,true,true,true,true,true,true,true,true,true,true,true,true,true,false,false,false,false,false,false,false] rfl rfl (qba HT_.out (by kernel_rfl)) (fun _ _ _ h=>h) (Or.inl ⟨by rfl,?_⟩) ?_ ?_
            rotate_left
            ·intro w'
             go_simp
             with_reducible rfl
            rotate_left
            ·simp only[Act.put,List.setIfInBounds_toArray,List.set_cons_zero,List.set_cons_succ,qay,qaz]
             rfl
            refine qbd (i:=22) (N:=some 61) (v:=?_) (a':=?_) #[true,true,true,true,true,true,true,true,true,true,true,true,true,true,true,true,true,true,true,true,true,true,true,false,false,false,false,false,false] rfl rfl (qba HT_.out (by kernel_rfl)) (fun _ _ _ h=>h) (Or.inl ⟨by rfl,?_⟩) ?_ ?_
            rotate_left
            ·intro w'
             go_simp
             with_reducible rfl
            rotate_left
            ·simp only[Act.put,List.setIfInBounds_toArray,List.set_cons_zero,List.set_cons_succ,qay,qaz]
             rfl
            refine take_ (i:=23) (N:=some 62) (v:=?_) (a':=?_) #[true,true,true,true,true,true,true,true,true,true,true,true,true,true,true,true,true,true,true,true,true,true,true,true,false,false,false,false,false] rfl rfl (take_ofW HT_.out HW_.out (by kernel_rfl)) (fun _ _ _ h=>h) (Or.inl ⟨by rfl,?_⟩) hHeld ?_ ?_
            rotate_left
            ·rintro w' ⟨s0,s1⟩
             go_simp
             with_reducible rfl
            rotate_left
            ·simp only[Act.put,List.setIfInBounds_toArray,List.set_cons_zero,List.set_cons_succ,qay,qaz]
             rfl
            refine qbd (i:=24) (N:=some 63) (v:=?_) (a':=?_) #[true,true,true,true,true,true,true,true,true,true,true,true,true,true,true,true,true,true,true,true,true,true,true,true,true,false,false,false,false] rfl rfl (qba HT_.out (by kernel_rfl)) (fun _ _ _ h=>h) (Or.inl ⟨by rfl,?_⟩) ?_ ?_
            rotate_left
            ·intro w'
             go_simp
             with_reducible rfl
            rotate_left
            ·simp only[Act.put,List.setIfInBounds_toArray,List.set_cons_zero,List.set_cons_succ,qay,qaz]
             rfl
            refine one_ (i:=25) (N:=some 64) #[true,true,true,true,true,true,true,true,true,true,true,true,true,true,true,true,true,true,true,true,true,true,true,true,true,true,false,false,false] rfl rfl (one_of HT_.out (by kernel_rfl)) (by decide) (fun K hK=>?_)
            refine goes_ Try.func42 (by kernel_rfl) rfl #[.agg #[.slice Ao11 t598.length co11,.int .i64 (-1)]] (by rfl) rfl rfl (by(try simp only[List.map_toArray,List.map_cons,List.map_nil]);first|done|rfl|(simp only[List.length_drop,List.length_take];rfl)) ?_
            with_reducible refine(impl_LogOk.calls _ _ t598 (-1) t618 _ ?side1 ?side2 A40.out).mono ?_
            (case side1=>repeat(first|exact(Kd.N_reads' HO_603000.out).2.2|(with_reducible refine Kd.C_alloc ?_ _)|(with_reducible refine Kd.C_drewN ?_ _)|(with_reducible refine Kd.C_drew ?_)))
            (case side2=>exact(Kd.N_reads' HO_603000.out).2.1)
            rintro e w46 ⟨rfl,hb⟩
            refine⟨_,rfl,?_⟩
            have n0_:=qbb.mk (Kd.N_below (by(with_reducible repeat(first|apply Kd.N_alloc|apply Kd.N_drewN|apply Kd.N_drew));exact HO_603000.out) hb)
            have n1_:=qbb.mk (Kd.V_below (by(with_reducible repeat(first|apply Kd.V_alloc|apply Kd.V_drewN|apply Kd.V_drew));exact HO610.out) hb)
            have n2_:=qbb.mk (qal (g:=gb602) (o:=.cells #[.slice Ao11 t598.length co11,.int .i64 t601] 68 (0,0)) (by(with_reducible repeat(first|refine qae ?_ _|refine qaf ?_|refine qad ?_ _));exact BK602.out) hb)
            have n3_:=qbb.mk (qak (by repeat(first|(with_reducible first|exact HB.out|apply qac|apply qaa|apply qab|refine qag ?_ GE602.out)|exact HB.out)) hb)
            clear HO_603000
            clear HO610
            clear BK602
            clear HB
            have HO_603000:=n0_
            have HO610:=n1_
            have BK602:=n2_
            have HB:=n3_
            clear n0_ n1_ n2_ n3_
            (try clear hb)
            (try clear hb2)
            (try clear hk)
            (try clear hi)
            refine hK.out _ _ ⟨(qai BK602.out 0).trans rfl,(qai BK602.out 1).trans rfl⟩ (fun hHeld=>?_)
            clear hK K
            refine norm_ (a':=?_) ?_ ?_
            rotate_left
            ·show Act.put _ (some 64) _=_
             simp only[Act.put,List.setIfInBounds_toArray,List.set_cons_zero,List.set_cons_succ,qay,qaz]
             rfl
            refine qbd (i:=26) (N:=some 65) (v:=?_) (a':=?_) #[true,true,true,true,true,true,true,true,true,true,true,true,true,true,true,true,true,true,true,true,true,true,true,true,true,true,true,false,false] rfl rfl (qba HT_.out (by kernel_rfl)) (fun _ _ _ h=>h) (Or.inl ⟨by rfl,?_⟩) ?_ ?_
            rotate_left
            ·intro w'
             go_simp
             with_reducible rfl
            rotate_left
            ·simp only[Act.put,List.setIfInBounds_toArray,List.set_cons_zero,List.set_cons_succ,qay,qaz]
             rfl
            refine qbd (i:=27) (N:=some 66) (v:=?_) (a':=?_) #[true,true,true,true,true,true,true,true,true,true,true,true,true,true,true,true,true,true,true,true,true,true,true,true,true,true,true,true,false] rfl rfl (qba HT_.out (by kernel_rfl)) (fun _ _ _ h=>h) (Or.inl ⟨by rfl,?_⟩) ?_ ?_
            rotate_left
            ·intro w'
             go_simp
             with_reducible rfl
            rotate_left
            ·simp only[Act.put,List.setIfInBounds_toArray,List.set_cons_zero,List.set_cons_succ,qay,qaz]
             rfl
            refine qbd (i:=28) (N:=some 4) (v:=?_) (a':=?_) #[true,true,true,true,true,true,true,true,true,true,true,true,true,true,true,true,true,true,true,true,true,true,true,true,true,true,true,true,true] rfl rfl (qba HT_.out (by kernel_rfl)) (fun _ _ _ h=>h) (Or.inl ⟨by rfl,?_⟩) ?_ ?_
            rotate_left
            ·intro w'
             go_simp
             with_reducible rfl
            rotate_left
            ·simp only[Act.put,List.setIfInBounds_toArray,List.set_cons_zero,List.set_cons_succ,qay,qaz]
             rfl
            refine done_ (done_of HT_.out (by kernel_rfl)) ?_
            try go_wp2
            go_ret
            exact⟨by first|rfl|(simp[qan,qam]<;>rfl)|(simp only[←hji25,←hji28];first|rfl|(simp[qan,qam]<;>rfl))|(simp[*,qan,qam]<;>rfl),by repeat(first|(with_reducible first|exact HB.out|apply qac|apply qaa|apply qab|refine qag ?_ GE602.out)|exact HB.out)⟩
          ·replace c30:=Bool.eq_false_iff.mpr c30
           subst c30
           have H1:(some false)=some r:=by rw[if_neg (show ¬(false=true) by decide)] at H;exact H
           clear H
           have H:=H1
           clear H1
           obtain rfl:=Option.some.inj H
           have hcz47_0:wc.cell? ⟨gb602,0,none⟩=some (.slice Ao11 t598.length co11):=(qai BK602.out 0).trans rfl
           have hcz47_1:wc.cell? ⟨gb602,1,none⟩=some (.int .i64 t601):=(qai BK602.out 1).trans rfl
           have hfz47_0:=qah BK602.out 0
           have hfz47_1:=qah BK602.out 1
           try go_wp2
           have n0_:=qbb.mk (Kd.N_drew HO_603000.out)
           have n1_:=qbb.mk (qaf BK602.out)
           have n2_:=qbb.mk (qab HB.out)
           clear HO_603000
           clear BK602
           clear HB
           have HO_603000:=n0_
           have BK602:=n1_
           have HB:=n2_
           clear n0_ n1_ n2_
           have q49:((ji25):Int)≤((t598.length:Int):Int):=of_decide_eq_true (by first|(with_reducible assumption)|assumption)
           obtain⟨i049,hi049,_,hsz49,_⟩:=info_parts info45
           have hroom49:t598.length≤co11:=(Kd.N_reads' HO_603000.out).2.1
           have hC49:Kd.F k45 _ _ Ao11 t598.length t598:=(Kd.V_at (base:=w.heap.size) (Kd.N_V HO_603000.out)).2.2
           have hcut49:=cut_to (P:=Try.prog) 66 45 .i64 Try.underlying66 hi049 Ao11 t598.length co11 (ji25) (of_decide_eq_true (by first|(with_reducible assumption)|assumption)) q49 hroom49
           have hr49:=Kd.F_take (m:=((ji25):Int).toNat) hC49 (by omega)
           have hy49:y606.length=((ji25):Int).toNat:=(by rw[Ny606.out,List.length_take];omega)
           rw[←Ny606.out] at hr49
           rw[←hy49] at hcut49
           have HO610:=qbb.mk (show Kd.V k45 45 _ w.heap.size _ (.slice Ao11 y606.length co11) y606 from Kd.V_mk (by omega) hr49)
           have HC610:=qbb.mk (show y606.length≤co11 from by omega)
           clear hr49 hC49 hroom49 hi049 hsz49
           have KY49:=qbb.mk hy49
           clear hy49
           replace q49:=eq_true q49
           refine start_ (n:=29) (S:=fun w'=>w'.cell? ⟨gb602,0,none⟩=some (.slice Ao11 t598.length co11)∧w'.cell? ⟨gb602,1,none⟩=some (.int .i64 t601)) (ds:=[]) #[false,false,false,false,false,false,false,false,false,false,false,false,false,false,false,false,false,false,false,false,false,false,false,false,false,false,false,false,false] (by kernel_rfl) rfl rfl ⟨(qai BK602.out 0).trans rfl,(qai BK602.out 1).trans rfl⟩ (fun hHeld=>?_);refine with_tabW laws_FnLogLess.tab8 laws_FnLogLess.bits8 (fun HT_ HW_=>?_)
           generalize wc.drew=w48 at HO_603000 BK602 HB HO610 hHeld ⊢
           refine qbd (i:=0) (N:=some 39) (v:=?_) (a':=?_) #[true,false,false,false,false,false,false,false,false,false,false,false,false,false,false,false,false,false,false,false,false,false,false,false,false,false,false,false,false] rfl rfl (qba HT_.out (by kernel_rfl)) (fun _ _ _ h=>h) (Or.inl ⟨by rfl,?_⟩) ?_ ?_
           rotate_left
           ·intro w'
            go_simp
            with_reducible rfl
           rotate_left
           ·simp only[Act.put,List.setIfInBounds_toArray,List.set_cons_zero,List.set_cons_succ,qay,qaz]
            rfl
           refine qbd (i:=2) (N:=some 41) (v:=?_) (a':=?_) #[true,false,true,false,false,false,false,false,false,false,false,false,false,false,false,false,false,false,false,false,false,false,false,false,false,false,false,false,false] rfl rfl (qba HT_.out (by kernel_rfl)) (fun _ _ _ h=>h) (Or.inl ⟨by rfl,?_⟩) ?_ ?_
           rotate_left
           ·intro w'
            go_simp
            with_reducible rfl
           rotate_left
           ·simp only[Act.put,List.setIfInBounds_toArray,List.set_cons_zero,List.set_cons_succ,qay,qaz]
            rfl
           refine qbd (i:=4) (N:=some 43) (v:=?_) (a':=?_) #[true,false,true,false,true,false,false,false,false,false,false,false,false,false,false,false,false,false,false,false,false,false,false,false,false,false,false,false,false] rfl rfl (qba HT_.out (by kernel_rfl)) (fun _ _ _ h=>h) (Or.inl ⟨by rfl,?_⟩) ?_ ?_
           rotate_left
           ·intro w'
            go_simp
            with_reducible rfl
           rotate_left
           ·simp only[Act.put,List.setIfInBounds_toArray,List.set_cons_zero,List.set_cons_succ,qay,qaz]
            rfl
           refine qbd (i:=5) (N:=some 44) (v:=?_) (a':=?_) #[true,false,true,false,true,true,false,false,false,false,false,false,false,false,false,false,false,false,false,false,false,false,false,false,false,false,false,false,false] rfl rfl (qba HT_.out (by kernel_rfl)) (fun _ _ _ h=>h) (Or.inl ⟨by rfl,?_⟩) ?_ ?_
           rotate_left
           ·intro w'
            go_simp
            with_reducible rfl
           rotate_left
           ·simp only[Act.put,List.setIfInBounds_toArray,List.set_cons_zero,List.set_cons_succ,qay,qaz]
            rfl
           refine take_ (i:=1) (N:=some 40) (v:=?_) (a':=?_) #[true,true,true,false,true,true,false,false,false,false,false,false,false,false,false,false,false,false,false,false,false,false,false,false,false,false,false,false,false] rfl rfl (take_ofW HT_.out HW_.out (by kernel_rfl)) (fun _ _ _ h=>h) (Or.inl ⟨by rfl,?_⟩) hHeld ?_ ?_
           rotate_left
           ·rintro w' ⟨s0,s1⟩
            go_simp
            with_reducible rfl
           rotate_left
           ·simp only[Act.put,List.setIfInBounds_toArray,List.set_cons_zero,List.set_cons_succ,qay,qaz]
            rfl
           refine qbd (i:=3) (N:=some 42) (v:=?_) (a':=?_) #[true,true,true,true,true,true,false,false,false,false,false,false,false,false,false,false,false,false,false,false,false,false,false,false,false,false,false,false,false] rfl rfl (qba HT_.out (by kernel_rfl)) (fun _ _ _ h=>h) (Or.inl ⟨by rfl,?_⟩) ?_ ?_
           rotate_left
           ·intro w'
            go_simp
            with_reducible rfl
           rotate_left
           ·simp only[Act.put,List.setIfInBounds_toArray,List.set_cons_zero,List.set_cons_succ,qay,qaz]
            rfl
           refine take_ (i:=6) (N:=some 45) (v:=?_) (a':=?_) #[true,true,true,true,true,true,true,false,false,false,false,false,false,false,false,false,false,false,false,false,false,false,false,false,false,false,false,false,false] rfl rfl (take_ofW HT_.out HW_.out (by kernel_rfl)) (fun _ _ _ h=>h) (Or.inl ⟨by rfl,?_⟩) hHeld ?_ ?_
           rotate_left
           ·rintro w' ⟨s0,s1⟩
            go_simp
            with_reducible rfl
           rotate_left
           ·simp only[Act.put,List.setIfInBounds_toArray,List.set_cons_zero,List.set_cons_succ,qay,qaz]
            rfl
           refine qbd (i:=7) (N:=some 46) (v:=?_) (a':=?_) #[true,true,true,true,true,true,true,true,false,false,false,false,false,false,false,false,false,false,false,false,false,false,false,false,false,false,false,false,false] rfl rfl (qba HT_.out (by kernel_rfl)) (fun _ _ _ h=>h) (Or.inl ⟨by rfl,?_⟩) ?_ ?_
           rotate_left
           ·intro w'
            go_simp
            with_reducible rfl
           rotate_left
           ·simp only[Act.put,List.setIfInBounds_toArray,List.set_cons_zero,List.set_cons_succ,qay,qaz]
            rfl
           refine qbd (i:=8) (N:=some 47) (v:=?_) (a':=?_) #[true,true,true,true,true,true,true,true,true,false,false,false,false,false,false,false,false,false,false,false,false,false,false,false,false,false,false,false,false] rfl rfl (qba HT_.out (by kernel_rfl)) (fun _ _ _ h=>h) (Or.inl ⟨by rfl,?_⟩) ?_ ?_
           rotate_left
           ·intro w'
            go_simp
            with_reducible rfl
           rotate_left
           ·simp only[Act.put,List.setIfInBounds_toArray,List.set_cons_zero,List.set_cons_succ,qay,qaz]
            rfl
           refine one_ (i:=9) (N:=some 48) #[true,true,true,true,true,true,true,true,true,true,false,false,false,false,false,false,false,false,false,false,false,false,false,false,false,false,false,false,false] rfl rfl (one_of HT_.out (by kernel_rfl)) (by decide) (fun K hK=>?_)
           refine goes_ Try.func42 (by kernel_rfl) rfl #[.agg #[.slice Ao11 y606.length co11,.int .i64 ji28]] (by rfl) rfl rfl (by(try simp only[List.map_toArray,List.map_cons,List.map_nil]);first|done|(simp only[hji28];rfl)|rfl|(simp only[List.length_drop,List.length_take];rfl)) ?_
           with_reducible refine(impl_LogOk.calls _ _ y606 ji28 false _ ?side1 ?side2 A29.out).mono ?_
           (case side1=>repeat(first|exact(Kd.V_reads' HO610.out).2.2|(with_reducible refine Kd.C_alloc ?_ _)|(with_reducible refine Kd.C_drewN ?_ _)|(with_reducible refine Kd.C_drew ?_)))
           (case side2=>exact(Kd.V_reads' HO610.out).2.1)
           rintro e w50 ⟨rfl,hb⟩
           refine⟨_,rfl,?_⟩
           have n0_:=qbb.mk (Kd.N_below (by(with_reducible repeat(first|apply Kd.N_alloc|apply Kd.N_drewN|apply Kd.N_drew));exact HO_603000.out) hb)
           have n1_:=qbb.mk (Kd.V_below (by(with_reducible repeat(first|apply Kd.V_alloc|apply Kd.V_drewN|apply Kd.V_drew));exact HO610.out) hb)
           have n2_:=qbb.mk (qal (g:=gb602) (o:=.cells #[.slice Ao11 t598.length co11,.int .i64 t601] 68 (0,0)) (by(with_reducible repeat(first|refine qae ?_ _|refine qaf ?_|refine qad ?_ _));exact BK602.out) hb)
           have n3_:=qbb.mk (qak (by repeat(first|(with_reducible first|exact HB.out|apply qac|apply qaa|apply qab|refine qag ?_ GE602.out)|exact HB.out)) hb)
           clear HO_603000
           clear HO610
           clear BK602
           clear HB
           have HO_603000:=n0_
           have HO610:=n1_
           have BK602:=n2_
           have HB:=n3_
           clear n0_ n1_ n2_ n3_
           (try clear hb)
           (try clear hb2)
           (try clear hk)
           (try clear hi)
           refine hK.out _ _ ⟨(qai BK602.out 0).trans rfl,(qai BK602.out 1).trans rfl⟩ (fun hHeld=>?_)
           clear hK K
           refine norm_ (a':=?_) ?_ ?_
           rotate_left
           ·show Act.put _ (some 48) _=_
            simp only[Act.put,List.setIfInBounds_toArray,List.set_cons_zero,List.set_cons_succ,qay,qaz]
            rfl
           refine qbd (i:=10) (N:=some 49) (v:=?_) (a':=?_) #[true,true,true,true,true,true,true,true,true,true,true,false,false,false,false,false,false,false,false,false,false,false,false,false,false,false,false,false,false] rfl rfl (qba HT_.out (by kernel_rfl)) (fun _ _ _ h=>h) (Or.inl ⟨by rfl,?_⟩) ?_ ?_
           rotate_left
           ·intro w'
            go_simp
            with_reducible rfl
           rotate_left
           ·simp only[Act.put,List.setIfInBounds_toArray,List.set_cons_zero,List.set_cons_succ,qay,qaz]
            rfl
           refine qbd (i:=11) (N:=some 50) (v:=undef) (a':=?_) #[true,true,true,true,true,true,true,true,true,true,true,true,false,false,false,false,false,false,false,false,false,false,false,false,false,false,false,false,false] rfl rfl (qba HT_.out (by kernel_rfl)) (fun _ _ _ h=>h) (Or.inr ⟨by rfl,rfl⟩) ?_ ?_
           rotate_left
           ·simp only[Act.put,List.setIfInBounds_toArray,List.set_cons_zero,List.set_cons_succ,qay,qaz]
            rfl
           refine qbd (i:=12) (N:=some 51) (v:=undef) (a':=?_) #[true,true,true,true,true,true,true,true,true,true,true,true,true,false,false,false,false,false,false,false,false,false,false,false,false,false,false,false,false] rfl rfl (qba HT_.out (by kernel_rfl)) (fun _ _ _ h=>h) (Or.inr ⟨by rfl,rfl⟩) ?_ ?_
           rotate_left
           ·simp only[Act.put,List.setIfInBounds_toArray,List.set_cons_zero,List.set_cons_succ,qay,qaz]
            rfl
           refine qbd (i:=13) (N:=some 52) (v:=undef) (a':=?_) #[true,true,true,true,true,true,true,true,true,true,true,true,true,true,false,false,false,false,false,false,false,false,false,false,false,false,false,false,false] rfl rfl (qba HT_.out (by kernel_rfl)) (fun _ _ _ h=>h) (Or.inr ⟨by rfl,rfl⟩) ?_ ?_
           rotate_left
           ·simp only[Act.put,List.setIfInBounds_toArray,List.set_cons_zero,List.set_cons_succ,qay,qaz]
            rfl
           refine qbd (i:=14) (N:=some 53) (v:=undef) (a':=?_) #[true,true,true,true,true,true,true,true,true,true,true,true,true,true,true,false,false,false,false,false,false,false,false,false,false,false,false,false,false] rfl rfl (qba HT_.out (by kernel_rfl)) (fun _ _ _ h=>h) (Or.inr ⟨by rfl,rfl⟩) ?_ ?_
           rotate_left
           ·simp only[Act.put,List.setIfInBounds_toArray,List.set_cons_zero,List.set_cons_succ,qay,qaz]
            rfl
           refine qbd (i:=15) (N:=some 54) (v:=undef) (a':=?_) #[true,true,true,true,true,true,true,true,true,true,true,true,true,true,true,true,false,false,false,false,false,false,false,false,false,false,false,false,false] rfl rfl (qba HT_.out (by kernel_rfl)) (fun _ _ _ h=>h) (Or.inr ⟨by rfl,rfl⟩) ?_ ?_
           rotate_left
           ·simp only[Act.put,List.setIfInBounds_toArray,List.set_cons_zero,List.set_cons_succ,qay,qaz]
            rfl
           refine qbd (i:=16) (N:=some 55) (v:=undef) (a':=?_) #[true,true,true,true,true,true,true,true,true,true,true,true,true,true,true,true,true,false,false,false,false,false,false,false,false,false,false,false,false] rfl rfl (qba HT_.out (by kernel_rfl)) (fun _ _ _ h=>h) (Or.inr ⟨by rfl,rfl⟩) ?_ ?_
           rotate_left
           ·simp only[Act.put,List.setIfInBounds_toArray,List.set_cons_zero,List.set_cons_succ,qay,qaz]
            rfl
           refine qbd (i:=17) (N:=some 56) (v:=undef) (a':=?_) #[true,true,true,true,true,true,true,true,true,true,true,true,true,true,true,true,true,true,false,false,false,false,false,false,false,false,false,false,false] rfl rfl (qba HT_.out (by kernel_rfl)) (fun _ _ _ h=>h) (Or.inr ⟨by rfl,rfl⟩) ?_ ?_
           rotate_left
           ·simp only[Act.put,List.setIfInBounds_toArray,List.set_cons_zero,List.set_cons_succ,qay,qaz]
            rfl
           refine qbd (i:=18) (N:=some 57) (v:=undef) (a':=?_) #[true,true,true,true,true,true,true,true,true,true,true,true,true,true,true,true,true,true,true,false,false,false,false,false,false,false,false,false,false] rfl rfl (qba HT_.out (by kernel_rfl)) (fun _ _ _ h=>h) (Or.inr ⟨by rfl,rfl⟩) ?_ ?_
           rotate_left
           ·simp only[Act.put,List.setIfInBounds_toArray,List.set_cons_zero,List.set_cons_succ,qay,qaz]
            rfl
           refine qbd (i:=19) (N:=some 58) (v:=undef) (a':=?_) #[true,true,true,true,true,true,true,true,true,true,true,true,true,true,true,true,true,true,true,true,false,false,false,false,false,false,false,false,false] rfl rfl (qba HT_.out (by kernel_rfl)) (fun _ _ _ h=>h) (Or.inr ⟨by rfl,rfl⟩) ?_ ?_
           rotate_left
           ·simp only[Act.put,List.setIfInBounds_toArray,List.set_cons_zero,List.set_cons_succ,qay,qaz]
            rfl
           refine qbd (i:=20) (N:=some 59) (v:=?_) (a':=?_) #[true,true,true,true,true,true,true,true,true,true,true,true,true,true,true,true,true,true,true,true,true,false,false,false,false,false,false,false,false] rfl rfl (qba HT_.out (by kernel_rfl)) (fun _ _ _ h=>h) (Or.inl ⟨by rfl,?_⟩) ?_ ?_
           rotate_left
           ·intro w'
            go_simp
            with_reducible rfl
           rotate_left
           ·simp only[Act.put,List.setIfInBounds_toArray,List.set_cons_zero,List.set_cons_succ,qay,qaz]
            rfl
           refine qbd (i:=21) (N:=some 60) (v:=?_) (a':=?_) #[true,true,true,true,true,true,true,true,true,true,true,true,true,true,true,true,true,true,true,true,true,true,false,false,false,false,false,false,false] rfl rfl (qba HT_.out (by kernel_rfl)) (fun _ _ _ h=>h) (Or.inl ⟨by rfl,?_⟩) ?_ ?_
           rotate_left
           ·intro w'
            go_simp
            with_reducible rfl
           rotate_left
           ·simp only[Act.put,List.setIfInBounds_toArray,List.set_cons_zero,List.set_cons_succ,qay,qaz]
            rfl
           refine qbd (i:=22) (N:=some 61) (v:=undef) (a':=?_) #[true,true,true,true,true,true,true,true,true,true,true,true,true,true,true,true,true,true,true,true,true,true,true,false,false,false,false,false,false] rfl rfl (qba HT_.out (by kernel_rfl)) (fun _ _ _ h=>h) (Or.inr ⟨by rfl,rfl⟩) ?_ ?_
           rotate_left
           ·simp only[Act.put,List.setIfInBounds_toArray,List.set_cons_zero,List.set_cons_succ,qay,qaz]
            rfl
           refine qbd (i:=23) (N:=some 62) (v:=undef) (a':=?_) #[true,true,true,true,true,true,true,true,true,true,true,true,true,true,true,true,true,true,true,true,true,true,true,true,false,false,false,false,false] rfl rfl (qba HT_.out (by kernel_rfl)) (fun _ _ _ h=>h) (Or.inr ⟨by rfl,rfl⟩) ?_ ?_
           rotate_left
           ·simp only[Act.put,List.setIfInBounds_toArray,List.set_cons_zero,List.set_cons_succ,qay,qaz]
            rfl
           refine qbd (i:=24) (N:=some 63) (v:=undef) (a':=?_) #[true,true,true,true,true,true,true,true,true,true,true,true,true,true,true,true,true,true,true,true,true,true,true,true,true,false,false,false,false] rfl rfl (qba HT_.out (by kernel_rfl)) (fun _ _ _ h=>h) (Or.inr ⟨by rfl,rfl⟩) ?_ ?_
           rotate_left
           ·simp only[Act.put,List.setIfInBounds_toArray,List.set_cons_zero,List.set_cons_succ,qay,qaz]
            rfl
           refine qbd (i:=25) (N:=some 64) (v:=undef) (a':=?_) #[true,true,true,true,true,true,true,true,true,true,true,true,true,true,true,true,true,true,true,true,true,true,true,true,true,true,false,false,false] rfl rfl (qba HT_.out (by kernel_rfl)) (fun _ _ _ h=>h) (Or.inr ⟨by rfl,rfl⟩) ?_ ?_
           rotate_left
           ·simp only[Act.put,List.setIfInBounds_toArray,List.set_cons_zero,List.set_cons_succ,qay,qaz]
            rfl
           refine qbd (i:=26) (N:=some 65) (v:=undef) (a':=?_) #[true,true,true,true,true,true,true,true,true,true,true,true,true,true,true,true,true,true,true,true,true,true,true,true,true,true,true,false,false] rfl rfl (qba HT_.out (by kernel_rfl)) (fun _ _ _ h=>h) (Or.inr ⟨by rfl,rfl⟩) ?_ ?_
           rotate_left
           ·simp only[Act.put,List.setIfInBounds_toArray,List.set_cons_zero,List.set_cons_succ,qay,qaz]
            rfl
           refine qbd (i:=27) (N:=some 66) (v:=?_) (a':=?_) #[true,true,true,true,true,true,true,true,true,true,true,true,true,true,true,true,true,true,true,true,true,true,true,true,true,true,true,true,false] rfl rfl (qba HT_.out (by kernel_rfl)) (fun _ _ _ h=>h) (Or.inl ⟨by rfl,?_⟩) ?_ ?_
           rotate_left
           ·intro w'
            go_simp
            with_reducible rfl
           rotate_left
           ·simp only[Act.put,List.setIfInBounds_toArray,List.set_cons_zero,List.set_cons_succ,qay,qaz]
            rfl
           refine qbd (i:=28) (N:=some 4) (v:=?_) (a':=?_) #[true,true,true,true,true,true,true,true,true,true,true,true,true,true,true,true,true,true,true,true,true,true,true,true,true,true,true,true,true] rfl rfl (qba HT_.out (by kernel_rfl)) (fun _ _ _ h=>h) (Or.inl ⟨by rfl,?_⟩) ?_ ?_
           rotate_left
           ·intro w'
            go_simp
            with_reducible rfl
           rotate_left
           ·simp only[Act.put,List.setIfInBounds_toArray,List.set_cons_zero,List.set_cons_succ,qay,qaz]
            rfl
           refine done_ (done_of HT_.out (by kernel_rfl)) ?_
           try go_wp2
           go_ret
           exact⟨by first|rfl|(simp[qan,qam]<;>rfl)|(simp only[←hji25,←hji28];first|rfl|(simp[qan,qam]<;>rfl))|(simp[*,qan,qam]<;>rfl),by repeat(first|(with_reducible first|exact HB.out|apply qac|apply qaa|apply qab|refine qag ?_ GE602.out)|exact HB.out)⟩
         ·rw[if_neg c27] at H
          exact absurd H (by simp)
        ·rw[if_neg c26] at H
         exact absurd H (by simp)
def laws_FnLogLess.Pure:Prop:=∀(l0:List Int) (l1:List Int),l0.length≤maxLen→l0.length*1≤140737488351232→(∀x ∈ l0,(Lit.int .u8 x).wf=true)→l1.length≤maxLen→l1.length*1≤140737488351232→(∀x ∈ l1,(Lit.int .u8 x).wf=true)→∃k,laws_FnLogLess.f k l0 l1=some true
theorem laws_FnLogLess.walk (P:laws_FnLogLess.Pure) (a0:Option Addr) (len0 cap0:Nat) (z0:List Int) (a1:Option Addr) (len1 cap1:Nat) (z1:List Int) (w:World) (w0:(a0=none∧len0=0∧cap0=0∧z0=[])∨∃x,a0=some x∧len0≤cap0∧cap0≤maxLen∧z0.length=cap0∧(∀i,i<z0.length→w.cell? (x.add i)=some (.int .u8 (z0.getD i 0)))∧∀n ∈ z0,(Lit.int .u8 n).wf=true) (y0:len0*1≤140737488351232) (w1:(a1=none∧len1=0∧cap1=0∧z1=[])∨∃x,a1=some x∧len1≤cap1∧cap1≤maxLen∧z1.length=cap1∧(∀i,i<z1.length→w.cell? (x.add i)=some (.int .u8 (z1.getD i 0)))∧∀n ∈ z1,(Lit.int .u8 n).wf=true) (y1:len1*1≤140737488351232) :
  Calls Try.prog 13 #[.slice a0 len0 cap0,.slice a1 len1 cap1] w fun e w'=>e=.returned (.bool true)∧Below w.heap.size w w':=by
 obtain⟨l0,rfl,hr0,hm0,hw0,hc0⟩:=ReadsInt.ofRowC w0
 obtain⟨l1,rfl,hr1,hm1,hw1,hc1⟩:=ReadsInt.ofRowC w1
 obtain⟨k,h⟩:=P l0 l1 hm0 y0 hw0 hm1 y1 hw1
 refine(laws_FnLogLess.calls k _ _ l0 _ _ l1 true w (Kd.C_of_reads (d:=(0:Int)) (h1:=fun _=>rfl) hr0) hc0 (Kd.C_of_reads (d:=(0:Int)) (h1:=fun _=>rfl) hr1) hc1 h).mono ?_
 rintro e w' ⟨rfl,hd⟩
 exact⟨rfl,hd⟩
end Go.Proofs.Ytkbjgmfghhgodaa.Print
