-- Written by squeeze.py: not trusted, Lean checks it.
import Derived.Test.YtbcepmkifomifaaDoorZK
import Derived.Test.YtbcepmkifomifaaDoorZa0
import Derived.Test.YtbcepmkifomifaaDoorZp1
import Derived.Test.YtbcepmkifomifaaDoorZp2
import Derived.Test.YtbcepmkifomifaaDoorZp3
import Derived.Test.YtbcepmkifomifaaDoorZr0
import Derived.Test.YtbcepmkifomifaaDoorZv0
namespace Go.Proofs.YtbcepmkifomifaaDoor.Print
open Go.RowKit Go.Proofs.YtbcepmkifomifaaDoorW.PrintWords Go.Proofs.YtbcepmkifomifaaDoorW.PrintLast Go.Proofs.YtbcepmkifomifaaDoorW.PrintMore
attribute [local go_sem] max2_int min2_int max_two min_two max_three min_three max_four min_four
set_option linter.unusedVariables false
set_option linter.unusedSimpArgs false
attribute [local go_sem high] eqA39
def laws_FnWordBack.j0:Nat→ByteArray→Bool→Int→Int→Int→Int→Option (Bool)
 |0,_,_,_,_,_,_=>none
 |k+1,x4,x21,x547000,x547001,x547002,x547003=>if x21=true then((spec_WordText.f k x547000 x547001 x547002 x547003).bind fun t549=>(some (x4.toList == t549.toList))) else((impl_WordRead.f k x4).bind fun bt550=>(if bt550.2.2.2.2=true then(if(bt550.1 == x547000 && (bt550.2.1 == x547001 && (bt550.2.2.1 == x547002 && (bt550.2.2.2.1 == x547003))))=true then((impl_WordOk.f x547000 x547001 x547002 x547003).bind fun t556=>(some t556)) else(some false)) else(some false)))
def laws_FnWordBack.f (k:Nat) (l0:List Int):Option (Bool):=if(l0.length:Int)>1048576 then(some true) else((spec_DrawWordText.f k l0).bind fun bt542=>((impl_WordText.f bt542.1 bt542.2.1 bt542.2.2.1 bt542.2.2.2).bind fun t547=>((spec_WordText.f k bt542.1 bt542.2.1 bt542.2.2.1 bt542.2.2.2).bind fun t548=>(if t547.toList=t548.toList then(laws_FnWordBack.j0 k t547 (t547.toList == ([]:List UInt8)) bt542.1 bt542.2.1 bt542.2.2.1 bt542.2.2.2) else(laws_FnWordBack.j0 k t547 true bt542.1 bt542.2.1 bt542.2.2.1 bt542.2.2.2)))))
theorem laws_FnWordBack.mono_l:∀k,(∀y0 y1 y2 y3 y4 y5,LeO (laws_FnWordBack.j0 k y0 y1 y2 y3 y4 y5) (laws_FnWordBack.j0 (k+1) y0 y1 y2 y3 y4 y5))
 |0=>fun _ _ _ _ _ _ r h=>by simp[laws_FnWordBack.j0] at h
 |k+1=>by
  have ih0:=laws_FnWordBack.mono_l k
  ·intro y0 y1 y2 y3 y4 y5;unfold laws_FnWordBack.j0
   repeat' first|(with_reducible exact ih0 _ _ _ _ _ _)|(with_reducible exact impl_WordRead.mono _ _)|(with_reducible exact spec_DrawWordText.mono _ _)|(with_reducible exact spec_WordText.mono _ _ _ _ _)|(with_reducible exact LeO.refl _)|(with_reducible exact LeO.none _)|(with_reducible refine LeO.ite ?_ ?_)|(with_reducible refine LeO.bind ?_ (fun _=>?_))|exact ih0 _ _ _ _ _ _|exact impl_WordRead.mono _ _|exact spec_DrawWordText.mono _ _|exact spec_WordText.mono _ _ _ _ _|exact LeO.none _|refine LeO.ite ?_ ?_|refine LeO.bind ?_ (fun _=>?_)
theorem laws_FnWordBack.mono:∀a0 k,LeO (laws_FnWordBack.f k a0) (laws_FnWordBack.f (k+1) a0):=by
 intro a0 k;have ih0:=laws_FnWordBack.mono_l k;unfold laws_FnWordBack.f
 repeat' first|(with_reducible exact ih0 _ _ _ _ _ _)|(with_reducible exact impl_WordRead.mono _ _)|(with_reducible exact spec_DrawWordText.mono _ _)|(with_reducible exact spec_WordText.mono _ _ _ _ _)|(with_reducible exact LeO.refl _)|(with_reducible exact LeO.none _)|(with_reducible refine LeO.ite ?_ ?_)|(with_reducible refine LeO.bind ?_ (fun _=>?_))|exact ih0 _ _ _ _ _ _|exact impl_WordRead.mono _ _|exact spec_DrawWordText.mono _ _|exact spec_WordText.mono _ _ _ _ _|exact LeO.none _|refine LeO.ite ?_ ?_|refine LeO.bind ?_ (fun _=>?_)
set_option maxHeartbeats 8000000 in
set_option maxRecDepth 100000 in
theorem laws_FnWordBack.calls (k:Nat) (A0:Option Addr) (c0:Nat) (l0:List Int) (r:Bool) (w:World) (hr0:Kd.C (Kd.int .u8) w A0 l0.length l0) (hc0:l0.length≤c0) (hgw:Tryd.GW w) (h:laws_FnWordBack.f k l0=some r) :
  Calls Tryd.prog 10 #[.slice A0 l0.length c0] w fun e w'=>e=.returned (.bool r)∧Below w.heap.size w w':=by
 have HGW:=qaj.mk hgw;clear hgw;have hu39:=Tryd.underlying39;have HR0:=qaj.mk hr0;have HC0:=qaj.mk hc0;clear hr0 hc0;have HB:=qaj.mk (Below.refl w.heap.size w);have H:(if(l0.length:Int)>1048576 then(some true) else((spec_DrawWordText.f k l0).bind fun bt542=>((impl_WordText.f bt542.1 bt542.2.1 bt542.2.2.1 bt542.2.2.2).bind fun t547=>((spec_WordText.f k bt542.1 bt542.2.1 bt542.2.2.1 bt542.2.2.2).bind fun t548=>(if t547.toList=t548.toList then(laws_FnWordBack.j0 k t547 (t547.toList == ([]:List UInt8)) bt542.1 bt542.2.1 bt542.2.2.1 bt542.2.2.2) else(laws_FnWordBack.j0 k t547 true bt542.1 bt542.2.1 bt542.2.2.1 bt542.2.2.2))))))=some r:=h;clear h;by_cases c2:(l0.length:Int)>1048576
 ·rw[if_pos c2] at H;have c2b0:decide (1048576<(l0.length:Int))=true:=decide_eq_true c2;have c2b1:decide (1048576<l0.length)=true:=decide_eq_true (by omega);clear c2;obtain rfl:=Option.some.inj H;go_enter Tryd.func10,Tryd.ntmps10;go_wp2;go_ret;exact⟨za10,za2 HB⟩
 ·rw[if_neg c2] at H;have c2b0:decide (1048576<(l0.length:Int))=false:=decide_eq_false c2;have c2b1:decide (1048576<l0.length)=false:=decide_eq_false (by omega);clear c2;replace H:=Option.bind_eq_some_iff.mp H;obtain⟨⟨t542,t543,t544,t545⟩,A30,H⟩:=H;replace H:((impl_WordText.f t542 t543 t544 t545).bind fun t547=>((spec_WordText.f k t542 t543 t544 t545).bind fun t548=>(if t547.toList=t548.toList then(laws_FnWordBack.j0 k t547 (t547.toList == ([]:List UInt8)) t542 t543 t544 t545) else(laws_FnWordBack.j0 k t547 true t542 t543 t544 t545))))=some r:=H;have A3:=qaj.mk A30;clear A30;replace H:=Option.bind_eq_some_iff.mp H;obtain⟨t547,A40,H⟩:=H;replace H:((spec_WordText.f k t542 t543 t544 t545).bind fun t548=>(if t547.toList=t548.toList then(laws_FnWordBack.j0 k t547 (t547.toList == ([]:List UInt8)) t542 t543 t544 t545) else(laws_FnWordBack.j0 k t547 true t542 t543 t544 t545)))=some r:=H;have A4:=qaj.mk A40;clear A40;have HC5:=qaj.mk H;clear H;go_enter Tryd.func10,Tryd.ntmps10
  go_upto_region 5 with(first|((with_reducible refine qae (f:=29) rfl ?_);refine zF (some 11) Tryd.func29 #[.slice A0 l0.length c0] ?_;(with_reducible refine(spec_DrawWordText.calls k _ _ l0 t542 t543 t544 t545 _ ?side1 ?side2 A3.out).mono ?_);(case side1=>repeat(first|exact HR0.out|(with_reducible refine Kd.C_alloc ?_ _)|(with_reducible refine Kd.C_drewN ?_ _)|(with_reducible refine Kd.C_drew ?_)));(case side2=>exact HC0.out);rintro e w6 ⟨rfl,hb⟩;refine⟨_,rfl,?_⟩;replace HB:=qaj.mk (qaa (za2 HB) hb);(try clear hb))|((with_reducible refine qai (N:=3) rfl ?_);refine zX (N:=3) (cs:=#[.int .i64 0,.int .i64 0,.int .i64 0,.int .i64 0]) (t:=39) ?_;intro gb546 hg w7 hbox hb;have BK546:=qaj.mk hbox;have GW546:=zH (w:=w) hg (za2 HB);have GE546:=GW546;replace HB:=qaj.mk (qaa (za2 HB) hb);clear hb hbox hg;obtain⟨hcz8_0,hcz8_1,hcz8_2,hcz8_3,hfz8_0,hfz8_1,hfz8_2,hfz8_3⟩:=zC4 BK546)|((with_reducible refine qae (f:=28) rfl ?_);refine zF (some 13) Tryd.func28 #[.agg #[.int .i64 t542,.int .i64 t543,.int .i64 t544,.int .i64 t545]] ?_;(with_reducible refine(impl_WordText.calls t542 t543 t544 t545 t547 _ A4.out).mono ?_);rintro e w9 ⟨rfl,hb⟩;refine⟨_,rfl,?_⟩;replace BK546:=qaj.mk (qah (g:=gb546) (o:=.cells #[.int .i64 t542,.int .i64 t543,.int .i64 t544,.int .i64 t545] 39 (0,0)) (by(with_reducible repeat(first|refine qac ?_ _|refine qad ?_|refine qab ?_ _));refine qaf (cs:=#[.int .i64 t542,.int .i64 t543,.int .i64 t544,.int .i64 0]) ?_ 3 _ rfl;(with_reducible repeat(first|refine qac ?_ _|refine qad ?_|refine qab ?_ _));refine qaf (cs:=#[.int .i64 t542,.int .i64 t543,.int .i64 0,.int .i64 0]) ?_ 2 _ rfl;(with_reducible repeat(first|refine qac ?_ _|refine qad ?_|refine qab ?_ _));refine qaf (cs:=#[.int .i64 t542,.int .i64 0,.int .i64 0,.int .i64 0]) ?_ 1 _ rfl;(with_reducible repeat(first|refine qac ?_ _|refine qad ?_|refine qab ?_ _));refine qaf (cs:=#[.int .i64 0,.int .i64 0,.int .i64 0,.int .i64 0]) ?_ 0 _ rfl;(with_reducible repeat(first|refine qac ?_ _|refine qad ?_|refine qab ?_ _));exact BK546.out) hb);replace HB:=qaj.mk (qaa (za0 HB GE546) hb);(try clear hb)))
  (try simp only[Act.put,List.setIfInBounds_toArray,List.set_cons_zero,List.set_cons_succ])
  go_cut [21] (fun v21 wc=>∃(kq:Nat) (x21_4:Bool),v21=.bool x21_4∧qaj (laws_FnWordBack.j0 kq t547 x21_4 t542 t543 t544 t545=some r)∧qaj (kq≤k)∧qaj (wc.heap[gb546]?=some (.cells #[.int .i64 t542,.int .i64 t543,.int .i64 t544,.int .i64 t545] 39 (0,0)))∧qaj (Below w.heap.size w wc))
  case first=>
   have H:=HC5.out;clear HC5;replace H:=Option.bind_eq_some_iff.mp H;obtain⟨t548,A100,H⟩:=H;replace H:(if t547.toList=t548.toList then(laws_FnWordBack.j0 k t547 (t547.toList == ([]:List UInt8)) t542 t543 t544 t545) else(laws_FnWordBack.j0 k t547 true t542 t543 t544 t545))=some r:=H;have A10:=qaj.mk A100;clear A100;by_cases c11:t547.toList=t548.toList
   ·rw[if_pos c11] at H;have c11b0:(t547.toList == t548.toList)=true:=beq_iff_eq.mpr c11;have c11b1:(t547.toList != t548.toList)=false:=bne_eq_false_iff_eq.mpr c11;clear c11;(first|rw[c11b0]|(simp only[qak,qal];rw[c11b0])|skip);have H':=qaj.mk H;clear H;obtain⟨hcz12_0,hcz12_1,hcz12_2,hcz12_3,hfz12_0,hfz12_1,hfz12_2,hfz12_3⟩:=zC4 BK546
    go_wp2_with(first|((with_reducible refine qae (f:=26) rfl ?_);refine zF (some 16) Tryd.func26 #[.agg #[.int .i64 t542,.int .i64 t543,.int .i64 t544,.int .i64 t545]] ?_;(with_reducible refine(spec_WordText.calls k t542 t543 t544 t545 t548 _ A10.out).mono ?_);rintro e w13 ⟨rfl,hb⟩;refine⟨_,rfl,?_⟩;replace BK546:=zY BK546 hb;replace HB:=qaj.mk (qaa (za0 HB GE546) hb);(try clear hb)))
    go_meet
    case rel=>exact⟨_,((t547.toList == ([]:List UInt8))),(za23),H',⟨za34⟩,⟨za18 BK546⟩,⟨za0 HB GE546⟩⟩
   ·rw[if_neg c11] at H;have c11b0:(t547.toList == t548.toList)=false:=beq_eq_false_iff_ne.mpr c11;have c11b1:(t547.toList != t548.toList)=true:=bne_iff_ne.mpr c11;(first|rw[c11b0]|(simp only[qak,qal];rw[c11b0])|skip);have H':=qaj.mk H;clear H;obtain⟨hcz14_0,hcz14_1,hcz14_2,hcz14_3,hfz14_0,hfz14_1,hfz14_2,hfz14_3⟩:=zC4 BK546
    go_wp2_with(first|((with_reducible refine qae (f:=26) rfl ?_);refine zF (some 16) Tryd.func26 #[.agg #[.int .i64 t542,.int .i64 t543,.int .i64 t544,.int .i64 t545]] ?_;(with_reducible refine(spec_WordText.calls k t542 t543 t544 t545 t548 _ A10.out).mono ?_);rintro e w15 ⟨rfl,hb⟩;refine⟨_,rfl,?_⟩;replace BK546:=zY BK546 hb;replace HB:=qaj.mk (qaa (za0 HB GE546) hb);(try clear hb)))
    go_meet
    case rel=>exact⟨_,(true),(za23),H',⟨za34⟩,⟨za18 BK546⟩,⟨za0 HB GE546⟩⟩
  case rest=>
   clear HC5
   try clear c1
   try clear c2
   try clear c2b0
   try clear c2b1
   try clear p2
   try clear c10
   try clear c11
   try clear c11b0
   try clear c11b1
   try clear hcz12_0
   try clear hcz12_1
   try clear hcz12_2
   try clear hcz12_3
   try clear hcz14_0
   try clear hcz14_1
   try clear hcz14_2
   try clear hcz14_3
   try clear hcz8_0
   try clear hcz8_1
   try clear hcz8_2
   try clear hcz8_3
   try clear hfz12_0
   try clear hfz12_1
   try clear hfz12_2
   try clear hfz12_3
   try clear hfz14_0
   try clear hfz14_1
   try clear hfz14_2
   try clear hfz14_3
   try clear hfz8_0
   try clear hfz8_1
   try clear hfz8_2
   try clear hfz8_3
   obtain⟨kq,x21_4,rfl,HA,HJ4,BK546,HB⟩:=hcut
   cases kq with
   |zero=>exact absurd HA.out (by simp[laws_FnWordBack.j0])
   |succ kj4=>
    have H:=HA.out;clear HA;simp only[laws_FnWordBack.j0] at H;by_cases c16:x21_4=true
    ·subst c16
     have H1:((spec_WordText.f kj4 t542 t543 t544 t545).bind fun t549=>(some (t547.toList == t549.toList)))=some r:=by rw[if_pos rfl] at H;exact H
     clear H;have H:=H1;clear H1;replace H:=Option.bind_eq_some_iff.mp H;obtain⟨t549,A170,H⟩:=H;replace H:(some (t547.toList == t549.toList))=some r:=H;have A17:=qaj.mk A170;clear A170;obtain rfl:=Option.some.inj H;obtain⟨hcz18_0,hcz18_1,hcz18_2,hcz18_3,hfz18_0,hfz18_1,hfz18_2,hfz18_3⟩:=zC4 BK546
     go_wp2_with(first|((with_reducible refine qae (f:=26) rfl ?_);refine zF (some 24) Tryd.func26 #[.agg #[.int .i64 t542,.int .i64 t543,.int .i64 t544,.int .i64 t545]] ?_;(with_reducible refine(spec_WordText.calls kj4 t542 t543 t544 t545 t549 _ A17.out).mono ?_);rintro e w19 ⟨rfl,hb⟩;refine⟨_,rfl,?_⟩;replace BK546:=zY BK546 hb;replace HB:=qaj.mk (qaa (za0 HB GE546) hb);(try clear hb)))
     go_ret;exact⟨za10,za0 HB GE546⟩
    ·replace c16:=Bool.eq_false_iff.mpr c16;subst c16
     have H1:((impl_WordRead.f kj4 t547).bind fun bt550=>(if bt550.2.2.2.2=true then(if(bt550.1 == t542 && (bt550.2.1 == t543 && (bt550.2.2.1 == t544 && (bt550.2.2.2.1 == t545))))=true then((impl_WordOk.f t542 t543 t544 t545).bind fun t556=>(some t556)) else(some false)) else(some false)))=some r:=by rw[if_neg (show ¬(false=true) by decide)] at H;exact H
     clear H;have H:=H1;clear H1;replace H:=Option.bind_eq_some_iff.mp H;obtain⟨⟨t550,t551,t552,t553,t554⟩,A200,H⟩:=H;replace H:(if t554=true then(if(t550 == t542 && (t551 == t543 && (t552 == t544 && (t553 == t545))))=true then((impl_WordOk.f t542 t543 t544 t545).bind fun t556=>(some t556)) else(some false)) else(some false))=some r:=H;have A20:=qaj.mk A200;clear A200;by_cases c21:t554=true
     ·subst c21
      have H1:(if(t550 == t542 && (t551 == t543 && (t552 == t544 && (t553 == t545))))=true then((impl_WordOk.f t542 t543 t544 t545).bind fun t556=>(some t556)) else(some false))=some r:=by rw[if_pos rfl] at H;exact H
      clear H;have H:=H1;clear H1;by_cases c22:(t550 == t542 && (t551 == t543 && (t552 == t544 && (t553 == t545))))=true
      ·rw[if_pos c22] at H;have c22b0:(t550 == t542 && (t551 == t543 && (t552 == t544 && (t553 == t545))))=true:=c22;(try(have c22b1:decide (t550=t542 && (t551 == t543 && (t552 == t544 && (t553 == t545))))=true:=by simpa using c22));(try(have c22b2:(t550 == t542 && (t551 == t543 && (t552 == t544 && (t553 == t545))))=true:=by simpa using c22));clear c22;replace H:=Option.bind_eq_some_iff.mp H;obtain⟨t556,A230,H⟩:=H;replace H:(some t556)=some r:=H;have A23:=qaj.mk A230;clear A230;obtain rfl:=Option.some.inj H
       go_wp2_with(first|((with_reducible refine qae (f:=32) rfl ?_);refine zF (some 28) Tryd.func32 #[.string t547] ?_;(with_reducible refine(impl_WordRead.calls kj4 t547 t550 t551 t552 t553 true _ ?gw_ A20.out).mono ?_);(case gw_=>exact Tryd.GW.below HGW.out (za0 HB GE546));rintro e w24 ⟨rfl,hb⟩;refine⟨_,rfl,?_⟩;replace BK546:=zY BK546 hb;replace HB:=qaj.mk (qaa (za0 HB GE546) hb);(try clear hb))|((with_reducible refine qai (N:=5) rfl ?_);refine zX (N:=5) (cs:=#[.int .i64 0,.int .i64 0,.int .i64 0,.int .i64 0]) (t:=39) ?_;intro gb555 hg w25 hbox hb;have BK555:=qaj.mk hbox;have GW555:=zH (w:=w) hg (za0 HB GE546);have GE555:=GW555;replace HB:=qaj.mk (qaa (za0 HB GE546) hb);have NB546_555:=zL BK546 hg;have NB555_546:=zG BK546 hg;replace BK546:=zY BK546 hb;clear hb hbox hg;have hnb26:=NB555_546.out;have hnc26:=NB546_555.out;obtain⟨hcz27_0,hcz27_1,hcz27_2,hcz27_3,hfz27_0,hfz27_1,hfz27_2,hfz27_3⟩:=zC4 BK555;obtain⟨hcz28_0,hcz28_1,hcz28_2,hcz28_3,hfz28_0,hfz28_1,hfz28_2,hfz28_3⟩:=zC4 BK546)|(go_at_call 33;(with_reducible refine(impl_WordOk.calls t542 t543 t544 t545 t556 _ A23.out).mono ?_);rintro e w29 ⟨rfl,hb⟩;replace BK546:=qaj.mk (qah (g:=gb546) (o:=.cells #[.int .i64 t542,.int .i64 t543,.int .i64 t544,.int .i64 t545] 39 (0,0)) (za5 NB546_555 BK546) hb);replace BK555:=qaj.mk (qah (g:=gb555) (o:=.cells #[.int .i64 t550,.int .i64 t551,.int .i64 t552,.int .i64 t553] 39 (0,0)) (by(with_reducible repeat(first|refine qac ?_ _|refine qad ?_|refine qab ?_ _));refine qaf (cs:=#[.int .i64 t550,.int .i64 t551,.int .i64 t552,.int .i64 0]) ?_ 3 _ rfl;(with_reducible repeat(first|refine qac ?_ _|refine qad ?_|refine qab ?_ _));refine qaf (cs:=#[.int .i64 t550,.int .i64 t551,.int .i64 0,.int .i64 0]) ?_ 2 _ rfl;(with_reducible repeat(first|refine qac ?_ _|refine qad ?_|refine qab ?_ _));refine qaf (cs:=#[.int .i64 t550,.int .i64 0,.int .i64 0,.int .i64 0]) ?_ 1 _ rfl;(with_reducible repeat(first|refine qac ?_ _|refine qad ?_|refine qab ?_ _));refine qaf (cs:=#[.int .i64 0,.int .i64 0,.int .i64 0,.int .i64 0]) ?_ 0 _ rfl;(with_reducible repeat(first|refine qac ?_ _|refine qad ?_|refine qab ?_ _));exact BK555.out) hb);replace HB:=qaj.mk (qaa (za1 HB GE546 GE555) hb);(try clear hb)))
       go_ret;exact⟨za10,za1 HB GE546 GE555⟩
      ·rw[if_neg c22] at H
       have c22b0:(t550 == t542 && (t551 == t543 && (t552 == t544 && (t553 == t545))))=false:=by simpa using c22
       (try(have c22b1:decide (t550=t542 && (t551 == t543 && (t552 == t544 && (t553 == t545))))=false:=by simpa using c22));(try(have c22b2:(t550 == t542 && (t551 == t543 && (t552 == t544 && (t553 == t545))))=false:=by simpa using c22));(try(have c22b3:¬(t550=t542 && (t551 == t543 && (t552 == t544 && (t553 == t545)))):=by simpa using c22));clear c22;obtain rfl:=Option.some.inj H
       go_wp2_with(first|((with_reducible refine qae (f:=32) rfl ?_);refine zF (some 28) Tryd.func32 #[.string t547] ?_;(with_reducible refine(impl_WordRead.calls kj4 t547 t550 t551 t552 t553 true _ ?gw_ A20.out).mono ?_);(case gw_=>exact Tryd.GW.below HGW.out (za0 HB GE546));rintro e w30 ⟨rfl,hb⟩;refine⟨_,rfl,?_⟩;replace BK546:=zY BK546 hb;replace HB:=qaj.mk (qaa (za0 HB GE546) hb);(try clear hb))|((with_reducible refine qai (N:=5) rfl ?_);refine zX (N:=5) (cs:=#[.int .i64 0,.int .i64 0,.int .i64 0,.int .i64 0]) (t:=39) ?_;intro gb555 hg w31 hbox hb;have BK555:=qaj.mk hbox;have GW555:=zH (w:=w) hg (za0 HB GE546);have GE555:=GW555;replace HB:=qaj.mk (qaa (za0 HB GE546) hb);have NB546_555:=zL BK546 hg;have NB555_546:=zG BK546 hg;replace BK546:=zY BK546 hb;clear hb hbox hg;have hnb32:=NB555_546.out;have hnc32:=NB546_555.out;obtain⟨hcz33_0,hcz33_1,hcz33_2,hcz33_3,hfz33_0,hfz33_1,hfz33_2,hfz33_3⟩:=zC4 BK555;obtain⟨hcz34_0,hcz34_1,hcz34_2,hcz34_3,hfz34_0,hfz34_1,hfz34_2,hfz34_3⟩:=zC4 BK546))
       go_ret;exact⟨za10,za1 HB GE546 GE555⟩
     ·replace c21:=Bool.eq_false_iff.mpr c21;subst c21
      have H1:(some false)=some r:=by rw[if_neg (show ¬(false=true) by decide)] at H;exact H
      clear H;have H:=H1;clear H1;obtain rfl:=Option.some.inj H
      go_wp2_with(first|((with_reducible refine qae (f:=32) rfl ?_);refine zF (some 28) Tryd.func32 #[.string t547] ?_;(with_reducible refine(impl_WordRead.calls kj4 t547 t550 t551 t552 t553 false _ ?gw_ A20.out).mono ?_);(case gw_=>exact Tryd.GW.below HGW.out (za0 HB GE546));rintro e w35 ⟨rfl,hb⟩;refine⟨_,rfl,?_⟩;replace BK546:=zY BK546 hb;replace HB:=qaj.mk (qaa (za0 HB GE546) hb);(try clear hb))|((with_reducible refine qai (N:=5) rfl ?_);refine zX (N:=5) (cs:=#[.int .i64 0,.int .i64 0,.int .i64 0,.int .i64 0]) (t:=39) ?_;intro gb555 hg w36 hbox hb;have BK555:=qaj.mk hbox;have GW555:=zH (w:=w) hg (za0 HB GE546);have GE555:=GW555;replace HB:=qaj.mk (qaa (za0 HB GE546) hb);have NB546_555:=zL BK546 hg;have NB555_546:=zG BK546 hg;replace BK546:=zY BK546 hb;clear hb hbox hg;have hnb37:=NB555_546.out;have hnc37:=NB546_555.out;obtain⟨hcz38_0,hcz38_1,hcz38_2,hcz38_3,hfz38_0,hfz38_1,hfz38_2,hfz38_3⟩:=zC4 BK555))
      go_ret;exact⟨za10,za1 HB GE546 GE555⟩
def laws_FnWordBack.Pure:Prop:=∀(l0:List Int),l0.length≤maxLen→l0.length*1≤140737488351232→(∀x ∈ l0,(Lit.int .u8 x).wf=true)→∃k,laws_FnWordBack.f k l0=some true
theorem laws_FnWordBack.walk (P:laws_FnWordBack.Pure) (a0:Option Addr) (len0 cap0:Nat) (z0:List Int) (w:World) (w0:(a0=none∧len0=0∧cap0=0∧z0=[])∨∃x,a0=some x∧len0≤cap0∧cap0≤maxLen∧z0.length=cap0∧(∀i,i<z0.length→w.cell? (x.add i)=some (.int .u8 (z0.getD i 0)))∧∀n ∈ z0,(Lit.int .u8 n).wf=true) (y0:len0*1≤140737488351232) (hgw:Tryd.GW w) :
  Calls Tryd.prog 10 #[.slice a0 len0 cap0] w fun e w'=>e=.returned (.bool true)∧Below w.heap.size w w':=by
 obtain⟨l0,rfl,hr0,hm0,hw0,hc0⟩:=ReadsInt.ofRowC w0;obtain⟨k,h⟩:=P l0 hm0 y0 hw0;refine(laws_FnWordBack.calls k _ _ l0 true w (Kd.C_of_reads (d:=(0:Int)) (h1:=fun _=>rfl) hr0) hc0 hgw h).mono ?_;rintro e w' ⟨rfl,hd⟩;exact⟨rfl,hd⟩
end Go.Proofs.YtbcepmkifomifaaDoor.Print
