-- Written by squeeze.py, a program of this session, out of what print.sh and myprint.py had printed: cut to what is used, narrowed. Not trusted, Lean checks it.
import Derived.Test.YtkbjgmfghhgodaaZK
import Derived.Test.YtkbjgmfghhgodaaZb0
namespace Go.Proofs.Ytkbjgmfghhgodaa.Print
open Go.RowKit Go.Proofs.YtkbjgmfghhgodaaW.PrintWords Go.Proofs.YtkbjgmfghhgodaaW.PrintLast Go.Proofs.YtkbjgmfghhgodaaW.PrintMore
attribute [local go_sem] max2_int min2_int max_two min_two max_three min_three max_four min_four
set_option linter.unusedVariables false
set_option linter.unusedSimpArgs false
def spec_WordOk.j0:Nat→Bool→Int→Int→Int→Int→Option (Bool)
 |0,_,_,_,_,_=>none
 |k+1,x18,x102000,x102001,x102002,x102003=>if x18=true then(some false) else(if x102000=1 then((spec_l6In.f x102003 1 3).bind fun t105=>(some t105)) else(some (x102003 == 0)))
def spec_WordOk.f (k:Nat) (a0_0:Int) (a0_1:Int) (a0_2:Int) (a0_3:Int):Option (Bool):=(spec_l6In.f a0_1 1 3).bind fun t102=>(if t102=true then((spec_l6In.f a0_2 1 6).bind fun t103=>(if t103=true then((spec_l6In.f a0_0 1 7).bind fun t104=>(spec_WordOk.j0 k (!t104) a0_0 a0_1 a0_2 a0_3)) else(spec_WordOk.j0 k true a0_0 a0_1 a0_2 a0_3))) else(spec_WordOk.j0 k true a0_0 a0_1 a0_2 a0_3))
theorem spec_WordOk.mono_l:∀k,(∀y0 y1 y2 y3 y4,LeO (spec_WordOk.j0 k y0 y1 y2 y3 y4) (spec_WordOk.j0 (k+1) y0 y1 y2 y3 y4))
 |0=>fun _ _ _ _ _ r h=>by simp[spec_WordOk.j0] at h
 |k+1=>by
  have ih0:=spec_WordOk.mono_l k
  ·intro y0 y1 y2 y3 y4
   unfold spec_WordOk.j0
   repeat' first
   |(with_reducible exact ih0 _ _ _ _ _)
   |(with_reducible exact LeO.refl _)
   |(with_reducible exact LeO.none _)
   |(with_reducible refine LeO.ite ?_ ?_)
   |(with_reducible refine LeO.bind ?_ (fun _=>?_))
   |exact ih0 _ _ _ _ _
   |exact LeO.none _
   |refine LeO.ite ?_ ?_
   |refine LeO.bind ?_ (fun _=>?_)
theorem spec_WordOk.mono:∀a0 a1 a2 a3 k,LeO (spec_WordOk.f k a0 a1 a2 a3) (spec_WordOk.f (k+1) a0 a1 a2 a3):=by
 intro a0 a1 a2 a3 k
 have ih0:=spec_WordOk.mono_l k
 unfold spec_WordOk.f
 repeat' first
   |(with_reducible exact ih0 _ _ _ _ _)
   |(with_reducible exact LeO.refl _)
   |(with_reducible exact LeO.none _)
   |(with_reducible refine LeO.ite ?_ ?_)
   |(with_reducible refine LeO.bind ?_ (fun _=>?_))
   |exact ih0 _ _ _ _ _
   |exact LeO.none _
   |refine LeO.ite ?_ ?_
   |refine LeO.bind ?_ (fun _=>?_)
set_option maxHeartbeats 8000000 in
set_option maxRecDepth 100000 in
theorem spec_WordOk.calls (k:Nat) (a0_0:Int) (a0_1:Int) (a0_2:Int) (a0_3:Int) (r:Bool) (w:World) (h:spec_WordOk.f k a0_0 a0_1 a0_2 a0_3=some r) :
  Calls Try.prog 15 #[.agg #[.int .i64 a0_0,.int .i64 a0_1,.int .i64 a0_2,.int .i64 a0_3]] w fun e w'=>e=.returned (.bool r)∧Below w.heap.size w w':=by
 have hu26:=Try.underlying26
 have HB:=qbb.mk (Below.refl w.heap.size w)
 have H:((spec_l6In.f a0_1 1 3).bind fun t102=>(if t102=true then((spec_l6In.f a0_2 1 6).bind fun t103=>(if t103=true then((spec_l6In.f a0_0 1 7).bind fun t104=>(spec_WordOk.j0 k (!t104) a0_0 a0_1 a0_2 a0_3)) else(spec_WordOk.j0 k true a0_0 a0_1 a0_2 a0_3))) else(spec_WordOk.j0 k true a0_0 a0_1 a0_2 a0_3)))=some r:=h
 clear h
 have HC2:=qbb.mk H
 clear H
 go_enter Try.func15,Try.ntmps15
 go_upto_region 1 with(first|((with_reducible refine qav (N:=1) rfl ?_);refine qat ?hg (N:=1) ?hd (cs:=#[.int .i64 a0_0,.int .i64 a0_1,.int .i64 a0_2,.int .i64 a0_3]) (t:=26) ?hr ?_;(case hd=>rfl);(case hg=>rfl);(case hr=>first|(go_simp;done)|(go_simp;rfl));intro gb101 hg w3 hbox hb;have n0_:=qbb.mk (qak (by repeat(first|(with_reducible first|exact HB.out|apply qac|apply qaa|apply qab)|exact HB.out)) hb);have n1_:=qbb.mk (hbox);have n2_:=qbb.mk ((by rw[hg];exact(qaj (by repeat(first|(with_reducible first|exact HB.out|apply qac|apply qaa|apply qab)|exact HB.out))):w.heap.size≤gb101));have n3_:=qbb.mk ((by rw[hg];exact(qaj (by repeat(first|(with_reducible first|exact HB.out|apply qac|apply qaa|apply qab)|exact HB.out))):w.heap.size≤gb101));clear HB;have HB:=n0_;have BK101:=n1_;have GW101:=n2_;have GE101:=n3_;clear n0_ n1_ n2_ n3_;clear hb hbox hg))
 (try simp only[Act.put,List.setIfInBounds_toArray,List.set_cons_zero,List.set_cons_succ])
 go_cut [18] (fun v18 wc=>∃(kq:Nat) (x18_1:Bool),v18=.bool x18_1∧qbb (spec_WordOk.j0 kq x18_1 a0_0 a0_1 a0_2 a0_3=some r)∧qbb (kq≤k)∧qbb (wc.heap[gb101]?=some (.cells #[.int .i64 a0_0,.int .i64 a0_1,.int .i64 a0_2,.int .i64 a0_3] 26 (0,0)))∧qbb (Below w.heap.size w wc))
 case first=>
  have H:=HC2.out
  clear HC2
  replace H:=Option.bind_eq_some_iff.mp H
  obtain⟨t102,A40,H⟩:=H
  replace H:(if t102=true then((spec_l6In.f a0_2 1 6).bind fun t103=>(if t103=true then((spec_l6In.f a0_0 1 7).bind fun t104=>(spec_WordOk.j0 k (!t104) a0_0 a0_1 a0_2 a0_3)) else(spec_WordOk.j0 k true a0_0 a0_1 a0_2 a0_3))) else(spec_WordOk.j0 k true a0_0 a0_1 a0_2 a0_3))=some r:=H
  have A4:=qbb.mk A40
  clear A40
  by_cases c5:t102=true
  ·subst c5
   have H1:((spec_l6In.f a0_2 1 6).bind fun t103=>(if t103=true then((spec_l6In.f a0_0 1 7).bind fun t104=>(spec_WordOk.j0 k (!t104) a0_0 a0_1 a0_2 a0_3)) else(spec_WordOk.j0 k true a0_0 a0_1 a0_2 a0_3)))=some r:=by rw[if_pos rfl] at H;exact H
   clear H
   have H:=H1
   clear H1
   replace H:=Option.bind_eq_some_iff.mp H
   obtain⟨t103,A60,H⟩:=H
   replace H:(if t103=true then((spec_l6In.f a0_0 1 7).bind fun t104=>(spec_WordOk.j0 k (!t104) a0_0 a0_1 a0_2 a0_3)) else(spec_WordOk.j0 k true a0_0 a0_1 a0_2 a0_3))=some r:=H
   have A6:=qbb.mk A60
   clear A60
   by_cases c7:t103=true
   ·subst c7
    have H1:((spec_l6In.f a0_0 1 7).bind fun t104=>(spec_WordOk.j0 k (!t104) a0_0 a0_1 a0_2 a0_3))=some r:=by rw[if_pos rfl] at H;exact H
    clear H
    have H:=H1
    clear H1
    replace H:=Option.bind_eq_some_iff.mp H
    obtain⟨t104,A80,H⟩:=H
    replace H:(spec_WordOk.j0 k (!t104) a0_0 a0_1 a0_2 a0_3)=some r:=H
    have A8:=qbb.mk A80
    clear A80
    have H':=qbb.mk H
    clear H
    have hcz9_0:w3.cell? ⟨gb101,0,none⟩=some (.int .i64 a0_0):=(qai BK101.out 0).trans rfl
    have hcz9_1:w3.cell? ⟨gb101,1,none⟩=some (.int .i64 a0_1):=(qai BK101.out 1).trans rfl
    have hcz9_2:w3.cell? ⟨gb101,2,none⟩=some (.int .i64 a0_2):=(qai BK101.out 2).trans rfl
    have hcz9_3:w3.cell? ⟨gb101,3,none⟩=some (.int .i64 a0_3):=(qai BK101.out 3).trans rfl
    have hfz9_0:=qah BK101.out 0
    have hfz9_1:=qah BK101.out 1
    have hfz9_2:=qah BK101.out 2
    have hfz9_3:=qah BK101.out 3
    go_wp2_with(first|((with_reducible refine qao (f:=47) rfl ?_);refine qax (some 5) rfl rfl Try.func47 (by kernel_rfl) rfl #[.int .i64 a0_1,.int .i64 1,.int .i64 3] rfl (by(try simp only[List.map_toArray,List.map_cons,List.map_nil]);first|done|rfl|(simp only[List.length_drop,List.length_take];rfl)) ?_;(with_reducible refine(spec_l6In.calls a0_1 1 3 true _ A4.out).mono ?_);rintro e w' ⟨rfl,⟨nd,rfl⟩⟩;refine⟨_,rfl,?_⟩)|(go_at_call 47;(with_reducible refine(spec_l6In.calls a0_2 1 6 true _ A6.out).mono ?_);rintro e w' ⟨rfl,⟨nd,rfl⟩⟩)|(go_at_call 47;(with_reducible refine(spec_l6In.calls a0_0 1 7 t104 _ A8.out).mono ?_);rintro e w' ⟨rfl,⟨nd,rfl⟩⟩))
    go_meet
    case rel=>exact⟨_,(!t104),(by first|rfl|(simp;done)|(simp[*];done)),H',⟨by first|omega|exact Nat.le_refl _⟩,⟨by(with_reducible repeat(first|refine qae ?_ _|refine qaf ?_|refine qad ?_ _));exact BK101.out⟩,⟨by repeat(first|(with_reducible first|exact HB.out|apply qac|apply qaa|apply qab|refine qag ?_ GE101.out)|exact HB.out)⟩⟩
   ·replace c7:=Bool.eq_false_iff.mpr c7
    subst c7
    have H1:(spec_WordOk.j0 k true a0_0 a0_1 a0_2 a0_3)=some r:=by rw[if_neg (show ¬(false=true) by decide)] at H;exact H
    clear H
    have H:=H1
    clear H1
    have H':=qbb.mk H
    clear H
    have hcz10_0:w3.cell? ⟨gb101,0,none⟩=some (.int .i64 a0_0):=(qai BK101.out 0).trans rfl
    have hcz10_1:w3.cell? ⟨gb101,1,none⟩=some (.int .i64 a0_1):=(qai BK101.out 1).trans rfl
    have hcz10_2:w3.cell? ⟨gb101,2,none⟩=some (.int .i64 a0_2):=(qai BK101.out 2).trans rfl
    have hcz10_3:w3.cell? ⟨gb101,3,none⟩=some (.int .i64 a0_3):=(qai BK101.out 3).trans rfl
    have hfz10_0:=qah BK101.out 0
    have hfz10_1:=qah BK101.out 1
    have hfz10_2:=qah BK101.out 2
    have hfz10_3:=qah BK101.out 3
    go_wp2_with(first|((with_reducible refine qao (f:=47) rfl ?_);refine qax (some 5) rfl rfl Try.func47 (by kernel_rfl) rfl #[.int .i64 a0_1,.int .i64 1,.int .i64 3] rfl (by(try simp only[List.map_toArray,List.map_cons,List.map_nil]);first|done|rfl|(simp only[List.length_drop,List.length_take];rfl)) ?_;(with_reducible refine(spec_l6In.calls a0_1 1 3 true _ A4.out).mono ?_);rintro e w' ⟨rfl,⟨nd,rfl⟩⟩;refine⟨_,rfl,?_⟩)|(go_at_call 47;(with_reducible refine(spec_l6In.calls a0_2 1 6 false _ A6.out).mono ?_);rintro e w' ⟨rfl,⟨nd,rfl⟩⟩))
    go_meet
    case rel=>exact⟨_,(true),(by first|rfl|(simp;done)|(simp[*];done)),H',⟨by first|omega|exact Nat.le_refl _⟩,⟨by(with_reducible repeat(first|refine qae ?_ _|refine qaf ?_|refine qad ?_ _));exact BK101.out⟩,⟨by repeat(first|(with_reducible first|exact HB.out|apply qac|apply qaa|apply qab|refine qag ?_ GE101.out)|exact HB.out)⟩⟩
  ·replace c5:=Bool.eq_false_iff.mpr c5
   subst c5
   have H1:(spec_WordOk.j0 k true a0_0 a0_1 a0_2 a0_3)=some r:=by rw[if_neg (show ¬(false=true) by decide)] at H;exact H
   clear H
   have H:=H1
   clear H1
   have H':=qbb.mk H
   clear H
   have hcz11_0:w3.cell? ⟨gb101,0,none⟩=some (.int .i64 a0_0):=(qai BK101.out 0).trans rfl
   have hcz11_1:w3.cell? ⟨gb101,1,none⟩=some (.int .i64 a0_1):=(qai BK101.out 1).trans rfl
   have hcz11_2:w3.cell? ⟨gb101,2,none⟩=some (.int .i64 a0_2):=(qai BK101.out 2).trans rfl
   have hcz11_3:w3.cell? ⟨gb101,3,none⟩=some (.int .i64 a0_3):=(qai BK101.out 3).trans rfl
   have hfz11_0:=qah BK101.out 0
   have hfz11_1:=qah BK101.out 1
   have hfz11_2:=qah BK101.out 2
   have hfz11_3:=qah BK101.out 3
   go_wp2_with(first|((with_reducible refine qao (f:=47) rfl ?_);refine qax (some 5) rfl rfl Try.func47 (by kernel_rfl) rfl #[.int .i64 a0_1,.int .i64 1,.int .i64 3] rfl (by(try simp only[List.map_toArray,List.map_cons,List.map_nil]);first|done|rfl|(simp only[List.length_drop,List.length_take];rfl)) ?_;(with_reducible refine(spec_l6In.calls a0_1 1 3 false _ A4.out).mono ?_);rintro e w' ⟨rfl,⟨nd,rfl⟩⟩;refine⟨_,rfl,?_⟩))
   go_meet
   case rel=>exact⟨_,(true),(by first|rfl|(simp;done)|(simp[*];done)),H',⟨by first|omega|exact Nat.le_refl _⟩,⟨by(with_reducible repeat(first|refine qae ?_ _|refine qaf ?_|refine qad ?_ _));exact BK101.out⟩,⟨by repeat(first|(with_reducible first|exact HB.out|apply qac|apply qaa|apply qab|refine qag ?_ GE101.out)|exact HB.out)⟩⟩
 case rest=>
  clear HC2
  try clear c1
  try clear p2
  try clear c4
  try clear c5
  try clear c7
  try clear hcz10_0
  try clear hcz10_1
  try clear hcz10_2
  try clear hcz10_3
  try clear hcz11_0
  try clear hcz11_1
  try clear hcz11_2
  try clear hcz11_3
  try clear hcz9_0
  try clear hcz9_1
  try clear hcz9_2
  try clear hcz9_3
  try clear hfz10_0
  try clear hfz10_1
  try clear hfz10_2
  try clear hfz10_3
  try clear hfz11_0
  try clear hfz11_1
  try clear hfz11_2
  try clear hfz11_3
  try clear hfz9_0
  try clear hfz9_1
  try clear hfz9_2
  try clear hfz9_3
  obtain⟨kq,x18_1,rfl,HA,HJ1,BK101,HB⟩:=hcut
  cases kq with
  |zero=>exact absurd HA.out (by simp[spec_WordOk.j0])
  |succ kj1=>
   have H:=HA.out
   clear HA
   simp only[spec_WordOk.j0] at H
   by_cases c12:x18_1=true
   ·subst c12
    have H1:(some false)=some r:=by rw[if_pos rfl] at H;exact H
    clear H
    have H:=H1
    clear H1
    obtain rfl:=Option.some.inj H
    go_wp2
    go_ret
    exact⟨by first|rfl|(simp[qan,qam]<;>rfl)|(simp[*,qan,qam]<;>rfl),by repeat(first|(with_reducible first|exact HB.out|apply qac|apply qaa|apply qab|refine qag ?_ GE101.out)|exact HB.out)⟩
   ·replace c12:=Bool.eq_false_iff.mpr c12
    subst c12
    have H1:(if a0_0=1 then((spec_l6In.f a0_3 1 3).bind fun t105=>(some t105)) else(some (a0_3 == 0)))=some r:=by rw[if_neg (show ¬(false=true) by decide)] at H;exact H
    clear H
    have H:=H1
    clear H1
    by_cases c13:a0_0=1
    ·rw[if_pos c13] at H
     have c13b0:(a0_0 == 1)=true:=beq_iff_eq.mpr c13
     have c13b1:(a0_0 != 1)=false:=bne_eq_false_iff_eq.mpr c13
     clear c13
     replace H:=Option.bind_eq_some_iff.mp H
     obtain⟨t105,A140,H⟩:=H
     replace H:(some t105)=some r:=H
     have A14:=qbb.mk A140
     clear A140
     obtain rfl:=Option.some.inj H
     have hcz15_0:wc.cell? ⟨gb101,0,none⟩=some (.int .i64 a0_0):=(qai BK101.out 0).trans rfl
     have hcz15_1:wc.cell? ⟨gb101,1,none⟩=some (.int .i64 a0_1):=(qai BK101.out 1).trans rfl
     have hcz15_2:wc.cell? ⟨gb101,2,none⟩=some (.int .i64 a0_2):=(qai BK101.out 2).trans rfl
     have hcz15_3:wc.cell? ⟨gb101,3,none⟩=some (.int .i64 a0_3):=(qai BK101.out 3).trans rfl
     have hfz15_0:=qah BK101.out 0
     have hfz15_1:=qah BK101.out 1
     have hfz15_2:=qah BK101.out 2
     have hfz15_3:=qah BK101.out 3
     go_wp2_with(first|((with_reducible refine qao (f:=47) rfl ?_);refine qax (some 24) rfl rfl Try.func47 (by kernel_rfl) rfl #[.int .i64 a0_3,.int .i64 1,.int .i64 3] rfl (by(try simp only[List.map_toArray,List.map_cons,List.map_nil]);first|done|rfl|(simp only[List.length_drop,List.length_take];rfl)) ?_;(with_reducible refine(spec_l6In.calls a0_3 1 3 t105 _ A14.out).mono ?_);rintro e w' ⟨rfl,⟨nd,rfl⟩⟩;refine⟨_,rfl,?_⟩))
     go_ret
     exact⟨by first|rfl|(simp[qan,qam]<;>rfl)|(simp[*,qan,qam]<;>rfl),by repeat(first|(with_reducible first|exact HB.out|apply qac|apply qaa|apply qab|refine qag ?_ GE101.out)|exact HB.out)⟩
    ·rw[if_neg c13] at H
     have c13b0:(a0_0 == 1)=false:=beq_eq_false_iff_ne.mpr c13
     have c13b1:(a0_0 != 1)=true:=bne_iff_ne.mpr c13
     obtain rfl:=Option.some.inj H
     have hcz16_0:wc.cell? ⟨gb101,0,none⟩=some (.int .i64 a0_0):=(qai BK101.out 0).trans rfl
     have hcz16_1:wc.cell? ⟨gb101,1,none⟩=some (.int .i64 a0_1):=(qai BK101.out 1).trans rfl
     have hcz16_2:wc.cell? ⟨gb101,2,none⟩=some (.int .i64 a0_2):=(qai BK101.out 2).trans rfl
     have hcz16_3:wc.cell? ⟨gb101,3,none⟩=some (.int .i64 a0_3):=(qai BK101.out 3).trans rfl
     have hfz16_0:=qah BK101.out 0
     have hfz16_1:=qah BK101.out 1
     have hfz16_2:=qah BK101.out 2
     have hfz16_3:=qah BK101.out 3
     go_wp2
     go_ret
     exact⟨by first|rfl|(simp[qan,qam]<;>rfl)|(simp[*,qan,qam]<;>rfl),by repeat(first|(with_reducible first|exact HB.out|apply qac|apply qaa|apply qab|refine qag ?_ GE101.out)|exact HB.out)⟩
def laws_toWord.f (a0_0:Int) (a0_1:Int) (a0_2:Int) (a0_3:Int):Option (Int × Int × Int × Int):=some (a0_0,a0_1,a0_2,a0_3)
set_option maxHeartbeats 8000000 in
set_option maxRecDepth 100000 in
theorem laws_toWord.calls (a0_0:Int) (a0_1:Int) (a0_2:Int) (a0_3:Int) (r1:Int) (r2:Int) (r3:Int) (r4:Int) (w:World) (h:laws_toWord.f a0_0 a0_1 a0_2 a0_3=some (r1,r2,r3,r4)) :
  Calls Try.prog 16 #[.agg #[.int .i64 a0_0,.int .i64 a0_1,.int .i64 a0_2,.int .i64 a0_3]] w fun e w'=>e=.returned (.agg #[.int .i64 r1,.int .i64 r2,.int .i64 r3,.int .i64 r4])∧Below w.heap.size w w':=by
 have hu24:=Try.underlying24
 have hu26:=Try.underlying26
 have HB:=qbb.mk (Below.refl w.heap.size w)
 have H:(some (a0_0,a0_1,a0_2,a0_3))=some (r1,r2,r3,r4):=h
 clear h
 simp only[Option.some.injEq,Prod.mk.injEq] at H
 obtain⟨rfl,rfl,rfl,rfl⟩:=H
 go_enter Try.func16,Try.ntmps16
 go_wp2_with(first|((with_reducible refine qav (N:=1) rfl ?_);refine qat ?hg (N:=1) ?hd (cs:=#[.int .i64 a0_0,.int .i64 a0_1,.int .i64 a0_2,.int .i64 a0_3]) (t:=24) ?hr ?_;(case hd=>rfl);(case hg=>rfl);(case hr=>first|(go_simp;done)|(go_simp;rfl));intro gb106 hg w2 hbox hb;have n0_:=qbb.mk (qak (by repeat(first|(with_reducible first|exact HB.out|apply qac|apply qaa|apply qab)|exact HB.out)) hb);have n1_:=qbb.mk (hbox);have n2_:=qbb.mk ((by rw[hg];exact(qaj (by repeat(first|(with_reducible first|exact HB.out|apply qac|apply qaa|apply qab)|exact HB.out))):w.heap.size≤gb106));have n3_:=qbb.mk ((by rw[hg];exact(qaj (by repeat(first|(with_reducible first|exact HB.out|apply qac|apply qaa|apply qab)|exact HB.out))):w.heap.size≤gb106));clear HB;have HB:=n0_;have BK106:=n1_;have GW106:=n2_;have GE106:=n3_;clear n0_ n1_ n2_ n3_;clear hb hbox hg)|((with_reducible refine qav (N:=2) rfl ?_);refine qat ?hg (N:=2) ?hd (cs:=#[.int .i64 0,.int .i64 0,.int .i64 0,.int .i64 0]) (t:=26) ?hr ?_;(case hd=>rfl);(case hg=>rfl);(case hr=>first|(go_simp;done)|(go_simp;rfl));intro gb107 hg w3 hbox hb;have n0_:=qbb.mk (qal (g:=gb106) (o:=.cells #[.int .i64 a0_0,.int .i64 a0_1,.int .i64 a0_2,.int .i64 a0_3] 24 (0,0)) (by(with_reducible repeat(first|refine qae ?_ _|refine qaf ?_|refine qad ?_ _));exact BK106.out) hb);have n1_:=qbb.mk (qak (by repeat(first|(with_reducible first|exact HB.out|apply qac|apply qaa|apply qab|refine qag ?_ GE106.out)|exact HB.out)) hb);have n2_:=qbb.mk (hbox);have n3_:=qbb.mk ((by rw[hg];exact(qaj (by repeat(first|(with_reducible first|exact HB.out|apply qac|apply qaa|apply qab|refine qag ?_ GE106.out)|exact HB.out))):w.heap.size≤gb107));have n4_:=qbb.mk ((by rw[hg];exact(qaj (by repeat(first|(with_reducible first|exact HB.out|apply qac|apply qaa|apply qab|refine qag ?_ GE106.out)|exact HB.out))):w.heap.size≤gb107));have n5_:=qbb.mk ((by rw[hg];exact Nat.ne_of_lt (qbc (g:=gb106) (o:=.cells #[.int .i64 a0_0,.int .i64 a0_1,.int .i64 a0_2,.int .i64 a0_3] 24 (0,0)) (by(with_reducible repeat(first|refine qae ?_ _|refine qaf ?_|refine qad ?_ _));exact BK106.out)):gb106≠gb107));have n6_:=qbb.mk ((by rw[hg];exact Nat.ne_of_gt (qbc (g:=gb106) (o:=.cells #[.int .i64 a0_0,.int .i64 a0_1,.int .i64 a0_2,.int .i64 a0_3] 24 (0,0)) (by(with_reducible repeat(first|refine qae ?_ _|refine qaf ?_|refine qad ?_ _));exact BK106.out)):gb107≠gb106));clear BK106;clear HB;have BK106:=n0_;have HB:=n1_;have BK107:=n2_;have GW107:=n3_;have GE107:=n4_;have NB106_107:=n5_;have NB107_106:=n6_;clear n0_ n1_ n2_ n3_ n4_ n5_ n6_;clear hb hbox hg)|((with_reducible refine qav (N:=3) rfl ?_);refine qat ?hg (N:=3) ?hd (cs:=#[.int .i64 0,.int .i64 0,.int .i64 0,.int .i64 0]) (t:=26) ?hr ?_;(case hd=>rfl);(case hg=>rfl);(case hr=>first|(go_simp;done)|(go_simp;rfl));intro gb108 hg w4 hbox hb;have n0_:=qbb.mk (qal (g:=gb106) (o:=.cells #[.int .i64 a0_0,.int .i64 a0_1,.int .i64 a0_2,.int .i64 a0_3] 24 (0,0)) (by(with_reducible repeat(first|refine qae ?_ _|refine qaf ?_|refine qad ?_ _));exact BK106.out) hb);have n1_:=qbb.mk (qal (g:=gb107) (o:=.cells #[.int .i64 0,.int .i64 0,.int .i64 0,.int .i64 0] 26 (0,0)) (by(with_reducible repeat(first|refine qae ?_ _|refine qaf ?_|refine qad ?_ _));exact BK107.out) hb);have n2_:=qbb.mk (qak (by repeat(first|(with_reducible first|exact HB.out|apply qac|apply qaa|apply qab|refine qag ?_ GE106.out|refine qag ?_ GE107.out)|exact HB.out)) hb);have n3_:=qbb.mk (hbox);have n4_:=qbb.mk ((by rw[hg];exact(qaj (by repeat(first|(with_reducible first|exact HB.out|apply qac|apply qaa|apply qab|refine qag ?_ GE106.out|refine qag ?_ GE107.out)|exact HB.out))):w.heap.size≤gb108));have n5_:=qbb.mk ((by rw[hg];exact(qaj (by repeat(first|(with_reducible first|exact HB.out|apply qac|apply qaa|apply qab|refine qag ?_ GE106.out|refine qag ?_ GE107.out)|exact HB.out))):w.heap.size≤gb108));have n6_:=qbb.mk ((by rw[hg];exact Nat.ne_of_lt (qbc (g:=gb106) (o:=.cells #[.int .i64 a0_0,.int .i64 a0_1,.int .i64 a0_2,.int .i64 a0_3] 24 (0,0)) (by(with_reducible repeat(first|refine qae ?_ _|refine qaf ?_|refine qad ?_ _));exact BK106.out)):gb106≠gb108));have n7_:=qbb.mk ((by rw[hg];exact Nat.ne_of_gt (qbc (g:=gb106) (o:=.cells #[.int .i64 a0_0,.int .i64 a0_1,.int .i64 a0_2,.int .i64 a0_3] 24 (0,0)) (by(with_reducible repeat(first|refine qae ?_ _|refine qaf ?_|refine qad ?_ _));exact BK106.out)):gb108≠gb106));have n8_:=qbb.mk ((by rw[hg];exact Nat.ne_of_lt (qbc (g:=gb107) (o:=.cells #[.int .i64 0,.int .i64 0,.int .i64 0,.int .i64 0] 26 (0,0)) (by(with_reducible repeat(first|refine qae ?_ _|refine qaf ?_|refine qad ?_ _));exact BK107.out)):gb107≠gb108));have n9_:=qbb.mk ((by rw[hg];exact Nat.ne_of_gt (qbc (g:=gb107) (o:=.cells #[.int .i64 0,.int .i64 0,.int .i64 0,.int .i64 0] 26 (0,0)) (by(with_reducible repeat(first|refine qae ?_ _|refine qaf ?_|refine qad ?_ _));exact BK107.out)):gb108≠gb107));clear BK106;clear BK107;clear HB;have BK106:=n0_;have BK107:=n1_;have HB:=n2_;have BK108:=n3_;have GW108:=n4_;have GE108:=n5_;have NB106_108:=n6_;have NB108_106:=n7_;have NB107_108:=n8_;have NB108_107:=n9_;clear n0_ n1_ n2_ n3_ n4_ n5_ n6_ n7_ n8_ n9_;clear hb hbox hg;have hnb5:=NB106_107.out;have hnc5:=NB107_106.out;have hnb6:=NB106_108.out;have hnc6:=NB108_106.out;have hcz7_0:w4.cell? ⟨gb106,0,none⟩=some (.int .i64 a0_0):=(qai BK106.out 0).trans rfl;have hcz7_1:w4.cell? ⟨gb106,1,none⟩=some (.int .i64 a0_1):=(qai BK106.out 1).trans rfl;have hcz7_2:w4.cell? ⟨gb106,2,none⟩=some (.int .i64 a0_2):=(qai BK106.out 2).trans rfl;have hcz7_3:w4.cell? ⟨gb106,3,none⟩=some (.int .i64 a0_3):=(qai BK106.out 3).trans rfl;have hfz7_0:=qah BK106.out 0;have hfz7_1:=qah BK106.out 1;have hfz7_2:=qah BK106.out 2;have hfz7_3:=qah BK106.out 3;have hnb8:=NB108_107.out;have hnc8:=NB107_108.out;have hcz9_0:w4.cell? ⟨gb108,0,none⟩=some (.int .i64 0):=(qai BK108.out 0).trans rfl;have hcz9_1:w4.cell? ⟨gb108,1,none⟩=some (.int .i64 0):=(qai BK108.out 1).trans rfl;have hcz9_2:w4.cell? ⟨gb108,2,none⟩=some (.int .i64 0):=(qai BK108.out 2).trans rfl;have hcz9_3:w4.cell? ⟨gb108,3,none⟩=some (.int .i64 0):=(qai BK108.out 3).trans rfl;have hfz9_0:=qah BK108.out 0;have hfz9_1:=qah BK108.out 1;have hfz9_2:=qah BK108.out 2;have hfz9_3:=qah BK108.out 3;have hcz10_0:w4.cell? ⟨gb107,0,none⟩=some (.int .i64 0):=(qai BK107.out 0).trans rfl;have hcz10_1:w4.cell? ⟨gb107,1,none⟩=some (.int .i64 0):=(qai BK107.out 1).trans rfl;have hcz10_2:w4.cell? ⟨gb107,2,none⟩=some (.int .i64 0):=(qai BK107.out 2).trans rfl;have hcz10_3:w4.cell? ⟨gb107,3,none⟩=some (.int .i64 0):=(qai BK107.out 3).trans rfl;have hfz10_0:=qah BK107.out 0;have hfz10_1:=qah BK107.out 1;have hfz10_2:=qah BK107.out 2;have hfz10_3:=qah BK107.out 3))
 refine bodyPost_ret (results_cell_row rfl _ _ gb107 26 #[.int .i64 a0_0,.int .i64 a0_1,.int .i64 a0_2,.int .i64 a0_3] (0,0) _ rfl (by(with_reducible repeat(first|refine qae ?_ _|refine qaf ?_|refine qad ?_ _));refine qaq (cs:=#[.int .i64 a0_0,.int .i64 a0_1,.int .i64 a0_2,.int .i64 0]) ?_ 3 _ rfl;(with_reducible repeat(first|refine qae ?_ _|refine qaf ?_|refine qad ?_ _));refine qaq (cs:=#[.int .i64 a0_0,.int .i64 a0_1,.int .i64 0,.int .i64 0]) ?_ 2 _ rfl;(with_reducible repeat(first|refine qae ?_ _|refine qaf ?_|refine qad ?_ _));refine qaq (cs:=#[.int .i64 a0_0,.int .i64 0,.int .i64 0,.int .i64 0]) ?_ 1 _ rfl;(with_reducible repeat(first|refine qae ?_ _|refine qaf ?_|refine qad ?_ _));refine qaq (cs:=#[.int .i64 0,.int .i64 0,.int .i64 0,.int .i64 0]) ?_ 0 _ rfl;(with_reducible repeat(first|refine qae ?_ _|refine qaf ?_|refine qad ?_ _));refine qap ?_ NB107_108.out _;(with_reducible repeat(first|refine qae ?_ _|refine qaf ?_|refine qad ?_ _));refine qap ?_ NB107_108.out _;(with_reducible repeat(first|refine qae ?_ _|refine qaf ?_|refine qad ?_ _));refine qap ?_ NB107_108.out _;(with_reducible repeat(first|refine qae ?_ _|refine qaf ?_|refine qad ?_ _));refine qap ?_ NB107_108.out _;(with_reducible repeat(first|refine qae ?_ _|refine qaf ?_|refine qad ?_ _));exact BK107.out) Try.underlying26 rfl (by kernel_rfl)) rfl ?_
 exact⟨by first|rfl|(simp[qan,qam]<;>rfl)|(simp[*,qan,qam]<;>rfl),by repeat(first|(with_reducible first|exact HB.out|apply qac|apply qaa|apply qab|refine qag ?_ GE106.out|refine qag ?_ GE107.out|refine qag ?_ GE108.out)|exact HB.out)⟩
def impl_isHouse.f (a0:Int):Option (Bool):=(impl_in.f a0 1 3).bind fun t109=>(some t109)
set_option maxHeartbeats 8000000 in
set_option maxRecDepth 100000 in
theorem impl_isHouse.calls (a0:Int) (r:Bool) (w:World) (h:impl_isHouse.f a0=some r) :
  Calls Try.prog 49 #[.int .i64 a0] w fun e w'=>e=.returned (.bool r)∧Drawn0 w w':=by
 have H:((impl_in.f a0 1 3).bind fun t109=>(some t109))=some r:=h
 clear h
 replace H:=Option.bind_eq_some_iff.mp H
 obtain⟨t109,A20,H⟩:=H
 replace H:(some t109)=some r:=H
 have A2:=qbb.mk A20
 clear A20
 obtain rfl:=Option.some.inj H
 go_enter Try.func49,Try.ntmps49
 go_wp2_with(first|((with_reducible refine qao (f:=48) rfl ?_);refine qax (some 4) rfl rfl Try.func48 (by kernel_rfl) rfl #[.int .i64 a0,.int .i64 1,.int .i64 3] rfl (by(try simp only[List.map_toArray,List.map_cons,List.map_nil]);first|done|rfl|(simp only[List.length_drop,List.length_take];rfl)) ?_;(with_reducible refine(impl_in.calls a0 1 3 t109 _ A2.out).mono ?_);rintro e w' ⟨rfl,⟨nd,rfl⟩⟩;refine⟨_,rfl,?_⟩))
 go_ret
 exact⟨by first|rfl|(simp;done)|(simp[*];done),by repeat(first|exact Drawn0.refl _|apply Drawn0.step)⟩
end Go.Proofs.Ytkbjgmfghhgodaa.Print
