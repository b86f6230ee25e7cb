-- Written by squeeze.py: not trusted, Lean checks it.
import Derived.Test.YtbcepmkifomifaaDoorZK
import Derived.Test.YtbcepmkifomifaaDoorZe0
namespace Go.Proofs.YtbcepmkifomifaaDoor.Print
open Go.RowKit Go.Proofs.YtbcepmkifomifaaDoorW.PrintWords Go.Proofs.YtbcepmkifomifaaDoorW.PrintLast Go.Proofs.YtbcepmkifomifaaDoorW.PrintMore
attribute [local go_sem] max2_int min2_int max_two min_two max_three min_three max_four min_four
set_option linter.unusedVariables false
set_option linter.unusedSimpArgs false
def spec_WordOk.j0:Nat→Bool→Int→Int→Int→Int→Option (Bool)
 |0,_,_,_,_,_=>none
 |k+1,x18,x387000,x387001,x387002,x387003=>if x18=true then(some false) else(if x387000=1 then((spec_l6In.f x387003 1 3).bind fun t390=>(some t390)) else(some (x387003 == 0)))
def spec_WordOk.f (k:Nat) (a0_0:Int) (a0_1:Int) (a0_2:Int) (a0_3:Int):Option (Bool):=(spec_l6In.f a0_1 1 3).bind fun t387=>(if t387=true then((spec_l6In.f a0_2 1 6).bind fun t388=>(if t388=true then((spec_l6In.f a0_0 1 7).bind fun t389=>(spec_WordOk.j0 k (!t389) a0_0 a0_1 a0_2 a0_3)) else(spec_WordOk.j0 k true a0_0 a0_1 a0_2 a0_3))) else(spec_WordOk.j0 k true a0_0 a0_1 a0_2 a0_3))
theorem spec_WordOk.mono_l:∀k,(∀y0 y1 y2 y3 y4,LeO (spec_WordOk.j0 k y0 y1 y2 y3 y4) (spec_WordOk.j0 (k+1) y0 y1 y2 y3 y4))
 |0=>fun _ _ _ _ _ r h=>by simp[spec_WordOk.j0] at h
 |k+1=>by
  have ih0:=spec_WordOk.mono_l k
  ·intro y0 y1 y2 y3 y4;unfold spec_WordOk.j0
   repeat' first|(with_reducible exact ih0 _ _ _ _ _)|(with_reducible exact LeO.refl _)|(with_reducible exact LeO.none _)|(with_reducible refine LeO.ite ?_ ?_)|(with_reducible refine LeO.bind ?_ (fun _=>?_))|exact ih0 _ _ _ _ _|exact LeO.none _|refine LeO.ite ?_ ?_|refine LeO.bind ?_ (fun _=>?_)
theorem spec_WordOk.mono:∀a0 a1 a2 a3 k,LeO (spec_WordOk.f k a0 a1 a2 a3) (spec_WordOk.f (k+1) a0 a1 a2 a3):=by
 intro a0 a1 a2 a3 k;have ih0:=spec_WordOk.mono_l k;unfold spec_WordOk.f
 repeat' first|(with_reducible exact ih0 _ _ _ _ _)|(with_reducible exact LeO.refl _)|(with_reducible exact LeO.none _)|(with_reducible refine LeO.ite ?_ ?_)|(with_reducible refine LeO.bind ?_ (fun _=>?_))|exact ih0 _ _ _ _ _|exact LeO.none _|refine LeO.ite ?_ ?_|refine LeO.bind ?_ (fun _=>?_)
set_option maxHeartbeats 8000000 in
set_option maxRecDepth 100000 in
theorem spec_WordOk.calls (k:Nat) (a0_0:Int) (a0_1:Int) (a0_2:Int) (a0_3:Int) (r:Bool) (w:World) (h:spec_WordOk.f k a0_0 a0_1 a0_2 a0_3=some r) :
  Calls Tryd.prog 57 #[.agg #[.int .i64 a0_0,.int .i64 a0_1,.int .i64 a0_2,.int .i64 a0_3]] w fun e w'=>e=.returned (.bool r)∧Below w.heap.size w w':=by
 have hu39:=Tryd.underlying39;have HB:=qaj.mk (Below.refl w.heap.size w);have H:((spec_l6In.f a0_1 1 3).bind fun t387=>(if t387=true then((spec_l6In.f a0_2 1 6).bind fun t388=>(if t388=true then((spec_l6In.f a0_0 1 7).bind fun t389=>(spec_WordOk.j0 k (!t389) a0_0 a0_1 a0_2 a0_3)) else(spec_WordOk.j0 k true a0_0 a0_1 a0_2 a0_3))) else(spec_WordOk.j0 k true a0_0 a0_1 a0_2 a0_3)))=some r:=h;clear h;have HC2:=qaj.mk H;clear H;go_enter Tryd.func57,Tryd.ntmps57
 go_upto_region 1 with(first|((with_reducible refine qai (N:=1) rfl ?_);refine zX (N:=1) (cs:=#[.int .i64 a0_0,.int .i64 a0_1,.int .i64 a0_2,.int .i64 a0_3]) (t:=39) ?_;intro gb386 hg w3 hbox hb;have BK386:=qaj.mk hbox;have GW386:=zH (w:=w) hg (za2 HB);have GE386:=GW386;replace HB:=qaj.mk (qaa (za2 HB) hb);clear hb hbox hg))
 (try simp only[Act.put,List.setIfInBounds_toArray,List.set_cons_zero,List.set_cons_succ])
 go_cut [18] (fun v18 wc=>∃(kq:Nat) (x18_1:Bool),v18=.bool x18_1∧qaj (spec_WordOk.j0 kq x18_1 a0_0 a0_1 a0_2 a0_3=some r)∧qaj (kq≤k)∧qaj (wc.heap[gb386]?=some (.cells #[.int .i64 a0_0,.int .i64 a0_1,.int .i64 a0_2,.int .i64 a0_3] 39 (0,0)))∧qaj (Below w.heap.size w wc))
 case first=>
  have H:=HC2.out;clear HC2;replace H:=Option.bind_eq_some_iff.mp H;obtain⟨t387,A40,H⟩:=H;replace H:(if t387=true then((spec_l6In.f a0_2 1 6).bind fun t388=>(if t388=true then((spec_l6In.f a0_0 1 7).bind fun t389=>(spec_WordOk.j0 k (!t389) a0_0 a0_1 a0_2 a0_3)) else(spec_WordOk.j0 k true a0_0 a0_1 a0_2 a0_3))) else(spec_WordOk.j0 k true a0_0 a0_1 a0_2 a0_3))=some r:=H;have A4:=qaj.mk A40;clear A40;by_cases c5:t387=true
  ·subst c5
   have H1:((spec_l6In.f a0_2 1 6).bind fun t388=>(if t388=true then((spec_l6In.f a0_0 1 7).bind fun t389=>(spec_WordOk.j0 k (!t389) a0_0 a0_1 a0_2 a0_3)) else(spec_WordOk.j0 k true a0_0 a0_1 a0_2 a0_3)))=some r:=by rw[if_pos rfl] at H;exact H
   clear H;have H:=H1;clear H1;replace H:=Option.bind_eq_some_iff.mp H;obtain⟨t388,A60,H⟩:=H;replace H:(if t388=true then((spec_l6In.f a0_0 1 7).bind fun t389=>(spec_WordOk.j0 k (!t389) a0_0 a0_1 a0_2 a0_3)) else(spec_WordOk.j0 k true a0_0 a0_1 a0_2 a0_3))=some r:=H;have A6:=qaj.mk A60;clear A60;by_cases c7:t388=true
   ·subst c7
    have H1:((spec_l6In.f a0_0 1 7).bind fun t389=>(spec_WordOk.j0 k (!t389) a0_0 a0_1 a0_2 a0_3))=some r:=by rw[if_pos rfl] at H;exact H
    clear H;have H:=H1;clear H1;replace H:=Option.bind_eq_some_iff.mp H;obtain⟨t389,A80,H⟩:=H;replace H:(spec_WordOk.j0 k (!t389) a0_0 a0_1 a0_2 a0_3)=some r:=H;have A8:=qaj.mk A80;clear A80;have H':=qaj.mk H;clear H;obtain⟨hcz9_0,hcz9_1,hcz9_2,hcz9_3,hfz9_0,hfz9_1,hfz9_2,hfz9_3⟩:=zC4 BK386
    go_wp2_with(first|((with_reducible refine qae (f:=64) rfl ?_);refine zF (some 5) Tryd.func64 #[.int .i64 a0_1,.int .i64 1,.int .i64 3] ?_;(with_reducible refine(spec_l6In.calls a0_1 1 3 true _ A4.out).mono ?_);rintro e w' ⟨rfl,⟨nd,rfl⟩⟩;refine⟨_,rfl,?_⟩)|(go_at_call 64;(with_reducible refine(spec_l6In.calls a0_2 1 6 true _ A6.out).mono ?_);rintro e w' ⟨rfl,⟨nd,rfl⟩⟩)|(go_at_call 64;(with_reducible refine(spec_l6In.calls a0_0 1 7 t389 _ A8.out).mono ?_);rintro e w' ⟨rfl,⟨nd,rfl⟩⟩))
    go_meet
    case rel=>exact⟨_,(!t389),(za23),H',⟨za34⟩,⟨za18 BK386⟩,⟨za0 HB GE386⟩⟩
   ·replace c7:=Bool.eq_false_iff.mpr c7;subst c7
    have H1:(spec_WordOk.j0 k true a0_0 a0_1 a0_2 a0_3)=some r:=by rw[if_neg (show ¬(false=true) by decide)] at H;exact H
    clear H;have H:=H1;clear H1;have H':=qaj.mk H;clear H;obtain⟨hcz10_0,hcz10_1,hcz10_2,hcz10_3,hfz10_0,hfz10_1,hfz10_2,hfz10_3⟩:=zC4 BK386
    go_wp2_with(first|((with_reducible refine qae (f:=64) rfl ?_);refine zF (some 5) Tryd.func64 #[.int .i64 a0_1,.int .i64 1,.int .i64 3] ?_;(with_reducible refine(spec_l6In.calls a0_1 1 3 true _ A4.out).mono ?_);rintro e w' ⟨rfl,⟨nd,rfl⟩⟩;refine⟨_,rfl,?_⟩)|(go_at_call 64;(with_reducible refine(spec_l6In.calls a0_2 1 6 false _ A6.out).mono ?_);rintro e w' ⟨rfl,⟨nd,rfl⟩⟩))
    go_meet
    case rel=>exact⟨_,(true),(za23),H',⟨za34⟩,⟨za18 BK386⟩,⟨za0 HB GE386⟩⟩
  ·replace c5:=Bool.eq_false_iff.mpr c5;subst c5
   have H1:(spec_WordOk.j0 k true a0_0 a0_1 a0_2 a0_3)=some r:=by rw[if_neg (show ¬(false=true) by decide)] at H;exact H
   clear H;have H:=H1;clear H1;have H':=qaj.mk H;clear H;obtain⟨hcz11_0,hcz11_1,hcz11_2,hcz11_3,hfz11_0,hfz11_1,hfz11_2,hfz11_3⟩:=zC4 BK386
   go_wp2_with(first|((with_reducible refine qae (f:=64) rfl ?_);refine zF (some 5) Tryd.func64 #[.int .i64 a0_1,.int .i64 1,.int .i64 3] ?_;(with_reducible refine(spec_l6In.calls a0_1 1 3 false _ A4.out).mono ?_);rintro e w' ⟨rfl,⟨nd,rfl⟩⟩;refine⟨_,rfl,?_⟩))
   go_meet
   case rel=>exact⟨_,(true),(za23),H',⟨za34⟩,⟨za18 BK386⟩,⟨za0 HB GE386⟩⟩
 case rest=>
  clear HC2
  try clear p2
  try clear c5
  try clear c6
  try clear c7
  try clear hcz10_0
  try clear hcz10_1
  try clear hcz10_2
  try clear hcz10_3
  try clear hcz11_0
  try clear hcz11_1
  try clear hcz11_2
  try clear hcz11_3
  try clear hcz9_0
  try clear hcz9_1
  try clear hcz9_2
  try clear hcz9_3
  try clear hfz10_0
  try clear hfz10_1
  try clear hfz10_2
  try clear hfz10_3
  try clear hfz11_0
  try clear hfz11_1
  try clear hfz11_2
  try clear hfz11_3
  try clear hfz9_0
  try clear hfz9_1
  try clear hfz9_2
  try clear hfz9_3
  obtain⟨kq,x18_1,rfl,HA,HJ1,BK386,HB⟩:=hcut
  cases kq with
  |zero=>exact absurd HA.out (by simp[spec_WordOk.j0])
  |succ kj1=>
   have H:=HA.out;clear HA;simp only[spec_WordOk.j0] at H;by_cases c12:x18_1=true
   ·subst c12
    have H1:(some false)=some r:=by rw[if_pos rfl] at H;exact H
    clear H;have H:=H1;clear H1;obtain rfl:=Option.some.inj H;go_wp2;go_ret;exact⟨za10,za0 HB GE386⟩
   ·replace c12:=Bool.eq_false_iff.mpr c12;subst c12
    have H1:(if a0_0=1 then((spec_l6In.f a0_3 1 3).bind fun t390=>(some t390)) else(some (a0_3 == 0)))=some r:=by rw[if_neg (show ¬(false=true) by decide)] at H;exact H
    clear H;have H:=H1;clear H1;by_cases c13:a0_0=1
    ·rw[if_pos c13] at H;have c13b0:(a0_0 == 1)=true:=beq_iff_eq.mpr c13;have c13b1:(a0_0 != 1)=false:=bne_eq_false_iff_eq.mpr c13;clear c13;replace H:=Option.bind_eq_some_iff.mp H;obtain⟨t390,A140,H⟩:=H;replace H:(some t390)=some r:=H;have A14:=qaj.mk A140;clear A140;obtain rfl:=Option.some.inj H;obtain⟨hcz15_0,hcz15_1,hcz15_2,hcz15_3,hfz15_0,hfz15_1,hfz15_2,hfz15_3⟩:=zC4 BK386
     go_wp2_with(first|((with_reducible refine qae (f:=64) rfl ?_);refine zF (some 24) Tryd.func64 #[.int .i64 a0_3,.int .i64 1,.int .i64 3] ?_;(with_reducible refine(spec_l6In.calls a0_3 1 3 t390 _ A14.out).mono ?_);rintro e w' ⟨rfl,⟨nd,rfl⟩⟩;refine⟨_,rfl,?_⟩))
     go_ret;exact⟨za10,za0 HB GE386⟩
    ·rw[if_neg c13] at H;have c13b0:(a0_0 == 1)=false:=beq_eq_false_iff_ne.mpr c13;have c13b1:(a0_0 != 1)=true:=bne_iff_ne.mpr c13;obtain rfl:=Option.some.inj H;obtain⟨hcz16_0,hcz16_1,hcz16_2,hcz16_3,hfz16_0,hfz16_1,hfz16_2,hfz16_3⟩:=zC4 BK386;go_wp2;go_ret;exact⟨za10,za0 HB GE386⟩
def spec_l3Names.f :Option (List ByteArray):=some (([(⟨#[]⟩:ByteArray),(⟨#[104,111,108,100]⟩:ByteArray),(⟨#[99,108,111,115,101]⟩:ByteArray),(⟨#[117,110,100,111]⟩:ByteArray),(⟨#[104,101,108,100]⟩:ByteArray),(⟨#[102,117,108,108]⟩:ByteArray),(⟨#[99,108,111,115,101,100]⟩:ByteArray),(⟨#[117,110,100,111,110,101]⟩:ByteArray)]:List ByteArray))
set_option maxHeartbeats 8000000 in
set_option maxRecDepth 100000 in
theorem spec_l3Names.calls  (r:List ByteArray) (w:World) (h:spec_l3Names.f =some r) :
  Calls Tryd.prog 58 #[] w fun e w'=>∃v0_:Value,e=.returned (v0_)∧Kd.R Kd.string 9 w' w.heap.size (fun _=>True) v0_ r∧Below w.heap.size w w':=by
 have HB:=qaj.mk (Below.refl w.heap.size w);have H:(some (([(⟨#[]⟩:ByteArray),(⟨#[104,111,108,100]⟩:ByteArray),(⟨#[99,108,111,115,101]⟩:ByteArray),(⟨#[117,110,100,111]⟩:ByteArray),(⟨#[104,101,108,100]⟩:ByteArray),(⟨#[102,117,108,108]⟩:ByteArray),(⟨#[99,108,111,115,101,100]⟩:ByteArray),(⟨#[117,110,100,111,110,101]⟩:ByteArray)]:List ByteArray)))=some r:=h;clear h;obtain⟨y391,hy391⟩:∃y_:List ByteArray,y_=(([(⟨#[]⟩:ByteArray),(⟨#[104,111,108,100]⟩:ByteArray),(⟨#[99,108,111,115,101]⟩:ByteArray),(⟨#[117,110,100,111]⟩:ByteArray),(⟨#[104,101,108,100]⟩:ByteArray),(⟨#[102,117,108,108]⟩:ByteArray),(⟨#[99,108,111,115,101,100]⟩:ByteArray),(⟨#[117,110,100,111,110,101]⟩:ByteArray)]:List ByteArray)):=⟨_,rfl⟩
 replace H:(some y391)=some r:=by first|(rw[hy391];with_reducible exact H)|(have H2_:=(Option.bind_some _ _).symm.trans H;rw[hy391];with_reducible exact H2_)|(have H2_:=(Option.bind_some _ _).symm.trans H;with_reducible exact H2_)|with_reducible exact H|(rw[hy391];exact H)|exact H
 have Ny391:=qaj.mk hy391;clear hy391;obtain rfl:=Option.some.inj H;go_enter Tryd.func58,Tryd.ntmps58
 go_wp2_with(first|((with_reducible refine qai (N:=1) rfl ?_);refine Kd.R_lit Kd.string _ 9 (by rfl) (N:=1) (by rfl) (xs:=([(⟨#[]⟩:ByteArray),(⟨#[104,111,108,100]⟩:ByteArray),(⟨#[99,108,111,115,101]⟩:ByteArray),(⟨#[117,110,100,111]⟩:ByteArray),(⟨#[104,101,108,100]⟩:ByteArray),(⟨#[102,117,108,108]⟩:ByteArray),(⟨#[99,108,111,115,101,100]⟩:ByteArray),(⟨#[117,110,100,111,110,101]⟩:ByteArray)]:List ByteArray)) (inner:=[.string (⟨#[]⟩:ByteArray),.string (⟨#[104,111,108,100]⟩:ByteArray),.string (⟨#[99,108,111,115,101]⟩:ByteArray),.string (⟨#[117,110,100,111]⟩:ByteArray),.string (⟨#[104,101,108,100]⟩:ByteArray),.string (⟨#[102,117,108,108]⟩:ByteArray),.string (⟨#[99,108,111,115,101,100]⟩:ByteArray),.string (⟨#[117,110,100,111,110,101]⟩:ByteArray)]) (ok:=fun _=>True) (okp:=fun _=>True) (by first|(go_simp;done)|(go_simp;rfl)) ?hp (fun _ hk=>hk) trivial (Below.refl _ _) (Nat.le_refl _) (by simp) ?_;(case hp=>exact(Reps.one (show Kd.M Kd.string _ _ _ (⟨#[]⟩:ByteArray) [.string (⟨#[]⟩:ByteArray)] from rfl) (Reps.one (show Kd.M Kd.string _ _ _ (⟨#[104,111,108,100]⟩:ByteArray) [.string (⟨#[104,111,108,100]⟩:ByteArray)] from rfl) (Reps.one (show Kd.M Kd.string _ _ _ (⟨#[99,108,111,115,101]⟩:ByteArray) [.string (⟨#[99,108,111,115,101]⟩:ByteArray)] from rfl) (Reps.one (show Kd.M Kd.string _ _ _ (⟨#[117,110,100,111]⟩:ByteArray) [.string (⟨#[117,110,100,111]⟩:ByteArray)] from rfl) (Reps.one (show Kd.M Kd.string _ _ _ (⟨#[104,101,108,100]⟩:ByteArray) [.string (⟨#[104,101,108,100]⟩:ByteArray)] from rfl) (Reps.one (show Kd.M Kd.string _ _ _ (⟨#[102,117,108,108]⟩:ByteArray) [.string (⟨#[102,117,108,108]⟩:ByteArray)] from rfl) (Reps.one (show Kd.M Kd.string _ _ _ (⟨#[99,108,111,115,101,100]⟩:ByteArray) [.string (⟨#[99,108,111,115,101,100]⟩:ByteArray)] from rfl) (Reps.one (show Kd.M Kd.string _ _ _ (⟨#[117,110,100,111,110,101]⟩:ByteArray) [.string (⟨#[117,110,100,111,110,101]⟩:ByteArray)] from rfl) (Reps.none _ _))))))))));intro v392 w1 ho2 hb hg_ hnew_;clear hg_ hnew_;(first|rw[←Ny391.out] at ho2|(simp only[Int.reduceToNat] at ho2;rw[←Ny391.out] at ho2));have HO393:=qaj.mk (Kd.R_lower ho2 (qam (za2 HB)));replace HB:=qaj.mk (qaa (za2 HB) hb);clear hb ho2))
 go_ret;exact⟨_,za10,za3 HO393,za2 HB⟩
end Go.Proofs.YtbcepmkifomifaaDoor.Print
