-- Written by squeeze.py: not trusted, Lean checks it.
import Derived.Test.YtbcepmkifomifaaDoorZK
import Derived.Test.YtbcepmkifomifaaDoorZe0
import Derived.Test.YtbcepmkifomifaaDoorZp0
namespace Go.Proofs.YtbcepmkifomifaaDoor.Print
open Go.RowKit Go.Proofs.YtbcepmkifomifaaDoorW.PrintWords Go.Proofs.YtbcepmkifomifaaDoorW.PrintLast Go.Proofs.YtbcepmkifomifaaDoorW.PrintMore
attribute [local go_sem] max2_int min2_int max_two min_two max_three min_three max_four min_four
set_option linter.unusedVariables false
set_option linter.unusedSimpArgs false
def spec_WordText.f (k:Nat) (a0_0:Int) (a0_1:Int) (a0_2:Int) (a0_3:Int):Option (ByteArray):=(spec_WordOk.f k a0_0 a0_1 a0_2 a0_3).bind fun t395=>(if t395=true then((spec_l3Names.f).bind fun t396=>(if 0≤a0_0 then(if a0_0<(t396.length:Int) then(if(rdOf ByteArray.empty t396 a0_0).size+1≤9223372036854775807 then((spec_l6Dec.f k a0_1).bind fun t400=>(if((rdOf ByteArray.empty t396 a0_0)++(⟨#[32]⟩:ByteArray)).size+t400.size≤9223372036854775807 then(if(((rdOf ByteArray.empty t396 a0_0)++(⟨#[32]⟩:ByteArray))++t400).size+1≤9223372036854775807 then((spec_l6Dec.f k a0_2).bind fun t401=>(if((((rdOf ByteArray.empty t396 a0_0)++(⟨#[32]⟩:ByteArray))++t400)++(⟨#[32]⟩:ByteArray)).size+t401.size≤9223372036854775807 then(if a0_0=1 then(if(((((rdOf ByteArray.empty t396 a0_0)++(⟨#[32]⟩:ByteArray))++t400)++(⟨#[32]⟩:ByteArray))++t401).size+1≤9223372036854775807 then((spec_l6Dec.f k a0_3).bind fun t402=>(if((((((rdOf ByteArray.empty t396 a0_0)++(⟨#[32]⟩:ByteArray))++t400)++(⟨#[32]⟩:ByteArray))++t401)++(⟨#[32]⟩:ByteArray)).size+t402.size≤9223372036854775807 then(some (((((((rdOf ByteArray.empty t396 a0_0)++(⟨#[32]⟩:ByteArray))++t400)++(⟨#[32]⟩:ByteArray))++t401)++(⟨#[32]⟩:ByteArray))++t402)) else(none))) else(none)) else(some (((((rdOf ByteArray.empty t396 a0_0)++(⟨#[32]⟩:ByteArray))++t400)++(⟨#[32]⟩:ByteArray))++t401))) else(none))) else(none)) else(none))) else(none)) else(none)) else(none))) else(some (⟨#[]⟩:ByteArray)))
theorem spec_WordText.mono:∀a0 a1 a2 a3 k,LeO (spec_WordText.f k a0 a1 a2 a3) (spec_WordText.f (k+1) a0 a1 a2 a3):=by
 intro a0 a1 a2 a3 k;unfold spec_WordText.f
 repeat' first|(with_reducible exact spec_WordOk.mono _ _ _ _ _)|(with_reducible exact spec_l6Dec.mono _ _)|(with_reducible exact LeO.refl _)|(with_reducible exact LeO.none _)|(with_reducible refine LeO.ite ?_ ?_)|(with_reducible refine LeO.bind ?_ (fun _=>?_))|exact spec_WordOk.mono _ _ _ _ _|exact spec_l6Dec.mono _ _|exact LeO.none _|refine LeO.ite ?_ ?_|refine LeO.bind ?_ (fun _=>?_)
def spec_WordText.T3:Bool × List (List Nat × List Nat):=(true,[([],[]),([],[]),([1],[1]),([0,2],[0,2]),([3],[3]),([4],[4]),([],[]),([6],[6]),([7,0],[7]),([5,8],[5,8]),([9],[9]),([],[]),([11],[11]),([12,8],[12]),([10,13],[10,13]),([14,13,0,1,2,3,4,5,6,7,8,9,10,11,12,13,14],[14])])
def spec_WordText.B3:List Nat:=[0,0,2,7,15,31,0,64,193,511,1023,0,2048,6593,16383,32767]
theorem spec_WordText.tab3:rtab .any (opsOf Tryd.f26 3)=spec_WordText.T3:=by kernel_rfl
theorem spec_WordText.bits3:waitsOk spec_WordText.T3.2 spec_WordText.B3=true:=by kernel_rfl
set_option maxHeartbeats 8000000 in
set_option maxRecDepth 100000 in
theorem spec_WordText.calls (k:Nat) (a0_0:Int) (a0_1:Int) (a0_2:Int) (a0_3:Int) (r:ByteArray) (w:World) (h:spec_WordText.f k a0_0 a0_1 a0_2 a0_3=some r) :
  Calls Tryd.prog 26 #[.agg #[.int .i64 a0_0,.int .i64 a0_1,.int .i64 a0_2,.int .i64 a0_3]] w fun e w'=>e=.returned (.string r)∧Below w.heap.size w w':=by
 have hu39:=Tryd.underlying39;have HB:=qaj.mk (Below.refl w.heap.size w)
 have H:((spec_WordOk.f k a0_0 a0_1 a0_2 a0_3).bind fun t395=>(if t395=true then((spec_l3Names.f).bind fun t396=>(if 0≤a0_0 then(if a0_0<(t396.length:Int) then(if(rdOf ByteArray.empty t396 a0_0).size+1≤9223372036854775807 then((spec_l6Dec.f k a0_1).bind fun t400=>(if((rdOf ByteArray.empty t396 a0_0)++(⟨#[32]⟩:ByteArray)).size+t400.size≤9223372036854775807 then(if(((rdOf ByteArray.empty t396 a0_0)++(⟨#[32]⟩:ByteArray))++t400).size+1≤9223372036854775807 then((spec_l6Dec.f k a0_2).bind fun t401=>(if((((rdOf ByteArray.empty t396 a0_0)++(⟨#[32]⟩:ByteArray))++t400)++(⟨#[32]⟩:ByteArray)).size+t401.size≤9223372036854775807 then(if a0_0=1 then(if(((((rdOf ByteArray.empty t396 a0_0)++(⟨#[32]⟩:ByteArray))++t400)++(⟨#[32]⟩:ByteArray))++t401).size+1≤9223372036854775807 then((spec_l6Dec.f k a0_3).bind fun t402=>(if((((((rdOf ByteArray.empty t396 a0_0)++(⟨#[32]⟩:ByteArray))++t400)++(⟨#[32]⟩:ByteArray))++t401)++(⟨#[32]⟩:ByteArray)).size+t402.size≤9223372036854775807 then(some (((((((rdOf ByteArray.empty t396 a0_0)++(⟨#[32]⟩:ByteArray))++t400)++(⟨#[32]⟩:ByteArray))++t401)++(⟨#[32]⟩:ByteArray))++t402)) else(none))) else(none)) else(some (((((rdOf ByteArray.empty t396 a0_0)++(⟨#[32]⟩:ByteArray))++t400)++(⟨#[32]⟩:ByteArray))++t401))) else(none))) else(none)) else(none))) else(none)) else(none)) else(none))) else(some (⟨#[]⟩:ByteArray))))=some r:=h
 clear h;replace H:=Option.bind_eq_some_iff.mp H;obtain⟨t395,A20,H⟩:=H
 replace H:(if t395=true then((spec_l3Names.f).bind fun t396=>(if 0≤a0_0 then(if a0_0<(t396.length:Int) then(if(rdOf ByteArray.empty t396 a0_0).size+1≤9223372036854775807 then((spec_l6Dec.f k a0_1).bind fun t400=>(if((rdOf ByteArray.empty t396 a0_0)++(⟨#[32]⟩:ByteArray)).size+t400.size≤9223372036854775807 then(if(((rdOf ByteArray.empty t396 a0_0)++(⟨#[32]⟩:ByteArray))++t400).size+1≤9223372036854775807 then((spec_l6Dec.f k a0_2).bind fun t401=>(if((((rdOf ByteArray.empty t396 a0_0)++(⟨#[32]⟩:ByteArray))++t400)++(⟨#[32]⟩:ByteArray)).size+t401.size≤9223372036854775807 then(if a0_0=1 then(if(((((rdOf ByteArray.empty t396 a0_0)++(⟨#[32]⟩:ByteArray))++t400)++(⟨#[32]⟩:ByteArray))++t401).size+1≤9223372036854775807 then((spec_l6Dec.f k a0_3).bind fun t402=>(if((((((rdOf ByteArray.empty t396 a0_0)++(⟨#[32]⟩:ByteArray))++t400)++(⟨#[32]⟩:ByteArray))++t401)++(⟨#[32]⟩:ByteArray)).size+t402.size≤9223372036854775807 then(some (((((((rdOf ByteArray.empty t396 a0_0)++(⟨#[32]⟩:ByteArray))++t400)++(⟨#[32]⟩:ByteArray))++t401)++(⟨#[32]⟩:ByteArray))++t402)) else(none))) else(none)) else(some (((((rdOf ByteArray.empty t396 a0_0)++(⟨#[32]⟩:ByteArray))++t400)++(⟨#[32]⟩:ByteArray))++t401))) else(none))) else(none)) else(none))) else(none)) else(none)) else(none))) else(some (⟨#[]⟩:ByteArray)))=some r:=H
 have A2:=qaj.mk A20;clear A20;by_cases c3:t395=true
 ·subst c3
  have H1:((spec_l3Names.f).bind fun t396=>(if 0≤a0_0 then(if a0_0<(t396.length:Int) then(if(rdOf ByteArray.empty t396 a0_0).size+1≤9223372036854775807 then((spec_l6Dec.f k a0_1).bind fun t400=>(if((rdOf ByteArray.empty t396 a0_0)++(⟨#[32]⟩:ByteArray)).size+t400.size≤9223372036854775807 then(if(((rdOf ByteArray.empty t396 a0_0)++(⟨#[32]⟩:ByteArray))++t400).size+1≤9223372036854775807 then((spec_l6Dec.f k a0_2).bind fun t401=>(if((((rdOf ByteArray.empty t396 a0_0)++(⟨#[32]⟩:ByteArray))++t400)++(⟨#[32]⟩:ByteArray)).size+t401.size≤9223372036854775807 then(if a0_0=1 then(if(((((rdOf ByteArray.empty t396 a0_0)++(⟨#[32]⟩:ByteArray))++t400)++(⟨#[32]⟩:ByteArray))++t401).size+1≤9223372036854775807 then((spec_l6Dec.f k a0_3).bind fun t402=>(if((((((rdOf ByteArray.empty t396 a0_0)++(⟨#[32]⟩:ByteArray))++t400)++(⟨#[32]⟩:ByteArray))++t401)++(⟨#[32]⟩:ByteArray)).size+t402.size≤9223372036854775807 then(some (((((((rdOf ByteArray.empty t396 a0_0)++(⟨#[32]⟩:ByteArray))++t400)++(⟨#[32]⟩:ByteArray))++t401)++(⟨#[32]⟩:ByteArray))++t402)) else(none))) else(none)) else(some (((((rdOf ByteArray.empty t396 a0_0)++(⟨#[32]⟩:ByteArray))++t400)++(⟨#[32]⟩:ByteArray))++t401))) else(none))) else(none)) else(none))) else(none)) else(none)) else(none)))=some r:=by rw[if_pos rfl] at H;exact H
  clear H;have H:=H1;clear H1;replace H:=Option.bind_eq_some_iff.mp H;obtain⟨t396,A40,H⟩:=H
  replace H:(if 0≤a0_0 then(if a0_0<(t396.length:Int) then(if(rdOf ByteArray.empty t396 a0_0).size+1≤9223372036854775807 then((spec_l6Dec.f k a0_1).bind fun t400=>(if((rdOf ByteArray.empty t396 a0_0)++(⟨#[32]⟩:ByteArray)).size+t400.size≤9223372036854775807 then(if(((rdOf ByteArray.empty t396 a0_0)++(⟨#[32]⟩:ByteArray))++t400).size+1≤9223372036854775807 then((spec_l6Dec.f k a0_2).bind fun t401=>(if((((rdOf ByteArray.empty t396 a0_0)++(⟨#[32]⟩:ByteArray))++t400)++(⟨#[32]⟩:ByteArray)).size+t401.size≤9223372036854775807 then(if a0_0=1 then(if(((((rdOf ByteArray.empty t396 a0_0)++(⟨#[32]⟩:ByteArray))++t400)++(⟨#[32]⟩:ByteArray))++t401).size+1≤9223372036854775807 then((spec_l6Dec.f k a0_3).bind fun t402=>(if((((((rdOf ByteArray.empty t396 a0_0)++(⟨#[32]⟩:ByteArray))++t400)++(⟨#[32]⟩:ByteArray))++t401)++(⟨#[32]⟩:ByteArray)).size+t402.size≤9223372036854775807 then(some (((((((rdOf ByteArray.empty t396 a0_0)++(⟨#[32]⟩:ByteArray))++t400)++(⟨#[32]⟩:ByteArray))++t401)++(⟨#[32]⟩:ByteArray))++t402)) else(none))) else(none)) else(some (((((rdOf ByteArray.empty t396 a0_0)++(⟨#[32]⟩:ByteArray))++t400)++(⟨#[32]⟩:ByteArray))++t401))) else(none))) else(none)) else(none))) else(none)) else(none)) else(none))=some r:=H
  have A4:=qaj.mk A40;clear A40;by_cases c5:0≤a0_0
  ·rw[if_pos c5] at H;have c5b0:decide (0≤a0_0)=true:=decide_eq_true c5;clear c5;by_cases c6:a0_0<(t396.length:Int)
   ·rw[if_pos c6] at H;have c6b0:decide (a0_0<(t396.length:Int))=true:=decide_eq_true c6;clear c6;by_cases c7:(rdOf ByteArray.empty t396 a0_0).size+1≤9223372036854775807
    ·rw[if_pos c7] at H;have c7b0:=eq_true c7;have c7b1:decide ((rdOf ByteArray.empty t396 a0_0).size+1≤9223372036854775807)=true:=decide_eq_true c7
     try have c7b2:(9223372036854775807<(rdOf ByteArray.empty t396 a0_0).size+1)=False:=eq_false (Nat.not_lt.2 c7)
     try(have c7b3:=c7b2;simp only[ByteArray.size_append,show(⟨#[32]⟩:ByteArray).size=1 from rfl] at c7b3)
     replace H:=Option.bind_eq_some_iff.mp H;obtain⟨t400,A80,H⟩:=H
     replace H:(if((rdOf ByteArray.empty t396 a0_0)++(⟨#[32]⟩:ByteArray)).size+t400.size≤9223372036854775807 then(if(((rdOf ByteArray.empty t396 a0_0)++(⟨#[32]⟩:ByteArray))++t400).size+1≤9223372036854775807 then((spec_l6Dec.f k a0_2).bind fun t401=>(if((((rdOf ByteArray.empty t396 a0_0)++(⟨#[32]⟩:ByteArray))++t400)++(⟨#[32]⟩:ByteArray)).size+t401.size≤9223372036854775807 then(if a0_0=1 then(if(((((rdOf ByteArray.empty t396 a0_0)++(⟨#[32]⟩:ByteArray))++t400)++(⟨#[32]⟩:ByteArray))++t401).size+1≤9223372036854775807 then((spec_l6Dec.f k a0_3).bind fun t402=>(if((((((rdOf ByteArray.empty t396 a0_0)++(⟨#[32]⟩:ByteArray))++t400)++(⟨#[32]⟩:ByteArray))++t401)++(⟨#[32]⟩:ByteArray)).size+t402.size≤9223372036854775807 then(some (((((((rdOf ByteArray.empty t396 a0_0)++(⟨#[32]⟩:ByteArray))++t400)++(⟨#[32]⟩:ByteArray))++t401)++(⟨#[32]⟩:ByteArray))++t402)) else(none))) else(none)) else(some (((((rdOf ByteArray.empty t396 a0_0)++(⟨#[32]⟩:ByteArray))++t400)++(⟨#[32]⟩:ByteArray))++t401))) else(none))) else(none)) else(none))=some r:=H
     have A8:=qaj.mk A80;clear A80;by_cases c9:((rdOf ByteArray.empty t396 a0_0)++(⟨#[32]⟩:ByteArray)).size+t400.size≤9223372036854775807
     ·rw[if_pos c9] at H;have c9b0:=eq_true c9;have c9b1:decide (((rdOf ByteArray.empty t396 a0_0)++(⟨#[32]⟩:ByteArray)).size+t400.size≤9223372036854775807)=true:=decide_eq_true c9
      try have c9b2:(9223372036854775807<((rdOf ByteArray.empty t396 a0_0)++(⟨#[32]⟩:ByteArray)).size+t400.size)=False:=eq_false (Nat.not_lt.2 c9)
      try(have c9b3:=c9b2;simp only[ByteArray.size_append,show(⟨#[32]⟩:ByteArray).size=1 from rfl] at c9b3)
      by_cases c10:(((rdOf ByteArray.empty t396 a0_0)++(⟨#[32]⟩:ByteArray))++t400).size+1≤9223372036854775807
      ·rw[if_pos c10] at H;have c10b0:=eq_true c10;have c10b1:decide ((((rdOf ByteArray.empty t396 a0_0)++(⟨#[32]⟩:ByteArray))++t400).size+1≤9223372036854775807)=true:=decide_eq_true c10
       try have c10b2:(9223372036854775807<(((rdOf ByteArray.empty t396 a0_0)++(⟨#[32]⟩:ByteArray))++t400).size+1)=False:=eq_false (Nat.not_lt.2 c10)
       try(have c10b3:=c10b2;simp only[ByteArray.size_append,show(⟨#[32]⟩:ByteArray).size=1 from rfl] at c10b3)
       replace H:=Option.bind_eq_some_iff.mp H;obtain⟨t401,A110,H⟩:=H
       replace H:(if((((rdOf ByteArray.empty t396 a0_0)++(⟨#[32]⟩:ByteArray))++t400)++(⟨#[32]⟩:ByteArray)).size+t401.size≤9223372036854775807 then(if a0_0=1 then(if(((((rdOf ByteArray.empty t396 a0_0)++(⟨#[32]⟩:ByteArray))++t400)++(⟨#[32]⟩:ByteArray))++t401).size+1≤9223372036854775807 then((spec_l6Dec.f k a0_3).bind fun t402=>(if((((((rdOf ByteArray.empty t396 a0_0)++(⟨#[32]⟩:ByteArray))++t400)++(⟨#[32]⟩:ByteArray))++t401)++(⟨#[32]⟩:ByteArray)).size+t402.size≤9223372036854775807 then(some (((((((rdOf ByteArray.empty t396 a0_0)++(⟨#[32]⟩:ByteArray))++t400)++(⟨#[32]⟩:ByteArray))++t401)++(⟨#[32]⟩:ByteArray))++t402)) else(none))) else(none)) else(some (((((rdOf ByteArray.empty t396 a0_0)++(⟨#[32]⟩:ByteArray))++t400)++(⟨#[32]⟩:ByteArray))++t401))) else(none))=some r:=H
       have A11:=qaj.mk A110;clear A110;by_cases c12:((((rdOf ByteArray.empty t396 a0_0)++(⟨#[32]⟩:ByteArray))++t400)++(⟨#[32]⟩:ByteArray)).size+t401.size≤9223372036854775807
       ·rw[if_pos c12] at H;have c12b0:=eq_true c12;have c12b1:decide (((((rdOf ByteArray.empty t396 a0_0)++(⟨#[32]⟩:ByteArray))++t400)++(⟨#[32]⟩:ByteArray)).size+t401.size≤9223372036854775807)=true:=decide_eq_true c12
        try have c12b2:(9223372036854775807<((((rdOf ByteArray.empty t396 a0_0)++(⟨#[32]⟩:ByteArray))++t400)++(⟨#[32]⟩:ByteArray)).size+t401.size)=False:=eq_false (Nat.not_lt.2 c12)
        try(have c12b3:=c12b2;simp only[ByteArray.size_append,show(⟨#[32]⟩:ByteArray).size=1 from rfl] at c12b3)
        by_cases c13:a0_0=1
        ·rw[if_pos c13] at H;have c13b0:(a0_0 == 1)=true:=beq_iff_eq.mpr c13;have c13b1:(a0_0 != 1)=false:=bne_eq_false_iff_eq.mpr c13;clear c13;by_cases c14:(((((rdOf ByteArray.empty t396 a0_0)++(⟨#[32]⟩:ByteArray))++t400)++(⟨#[32]⟩:ByteArray))++t401).size+1≤9223372036854775807
         ·rw[if_pos c14] at H;have c14b0:=eq_true c14;have c14b1:decide ((((((rdOf ByteArray.empty t396 a0_0)++(⟨#[32]⟩:ByteArray))++t400)++(⟨#[32]⟩:ByteArray))++t401).size+1≤9223372036854775807)=true:=decide_eq_true c14
          try have c14b2:(9223372036854775807<(((((rdOf ByteArray.empty t396 a0_0)++(⟨#[32]⟩:ByteArray))++t400)++(⟨#[32]⟩:ByteArray))++t401).size+1)=False:=eq_false (Nat.not_lt.2 c14)
          try(have c14b3:=c14b2;simp only[ByteArray.size_append,show(⟨#[32]⟩:ByteArray).size=1 from rfl] at c14b3)
          replace H:=Option.bind_eq_some_iff.mp H;obtain⟨t402,A150,H⟩:=H;replace H:(if((((((rdOf ByteArray.empty t396 a0_0)++(⟨#[32]⟩:ByteArray))++t400)++(⟨#[32]⟩:ByteArray))++t401)++(⟨#[32]⟩:ByteArray)).size+t402.size≤9223372036854775807 then(some (((((((rdOf ByteArray.empty t396 a0_0)++(⟨#[32]⟩:ByteArray))++t400)++(⟨#[32]⟩:ByteArray))++t401)++(⟨#[32]⟩:ByteArray))++t402)) else(none))=some r:=H;have A15:=qaj.mk A150;clear A150;by_cases c16:((((((rdOf ByteArray.empty t396 a0_0)++(⟨#[32]⟩:ByteArray))++t400)++(⟨#[32]⟩:ByteArray))++t401)++(⟨#[32]⟩:ByteArray)).size+t402.size≤9223372036854775807
          ·rw[if_pos c16] at H;have c16b0:=eq_true c16;have c16b1:decide (((((((rdOf ByteArray.empty t396 a0_0)++(⟨#[32]⟩:ByteArray))++t400)++(⟨#[32]⟩:ByteArray))++t401)++(⟨#[32]⟩:ByteArray)).size+t402.size≤9223372036854775807)=true:=decide_eq_true c16
           try have c16b2:(9223372036854775807<((((((rdOf ByteArray.empty t396 a0_0)++(⟨#[32]⟩:ByteArray))++t400)++(⟨#[32]⟩:ByteArray))++t401)++(⟨#[32]⟩:ByteArray)).size+t402.size)=False:=eq_false (Nat.not_lt.2 c16)
           try(have c16b3:=c16b2;simp only[ByteArray.size_append,show(⟨#[32]⟩:ByteArray).size=1 from rfl] at c16b3)
           obtain rfl:=Option.some.inj H;go_enter Tryd.func26,Tryd.ntmps26
           try go_wp2_with(first|((with_reducible refine qai (N:=1) rfl ?_);refine zX (N:=1) (cs:=#[.int .i64 a0_0,.int .i64 a0_1,.int .i64 a0_2,.int .i64 a0_3]) (t:=39) ?_;intro gb394 hg w17 hbox hb;have BK394:=qaj.mk hbox;have GW394:=zH (w:=w) hg (za2 HB);have GE394:=GW394;replace HB:=qaj.mk (qaa (za2 HB) hb);clear hb hbox hg;obtain⟨hcz18_0,hcz18_1,hcz18_2,hcz18_3,hfz18_0,hfz18_1,hfz18_2,hfz18_3⟩:=zC4 BK394)|((with_reducible refine qae (f:=57) rfl ?_);refine zF (some 5) Tryd.func57 #[.agg #[.int .i64 a0_0,.int .i64 a0_1,.int .i64 a0_2,.int .i64 a0_3]] ?_;(with_reducible refine(spec_WordOk.calls k a0_0 a0_1 a0_2 a0_3 true _ A2.out).mono ?_);rintro e w19 ⟨rfl,hb⟩;refine⟨_,rfl,?_⟩;replace BK394:=zY BK394 hb;replace HB:=qaj.mk (qaa (za0 HB GE394) hb);(try clear hb)))
           replace BK394:=qaj.mk (qad BK394.out);replace HB:=qaj.mk (qar HB.out);refine start_ (n:=16) (S:=fun w'=>w'.cell? ⟨gb394,0,none⟩=some (.int .i64 a0_0)∧w'.cell? ⟨gb394,1,none⟩=some (.int .i64 a0_1)∧w'.cell? ⟨gb394,2,none⟩=some (.int .i64 a0_2)∧w'.cell? ⟨gb394,3,none⟩=some (.int .i64 a0_3)) (ds:=[]) #[false,false,false,false,false,false,false,false,false,false,false,false,false,false,false,false] (by kernel_rfl) rfl rfl ⟨(qag BK394.out 0).trans rfl,(qag BK394.out 1).trans rfl,(qag BK394.out 2).trans rfl,(qag BK394.out 3).trans rfl⟩ (fun hHeld=>?_);refine with_tabW spec_WordText.tab3 spec_WordText.bits3 (fun HT_ HW_=>?_);generalize w19.drew=w20 at BK394 HB hHeld ⊢;refine qaq (i:=1) (N:=some 8) (v:=?_) (a':=?_) #[false,true,false,false,false,false,false,false,false,false,false,false,false,false,false,false] rfl rfl (qan HT_.out (by kernel_rfl)) (fun _ _ _ h=>h) (Or.inl ⟨by rfl,?_⟩) ?_ ?_;rotate_left
           ·intro w';go_simp
            with_reducible rfl
           rotate_left
           ·simp only[Act.put,List.setIfInBounds_toArray,List.set_cons_zero,List.set_cons_succ,qak,qal];rfl
           refine qaq (i:=6) (N:=some 13) (v:=?_) (a':=?_) #[false,true,false,false,false,false,true,false,false,false,false,false,false,false,false,false] rfl rfl (qan HT_.out (by kernel_rfl)) (fun _ _ _ h=>h) (Or.inl ⟨by rfl,?_⟩) ?_ ?_;rotate_left
           ·intro w';go_simp
            with_reducible rfl
           rotate_left
           ·simp only[Act.put,List.setIfInBounds_toArray,List.set_cons_zero,List.set_cons_succ,qak,qal];rfl
           refine qaq (i:=11) (N:=some 18) (v:=?_) (a':=?_) #[false,true,false,false,false,false,true,false,false,false,false,true,false,false,false,false] rfl rfl (qan HT_.out (by kernel_rfl)) (fun _ _ _ h=>h) (Or.inl ⟨by rfl,?_⟩) ?_ ?_;rotate_left
           ·intro w';go_simp
            with_reducible rfl
           rotate_left
           ·simp only[Act.put,List.setIfInBounds_toArray,List.set_cons_zero,List.set_cons_succ,qak,qal];rfl
           refine take_ (i:=2) (N:=some 9) (v:=?_) (a':=?_) #[false,true,true,false,false,false,true,false,false,false,false,true,false,false,false,false] rfl rfl (take_ofW HT_.out HW_.out (by kernel_rfl)) (fun _ _ _ h=>h) (Or.inl ⟨by rfl,?_⟩) hHeld ?_ ?_;rotate_left
           ·rintro w' ⟨s0,s1,s2,s3⟩;go_simp
            with_reducible rfl
           rotate_left
           ·simp only[Act.put,List.setIfInBounds_toArray,List.set_cons_zero,List.set_cons_succ,qak,qal];rfl
           refine take_ (i:=7) (N:=some 14) (v:=?_) (a':=?_) #[false,true,true,false,false,false,true,true,false,false,false,true,false,false,false,false] rfl rfl (take_ofW HT_.out HW_.out (by kernel_rfl)) (fun _ _ _ h=>h) (Or.inl ⟨by rfl,?_⟩) hHeld ?_ ?_;rotate_left
           ·rintro w' ⟨s0,s1,s2,s3⟩;go_simp
            with_reducible rfl
           rotate_left
           ·simp only[Act.put,List.setIfInBounds_toArray,List.set_cons_zero,List.set_cons_succ,qak,qal];rfl
           refine take_ (i:=12) (N:=some 19) (v:=?_) (a':=?_) #[false,true,true,false,false,false,true,true,false,false,false,true,true,false,false,false] rfl rfl (take_ofW HT_.out HW_.out (by kernel_rfl)) (fun _ _ _ h=>h) (Or.inl ⟨by rfl,?_⟩) hHeld ?_ ?_;rotate_left
           ·rintro w' ⟨s0,s1,s2,s3⟩;go_simp
            with_reducible rfl
           rotate_left
           ·simp only[Act.put,List.setIfInBounds_toArray,List.set_cons_zero,List.set_cons_succ,qak,qal];rfl
           refine one_ (i:=0) (N:=some 7) #[true,true,true,false,false,false,true,true,false,false,false,true,true,false,false,false] rfl rfl (one_of HT_.out (by kernel_rfl)) (by decide) (fun K hK=>?_);refine goes_ Tryd.func58 (by kernel_rfl) rfl #[] (by rfl) rfl rfl (by(try simp only[List.map_toArray,List.map_cons,List.map_nil]);first|done|rfl|(simp only[List.length_drop,List.length_take];rfl)) ?_
           with_reducible refine(spec_l3Names.calls  t396 _ A4.out).mono ?_
           rintro e w21 ⟨v397,rfl,ho0,hb⟩;refine⟨_,rfl,?_⟩;have HO398:=qaj.mk (Kd.R_lower ho0 (qam (za0 HB GE394)));replace BK394:=zY BK394 hb;replace HB:=qaj.mk (qaa (za0 HB GE394) hb);(try clear hb);(try clear hb2);(try clear hk);(try clear hi);(try clear ho0);obtain⟨Ao22,co22,eo22⟩:=Kd.R_slice HO398.out;(first|subst eo22|(injection eo22 with f1_ f2_ f3_;have f4_:=f1_.symm;have f5_:=f3_.symm;clear f1_ f2_ f3_;subst f4_;subst f5_));have p399:0≤(a0_0:Int):=of_decide_eq_true (za13);have q399:a0_0<(t396.length:Int):=of_decide_eq_true (za13);obtain⟨ad399,e399,hx399_0⟩:=Kd.at_string (Kd.R_reads' HO398.out).2.2 a0_0 p399 q399
           cases e399
           replace p399:=eq_true p399;replace q399:=eq_true q399;refine hK.out _ _ ⟨(qag BK394.out 0).trans rfl,(qag BK394.out 1).trans rfl,(qag BK394.out 2).trans rfl,(qag BK394.out 3).trans rfl⟩ (fun hHeld=>?_);clear hK K;refine more_ (S2:=fun w'=>w'.cell? ⟨gb394,0,none⟩=some (.int .i64 a0_0)∧w'.cell? ⟨gb394,1,none⟩=some (.int .i64 a0_1)∧w'.cell? ⟨gb394,2,none⟩=some (.int .i64 a0_2)∧w'.cell? ⟨gb394,3,none⟩=some (.int .i64 a0_3)∧w'.cell? (ad399.add (a0_0).toNat)=some (.string (rdOf ByteArray.empty t396 a0_0))) (fun _ h=>⟨h.1,h.2.1,h.2.2.1,h.2.2.2.1⟩) ⟨hHeld.1,hHeld.2.1,hHeld.2.2.1,hHeld.2.2.2,hx399_0⟩ (fun hHeld=>?_);refine norm_ (a':=?_) ?_ ?_;rotate_left
           ·show Act.put _ (some 7) _=_;simp only[Act.put,List.setIfInBounds_toArray,List.set_cons_zero,List.set_cons_succ,qak,qal];rfl
           refine qaq (i:=3) (N:=some 10) (v:=?_) (a':=?_) #[true,true,true,true,false,false,true,true,false,false,false,true,true,false,false,false] rfl rfl (qan HT_.out (by kernel_rfl)) (fun _ _ _ h=>h) (Or.inl ⟨by rfl,?_⟩) ?_ ?_;rotate_left
           ·intro w';go_simp
            with_reducible rfl
           rotate_left
           ·simp only[Act.put,List.setIfInBounds_toArray,List.set_cons_zero,List.set_cons_succ,qak,qal];rfl
           refine take_ (i:=4) (N:=some 11) (v:=?_) (a':=?_) #[true,true,true,true,true,false,true,true,false,false,false,true,true,false,false,false] rfl rfl (take_ofW HT_.out HW_.out (by kernel_rfl)) (fun _ _ _ h=>h) (Or.inl ⟨by rfl,?_⟩) hHeld ?_ ?_;rotate_left
           ·rintro w' ⟨s0,s1,s2,s3,s4⟩;go_simp
            with_reducible rfl
           rotate_left
           ·simp only[Act.put,List.setIfInBounds_toArray,List.set_cons_zero,List.set_cons_succ,qak,qal];rfl
           refine qaq (i:=5) (N:=some 12) (v:=?_) (a':=?_) #[true,true,true,true,true,true,true,true,false,false,false,true,true,false,false,false] rfl rfl (qan HT_.out (by kernel_rfl)) (fun _ _ _ h=>h) (Or.inl ⟨by rfl,?_⟩) ?_ ?_;rotate_left
           ·intro w';go_simp
            with_reducible rfl
           rotate_left
           ·simp only[Act.put,List.setIfInBounds_toArray,List.set_cons_zero,List.set_cons_succ,qak,qal];rfl
           refine one_ (i:=8) (N:=some 15) #[true,true,true,true,true,true,true,true,true,false,false,true,true,false,false,false] rfl rfl (one_of HT_.out (by kernel_rfl)) (by decide) (fun K hK=>?_);refine goes_ Tryd.func43 (by kernel_rfl) rfl #[.int .i64 a0_1] (by rfl) rfl rfl (by(try simp only[List.map_toArray,List.map_cons,List.map_nil]);first|done|rfl|(simp only[List.length_drop,List.length_take];rfl)) ?_
           with_reducible refine(spec_l6Dec.calls k a0_1 t400 _ A8.out).mono ?_
           rintro e w23 ⟨rfl,hb⟩;have HS4_:=(hb.cell (World.block_lt_of_cell? _ _ (hHeld.2.2.2.2))).trans (hHeld.2.2.2.2);refine⟨_,rfl,?_⟩;replace HO398:=qaj.mk (Kd.R_below (za3 HO398) hb);replace BK394:=zY BK394 hb;replace HB:=qaj.mk (qaa (za0 HB GE394) hb);(try clear hb);(try clear hb2);(try clear hk);(try clear hi);refine hK.out _ _ ⟨(qag BK394.out 0).trans rfl,(qag BK394.out 1).trans rfl,(qag BK394.out 2).trans rfl,(qag BK394.out 3).trans rfl,HS4_⟩ (fun hHeld=>?_);clear hK K;refine norm_ (a':=?_) ?_ ?_;rotate_left
           ·show Act.put _ (some 15) _=_;simp only[Act.put,List.setIfInBounds_toArray,List.set_cons_zero,List.set_cons_succ,qak,qal];rfl
           refine qaq (i:=9) (N:=some 16) (v:=?_) (a':=?_) #[true,true,true,true,true,true,true,true,true,true,false,true,true,false,false,false] rfl rfl (qan HT_.out (by kernel_rfl)) (fun _ _ _ h=>h) (Or.inl ⟨by rfl,?_⟩) ?_ ?_;rotate_left
           ·intro w';go_simp
            with_reducible rfl
           rotate_left
           ·simp only[Act.put,List.setIfInBounds_toArray,List.set_cons_zero,List.set_cons_succ,qak,qal];rfl
           refine qaq (i:=10) (N:=some 17) (v:=?_) (a':=?_) #[true,true,true,true,true,true,true,true,true,true,true,true,true,false,false,false] rfl rfl (qan HT_.out (by kernel_rfl)) (fun _ _ _ h=>h) (Or.inl ⟨by rfl,?_⟩) ?_ ?_;rotate_left
           ·intro w';go_simp
            with_reducible rfl
           rotate_left
           ·simp only[Act.put,List.setIfInBounds_toArray,List.set_cons_zero,List.set_cons_succ,qak,qal];rfl
           refine one_ (i:=13) (N:=some 20) #[true,true,true,true,true,true,true,true,true,true,true,true,true,true,false,false] rfl rfl (one_of HT_.out (by kernel_rfl)) (by decide) (fun K hK=>?_);refine goes_ Tryd.func43 (by kernel_rfl) rfl #[.int .i64 a0_2] (by rfl) rfl rfl (by(try simp only[List.map_toArray,List.map_cons,List.map_nil]);first|done|rfl|(simp only[List.length_drop,List.length_take];rfl)) ?_
           with_reducible refine(spec_l6Dec.calls k a0_2 t401 _ A11.out).mono ?_
           rintro e w24 ⟨rfl,hb⟩;have HS4_:=(hb.cell (World.block_lt_of_cell? _ _ (hHeld.2.2.2.2))).trans (hHeld.2.2.2.2);refine⟨_,rfl,?_⟩;replace HO398:=qaj.mk (Kd.R_below (za3 HO398) hb);replace BK394:=zY BK394 hb;replace HB:=qaj.mk (qaa (za0 HB GE394) hb);(try clear hb);(try clear hb2);(try clear hk);(try clear hi);refine hK.out _ _ ⟨(qag BK394.out 0).trans rfl,(qag BK394.out 1).trans rfl,(qag BK394.out 2).trans rfl,(qag BK394.out 3).trans rfl,HS4_⟩ (fun hHeld=>?_);clear hK K;refine norm_ (a':=?_) ?_ ?_;rotate_left
           ·show Act.put _ (some 20) _=_;simp only[Act.put,List.setIfInBounds_toArray,List.set_cons_zero,List.set_cons_succ,qak,qal];rfl
           refine qaq (i:=14) (N:=some 21) (v:=?_) (a':=?_) #[true,true,true,true,true,true,true,true,true,true,true,true,true,true,true,false] rfl rfl (qan HT_.out (by kernel_rfl)) (fun _ _ _ h=>h) (Or.inl ⟨by rfl,?_⟩) ?_ ?_;rotate_left
           ·intro w';go_simp
            with_reducible rfl
           rotate_left
           ·simp only[Act.put,List.setIfInBounds_toArray,List.set_cons_zero,List.set_cons_succ,qak,qal];rfl
           refine qaq (i:=15) (N:=some 3) (v:=?_) (a':=?_) #[true,true,true,true,true,true,true,true,true,true,true,true,true,true,true,true] rfl rfl (qan HT_.out (by kernel_rfl)) (fun _ _ _ h=>h) (Or.inl ⟨by rfl,?_⟩) ?_ ?_;rotate_left
           ·intro w';go_simp
            with_reducible rfl
           rotate_left
           ·simp only[Act.put,List.setIfInBounds_toArray,List.set_cons_zero,List.set_cons_succ,qak,qal];rfl
           refine done_ (done_of HT_.out (by kernel_rfl)) ?_;obtain⟨hcz25_0,hcz25_1,hcz25_2,hcz25_3,hfz25_0,hfz25_1,hfz25_2,hfz25_3⟩:=zC4 BK394
           try go_wp2_with(first|((with_reducible refine qae (f:=43) rfl ?_);refine zF (some 29) Tryd.func43 #[.int .i64 a0_3] ?_;(with_reducible refine(spec_l6Dec.calls k a0_3 t402 _ A15.out).mono ?_);rintro e w26 ⟨rfl,hb⟩;refine⟨_,rfl,?_⟩;replace HO398:=qaj.mk (Kd.R_below (za3 HO398) hb);replace BK394:=zY BK394 hb;replace HB:=qaj.mk (qaa (za0 HB GE394) hb);(try clear hb)))
           go_ret;exact⟨za10,za0 HB GE394⟩
          ·rw[if_neg c16] at H;exact absurd H (by simp)
         ·rw[if_neg c14] at H;exact absurd H (by simp)
        ·rw[if_neg c13] at H;have c13b0:(a0_0 == 1)=false:=beq_eq_false_iff_ne.mpr c13;have c13b1:(a0_0 != 1)=true:=bne_iff_ne.mpr c13;obtain rfl:=Option.some.inj H;go_enter Tryd.func26,Tryd.ntmps26
         try go_wp2_with(first|((with_reducible refine qai (N:=1) rfl ?_);refine zX (N:=1) (cs:=#[.int .i64 a0_0,.int .i64 a0_1,.int .i64 a0_2,.int .i64 a0_3]) (t:=39) ?_;intro gb394 hg w27 hbox hb;have BK394:=qaj.mk hbox;have GW394:=zH (w:=w) hg (za2 HB);have GE394:=GW394;replace HB:=qaj.mk (qaa (za2 HB) hb);clear hb hbox hg;obtain⟨hcz28_0,hcz28_1,hcz28_2,hcz28_3,hfz28_0,hfz28_1,hfz28_2,hfz28_3⟩:=zC4 BK394)|((with_reducible refine qae (f:=57) rfl ?_);refine zF (some 5) Tryd.func57 #[.agg #[.int .i64 a0_0,.int .i64 a0_1,.int .i64 a0_2,.int .i64 a0_3]] ?_;(with_reducible refine(spec_WordOk.calls k a0_0 a0_1 a0_2 a0_3 true _ A2.out).mono ?_);rintro e w29 ⟨rfl,hb⟩;refine⟨_,rfl,?_⟩;replace BK394:=zY BK394 hb;replace HB:=qaj.mk (qaa (za0 HB GE394) hb);(try clear hb)))
         replace BK394:=qaj.mk (qad BK394.out);replace HB:=qaj.mk (qar HB.out);refine start_ (n:=16) (S:=fun w'=>w'.cell? ⟨gb394,0,none⟩=some (.int .i64 a0_0)∧w'.cell? ⟨gb394,1,none⟩=some (.int .i64 a0_1)∧w'.cell? ⟨gb394,2,none⟩=some (.int .i64 a0_2)∧w'.cell? ⟨gb394,3,none⟩=some (.int .i64 a0_3)) (ds:=[]) #[false,false,false,false,false,false,false,false,false,false,false,false,false,false,false,false] (by kernel_rfl) rfl rfl ⟨(qag BK394.out 0).trans rfl,(qag BK394.out 1).trans rfl,(qag BK394.out 2).trans rfl,(qag BK394.out 3).trans rfl⟩ (fun hHeld=>?_);refine with_tabW spec_WordText.tab3 spec_WordText.bits3 (fun HT_ HW_=>?_);generalize w29.drew=w30 at BK394 HB hHeld ⊢;refine qaq (i:=1) (N:=some 8) (v:=?_) (a':=?_) #[false,true,false,false,false,false,false,false,false,false,false,false,false,false,false,false] rfl rfl (qan HT_.out (by kernel_rfl)) (fun _ _ _ h=>h) (Or.inl ⟨by rfl,?_⟩) ?_ ?_;rotate_left
         ·intro w';go_simp
          with_reducible rfl
         rotate_left
         ·simp only[Act.put,List.setIfInBounds_toArray,List.set_cons_zero,List.set_cons_succ,qak,qal];rfl
         refine qaq (i:=6) (N:=some 13) (v:=?_) (a':=?_) #[false,true,false,false,false,false,true,false,false,false,false,false,false,false,false,false] rfl rfl (qan HT_.out (by kernel_rfl)) (fun _ _ _ h=>h) (Or.inl ⟨by rfl,?_⟩) ?_ ?_;rotate_left
         ·intro w';go_simp
          with_reducible rfl
         rotate_left
         ·simp only[Act.put,List.setIfInBounds_toArray,List.set_cons_zero,List.set_cons_succ,qak,qal];rfl
         refine qaq (i:=11) (N:=some 18) (v:=?_) (a':=?_) #[false,true,false,false,false,false,true,false,false,false,false,true,false,false,false,false] rfl rfl (qan HT_.out (by kernel_rfl)) (fun _ _ _ h=>h) (Or.inl ⟨by rfl,?_⟩) ?_ ?_;rotate_left
         ·intro w';go_simp
          with_reducible rfl
         rotate_left
         ·simp only[Act.put,List.setIfInBounds_toArray,List.set_cons_zero,List.set_cons_succ,qak,qal];rfl
         refine take_ (i:=2) (N:=some 9) (v:=?_) (a':=?_) #[false,true,true,false,false,false,true,false,false,false,false,true,false,false,false,false] rfl rfl (take_ofW HT_.out HW_.out (by kernel_rfl)) (fun _ _ _ h=>h) (Or.inl ⟨by rfl,?_⟩) hHeld ?_ ?_;rotate_left
         ·rintro w' ⟨s0,s1,s2,s3⟩;go_simp
          with_reducible rfl
         rotate_left
         ·simp only[Act.put,List.setIfInBounds_toArray,List.set_cons_zero,List.set_cons_succ,qak,qal];rfl
         refine take_ (i:=7) (N:=some 14) (v:=?_) (a':=?_) #[false,true,true,false,false,false,true,true,false,false,false,true,false,false,false,false] rfl rfl (take_ofW HT_.out HW_.out (by kernel_rfl)) (fun _ _ _ h=>h) (Or.inl ⟨by rfl,?_⟩) hHeld ?_ ?_;rotate_left
         ·rintro w' ⟨s0,s1,s2,s3⟩;go_simp
          with_reducible rfl
         rotate_left
         ·simp only[Act.put,List.setIfInBounds_toArray,List.set_cons_zero,List.set_cons_succ,qak,qal];rfl
         refine take_ (i:=12) (N:=some 19) (v:=?_) (a':=?_) #[false,true,true,false,false,false,true,true,false,false,false,true,true,false,false,false] rfl rfl (take_ofW HT_.out HW_.out (by kernel_rfl)) (fun _ _ _ h=>h) (Or.inl ⟨by rfl,?_⟩) hHeld ?_ ?_;rotate_left
         ·rintro w' ⟨s0,s1,s2,s3⟩;go_simp
          with_reducible rfl
         rotate_left
         ·simp only[Act.put,List.setIfInBounds_toArray,List.set_cons_zero,List.set_cons_succ,qak,qal];rfl
         refine one_ (i:=0) (N:=some 7) #[true,true,true,false,false,false,true,true,false,false,false,true,true,false,false,false] rfl rfl (one_of HT_.out (by kernel_rfl)) (by decide) (fun K hK=>?_);refine goes_ Tryd.func58 (by kernel_rfl) rfl #[] (by rfl) rfl rfl (by(try simp only[List.map_toArray,List.map_cons,List.map_nil]);first|done|rfl|(simp only[List.length_drop,List.length_take];rfl)) ?_
         with_reducible refine(spec_l3Names.calls  t396 _ A4.out).mono ?_
         rintro e w31 ⟨v397,rfl,ho0,hb⟩;refine⟨_,rfl,?_⟩;have HO398:=qaj.mk (Kd.R_lower ho0 (qam (za0 HB GE394)));replace BK394:=zY BK394 hb;replace HB:=qaj.mk (qaa (za0 HB GE394) hb);(try clear hb);(try clear hb2);(try clear hk);(try clear hi);(try clear ho0);obtain⟨Ao32,co32,eo32⟩:=Kd.R_slice HO398.out;(first|subst eo32|(injection eo32 with f1_ f2_ f3_;have f4_:=f1_.symm;have f5_:=f3_.symm;clear f1_ f2_ f3_;subst f4_;subst f5_));have p399:0≤(a0_0:Int):=of_decide_eq_true (za13);have q399:a0_0<(t396.length:Int):=of_decide_eq_true (za13);obtain⟨ad399,e399,hx399_0⟩:=Kd.at_string (Kd.R_reads' HO398.out).2.2 a0_0 p399 q399
         cases e399
         replace p399:=eq_true p399;replace q399:=eq_true q399;refine hK.out _ _ ⟨(qag BK394.out 0).trans rfl,(qag BK394.out 1).trans rfl,(qag BK394.out 2).trans rfl,(qag BK394.out 3).trans rfl⟩ (fun hHeld=>?_);clear hK K;refine more_ (S2:=fun w'=>w'.cell? ⟨gb394,0,none⟩=some (.int .i64 a0_0)∧w'.cell? ⟨gb394,1,none⟩=some (.int .i64 a0_1)∧w'.cell? ⟨gb394,2,none⟩=some (.int .i64 a0_2)∧w'.cell? ⟨gb394,3,none⟩=some (.int .i64 a0_3)∧w'.cell? (ad399.add (a0_0).toNat)=some (.string (rdOf ByteArray.empty t396 a0_0))) (fun _ h=>⟨h.1,h.2.1,h.2.2.1,h.2.2.2.1⟩) ⟨hHeld.1,hHeld.2.1,hHeld.2.2.1,hHeld.2.2.2,hx399_0⟩ (fun hHeld=>?_);refine norm_ (a':=?_) ?_ ?_;rotate_left
         ·show Act.put _ (some 7) _=_;simp only[Act.put,List.setIfInBounds_toArray,List.set_cons_zero,List.set_cons_succ,qak,qal];rfl
         refine qaq (i:=3) (N:=some 10) (v:=?_) (a':=?_) #[true,true,true,true,false,false,true,true,false,false,false,true,true,false,false,false] rfl rfl (qan HT_.out (by kernel_rfl)) (fun _ _ _ h=>h) (Or.inl ⟨by rfl,?_⟩) ?_ ?_;rotate_left
         ·intro w';go_simp
          with_reducible rfl
         rotate_left
         ·simp only[Act.put,List.setIfInBounds_toArray,List.set_cons_zero,List.set_cons_succ,qak,qal];rfl
         refine take_ (i:=4) (N:=some 11) (v:=?_) (a':=?_) #[true,true,true,true,true,false,true,true,false,false,false,true,true,false,false,false] rfl rfl (take_ofW HT_.out HW_.out (by kernel_rfl)) (fun _ _ _ h=>h) (Or.inl ⟨by rfl,?_⟩) hHeld ?_ ?_;rotate_left
         ·rintro w' ⟨s0,s1,s2,s3,s4⟩;go_simp
          with_reducible rfl
         rotate_left
         ·simp only[Act.put,List.setIfInBounds_toArray,List.set_cons_zero,List.set_cons_succ,qak,qal];rfl
         refine qaq (i:=5) (N:=some 12) (v:=?_) (a':=?_) #[true,true,true,true,true,true,true,true,false,false,false,true,true,false,false,false] rfl rfl (qan HT_.out (by kernel_rfl)) (fun _ _ _ h=>h) (Or.inl ⟨by rfl,?_⟩) ?_ ?_;rotate_left
         ·intro w';go_simp
          with_reducible rfl
         rotate_left
         ·simp only[Act.put,List.setIfInBounds_toArray,List.set_cons_zero,List.set_cons_succ,qak,qal];rfl
         refine one_ (i:=8) (N:=some 15) #[true,true,true,true,true,true,true,true,true,false,false,true,true,false,false,false] rfl rfl (one_of HT_.out (by kernel_rfl)) (by decide) (fun K hK=>?_);refine goes_ Tryd.func43 (by kernel_rfl) rfl #[.int .i64 a0_1] (by rfl) rfl rfl (by(try simp only[List.map_toArray,List.map_cons,List.map_nil]);first|done|rfl|(simp only[List.length_drop,List.length_take];rfl)) ?_
         with_reducible refine(spec_l6Dec.calls k a0_1 t400 _ A8.out).mono ?_
         rintro e w33 ⟨rfl,hb⟩;have HS4_:=(hb.cell (World.block_lt_of_cell? _ _ (hHeld.2.2.2.2))).trans (hHeld.2.2.2.2);refine⟨_,rfl,?_⟩;replace HO398:=qaj.mk (Kd.R_below (za3 HO398) hb);replace BK394:=zY BK394 hb;replace HB:=qaj.mk (qaa (za0 HB GE394) hb);(try clear hb);(try clear hb2);(try clear hk);(try clear hi);refine hK.out _ _ ⟨(qag BK394.out 0).trans rfl,(qag BK394.out 1).trans rfl,(qag BK394.out 2).trans rfl,(qag BK394.out 3).trans rfl,HS4_⟩ (fun hHeld=>?_);clear hK K;refine norm_ (a':=?_) ?_ ?_;rotate_left
         ·show Act.put _ (some 15) _=_;simp only[Act.put,List.setIfInBounds_toArray,List.set_cons_zero,List.set_cons_succ,qak,qal];rfl
         refine qaq (i:=9) (N:=some 16) (v:=?_) (a':=?_) #[true,true,true,true,true,true,true,true,true,true,false,true,true,false,false,false] rfl rfl (qan HT_.out (by kernel_rfl)) (fun _ _ _ h=>h) (Or.inl ⟨by rfl,?_⟩) ?_ ?_;rotate_left
         ·intro w';go_simp
          with_reducible rfl
         rotate_left
         ·simp only[Act.put,List.setIfInBounds_toArray,List.set_cons_zero,List.set_cons_succ,qak,qal];rfl
         refine qaq (i:=10) (N:=some 17) (v:=?_) (a':=?_) #[true,true,true,true,true,true,true,true,true,true,true,true,true,false,false,false] rfl rfl (qan HT_.out (by kernel_rfl)) (fun _ _ _ h=>h) (Or.inl ⟨by rfl,?_⟩) ?_ ?_;rotate_left
         ·intro w';go_simp
          with_reducible rfl
         rotate_left
         ·simp only[Act.put,List.setIfInBounds_toArray,List.set_cons_zero,List.set_cons_succ,qak,qal];rfl
         refine one_ (i:=13) (N:=some 20) #[true,true,true,true,true,true,true,true,true,true,true,true,true,true,false,false] rfl rfl (one_of HT_.out (by kernel_rfl)) (by decide) (fun K hK=>?_);refine goes_ Tryd.func43 (by kernel_rfl) rfl #[.int .i64 a0_2] (by rfl) rfl rfl (by(try simp only[List.map_toArray,List.map_cons,List.map_nil]);first|done|rfl|(simp only[List.length_drop,List.length_take];rfl)) ?_
         with_reducible refine(spec_l6Dec.calls k a0_2 t401 _ A11.out).mono ?_
         rintro e w34 ⟨rfl,hb⟩;have HS4_:=(hb.cell (World.block_lt_of_cell? _ _ (hHeld.2.2.2.2))).trans (hHeld.2.2.2.2);refine⟨_,rfl,?_⟩;replace HO398:=qaj.mk (Kd.R_below (za3 HO398) hb);replace BK394:=zY BK394 hb;replace HB:=qaj.mk (qaa (za0 HB GE394) hb);(try clear hb);(try clear hb2);(try clear hk);(try clear hi);refine hK.out _ _ ⟨(qag BK394.out 0).trans rfl,(qag BK394.out 1).trans rfl,(qag BK394.out 2).trans rfl,(qag BK394.out 3).trans rfl,HS4_⟩ (fun hHeld=>?_);clear hK K;refine norm_ (a':=?_) ?_ ?_;rotate_left
         ·show Act.put _ (some 20) _=_;simp only[Act.put,List.setIfInBounds_toArray,List.set_cons_zero,List.set_cons_succ,qak,qal];rfl
         refine qaq (i:=14) (N:=some 21) (v:=?_) (a':=?_) #[true,true,true,true,true,true,true,true,true,true,true,true,true,true,true,false] rfl rfl (qan HT_.out (by kernel_rfl)) (fun _ _ _ h=>h) (Or.inl ⟨by rfl,?_⟩) ?_ ?_;rotate_left
         ·intro w';go_simp
          with_reducible rfl
         rotate_left
         ·simp only[Act.put,List.setIfInBounds_toArray,List.set_cons_zero,List.set_cons_succ,qak,qal];rfl
         refine qaq (i:=15) (N:=some 3) (v:=?_) (a':=?_) #[true,true,true,true,true,true,true,true,true,true,true,true,true,true,true,true] rfl rfl (qan HT_.out (by kernel_rfl)) (fun _ _ _ h=>h) (Or.inl ⟨by rfl,?_⟩) ?_ ?_;rotate_left
         ·intro w';go_simp
          with_reducible rfl
         rotate_left
         ·simp only[Act.put,List.setIfInBounds_toArray,List.set_cons_zero,List.set_cons_succ,qak,qal];rfl
         refine done_ (done_of HT_.out (by kernel_rfl)) ?_;obtain⟨hcz35_0,hcz35_1,hcz35_2,hcz35_3,hfz35_0,hfz35_1,hfz35_2,hfz35_3⟩:=zC4 BK394
         try go_wp2
         go_ret;exact⟨za10,za0 HB GE394⟩
       ·rw[if_neg c12] at H;exact absurd H (by simp)
      ·rw[if_neg c10] at H;exact absurd H (by simp)
     ·rw[if_neg c9] at H;exact absurd H (by simp)
    ·rw[if_neg c7] at H;exact absurd H (by simp)
   ·rw[if_neg c6] at H;exact absurd H (by simp)
  ·rw[if_neg c5] at H;exact absurd H (by simp)
 ·replace c3:=Bool.eq_false_iff.mpr c3;subst c3
  have H1:(some (⟨#[]⟩:ByteArray))=some r:=by rw[if_neg (show ¬(false=true) by decide)] at H;exact H
  clear H;have H:=H1;clear H1;obtain rfl:=Option.some.inj H;go_enter Tryd.func26,Tryd.ntmps26
  go_wp2_with(first|((with_reducible refine qai (N:=1) rfl ?_);refine zX (N:=1) (cs:=#[.int .i64 a0_0,.int .i64 a0_1,.int .i64 a0_2,.int .i64 a0_3]) (t:=39) ?_;intro gb394 hg w36 hbox hb;have BK394:=qaj.mk hbox;have GW394:=zH (w:=w) hg (za2 HB);have GE394:=GW394;replace HB:=qaj.mk (qaa (za2 HB) hb);clear hb hbox hg;obtain⟨hcz37_0,hcz37_1,hcz37_2,hcz37_3,hfz37_0,hfz37_1,hfz37_2,hfz37_3⟩:=zC4 BK394)|((with_reducible refine qae (f:=57) rfl ?_);refine zF (some 5) Tryd.func57 #[.agg #[.int .i64 a0_0,.int .i64 a0_1,.int .i64 a0_2,.int .i64 a0_3]] ?_;(with_reducible refine(spec_WordOk.calls k a0_0 a0_1 a0_2 a0_3 false _ A2.out).mono ?_);rintro e w38 ⟨rfl,hb⟩;refine⟨_,rfl,?_⟩;replace BK394:=zY BK394 hb;replace HB:=qaj.mk (qaa (za0 HB GE394) hb);(try clear hb)))
  go_ret;exact⟨za10,za0 HB GE394⟩
def impl_isHouse.f (a0:Int):Option (Bool):=(impl_in.f a0 1 3).bind fun t406=>(some t406)
set_option maxHeartbeats 8000000 in
set_option maxRecDepth 100000 in
theorem impl_isHouse.calls (a0:Int) (r:Bool) (w:World) (h:impl_isHouse.f a0=some r) :
  Calls Tryd.prog 63 #[.int .i64 a0] w fun e w'=>e=.returned (.bool r)∧Drawn0 w w':=by
 have H:((impl_in.f a0 1 3).bind fun t406=>(some t406))=some r:=h;clear h;replace H:=Option.bind_eq_some_iff.mp H;obtain⟨t406,A20,H⟩:=H;replace H:(some t406)=some r:=H;have A2:=qaj.mk A20;clear A20;obtain rfl:=Option.some.inj H;go_enter Tryd.func63,Tryd.ntmps63
 go_wp2_with(first|((with_reducible refine qae (f:=54) rfl ?_);refine zF (some 4) Tryd.func54 #[.int .i64 a0,.int .i64 1,.int .i64 3] ?_;(with_reducible refine(impl_in.calls a0 1 3 t406 _ A2.out).mono ?_);rintro e w' ⟨rfl,⟨nd,rfl⟩⟩;refine⟨_,rfl,?_⟩))
 go_ret;exact⟨za23,za32⟩
end Go.Proofs.YtbcepmkifomifaaDoor.Print
