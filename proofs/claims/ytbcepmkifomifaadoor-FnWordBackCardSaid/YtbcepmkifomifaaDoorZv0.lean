-- Written by squeeze.py: not trusted, Lean checks it.
import Derived.Test.YtbcepmkifomifaaDoorZK
import Derived.Test.YtbcepmkifomifaaDoorZe0
import Derived.Test.YtbcepmkifomifaaDoorZg0
import Derived.Test.YtbcepmkifomifaaDoorZp2
import Derived.Test.YtbcepmkifomifaaDoorZp3
namespace Go.Proofs.YtbcepmkifomifaaDoor.Print
open Go.RowKit Go.Proofs.YtbcepmkifomifaaDoorW.PrintWords Go.Proofs.YtbcepmkifomifaaDoorW.PrintLast Go.Proofs.YtbcepmkifomifaaDoorW.PrintMore
attribute [local go_sem] max2_int min2_int max_two min_two max_three min_three max_four min_four
set_option linter.unusedVariables false
set_option linter.unusedSimpArgs false
mutual
def impl_WordRead.j0:Nat→ByteArray→Int→List Int→Bool→Option (Int × Int × Int × Int × Bool)
 |0,_,_,_,_=>none
 |k+1,x0,x4,x5,x21=>if x21=true then(some (0,0,0,0,false)) else(if 0<(x5.length:Int) then(if 1<(x5.length:Int) then(if(x5.length:Int)=3 then(if 2<(x5.length:Int) then(impl_WordRead.j1 k x0 x4 (rd x5 0) (rd x5 1) (rd x5 2)) else(none)) else(impl_WordRead.j1 k x0 x4 (rd x5 0) (rd x5 1) 0)) else(none)) else(none))
def impl_WordRead.j1:Nat→ByteArray→Int→Int→Int→Int→Option (Int × Int × Int × Int × Bool)
 |0,_,_,_,_,_=>none
 |k+1,x0,x539000,x539001,x539002,x539003=>(impl_WordOk.f x539000 x539001 x539002 x539003).bind fun t540=>(if t540=true then((impl_WordText.f x539000 x539001 x539002 x539003).bind fun t541=>(if t541.toList=x0.toList then(some (x539000,x539001,x539002,x539003,true)) else(some (0,0,0,0,false)))) else(some (0,0,0,0,false)))
end
def impl_WordRead.f (k:Nat) (a0:ByteArray):Option (Int × Int × Int × Int × Bool):=(impl_wordWords.f).bind fun t528=>((impl_parsed.f a0 t528).bind fun bt531=>(if(a0.size:Int)>20 then(impl_WordRead.j0 k a0 bt531.1 bt531.2 true) else((impl_in.f (bt531.2.length:Int) 2 3).bind fun t535=>(impl_WordRead.j0 k a0 bt531.1 bt531.2 (!t535)))))
theorem impl_WordRead.mono_l:∀k,(∀y0 y1 y2 y3,LeO (impl_WordRead.j0 k y0 y1 y2 y3) (impl_WordRead.j0 (k+1) y0 y1 y2 y3))∧(∀y0 y1 y2 y3 y4,LeO (impl_WordRead.j1 k y0 y1 y2 y3 y4) (impl_WordRead.j1 (k+1) y0 y1 y2 y3 y4))
 |0=>⟨fun _ _ _ _ r h=>by simp[impl_WordRead.j0] at h,fun _ _ _ _ _ r h=>by simp[impl_WordRead.j1] at h⟩
 |k+1=>by
  obtain⟨ih0,ih1⟩:=impl_WordRead.mono_l k;refine⟨?_,?_⟩
  ·intro y0 y1 y2 y3;unfold impl_WordRead.j0
   repeat' first|(with_reducible exact ih0 _ _ _ _)|(with_reducible exact ih1 _ _ _ _ _)|(with_reducible exact LeO.refl _)|(with_reducible exact LeO.none _)|(with_reducible refine LeO.ite ?_ ?_)|(with_reducible refine LeO.bind ?_ (fun _=>?_))|exact ih0 _ _ _ _|exact ih1 _ _ _ _ _|exact LeO.none _|refine LeO.ite ?_ ?_|refine LeO.bind ?_ (fun _=>?_)
  ·intro y0 y1 y2 y3 y4;unfold impl_WordRead.j1
   repeat' first|(with_reducible exact ih0 _ _ _ _)|(with_reducible exact ih1 _ _ _ _ _)|(with_reducible exact LeO.refl _)|(with_reducible exact LeO.none _)|(with_reducible refine LeO.ite ?_ ?_)|(with_reducible refine LeO.bind ?_ (fun _=>?_))|exact ih0 _ _ _ _|exact ih1 _ _ _ _ _|exact LeO.none _|refine LeO.ite ?_ ?_|refine LeO.bind ?_ (fun _=>?_)
theorem impl_WordRead.mono:∀a0 k,LeO (impl_WordRead.f k a0) (impl_WordRead.f (k+1) a0):=by
 intro a0 k;obtain⟨ih0,ih1⟩:=impl_WordRead.mono_l k;unfold impl_WordRead.f
 repeat' first|(with_reducible exact ih0 _ _ _ _)|(with_reducible exact ih1 _ _ _ _ _)|(with_reducible exact LeO.refl _)|(with_reducible exact LeO.none _)|(with_reducible refine LeO.ite ?_ ?_)|(with_reducible refine LeO.bind ?_ (fun _=>?_))|exact ih0 _ _ _ _|exact ih1 _ _ _ _ _|exact LeO.none _|refine LeO.ite ?_ ?_|refine LeO.bind ?_ (fun _=>?_)
def impl_WordRead.T4:Bool × List (List Nat × List Nat):=(true,[([],[]),([],[]),([1],[1]),([2],[2]),([],[]),([4],[4]),([5],[5]),([0,3,6],[0,3,6]),([],[]),([8,7,0,1,2,3,4,5,6,7,8],[7,8])])
def impl_WordRead.B4:List Nat:=[0,0,2,6,0,16,48,127,0,511]
theorem impl_WordRead.tab4:rtab .any (opsOf Tryd.f32 4)=impl_WordRead.T4:=by kernel_rfl
theorem impl_WordRead.bits4:waitsOk impl_WordRead.T4.2 impl_WordRead.B4=true:=by kernel_rfl
set_option maxHeartbeats 8000000 in
set_option maxRecDepth 100000 in
theorem impl_WordRead.calls (k:Nat) (a0:ByteArray) (r1:Int) (r2:Int) (r3:Int) (r4:Int) (r5:Bool) (w:World) (hgw:Tryd.GW w) (h:impl_WordRead.f k a0=some (r1,r2,r3,r4,r5)) :
  Calls Tryd.prog 32 #[.string a0] w fun e w'=>e=.returned (.tuple #[.agg #[.int .i64 r1,.int .i64 r2,.int .i64 r3,.int .i64 r4],.bool r5])∧Below w.heap.size w w':=by
 have HGW:=qaj.mk hgw;clear hgw;have hu39:=Tryd.underlying39;have HB:=qaj.mk (Below.refl w.heap.size w);have H:((impl_wordWords.f).bind fun t528=>((impl_parsed.f a0 t528).bind fun bt531=>(if(a0.size:Int)>20 then(impl_WordRead.j0 k a0 bt531.1 bt531.2 true) else((impl_in.f (bt531.2.length:Int) 2 3).bind fun t535=>(impl_WordRead.j0 k a0 bt531.1 bt531.2 (!t535))))))=some (r1,r2,r3,r4,r5):=h;clear h;replace H:=Option.bind_eq_some_iff.mp H;obtain⟨t528,A20,H⟩:=H;replace H:((impl_parsed.f a0 t528).bind fun bt531=>(if(a0.size:Int)>20 then(impl_WordRead.j0 k a0 bt531.1 bt531.2 true) else((impl_in.f (bt531.2.length:Int) 2 3).bind fun t535=>(impl_WordRead.j0 k a0 bt531.1 bt531.2 (!t535)))))=some (r1,r2,r3,r4,r5):=H;have A2:=qaj.mk A20;clear A20;replace H:=Option.bind_eq_some_iff.mp H;obtain⟨⟨t531,t532⟩,A30,H⟩:=H;replace H:(if(a0.size:Int)>20 then(impl_WordRead.j0 k a0 t531 t532 true) else((impl_in.f (t532.length:Int) 2 3).bind fun t535=>(impl_WordRead.j0 k a0 t531 t532 (!t535))))=some (r1,r2,r3,r4,r5):=H;have A3:=qaj.mk A30;clear A30;have HC4:=qaj.mk H;clear H;go_enter Tryd.func32,Tryd.ntmps32
 go_upto_region 2 with(first|((with_reducible refine qai (N:=2) rfl ?_);(try(refine gate_guard (by rfl) ?_;dsimp only));refine zX (N:=2) (cs:=#[.int .i64 0,.int .i64 0,.int .i64 0,.int .i64 0]) (t:=39) ?_;intro gb527 hg w5 hbox hb;have BK527:=qaj.mk hbox;have GW527:=zH (w:=w) hg (za2 HB);have GE527:=GW527;replace HB:=qaj.mk (qaa (za2 HB) hb);clear hb hbox hg)|((with_reducible refine qae (f:=59) rfl ?_);refine zF (some 9) Tryd.func59 #[] ?_;(with_reducible refine(impl_wordWords.calls  t528 _ A2.out).mono ?_);rintro e w6 ⟨v529,rfl,ho0,hb⟩;refine⟨_,rfl,?_⟩;have HO530:=qaj.mk (Kd.R_lower ho0 (qam (za0 HB GE527)));replace BK527:=zY BK527 hb;replace HB:=qaj.mk (qaa (za0 HB GE527) hb);(try clear hb);(try clear ho0);obtain⟨Ao7,co7,eo7⟩:=Kd.R_slice HO530.out;subst eo7)|((with_reducible refine qae (f:=44) rfl ?_);refine zF (some 10) Tryd.func44 #[.string a0,.slice Ao7 t528.length co7] ?_;(with_reducible refine(impl_parsed.calls a0 _ _ t528 t531 t532 _ ?side1 ?side2 ?gw_ A3.out).mono ?_);(case gw_=>exact Tryd.GW.below HGW.out (za0 HB GE527));(case side1=>repeat(first|exact(Kd.R_reads' HO530.out).2.2|(with_reducible refine Kd.C_alloc ?_ _)|(with_reducible refine Kd.C_drewN ?_ _)|(with_reducible refine Kd.C_drew ?_)));(case side2=>exact(Kd.R_reads' HO530.out).2.1);rintro e w8 ⟨v533,rfl,ho0,hb⟩;refine⟨_,rfl,?_⟩;replace HO530:=qaj.mk (Kd.R_below (za3 HO530) hb);have HO534:=qaj.mk (Kd.R_lower ho0 (qam (za0 HB GE527)));replace BK527:=zY BK527 hb;replace HB:=qaj.mk (qaa (za0 HB GE527) hb);(try clear hb);(try clear ho0)))
 (try simp only[Act.put,List.setIfInBounds_toArray,List.set_cons_zero,List.set_cons_succ])
 go_cut [21] (fun v21 wc=>∃(kq:Nat) (x21_3:Bool),v21=.bool x21_3∧qaj (impl_WordRead.j0 kq a0 t531 t532 x21_3=some (r1,r2,r3,r4,r5))∧qaj (kq≤k)∧qaj (Kd.R (Kd.int .i64) 3 wc w.heap.size (fun _=>True) v533 t532)∧qaj (wc.heap[gb527]?=some (.cells #[.int .i64 0,.int .i64 0,.int .i64 0,.int .i64 0] 39 (0,0)))∧qaj (Below w.heap.size w wc))
 case first=>
  have H:=HC4.out;clear HC4;by_cases c9:(a0.size:Int)>20
  ·rw[if_pos c9] at H;have c9b0:decide (20<(a0.size:Int))=true:=decide_eq_true c9;have c9b1:decide (20<a0.size)=true:=decide_eq_true (by omega);clear c9;(first|rw[c9b0]|(simp only[qak,qal];rw[c9b0])|skip);have H':=qaj.mk H;clear H;go_wp2
   go_meet
   case rel=>exact⟨_,(true),(za23),H',⟨za34⟩,⟨za3 HO534⟩,⟨za18 BK527⟩,⟨za0 HB GE527⟩⟩
  ·rw[if_neg c9] at H;have c9b0:decide (20<(a0.size:Int))=false:=decide_eq_false c9;have c9b1:decide (20<a0.size)=false:=decide_eq_false (by omega);clear c9;(first|rw[c9b0]|(simp only[qak,qal];rw[c9b0])|skip);replace H:=Option.bind_eq_some_iff.mp H;obtain⟨t535,A100,H⟩:=H;replace H:(impl_WordRead.j0 k a0 t531 t532 (!t535))=some (r1,r2,r3,r4,r5):=H;have A10:=qaj.mk A100;clear A100;have H':=qaj.mk H;clear H;obtain⟨Ao11,co11,eo11⟩:=Kd.R_slice HO534.out;subst eo11
   go_wp2_with(first|(go_at_call 54;(with_reducible refine(impl_in.calls (t532.length:Int) 2 3 t535 _ A10.out).mono ?_);rintro e w' ⟨rfl,⟨nd,rfl⟩⟩))
   go_meet
   case rel=>exact⟨_,(!t535),(za23),H',⟨za34⟩,⟨za3 HO534⟩,⟨za18 BK527⟩,⟨za0 HB GE527⟩⟩
 case rest=>
  clear HC4
  try clear p2
  try clear c3
  try clear c4
  try clear c5
  try clear c9
  try clear c9b0
  try clear c9b1
  obtain⟨kq,x21_3,rfl,HA,HJ3,HO_5,BK527,HB⟩:=hcut
  cases kq with
  |zero=>exact absurd HA.out (by simp[impl_WordRead.j0])
  |succ kj3=>
   have H:=HA.out;clear HA;simp only[impl_WordRead.j0] at H;by_cases c12:x21_3=true
   ·subst c12
    have H1:(some (0,0,0,0,false))=some (r1,r2,r3,r4,r5):=by rw[if_pos rfl] at H;exact H
    clear H;have H:=H1;clear H1;simp only[Option.some.injEq,Prod.mk.injEq] at H;obtain⟨rfl,rfl,rfl,rfl,rfl⟩:=H;obtain⟨hcz13_0,hcz13_1,hcz13_2,hcz13_3,hfz13_0,hfz13_1,hfz13_2,hfz13_3⟩:=zC4 BK527;go_wp2
    refine bodyPost_ret (results_ct rfl _ _ gb527 39 #[.int .i64 0,.int .i64 0,.int .i64 0,.int .i64 0] (0,0) _ rfl (by(with_reducible repeat(first|refine qac ?_ _|refine qad ?_|refine qab ?_ _));refine qaf (cs:=#[.int .i64 0,.int .i64 0,.int .i64 0,.int .i64 0]) ?_ 3 _ rfl;(with_reducible repeat(first|refine qac ?_ _|refine qad ?_|refine qab ?_ _));refine qaf (cs:=#[.int .i64 0,.int .i64 0,.int .i64 0,.int .i64 0]) ?_ 2 _ rfl;(with_reducible repeat(first|refine qac ?_ _|refine qad ?_|refine qab ?_ _));refine qaf (cs:=#[.int .i64 0,.int .i64 0,.int .i64 0,.int .i64 0]) ?_ 1 _ rfl;(with_reducible repeat(first|refine qac ?_ _|refine qad ?_|refine qab ?_ _));refine qaf (cs:=#[.int .i64 0,.int .i64 0,.int .i64 0,.int .i64 0]) ?_ 0 _ rfl;(with_reducible repeat(first|refine qac ?_ _|refine qad ?_|refine qab ?_ _));exact BK527.out) Tryd.underlying39 rfl (by kernel_rfl)) rfl ?_
    exact⟨za10,za0 HB GE527⟩
   ·replace c12:=Bool.eq_false_iff.mpr c12;subst c12
    have H1:(if 0<(t532.length:Int) then(if 1<(t532.length:Int) then(if(t532.length:Int)=3 then(if 2<(t532.length:Int) then(impl_WordRead.j1 kj3 a0 t531 (rd t532 0) (rd t532 1) (rd t532 2)) else(none)) else(impl_WordRead.j1 kj3 a0 t531 (rd t532 0) (rd t532 1) 0)) else(none)) else(none))=some (r1,r2,r3,r4,r5):=by rw[if_neg (show ¬(false=true) by decide)] at H;exact H
    clear H;have H:=H1;clear H1;by_cases c14:0<(t532.length:Int)
    ·rw[if_pos c14] at H;have c14b0:decide (0<(t532.length:Int))=true:=decide_eq_true c14;have c14b1:decide (0<t532.length)=true:=decide_eq_true (by omega);clear c14;by_cases c15:1<(t532.length:Int)
     ·rw[if_pos c15] at H;have c15b0:decide (1<(t532.length:Int))=true:=decide_eq_true c15;have c15b1:decide (1<t532.length)=true:=decide_eq_true (by omega);clear c15;have HC16:=qaj.mk H;clear H
      try go_wp2
      replace HO_5:=qaj.mk (Kd.R_drew HO_5.out);replace BK527:=qaj.mk (qad BK527.out);replace HB:=qaj.mk (qar HB.out);obtain⟨Ao18,co18,eo18⟩:=Kd.R_slice HO_5.out;(first|subst eo18|(injection eo18 with f1_ f2_ f3_;have f4_:=f1_.symm;have f5_:=f3_.symm;clear f1_ f2_ f3_;subst f4_;subst f5_));have p536:0≤(0:Int):=(by omega);have q536:0<(t532.length:Int):=of_decide_eq_true (za13);obtain⟨ad536,e536,hx536_0⟩:=Kd.at_int (Kd.R_reads' HO_5.out).2.2 0 p536 q536
      cases e536
      have qi536:(0<t532.length)=True:=eq_true (by omega);(try rw[show((0:Int)).toNat=0 from rfl] at hx536_0);(try rw[Addr.add_zero'] at hx536_0);replace p536:=eq_true p536;replace q536:=eq_true q536;have p537:0≤(1:Int):=(by omega);have q537:1<(t532.length:Int):=of_decide_eq_true (za13);obtain⟨ad537,e537,hx537_0⟩:=Kd.at_int (Kd.R_reads' HO_5.out).2.2 1 p537 q537;obtain rfl:ad536=ad537:=(by injection e537);(try simp only[show(1:Int).toNat=1 from rfl,Nat.reduceMul,Nat.reduceEqDiff,Go.Addr.add,↓reduceIte] at hx537_0);have qi537:(1<t532.length)=True:=eq_true (by omega);(try rw[show((1:Int)).toNat=1 from rfl] at hx537_0);replace p537:=eq_true p537;replace q537:=eq_true q537;refine start_ (n:=10) (S:=fun w'=>w'.cell? ad536=some (.int .i64 (rd t532 0))∧w'.cell? ⟨ad536.block,ad536.off+1,none⟩=some (.int .i64 (rd t532 1))) (ds:=[]) #[false,false,false,false,false,false,false,false,false,false] (by kernel_rfl) rfl rfl ⟨hx536_0,hx537_0⟩ (fun hHeld=>?_);refine with_tabW impl_WordRead.tab4 impl_WordRead.bits4 (fun HT_ HW_=>?_);generalize wc.drew=w17 at HO_5 BK527 HB hx536_0 hx537_0 hHeld ⊢;refine qaq (i:=0) (N:=some 23) (v:=?_) (a':=?_) #[true,false,false,false,false,false,false,false,false,false] rfl rfl (qan HT_.out (by kernel_rfl)) (fun _ _ _ h=>h) (Or.inl ⟨by rfl,?_⟩) ?_ ?_;rotate_left
      ·intro w';go_simp
       with_reducible rfl
      rotate_left
      ·simp only[Act.put,List.setIfInBounds_toArray,List.set_cons_zero,List.set_cons_succ,qak,qal];rfl
      refine qaq (i:=1) (N:=some 24) (v:=?_) (a':=?_) #[true,true,false,false,false,false,false,false,false,false] rfl rfl (qan HT_.out (by kernel_rfl)) (fun _ _ _ h=>h) (Or.inl ⟨by rfl,?_⟩) ?_ ?_;rotate_left
      ·intro w';go_simp
       with_reducible rfl
      rotate_left
      ·simp only[Act.put,List.setIfInBounds_toArray,List.set_cons_zero,List.set_cons_succ,qak,qal];rfl
      refine qaq (i:=2) (N:=some 25) (v:=?_) (a':=?_) #[true,true,true,false,false,false,false,false,false,false] rfl rfl (qan HT_.out (by kernel_rfl)) (fun _ _ _ h=>h) (Or.inl ⟨by rfl,?_⟩) ?_ ?_;rotate_left
      ·intro w';go_simp
       with_reducible rfl
      rotate_left
      ·simp only[Act.put,List.setIfInBounds_toArray,List.set_cons_zero,List.set_cons_succ,qak,qal];rfl
      refine qaq (i:=4) (N:=some 27) (v:=?_) (a':=?_) #[true,true,true,false,true,false,false,false,false,false] rfl rfl (qan HT_.out (by kernel_rfl)) (fun _ _ _ h=>h) (Or.inl ⟨by rfl,?_⟩) ?_ ?_;rotate_left
      ·intro w';go_simp
       with_reducible rfl
      rotate_left
      ·simp only[Act.put,List.setIfInBounds_toArray,List.set_cons_zero,List.set_cons_succ,qak,qal];rfl
      refine qaq (i:=5) (N:=some 28) (v:=?_) (a':=?_) #[true,true,true,false,true,true,false,false,false,false] rfl rfl (qan HT_.out (by kernel_rfl)) (fun _ _ _ h=>h) (Or.inl ⟨by rfl,?_⟩) ?_ ?_;rotate_left
      ·intro w';go_simp
       with_reducible rfl
      rotate_left
      ·simp only[Act.put,List.setIfInBounds_toArray,List.set_cons_zero,List.set_cons_succ,qak,qal];rfl
      refine take_ (i:=3) (N:=some 26) (v:=?_) (a':=?_) #[true,true,true,true,true,true,false,false,false,false] rfl rfl (take_ofW HT_.out HW_.out (by kernel_rfl)) (fun _ _ _ h=>h) (Or.inl ⟨by rfl,?_⟩) hHeld ?_ ?_;rotate_left
      ·rintro w' ⟨s0,s1⟩;go_simp
       with_reducible rfl
      rotate_left
      ·simp only[Act.put,List.setIfInBounds_toArray,List.set_cons_zero,List.set_cons_succ,qak,qal];rfl
      refine take_ (i:=6) (N:=some 29) (v:=?_) (a':=?_) #[true,true,true,true,true,true,true,false,false,false] rfl rfl (take_ofW HT_.out HW_.out (by kernel_rfl)) (fun _ _ _ h=>h) (Or.inl ⟨by rfl,?_⟩) hHeld ?_ ?_;rotate_left
      ·rintro w' ⟨s0,s1⟩;go_simp
       with_reducible rfl
      rotate_left
      ·simp only[Act.put,List.setIfInBounds_toArray,List.set_cons_zero,List.set_cons_succ,qak,qal];rfl
      refine qaq (i:=7) (N:=some 30) (v:=?_) (a':=?_) #[true,true,true,true,true,true,true,true,false,false] rfl rfl (qan HT_.out (by kernel_rfl)) (fun _ _ _ h=>h) (Or.inl ⟨by rfl,?_⟩) ?_ ?_;rotate_left
      ·intro w';go_simp
       with_reducible rfl
      rotate_left
      ·simp only[Act.put,List.setIfInBounds_toArray,List.set_cons_zero,List.set_cons_succ,qak,qal];rfl
      refine one_ (i:=8) (N:=some 6) #[true,true,true,true,true,true,true,true,true,false] rfl rfl (one_of HT_.out (by kernel_rfl)) (by decide) (fun K hK=>?_);refine box_step (by rfl) (N:=6) (by rfl) (cs:=#[.int .i64 0,.int .i64 0,.int .i64 0,.int .i64 0]) (t:=39) (by first|(go_simp;done)|(go_simp;rfl)) ?_;intro gb538 hg w19 hbox hb;have HS0_:=(hb.cell (World.block_lt_of_cell? _ _ (hHeld.1))).trans (hHeld.1);have HS1_:=(hb.cell (World.block_lt_of_cell? _ _ (hHeld.2))).trans (hHeld.2);replace HO_5:=qaj.mk (Kd.R_below (za3 HO_5) hb);have BK538:=qaj.mk hbox;have GW538:=zH (w:=w) hg (za0 HB GE527);have GE538:=GW538;replace HB:=qaj.mk (qaa (za0 HB GE527) hb);have NB527_538:=zL BK527 hg;have NB538_527:=zG BK527 hg;replace BK527:=zY BK527 hb;clear hb hbox hg;refine hK.out _ _ ⟨HS0_,HS1_⟩ (fun hHeld=>?_);clear hK K;refine norm_ (a':=?_) ?_ ?_;rotate_left
      ·show Act.put _ (some 6) _=_;simp only[Act.put,List.setIfInBounds_toArray,List.set_cons_zero,List.set_cons_succ,qak,qal];rfl
      refine one_ (i:=9) (N:=none) #[true,true,true,true,true,true,true,true,true,true] rfl rfl (one_of HT_.out (by kernel_rfl)) (by decide) (fun K hK=>?_);have hs20:w19.cell? ⟨gb538,0,none⟩=some (.int .i64 0):=(qag BK538.out 0).trans rfl;have hfs20:=qao BK538.out 0;have hns20_0:=NB527_538.out;have hms20_0:=NB538_527.out;have hs21:w19.cell? ⟨gb538,1,none⟩=some (.int .i64 0):=(qag BK538.out 1).trans rfl;have hfs21:=qao BK538.out 1;have hns21_0:=NB527_538.out;have hms21_0:=NB538_527.out;have hs22:w19.cell? ⟨gb538,2,none⟩=some (.int .i64 0):=(qag BK538.out 2).trans rfl;have hfs22:=qao BK538.out 2;have hns22_0:=NB527_538.out;have hms22_0:=NB538_527.out;have hs23:w19.cell? ⟨gb538,3,none⟩=some (.int .i64 0):=(qag BK538.out 3).trans rfl;have hfs23:=qao BK538.out 3;have hns23_0:=NB527_538.out;have hms23_0:=NB538_527.out;refine skip_ (w1:=?_) (by rfl) rfl ?_ ?_;rotate_left
      ·go_simp;rfl
      refine hK.out _ _ ⟨((cell_far (p:=⟨gb538,_,none⟩) (by first|exact Kd.own_blk (Kd.R_ne HO_5.out BK538.out (by decide))|(rw[qap];exact Kd.own_blk (Kd.R_ne HO_5.out BK538.out (by decide)))|(show(Addr.add _ _).block≠_;rw[qap];exact Kd.own_blk (Kd.R_ne HO_5.out BK538.out (by decide)))|(dsimp only;exact Kd.own_blk (Kd.R_ne HO_5.out BK538.out (by decide)))) _).trans (((cell_far (p:=⟨gb538,_,none⟩) (by first|exact Kd.own_blk (Kd.R_ne HO_5.out BK538.out (by decide))|(rw[qap];exact Kd.own_blk (Kd.R_ne HO_5.out BK538.out (by decide)))|(show(Addr.add _ _).block≠_;rw[qap];exact Kd.own_blk (Kd.R_ne HO_5.out BK538.out (by decide)))|(dsimp only;exact Kd.own_blk (Kd.R_ne HO_5.out BK538.out (by decide)))) _).trans (((cell_far (p:=⟨gb538,_,none⟩) (by first|exact Kd.own_blk (Kd.R_ne HO_5.out BK538.out (by decide))|(rw[qap];exact Kd.own_blk (Kd.R_ne HO_5.out BK538.out (by decide)))|(show(Addr.add _ _).block≠_;rw[qap];exact Kd.own_blk (Kd.R_ne HO_5.out BK538.out (by decide)))|(dsimp only;exact Kd.own_blk (Kd.R_ne HO_5.out BK538.out (by decide)))) _).trans (((cell_far (p:=⟨gb538,_,none⟩) (by first|exact Kd.own_blk (Kd.R_ne HO_5.out BK538.out (by decide))|(rw[qap];exact Kd.own_blk (Kd.R_ne HO_5.out BK538.out (by decide)))|(show(Addr.add _ _).block≠_;rw[qap];exact Kd.own_blk (Kd.R_ne HO_5.out BK538.out (by decide)))|(dsimp only;exact Kd.own_blk (Kd.R_ne HO_5.out BK538.out (by decide)))) _).trans (hHeld.1)))))))),((cell_far (p:=⟨gb538,_,none⟩) (by first|exact Kd.own_blk (Kd.R_ne HO_5.out BK538.out (by decide))|(rw[qap];exact Kd.own_blk (Kd.R_ne HO_5.out BK538.out (by decide)))|(show(Addr.add _ _).block≠_;rw[qap];exact Kd.own_blk (Kd.R_ne HO_5.out BK538.out (by decide)))|(dsimp only;exact Kd.own_blk (Kd.R_ne HO_5.out BK538.out (by decide)))) _).trans (((cell_far (p:=⟨gb538,_,none⟩) (by first|exact Kd.own_blk (Kd.R_ne HO_5.out BK538.out (by decide))|(rw[qap];exact Kd.own_blk (Kd.R_ne HO_5.out BK538.out (by decide)))|(show(Addr.add _ _).block≠_;rw[qap];exact Kd.own_blk (Kd.R_ne HO_5.out BK538.out (by decide)))|(dsimp only;exact Kd.own_blk (Kd.R_ne HO_5.out BK538.out (by decide)))) _).trans (((cell_far (p:=⟨gb538,_,none⟩) (by first|exact Kd.own_blk (Kd.R_ne HO_5.out BK538.out (by decide))|(rw[qap];exact Kd.own_blk (Kd.R_ne HO_5.out BK538.out (by decide)))|(show(Addr.add _ _).block≠_;rw[qap];exact Kd.own_blk (Kd.R_ne HO_5.out BK538.out (by decide)))|(dsimp only;exact Kd.own_blk (Kd.R_ne HO_5.out BK538.out (by decide)))) _).trans (((cell_far (p:=⟨gb538,_,none⟩) (by first|exact Kd.own_blk (Kd.R_ne HO_5.out BK538.out (by decide))|(rw[qap];exact Kd.own_blk (Kd.R_ne HO_5.out BK538.out (by decide)))|(show(Addr.add _ _).block≠_;rw[qap];exact Kd.own_blk (Kd.R_ne HO_5.out BK538.out (by decide)))|(dsimp only;exact Kd.own_blk (Kd.R_ne HO_5.out BK538.out (by decide)))) _).trans (hHeld.2))))))))⟩ (fun hHeld=>?_)
      clear hK K;refine done_ (done_of HT_.out (by kernel_rfl)) ?_
      go_upto_if 33 with(fail)
      go_cut [] (fun wc=>∃(kq:Nat) (x539003_15:Int),qaj (impl_WordRead.j1 kq a0 t531 (rd t532 0) (rd t532 1) x539003_15=some (r1,r2,r3,r4,r5))∧qaj (kq≤kj3)∧qaj (wc.heap[gb527]?=some (.cells #[.int .i64 0,.int .i64 0,.int .i64 0,.int .i64 0] 39 (0,0)))∧qaj (wc.heap[gb538]?=some (.cells #[.int .i64 t531,.int .i64 (rd t532 0),.int .i64 (rd t532 1),.int .i64 x539003_15] 39 (0,0)))∧qaj (Below w.heap.size w wc))
      case first=>
       have H:=HC16.out;clear HC16;by_cases c24:(t532.length:Int)=3
       ·rw[if_pos c24] at H;have c24b0:((t532.length:Int) == 3)=true:=beq_iff_eq.mpr c24;have c24b1:((t532.length:Int) != 3)=false:=bne_eq_false_iff_eq.mpr c24;clear c24;(first|rw[c24b0]|(simp only[qak,qal];rw[c24b0])|skip);by_cases c25:2<(t532.length:Int)
        ·rw[if_pos c25] at H;have c25b0:decide (2<(t532.length:Int))=true:=decide_eq_true c25;have c25b1:decide (2<t532.length)=true:=decide_eq_true (by omega);clear c25;have H':=qaj.mk H;clear H;have p539:0≤(2:Int):=(by omega);have q539:2<(t532.length:Int):=of_decide_eq_true (za13);obtain⟨ad539,e539,hx539_0⟩:=Kd.at_int (Kd.R_reads' HO_5.out).2.2 2 p539 q539;obtain rfl:ad536=ad539:=(by injection e539);(try simp only[show(2:Int).toNat=2 from rfl,Nat.reduceMul,Nat.reduceEqDiff,Go.Addr.add,↓reduceIte] at hx539_0);have qi539:(2<t532.length)=True:=eq_true (by omega);(try rw[show((2:Int)).toNat=2 from rfl] at hx539_0);have hn539_0:ad536.block≠gb538:=Kd.own_blk (Kd.R_ne HO_5.out BK538.out (by decide));have hn539_1:ad536.block≠gb538:=Kd.own_blk (Kd.R_ne HO_5.out BK538.out (by decide));have hn539_2:ad536.block≠gb538:=Kd.own_blk (Kd.R_ne HO_5.out BK538.out (by decide));have hn539_3:ad536.block≠gb538:=Kd.own_blk (Kd.R_ne HO_5.out BK538.out (by decide));replace hx539_0:=(cell_far (p:=⟨gb538,0,none⟩) (by first|(rw[qap];exact hn539_0)|(show(Addr.add _ _).block≠_;rw[qap];exact hn539_0)|exact hn539_0) (.int .i64 t531)).trans hx539_0;replace hx539_0:=(cell_far (p:=⟨gb538,1,none⟩) (by first|(rw[qap];exact hn539_1)|(show(Addr.add _ _).block≠_;rw[qap];exact hn539_1)|exact hn539_1) (.int .i64 (rd t532 0))).trans hx539_0;replace hx539_0:=(cell_far (p:=⟨gb538,2,none⟩) (by first|(rw[qap];exact hn539_2)|(show(Addr.add _ _).block≠_;rw[qap];exact hn539_2)|exact hn539_2) (.int .i64 (rd t532 1))).trans hx539_0
         replace hx539_0:=(cell_far (p:=⟨gb538,3,none⟩) (by first|(rw[qap];exact hn539_3)|(show(Addr.add _ _).block≠_;rw[qap];exact hn539_3)|exact hn539_3) (.int .i64 0)).trans hx539_0;clear hn539_0;clear hn539_1;clear hn539_2;clear hn539_3;replace p539:=eq_true p539;replace q539:=eq_true q539;have hnb26:=NB538_527.out;have hnc26:=NB527_538.out;obtain⟨hcz27_0,hcz27_1,hcz27_2,hcz27_3,hfz27_0,hfz27_1,hfz27_2,hfz27_3⟩:=zC4 BK538;go_wp2
         go_meet
         case rel=>exact⟨_,(rd t532 2),H',⟨za38 HJ3⟩,⟨by(with_reducible repeat(first|refine qac ?_ _|refine qad ?_|refine qab ?_ _));refine blk_far ?_ NB527_538.out _;(with_reducible repeat(first|refine qac ?_ _|refine qad ?_|refine qab ?_ _));refine blk_far ?_ NB527_538.out _;(with_reducible repeat(first|refine qac ?_ _|refine qad ?_|refine qab ?_ _));refine blk_far ?_ NB527_538.out _;(with_reducible repeat(first|refine qac ?_ _|refine qad ?_|refine qab ?_ _));refine blk_far ?_ NB527_538.out _;(with_reducible repeat(first|refine qac ?_ _|refine qad ?_|refine qab ?_ _));refine blk_far ?_ NB527_538.out _;(with_reducible repeat(first|refine qac ?_ _|refine qad ?_|refine qab ?_ _));exact BK527.out⟩,⟨by(with_reducible repeat(first|refine qac ?_ _|refine qad ?_|refine qab ?_ _));refine qaf (cs:=#[.int .i64 t531,.int .i64 (rd t532 0),.int .i64 (rd t532 1),.int .i64 0]) ?_ 3 _ rfl;(with_reducible repeat(first|refine qac ?_ _|refine qad ?_|refine qab ?_ _));refine qaf (cs:=#[.int .i64 t531,.int .i64 (rd t532 0),.int .i64 (rd t532 1),.int .i64 0]) ?_ 3 _ rfl;(with_reducible repeat(first|refine qac ?_ _|refine qad ?_|refine qab ?_ _));refine qaf (cs:=#[.int .i64 t531,.int .i64 (rd t532 0),.int .i64 0,.int .i64 0]) ?_ 2 _ rfl;(with_reducible repeat(first|refine qac ?_ _|refine qad ?_|refine qab ?_ _));refine qaf (cs:=#[.int .i64 t531,.int .i64 0,.int .i64 0,.int .i64 0]) ?_ 1 _ rfl;(with_reducible repeat(first|refine qac ?_ _|refine qad ?_|refine qab ?_ _));refine qaf (cs:=#[.int .i64 0,.int .i64 0,.int .i64 0,.int .i64 0]) ?_ 0 _ rfl;(with_reducible repeat(first|refine qac ?_ _|refine qad ?_|refine qab ?_ _));exact BK538.out⟩,⟨za1 HB GE527 GE538⟩⟩
        ·rw[if_neg c25] at H;exact absurd H (by simp)
       ·rw[if_neg c24] at H;have c24b0:((t532.length:Int) == 3)=false:=beq_eq_false_iff_ne.mpr c24;have c24b1:((t532.length:Int) != 3)=true:=bne_iff_ne.mpr c24;(first|rw[c24b0]|(simp only[qak,qal];rw[c24b0])|skip);have H':=qaj.mk H;clear H;go_wp2
        go_meet
        case rel=>exact⟨_,(0),H',⟨za38 HJ3⟩,⟨za5 NB527_538 BK527⟩,⟨by(with_reducible repeat(first|refine qac ?_ _|refine qad ?_|refine qab ?_ _));refine qaf (cs:=#[.int .i64 t531,.int .i64 (rd t532 0),.int .i64 (rd t532 1),.int .i64 0]) ?_ 3 _ rfl;(with_reducible repeat(first|refine qac ?_ _|refine qad ?_|refine qab ?_ _));refine qaf (cs:=#[.int .i64 t531,.int .i64 (rd t532 0),.int .i64 0,.int .i64 0]) ?_ 2 _ rfl;(with_reducible repeat(first|refine qac ?_ _|refine qad ?_|refine qab ?_ _));refine qaf (cs:=#[.int .i64 t531,.int .i64 0,.int .i64 0,.int .i64 0]) ?_ 1 _ rfl;(with_reducible repeat(first|refine qac ?_ _|refine qad ?_|refine qab ?_ _));refine qaf (cs:=#[.int .i64 0,.int .i64 0,.int .i64 0,.int .i64 0]) ?_ 0 _ rfl;(with_reducible repeat(first|refine qac ?_ _|refine qad ?_|refine qab ?_ _));exact BK538.out⟩,⟨za1 HB GE527 GE538⟩⟩
      case rest=>
       clear HC16
       try clear c1
       try clear c2
       try clear p2
       try clear c3
       try clear c4
       try clear c5
       try clear p5
       try clear q5
       try clear hx5
       try clear qi5
       try clear c9
       try clear c9b0
       try clear c9b1
       try clear c12
       try clear c14
       try clear c14b0
       try clear c14b1
       try clear c15
       try clear c15b0
       try clear c15b1
       try clear c24
       try clear c24b0
       try clear c24b1
       try clear c25
       try clear c25b0
       try clear c25b1
       try clear c26
       try clear hcz13_0
       try clear hcz13_1
       try clear hcz13_2
       try clear hcz13_3
       try clear hcz27_0
       try clear hcz27_1
       try clear hcz27_2
       try clear hcz27_3
       try clear hfz13_0
       try clear hfz13_1
       try clear hfz13_2
       try clear hfz13_3
       try clear hfz27_0
       try clear hfz27_1
       try clear hfz27_2
       try clear hfz27_3
       try clear hx536_0
       try clear hx537_0
       try clear hx539_0
       try clear p2
       try clear p536
       try clear p537
       try clear p539
       try clear q536
       try clear q537
       try clear q539
       obtain⟨kq,x539003_15,HA,HJ15,BK527,BK538,HB⟩:=hcut
       cases kq with
       |zero=>exact absurd HA.out (by simp[impl_WordRead.j1])
       |succ kj15=>
        have H:=HA.out;clear HA;simp only[impl_WordRead.j1] at H;replace H:=Option.bind_eq_some_iff.mp H;obtain⟨t540,A280,H⟩:=H;replace H:(if t540=true then((impl_WordText.f t531 (rd t532 0) (rd t532 1) x539003_15).bind fun t541=>(if t541.toList=a0.toList then(some (t531,(rd t532 0),(rd t532 1),x539003_15,true)) else(some (0,0,0,0,false)))) else(some (0,0,0,0,false)))=some (r1,r2,r3,r4,r5):=H;have A28:=qaj.mk A280;clear A280;by_cases c29:t540=true
        ·subst c29
         have H1:((impl_WordText.f t531 (rd t532 0) (rd t532 1) x539003_15).bind fun t541=>(if t541.toList=a0.toList then(some (t531,(rd t532 0),(rd t532 1),x539003_15,true)) else(some (0,0,0,0,false))))=some (r1,r2,r3,r4,r5):=by rw[if_pos rfl] at H;exact H
         clear H;have H:=H1;clear H1;replace H:=Option.bind_eq_some_iff.mp H;obtain⟨t541,A300,H⟩:=H;replace H:(if t541.toList=a0.toList then(some (t531,(rd t532 0),(rd t532 1),x539003_15,true)) else(some (0,0,0,0,false)))=some (r1,r2,r3,r4,r5):=H;have A30:=qaj.mk A300;clear A300;by_cases c31:t541.toList=a0.toList
         ·rw[if_pos c31] at H;have c31b0:(t541.toList == a0.toList)=true:=beq_iff_eq.mpr c31;have c31b1:(t541.toList != a0.toList)=false:=bne_eq_false_iff_eq.mpr c31;clear c31;simp only[Option.some.injEq,Prod.mk.injEq] at H;obtain⟨rfl,rfl,rfl,rfl,rfl⟩:=H;have hnb32:=NB538_527.out;have hnc32:=NB527_538.out;obtain⟨hcz33_0,hcz33_1,hcz33_2,hcz33_3,hfz33_0,hfz33_1,hfz33_2,hfz33_3⟩:=zC4 BK538
          go_wp2_with(first|((with_reducible refine qae (f:=33) rfl ?_);refine zF (some 39) Tryd.func33 #[.agg #[.int .i64 t531,.int .i64 (rd t532 0),.int .i64 (rd t532 1),.int .i64 x539003_15]] ?_;(with_reducible refine(impl_WordOk.calls t531 (rd t532 0) (rd t532 1) x539003_15 true _ A28.out).mono ?_);rintro e w34 ⟨rfl,hb⟩;refine⟨_,rfl,?_⟩;replace BK527:=zY BK527 hb;replace BK538:=zY BK538 hb;replace HB:=qaj.mk (qaa (za1 HB GE527 GE538) hb);(try clear hb);obtain⟨hcz35_0,hcz35_1,hcz35_2,hcz35_3,hfz35_0,hfz35_1,hfz35_2,hfz35_3⟩:=zC4 BK538)|(go_at_call 28;(with_reducible refine(impl_WordText.calls t531 (rd t532 0) (rd t532 1) x539003_15 t541 _ A30.out).mono ?_);rintro e w36 ⟨rfl,hb⟩;replace BK527:=zY BK527 hb;replace BK538:=zY BK538 hb;replace HB:=qaj.mk (qaa (za1 HB GE527 GE538) hb);(try clear hb);obtain⟨hcz37_0,hcz37_1,hcz37_2,hcz37_3,hfz37_0,hfz37_1,hfz37_2,hfz37_3⟩:=zC4 BK538;obtain⟨hcz38_0,hcz38_1,hcz38_2,hcz38_3,hfz38_0,hfz38_1,hfz38_2,hfz38_3⟩:=zC4 BK527))
          refine bodyPost_ret (results_ct rfl _ _ gb527 39 #[.int .i64 t531,.int .i64 (rd t532 0),.int .i64 (rd t532 1),.int .i64 x539003_15] (0,0) _ rfl (by(with_reducible repeat(first|refine qac ?_ _|refine qad ?_|refine qab ?_ _));refine qaf (cs:=#[.int .i64 t531,.int .i64 (rd t532 0),.int .i64 (rd t532 1),.int .i64 0]) ?_ 3 _ rfl;(with_reducible repeat(first|refine qac ?_ _|refine qad ?_|refine qab ?_ _));refine qaf (cs:=#[.int .i64 t531,.int .i64 (rd t532 0),.int .i64 0,.int .i64 0]) ?_ 2 _ rfl;(with_reducible repeat(first|refine qac ?_ _|refine qad ?_|refine qab ?_ _));refine qaf (cs:=#[.int .i64 t531,.int .i64 0,.int .i64 0,.int .i64 0]) ?_ 1 _ rfl;(with_reducible repeat(first|refine qac ?_ _|refine qad ?_|refine qab ?_ _));refine qaf (cs:=#[.int .i64 0,.int .i64 0,.int .i64 0,.int .i64 0]) ?_ 0 _ rfl;(with_reducible repeat(first|refine qac ?_ _|refine qad ?_|refine qab ?_ _));exact BK527.out) Tryd.underlying39 rfl (by kernel_rfl)) rfl ?_
          exact⟨za10,za1 HB GE527 GE538⟩
         ·rw[if_neg c31] at H;have c31b0:(t541.toList == a0.toList)=false:=beq_eq_false_iff_ne.mpr c31;have c31b1:(t541.toList != a0.toList)=true:=bne_iff_ne.mpr c31;simp only[Option.some.injEq,Prod.mk.injEq] at H;obtain⟨rfl,rfl,rfl,rfl,rfl⟩:=H;have hnb39:=NB538_527.out;have hnc39:=NB527_538.out;obtain⟨hcz40_0,hcz40_1,hcz40_2,hcz40_3,hfz40_0,hfz40_1,hfz40_2,hfz40_3⟩:=zC4 BK538
          go_wp2_with(first|((with_reducible refine qae (f:=33) rfl ?_);refine zF (some 39) Tryd.func33 #[.agg #[.int .i64 t531,.int .i64 (rd t532 0),.int .i64 (rd t532 1),.int .i64 x539003_15]] ?_;(with_reducible refine(impl_WordOk.calls t531 (rd t532 0) (rd t532 1) x539003_15 true _ A28.out).mono ?_);rintro e w41 ⟨rfl,hb⟩;refine⟨_,rfl,?_⟩;replace BK527:=zY BK527 hb;replace BK538:=zY BK538 hb;replace HB:=qaj.mk (qaa (za1 HB GE527 GE538) hb);(try clear hb);obtain⟨hcz42_0,hcz42_1,hcz42_2,hcz42_3,hfz42_0,hfz42_1,hfz42_2,hfz42_3⟩:=zC4 BK538)|(go_at_call 28;(with_reducible refine(impl_WordText.calls t531 (rd t532 0) (rd t532 1) x539003_15 t541 _ A30.out).mono ?_);rintro e w43 ⟨rfl,hb⟩;replace BK527:=zY BK527 hb;replace BK538:=zY BK538 hb;replace HB:=qaj.mk (qaa (za1 HB GE527 GE538) hb);(try clear hb);obtain⟨hcz44_0,hcz44_1,hcz44_2,hcz44_3,hfz44_0,hfz44_1,hfz44_2,hfz44_3⟩:=zC4 BK527))
          refine bodyPost_ret (results_ct rfl _ _ gb527 39 #[.int .i64 0,.int .i64 0,.int .i64 0,.int .i64 0] (0,0) _ rfl (by(with_reducible repeat(first|refine qac ?_ _|refine qad ?_|refine qab ?_ _));refine qaf (cs:=#[.int .i64 0,.int .i64 0,.int .i64 0,.int .i64 0]) ?_ 3 _ rfl;(with_reducible repeat(first|refine qac ?_ _|refine qad ?_|refine qab ?_ _));refine qaf (cs:=#[.int .i64 0,.int .i64 0,.int .i64 0,.int .i64 0]) ?_ 2 _ rfl;(with_reducible repeat(first|refine qac ?_ _|refine qad ?_|refine qab ?_ _));refine qaf (cs:=#[.int .i64 0,.int .i64 0,.int .i64 0,.int .i64 0]) ?_ 1 _ rfl;(with_reducible repeat(first|refine qac ?_ _|refine qad ?_|refine qab ?_ _));refine qaf (cs:=#[.int .i64 0,.int .i64 0,.int .i64 0,.int .i64 0]) ?_ 0 _ rfl;(with_reducible repeat(first|refine qac ?_ _|refine qad ?_|refine qab ?_ _));exact BK527.out) Tryd.underlying39 rfl (by kernel_rfl)) rfl ?_
          exact⟨za10,za1 HB GE527 GE538⟩
        ·replace c29:=Bool.eq_false_iff.mpr c29;subst c29
         have H1:(some (0,0,0,0,false))=some (r1,r2,r3,r4,r5):=by rw[if_neg (show ¬(false=true) by decide)] at H;exact H
         clear H;have H:=H1;clear H1;simp only[Option.some.injEq,Prod.mk.injEq] at H;obtain⟨rfl,rfl,rfl,rfl,rfl⟩:=H;have hnb45:=NB538_527.out;have hnc45:=NB527_538.out;obtain⟨hcz46_0,hcz46_1,hcz46_2,hcz46_3,hfz46_0,hfz46_1,hfz46_2,hfz46_3⟩:=zC4 BK538
         go_wp2_with(first|((with_reducible refine qae (f:=33) rfl ?_);refine zF (some 39) Tryd.func33 #[.agg #[.int .i64 t531,.int .i64 (rd t532 0),.int .i64 (rd t532 1),.int .i64 x539003_15]] ?_;(with_reducible refine(impl_WordOk.calls t531 (rd t532 0) (rd t532 1) x539003_15 false _ A28.out).mono ?_);rintro e w47 ⟨rfl,hb⟩;refine⟨_,rfl,?_⟩;replace BK527:=zY BK527 hb;replace BK538:=zY BK538 hb;replace HB:=qaj.mk (qaa (za1 HB GE527 GE538) hb);(try clear hb);obtain⟨hcz48_0,hcz48_1,hcz48_2,hcz48_3,hfz48_0,hfz48_1,hfz48_2,hfz48_3⟩:=zC4 BK527))
         refine bodyPost_ret (results_ct rfl _ _ gb527 39 #[.int .i64 0,.int .i64 0,.int .i64 0,.int .i64 0] (0,0) _ rfl (by(with_reducible repeat(first|refine qac ?_ _|refine qad ?_|refine qab ?_ _));refine qaf (cs:=#[.int .i64 0,.int .i64 0,.int .i64 0,.int .i64 0]) ?_ 3 _ rfl;(with_reducible repeat(first|refine qac ?_ _|refine qad ?_|refine qab ?_ _));refine qaf (cs:=#[.int .i64 0,.int .i64 0,.int .i64 0,.int .i64 0]) ?_ 2 _ rfl;(with_reducible repeat(first|refine qac ?_ _|refine qad ?_|refine qab ?_ _));refine qaf (cs:=#[.int .i64 0,.int .i64 0,.int .i64 0,.int .i64 0]) ?_ 1 _ rfl;(with_reducible repeat(first|refine qac ?_ _|refine qad ?_|refine qab ?_ _));refine qaf (cs:=#[.int .i64 0,.int .i64 0,.int .i64 0,.int .i64 0]) ?_ 0 _ rfl;(with_reducible repeat(first|refine qac ?_ _|refine qad ?_|refine qab ?_ _));exact BK527.out) Tryd.underlying39 rfl (by kernel_rfl)) rfl ?_
         exact⟨za10,za1 HB GE527 GE538⟩
     ·rw[if_neg c15] at H;exact absurd H (by simp)
    ·rw[if_neg c14] at H;exact absurd H (by simp)
end Go.Proofs.YtbcepmkifomifaaDoor.Print
