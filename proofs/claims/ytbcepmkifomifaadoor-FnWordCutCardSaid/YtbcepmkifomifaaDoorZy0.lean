-- Written by squeeze.py: not trusted, Lean checks it.
import Derived.Test.YtbcepmkifomifaaDoorZK
import Derived.Test.YtbcepmkifomifaaDoorZe0
import Derived.Test.YtbcepmkifomifaaDoorZj0
import Derived.Test.YtbcepmkifomifaaDoorZp0
import Derived.Test.YtbcepmkifomifaaDoorZp1
namespace Go.Proofs.YtbcepmkifomifaaDoor.Print
open Go.RowKit Go.Proofs.YtbcepmkifomifaaDoorW.PrintWords Go.Proofs.YtbcepmkifomifaaDoorW.PrintLast Go.Proofs.YtbcepmkifomifaaDoorW.PrintMore
attribute [local go_sem] max2_int min2_int max_two min_two max_three min_three max_four min_four
set_option linter.unusedVariables false
set_option linter.unusedSimpArgs false
mutual
def spec_WordRead.l0:Nat→ByteArray→List ByteArray→List ByteArray→Int→Int→Int→Int→Int→Option (Int × Int × Int × Int × Bool)
 |0,_,_,_,_,_,_,_,_=>none
 |k+1,x0,x4,x6,x7,x593000,x593001,x593002,x593003=>if x7<(x6.length:Int) then(if 0≤x7 then(if 0<(x4.length:Int) then(if(rdOf ByteArray.empty x6 x7).toList=(rdOf ByteArray.empty x4 0).toList then(spec_WordRead.l0 k x0 x4 x6 (wrap64 (x7+1)) x7 x593001 x593002 x593003) else(spec_WordRead.l0 k x0 x4 x6 (wrap64 (x7+1)) x593000 x593001 x593002 x593003)) else(none)) else(none)) else(if(x4.length:Int)=4 then(if 3<(x4.length:Int) then((spec_l1Dec.f k (rdOf ByteArray.empty x4 3)).bind fun t599=>(spec_WordRead.j1 k x0 x593000 x593001 x593002 t599)) else(none)) else(spec_WordRead.j1 k x0 x593000 x593001 x593002 x593003))
def spec_WordRead.j1:Nat→ByteArray→Int→Int→Int→Int→Option (Int × Int × Int × Int × Bool)
 |0,_,_,_,_,_=>none
 |k+1,x0,x593000,x593001,x593002,x593003=>(spec_WordOk.f k x593000 x593001 x593002 x593003).bind fun t600=>(if t600=true then((spec_WordText.f k x593000 x593001 x593002 x593003).bind fun t601=>(if t601.toList=x0.toList then(some (x593000,x593001,x593002,x593003,true)) else(some (0,0,0,0,false)))) else(some (0,0,0,0,false)))
end
def spec_WordRead.f (k:Nat) (a0:ByteArray):Option (Int × Int × Int × Int × Bool):=if(a0.size:Int)>20 then(some (0,0,0,0,false)) else((spec_l1Cut.f a0 32).bind fun t584=>((spec_l6In.f (t584.length:Int) 3 4).bind fun t587=>(if t587=true then(if 1<(t584.length:Int) then((spec_l1Dec.f k (rdOf ByteArray.empty t584 1)).bind fun t589=>(if 2<(t584.length:Int) then((spec_l1Dec.f k (rdOf ByteArray.empty t584 2)).bind fun t591=>((spec_l3Names.f).bind fun t593=>(spec_WordRead.l0 k a0 t584 t593 1 0 t589 t591 0))) else(none))) else(none)) else(some (0,0,0,0,false)))))
theorem spec_WordRead.mono_l:∀k,(∀y0 y1 y2 y3 y4 y5 y6 y7,LeO (spec_WordRead.l0 k y0 y1 y2 y3 y4 y5 y6 y7) (spec_WordRead.l0 (k+1) y0 y1 y2 y3 y4 y5 y6 y7))∧(∀y0 y1 y2 y3 y4,LeO (spec_WordRead.j1 k y0 y1 y2 y3 y4) (spec_WordRead.j1 (k+1) y0 y1 y2 y3 y4))
 |0=>⟨fun _ _ _ _ _ _ _ _ r h=>by simp[spec_WordRead.l0] at h,fun _ _ _ _ _ r h=>by simp[spec_WordRead.j1] at h⟩
 |k+1=>by
  obtain⟨ih0,ih1⟩:=spec_WordRead.mono_l k;refine⟨?_,?_⟩
  ·intro y0 y1 y2 y3 y4 y5 y6 y7;unfold spec_WordRead.l0
   repeat' first|(with_reducible exact ih0 _ _ _ _ _ _ _ _)|(with_reducible exact ih1 _ _ _ _ _)|(with_reducible exact spec_WordOk.mono _ _ _ _ _)|(with_reducible exact spec_WordText.mono _ _ _ _ _)|(with_reducible exact spec_l1Dec.mono _ _)|(with_reducible exact LeO.refl _)|(with_reducible exact LeO.none _)|(with_reducible refine LeO.ite ?_ ?_)|(with_reducible refine LeO.bind ?_ (fun _=>?_))|exact ih0 _ _ _ _ _ _ _ _|exact ih1 _ _ _ _ _|exact spec_WordOk.mono _ _ _ _ _|exact spec_WordText.mono _ _ _ _ _|exact spec_l1Dec.mono _ _|exact LeO.none _|refine LeO.ite ?_ ?_|refine LeO.bind ?_ (fun _=>?_)
  ·intro y0 y1 y2 y3 y4;unfold spec_WordRead.j1
   repeat' first|(with_reducible exact ih0 _ _ _ _ _ _ _ _)|(with_reducible exact ih1 _ _ _ _ _)|(with_reducible exact spec_WordOk.mono _ _ _ _ _)|(with_reducible exact spec_WordText.mono _ _ _ _ _)|(with_reducible exact spec_l1Dec.mono _ _)|(with_reducible exact LeO.refl _)|(with_reducible exact LeO.none _)|(with_reducible refine LeO.ite ?_ ?_)|(with_reducible refine LeO.bind ?_ (fun _=>?_))|exact ih0 _ _ _ _ _ _ _ _|exact ih1 _ _ _ _ _|exact spec_WordOk.mono _ _ _ _ _|exact spec_WordText.mono _ _ _ _ _|exact spec_l1Dec.mono _ _|exact LeO.none _|refine LeO.ite ?_ ?_|refine LeO.bind ?_ (fun _=>?_)
theorem spec_WordRead.mono:∀a0 k,LeO (spec_WordRead.f k a0) (spec_WordRead.f (k+1) a0):=by
 intro a0 k;obtain⟨ih0,ih1⟩:=spec_WordRead.mono_l k;unfold spec_WordRead.f
 repeat' first|(with_reducible exact ih0 _ _ _ _ _ _ _ _)|(with_reducible exact ih1 _ _ _ _ _)|(with_reducible exact spec_WordOk.mono _ _ _ _ _)|(with_reducible exact spec_WordText.mono _ _ _ _ _)|(with_reducible exact spec_l1Dec.mono _ _)|(with_reducible exact LeO.refl _)|(with_reducible exact LeO.none _)|(with_reducible refine LeO.ite ?_ ?_)|(with_reducible refine LeO.bind ?_ (fun _=>?_))|exact ih0 _ _ _ _ _ _ _ _|exact ih1 _ _ _ _ _|exact spec_WordOk.mono _ _ _ _ _|exact spec_WordText.mono _ _ _ _ _|exact spec_l1Dec.mono _ _|exact LeO.none _|refine LeO.ite ?_ ?_|refine LeO.bind ?_ (fun _=>?_)
def spec_WordRead.T6:Bool × List (List Nat × List Nat):=(true,[([],[]),([0],[0]),([1],[1]),([2],[2]),([],[]),([4],[4]),([5],[5]),([6,3],[6]),([3,7],[3,7]),([],[]),([9,8,7,0,1,2,3,4,5,6,7,8,9],[8,9])])
def spec_WordRead.B6:List Nat:=[0,1,3,7,0,16,48,127,255,0,1023]
theorem spec_WordRead.tab6:rtab .any (opsOf Tryd.f34 6)=spec_WordRead.T6:=by kernel_rfl
theorem spec_WordRead.bits6:waitsOk spec_WordRead.T6.2 spec_WordRead.B6=true:=by kernel_rfl
def spec_WordRead.T11:Bool × List (List Nat × List Nat):=(true,[([],[]),([],[]),([0,1],[0,1]),([2],[2]),([],[]),([4],[4]),([5],[5]),([3,6],[3,6])])
def spec_WordRead.B11:List Nat:=[0,0,3,7,0,16,48,127]
theorem spec_WordRead.tab11:rtab .any (opsOf Tryd.f34 11)=spec_WordRead.T11:=by kernel_rfl
theorem spec_WordRead.bits11:waitsOk spec_WordRead.T11.2 spec_WordRead.B11=true:=by kernel_rfl
set_option maxHeartbeats 8000000 in
set_option maxRecDepth 100000 in
theorem spec_WordRead.calls (k:Nat) (a0:ByteArray) (r1:Int) (r2:Int) (r3:Int) (r4:Int) (r5:Bool) (w:World) (h:spec_WordRead.f k a0=some (r1,r2,r3,r4,r5)) :
  Calls Tryd.prog 34 #[.string a0] w fun e w'=>e=.returned (.tuple #[.agg #[.int .i64 r1,.int .i64 r2,.int .i64 r3,.int .i64 r4],.bool r5])∧Below w.heap.size w w':=by
 have hu39:=Tryd.underlying39;have HB:=qaj.mk (Below.refl w.heap.size w);have H:(if(a0.size:Int)>20 then(some (0,0,0,0,false)) else((spec_l1Cut.f a0 32).bind fun t584=>((spec_l6In.f (t584.length:Int) 3 4).bind fun t587=>(if t587=true then(if 1<(t584.length:Int) then((spec_l1Dec.f k (rdOf ByteArray.empty t584 1)).bind fun t589=>(if 2<(t584.length:Int) then((spec_l1Dec.f k (rdOf ByteArray.empty t584 2)).bind fun t591=>((spec_l3Names.f).bind fun t593=>(spec_WordRead.l0 k a0 t584 t593 1 0 t589 t591 0))) else(none))) else(none)) else(some (0,0,0,0,false))))))=some (r1,r2,r3,r4,r5):=h;clear h;by_cases c2:(a0.size:Int)>20
 ·rw[if_pos c2] at H;have c2b0:decide (20<(a0.size:Int))=true:=decide_eq_true c2;have c2b1:decide (20<a0.size)=true:=decide_eq_true (by omega);clear c2;simp only[Option.some.injEq,Prod.mk.injEq] at H;obtain⟨rfl,rfl,rfl,rfl,rfl⟩:=H;go_enter Tryd.func34,Tryd.ntmps34
  go_wp2_with(first|((with_reducible refine qai (N:=2) rfl ?_);refine zX (N:=2) (cs:=#[.int .i64 0,.int .i64 0,.int .i64 0,.int .i64 0]) (t:=39) ?_;intro gb583 hg w3 hbox hb;have BK583:=qaj.mk hbox;have GW583:=zH (w:=w) hg (za2 HB);have GE583:=GW583;replace HB:=qaj.mk (qaa (za2 HB) hb);clear hb hbox hg;obtain⟨hcz4_0,hcz4_1,hcz4_2,hcz4_3,hfz4_0,hfz4_1,hfz4_2,hfz4_3⟩:=zC4 BK583))
  refine bodyPost_ret (results_ct rfl _ _ gb583 39 #[.int .i64 0,.int .i64 0,.int .i64 0,.int .i64 0] (0,0) _ rfl (by(with_reducible repeat(first|refine qac ?_ _|refine qad ?_|refine qab ?_ _));refine qaf (cs:=#[.int .i64 0,.int .i64 0,.int .i64 0,.int .i64 0]) ?_ 3 _ rfl;(with_reducible repeat(first|refine qac ?_ _|refine qad ?_|refine qab ?_ _));refine qaf (cs:=#[.int .i64 0,.int .i64 0,.int .i64 0,.int .i64 0]) ?_ 2 _ rfl;(with_reducible repeat(first|refine qac ?_ _|refine qad ?_|refine qab ?_ _));refine qaf (cs:=#[.int .i64 0,.int .i64 0,.int .i64 0,.int .i64 0]) ?_ 1 _ rfl;(with_reducible repeat(first|refine qac ?_ _|refine qad ?_|refine qab ?_ _));refine qaf (cs:=#[.int .i64 0,.int .i64 0,.int .i64 0,.int .i64 0]) ?_ 0 _ rfl;(with_reducible repeat(first|refine qac ?_ _|refine qad ?_|refine qab ?_ _));exact BK583.out) Tryd.underlying39 rfl (by kernel_rfl)) rfl ?_
  exact⟨za10,za0 HB GE583⟩
 ·rw[if_neg c2] at H;have c2b0:decide (20<(a0.size:Int))=false:=decide_eq_false c2;have c2b1:decide (20<a0.size)=false:=decide_eq_false (by omega);clear c2;replace H:=Option.bind_eq_some_iff.mp H;obtain⟨t584,A50,H⟩:=H;replace H:((spec_l6In.f (t584.length:Int) 3 4).bind fun t587=>(if t587=true then(if 1<(t584.length:Int) then((spec_l1Dec.f k (rdOf ByteArray.empty t584 1)).bind fun t589=>(if 2<(t584.length:Int) then((spec_l1Dec.f k (rdOf ByteArray.empty t584 2)).bind fun t591=>((spec_l3Names.f).bind fun t593=>(spec_WordRead.l0 k a0 t584 t593 1 0 t589 t591 0))) else(none))) else(none)) else(some (0,0,0,0,false))))=some (r1,r2,r3,r4,r5):=H;have A5:=qaj.mk A50;clear A50;replace H:=Option.bind_eq_some_iff.mp H;obtain⟨t587,A60,H⟩:=H;replace H:(if t587=true then(if 1<(t584.length:Int) then((spec_l1Dec.f k (rdOf ByteArray.empty t584 1)).bind fun t589=>(if 2<(t584.length:Int) then((spec_l1Dec.f k (rdOf ByteArray.empty t584 2)).bind fun t591=>((spec_l3Names.f).bind fun t593=>(spec_WordRead.l0 k a0 t584 t593 1 0 t589 t591 0))) else(none))) else(none)) else(some (0,0,0,0,false)))=some (r1,r2,r3,r4,r5):=H;have A6:=qaj.mk A60;clear A60;by_cases c7:t587=true
  ·subst c7
   have H1:(if 1<(t584.length:Int) then((spec_l1Dec.f k (rdOf ByteArray.empty t584 1)).bind fun t589=>(if 2<(t584.length:Int) then((spec_l1Dec.f k (rdOf ByteArray.empty t584 2)).bind fun t591=>((spec_l3Names.f).bind fun t593=>(spec_WordRead.l0 k a0 t584 t593 1 0 t589 t591 0))) else(none))) else(none))=some (r1,r2,r3,r4,r5):=by rw[if_pos rfl] at H;exact H
   clear H;have H:=H1;clear H1;by_cases c8:1<(t584.length:Int)
   ·rw[if_pos c8] at H;have c8b0:decide (1<(t584.length:Int))=true:=decide_eq_true c8;have c8b1:decide (1<t584.length)=true:=decide_eq_true (by omega);clear c8;replace H:=Option.bind_eq_some_iff.mp H;obtain⟨t589,A90,H⟩:=H;replace H:(if 2<(t584.length:Int) then((spec_l1Dec.f k (rdOf ByteArray.empty t584 2)).bind fun t591=>((spec_l3Names.f).bind fun t593=>(spec_WordRead.l0 k a0 t584 t593 1 0 t589 t591 0))) else(none))=some (r1,r2,r3,r4,r5):=H;have A9:=qaj.mk A90;clear A90;by_cases c10:2<(t584.length:Int)
    ·rw[if_pos c10] at H;have c10b0:decide (2<(t584.length:Int))=true:=decide_eq_true c10;have c10b1:decide (2<t584.length)=true:=decide_eq_true (by omega);clear c10;replace H:=Option.bind_eq_some_iff.mp H;obtain⟨t591,A110,H⟩:=H;replace H:((spec_l3Names.f).bind fun t593=>(spec_WordRead.l0 k a0 t584 t593 1 0 t589 t591 0))=some (r1,r2,r3,r4,r5):=H;have A11:=qaj.mk A110;clear A110;replace H:=Option.bind_eq_some_iff.mp H;obtain⟨t593,A120,H⟩:=H;replace H:(spec_WordRead.l0 k a0 t584 t593 1 0 t589 t591 0)=some (r1,r2,r3,r4,r5):=H;have A12:=qaj.mk A120;clear A120;have H':=qaj.mk H;clear H;go_enter Tryd.func34,Tryd.ntmps34
     try go_wp2_with(first|((with_reducible refine qai (N:=2) rfl ?_);refine zX (N:=2) (cs:=#[.int .i64 0,.int .i64 0,.int .i64 0,.int .i64 0]) (t:=39) ?_;intro gb583 hg w13 hbox hb;have BK583:=qaj.mk hbox;have GW583:=zH (w:=w) hg (za2 HB);have GE583:=GW583;replace HB:=qaj.mk (qaa (za2 HB) hb);clear hb hbox hg)|((with_reducible refine qae (f:=47) rfl ?_);refine zF (some 13) Tryd.func47 #[.string a0,.int .u8 32] ?_;(with_reducible refine(spec_l1Cut.calls a0 32 t584 _ A5.out).mono ?_);rintro e w14 ⟨v585,rfl,ho0,hb⟩;refine⟨_,rfl,?_⟩;have HO586:=qaj.mk (Kd.R_lower ho0 (qam (za0 HB GE583)));replace BK583:=zY BK583 hb;replace HB:=qaj.mk (qaa (za0 HB GE583) hb);(try clear hb);(try clear ho0);obtain⟨Ao15,co15,eo15⟩:=Kd.R_slice HO586.out;subst eo15)|((with_reducible refine qae (f:=64) rfl ?_);refine zF (some 16) Tryd.func64 #[.int .i64 (t584.length:Int),.int .i64 3,.int .i64 4] ?_;(with_reducible refine(spec_l6In.calls (t584.length:Int) 3 4 true _ A6.out).mono ?_);rintro e w' ⟨rfl,⟨nd,rfl⟩⟩;refine⟨_,rfl,?_⟩;(try(rw[drewN_self w14];generalize hq_:World.drewN w14 _=w14;replace HO586:qaj (Kd.R Kd.string 9 w14 w.heap.size (fun _=>True) (.slice Ao15 t584.length co15) t584):=⟨by rw[←hq_];exact(za3 HO586)⟩;replace BK583:qaj (w14.heap[gb583]?=some (.cells #[.int .i64 0,.int .i64 0,.int .i64 0,.int .i64 0] 39 (0,0))):=⟨by rw[←hq_];exact(zB BK583)⟩;replace HB:qaj (Below w.heap.size w w14):=⟨by rw[←hq_];exact(za0 HB GE583)⟩;clear hq_;have hczugb583_0:w14.cell? ⟨gb583,0,none⟩=some _:=(qag BK583.out 0).trans rfl;have hfzugb583_0:=qao BK583.out 0;have hczugb583_1:w14.cell? ⟨gb583,1,none⟩=some _:=(qag BK583.out 1).trans rfl;have hfzugb583_1:=qao BK583.out 1;have hczugb583_2:w14.cell? ⟨gb583,2,none⟩=some _:=(qag BK583.out 2).trans rfl;have hfzugb583_2:=qao BK583.out 2;have hczugb583_3:w14.cell? ⟨gb583,3,none⟩=some _:=(qag BK583.out 3).trans rfl;have hfzugb583_3:=qao BK583.out 3))))
     replace HO586:=qaj.mk (Kd.R_drew HO586.out);replace BK583:=qaj.mk (qad BK583.out);replace HB:=qaj.mk (qar HB.out);have p588:0≤(1:Int):=(by omega);have q588:1<(t584.length:Int):=of_decide_eq_true (za13);obtain⟨ad588,e588,hx588_0⟩:=Kd.at_string (Kd.R_reads' HO586.out).2.2 1 p588 q588
     cases e588
     (try simp only[show(1:Int).toNat=1 from rfl,Nat.reduceMul,Nat.reduceEqDiff,Go.Addr.add,↓reduceIte] at hx588_0);have qi588:(1<t584.length)=True:=eq_true (by omega);(try rw[show((1:Int)).toNat=1 from rfl] at hx588_0);replace p588:=eq_true p588;replace q588:=eq_true q588;have p590:0≤(2:Int):=(by omega);have q590:2<(t584.length:Int):=of_decide_eq_true (za13);obtain⟨ad590,e590,hx590_0⟩:=Kd.at_string (Kd.R_reads' HO586.out).2.2 2 p590 q590;obtain rfl:ad588=ad590:=(by injection e590);(try simp only[show(2:Int).toNat=2 from rfl,Nat.reduceMul,Nat.reduceEqDiff,Go.Addr.add,↓reduceIte] at hx590_0);have qi590:(2<t584.length)=True:=eq_true (by omega);(try rw[show((2:Int)).toNat=2 from rfl] at hx590_0);replace p590:=eq_true p590;replace q590:=eq_true q590;refine start_ (n:=11) (S:=fun w'=>w'.cell? ⟨ad588.block,ad588.off+1,none⟩=some (.string (rdOf ByteArray.empty t584 1))∧w'.cell? ⟨ad588.block,ad588.off+2,none⟩=some (.string (rdOf ByteArray.empty t584 2))) (ds:=[]) #[false,false,false,false,false,false,false,false,false,false,false] (by kernel_rfl) rfl rfl ⟨hx588_0,hx590_0⟩ (fun hHeld=>?_);refine with_tabW spec_WordRead.tab6 spec_WordRead.bits6 (fun HT_ HW_=>?_);generalize w14.drew=w16 at HO586 BK583 HB hx588_0 hx590_0 hHeld ⊢;refine qaq (i:=0) (N:=some 19) (v:=?_) (a':=?_) #[true,false,false,false,false,false,false,false,false,false,false] rfl rfl (qan HT_.out (by kernel_rfl)) (fun _ _ _ h=>h) (Or.inl ⟨by rfl,?_⟩) ?_ ?_;rotate_left
     ·intro w';go_simp
      with_reducible rfl
     rotate_left
     ·simp only[Act.put,List.setIfInBounds_toArray,List.set_cons_zero,List.set_cons_succ,qak,qal];rfl
     refine qaq (i:=1) (N:=some 20) (v:=?_) (a':=?_) #[true,true,false,false,false,false,false,false,false,false,false] rfl rfl (qan HT_.out (by kernel_rfl)) (fun _ _ _ h=>h) (Or.inl ⟨by rfl,?_⟩) ?_ ?_;rotate_left
     ·intro w';go_simp
      with_reducible rfl
     rotate_left
     ·simp only[Act.put,List.setIfInBounds_toArray,List.set_cons_zero,List.set_cons_succ,qak,qal];rfl
     refine qaq (i:=4) (N:=some 23) (v:=?_) (a':=?_) #[true,true,false,false,true,false,false,false,false,false,false] rfl rfl (qan HT_.out (by kernel_rfl)) (fun _ _ _ h=>h) (Or.inl ⟨by rfl,?_⟩) ?_ ?_;rotate_left
     ·intro w';go_simp
      with_reducible rfl
     rotate_left
     ·simp only[Act.put,List.setIfInBounds_toArray,List.set_cons_zero,List.set_cons_succ,qak,qal];rfl
     refine qaq (i:=5) (N:=some 24) (v:=?_) (a':=?_) #[true,true,false,false,true,true,false,false,false,false,false] rfl rfl (qan HT_.out (by kernel_rfl)) (fun _ _ _ h=>h) (Or.inl ⟨by rfl,?_⟩) ?_ ?_;rotate_left
     ·intro w';go_simp
      with_reducible rfl
     rotate_left
     ·simp only[Act.put,List.setIfInBounds_toArray,List.set_cons_zero,List.set_cons_succ,qak,qal];rfl
     refine take_ (i:=2) (N:=some 21) (v:=?_) (a':=?_) #[true,true,true,false,true,true,false,false,false,false,false] rfl rfl (take_ofW HT_.out HW_.out (by kernel_rfl)) (fun _ _ _ h=>h) (Or.inl ⟨by rfl,?_⟩) hHeld ?_ ?_;rotate_left
     ·rintro w' ⟨s0,s1⟩;go_simp
      with_reducible rfl
     rotate_left
     ·simp only[Act.put,List.setIfInBounds_toArray,List.set_cons_zero,List.set_cons_succ,qak,qal];rfl
     refine take_ (i:=6) (N:=some 25) (v:=?_) (a':=?_) #[true,true,true,false,true,true,true,false,false,false,false] rfl rfl (take_ofW HT_.out HW_.out (by kernel_rfl)) (fun _ _ _ h=>h) (Or.inl ⟨by rfl,?_⟩) hHeld ?_ ?_;rotate_left
     ·rintro w' ⟨s0,s1⟩;go_simp
      with_reducible rfl
     rotate_left
     ·simp only[Act.put,List.setIfInBounds_toArray,List.set_cons_zero,List.set_cons_succ,qak,qal];rfl
     refine join_ (σ:=Nat) 1 #[true,true,true,true,true,true,true,true,true,true,false] (fun s_=>[(22,.int .i64 t589),(26,.int .i64 t591),(5,.pointer (some ⟨s_,0,none⟩)),(27,.agg #[.int .i64 0,.int .i64 t589,.int .i64 t591,.int .i64 0])]) (fun s_ w'=>(w'.cell? ⟨ad588.block,ad588.off+1,none⟩=some (.string (rdOf ByteArray.empty t584 1))∧w'.cell? ⟨ad588.block,ad588.off+2,none⟩=some (.string (rdOf ByteArray.empty t584 2)))∧(Kd.R Kd.string 9 w' w.heap.size (fun _=>True) (.slice (some ad588) t584.length co15) t584)∧(w'.heap[gb583]?=some (.cells #[.int .i64 0,.int .i64 0,.int .i64 0,.int .i64 0] 39 (0,0)))∧(w'.heap[s_]?=some (.cells #[.int .i64 0,.int .i64 0,.int .i64 0,.int .i64 0] 39 (0,0)))∧(w.heap.size≤s_)∧(w.heap.size≤s_)∧(gb583≠s_)∧(s_≠gb583)∧(Below w.heap.size w w')) ?_ ?_
     rotate_left
     ·intro hCont;refine two_ (i:=3) (j:=9) (Ni:=some 22) (Nj:=some 5) #[true,true,true,true,true,true,true,false,false,false,false] #[true,true,true,false,true,true,true,false,false,true,false] rfl rfl rfl rfl (two_of HT_.out (by kernel_rfl)) (by decide) (by decide) (fun K hK=>?_) (fun K hK=>?_)
      ·skip;refine goes_ Tryd.func48 (by kernel_rfl) rfl #[.string (rdOf ByteArray.empty t584 1)] (by rfl) rfl rfl (by(try simp only[List.map_toArray,List.map_cons,List.map_nil]);first|done|rfl|(simp only[List.length_drop,List.length_take];rfl)) ?_
       with_reducible refine(spec_l1Dec.calls k (rdOf ByteArray.empty t584 1) t589 _ A9.out).mono ?_
       rintro e w' ⟨rfl,⟨nd,rfl⟩⟩;refine⟨_,rfl,?_⟩;refine hK.out _ _ ⟨hHeld.1,hHeld.2⟩ (fun hHeld=>?_);clear hK K;refine norm_ (a':=?_) ?_ ?_;rotate_left
       ·show Act.put _ (some 22) _=_;simp only[Act.put,List.setIfInBounds_toArray,List.set_cons_zero,List.set_cons_succ,qak,qal];rfl
       refine two_ (i:=7) (j:=9) (Ni:=some 26) (Nj:=some 5) #[true,true,true,true,true,true,true,true,false,false,false] #[true,true,true,true,true,true,true,false,false,true,false] rfl rfl rfl rfl (two_of HT_.out (by kernel_rfl)) (by decide) (by decide) (fun K hK=>?_) (fun K hK=>?_)
       ·skip;refine goes_ Tryd.func48 (by kernel_rfl) rfl #[.string (rdOf ByteArray.empty t584 2)] (by rfl) rfl rfl (by(try simp only[List.map_toArray,List.map_cons,List.map_nil]);first|done|rfl|(simp only[List.length_drop,List.length_take];rfl)) ?_
        with_reducible refine(spec_l1Dec.calls k (rdOf ByteArray.empty t584 2) t591 _ A11.out).mono ?_
        rintro e w' ⟨rfl,⟨nd,rfl⟩⟩;refine⟨_,rfl,?_⟩;refine hK.out _ _ ⟨hHeld.1,hHeld.2⟩ (fun hHeld=>?_);clear hK K;refine norm_ (a':=?_) ?_ ?_;rotate_left
        ·show Act.put _ (some 26) _=_;simp only[Act.put,List.setIfInBounds_toArray,List.set_cons_zero,List.set_cons_succ,qak,qal];rfl
        refine qaq (i:=8) (N:=some 27) (v:=?_) (a':=?_) #[true,true,true,true,true,true,true,true,true,false,false] rfl rfl (qan HT_.out (by kernel_rfl)) (fun _ _ _ h=>h) (Or.inl ⟨by rfl,?_⟩) ?_ ?_;rotate_left
        ·intro w';go_simp
         with_reducible rfl
        rotate_left
        ·simp only[Act.put,List.setIfInBounds_toArray,List.set_cons_zero,List.set_cons_succ,qak,qal];rfl
        refine one_ (i:=9) (N:=some 5) #[true,true,true,true,true,true,true,true,true,true,false] rfl rfl (one_of HT_.out (by kernel_rfl)) (by decide) (fun K hK=>?_);refine box_step (by rfl) (N:=5) (by rfl) (cs:=#[.int .i64 0,.int .i64 0,.int .i64 0,.int .i64 0]) (t:=39) (by first|(go_simp;done)|(go_simp;rfl)) ?_;intro gb592 hg w17 hbox hb;have HS0_:=(hb.cell (World.block_lt_of_cell? _ _ (hHeld.1))).trans (hHeld.1);have HS1_:=(hb.cell (World.block_lt_of_cell? _ _ (hHeld.2))).trans (hHeld.2);replace HO586:=qaj.mk (Kd.R_below (za3 HO586) hb);have BK592:=qaj.mk hbox;have GW592:=zH (w:=w) hg (za0 HB GE583);have GE592:=GW592;replace HB:=qaj.mk (qaa (za0 HB GE583) hb);have NB583_592:=zL BK583 hg;have NB592_583:=zG BK583 hg;replace BK583:=zY BK583 hb;clear hb hbox hg;refine hK.out _ _ ⟨HS0_,HS1_⟩ (fun hHeld=>?_);clear hK K;refine norm_ (a':=?_) ?_ ?_;rotate_left
        ·show Act.put _ (some 5) _=_;simp only[Act.put,List.setIfInBounds_toArray,List.set_cons_zero,List.set_cons_succ,qak,qal];rfl
        exact norm_ (by simp only[putAll,Act.put,List.setIfInBounds_toArray,List.set_cons_zero,List.set_cons_succ]) (hCont (gb592) _ ⟨hHeld,(za3 HO586),(zB BK583),(zB BK592),GW592.out,GE592.out,NB583_592.out,NB592_583.out,(za1 HB GE583 GE592)⟩)
       ·skip;refine box_step (by rfl) (N:=5) (by rfl) (cs:=#[.int .i64 0,.int .i64 0,.int .i64 0,.int .i64 0]) (t:=39) (by first|(go_simp;done)|(go_simp;rfl)) ?_;intro gb592 hg w17 hbox hb;have HS0_:=(hb.cell (World.block_lt_of_cell? _ _ (hHeld.1))).trans (hHeld.1);have HS1_:=(hb.cell (World.block_lt_of_cell? _ _ (hHeld.2))).trans (hHeld.2);replace HO586:=qaj.mk (Kd.R_below (za3 HO586) hb);have BK592:=qaj.mk hbox;have GW592:=zH (w:=w) hg (za0 HB GE583);have GE592:=GW592;replace HB:=qaj.mk (qaa (za0 HB GE583) hb);have NB583_592:=zL BK583 hg;have NB592_583:=zG BK583 hg;replace BK583:=zY BK583 hb;clear hb hbox hg;refine hK.out _ _ ⟨HS0_,HS1_⟩ (fun hHeld=>?_);clear hK K;refine norm_ (a':=?_) ?_ ?_;rotate_left
        ·show Act.put _ (some 5) _=_;simp only[Act.put,List.setIfInBounds_toArray,List.set_cons_zero,List.set_cons_succ,qak,qal];rfl
        refine one_ (i:=7) (N:=some 26) #[true,true,true,true,true,true,true,true,false,true,false] rfl rfl (one_of HT_.out (by kernel_rfl)) (by decide) (fun K hK=>?_);refine goes_ Tryd.func48 (by kernel_rfl) rfl #[.string (rdOf ByteArray.empty t584 2)] (by rfl) rfl rfl (by(try simp only[List.map_toArray,List.map_cons,List.map_nil]);first|done|rfl|(simp only[List.length_drop,List.length_take];rfl)) ?_
        with_reducible refine(spec_l1Dec.calls k (rdOf ByteArray.empty t584 2) t591 _ A11.out).mono ?_
        rintro e w' ⟨rfl,⟨nd,rfl⟩⟩;refine⟨_,rfl,?_⟩;refine hK.out _ _ ⟨hHeld.1,hHeld.2⟩ (fun hHeld=>?_);clear hK K;refine norm_ (a':=?_) ?_ ?_;rotate_left
        ·show Act.put _ (some 26) _=_;simp only[Act.put,List.setIfInBounds_toArray,List.set_cons_zero,List.set_cons_succ,qak,qal];rfl
        refine qaq (i:=8) (N:=some 27) (v:=?_) (a':=?_) #[true,true,true,true,true,true,true,true,true,true,false] rfl rfl (qan HT_.out (by kernel_rfl)) (fun _ _ _ h=>h) (Or.inl ⟨by rfl,?_⟩) ?_ ?_;rotate_left
        ·intro w';go_simp
         with_reducible rfl
        rotate_left
        ·simp only[Act.put,List.setIfInBounds_toArray,List.set_cons_zero,List.set_cons_succ,qak,qal];rfl
        exact norm_ (by simp only[putAll,Act.put,List.setIfInBounds_toArray,List.set_cons_zero,List.set_cons_succ]) (hCont (gb592) _ ⟨hHeld,(za3 HO586),(zB BK583),(zB BK592),GW592.out,GE592.out,NB583_592.out,NB592_583.out,(za1 HB GE583 GE592)⟩)
      ·skip;refine box_step (by rfl) (N:=5) (by rfl) (cs:=#[.int .i64 0,.int .i64 0,.int .i64 0,.int .i64 0]) (t:=39) (by first|(go_simp;done)|(go_simp;rfl)) ?_;intro gb592 hg w17 hbox hb;have HS0_:=(hb.cell (World.block_lt_of_cell? _ _ (hHeld.1))).trans (hHeld.1);have HS1_:=(hb.cell (World.block_lt_of_cell? _ _ (hHeld.2))).trans (hHeld.2);replace HO586:=qaj.mk (Kd.R_below (za3 HO586) hb);have BK592:=qaj.mk hbox;have GW592:=zH (w:=w) hg (za0 HB GE583);have GE592:=GW592;replace HB:=qaj.mk (qaa (za0 HB GE583) hb);have NB583_592:=zL BK583 hg;have NB592_583:=zG BK583 hg;replace BK583:=zY BK583 hb;clear hb hbox hg;refine hK.out _ _ ⟨HS0_,HS1_⟩ (fun hHeld=>?_);clear hK K;refine norm_ (a':=?_) ?_ ?_;rotate_left
       ·show Act.put _ (some 5) _=_;simp only[Act.put,List.setIfInBounds_toArray,List.set_cons_zero,List.set_cons_succ,qak,qal];rfl
       refine one_ (i:=3) (N:=some 22) #[true,true,true,true,true,true,true,false,false,true,false] rfl rfl (one_of HT_.out (by kernel_rfl)) (by decide) (fun K hK=>?_);refine goes_ Tryd.func48 (by kernel_rfl) rfl #[.string (rdOf ByteArray.empty t584 1)] (by rfl) rfl rfl (by(try simp only[List.map_toArray,List.map_cons,List.map_nil]);first|done|rfl|(simp only[List.length_drop,List.length_take];rfl)) ?_
       with_reducible refine(spec_l1Dec.calls k (rdOf ByteArray.empty t584 1) t589 _ A9.out).mono ?_
       rintro e w' ⟨rfl,⟨nd,rfl⟩⟩;refine⟨_,rfl,?_⟩;refine hK.out _ _ ⟨hHeld.1,hHeld.2⟩ (fun hHeld=>?_);clear hK K;refine norm_ (a':=?_) ?_ ?_;rotate_left
       ·show Act.put _ (some 22) _=_;simp only[Act.put,List.setIfInBounds_toArray,List.set_cons_zero,List.set_cons_succ,qak,qal];rfl
       refine one_ (i:=7) (N:=some 26) #[true,true,true,true,true,true,true,true,false,true,false] rfl rfl (one_of HT_.out (by kernel_rfl)) (by decide) (fun K hK=>?_);refine goes_ Tryd.func48 (by kernel_rfl) rfl #[.string (rdOf ByteArray.empty t584 2)] (by rfl) rfl rfl (by(try simp only[List.map_toArray,List.map_cons,List.map_nil]);first|done|rfl|(simp only[List.length_drop,List.length_take];rfl)) ?_
       with_reducible refine(spec_l1Dec.calls k (rdOf ByteArray.empty t584 2) t591 _ A11.out).mono ?_
       rintro e w' ⟨rfl,⟨nd,rfl⟩⟩;refine⟨_,rfl,?_⟩;refine hK.out _ _ ⟨hHeld.1,hHeld.2⟩ (fun hHeld=>?_);clear hK K;refine norm_ (a':=?_) ?_ ?_;rotate_left
       ·show Act.put _ (some 26) _=_;simp only[Act.put,List.setIfInBounds_toArray,List.set_cons_zero,List.set_cons_succ,qak,qal];rfl
       refine qaq (i:=8) (N:=some 27) (v:=?_) (a':=?_) #[true,true,true,true,true,true,true,true,true,true,false] rfl rfl (qan HT_.out (by kernel_rfl)) (fun _ _ _ h=>h) (Or.inl ⟨by rfl,?_⟩) ?_ ?_;rotate_left
       ·intro w';go_simp
        with_reducible rfl
       rotate_left
       ·simp only[Act.put,List.setIfInBounds_toArray,List.set_cons_zero,List.set_cons_succ,qak,qal];rfl
       exact norm_ (by simp only[putAll,Act.put,List.setIfInBounds_toArray,List.set_cons_zero,List.set_cons_succ]) (hCont (gb592) _ ⟨hHeld,(za3 HO586),(zB BK583),(zB BK592),GW592.out,GE592.out,NB583_592.out,NB592_583.out,(za1 HB GE583 GE592)⟩)
     rintro gb592 w18 ⟨hS_,h0_,h1_,h2_,h3_,h4_,h5_,h6_,h7_⟩;replace HO586:qaj (Kd.R Kd.string 9 w18 w.heap.size (fun _=>True) (.slice (some ad588) t584.length co15) t584):=⟨h0_⟩;replace BK583:qaj (w18.heap[gb583]?=some (.cells #[.int .i64 0,.int .i64 0,.int .i64 0,.int .i64 0] 39 (0,0))):=⟨h1_⟩;have BK592:qaj (w18.heap[gb592]?=some (.cells #[.int .i64 0,.int .i64 0,.int .i64 0,.int .i64 0] 39 (0,0))):=⟨h2_⟩;have GW592:qaj (w.heap.size≤gb592):=⟨h3_⟩;have GE592:qaj (w.heap.size≤gb592):=⟨h4_⟩;have NB583_592:qaj (gb583≠gb592):=⟨h5_⟩;have NB592_583:qaj (gb592≠gb583):=⟨h6_⟩;replace HB:qaj (Below w.heap.size w w18):=⟨h7_⟩;clear h0_ h1_ h2_ h3_ h4_ h5_ h6_ h7_;have hHeld:w18.cell? ⟨ad588.block,ad588.off+1,none⟩=some (.string (rdOf ByteArray.empty t584 1))∧w18.cell? ⟨ad588.block,ad588.off+2,none⟩=some (.string (rdOf ByteArray.empty t584 2)):=hS_;refine norm_ (a':=?_) ?_ ?_;rotate_left
     ·simp only[putAll,Act.put,List.setIfInBounds_toArray,List.set_cons_zero,List.set_cons_succ];rfl
     refine one_ (i:=10) (N:=none) #[true,true,true,true,true,true,true,true,true,true,true] rfl rfl (one_of HT_.out (by kernel_rfl)) (by decide) (fun K hK=>?_);have hs19:w18.cell? ⟨gb592,0,none⟩=some (.int .i64 0):=(qag BK592.out 0).trans rfl;have hfs19:=qao BK592.out 0;have hns19_0:=NB583_592.out;have hms19_0:=NB592_583.out;have hs20:w18.cell? ⟨gb592,1,none⟩=some (.int .i64 0):=(qag BK592.out 1).trans rfl;have hfs20:=qao BK592.out 1;have hns20_0:=NB583_592.out;have hms20_0:=NB592_583.out;have hs21:w18.cell? ⟨gb592,2,none⟩=some (.int .i64 0):=(qag BK592.out 2).trans rfl;have hfs21:=qao BK592.out 2;have hns21_0:=NB583_592.out;have hms21_0:=NB592_583.out;have hs22:w18.cell? ⟨gb592,3,none⟩=some (.int .i64 0):=(qag BK592.out 3).trans rfl;have hfs22:=qao BK592.out 3;have hns22_0:=NB583_592.out;have hms22_0:=NB592_583.out;refine skip_ (w1:=?_) (by rfl) rfl ?_ ?_;rotate_left
     ·go_simp;rfl
     refine hK.out _ _ ⟨((cell_far (p:=⟨gb592,_,none⟩) (by first|exact Kd.own_blk (Kd.R_ne HO586.out BK592.out (by decide))|(rw[qap];exact Kd.own_blk (Kd.R_ne HO586.out BK592.out (by decide)))|(show(Addr.add _ _).block≠_;rw[qap];exact Kd.own_blk (Kd.R_ne HO586.out BK592.out (by decide)))|(dsimp only;exact Kd.own_blk (Kd.R_ne HO586.out BK592.out (by decide)))) _).trans (((cell_far (p:=⟨gb592,_,none⟩) (by first|exact Kd.own_blk (Kd.R_ne HO586.out BK592.out (by decide))|(rw[qap];exact Kd.own_blk (Kd.R_ne HO586.out BK592.out (by decide)))|(show(Addr.add _ _).block≠_;rw[qap];exact Kd.own_blk (Kd.R_ne HO586.out BK592.out (by decide)))|(dsimp only;exact Kd.own_blk (Kd.R_ne HO586.out BK592.out (by decide)))) _).trans (((cell_far (p:=⟨gb592,_,none⟩) (by first|exact Kd.own_blk (Kd.R_ne HO586.out BK592.out (by decide))|(rw[qap];exact Kd.own_blk (Kd.R_ne HO586.out BK592.out (by decide)))|(show(Addr.add _ _).block≠_;rw[qap];exact Kd.own_blk (Kd.R_ne HO586.out BK592.out (by decide)))|(dsimp only;exact Kd.own_blk (Kd.R_ne HO586.out BK592.out (by decide)))) _).trans (((cell_far (p:=⟨gb592,_,none⟩) (by first|exact Kd.own_blk (Kd.R_ne HO586.out BK592.out (by decide))|(rw[qap];exact Kd.own_blk (Kd.R_ne HO586.out BK592.out (by decide)))|(show(Addr.add _ _).block≠_;rw[qap];exact Kd.own_blk (Kd.R_ne HO586.out BK592.out (by decide)))|(dsimp only;exact Kd.own_blk (Kd.R_ne HO586.out BK592.out (by decide)))) _).trans (hHeld.1)))))))),((cell_far (p:=⟨gb592,_,none⟩) (by first|exact Kd.own_blk (Kd.R_ne HO586.out BK592.out (by decide))|(rw[qap];exact Kd.own_blk (Kd.R_ne HO586.out BK592.out (by decide)))|(show(Addr.add _ _).block≠_;rw[qap];exact Kd.own_blk (Kd.R_ne HO586.out BK592.out (by decide)))|(dsimp only;exact Kd.own_blk (Kd.R_ne HO586.out BK592.out (by decide)))) _).trans (((cell_far (p:=⟨gb592,_,none⟩) (by first|exact Kd.own_blk (Kd.R_ne HO586.out BK592.out (by decide))|(rw[qap];exact Kd.own_blk (Kd.R_ne HO586.out BK592.out (by decide)))|(show(Addr.add _ _).block≠_;rw[qap];exact Kd.own_blk (Kd.R_ne HO586.out BK592.out (by decide)))|(dsimp only;exact Kd.own_blk (Kd.R_ne HO586.out BK592.out (by decide)))) _).trans (((cell_far (p:=⟨gb592,_,none⟩) (by first|exact Kd.own_blk (Kd.R_ne HO586.out BK592.out (by decide))|(rw[qap];exact Kd.own_blk (Kd.R_ne HO586.out BK592.out (by decide)))|(show(Addr.add _ _).block≠_;rw[qap];exact Kd.own_blk (Kd.R_ne HO586.out BK592.out (by decide)))|(dsimp only;exact Kd.own_blk (Kd.R_ne HO586.out BK592.out (by decide)))) _).trans (((cell_far (p:=⟨gb592,_,none⟩) (by first|exact Kd.own_blk (Kd.R_ne HO586.out BK592.out (by decide))|(rw[qap];exact Kd.own_blk (Kd.R_ne HO586.out BK592.out (by decide)))|(show(Addr.add _ _).block≠_;rw[qap];exact Kd.own_blk (Kd.R_ne HO586.out BK592.out (by decide)))|(dsimp only;exact Kd.own_blk (Kd.R_ne HO586.out BK592.out (by decide)))) _).trans (hHeld.2))))))))⟩ (fun hHeld=>?_)
     clear hK K;refine done_ (done_of HT_.out (by kernel_rfl)) ?_
     try go_wp2_with(first|((with_reducible refine qae (f:=58) rfl ?_);refine zF (some 28) Tryd.func58 #[] ?_;(with_reducible refine(spec_l3Names.calls  t593 _ A12.out).mono ?_);rintro e w23 ⟨v594,rfl,ho0,hb⟩;refine⟨_,rfl,?_⟩;have HO595:=qaj.mk (Kd.R_lower (Kd.R_new' ho0 (Kd.R_lt (by(with_reducible repeat(first|apply Kd.R_alloc|apply Kd.R_drewN|apply Kd.R_drew));exact(Kd.R_mono (Kd.R_far (p:=⟨gb592,3,none⟩) (Kd.R_far (p:=⟨gb592,2,none⟩) (Kd.R_far (p:=⟨gb592,1,none⟩) (Kd.R_far (p:=⟨gb592,0,none⟩) (Kd.R_types HO586.out BK592.out (by decide)) (fun _ hk=>hk.2) (.int .i64 0)) (fun _ hk=>hk.2) (.int .i64 t589)) (fun _ hk=>hk.2) (.int .i64 t591)) (fun _ hk=>hk.2) (.int .i64 0)) (fun _ h_=>h_.1))))) (qam (za1 HB GE583 GE592)));replace HO586:=qaj.mk (Kd.R_elder' (by(with_reducible repeat(first|apply Kd.R_alloc|apply Kd.R_drewN|apply Kd.R_drew));exact(Kd.R_mono (Kd.R_far (p:=⟨gb592,3,none⟩) (Kd.R_far (p:=⟨gb592,2,none⟩) (Kd.R_far (p:=⟨gb592,1,none⟩) (Kd.R_far (p:=⟨gb592,0,none⟩) (Kd.R_types HO586.out BK592.out (by decide)) (fun _ hk=>hk.2) (.int .i64 0)) (fun _ hk=>hk.2) (.int .i64 t589)) (fun _ hk=>hk.2) (.int .i64 t591)) (fun _ hk=>hk.2) (.int .i64 0)) (fun _ h_=>h_.1))) (Kd.R_base ho0) hb);replace BK583:=qaj.mk (qah (g:=gb583) (o:=.cells #[.int .i64 0,.int .i64 0,.int .i64 0,.int .i64 0] 39 (0,0)) (za5 NB583_592 BK583) hb);replace BK592:=qaj.mk (qah (g:=gb592) (o:=.cells #[.int .i64 0,.int .i64 t589,.int .i64 t591,.int .i64 0] 39 (0,0)) (by(with_reducible repeat(first|refine qac ?_ _|refine qad ?_|refine qab ?_ _));refine qaf (cs:=#[.int .i64 0,.int .i64 t589,.int .i64 t591,.int .i64 0]) ?_ 3 _ rfl;(with_reducible repeat(first|refine qac ?_ _|refine qad ?_|refine qab ?_ _));refine qaf (cs:=#[.int .i64 0,.int .i64 t589,.int .i64 0,.int .i64 0]) ?_ 2 _ rfl;(with_reducible repeat(first|refine qac ?_ _|refine qad ?_|refine qab ?_ _));refine qaf (cs:=#[.int .i64 0,.int .i64 0,.int .i64 0,.int .i64 0]) ?_ 1 _ rfl;(with_reducible repeat(first|refine qac ?_ _|refine qad ?_|refine qab ?_ _));refine qaf (cs:=#[.int .i64 0,.int .i64 0,.int .i64 0,.int .i64 0]) ?_ 0 _ rfl;(with_reducible repeat(first|refine qac ?_ _|refine qad ?_|refine qab ?_ _));exact BK592.out) hb);replace HB:=qaj.mk (qaa (za1 HB GE583 GE592) hb);(try clear hb);(try clear ho0)))
     go_loopg [7] k (fun kq v7 w'=>∃(x7_1:Int) (x593000_1:Int),v7=.int .i64 x7_1∧qaj (spec_WordRead.l0 kq a0 t584 t593 x7_1 x593000_1 t589 t591 0=some (r1,r2,r3,r4,r5))∧qaj (kq≤k)∧qaj (Kd.R Kd.string 9 w' w.heap.size (fun k_=>some k_≠(v594:Value).ownBlock) (.slice (some ad588) t584.length co15) t584)∧qaj (Kd.R Kd.string 9 w' w.heap.size (fun k_=>some k_≠((.slice (some ad588) t584.length co15):Value).ownBlock) v594 t593)∧qaj (w'.heap[gb583]?=some (.cells #[.int .i64 0,.int .i64 0,.int .i64 0,.int .i64 0] 39 (0,0)))∧qaj (w'.heap[gb592]?=some (.cells #[.int .i64 x593000_1,.int .i64 t589,.int .i64 t591,.int .i64 0] 39 (0,0)))∧qaj (Below w.heap.size w w'))
     case atStart=>exact⟨(1),(0),(za23),H',⟨Nat.le_refl _⟩,⟨by(with_reducible repeat(first|apply Kd.R_alloc|apply Kd.R_drewN|apply Kd.R_drew));exact Kd.R_mono HO586.out (fun _ hk=>hk.2)⟩,⟨by(with_reducible repeat(first|apply Kd.R_alloc|apply Kd.R_drewN|apply Kd.R_drew));exact Kd.R_mono HO595.out (fun _ hk=>hk.2)⟩,⟨za18 BK583⟩,⟨za18 BK592⟩,⟨za1 HB GE583 GE592⟩⟩
     case round=>
      clear H'
      try clear c1
      try clear c2
      try clear c2b0
      try clear c2b1
      try clear p2
      try clear c3
      try clear c4
      try clear c5
      try clear p5
      try clear q5
      try clear hx5
      try clear qi5
      try clear c6
      try clear c7
      try clear c8
      try clear c8b0
      try clear c8b1
      try clear c10
      try clear c10b0
      try clear c10b1
      try clear hcz4_0
      try clear hcz4_1
      try clear hcz4_2
      try clear hcz4_3
      try clear hfz4_0
      try clear hfz4_1
      try clear hfz4_2
      try clear hfz4_3
      try clear hx588_0
      try clear hx590_0
      try clear p588
      try clear p590
      try clear q588
      try clear q590
      obtain⟨x7_1,x593000_1,rfl,HA,HK1,HO_4,HO_6,BK583,BK592,HB⟩:=hrel
      cases gk with
      |zero=>exact absurd HA.out (by simp[spec_WordRead.l0])
      |succ k1=>
       have H:=HA.out;clear HA;simp only[spec_WordRead.l0] at H;by_cases c24:x7_1<(t593.length:Int)
       ·rw[if_pos c24] at H;have c24b0:decide (x7_1<(t593.length:Int))=true:=decide_eq_true c24;clear c24;by_cases c25:0≤x7_1
        ·rw[if_pos c25] at H;have c25b0:decide (0≤x7_1)=true:=decide_eq_true c25;clear c25;by_cases c26:0<(t584.length:Int)
         ·rw[if_pos c26] at H;have c26b0:decide (0<(t584.length:Int))=true:=decide_eq_true c26;have c26b1:decide (0<t584.length)=true:=decide_eq_true (by omega);clear c26;by_cases c27:(rdOf ByteArray.empty t593 x7_1).toList=(rdOf ByteArray.empty t584 0).toList
          ·rw[if_pos c27] at H;have c27b0:((rdOf ByteArray.empty t593 x7_1).toList == (rdOf ByteArray.empty t584 0).toList)=true:=beq_iff_eq.mpr c27;have c27b1:((rdOf ByteArray.empty t593 x7_1).toList != (rdOf ByteArray.empty t584 0).toList)=false:=bne_eq_false_iff_eq.mpr c27;clear c27;have H':=qaj.mk H;clear H;obtain⟨Ao28,co28,eo28⟩:=Kd.R_slice HO_6.out;subst eo28
           try go_wp2
           replace HO_4:=qaj.mk (Kd.R_drew HO_4.out);replace HO_6:=qaj.mk (Kd.R_drew HO_6.out);replace BK583:=qaj.mk (qad BK583.out);replace BK592:=qaj.mk (qad BK592.out);replace HB:=qaj.mk (qar HB.out);have p596:0≤(x7_1:Int):=of_decide_eq_true (za13);have q596:x7_1<(t593.length:Int):=of_decide_eq_true (za13);obtain⟨ad596,e596,hx596_0⟩:=Kd.at_string (Kd.R_reads' HO_6.out).2.2 x7_1 p596 q596
           cases e596
           replace p596:=eq_true p596;replace q596:=eq_true q596;have p597:0≤(0:Int):=(by omega);have q597:0<(t584.length:Int):=of_decide_eq_true (za13);obtain⟨ad597,e597,hx597_0⟩:=Kd.at_string (Kd.R_reads' HO_4.out).2.2 0 p597 q597;obtain rfl:ad588=ad597:=(by injection e597);have qi597:(0<t584.length)=True:=eq_true (by omega);(try rw[show((0:Int)).toNat=0 from rfl] at hx597_0);(try rw[Addr.add_zero'] at hx597_0);replace p597:=eq_true p597;replace q597:=eq_true q597;refine start_ (n:=8) (S:=fun w'=>w'.cell? (ad596.add (x7_1).toNat)=some (.string (rdOf ByteArray.empty t593 x7_1))∧w'.cell? ad588=some (.string (rdOf ByteArray.empty t584 0))) (ds:=[]) #[false,false,false,false,false,false,false,false] (by kernel_rfl) rfl rfl ⟨hx596_0,hx597_0⟩ (fun hHeld=>?_);refine with_tabW spec_WordRead.tab11 spec_WordRead.bits11 (fun HT_ HW_=>?_);generalize wr.drew=w29 at HO_4 HO_6 BK583 BK592 HB hx596_0 hx597_0 hHeld ⊢;refine qaq (i:=0) (N:=some 35) (v:=?_) (a':=?_) #[true,false,false,false,false,false,false,false] rfl rfl (qan HT_.out (by kernel_rfl)) (fun _ _ _ h=>h) (Or.inl ⟨by rfl,?_⟩) ?_ ?_;rotate_left
           ·intro w';go_simp
            with_reducible rfl
           rotate_left
           ·simp only[Act.put,List.setIfInBounds_toArray,List.set_cons_zero,List.set_cons_succ,qak,qal];rfl
           refine qaq (i:=1) (N:=some 36) (v:=?_) (a':=?_) #[true,true,false,false,false,false,false,false] rfl rfl (qan HT_.out (by kernel_rfl)) (fun _ _ _ h=>h) (Or.inl ⟨by rfl,?_⟩) ?_ ?_;rotate_left
           ·intro w';go_simp
            with_reducible rfl
           rotate_left
           ·simp only[Act.put,List.setIfInBounds_toArray,List.set_cons_zero,List.set_cons_succ,qak,qal];rfl
           refine qaq (i:=2) (N:=some 37) (v:=?_) (a':=?_) #[true,true,true,false,false,false,false,false] rfl rfl (qan HT_.out (by kernel_rfl)) (fun _ _ _ h=>h) (Or.inl ⟨by rfl,?_⟩) ?_ ?_;rotate_left
           ·intro w';go_simp
            with_reducible rfl
           rotate_left
           ·simp only[Act.put,List.setIfInBounds_toArray,List.set_cons_zero,List.set_cons_succ,qak,qal];rfl
           refine qaq (i:=4) (N:=some 39) (v:=?_) (a':=?_) #[true,true,true,false,true,false,false,false] rfl rfl (qan HT_.out (by kernel_rfl)) (fun _ _ _ h=>h) (Or.inl ⟨by rfl,?_⟩) ?_ ?_;rotate_left
           ·intro w';go_simp
            with_reducible rfl
           rotate_left
           ·simp only[Act.put,List.setIfInBounds_toArray,List.set_cons_zero,List.set_cons_succ,qak,qal];rfl
           refine qaq (i:=5) (N:=some 40) (v:=?_) (a':=?_) #[true,true,true,false,true,true,false,false] rfl rfl (qan HT_.out (by kernel_rfl)) (fun _ _ _ h=>h) (Or.inl ⟨by rfl,?_⟩) ?_ ?_;rotate_left
           ·intro w';go_simp
            with_reducible rfl
           rotate_left
           ·simp only[Act.put,List.setIfInBounds_toArray,List.set_cons_zero,List.set_cons_succ,qak,qal];rfl
           refine take_ (i:=3) (N:=some 38) (v:=?_) (a':=?_) #[true,true,true,true,true,true,false,false] rfl rfl (take_ofW HT_.out HW_.out (by kernel_rfl)) (fun _ _ _ h=>h) (Or.inl ⟨by rfl,?_⟩) hHeld ?_ ?_;rotate_left
           ·rintro w' ⟨s0,s1⟩;go_simp
            with_reducible rfl
           rotate_left
           ·simp only[Act.put,List.setIfInBounds_toArray,List.set_cons_zero,List.set_cons_succ,qak,qal];rfl
           refine take_ (i:=6) (N:=some 41) (v:=?_) (a':=?_) #[true,true,true,true,true,true,true,false] rfl rfl (take_ofW HT_.out HW_.out (by kernel_rfl)) (fun _ _ _ h=>h) (Or.inl ⟨by rfl,?_⟩) hHeld ?_ ?_;rotate_left
           ·rintro w' ⟨s0,s1⟩;go_simp
            with_reducible rfl
           rotate_left
           ·simp only[Act.put,List.setIfInBounds_toArray,List.set_cons_zero,List.set_cons_succ,qak,qal];rfl
           refine qaq (i:=7) (N:=some 42) (v:=?_) (a':=?_) #[true,true,true,true,true,true,true,true] rfl rfl (qan HT_.out (by kernel_rfl)) (fun _ _ _ h=>h) (Or.inl ⟨by rfl,?_⟩) ?_ ?_;rotate_left
           ·intro w';go_simp
            with_reducible rfl
           rotate_left
           ·simp only[Act.put,List.setIfInBounds_toArray,List.set_cons_zero,List.set_cons_succ,qak,qal];rfl
           refine done_ (done_of HT_.out (by kernel_rfl)) ?_;have hnb30:=NB592_583.out;have hnc30:=NB583_592.out;obtain⟨hcz31_0,hcz31_1,hcz31_2,hcz31_3,hfz31_0,hfz31_1,hfz31_2,hfz31_3⟩:=zC4 BK592
           try go_wp2
           go_roundg k1
           case measure=>have:=HK1.out;omega
           case rel=>exact⟨(wrap64 (x7_1+1)),(x7_1),(za23),H',⟨by have:=HK1.out;omega⟩,⟨by(with_reducible repeat(first|apply Kd.R_alloc|apply Kd.R_drewN|apply Kd.R_drew));exact Kd.R_mono (Kd.R_far (p:=⟨gb592,0,none⟩) (Kd.R_types HO_4.out BK592.out (by decide)) (fun _ hk=>hk.2) (.int .i64 x7_1)) (fun _ hk=>hk.1)⟩,⟨by(with_reducible repeat(first|apply Kd.R_alloc|apply Kd.R_drewN|apply Kd.R_drew));exact Kd.R_mono (Kd.R_far (p:=⟨gb592,0,none⟩) (Kd.R_types HO_6.out BK592.out (by decide)) (fun _ hk=>hk.2) (.int .i64 x7_1)) (fun _ hk=>hk.1)⟩,⟨za33 NB583_592 BK583⟩,⟨by(with_reducible repeat(first|refine qac ?_ _|refine qad ?_|refine qab ?_ _));refine qaf (cs:=#[.int .i64 x593000_1,.int .i64 t589,.int .i64 t591,.int .i64 0]) ?_ 0 _ rfl;(with_reducible repeat(first|refine qac ?_ _|refine qad ?_|refine qab ?_ _));exact BK592.out⟩,⟨za1 HB GE583 GE592⟩⟩
          ·rw[if_neg c27] at H;have c27b0:((rdOf ByteArray.empty t593 x7_1).toList == (rdOf ByteArray.empty t584 0).toList)=false:=beq_eq_false_iff_ne.mpr c27;have c27b1:((rdOf ByteArray.empty t593 x7_1).toList != (rdOf ByteArray.empty t584 0).toList)=true:=bne_iff_ne.mpr c27;have H':=qaj.mk H;clear H;obtain⟨Ao32,co32,eo32⟩:=Kd.R_slice HO_6.out;subst eo32
           try go_wp2
           replace HO_4:=qaj.mk (Kd.R_drew HO_4.out);replace HO_6:=qaj.mk (Kd.R_drew HO_6.out);replace BK583:=qaj.mk (qad BK583.out);replace BK592:=qaj.mk (qad BK592.out);replace HB:=qaj.mk (qar HB.out);have p596:0≤(x7_1:Int):=of_decide_eq_true (za13);have q596:x7_1<(t593.length:Int):=of_decide_eq_true (za13);obtain⟨ad596,e596,hx596_0⟩:=Kd.at_string (Kd.R_reads' HO_6.out).2.2 x7_1 p596 q596
           cases e596
           replace p596:=eq_true p596;replace q596:=eq_true q596;have p597:0≤(0:Int):=(by omega);have q597:0<(t584.length:Int):=of_decide_eq_true (za13);obtain⟨ad597,e597,hx597_0⟩:=Kd.at_string (Kd.R_reads' HO_4.out).2.2 0 p597 q597;obtain rfl:ad588=ad597:=(by injection e597);have qi597:(0<t584.length)=True:=eq_true (by omega);(try rw[show((0:Int)).toNat=0 from rfl] at hx597_0);(try rw[Addr.add_zero'] at hx597_0);replace p597:=eq_true p597;replace q597:=eq_true q597;refine start_ (n:=8) (S:=fun w'=>w'.cell? (ad596.add (x7_1).toNat)=some (.string (rdOf ByteArray.empty t593 x7_1))∧w'.cell? ad588=some (.string (rdOf ByteArray.empty t584 0))) (ds:=[]) #[false,false,false,false,false,false,false,false] (by kernel_rfl) rfl rfl ⟨hx596_0,hx597_0⟩ (fun hHeld=>?_);refine with_tabW spec_WordRead.tab11 spec_WordRead.bits11 (fun HT_ HW_=>?_);generalize wr.drew=w33 at HO_4 HO_6 BK583 BK592 HB hx596_0 hx597_0 hHeld ⊢;refine qaq (i:=0) (N:=some 35) (v:=?_) (a':=?_) #[true,false,false,false,false,false,false,false] rfl rfl (qan HT_.out (by kernel_rfl)) (fun _ _ _ h=>h) (Or.inl ⟨by rfl,?_⟩) ?_ ?_;rotate_left
           ·intro w';go_simp
            with_reducible rfl
           rotate_left
           ·simp only[Act.put,List.setIfInBounds_toArray,List.set_cons_zero,List.set_cons_succ,qak,qal];rfl
           refine qaq (i:=1) (N:=some 36) (v:=?_) (a':=?_) #[true,true,false,false,false,false,false,false] rfl rfl (qan HT_.out (by kernel_rfl)) (fun _ _ _ h=>h) (Or.inl ⟨by rfl,?_⟩) ?_ ?_;rotate_left
           ·intro w';go_simp
            with_reducible rfl
           rotate_left
           ·simp only[Act.put,List.setIfInBounds_toArray,List.set_cons_zero,List.set_cons_succ,qak,qal];rfl
           refine qaq (i:=2) (N:=some 37) (v:=?_) (a':=?_) #[true,true,true,false,false,false,false,false] rfl rfl (qan HT_.out (by kernel_rfl)) (fun _ _ _ h=>h) (Or.inl ⟨by rfl,?_⟩) ?_ ?_;rotate_left
           ·intro w';go_simp
            with_reducible rfl
           rotate_left
           ·simp only[Act.put,List.setIfInBounds_toArray,List.set_cons_zero,List.set_cons_succ,qak,qal];rfl
           refine qaq (i:=4) (N:=some 39) (v:=?_) (a':=?_) #[true,true,true,false,true,false,false,false] rfl rfl (qan HT_.out (by kernel_rfl)) (fun _ _ _ h=>h) (Or.inl ⟨by rfl,?_⟩) ?_ ?_;rotate_left
           ·intro w';go_simp
            with_reducible rfl
           rotate_left
           ·simp only[Act.put,List.setIfInBounds_toArray,List.set_cons_zero,List.set_cons_succ,qak,qal];rfl
           refine qaq (i:=5) (N:=some 40) (v:=?_) (a':=?_) #[true,true,true,false,true,true,false,false] rfl rfl (qan HT_.out (by kernel_rfl)) (fun _ _ _ h=>h) (Or.inl ⟨by rfl,?_⟩) ?_ ?_;rotate_left
           ·intro w';go_simp
            with_reducible rfl
           rotate_left
           ·simp only[Act.put,List.setIfInBounds_toArray,List.set_cons_zero,List.set_cons_succ,qak,qal];rfl
           refine take_ (i:=3) (N:=some 38) (v:=?_) (a':=?_) #[true,true,true,true,true,true,false,false] rfl rfl (take_ofW HT_.out HW_.out (by kernel_rfl)) (fun _ _ _ h=>h) (Or.inl ⟨by rfl,?_⟩) hHeld ?_ ?_;rotate_left
           ·rintro w' ⟨s0,s1⟩;go_simp
            with_reducible rfl
           rotate_left
           ·simp only[Act.put,List.setIfInBounds_toArray,List.set_cons_zero,List.set_cons_succ,qak,qal];rfl
           refine take_ (i:=6) (N:=some 41) (v:=?_) (a':=?_) #[true,true,true,true,true,true,true,false] rfl rfl (take_ofW HT_.out HW_.out (by kernel_rfl)) (fun _ _ _ h=>h) (Or.inl ⟨by rfl,?_⟩) hHeld ?_ ?_;rotate_left
           ·rintro w' ⟨s0,s1⟩;go_simp
            with_reducible rfl
           rotate_left
           ·simp only[Act.put,List.setIfInBounds_toArray,List.set_cons_zero,List.set_cons_succ,qak,qal];rfl
           refine qaq (i:=7) (N:=some 42) (v:=?_) (a':=?_) #[true,true,true,true,true,true,true,true] rfl rfl (qan HT_.out (by kernel_rfl)) (fun _ _ _ h=>h) (Or.inl ⟨by rfl,?_⟩) ?_ ?_;rotate_left
           ·intro w';go_simp
            with_reducible rfl
           rotate_left
           ·simp only[Act.put,List.setIfInBounds_toArray,List.set_cons_zero,List.set_cons_succ,qak,qal];rfl
           refine done_ (done_of HT_.out (by kernel_rfl)) ?_
           try go_wp2
           go_roundg k1
           case measure=>have:=HK1.out;omega
           case rel=>exact⟨(wrap64 (x7_1+1)),(x593000_1),(za23),H',⟨by have:=HK1.out;omega⟩,⟨za3 HO_4⟩,⟨za3 HO_6⟩,⟨za18 BK583⟩,⟨za18 BK592⟩,⟨za1 HB GE583 GE592⟩⟩
         ·rw[if_neg c26] at H;exact absurd H (by simp)
        ·rw[if_neg c25] at H;exact absurd H (by simp)
       ·rw[if_neg c24] at H;have c24b0:decide (x7_1<(t593.length:Int))=false:=decide_eq_false c24;clear c24;have HC34:=qaj.mk H;clear H;obtain⟨Ao35,co35,eo35⟩:=Kd.R_slice HO_6.out;subst eo35
        go_upto_if 47 with(fail)
        go_cut [] (fun wc=>∃(kq:Nat) (x593003_33:Int),qaj (spec_WordRead.j1 kq a0 x593000_1 t589 t591 x593003_33=some (r1,r2,r3,r4,r5))∧qaj (kq≤k1)∧qaj (wc.heap[gb583]?=some (.cells #[.int .i64 0,.int .i64 0,.int .i64 0,.int .i64 0] 39 (0,0)))∧qaj (wc.heap[gb592]?=some (.cells #[.int .i64 x593000_1,.int .i64 t589,.int .i64 t591,.int .i64 x593003_33] 39 (0,0)))∧qaj (Below w.heap.size w wc))
        case first=>
         have H:=HC34.out;clear HC34;by_cases c36:(t584.length:Int)=4
         ·rw[if_pos c36] at H;have c36b0:((t584.length:Int) == 4)=true:=beq_iff_eq.mpr c36;have c36b1:((t584.length:Int) != 4)=false:=bne_eq_false_iff_eq.mpr c36;clear c36;(first|rw[c36b0]|(simp only[qak,qal];rw[c36b0])|skip);by_cases c37:3<(t584.length:Int)
          ·rw[if_pos c37] at H;have c37b0:decide (3<(t584.length:Int))=true:=decide_eq_true c37;have c37b1:decide (3<t584.length)=true:=decide_eq_true (by omega);clear c37;replace H:=Option.bind_eq_some_iff.mp H;obtain⟨t599,A380,H⟩:=H;replace H:(spec_WordRead.j1 k1 a0 x593000_1 t589 t591 t599)=some (r1,r2,r3,r4,r5):=H;have A38:=qaj.mk A380;clear A380;have H':=qaj.mk H;clear H;have p598:0≤(3:Int):=(by omega);have q598:3<(t584.length:Int):=of_decide_eq_true (za13);obtain⟨ad598,e598,hx598_0⟩:=Kd.at_string (Kd.R_reads' HO_4.out).2.2 3 p598 q598;obtain rfl:ad588=ad598:=(by injection e598);(try simp only[show(3:Int).toNat=3 from rfl,Nat.reduceMul,Nat.reduceEqDiff,Go.Addr.add,↓reduceIte] at hx598_0);have qi598:(3<t584.length)=True:=eq_true (by omega);(try rw[show((3:Int)).toNat=3 from rfl] at hx598_0);replace p598:=eq_true p598;replace q598:=eq_true q598
           go_wp2_with(first|((with_reducible refine qae (f:=48) rfl ?_);refine zF (some 51) Tryd.func48 #[.string (rdOf ByteArray.empty t584 3)] ?_;(with_reducible refine(spec_l1Dec.calls k1 (rdOf ByteArray.empty t584 3) t599 _ A38.out).mono ?_);rintro e w' ⟨rfl,⟨nd,rfl⟩⟩;refine⟨_,rfl,?_⟩;(try(rw[drewN_self wr];generalize hq_:World.drewN wr _=wr;replace HO_4:qaj (Kd.R Kd.string 9 wr w.heap.size (fun k_=>some k_≠(.slice Ao35 t593.length co35:Value).ownBlock) (.slice (some ad588) t584.length co15) t584):=⟨by rw[←hq_];exact(za3 HO_4)⟩;replace HO_6:qaj (Kd.R Kd.string 9 wr w.heap.size (fun k_=>some k_≠(.slice (some ad588) t584.length co15:Value).ownBlock) (.slice Ao35 t593.length co35) t593):=⟨by rw[←hq_];exact(za3 HO_6)⟩;replace BK583:qaj (wr.heap[gb583]?=some (.cells #[.int .i64 0,.int .i64 0,.int .i64 0,.int .i64 0] 39 (0,0))):=⟨by rw[←hq_];exact(zB BK583)⟩;replace BK592:qaj (wr.heap[gb592]?=some (.cells #[.int .i64 x593000_1,.int .i64 t589,.int .i64 t591,.int .i64 0] 39 (0,0))):=⟨by rw[←hq_];exact(zB BK592)⟩;replace HB:qaj (Below w.heap.size w wr):=⟨by rw[←hq_];exact(za1 HB GE583 GE592)⟩;clear hq_;have hczugb583_0:wr.cell? ⟨gb583,0,none⟩=some _:=(qag BK583.out 0).trans rfl;have hfzugb583_0:=qao BK583.out 0;have hczugb583_1:wr.cell? ⟨gb583,1,none⟩=some _:=(qag BK583.out 1).trans rfl;have hfzugb583_1:=qao BK583.out 1;have hczugb583_2:wr.cell? ⟨gb583,2,none⟩=some _:=(qag BK583.out 2).trans rfl;have hfzugb583_2:=qao BK583.out 2;have hczugb583_3:wr.cell? ⟨gb583,3,none⟩=some _:=(qag BK583.out 3).trans rfl;have hfzugb583_3:=qao BK583.out 3;have hczugb592_0:wr.cell? ⟨gb592,0,none⟩=some _:=(qag BK592.out 0).trans rfl;have hfzugb592_0:=qao BK592.out 0;have hczugb592_1:wr.cell? ⟨gb592,1,none⟩=some _:=(qag BK592.out 1).trans rfl;have hfzugb592_1:=qao BK592.out 1;have hczugb592_2:wr.cell? ⟨gb592,2,none⟩=some _:=(qag BK592.out 2).trans rfl;have hfzugb592_2:=qao BK592.out 2;have hczugb592_3:wr.cell? ⟨gb592,3,none⟩=some _:=(qag BK592.out 3).trans rfl;have hfzugb592_3:=qao BK592.out 3));have hnb39:=NB592_583.out;have hnc39:=NB583_592.out;obtain⟨hcz40_0,hcz40_1,hcz40_2,hcz40_3,hfz40_0,hfz40_1,hfz40_2,hfz40_3⟩:=zC4 BK592))
           go_meet
           case rel=>exact⟨_,(t599),H',⟨za38 HK1⟩,⟨za33 NB583_592 BK583⟩,⟨by(with_reducible repeat(first|refine qac ?_ _|refine qad ?_|refine qab ?_ _));refine qaf (cs:=#[.int .i64 x593000_1,.int .i64 t589,.int .i64 t591,.int .i64 0]) ?_ 3 _ rfl;(with_reducible repeat(first|refine qac ?_ _|refine qad ?_|refine qab ?_ _));exact BK592.out⟩,⟨za1 HB GE583 GE592⟩⟩
          ·rw[if_neg c37] at H;exact absurd H (by simp)
         ·rw[if_neg c36] at H;have c36b0:((t584.length:Int) == 4)=false:=beq_eq_false_iff_ne.mpr c36;have c36b1:((t584.length:Int) != 4)=true:=bne_iff_ne.mpr c36;(first|rw[c36b0]|(simp only[qak,qal];rw[c36b0])|skip);have H':=qaj.mk H;clear H;go_wp2
          go_meet
          case rel=>exact⟨_,(0),H',⟨za38 HK1⟩,⟨za18 BK583⟩,⟨za18 BK592⟩,⟨za1 HB GE583 GE592⟩⟩
        case rest=>
         clear HC34
         try clear c1
         try clear c2
         try clear c2b0
         try clear c2b1
         try clear p2
         try clear c3
         try clear c4
         try clear c5
         try clear p5
         try clear q5
         try clear hx5
         try clear qi5
         try clear c6
         try clear p6
         try clear c7
         try clear c8
         try clear c8b0
         try clear c8b1
         try clear c10
         try clear c10b0
         try clear c10b1
         try clear c24
         try clear c24b0
         try clear c25
         try clear c25b0
         try clear c26
         try clear c26b0
         try clear c26b1
         try clear c27
         try clear c27b0
         try clear c27b1
         try clear c30
         try clear c36
         try clear c36b0
         try clear c36b1
         try clear c37
         try clear c37b0
         try clear c37b1
         try clear c39
         try clear hcz31_0
         try clear hcz31_1
         try clear hcz31_2
         try clear hcz31_3
         try clear hcz40_0
         try clear hcz40_1
         try clear hcz40_2
         try clear hcz40_3
         try clear hcz4_0
         try clear hcz4_1
         try clear hcz4_2
         try clear hcz4_3
         try clear hfz31_0
         try clear hfz31_1
         try clear hfz31_2
         try clear hfz31_3
         try clear hfz40_0
         try clear hfz40_1
         try clear hfz40_2
         try clear hfz40_3
         try clear hfz4_0
         try clear hfz4_1
         try clear hfz4_2
         try clear hfz4_3
         try clear hx588_0
         try clear hx590_0
         try clear hx596_0
         try clear hx597_0
         try clear hx598_0
         try clear p2
         try clear p5
         try clear p588
         try clear p590
         try clear p596
         try clear p597
         try clear p598
         try clear q5
         try clear q588
         try clear q590
         try clear q596
         try clear q597
         try clear q598
         obtain⟨kq,x593003_33,HA,HJ33,BK583,BK592,HB⟩:=hcut
         cases kq with
         |zero=>exact absurd HA.out (by simp[spec_WordRead.j1])
         |succ kj33=>
          have H:=HA.out;clear HA;simp only[spec_WordRead.j1] at H;replace H:=Option.bind_eq_some_iff.mp H;obtain⟨t600,A410,H⟩:=H;replace H:(if t600=true then((spec_WordText.f kj33 x593000_1 t589 t591 x593003_33).bind fun t601=>(if t601.toList=a0.toList then(some (x593000_1,t589,t591,x593003_33,true)) else(some (0,0,0,0,false)))) else(some (0,0,0,0,false)))=some (r1,r2,r3,r4,r5):=H;have A41:=qaj.mk A410;clear A410;by_cases c42:t600=true
          ·subst c42
           have H1:((spec_WordText.f kj33 x593000_1 t589 t591 x593003_33).bind fun t601=>(if t601.toList=a0.toList then(some (x593000_1,t589,t591,x593003_33,true)) else(some (0,0,0,0,false))))=some (r1,r2,r3,r4,r5):=by rw[if_pos rfl] at H;exact H
           clear H;have H:=H1;clear H1;replace H:=Option.bind_eq_some_iff.mp H;obtain⟨t601,A430,H⟩:=H;replace H:(if t601.toList=a0.toList then(some (x593000_1,t589,t591,x593003_33,true)) else(some (0,0,0,0,false)))=some (r1,r2,r3,r4,r5):=H;have A43:=qaj.mk A430;clear A430;by_cases c44:t601.toList=a0.toList
           ·rw[if_pos c44] at H;have c44b0:(t601.toList == a0.toList)=true:=beq_iff_eq.mpr c44;have c44b1:(t601.toList != a0.toList)=false:=bne_eq_false_iff_eq.mpr c44;clear c44;simp only[Option.some.injEq,Prod.mk.injEq] at H;obtain⟨rfl,rfl,rfl,rfl,rfl⟩:=H;have hnb45:=NB592_583.out;have hnc45:=NB583_592.out;obtain⟨hcz46_0,hcz46_1,hcz46_2,hcz46_3,hfz46_0,hfz46_1,hfz46_2,hfz46_3⟩:=zC4 BK592
            go_wp2_with(first|((with_reducible refine qae (f:=57) rfl ?_);refine zF (some 54) Tryd.func57 #[.agg #[.int .i64 x593000_1,.int .i64 t589,.int .i64 t591,.int .i64 x593003_33]] ?_;(with_reducible refine(spec_WordOk.calls kj33 x593000_1 t589 t591 x593003_33 true _ A41.out).mono ?_);rintro e w47 ⟨rfl,hb⟩;refine⟨_,rfl,?_⟩;replace BK583:=zY BK583 hb;replace BK592:=zY BK592 hb;replace HB:=qaj.mk (qaa (za1 HB GE583 GE592) hb);(try clear hb);obtain⟨hcz48_0,hcz48_1,hcz48_2,hcz48_3,hfz48_0,hfz48_1,hfz48_2,hfz48_3⟩:=zC4 BK592)|(go_at_call 26;(with_reducible refine(spec_WordText.calls kj33 x593000_1 t589 t591 x593003_33 t601 _ A43.out).mono ?_);rintro e w49 ⟨rfl,hb⟩;replace BK583:=zY BK583 hb;replace BK592:=zY BK592 hb;replace HB:=qaj.mk (qaa (za1 HB GE583 GE592) hb);(try clear hb);obtain⟨hcz50_0,hcz50_1,hcz50_2,hcz50_3,hfz50_0,hfz50_1,hfz50_2,hfz50_3⟩:=zC4 BK592;obtain⟨hcz51_0,hcz51_1,hcz51_2,hcz51_3,hfz51_0,hfz51_1,hfz51_2,hfz51_3⟩:=zC4 BK583))
            refine bodyPost_ret (results_ct rfl _ _ gb583 39 #[.int .i64 x593000_1,.int .i64 t589,.int .i64 t591,.int .i64 x593003_33] (0,0) _ rfl (by(with_reducible repeat(first|refine qac ?_ _|refine qad ?_|refine qab ?_ _));refine qaf (cs:=#[.int .i64 x593000_1,.int .i64 t589,.int .i64 t591,.int .i64 0]) ?_ 3 _ rfl;(with_reducible repeat(first|refine qac ?_ _|refine qad ?_|refine qab ?_ _));refine qaf (cs:=#[.int .i64 x593000_1,.int .i64 t589,.int .i64 0,.int .i64 0]) ?_ 2 _ rfl;(with_reducible repeat(first|refine qac ?_ _|refine qad ?_|refine qab ?_ _));refine qaf (cs:=#[.int .i64 x593000_1,.int .i64 0,.int .i64 0,.int .i64 0]) ?_ 1 _ rfl;(with_reducible repeat(first|refine qac ?_ _|refine qad ?_|refine qab ?_ _));refine qaf (cs:=#[.int .i64 0,.int .i64 0,.int .i64 0,.int .i64 0]) ?_ 0 _ rfl;(with_reducible repeat(first|refine qac ?_ _|refine qad ?_|refine qab ?_ _));exact BK583.out) Tryd.underlying39 rfl (by kernel_rfl)) rfl ?_
            exact⟨za10,za1 HB GE583 GE592⟩
           ·rw[if_neg c44] at H;have c44b0:(t601.toList == a0.toList)=false:=beq_eq_false_iff_ne.mpr c44;have c44b1:(t601.toList != a0.toList)=true:=bne_iff_ne.mpr c44;simp only[Option.some.injEq,Prod.mk.injEq] at H;obtain⟨rfl,rfl,rfl,rfl,rfl⟩:=H;have hnb52:=NB592_583.out;have hnc52:=NB583_592.out;obtain⟨hcz53_0,hcz53_1,hcz53_2,hcz53_3,hfz53_0,hfz53_1,hfz53_2,hfz53_3⟩:=zC4 BK592
            go_wp2_with(first|((with_reducible refine qae (f:=57) rfl ?_);refine zF (some 54) Tryd.func57 #[.agg #[.int .i64 x593000_1,.int .i64 t589,.int .i64 t591,.int .i64 x593003_33]] ?_;(with_reducible refine(spec_WordOk.calls kj33 x593000_1 t589 t591 x593003_33 true _ A41.out).mono ?_);rintro e w54 ⟨rfl,hb⟩;refine⟨_,rfl,?_⟩;replace BK583:=zY BK583 hb;replace BK592:=zY BK592 hb;replace HB:=qaj.mk (qaa (za1 HB GE583 GE592) hb);(try clear hb);obtain⟨hcz55_0,hcz55_1,hcz55_2,hcz55_3,hfz55_0,hfz55_1,hfz55_2,hfz55_3⟩:=zC4 BK592)|(go_at_call 26;(with_reducible refine(spec_WordText.calls kj33 x593000_1 t589 t591 x593003_33 t601 _ A43.out).mono ?_);rintro e w56 ⟨rfl,hb⟩;replace BK583:=zY BK583 hb;replace BK592:=zY BK592 hb;replace HB:=qaj.mk (qaa (za1 HB GE583 GE592) hb);(try clear hb);obtain⟨hcz57_0,hcz57_1,hcz57_2,hcz57_3,hfz57_0,hfz57_1,hfz57_2,hfz57_3⟩:=zC4 BK583))
            refine bodyPost_ret (results_ct rfl _ _ gb583 39 #[.int .i64 0,.int .i64 0,.int .i64 0,.int .i64 0] (0,0) _ rfl (by(with_reducible repeat(first|refine qac ?_ _|refine qad ?_|refine qab ?_ _));refine qaf (cs:=#[.int .i64 0,.int .i64 0,.int .i64 0,.int .i64 0]) ?_ 3 _ rfl;(with_reducible repeat(first|refine qac ?_ _|refine qad ?_|refine qab ?_ _));refine qaf (cs:=#[.int .i64 0,.int .i64 0,.int .i64 0,.int .i64 0]) ?_ 2 _ rfl;(with_reducible repeat(first|refine qac ?_ _|refine qad ?_|refine qab ?_ _));refine qaf (cs:=#[.int .i64 0,.int .i64 0,.int .i64 0,.int .i64 0]) ?_ 1 _ rfl;(with_reducible repeat(first|refine qac ?_ _|refine qad ?_|refine qab ?_ _));refine qaf (cs:=#[.int .i64 0,.int .i64 0,.int .i64 0,.int .i64 0]) ?_ 0 _ rfl;(with_reducible repeat(first|refine qac ?_ _|refine qad ?_|refine qab ?_ _));exact BK583.out) Tryd.underlying39 rfl (by kernel_rfl)) rfl ?_
            exact⟨za10,za1 HB GE583 GE592⟩
          ·replace c42:=Bool.eq_false_iff.mpr c42;subst c42
           have H1:(some (0,0,0,0,false))=some (r1,r2,r3,r4,r5):=by rw[if_neg (show ¬(false=true) by decide)] at H;exact H
           clear H;have H:=H1;clear H1;simp only[Option.some.injEq,Prod.mk.injEq] at H;obtain⟨rfl,rfl,rfl,rfl,rfl⟩:=H;have hnb58:=NB592_583.out;have hnc58:=NB583_592.out;obtain⟨hcz59_0,hcz59_1,hcz59_2,hcz59_3,hfz59_0,hfz59_1,hfz59_2,hfz59_3⟩:=zC4 BK592
           go_wp2_with(first|((with_reducible refine qae (f:=57) rfl ?_);refine zF (some 54) Tryd.func57 #[.agg #[.int .i64 x593000_1,.int .i64 t589,.int .i64 t591,.int .i64 x593003_33]] ?_;(with_reducible refine(spec_WordOk.calls kj33 x593000_1 t589 t591 x593003_33 false _ A41.out).mono ?_);rintro e w60 ⟨rfl,hb⟩;refine⟨_,rfl,?_⟩;replace BK583:=zY BK583 hb;replace BK592:=zY BK592 hb;replace HB:=qaj.mk (qaa (za1 HB GE583 GE592) hb);(try clear hb);obtain⟨hcz61_0,hcz61_1,hcz61_2,hcz61_3,hfz61_0,hfz61_1,hfz61_2,hfz61_3⟩:=zC4 BK583))
           refine bodyPost_ret (results_ct rfl _ _ gb583 39 #[.int .i64 0,.int .i64 0,.int .i64 0,.int .i64 0] (0,0) _ rfl (by(with_reducible repeat(first|refine qac ?_ _|refine qad ?_|refine qab ?_ _));refine qaf (cs:=#[.int .i64 0,.int .i64 0,.int .i64 0,.int .i64 0]) ?_ 3 _ rfl;(with_reducible repeat(first|refine qac ?_ _|refine qad ?_|refine qab ?_ _));refine qaf (cs:=#[.int .i64 0,.int .i64 0,.int .i64 0,.int .i64 0]) ?_ 2 _ rfl;(with_reducible repeat(first|refine qac ?_ _|refine qad ?_|refine qab ?_ _));refine qaf (cs:=#[.int .i64 0,.int .i64 0,.int .i64 0,.int .i64 0]) ?_ 1 _ rfl;(with_reducible repeat(first|refine qac ?_ _|refine qad ?_|refine qab ?_ _));refine qaf (cs:=#[.int .i64 0,.int .i64 0,.int .i64 0,.int .i64 0]) ?_ 0 _ rfl;(with_reducible repeat(first|refine qac ?_ _|refine qad ?_|refine qab ?_ _));exact BK583.out) Tryd.underlying39 rfl (by kernel_rfl)) rfl ?_
           exact⟨za10,za1 HB GE583 GE592⟩
    ·rw[if_neg c10] at H;exact absurd H (by simp)
   ·rw[if_neg c8] at H;exact absurd H (by simp)
  ·replace c7:=Bool.eq_false_iff.mpr c7;subst c7
   have H1:(some (0,0,0,0,false))=some (r1,r2,r3,r4,r5):=by rw[if_neg (show ¬(false=true) by decide)] at H;exact H
   clear H;have H:=H1;clear H1;simp only[Option.some.injEq,Prod.mk.injEq] at H;obtain⟨rfl,rfl,rfl,rfl,rfl⟩:=H;go_enter Tryd.func34,Tryd.ntmps34
   go_wp2_with(first|((with_reducible refine qai (N:=2) rfl ?_);refine zX (N:=2) (cs:=#[.int .i64 0,.int .i64 0,.int .i64 0,.int .i64 0]) (t:=39) ?_;intro gb583 hg w62 hbox hb;have BK583:=qaj.mk hbox;have GW583:=zH (w:=w) hg (za2 HB);have GE583:=GW583;replace HB:=qaj.mk (qaa (za2 HB) hb);clear hb hbox hg)|((with_reducible refine qae (f:=47) rfl ?_);refine zF (some 13) Tryd.func47 #[.string a0,.int .u8 32] ?_;(with_reducible refine(spec_l1Cut.calls a0 32 t584 _ A5.out).mono ?_);rintro e w63 ⟨v585,rfl,ho0,hb⟩;refine⟨_,rfl,?_⟩;have HO586:=qaj.mk (Kd.R_lower ho0 (qam (za0 HB GE583)));replace BK583:=zY BK583 hb;replace HB:=qaj.mk (qaa (za0 HB GE583) hb);(try clear hb);(try clear ho0);obtain⟨Ao64,co64,eo64⟩:=Kd.R_slice HO586.out;subst eo64)|((with_reducible refine qae (f:=64) rfl ?_);refine zF (some 16) Tryd.func64 #[.int .i64 (t584.length:Int),.int .i64 3,.int .i64 4] ?_;(with_reducible refine(spec_l6In.calls (t584.length:Int) 3 4 false _ A6.out).mono ?_);rintro e w' ⟨rfl,⟨nd,rfl⟩⟩;refine⟨_,rfl,?_⟩;(try(rw[drewN_self w63];generalize hq_:World.drewN w63 _=w63;replace HO586:qaj (Kd.R Kd.string 9 w63 w.heap.size (fun _=>True) (.slice Ao64 t584.length co64) t584):=⟨by rw[←hq_];exact(za3 HO586)⟩;replace BK583:qaj (w63.heap[gb583]?=some (.cells #[.int .i64 0,.int .i64 0,.int .i64 0,.int .i64 0] 39 (0,0))):=⟨by rw[←hq_];exact(zB BK583)⟩;replace HB:qaj (Below w.heap.size w w63):=⟨by rw[←hq_];exact(za0 HB GE583)⟩;clear hq_;have hczugb583_0:w63.cell? ⟨gb583,0,none⟩=some _:=(qag BK583.out 0).trans rfl;have hfzugb583_0:=qao BK583.out 0;have hczugb583_1:w63.cell? ⟨gb583,1,none⟩=some _:=(qag BK583.out 1).trans rfl;have hfzugb583_1:=qao BK583.out 1;have hczugb583_2:w63.cell? ⟨gb583,2,none⟩=some _:=(qag BK583.out 2).trans rfl;have hfzugb583_2:=qao BK583.out 2;have hczugb583_3:w63.cell? ⟨gb583,3,none⟩=some _:=(qag BK583.out 3).trans rfl;have hfzugb583_3:=qao BK583.out 3));obtain⟨hcz65_0,hcz65_1,hcz65_2,hcz65_3,hfz65_0,hfz65_1,hfz65_2,hfz65_3⟩:=zC4 BK583))
   refine bodyPost_ret (results_ct rfl _ _ gb583 39 #[.int .i64 0,.int .i64 0,.int .i64 0,.int .i64 0] (0,0) _ rfl (by(with_reducible repeat(first|refine qac ?_ _|refine qad ?_|refine qab ?_ _));refine qaf (cs:=#[.int .i64 0,.int .i64 0,.int .i64 0,.int .i64 0]) ?_ 3 _ rfl;(with_reducible repeat(first|refine qac ?_ _|refine qad ?_|refine qab ?_ _));refine qaf (cs:=#[.int .i64 0,.int .i64 0,.int .i64 0,.int .i64 0]) ?_ 2 _ rfl;(with_reducible repeat(first|refine qac ?_ _|refine qad ?_|refine qab ?_ _));refine qaf (cs:=#[.int .i64 0,.int .i64 0,.int .i64 0,.int .i64 0]) ?_ 1 _ rfl;(with_reducible repeat(first|refine qac ?_ _|refine qad ?_|refine qab ?_ _));refine qaf (cs:=#[.int .i64 0,.int .i64 0,.int .i64 0,.int .i64 0]) ?_ 0 _ rfl;(with_reducible repeat(first|refine qac ?_ _|refine qad ?_|refine qab ?_ _));exact BK583.out) Tryd.underlying39 rfl (by kernel_rfl)) rfl ?_
   exact⟨za10,za0 HB GE583⟩
end Go.Proofs.YtbcepmkifomifaaDoor.Print
