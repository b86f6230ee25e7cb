-- Written by squeeze.py: not trusted, Lean checks it.
import Derived.Test.YtbomcadjkcmcgaaZK
import Derived.Test.YtbomcadjkcmcgaaZa0
import Derived.Test.YtbomcadjkcmcgaaZa1
import Derived.Test.YtbomcadjkcmcgaaZa2
namespace Go.Proofs.Ytbomcadjkcmcgaa.Print
open Go.RowKit Go.Proofs.YtbomcadjkcmcgaaW.PrintWords Go.Proofs.YtbomcadjkcmcgaaW.PrintLast Go.Proofs.YtbomcadjkcmcgaaW.PrintMore
attribute [local go_sem] max2_int min2_int max_two min_two max_three min_three max_four min_four
set_option linter.unusedVariables false
set_option linter.unusedSimpArgs false
def spec_l2Of.l0:Nat→List (S62)→Int→Int→List (S72)→Option (Int × (List (S72)) × Bool)
 |0,_,_,_,_=>none
 |k+1,x1,x8,x150000,x150001=>if x8<(x1.length:Int) then(if 0≤x8 then((spec_RecOk.f k ((rd_T62 x1 x8).f0) ((rd_T62 x1 x8).f1) ((rd_T62 x1 x8).f2)).bind fun t151=>(if t151=true then((spec_l2May.f k x150000 x150001 ((rd_T62 x1 x8).f0) ((rd_T62 x1 x8).f1) ((rd_T62 x1 x8).f2)).bind fun t153=>(if t153=true then((spec_l2Do.f x150000 x150001 ((rd_T62 x1 x8).f0) ((rd_T62 x1 x8).f1) ((rd_T62 x1 x8).f2)).bind fun bt155=>(spec_l2Of.l0 k x1 (wrap64 (x8+1)) bt155.1 bt155.2)) else(some (0,([]:List (S72)),false)))) else(some (0,([]:List (S72)),false)))) else(none)) else(some (x150000,x150001,true))
def spec_l2Of.f (k:Nat) (a0:Int) (l1:List (S62)):Option (Int × (List (S72)) × Bool):=(spec_StockNew.f a0).bind fun bt144=>(if bt144.2.2=true then(spec_l2Of.l0 k l1 0 bt144.1 bt144.2.1) else(some (0,([]:List (S72)),false)))
theorem spec_l2Of.mono_l:∀k,(∀y0 y1 y2 y3,LeO (spec_l2Of.l0 k y0 y1 y2 y3) (spec_l2Of.l0 (k+1) y0 y1 y2 y3))
 |0=>fun _ _ _ _ r h=>by simp[spec_l2Of.l0] at h
 |k+1=>by
  have ih0:=spec_l2Of.mono_l k
  ·intro y0 y1 y2 y3;unfold spec_l2Of.l0
   repeat' first|(with_reducible exact ih0 _ _ _ _)|(with_reducible exact spec_RecOk.mono _ _ _ _)|(with_reducible exact spec_l2May.mono _ _ _ _ _ _)|(with_reducible exact LeO.refl _)|(with_reducible exact LeO.none _)|(with_reducible refine LeO.ite ?_ ?_)|(with_reducible refine LeO.bind ?_ (fun _=>?_))|exact ih0 _ _ _ _|exact spec_RecOk.mono _ _ _ _|exact spec_l2May.mono _ _ _ _ _ _|exact LeO.none _|refine LeO.ite ?_ ?_|refine LeO.bind ?_ (fun _=>?_)
theorem spec_l2Of.mono:∀a0 a1 k,LeO (spec_l2Of.f k a0 a1) (spec_l2Of.f (k+1) a0 a1):=by
 intro a0 a1 k;have ih0:=spec_l2Of.mono_l k;unfold spec_l2Of.f
 repeat' first|(with_reducible exact ih0 _ _ _ _)|(with_reducible exact spec_RecOk.mono _ _ _ _)|(with_reducible exact spec_l2May.mono _ _ _ _ _ _)|(with_reducible exact LeO.refl _)|(with_reducible exact LeO.none _)|(with_reducible refine LeO.ite ?_ ?_)|(with_reducible refine LeO.bind ?_ (fun _=>?_))|exact ih0 _ _ _ _|exact spec_RecOk.mono _ _ _ _|exact spec_l2May.mono _ _ _ _ _ _|exact LeO.none _|refine LeO.ite ?_ ?_|refine LeO.bind ?_ (fun _=>?_)
def spec_l2Of.T7:Bool × List (List Nat × List Nat):=(true,[([],[]),([],[]),([0,1],[0,1]),([2],[2]),([3],[3]),([4],[4]),([5,4],[5]),([6],[6]),([6],[6]),([6],[6]),([8,9,6],[6,8,9]),([10,6],[6,10]),([7,11,6,6],[6,7,11]),([12,6],[6,12]),([6,13],[6,13])])
def spec_l2Of.B7:List Nat:=[0,0,3,7,15,31,63,127,127,127,895,1919,4095,8191,16383]
theorem spec_l2Of.tab7:rtab .any (opsOf Try.f17 7)=spec_l2Of.T7:=by kernel_rfl
theorem spec_l2Of.bits7:waitsOk spec_l2Of.T7.2 spec_l2Of.B7=true:=by kernel_rfl
set_option maxHeartbeats 8000000 in
set_option maxRecDepth 100000 in
theorem spec_l2Of.calls (k:Nat) (a0:Int) (A1:Option Addr) (c1:Nat) (l1:List (S62)) (r1:Int) (r2:List (S72)) (r3:Bool) (w:World) (hr1:Kd.C k62 w A1 l1.length l1) (hc1:l1.length≤c1) (h:spec_l2Of.f k a0 l1=some (r1,r2,r3)) :
  Calls Try.prog 17 #[.int .i64 a0,.slice A1 l1.length c1] w fun e w'=>∃v1_:Value,e=.returned (.tuple #[.agg #[.int .i64 r1,v1_],.bool r3])∧Kd.R k72 72 w' w.heap.size (fun _=>True) v1_ r2∧Below w.heap.size w w':=by
 have hu39:=Try.underlying39;have hu62:=Try.underlying62;have HR1:=qah.mk hr1;have HC1:=qah.mk hc1;clear hr1 hc1;have HB:=qah.mk (Below.refl w.heap.size w);have H:((spec_StockNew.f a0).bind fun bt144=>(if bt144.2.2=true then(spec_l2Of.l0 k l1 0 bt144.1 bt144.2.1) else(some (0,([]:List (S72)),false))))=some (r1,r2,r3):=h;clear h;replace H:=Option.bind_eq_some_iff.mp H;obtain⟨⟨t144,t145,t148⟩,A30,H⟩:=H;replace H:(if t148=true then(spec_l2Of.l0 k l1 0 t144 t145) else(some (0,([]:List (S72)),false)))=some (r1,r2,r3):=H;have A3:=qah.mk A30;clear A30;by_cases c4:t148=true
 ·subst c4
  have H1:(spec_l2Of.l0 k l1 0 t144 t145)=some (r1,r2,r3):=by rw[if_pos rfl] at H;exact H
  clear H;have H:=H1;clear H1;have H':=qah.mk H;clear H;go_enter Try.func17,Try.ntmps17
  go_wp2_with(first|((with_reducible refine qag (N:=4) rfl ?_);refine zX (N:=4) (cs:=#[.int .i64 0,.slice none 0 0]) (t:=39) ?_;intro gb143 hg w5 hbox hb;have BK143:=qah.mk hbox;have GW143:=zH (w:=w) hg (za1 HB);have GE143:=GW143;replace HB:=qah.mk (qaa (za1 HB) hb);clear hb hbox hg)|((with_reducible refine qaf (f:=32) rfl ?_);refine zF (some 11) Try.func32 #[.int .i64 a0] ?_;(with_reducible refine(spec_StockNew.calls a0 t144 t145 true _ A3.out).mono ?_);rintro e w6 ⟨v146,rfl,ho0,hb⟩;refine⟨_,rfl,?_⟩;have HO147:=qah.mk (Kd.R_lower ho0 (qam (za0 HB GE143)));replace BK143:=zY BK143 hb;replace HB:=qah.mk (qaa (za0 HB GE143) hb);(try clear hb);(try clear ho0))|((with_reducible refine qag (N:=6) rfl ?_);refine zX (N:=6) (cs:=#[.int .i64 0,.slice none 0 0]) (t:=39) ?_;intro gb149 hg w7 hbox hb;replace HO147:=qah.mk (Kd.R_below (za5 HO147) hb);have BK149:=qah.mk hbox;have GW149:=zH (w:=w) hg (za0 HB GE143);have GE149:=GW149;replace HB:=qah.mk (qaa (za0 HB GE143) hb);have NB143_149:=zL BK143 hg;have NB149_143:=zG BK143 hg;replace BK143:=zY BK143 hb;clear hb hbox hg;have hnb8:=NB149_143.out;have hnc8:=NB143_149.out;obtain⟨hcz9_0,hcz9_1,hfz9_0,hfz9_1⟩:=zC2 BK149;obtain⟨Ao10,co10,eo10⟩:=Kd.R_slice HO147.out;subst eo10))
  go_loopg [8] k (fun kq v8 w'=>∃(x8_1:Int) (x144000_1:Int) (x150000_1:Int) (x150001_1:List (S72)) (u150001:Value),v8=.int .i64 x8_1∧qah (spec_l2Of.l0 kq l1 x8_1 x150000_1 x150001_1=some (r1,r2,r3))∧qah (kq≤k)∧qah (Kd.R k72 72 w' w.heap.size (fun _=>True) u150001 x150001_1)∧qah (w'.heap[gb143]?=some (.cells #[.int .i64 x144000_1,(.slice none 0 0)] 39 (0,0)))∧qah (w'.heap[gb149]?=some (.cells #[.int .i64 x150000_1,u150001] 39 (0,0)))∧qah (Below w.heap.size w w'))
  case atStart=>exact⟨(0),(0),(t144),(t145),(.slice Ao10 t145.length co10),(za11),H',⟨Nat.le_refl _⟩,⟨by(with_reducible repeat(first|apply Kd.R_alloc|apply Kd.R_drewN|apply Kd.R_drew));exact Kd.R_mono (Kd.R_far (p:=⟨gb149,1,none⟩) (Kd.R_far (p:=⟨gb149,0,none⟩) (Kd.R_types HO147.out BK149.out (by decide)) (fun _ hk=>hk.2) (.int .i64 t144)) (fun _ hk=>hk.2) (.slice Ao10 t145.length co10)) (fun _ hk=>trivial)⟩,⟨za4 NB143_149 BK143⟩,⟨by(with_reducible repeat(first|refine qae ?_ _|refine qac ?_|refine qad ?_ _));refine qai (cs:=#[.int .i64 t144,.slice none 0 0]) ?_ 1 _ rfl;(with_reducible repeat(first|refine qae ?_ _|refine qac ?_|refine qad ?_ _));refine qai (cs:=#[.int .i64 0,.slice none 0 0]) ?_ 0 _ rfl;(with_reducible repeat(first|refine qae ?_ _|refine qac ?_|refine qad ?_ _));exact BK149.out⟩,⟨za2 HB GE143 GE149⟩⟩
  case round=>
   clear H'
   try clear c1
   try clear p2
   try clear c3
   try clear c4
   try clear c8
   try clear hcz9_0
   try clear hcz9_1
   try clear hfz9_0
   try clear hfz9_1
   obtain⟨x8_1,x144000_1,x150000_1,x150001_1,u150001,rfl,HA,HK1,HO_150001,BK143,BK149,HB⟩:=hrel
   cases gk with
   |zero=>exact absurd HA.out (by simp[spec_l2Of.l0])
   |succ k1=>
    have H:=HA.out;clear HA;simp only[spec_l2Of.l0] at H;by_cases c11:x8_1<(l1.length:Int)
    ·rw[if_pos c11] at H;have c11b0:decide (x8_1<(l1.length:Int))=true:=decide_eq_true c11;clear c11;by_cases c12:0≤x8_1
     ·rw[if_pos c12] at H;have c12b0:decide (0≤x8_1)=true:=decide_eq_true c12;clear c12;replace H:=Option.bind_eq_some_iff.mp H;obtain⟨t151,A130,H⟩:=H;replace H:(if t151=true then((spec_l2May.f k1 x150000_1 x150001_1 ((rd_T62 l1 x8_1).f0) ((rd_T62 l1 x8_1).f1) ((rd_T62 l1 x8_1).f2)).bind fun t153=>(if t153=true then((spec_l2Do.f x150000_1 x150001_1 ((rd_T62 l1 x8_1).f0) ((rd_T62 l1 x8_1).f1) ((rd_T62 l1 x8_1).f2)).bind fun bt155=>(spec_l2Of.l0 k1 l1 (wrap64 (x8_1+1)) bt155.1 bt155.2)) else(some (0,([]:List (S72)),false)))) else(some (0,([]:List (S72)),false)))=some (r1,r2,r3):=H;have A13:=qah.mk A130;clear A130;by_cases c14:t151=true
      ·subst c14
       have H1:((spec_l2May.f k1 x150000_1 x150001_1 ((rd_T62 l1 x8_1).f0) ((rd_T62 l1 x8_1).f1) ((rd_T62 l1 x8_1).f2)).bind fun t153=>(if t153=true then((spec_l2Do.f x150000_1 x150001_1 ((rd_T62 l1 x8_1).f0) ((rd_T62 l1 x8_1).f1) ((rd_T62 l1 x8_1).f2)).bind fun bt155=>(spec_l2Of.l0 k1 l1 (wrap64 (x8_1+1)) bt155.1 bt155.2)) else(some (0,([]:List (S72)),false))))=some (r1,r2,r3):=by rw[if_pos rfl] at H;exact H
       clear H;have H:=H1;clear H1;replace H:=Option.bind_eq_some_iff.mp H;obtain⟨t153,A150,H⟩:=H;replace H:(if t153=true then((spec_l2Do.f x150000_1 x150001_1 ((rd_T62 l1 x8_1).f0) ((rd_T62 l1 x8_1).f1) ((rd_T62 l1 x8_1).f2)).bind fun bt155=>(spec_l2Of.l0 k1 l1 (wrap64 (x8_1+1)) bt155.1 bt155.2)) else(some (0,([]:List (S72)),false)))=some (r1,r2,r3):=H;have A15:=qah.mk A150;clear A150;by_cases c16:t153=true
       ·subst c16
        have H1:((spec_l2Do.f x150000_1 x150001_1 ((rd_T62 l1 x8_1).f0) ((rd_T62 l1 x8_1).f1) ((rd_T62 l1 x8_1).f2)).bind fun bt155=>(spec_l2Of.l0 k1 l1 (wrap64 (x8_1+1)) bt155.1 bt155.2))=some (r1,r2,r3):=by rw[if_pos rfl] at H;exact H
        clear H;have H:=H1;clear H1;replace H:=Option.bind_eq_some_iff.mp H;obtain⟨⟨t155,t156⟩,A170,H⟩:=H;replace H:(spec_l2Of.l0 k1 l1 (wrap64 (x8_1+1)) t155 t156)=some (r1,r2,r3):=H;have A17:=qah.mk A170;clear A170;have H':=qah.mk H;clear H
        try go_wp2
        replace HO_150001:=qah.mk (Kd.R_drew HO_150001.out);replace BK143:=qah.mk (qac BK143.out);replace BK149:=qah.mk (qac BK149.out);replace HB:=qah.mk (below_drew1 HB.out);have p150:0≤(x8_1:Int):=of_decide_eq_true (za7);have q150:x8_1<(l1.length:Int):=of_decide_eq_true (za7);obtain⟨ad150,A150_2,c150_2,e150,hx150_0,hx150_1,hx150_2,hl150_2,hi150_2⟩:=at_T62 HR1.out x8_1 p150 q150;have hw150_2:=hx150_2;have hw150_1:=hx150_1;have hw150_0:=hx150_0
        cases e150
        have hxo150_2:=qah.mk hx150_2;replace hx150_0:=(HB.out.cell (World.block_lt_of_cell? w _ hx150_0)).trans hx150_0;replace hx150_1:=(HB.out.cell (World.block_lt_of_cell? w _ hx150_1)).trans hx150_1;replace hx150_2:=(HB.out.cell (World.block_lt_of_cell? w _ hx150_2)).trans hx150_2;have HR150_2:=qah.mk hi150_2;have HC150_2:=qah.mk hl150_2;clear hi150_2 hl150_2;replace p150:=eq_true p150;replace q150:=eq_true q150;have p152:0≤(x8_1:Int):=of_decide_eq_true (za7);have q152:x8_1<(l1.length:Int):=of_decide_eq_true (za7);obtain⟨ad152,A152_2,c152_2,e152,hx152_0,hx152_1,hx152_2,hl152_2,hi152_2⟩:=at_T62 HR1.out x8_1 p152 q152;have hw152_2:=hx152_2;have hw152_1:=hx152_1;have hw152_0:=hx152_0;obtain rfl:ad150=ad152:=(by injection e152);have ea_:=Option.some.inj (hxo150_2.out.symm.trans hx152_2)
        injection ea_ with ea_ en_ ec_
        subst ea_;subst ec_;clear en_;replace hx152_0:=(HB.out.cell (World.block_lt_of_cell? w _ hx152_0)).trans hx152_0;replace hx152_1:=(HB.out.cell (World.block_lt_of_cell? w _ hx152_1)).trans hx152_1;replace hx152_2:=(HB.out.cell (World.block_lt_of_cell? w _ hx152_2)).trans hx152_2;have HR152_2:=qah.mk hi152_2;have HC152_2:=qah.mk hl152_2;clear hi152_2 hl152_2;replace p152:=eq_true p152;replace q152:=eq_true q152
        refine start_ (n:=15) (S:=fun w'=>w'.cell? ⟨gb149,0,none⟩=some (.int .i64 x150000_1)∧w'.cell? ⟨gb149,1,none⟩=some (u150001)∧w'.cell? (ad150.add ((x8_1).toNat*3))=some (.int .i64 ((rd_T62 l1 x8_1).f0))∧w'.cell? ⟨(ad150.add ((x8_1).toNat*3)).block,(ad150.add ((x8_1).toNat*3)).off+1,none⟩=some (.int .i64 ((rd_T62 l1 x8_1).f1))∧w'.cell? ⟨(ad150.add ((x8_1).toNat*3)).block,(ad150.add ((x8_1).toNat*3)).off+2,none⟩=some (.slice A150_2 ((rd_T62 l1 x8_1).f2).length c150_2)∧w'.cell? (ad150.add ((x8_1).toNat*3))=some (.int .i64 ((rd_T62 l1 x8_1).f0))∧w'.cell? ⟨(ad150.add ((x8_1).toNat*3)).block,(ad150.add ((x8_1).toNat*3)).off+1,none⟩=some (.int .i64 ((rd_T62 l1 x8_1).f1))∧w'.cell? ⟨(ad150.add ((x8_1).toNat*3)).block,(ad150.add ((x8_1).toNat*3)).off+2,none⟩=some (.slice A150_2 ((rd_T62 l1 x8_1).f2).length c150_2)) (ds:=[]) #[false,false,false,false,false,false,false,false,false,false,false,false,false,false,false] (by kernel_rfl) rfl rfl ⟨(qab BK149.out 0).trans rfl,(qab BK149.out 1).trans rfl,((HB.out.cell (World.block_lt_of_cell? w _ hw150_0)).trans hw150_0),((HB.out.cell (World.block_lt_of_cell? w _ hw150_1)).trans hw150_1),((HB.out.cell (World.block_lt_of_cell? w _ hw150_2)).trans hw150_2),((HB.out.cell (World.block_lt_of_cell? w _ hw152_0)).trans hw152_0),((HB.out.cell (World.block_lt_of_cell? w _ hw152_1)).trans hw152_1),((HB.out.cell (World.block_lt_of_cell? w _ hw152_2)).trans hw152_2)⟩ (fun hHeld=>?_);refine with_tabW spec_l2Of.tab7 spec_l2Of.bits7 (fun HT_ HW_=>?_)
        generalize wr.drew=w18 at HO_150001 BK143 BK149 HB HR150_2 HR152_2 hx150_0 hx150_1 hx150_2 hx152_0 hx152_1 hx152_2 hHeld ⊢;refine qaq (i:=0) (N:=some 23) (v:=?_) (a':=?_) #[true,false,false,false,false,false,false,false,false,false,false,false,false,false,false] rfl rfl (qal HT_.out (by kernel_rfl)) (fun _ _ _ h=>h) (Or.inl ⟨by rfl,?_⟩) ?_ ?_;rotate_left
        ·intro w';go_simp
         with_reducible rfl
        rotate_left
        ·simp only[Act.put,List.setIfInBounds_toArray,List.set_cons_zero,List.set_cons_succ,qaj,qak];rfl
        refine qaq (i:=1) (N:=some 24) (v:=?_) (a':=?_) #[true,true,false,false,false,false,false,false,false,false,false,false,false,false,false] rfl rfl (qal HT_.out (by kernel_rfl)) (fun _ _ _ h=>h) (Or.inl ⟨by rfl,?_⟩) ?_ ?_;rotate_left
        ·intro w';go_simp
         with_reducible rfl
        rotate_left
        ·simp only[Act.put,List.setIfInBounds_toArray,List.set_cons_zero,List.set_cons_succ,qaj,qak];rfl
        refine qaq (i:=2) (N:=some 25) (v:=?_) (a':=?_) #[true,true,true,false,false,false,false,false,false,false,false,false,false,false,false] rfl rfl (qal HT_.out (by kernel_rfl)) (fun _ _ _ h=>h) (Or.inl ⟨by rfl,?_⟩) ?_ ?_;rotate_left
        ·intro w';go_simp
         with_reducible rfl
        rotate_left
        ·simp only[Act.put,List.setIfInBounds_toArray,List.set_cons_zero,List.set_cons_succ,qaj,qak];rfl
        refine take_ (i:=3) (N:=some 26) (v:=?_) (a':=?_) #[true,true,true,true,false,false,false,false,false,false,false,false,false,false,false] rfl rfl (take_ofW HT_.out HW_.out (by kernel_rfl)) (fun _ _ _ h=>h) (Or.inl ⟨by rfl,?_⟩) hHeld ?_ ?_;rotate_left
        ·rintro w' ⟨s0,s1,s2,s3,s4,s5,s6,s7⟩;go_simp
         with_reducible rfl
        rotate_left
        ·simp only[Act.put,List.setIfInBounds_toArray,List.set_cons_zero,List.set_cons_succ,qaj,qak];rfl
        refine one_ (i:=4) (N:=some 27) #[true,true,true,true,true,false,false,false,false,false,false,false,false,false,false] rfl rfl (one_of HT_.out (by kernel_rfl)) (by decide) (fun K hK=>?_);refine goes_ Try.func33 (by kernel_rfl) rfl #[.agg #[.int .i64 ((rd_T62 l1 x8_1).f0),.int .i64 ((rd_T62 l1 x8_1).f1),.slice A150_2 ((rd_T62 l1 x8_1).f2).length c150_2]] (by rfl) rfl rfl (by(try simp only[List.map_toArray,List.map_cons,List.map_nil]);first|done|rfl|(simp only[List.length_drop,List.length_take];rfl)) ?_
        with_reducible refine(spec_RecOk.calls k1 ((rd_T62 l1 x8_1).f0) ((rd_T62 l1 x8_1).f1) _ _ ((rd_T62 l1 x8_1).f2) true _ ?side1 ?side2 A13.out).mono ?_
        (case side1=>exact zR HR150_2 HB);(case side2=>exact HC150_2.out);rintro e w19 ⟨rfl,hb⟩;refine⟨_,rfl,?_⟩;replace HO_150001:=qah.mk (Kd.R_below (za5 HO_150001) hb);replace BK143:=zY BK143 hb;replace BK149:=zY BK149 hb;replace HB:=qah.mk (qaa (za2 HB GE143 GE149) hb);(try clear hb);(try clear hb2);(try clear hk);(try clear hi);obtain⟨Ao20,co20,eo20⟩:=Kd.R_slice HO_150001.out;(first|subst eo20|(injection eo20 with f1_ f2_ f3_;have f4_:=f1_.symm;have f5_:=f3_.symm;clear f1_ f2_ f3_;subst f4_;subst f5_));refine hK.out _ _ ⟨(qab BK149.out 0).trans rfl,(qab BK149.out 1).trans rfl,((HB.out.cell (World.block_lt_of_cell? w _ hw150_0)).trans hw150_0),((HB.out.cell (World.block_lt_of_cell? w _ hw150_1)).trans hw150_1),((HB.out.cell (World.block_lt_of_cell? w _ hw150_2)).trans hw150_2),((HB.out.cell (World.block_lt_of_cell? w _ hw152_0)).trans hw152_0),((HB.out.cell (World.block_lt_of_cell? w _ hw152_1)).trans hw152_1),((HB.out.cell (World.block_lt_of_cell? w _ hw152_2)).trans hw152_2)⟩ (fun hHeld=>?_);clear hK K;refine norm_ (a':=?_) ?_ ?_;rotate_left
        ·show Act.put _ (some 27) _=_;simp only[Act.put,List.setIfInBounds_toArray,List.set_cons_zero,List.set_cons_succ,qaj,qak];rfl
        refine qaq (i:=5) (N:=some 28) (v:=?_) (a':=?_) #[true,true,true,true,true,true,false,false,false,false,false,false,false,false,false] rfl rfl (qal HT_.out (by kernel_rfl)) (fun _ _ _ h=>h) (Or.inl ⟨by rfl,?_⟩) ?_ ?_;rotate_left
        ·intro w';go_simp
         with_reducible rfl
        rotate_left
        ·simp only[Act.put,List.setIfInBounds_toArray,List.set_cons_zero,List.set_cons_succ,qaj,qak];rfl
        refine qaq (i:=6) (N:=some 29) (v:=?_) (a':=?_) #[true,true,true,true,true,true,true,false,false,false,false,false,false,false,false] rfl rfl (qal HT_.out (by kernel_rfl)) (fun _ _ _ h=>h) (Or.inl ⟨by rfl,?_⟩) ?_ ?_;rotate_left
        ·intro w';go_simp
         with_reducible rfl
        rotate_left
        ·simp only[Act.put,List.setIfInBounds_toArray,List.set_cons_zero,List.set_cons_succ,qaj,qak];rfl
        refine qaq (i:=8) (N:=some 31) (v:=?_) (a':=?_) #[true,true,true,true,true,true,true,false,true,false,false,false,false,false,false] rfl rfl (qal HT_.out (by kernel_rfl)) (fun _ _ _ h=>h) (Or.inl ⟨by rfl,?_⟩) ?_ ?_;rotate_left
        ·intro w';go_simp
         with_reducible rfl
        rotate_left
        ·simp only[Act.put,List.setIfInBounds_toArray,List.set_cons_zero,List.set_cons_succ,qaj,qak];rfl
        refine qaq (i:=9) (N:=some 32) (v:=?_) (a':=?_) #[true,true,true,true,true,true,true,false,true,true,false,false,false,false,false] rfl rfl (qal HT_.out (by kernel_rfl)) (fun _ _ _ h=>h) (Or.inl ⟨by rfl,?_⟩) ?_ ?_;rotate_left
        ·intro w';go_simp
         with_reducible rfl
        rotate_left
        ·simp only[Act.put,List.setIfInBounds_toArray,List.set_cons_zero,List.set_cons_succ,qaj,qak];rfl
        refine qaq (i:=10) (N:=some 33) (v:=?_) (a':=?_) #[true,true,true,true,true,true,true,false,true,true,true,false,false,false,false] rfl rfl (qal HT_.out (by kernel_rfl)) (fun _ _ _ h=>h) (Or.inl ⟨by rfl,?_⟩) ?_ ?_;rotate_left
        ·intro w';go_simp
         with_reducible rfl
        rotate_left
        ·simp only[Act.put,List.setIfInBounds_toArray,List.set_cons_zero,List.set_cons_succ,qaj,qak];rfl
        refine take_ (i:=7) (N:=some 30) (v:=?_) (a':=?_) #[true,true,true,true,true,true,true,true,true,true,true,false,false,false,false] rfl rfl (take_ofW HT_.out HW_.out (by kernel_rfl)) (fun _ _ _ h=>h) (Or.inl ⟨by rfl,?_⟩) hHeld ?_ ?_;rotate_left
        ·rintro w' ⟨s0,s1,s2,s3,s4,s5,s6,s7⟩;go_simp
         with_reducible rfl
        rotate_left
        ·simp only[Act.put,List.setIfInBounds_toArray,List.set_cons_zero,List.set_cons_succ,qaj,qak];rfl
        refine take_ (i:=11) (N:=some 34) (v:=?_) (a':=?_) #[true,true,true,true,true,true,true,true,true,true,true,true,false,false,false] rfl rfl (take_ofW HT_.out HW_.out (by kernel_rfl)) (fun _ _ _ h=>h) (Or.inl ⟨by rfl,?_⟩) hHeld ?_ ?_;rotate_left
        ·rintro w' ⟨s0,s1,s2,s3,s4,s5,s6,s7⟩;go_simp
         with_reducible rfl
        rotate_left
        ·simp only[Act.put,List.setIfInBounds_toArray,List.set_cons_zero,List.set_cons_succ,qaj,qak];rfl
        refine one_ (i:=12) (N:=some 35) #[true,true,true,true,true,true,true,true,true,true,true,true,true,false,false] rfl rfl (one_of HT_.out (by kernel_rfl)) (by decide) (fun K hK=>?_);refine goes_ Try.func34 (by kernel_rfl) rfl #[.agg #[.int .i64 x150000_1,.slice Ao20 x150001_1.length co20],.agg #[.int .i64 ((rd_T62 l1 x8_1).f0),.int .i64 ((rd_T62 l1 x8_1).f1),.slice A150_2 ((rd_T62 l1 x8_1).f2).length c150_2]] (by rfl) rfl rfl (by(try simp only[List.map_toArray,List.map_cons,List.map_nil]);first|done|rfl|(simp only[List.length_drop,List.length_take];rfl)) ?_
        with_reducible refine(spec_l2May.calls k1 x150000_1 _ _ x150001_1 ((rd_T62 l1 x8_1).f0) ((rd_T62 l1 x8_1).f1) _ _ ((rd_T62 l1 x8_1).f2) true _ ?side1 ?side2 ?side3 ?side4 A15.out).mono ?_
        (case side1=>repeat(first|exact(Kd.R_reads' HO_150001.out).2.2|(with_reducible refine Kd.C_alloc ?_ _)|(with_reducible refine Kd.C_drewN ?_ _)|(with_reducible refine Kd.C_drew ?_)));(case side2=>exact(Kd.R_reads' HO_150001.out).2.1);(case side3=>exact zR HR152_2 HB);(case side4=>exact HC152_2.out);rintro e w21 ⟨rfl,hb⟩;refine⟨_,rfl,?_⟩;replace HO_150001:=qah.mk (Kd.R_below (za5 HO_150001) hb);replace BK143:=zY BK143 hb;replace BK149:=zY BK149 hb;replace HB:=qah.mk (qaa (za2 HB GE143 GE149) hb);(try clear hb);(try clear hb2);(try clear hk);(try clear hi);refine hK.out _ _ ⟨(qab BK149.out 0).trans rfl,(qab BK149.out 1).trans rfl,((HB.out.cell (World.block_lt_of_cell? w _ hw150_0)).trans hw150_0),((HB.out.cell (World.block_lt_of_cell? w _ hw150_1)).trans hw150_1),((HB.out.cell (World.block_lt_of_cell? w _ hw150_2)).trans hw150_2),((HB.out.cell (World.block_lt_of_cell? w _ hw152_0)).trans hw152_0),((HB.out.cell (World.block_lt_of_cell? w _ hw152_1)).trans hw152_1),((HB.out.cell (World.block_lt_of_cell? w _ hw152_2)).trans hw152_2)⟩ (fun hHeld=>?_);clear hK K;refine norm_ (a':=?_) ?_ ?_;rotate_left
        ·show Act.put _ (some 35) _=_;simp only[Act.put,List.setIfInBounds_toArray,List.set_cons_zero,List.set_cons_succ,qaj,qak];rfl
        refine qaq (i:=13) (N:=some 36) (v:=?_) (a':=?_) #[true,true,true,true,true,true,true,true,true,true,true,true,true,true,false] rfl rfl (qal HT_.out (by kernel_rfl)) (fun _ _ _ h=>h) (Or.inl ⟨by rfl,?_⟩) ?_ ?_;rotate_left
        ·intro w';go_simp
         with_reducible rfl
        rotate_left
        ·simp only[Act.put,List.setIfInBounds_toArray,List.set_cons_zero,List.set_cons_succ,qaj,qak];rfl
        refine qaq (i:=14) (N:=some 37) (v:=?_) (a':=?_) #[true,true,true,true,true,true,true,true,true,true,true,true,true,true,true] rfl rfl (qal HT_.out (by kernel_rfl)) (fun _ _ _ h=>h) (Or.inl ⟨by rfl,?_⟩) ?_ ?_;rotate_left
        ·intro w';go_simp
         with_reducible rfl
        rotate_left
        ·simp only[Act.put,List.setIfInBounds_toArray,List.set_cons_zero,List.set_cons_succ,qaj,qak];rfl
        refine done_ (done_of HT_.out (by kernel_rfl)) ?_
        try go_wp2
        replace HO_150001:=qah.mk (Kd.R_drew HO_150001.out);replace BK143:=qah.mk (qac BK143.out);replace BK149:=qah.mk (qac BK149.out);replace HB:=qah.mk (below_drew1 HB.out);have p154:0≤(x8_1:Int):=of_decide_eq_true (za7);have q154:x8_1<(l1.length:Int):=of_decide_eq_true (za7);obtain⟨ad154,A154_2,c154_2,e154,hx154_0,hx154_1,hx154_2,hl154_2,hi154_2⟩:=at_T62 HR1.out x8_1 p154 q154;have hw154_2:=hx154_2;have hw154_1:=hx154_1;have hw154_0:=hx154_0;obtain rfl:ad150=ad154:=(by injection e154);have ea_:=Option.some.inj (hxo150_2.out.symm.trans hx154_2)
        injection ea_ with ea_ en_ ec_
        subst ea_;subst ec_;clear en_;replace hx154_0:=(HB.out.cell (World.block_lt_of_cell? w _ hx154_0)).trans hx154_0;replace hx154_1:=(HB.out.cell (World.block_lt_of_cell? w _ hx154_1)).trans hx154_1;replace hx154_2:=(HB.out.cell (World.block_lt_of_cell? w _ hx154_2)).trans hx154_2;have HR154_2:=qah.mk hi154_2;have HC154_2:=qah.mk hl154_2;clear hi154_2 hl154_2;replace p154:=eq_true p154;replace q154:=eq_true q154
        refine start_ (n:=7) (S:=fun w'=>w'.cell? ⟨gb149,0,none⟩=some (.int .i64 x150000_1)∧w'.cell? ⟨gb149,1,none⟩=some (.slice Ao20 x150001_1.length co20)∧w'.cell? (ad150.add ((x8_1).toNat*3))=some (.int .i64 ((rd_T62 l1 x8_1).f0))∧w'.cell? ⟨(ad150.add ((x8_1).toNat*3)).block,(ad150.add ((x8_1).toNat*3)).off+1,none⟩=some (.int .i64 ((rd_T62 l1 x8_1).f1))∧w'.cell? ⟨(ad150.add ((x8_1).toNat*3)).block,(ad150.add ((x8_1).toNat*3)).off+2,none⟩=some (.slice A150_2 ((rd_T62 l1 x8_1).f2).length c150_2)) (ds:=[6]) #[false,false,false,false,false,false,false] (by kernel_rfl) rfl rfl ⟨(qab BK149.out 0).trans rfl,(qab BK149.out 1).trans rfl,((HB.out.cell (World.block_lt_of_cell? w _ hw154_0)).trans hw154_0),((HB.out.cell (World.block_lt_of_cell? w _ hw154_1)).trans hw154_1),((HB.out.cell (World.block_lt_of_cell? w _ hw154_2)).trans hw154_2)⟩ (fun hHeld=>?_)
        generalize w21.drew=w22 at HO_150001 BK143 BK149 HB HR154_2 hx154_0 hx154_1 hx154_2 hHeld ⊢;refine qaq (i:=1) (N:=some 40) (v:=?_) (a':=?_) #[false,true,false,false,false,false,false] rfl rfl (by kernel_rfl) (fun _ _ _ h=>h) (Or.inl ⟨by rfl,?_⟩) ?_ ?_;rotate_left
        ·intro w';go_simp
         with_reducible rfl
        rotate_left
        ·simp only[Act.put,List.setIfInBounds_toArray,List.set_cons_zero,List.set_cons_succ,qaj,qak];rfl
        refine qaq (i:=2) (N:=some 41) (v:=?_) (a':=?_) #[false,true,true,false,false,false,false] rfl rfl (by kernel_rfl) (fun _ _ _ h=>h) (Or.inl ⟨by rfl,?_⟩) ?_ ?_;rotate_left
        ·intro w';go_simp
         with_reducible rfl
        rotate_left
        ·simp only[Act.put,List.setIfInBounds_toArray,List.set_cons_zero,List.set_cons_succ,qaj,qak];rfl
        refine qaq (i:=3) (N:=some 42) (v:=?_) (a':=?_) #[false,true,true,true,false,false,false] rfl rfl (by kernel_rfl) (fun _ _ _ h=>h) (Or.inl ⟨by rfl,?_⟩) ?_ ?_;rotate_left
        ·intro w';go_simp
         with_reducible rfl
        rotate_left
        ·simp only[Act.put,List.setIfInBounds_toArray,List.set_cons_zero,List.set_cons_succ,qaj,qak];rfl
        refine take_ (i:=0) (N:=some 39) (v:=?_) (a':=?_) #[true,true,true,true,false,false,false] rfl rfl (by kernel_rfl) (fun _ _ _ h=>h) (Or.inl ⟨by rfl,?_⟩) hHeld ?_ ?_;rotate_left
        ·rintro w' ⟨s0,s1,s2,s3,s4⟩;go_simp
         with_reducible rfl
        rotate_left
        ·simp only[Act.put,List.setIfInBounds_toArray,List.set_cons_zero,List.set_cons_succ,qaj,qak];rfl
        refine take_ (i:=4) (N:=some 43) (v:=?_) (a':=?_) #[true,true,true,true,true,false,false] rfl rfl (by kernel_rfl) (fun _ _ _ h=>h) (Or.inl ⟨by rfl,?_⟩) hHeld ?_ ?_;rotate_left
        ·rintro w' ⟨s0,s1,s2,s3,s4⟩;go_simp
         with_reducible rfl
        rotate_left
        ·simp only[Act.put,List.setIfInBounds_toArray,List.set_cons_zero,List.set_cons_succ,qaj,qak];rfl
        refine one_ (i:=5) (N:=some 44) #[true,true,true,true,true,true,false] rfl rfl (by kernel_rfl) (by decide) (fun K hK=>?_);refine goes_ Try.func35 (by kernel_rfl) rfl #[.agg #[.int .i64 x150000_1,.slice Ao20 x150001_1.length co20],.agg #[.int .i64 ((rd_T62 l1 x8_1).f0),.int .i64 ((rd_T62 l1 x8_1).f1),.slice A150_2 ((rd_T62 l1 x8_1).f2).length c150_2]] (by rfl) rfl rfl (by(try simp only[List.map_toArray,List.map_cons,List.map_nil]);first|done|rfl|(simp only[List.length_drop,List.length_take];rfl)) ?_
        with_reducible refine(spec_l2Do.calls x150000_1 (fun k_=>some k_=(.slice Ao20 x150001_1.length co20:Value).ownBlock) (.slice Ao20 x150001_1.length co20) x150001_1 ((rd_T62 l1 x8_1).f0) ((rd_T62 l1 x8_1).f1) _ _ ((rd_T62 l1 x8_1).f2) t155 t156 w _ ?side1 ?side2 ?side3 ?side4 A17.out).mono ?_
        (case side1=>exact(za2 HB GE143 GE149));(case side2=>exact Kd.R_tight rfl HO_150001.out);(case side3=>exact Kd.C_kept_came (Kd.heap_int .i64) HR154_2.out (za2 HB GE143 GE149) (fun k_ hs_=>(fun e_=>Kd.R_base HO_150001.out k_ e_.symm) hs_));(case side4=>exact HC154_2.out);rintro e w23 ⟨v157,rfl,ho0,hb,hkp⟩;refine⟨_,rfl,?_⟩;replace BK143:=qah.mk (blk_kept (zB BK143) hkp (fun hs_=>(fun e_=>(Kd.R_ne HO_150001.out BK143.out (by decide)) e_) hs_));replace BK149:=qah.mk (blk_kept (zB BK149) hkp (fun hs_=>(fun e_=>(Kd.R_ne HO_150001.out BK149.out (by decide)) e_) hs_));have HO158:=qah.mk (Kd.R_mono (ok':=fun k_=>True) ho0 (fun k_ hk_=>trivial));replace HB:=qah.mk hb;clear HO_150001;(try clear hb);(try clear hkp);(try clear ho0);obtain⟨Ao25,co25,eo25⟩:=Kd.R_slice HO158.out;(first|subst eo25|(injection eo25 with f1_ f2_ f3_;have f4_:=f1_.symm;have f5_:=f3_.symm;clear f1_ f2_ f3_;subst f4_;subst f5_));refine hK.out _ _ ⟨(qab BK149.out 0).trans rfl,(qab BK149.out 1).trans rfl,((HB.out.cell (World.block_lt_of_cell? w _ hw154_0)).trans hw154_0),((HB.out.cell (World.block_lt_of_cell? w _ hw154_1)).trans hw154_1),((HB.out.cell (World.block_lt_of_cell? w _ hw154_2)).trans hw154_2)⟩ (fun hHeld=>?_)
        clear hK K;refine norm_ (a':=?_) ?_ ?_;rotate_left
        ·show Act.put _ (some 44) _=_;simp only[Act.put,List.setIfInBounds_toArray,List.set_cons_zero,List.set_cons_succ,qaj,qak];rfl
        refine last_ (i:=6) (N:=none) #[true,true,true,true,true,true,true] rfl rfl (by kernel_rfl) (by decide) (fun K hK=>?_);have hs24:w23.cell? ⟨gb149,0,none⟩=some (.int .i64 x150000_1):=(qab BK149.out 0).trans rfl;have hfs24:=blk_frozen BK149.out 0;have hns24_0:=NB143_149.out;have hms24_0:=NB149_143.out;have hs26:w23.cell? ⟨gb149,1,none⟩=some (.slice Ao20 x150001_1.length co20):=(qab BK149.out 1).trans rfl;have hfs26:=blk_frozen BK149.out 1;have hns26_0:=NB143_149.out;have hms26_0:=NB149_143.out;refine skip_ (w1:=?_) (by rfl) rfl ?_ ?_;rotate_left
        ·go_simp;rfl
        refine hK.out _ _ ?_;clear hK K;refine done_ (by kernel_rfl) ?_
        try go_wp2
        go_roundg k1
        case measure=>have:=HK1.out;omega
        case rel=>exact⟨(wrap64 (x8_1+1)),(x144000_1),(t155),(t156),(.slice Ao25 t156.length co25),(za11),H',⟨by have:=HK1.out;omega⟩,⟨by(with_reducible repeat(first|apply Kd.R_alloc|apply Kd.R_drewN|apply Kd.R_drew));exact Kd.R_mono (Kd.R_far (p:=⟨gb149,1,none⟩) (Kd.R_far (p:=⟨gb149,0,none⟩) (Kd.R_types HO158.out BK149.out (by decide)) (fun _ hk=>hk.2) (.int .i64 t155)) (fun _ hk=>hk.2) (.slice Ao25 t156.length co25)) (fun _ hk=>trivial)⟩,⟨za4 NB143_149 BK143⟩,⟨by(with_reducible repeat(first|refine qae ?_ _|refine qac ?_|refine qad ?_ _));refine qai (cs:=#[.int .i64 t155,.slice Ao20 x150001_1.length co20]) ?_ 1 _ rfl;(with_reducible repeat(first|refine qae ?_ _|refine qac ?_|refine qad ?_ _));refine qai (cs:=#[.int .i64 x150000_1,.slice Ao20 x150001_1.length co20]) ?_ 0 _ rfl;(with_reducible repeat(first|refine qae ?_ _|refine qac ?_|refine qad ?_ _));exact BK149.out⟩,⟨za2 HB GE143 GE149⟩⟩
       ·replace c16:=Bool.eq_false_iff.mpr c16;subst c16
        have H1:(some (0,([]:List (S72)),false))=some (r1,r2,r3):=by rw[if_neg (show ¬(false=true) by decide)] at H;exact H
        clear H;have H:=H1;clear H1;simp only[Option.some.injEq,Prod.mk.injEq] at H;obtain⟨rfl,rfl,rfl⟩:=H
        try go_wp2
        replace HO_150001:=qah.mk (Kd.R_drew HO_150001.out);replace BK143:=qah.mk (qac BK143.out);replace BK149:=qah.mk (qac BK149.out);replace HB:=qah.mk (below_drew1 HB.out);have p150:0≤(x8_1:Int):=of_decide_eq_true (za7);have q150:x8_1<(l1.length:Int):=of_decide_eq_true (za7);obtain⟨ad150,A150_2,c150_2,e150,hx150_0,hx150_1,hx150_2,hl150_2,hi150_2⟩:=at_T62 HR1.out x8_1 p150 q150;have hw150_2:=hx150_2;have hw150_1:=hx150_1;have hw150_0:=hx150_0
        cases e150
        have hxo150_2:=qah.mk hx150_2;replace hx150_0:=(HB.out.cell (World.block_lt_of_cell? w _ hx150_0)).trans hx150_0;replace hx150_1:=(HB.out.cell (World.block_lt_of_cell? w _ hx150_1)).trans hx150_1;replace hx150_2:=(HB.out.cell (World.block_lt_of_cell? w _ hx150_2)).trans hx150_2;have HR150_2:=qah.mk hi150_2;have HC150_2:=qah.mk hl150_2;clear hi150_2 hl150_2;replace p150:=eq_true p150;replace q150:=eq_true q150;have p152:0≤(x8_1:Int):=of_decide_eq_true (za7);have q152:x8_1<(l1.length:Int):=of_decide_eq_true (za7);obtain⟨ad152,A152_2,c152_2,e152,hx152_0,hx152_1,hx152_2,hl152_2,hi152_2⟩:=at_T62 HR1.out x8_1 p152 q152;have hw152_2:=hx152_2;have hw152_1:=hx152_1;have hw152_0:=hx152_0;obtain rfl:ad150=ad152:=(by injection e152);have ea_:=Option.some.inj (hxo150_2.out.symm.trans hx152_2)
        injection ea_ with ea_ en_ ec_
        subst ea_;subst ec_;clear en_;replace hx152_0:=(HB.out.cell (World.block_lt_of_cell? w _ hx152_0)).trans hx152_0;replace hx152_1:=(HB.out.cell (World.block_lt_of_cell? w _ hx152_1)).trans hx152_1;replace hx152_2:=(HB.out.cell (World.block_lt_of_cell? w _ hx152_2)).trans hx152_2;have HR152_2:=qah.mk hi152_2;have HC152_2:=qah.mk hl152_2;clear hi152_2 hl152_2;replace p152:=eq_true p152;replace q152:=eq_true q152
        refine start_ (n:=15) (S:=fun w'=>w'.cell? ⟨gb149,0,none⟩=some (.int .i64 x150000_1)∧w'.cell? ⟨gb149,1,none⟩=some (u150001)∧w'.cell? (ad150.add ((x8_1).toNat*3))=some (.int .i64 ((rd_T62 l1 x8_1).f0))∧w'.cell? ⟨(ad150.add ((x8_1).toNat*3)).block,(ad150.add ((x8_1).toNat*3)).off+1,none⟩=some (.int .i64 ((rd_T62 l1 x8_1).f1))∧w'.cell? ⟨(ad150.add ((x8_1).toNat*3)).block,(ad150.add ((x8_1).toNat*3)).off+2,none⟩=some (.slice A150_2 ((rd_T62 l1 x8_1).f2).length c150_2)∧w'.cell? (ad150.add ((x8_1).toNat*3))=some (.int .i64 ((rd_T62 l1 x8_1).f0))∧w'.cell? ⟨(ad150.add ((x8_1).toNat*3)).block,(ad150.add ((x8_1).toNat*3)).off+1,none⟩=some (.int .i64 ((rd_T62 l1 x8_1).f1))∧w'.cell? ⟨(ad150.add ((x8_1).toNat*3)).block,(ad150.add ((x8_1).toNat*3)).off+2,none⟩=some (.slice A150_2 ((rd_T62 l1 x8_1).f2).length c150_2)) (ds:=[]) #[false,false,false,false,false,false,false,false,false,false,false,false,false,false,false] (by kernel_rfl) rfl rfl ⟨(qab BK149.out 0).trans rfl,(qab BK149.out 1).trans rfl,((HB.out.cell (World.block_lt_of_cell? w _ hw150_0)).trans hw150_0),((HB.out.cell (World.block_lt_of_cell? w _ hw150_1)).trans hw150_1),((HB.out.cell (World.block_lt_of_cell? w _ hw150_2)).trans hw150_2),((HB.out.cell (World.block_lt_of_cell? w _ hw152_0)).trans hw152_0),((HB.out.cell (World.block_lt_of_cell? w _ hw152_1)).trans hw152_1),((HB.out.cell (World.block_lt_of_cell? w _ hw152_2)).trans hw152_2)⟩ (fun hHeld=>?_);refine with_tabW spec_l2Of.tab7 spec_l2Of.bits7 (fun HT_ HW_=>?_)
        generalize wr.drew=w27 at HO_150001 BK143 BK149 HB HR150_2 HR152_2 hx150_0 hx150_1 hx150_2 hx152_0 hx152_1 hx152_2 hHeld ⊢;refine qaq (i:=0) (N:=some 23) (v:=?_) (a':=?_) #[true,false,false,false,false,false,false,false,false,false,false,false,false,false,false] rfl rfl (qal HT_.out (by kernel_rfl)) (fun _ _ _ h=>h) (Or.inl ⟨by rfl,?_⟩) ?_ ?_;rotate_left
        ·intro w';go_simp
         with_reducible rfl
        rotate_left
        ·simp only[Act.put,List.setIfInBounds_toArray,List.set_cons_zero,List.set_cons_succ,qaj,qak];rfl
        refine qaq (i:=1) (N:=some 24) (v:=?_) (a':=?_) #[true,true,false,false,false,false,false,false,false,false,false,false,false,false,false] rfl rfl (qal HT_.out (by kernel_rfl)) (fun _ _ _ h=>h) (Or.inl ⟨by rfl,?_⟩) ?_ ?_;rotate_left
        ·intro w';go_simp
         with_reducible rfl
        rotate_left
        ·simp only[Act.put,List.setIfInBounds_toArray,List.set_cons_zero,List.set_cons_succ,qaj,qak];rfl
        refine qaq (i:=2) (N:=some 25) (v:=?_) (a':=?_) #[true,true,true,false,false,false,false,false,false,false,false,false,false,false,false] rfl rfl (qal HT_.out (by kernel_rfl)) (fun _ _ _ h=>h) (Or.inl ⟨by rfl,?_⟩) ?_ ?_;rotate_left
        ·intro w';go_simp
         with_reducible rfl
        rotate_left
        ·simp only[Act.put,List.setIfInBounds_toArray,List.set_cons_zero,List.set_cons_succ,qaj,qak];rfl
        refine take_ (i:=3) (N:=some 26) (v:=?_) (a':=?_) #[true,true,true,true,false,false,false,false,false,false,false,false,false,false,false] rfl rfl (take_ofW HT_.out HW_.out (by kernel_rfl)) (fun _ _ _ h=>h) (Or.inl ⟨by rfl,?_⟩) hHeld ?_ ?_;rotate_left
        ·rintro w' ⟨s0,s1,s2,s3,s4,s5,s6,s7⟩;go_simp
         with_reducible rfl
        rotate_left
        ·simp only[Act.put,List.setIfInBounds_toArray,List.set_cons_zero,List.set_cons_succ,qaj,qak];rfl
        refine one_ (i:=4) (N:=some 27) #[true,true,true,true,true,false,false,false,false,false,false,false,false,false,false] rfl rfl (one_of HT_.out (by kernel_rfl)) (by decide) (fun K hK=>?_);refine goes_ Try.func33 (by kernel_rfl) rfl #[.agg #[.int .i64 ((rd_T62 l1 x8_1).f0),.int .i64 ((rd_T62 l1 x8_1).f1),.slice A150_2 ((rd_T62 l1 x8_1).f2).length c150_2]] (by rfl) rfl rfl (by(try simp only[List.map_toArray,List.map_cons,List.map_nil]);first|done|rfl|(simp only[List.length_drop,List.length_take];rfl)) ?_
        with_reducible refine(spec_RecOk.calls k1 ((rd_T62 l1 x8_1).f0) ((rd_T62 l1 x8_1).f1) _ _ ((rd_T62 l1 x8_1).f2) true _ ?side1 ?side2 A13.out).mono ?_
        (case side1=>exact zR HR150_2 HB);(case side2=>exact HC150_2.out);rintro e w28 ⟨rfl,hb⟩;refine⟨_,rfl,?_⟩;replace HO_150001:=qah.mk (Kd.R_below (za5 HO_150001) hb);replace BK143:=zY BK143 hb;replace BK149:=zY BK149 hb;replace HB:=qah.mk (qaa (za2 HB GE143 GE149) hb);(try clear hb);(try clear hb2);(try clear hk);(try clear hi);obtain⟨Ao29,co29,eo29⟩:=Kd.R_slice HO_150001.out;(first|subst eo29|(injection eo29 with f1_ f2_ f3_;have f4_:=f1_.symm;have f5_:=f3_.symm;clear f1_ f2_ f3_;subst f4_;subst f5_));refine hK.out _ _ ⟨(qab BK149.out 0).trans rfl,(qab BK149.out 1).trans rfl,((HB.out.cell (World.block_lt_of_cell? w _ hw150_0)).trans hw150_0),((HB.out.cell (World.block_lt_of_cell? w _ hw150_1)).trans hw150_1),((HB.out.cell (World.block_lt_of_cell? w _ hw150_2)).trans hw150_2),((HB.out.cell (World.block_lt_of_cell? w _ hw152_0)).trans hw152_0),((HB.out.cell (World.block_lt_of_cell? w _ hw152_1)).trans hw152_1),((HB.out.cell (World.block_lt_of_cell? w _ hw152_2)).trans hw152_2)⟩ (fun hHeld=>?_);clear hK K;refine norm_ (a':=?_) ?_ ?_;rotate_left
        ·show Act.put _ (some 27) _=_;simp only[Act.put,List.setIfInBounds_toArray,List.set_cons_zero,List.set_cons_succ,qaj,qak];rfl
        refine qaq (i:=5) (N:=some 28) (v:=?_) (a':=?_) #[true,true,true,true,true,true,false,false,false,false,false,false,false,false,false] rfl rfl (qal HT_.out (by kernel_rfl)) (fun _ _ _ h=>h) (Or.inl ⟨by rfl,?_⟩) ?_ ?_;rotate_left
        ·intro w';go_simp
         with_reducible rfl
        rotate_left
        ·simp only[Act.put,List.setIfInBounds_toArray,List.set_cons_zero,List.set_cons_succ,qaj,qak];rfl
        refine qaq (i:=6) (N:=some 29) (v:=?_) (a':=?_) #[true,true,true,true,true,true,true,false,false,false,false,false,false,false,false] rfl rfl (qal HT_.out (by kernel_rfl)) (fun _ _ _ h=>h) (Or.inl ⟨by rfl,?_⟩) ?_ ?_;rotate_left
        ·intro w';go_simp
         with_reducible rfl
        rotate_left
        ·simp only[Act.put,List.setIfInBounds_toArray,List.set_cons_zero,List.set_cons_succ,qaj,qak];rfl
        refine qaq (i:=8) (N:=some 31) (v:=?_) (a':=?_) #[true,true,true,true,true,true,true,false,true,false,false,false,false,false,false] rfl rfl (qal HT_.out (by kernel_rfl)) (fun _ _ _ h=>h) (Or.inl ⟨by rfl,?_⟩) ?_ ?_;rotate_left
        ·intro w';go_simp
         with_reducible rfl
        rotate_left
        ·simp only[Act.put,List.setIfInBounds_toArray,List.set_cons_zero,List.set_cons_succ,qaj,qak];rfl
        refine qaq (i:=9) (N:=some 32) (v:=?_) (a':=?_) #[true,true,true,true,true,true,true,false,true,true,false,false,false,false,false] rfl rfl (qal HT_.out (by kernel_rfl)) (fun _ _ _ h=>h) (Or.inl ⟨by rfl,?_⟩) ?_ ?_;rotate_left
        ·intro w';go_simp
         with_reducible rfl
        rotate_left
        ·simp only[Act.put,List.setIfInBounds_toArray,List.set_cons_zero,List.set_cons_succ,qaj,qak];rfl
        refine qaq (i:=10) (N:=some 33) (v:=?_) (a':=?_) #[true,true,true,true,true,true,true,false,true,true,true,false,false,false,false] rfl rfl (qal HT_.out (by kernel_rfl)) (fun _ _ _ h=>h) (Or.inl ⟨by rfl,?_⟩) ?_ ?_;rotate_left
        ·intro w';go_simp
         with_reducible rfl
        rotate_left
        ·simp only[Act.put,List.setIfInBounds_toArray,List.set_cons_zero,List.set_cons_succ,qaj,qak];rfl
        refine take_ (i:=7) (N:=some 30) (v:=?_) (a':=?_) #[true,true,true,true,true,true,true,true,true,true,true,false,false,false,false] rfl rfl (take_ofW HT_.out HW_.out (by kernel_rfl)) (fun _ _ _ h=>h) (Or.inl ⟨by rfl,?_⟩) hHeld ?_ ?_;rotate_left
        ·rintro w' ⟨s0,s1,s2,s3,s4,s5,s6,s7⟩;go_simp
         with_reducible rfl
        rotate_left
        ·simp only[Act.put,List.setIfInBounds_toArray,List.set_cons_zero,List.set_cons_succ,qaj,qak];rfl
        refine take_ (i:=11) (N:=some 34) (v:=?_) (a':=?_) #[true,true,true,true,true,true,true,true,true,true,true,true,false,false,false] rfl rfl (take_ofW HT_.out HW_.out (by kernel_rfl)) (fun _ _ _ h=>h) (Or.inl ⟨by rfl,?_⟩) hHeld ?_ ?_;rotate_left
        ·rintro w' ⟨s0,s1,s2,s3,s4,s5,s6,s7⟩;go_simp
         with_reducible rfl
        rotate_left
        ·simp only[Act.put,List.setIfInBounds_toArray,List.set_cons_zero,List.set_cons_succ,qaj,qak];rfl
        refine one_ (i:=12) (N:=some 35) #[true,true,true,true,true,true,true,true,true,true,true,true,true,false,false] rfl rfl (one_of HT_.out (by kernel_rfl)) (by decide) (fun K hK=>?_);refine goes_ Try.func34 (by kernel_rfl) rfl #[.agg #[.int .i64 x150000_1,.slice Ao29 x150001_1.length co29],.agg #[.int .i64 ((rd_T62 l1 x8_1).f0),.int .i64 ((rd_T62 l1 x8_1).f1),.slice A150_2 ((rd_T62 l1 x8_1).f2).length c150_2]] (by rfl) rfl rfl (by(try simp only[List.map_toArray,List.map_cons,List.map_nil]);first|done|rfl|(simp only[List.length_drop,List.length_take];rfl)) ?_
        with_reducible refine(spec_l2May.calls k1 x150000_1 _ _ x150001_1 ((rd_T62 l1 x8_1).f0) ((rd_T62 l1 x8_1).f1) _ _ ((rd_T62 l1 x8_1).f2) false _ ?side1 ?side2 ?side3 ?side4 A15.out).mono ?_
        (case side1=>repeat(first|exact(Kd.R_reads' HO_150001.out).2.2|(with_reducible refine Kd.C_alloc ?_ _)|(with_reducible refine Kd.C_drewN ?_ _)|(with_reducible refine Kd.C_drew ?_)));(case side2=>exact(Kd.R_reads' HO_150001.out).2.1);(case side3=>exact zR HR152_2 HB);(case side4=>exact HC152_2.out);rintro e w30 ⟨rfl,hb⟩;refine⟨_,rfl,?_⟩;replace HO_150001:=qah.mk (Kd.R_below (za5 HO_150001) hb);replace BK143:=zY BK143 hb;replace BK149:=zY BK149 hb;replace HB:=qah.mk (qaa (za2 HB GE143 GE149) hb);(try clear hb);(try clear hb2);(try clear hk);(try clear hi);refine hK.out _ _ ⟨(qab BK149.out 0).trans rfl,(qab BK149.out 1).trans rfl,((HB.out.cell (World.block_lt_of_cell? w _ hw150_0)).trans hw150_0),((HB.out.cell (World.block_lt_of_cell? w _ hw150_1)).trans hw150_1),((HB.out.cell (World.block_lt_of_cell? w _ hw150_2)).trans hw150_2),((HB.out.cell (World.block_lt_of_cell? w _ hw152_0)).trans hw152_0),((HB.out.cell (World.block_lt_of_cell? w _ hw152_1)).trans hw152_1),((HB.out.cell (World.block_lt_of_cell? w _ hw152_2)).trans hw152_2)⟩ (fun hHeld=>?_);clear hK K;refine norm_ (a':=?_) ?_ ?_;rotate_left
        ·show Act.put _ (some 35) _=_;simp only[Act.put,List.setIfInBounds_toArray,List.set_cons_zero,List.set_cons_succ,qaj,qak];rfl
        refine qaq (i:=13) (N:=some 36) (v:=?_) (a':=?_) #[true,true,true,true,true,true,true,true,true,true,true,true,true,true,false] rfl rfl (qal HT_.out (by kernel_rfl)) (fun _ _ _ h=>h) (Or.inl ⟨by rfl,?_⟩) ?_ ?_;rotate_left
        ·intro w';go_simp
         with_reducible rfl
        rotate_left
        ·simp only[Act.put,List.setIfInBounds_toArray,List.set_cons_zero,List.set_cons_succ,qaj,qak];rfl
        refine qaq (i:=14) (N:=some 37) (v:=?_) (a':=?_) #[true,true,true,true,true,true,true,true,true,true,true,true,true,true,true] rfl rfl (qal HT_.out (by kernel_rfl)) (fun _ _ _ h=>h) (Or.inl ⟨by rfl,?_⟩) ?_ ?_;rotate_left
        ·intro w';go_simp
         with_reducible rfl
        rotate_left
        ·simp only[Act.put,List.setIfInBounds_toArray,List.set_cons_zero,List.set_cons_succ,qaj,qak];rfl
        refine done_ (done_of HT_.out (by kernel_rfl)) ?_;have hnb31:=NB143_149.out;have hnc31:=NB149_143.out;obtain⟨hcz32_0,hcz32_1,hfz32_0,hfz32_1⟩:=zC2 BK143
        try go_wp2
        refine bodyPost_ret (results_ct rfl _ _ gb143 39 #[.int .i64 0,.slice none 0 0] (0,0) _ rfl (by(with_reducible repeat(first|refine qae ?_ _|refine qac ?_|refine qad ?_ _));refine qai (cs:=#[.int .i64 0,.slice none 0 0]) ?_ 1 _ rfl;(with_reducible repeat(first|refine qae ?_ _|refine qac ?_|refine qad ?_ _));refine qai (cs:=#[.int .i64 x144000_1,.slice none 0 0]) ?_ 0 _ rfl;(with_reducible repeat(first|refine qae ?_ _|refine qac ?_|refine qad ?_ _));exact BK143.out) Try.underlying39 rfl (by kernel_rfl)) rfl ?_;exact⟨_,za8,za16,za2 HB GE143 GE149⟩
      ·replace c14:=Bool.eq_false_iff.mpr c14;subst c14
       have H1:(some (0,([]:List (S72)),false))=some (r1,r2,r3):=by rw[if_neg (show ¬(false=true) by decide)] at H;exact H
       clear H;have H:=H1;clear H1;simp only[Option.some.injEq,Prod.mk.injEq] at H;obtain⟨rfl,rfl,rfl⟩:=H
       try go_wp2
       replace HO_150001:=qah.mk (Kd.R_drew HO_150001.out);replace BK143:=qah.mk (qac BK143.out);replace BK149:=qah.mk (qac BK149.out);replace HB:=qah.mk (below_drew1 HB.out);have p150:0≤(x8_1:Int):=of_decide_eq_true (za7);have q150:x8_1<(l1.length:Int):=of_decide_eq_true (za7);obtain⟨ad150,A150_2,c150_2,e150,hx150_0,hx150_1,hx150_2,hl150_2,hi150_2⟩:=at_T62 HR1.out x8_1 p150 q150;have hw150_2:=hx150_2;have hw150_1:=hx150_1;have hw150_0:=hx150_0
       cases e150
       have hxo150_2:=qah.mk hx150_2;replace hx150_0:=(HB.out.cell (World.block_lt_of_cell? w _ hx150_0)).trans hx150_0;replace hx150_1:=(HB.out.cell (World.block_lt_of_cell? w _ hx150_1)).trans hx150_1;replace hx150_2:=(HB.out.cell (World.block_lt_of_cell? w _ hx150_2)).trans hx150_2;have HR150_2:=qah.mk hi150_2;have HC150_2:=qah.mk hl150_2;clear hi150_2 hl150_2;replace p150:=eq_true p150;replace q150:=eq_true q150
       refine start_ (n:=15) (S:=fun w'=>w'.cell? (ad150.add ((x8_1).toNat*3))=some (.int .i64 ((rd_T62 l1 x8_1).f0))∧w'.cell? ⟨(ad150.add ((x8_1).toNat*3)).block,(ad150.add ((x8_1).toNat*3)).off+1,none⟩=some (.int .i64 ((rd_T62 l1 x8_1).f1))∧w'.cell? ⟨(ad150.add ((x8_1).toNat*3)).block,(ad150.add ((x8_1).toNat*3)).off+2,none⟩=some (.slice A150_2 ((rd_T62 l1 x8_1).f2).length c150_2)) (ds:=[]) #[false,false,false,false,false,false,false,false,false,false,false,false,false,false,false] (by kernel_rfl) rfl rfl ⟨((HB.out.cell (World.block_lt_of_cell? w _ hw150_0)).trans hw150_0),((HB.out.cell (World.block_lt_of_cell? w _ hw150_1)).trans hw150_1),((HB.out.cell (World.block_lt_of_cell? w _ hw150_2)).trans hw150_2)⟩ (fun hHeld=>?_);refine with_tabW spec_l2Of.tab7 spec_l2Of.bits7 (fun HT_ HW_=>?_)
       generalize wr.drew=w33 at HO_150001 BK143 BK149 HB HR150_2 hx150_0 hx150_1 hx150_2 hHeld ⊢;refine qaq (i:=0) (N:=some 23) (v:=?_) (a':=?_) #[true,false,false,false,false,false,false,false,false,false,false,false,false,false,false] rfl rfl (qal HT_.out (by kernel_rfl)) (fun _ _ _ h=>h) (Or.inl ⟨by rfl,?_⟩) ?_ ?_;rotate_left
       ·intro w';go_simp
        with_reducible rfl
       rotate_left
       ·simp only[Act.put,List.setIfInBounds_toArray,List.set_cons_zero,List.set_cons_succ,qaj,qak];rfl
       refine qaq (i:=1) (N:=some 24) (v:=?_) (a':=?_) #[true,true,false,false,false,false,false,false,false,false,false,false,false,false,false] rfl rfl (qal HT_.out (by kernel_rfl)) (fun _ _ _ h=>h) (Or.inl ⟨by rfl,?_⟩) ?_ ?_;rotate_left
       ·intro w';go_simp
        with_reducible rfl
       rotate_left
       ·simp only[Act.put,List.setIfInBounds_toArray,List.set_cons_zero,List.set_cons_succ,qaj,qak];rfl
       refine qaq (i:=2) (N:=some 25) (v:=?_) (a':=?_) #[true,true,true,false,false,false,false,false,false,false,false,false,false,false,false] rfl rfl (qal HT_.out (by kernel_rfl)) (fun _ _ _ h=>h) (Or.inl ⟨by rfl,?_⟩) ?_ ?_;rotate_left
       ·intro w';go_simp
        with_reducible rfl
       rotate_left
       ·simp only[Act.put,List.setIfInBounds_toArray,List.set_cons_zero,List.set_cons_succ,qaj,qak];rfl
       refine take_ (i:=3) (N:=some 26) (v:=?_) (a':=?_) #[true,true,true,true,false,false,false,false,false,false,false,false,false,false,false] rfl rfl (take_ofW HT_.out HW_.out (by kernel_rfl)) (fun _ _ _ h=>h) (Or.inl ⟨by rfl,?_⟩) hHeld ?_ ?_;rotate_left
       ·rintro w' ⟨s0,s1,s2⟩;go_simp
        with_reducible rfl
       rotate_left
       ·simp only[Act.put,List.setIfInBounds_toArray,List.set_cons_zero,List.set_cons_succ,qaj,qak];rfl
       refine one_ (i:=4) (N:=some 27) #[true,true,true,true,true,false,false,false,false,false,false,false,false,false,false] rfl rfl (one_of HT_.out (by kernel_rfl)) (by decide) (fun K hK=>?_);refine goes_ Try.func33 (by kernel_rfl) rfl #[.agg #[.int .i64 ((rd_T62 l1 x8_1).f0),.int .i64 ((rd_T62 l1 x8_1).f1),.slice A150_2 ((rd_T62 l1 x8_1).f2).length c150_2]] (by rfl) rfl rfl (by(try simp only[List.map_toArray,List.map_cons,List.map_nil]);first|done|rfl|(simp only[List.length_drop,List.length_take];rfl)) ?_
       with_reducible refine(spec_RecOk.calls k1 ((rd_T62 l1 x8_1).f0) ((rd_T62 l1 x8_1).f1) _ _ ((rd_T62 l1 x8_1).f2) false _ ?side1 ?side2 A13.out).mono ?_
       (case side1=>exact zR HR150_2 HB);(case side2=>exact HC150_2.out);rintro e w34 ⟨rfl,hb⟩;refine⟨_,rfl,?_⟩;replace HO_150001:=qah.mk (Kd.R_below (za5 HO_150001) hb);replace BK143:=zY BK143 hb;replace BK149:=zY BK149 hb;replace HB:=qah.mk (qaa (za2 HB GE143 GE149) hb);(try clear hb);(try clear hb2);(try clear hk);(try clear hi);refine hK.out _ _ ⟨((HB.out.cell (World.block_lt_of_cell? w _ hw150_0)).trans hw150_0),((HB.out.cell (World.block_lt_of_cell? w _ hw150_1)).trans hw150_1),((HB.out.cell (World.block_lt_of_cell? w _ hw150_2)).trans hw150_2)⟩ (fun hHeld=>?_);clear hK K;refine norm_ (a':=?_) ?_ ?_;rotate_left
       ·show Act.put _ (some 27) _=_;simp only[Act.put,List.setIfInBounds_toArray,List.set_cons_zero,List.set_cons_succ,qaj,qak];rfl
       refine qaq (i:=5) (N:=some 28) (v:=?_) (a':=?_) #[true,true,true,true,true,true,false,false,false,false,false,false,false,false,false] rfl rfl (qal HT_.out (by kernel_rfl)) (fun _ _ _ h=>h) (Or.inl ⟨by rfl,?_⟩) ?_ ?_;rotate_left
       ·intro w';go_simp
        with_reducible rfl
       rotate_left
       ·simp only[Act.put,List.setIfInBounds_toArray,List.set_cons_zero,List.set_cons_succ,qaj,qak];rfl
       refine qaq (i:=6) (N:=some 29) (v:=?_) (a':=?_) #[true,true,true,true,true,true,true,false,false,false,false,false,false,false,false] rfl rfl (qal HT_.out (by kernel_rfl)) (fun _ _ _ h=>h) (Or.inl ⟨by rfl,?_⟩) ?_ ?_;rotate_left
       ·intro w';go_simp
        with_reducible rfl
       rotate_left
       ·simp only[Act.put,List.setIfInBounds_toArray,List.set_cons_zero,List.set_cons_succ,qaj,qak];rfl
       refine qaq (i:=7) (N:=some 30) (v:=undef) (a':=?_) #[true,true,true,true,true,true,true,true,false,false,false,false,false,false,false] rfl rfl (qal HT_.out (by kernel_rfl)) (fun _ _ _ h=>h) (Or.inr ⟨by rfl,rfl⟩) ?_ ?_;rotate_left
       ·simp only[Act.put,List.setIfInBounds_toArray,List.set_cons_zero,List.set_cons_succ,qaj,qak];rfl
       refine qaq (i:=8) (N:=some 31) (v:=undef) (a':=?_) #[true,true,true,true,true,true,true,true,true,false,false,false,false,false,false] rfl rfl (qal HT_.out (by kernel_rfl)) (fun _ _ _ h=>h) (Or.inr ⟨by rfl,rfl⟩) ?_ ?_;rotate_left
       ·simp only[Act.put,List.setIfInBounds_toArray,List.set_cons_zero,List.set_cons_succ,qaj,qak];rfl
       refine qaq (i:=9) (N:=some 32) (v:=undef) (a':=?_) #[true,true,true,true,true,true,true,true,true,true,false,false,false,false,false] rfl rfl (qal HT_.out (by kernel_rfl)) (fun _ _ _ h=>h) (Or.inr ⟨by rfl,rfl⟩) ?_ ?_;rotate_left
       ·simp only[Act.put,List.setIfInBounds_toArray,List.set_cons_zero,List.set_cons_succ,qaj,qak];rfl
       refine qaq (i:=10) (N:=some 33) (v:=undef) (a':=?_) #[true,true,true,true,true,true,true,true,true,true,true,false,false,false,false] rfl rfl (qal HT_.out (by kernel_rfl)) (fun _ _ _ h=>h) (Or.inr ⟨by rfl,rfl⟩) ?_ ?_;rotate_left
       ·simp only[Act.put,List.setIfInBounds_toArray,List.set_cons_zero,List.set_cons_succ,qaj,qak];rfl
       refine qaq (i:=11) (N:=some 34) (v:=undef) (a':=?_) #[true,true,true,true,true,true,true,true,true,true,true,true,false,false,false] rfl rfl (qal HT_.out (by kernel_rfl)) (fun _ _ _ h=>h) (Or.inr ⟨by rfl,rfl⟩) ?_ ?_;rotate_left
       ·simp only[Act.put,List.setIfInBounds_toArray,List.set_cons_zero,List.set_cons_succ,qaj,qak];rfl
       refine qaq (i:=12) (N:=some 35) (v:=undef) (a':=?_) #[true,true,true,true,true,true,true,true,true,true,true,true,true,false,false] rfl rfl (qal HT_.out (by kernel_rfl)) (fun _ _ _ h=>h) (Or.inr ⟨by rfl,rfl⟩) ?_ ?_;rotate_left
       ·simp only[Act.put,List.setIfInBounds_toArray,List.set_cons_zero,List.set_cons_succ,qaj,qak];rfl
       refine qaq (i:=13) (N:=some 36) (v:=undef) (a':=?_) #[true,true,true,true,true,true,true,true,true,true,true,true,true,true,false] rfl rfl (qal HT_.out (by kernel_rfl)) (fun _ _ _ h=>h) (Or.inr ⟨by rfl,rfl⟩) ?_ ?_;rotate_left
       ·simp only[Act.put,List.setIfInBounds_toArray,List.set_cons_zero,List.set_cons_succ,qaj,qak];rfl
       refine qaq (i:=14) (N:=some 37) (v:=?_) (a':=?_) #[true,true,true,true,true,true,true,true,true,true,true,true,true,true,true] rfl rfl (qal HT_.out (by kernel_rfl)) (fun _ _ _ h=>h) (Or.inl ⟨by rfl,?_⟩) ?_ ?_;rotate_left
       ·intro w';go_simp
        with_reducible rfl
       rotate_left
       ·simp only[Act.put,List.setIfInBounds_toArray,List.set_cons_zero,List.set_cons_succ,qaj,qak];rfl
       refine done_ (done_of HT_.out (by kernel_rfl)) ?_;have hnb35:=NB143_149.out;have hnc35:=NB149_143.out;obtain⟨hcz36_0,hcz36_1,hfz36_0,hfz36_1⟩:=zC2 BK143
       try go_wp2
       refine bodyPost_ret (results_ct rfl _ _ gb143 39 #[.int .i64 0,.slice none 0 0] (0,0) _ rfl (by(with_reducible repeat(first|refine qae ?_ _|refine qac ?_|refine qad ?_ _));refine qai (cs:=#[.int .i64 0,.slice none 0 0]) ?_ 1 _ rfl;(with_reducible repeat(first|refine qae ?_ _|refine qac ?_|refine qad ?_ _));refine qai (cs:=#[.int .i64 x144000_1,.slice none 0 0]) ?_ 0 _ rfl;(with_reducible repeat(first|refine qae ?_ _|refine qac ?_|refine qad ?_ _));exact BK143.out) Try.underlying39 rfl (by kernel_rfl)) rfl ?_;exact⟨_,za8,za16,za2 HB GE143 GE149⟩
     ·rw[if_neg c12] at H;exact absurd H (by simp)
    ·rw[if_neg c11] at H;have c11b0:decide (x8_1<(l1.length:Int))=false:=decide_eq_false c11;clear c11;simp only[Option.some.injEq,Prod.mk.injEq] at H;obtain⟨rfl,rfl,rfl⟩:=H;have hnb37:=NB149_143.out;have hnc37:=NB143_149.out;obtain⟨hcz38_0,hcz38_1,hfz38_0,hfz38_1⟩:=zC2 BK149;obtain⟨hcz39_0,hcz39_1,hfz39_0,hfz39_1⟩:=zC2 BK143;obtain⟨Ao40,co40,eo40⟩:=Kd.R_slice HO_150001.out;subst eo40;go_wp2;refine bodyPost_ret (results_ct rfl _ _ gb143 39 #[.int .i64 x150000_1,.slice Ao40 x150001_1.length co40] (0,0) _ rfl (by(with_reducible repeat(first|refine qae ?_ _|refine qac ?_|refine qad ?_ _));refine qai (cs:=#[.int .i64 x150000_1,.slice none 0 0]) ?_ 1 _ rfl;(with_reducible repeat(first|refine qae ?_ _|refine qac ?_|refine qad ?_ _));refine qai (cs:=#[.int .i64 x144000_1,.slice none 0 0]) ?_ 0 _ rfl;(with_reducible repeat(first|refine qae ?_ _|refine qac ?_|refine qad ?_ _));exact BK143.out) Try.underlying39 rfl (by kernel_rfl)) rfl ?_;exact⟨_,za8,by(with_reducible repeat(first|apply Kd.R_alloc|apply Kd.R_drewN|apply Kd.R_drew));exact Kd.R_mono (Kd.R_far (p:=⟨gb143,1,none⟩) (Kd.R_far (p:=⟨gb143,0,none⟩) (Kd.R_types HO_150001.out BK143.out (by decide)) (fun _ hk=>hk.2) (.int .i64 x150000_1)) (fun _ hk=>hk.2) (.slice Ao40 x150001_1.length co40)) (fun _ hk=>trivial),za2 HB GE143 GE149⟩
 ·replace c4:=Bool.eq_false_iff.mpr c4;subst c4
  have H1:(some (0,([]:List (S72)),false))=some (r1,r2,r3):=by rw[if_neg (show ¬(false=true) by decide)] at H;exact H
  clear H;have H:=H1;clear H1;simp only[Option.some.injEq,Prod.mk.injEq] at H;obtain⟨rfl,rfl,rfl⟩:=H;go_enter Try.func17,Try.ntmps17
  go_wp2_with(first|((with_reducible refine qag (N:=4) rfl ?_);refine zX (N:=4) (cs:=#[.int .i64 0,.slice none 0 0]) (t:=39) ?_;intro gb143 hg w41 hbox hb;have BK143:=qah.mk hbox;have GW143:=zH (w:=w) hg (za1 HB);have GE143:=GW143;replace HB:=qah.mk (qaa (za1 HB) hb);clear hb hbox hg)|((with_reducible refine qaf (f:=32) rfl ?_);refine zF (some 11) Try.func32 #[.int .i64 a0] ?_;(with_reducible refine(spec_StockNew.calls a0 t144 t145 false _ A3.out).mono ?_);rintro e w42 ⟨v146,rfl,ho0,hb⟩;refine⟨_,rfl,?_⟩;have HO147:=qah.mk (Kd.R_lower ho0 (qam (za0 HB GE143)));replace BK143:=zY BK143 hb;replace HB:=qah.mk (qaa (za0 HB GE143) hb);(try clear hb);(try clear ho0))|((with_reducible refine qag (N:=6) rfl ?_);refine zX (N:=6) (cs:=#[.int .i64 0,.slice none 0 0]) (t:=39) ?_;intro gb149 hg w43 hbox hb;replace HO147:=qah.mk (Kd.R_below (za5 HO147) hb);have BK149:=qah.mk hbox;have GW149:=zH (w:=w) hg (za0 HB GE143);have GE149:=GW149;replace HB:=qah.mk (qaa (za0 HB GE143) hb);have NB143_149:=zL BK143 hg;have NB149_143:=zG BK143 hg;replace BK143:=zY BK143 hb;clear hb hbox hg;have hnb44:=NB149_143.out;have hnc44:=NB143_149.out;obtain⟨hcz45_0,hcz45_1,hfz45_0,hfz45_1⟩:=zC2 BK149;obtain⟨Ao46,co46,eo46⟩:=Kd.R_slice HO147.out;subst eo46;obtain⟨hcz47_0,hcz47_1,hfz47_0,hfz47_1⟩:=zC2 BK143))
  refine bodyPost_ret (results_ct rfl _ _ gb143 39 #[.int .i64 0,.slice none 0 0] (0,0) _ rfl (by(with_reducible repeat(first|refine qae ?_ _|refine qac ?_|refine qad ?_ _));refine qai (cs:=#[.int .i64 0,.slice none 0 0]) ?_ 1 _ rfl;(with_reducible repeat(first|refine qae ?_ _|refine qac ?_|refine qad ?_ _));refine qai (cs:=#[.int .i64 0,.slice none 0 0]) ?_ 0 _ rfl;(with_reducible repeat(first|refine qae ?_ _|refine qac ?_|refine qad ?_ _));refine blk_far ?_ NB143_149.out _;(with_reducible repeat(first|refine qae ?_ _|refine qac ?_|refine qad ?_ _));refine blk_far ?_ NB143_149.out _;(with_reducible repeat(first|refine qae ?_ _|refine qac ?_|refine qad ?_ _));exact BK143.out) Try.underlying39 rfl (by kernel_rfl)) rfl ?_
  exact⟨_,za8,za16,za2 HB GE143 GE149⟩
end Go.Proofs.Ytbomcadjkcmcgaa.Print
