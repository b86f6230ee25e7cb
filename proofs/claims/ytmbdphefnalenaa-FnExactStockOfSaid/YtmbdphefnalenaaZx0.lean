-- Written by squeeze.py: not trusted, Lean checks it.
import Derived.Test.YtmbdphefnalenaaZK
import Derived.Test.YtmbdphefnalenaaZw0
import Derived.Test.YtmbdphefnalenaaZw1
namespace Go.Proofs.Ytmbdphefnalenaa.Print
open Go.RowKit Go.Proofs.YtmbdphefnalenaaW.PrintWords Go.Proofs.YtmbdphefnalenaaW.PrintLast Go.Proofs.YtmbdphefnalenaaW.PrintMore
attribute [local go_sem] max2_int min2_int max_two min_two max_three min_three max_four min_four
set_option linter.unusedVariables false
set_option linter.unusedSimpArgs false
def laws_szRecS.l0:Nat→List (S54)→Int→Int→Option (Int)
 |0,_,_,_=>none
 |k+1,x0,x1,x5=>if x5<(x0.length:Int) then(if 0≤x5 then((laws_szRec.f ((rd_T54 x0 x5).f0) ((rd_T54 x0 x5).f1) ((rd_T54 x0 x5).f2) x1).bind fun t1098=>(if t1098<0 then(some (-1)) else(laws_szRecS.l0 k x0 t1098 (wrap64 (x5+1))))) else(none)) else(some x1)
def laws_szRecS.f (k:Nat) (l0:List (S54)) (a1:Int):Option (Int):=if(wrap64 (a1 - (l0.length:Int)))<0 then(some (-1)) else(laws_szRecS.l0 k l0 (wrap64 (a1 - (l0.length:Int))) 0)
theorem laws_szRecS.mono_l:∀k,(∀y0 y1 y2,LeO (laws_szRecS.l0 k y0 y1 y2) (laws_szRecS.l0 (k+1) y0 y1 y2))
 |0=>fun _ _ _ r h=>by simp[laws_szRecS.l0] at h
 |k+1=>by
  have ih0:=laws_szRecS.mono_l k
  ·intro y0 y1 y2;unfold laws_szRecS.l0
   repeat' first|(with_reducible exact ih0 _ _ _)|(with_reducible exact LeO.refl _)|(with_reducible exact LeO.none _)|(with_reducible refine LeO.ite ?_ ?_)|(with_reducible refine LeO.bind ?_ (fun _=>?_))|exact ih0 _ _ _|exact LeO.none _|refine LeO.ite ?_ ?_|refine LeO.bind ?_ (fun _=>?_)
theorem laws_szRecS.mono:∀a0 a1 k,LeO (laws_szRecS.f k a0 a1) (laws_szRecS.f (k+1) a0 a1):=by
 intro a0 a1 k;have ih0:=laws_szRecS.mono_l k;unfold laws_szRecS.f
 repeat' first|(with_reducible exact ih0 _ _ _)|(with_reducible exact LeO.refl _)|(with_reducible exact LeO.none _)|(with_reducible refine LeO.ite ?_ ?_)|(with_reducible refine LeO.bind ?_ (fun _=>?_))|exact ih0 _ _ _|exact LeO.none _|refine LeO.ite ?_ ?_|refine LeO.bind ?_ (fun _=>?_)
set_option maxHeartbeats 8000000 in
set_option maxRecDepth 100000 in
theorem laws_szRecS.calls (k:Nat) (A0:Option Addr) (c0:Nat) (l0:List (S54)) (a1:Int) (r:Int) (w:World) (hr0:Kd.C k54 w A0 l0.length l0) (hc0:l0.length≤c0) (h:laws_szRecS.f k l0 a1=some r) :
  Calls Try.prog 39 #[.slice A0 l0.length c0,.int .i64 a1] w fun e w'=>e=.returned (.int .i64 r)∧Below w.heap.size w w':=by
 have hu54:=Try.underlying54;have HR0:=qaf.mk hr0;have HC0:=qaf.mk hc0;clear hr0 hc0;have HB:=qaf.mk (Below.refl w.heap.size w);have H:(if(wrap64 (a1 - (l0.length:Int)))<0 then(some (-1)) else(laws_szRecS.l0 k l0 (wrap64 (a1 - (l0.length:Int))) 0))=some r:=h;clear h;by_cases c3:(wrap64 (a1 - (l0.length:Int)))<0
 ·rw[if_pos c3] at H;have c3b0:decide ((wrap64 (a1 - (l0.length:Int)))<0)=true:=decide_eq_true c3;clear c3;obtain rfl:=Option.some.inj H;go_enter Try.func39,Try.ntmps39;go_wp2;go_ret;exact⟨za12,za2 HB⟩
 ·rw[if_neg c3] at H;have c3b0:decide ((wrap64 (a1 - (l0.length:Int)))<0)=false:=decide_eq_false c3;clear c3;have H':=qaf.mk H;clear H;go_enter Try.func39,Try.ntmps39;go_wp2
  go_loopg [1,5] k (fun kq v1 v5 w'=>∃(x1_1:Int) (x5_1:Int),v1=.int .i64 x1_1∧v5=.int .i64 x5_1∧qaf (laws_szRecS.l0 kq l0 x1_1 x5_1=some r)∧qaf (kq≤k)∧qaf (Below w.heap.size w w'))
  case atStart=>exact⟨(wrap64 (a1 - (l0.length:Int))),(0),(za38),(za38),H',⟨Nat.le_refl _⟩,⟨za2 HB⟩⟩
  case round=>
   clear H'
   try clear p2
   try clear c3
   try clear c3b0
   obtain⟨x1_1,x5_1,rfl,rfl,HA,HK1,HB⟩:=hrel
   cases gk with
   |zero=>exact absurd HA.out (by simp[laws_szRecS.l0])
   |succ k1=>
    have H:=HA.out;clear HA;simp only[laws_szRecS.l0] at H;by_cases c4:x5_1<(l0.length:Int)
    ·rw[if_pos c4] at H;have c4b0:decide (x5_1<(l0.length:Int))=true:=decide_eq_true c4;clear c4;by_cases c5:0≤x5_1
     ·rw[if_pos c5] at H;have c5b0:decide (0≤x5_1)=true:=decide_eq_true c5;clear c5;replace H:=Option.bind_eq_some_iff.mp H;obtain⟨t1098,A60,H⟩:=H;replace H:(if t1098<0 then(some (-1)) else(laws_szRecS.l0 k1 l0 t1098 (wrap64 (x5_1+1))))=some r:=H;have A6:=qaf.mk A60;clear A60;by_cases c7:t1098<0
      ·rw[if_pos c7] at H;have c7b0:decide (t1098<0)=true:=decide_eq_true c7;clear c7;obtain rfl:=Option.some.inj H;have p1097:0≤(x5_1:Int):=of_decide_eq_true (za10);have q1097:x5_1<(l0.length:Int):=of_decide_eq_true (za10);obtain⟨ad1097,A1097_2,c1097_2,e1097,hx1097_0,hx1097_1,hx1097_2,hl1097_2,hi1097_2⟩:=at_T54 HR0.out x5_1 p1097 q1097
       cases e1097
       have hxo1097_2:=qaf.mk hx1097_2;replace hx1097_0:=(HB.out.cell (World.block_lt_of_cell? w _ hx1097_0)).trans hx1097_0;replace hx1097_1:=(HB.out.cell (World.block_lt_of_cell? w _ hx1097_1)).trans hx1097_1;replace hx1097_2:=(HB.out.cell (World.block_lt_of_cell? w _ hx1097_2)).trans hx1097_2;have HR1097_2:=qaf.mk hi1097_2;have HC1097_2:=qaf.mk hl1097_2;clear hi1097_2 hl1097_2;replace p1097:=eq_true p1097;replace q1097:=eq_true q1097
       go_wp2_with(first|((with_reducible refine qag (f:=31) rfl ?_);refine zF (some 23) Try.func31 #[.agg #[.int .i64 ((rd_T54 l0 x5_1).f0),.int .i64 ((rd_T54 l0 x5_1).f1),.slice A1097_2 ((rd_T54 l0 x5_1).f2).length c1097_2],.int .i64 x1_1] ?_;(with_reducible refine(laws_szRec.calls ((rd_T54 l0 x5_1).f0) ((rd_T54 l0 x5_1).f1) _ _ ((rd_T54 l0 x5_1).f2) x1_1 t1098 _ ?side1 ?side2 A6.out).mono ?_);(case side1=>exact zR HR1097_2 HB);(case side2=>exact HC1097_2.out);rintro e w8 ⟨rfl,hb⟩;refine⟨_,rfl,?_⟩;replace HB:=qaf.mk (qad (za2 HB) hb);(try clear hb)))
       go_ret;exact⟨za12,za2 HB⟩
      ·rw[if_neg c7] at H;have c7b0:decide (t1098<0)=false:=decide_eq_false c7;clear c7;have H':=qaf.mk H;clear H;have p1097:0≤(x5_1:Int):=of_decide_eq_true (za10);have q1097:x5_1<(l0.length:Int):=of_decide_eq_true (za10);obtain⟨ad1097,A1097_2,c1097_2,e1097,hx1097_0,hx1097_1,hx1097_2,hl1097_2,hi1097_2⟩:=at_T54 HR0.out x5_1 p1097 q1097
       cases e1097
       have hxo1097_2:=qaf.mk hx1097_2;replace hx1097_0:=(HB.out.cell (World.block_lt_of_cell? w _ hx1097_0)).trans hx1097_0;replace hx1097_1:=(HB.out.cell (World.block_lt_of_cell? w _ hx1097_1)).trans hx1097_1;replace hx1097_2:=(HB.out.cell (World.block_lt_of_cell? w _ hx1097_2)).trans hx1097_2;have HR1097_2:=qaf.mk hi1097_2;have HC1097_2:=qaf.mk hl1097_2;clear hi1097_2 hl1097_2;replace p1097:=eq_true p1097;replace q1097:=eq_true q1097
       go_wp2_with(first|((with_reducible refine qag (f:=31) rfl ?_);refine zF (some 23) Try.func31 #[.agg #[.int .i64 ((rd_T54 l0 x5_1).f0),.int .i64 ((rd_T54 l0 x5_1).f1),.slice A1097_2 ((rd_T54 l0 x5_1).f2).length c1097_2],.int .i64 x1_1] ?_;(with_reducible refine(laws_szRec.calls ((rd_T54 l0 x5_1).f0) ((rd_T54 l0 x5_1).f1) _ _ ((rd_T54 l0 x5_1).f2) x1_1 t1098 _ ?side1 ?side2 A6.out).mono ?_);(case side1=>exact zR HR1097_2 HB);(case side2=>exact HC1097_2.out);rintro e w9 ⟨rfl,hb⟩;refine⟨_,rfl,?_⟩;replace HB:=qaf.mk (qad (za2 HB) hb);(try clear hb)))
       go_roundg k1
       case measure=>have:=HK1.out;omega
       case rel=>exact⟨(t1098),(wrap64 (x5_1+1)),(za38),(za38),H',⟨by have:=HK1.out;omega⟩,⟨za2 HB⟩⟩
     ·rw[if_neg c5] at H;exact absurd H (by simp)
    ·rw[if_neg c4] at H;have c4b0:decide (x5_1<(l0.length:Int))=false:=decide_eq_false c4;clear c4;obtain rfl:=Option.some.inj H;go_wp2;go_ret;exact⟨za12,za2 HB⟩
def laws_toRecS.l0:Nat→List (S54)→List (S32)→Int→Option ((List (S32)))
 |0,_,_,_=>none
 |k+1,x0,x3,x4=>if x4<(x0.length:Int) then(if 0≤x4 then((laws_toRec.f k ((rd_T54 x0 x4).f0) ((rd_T54 x0 x4).f1) ((rd_T54 x0 x4).f2)).bind fun bt1103=>(if x4<(x3.length:Int) then(laws_toRecS.l0 k x0 (x3.set (x4:Int).toNat (⟨bt1103.1,bt1103.2.1,bt1103.2.2⟩:S32)) (wrap64 (x4+1))) else(none))) else(none)) else(some x3)
def laws_toRecS.f (k:Nat) (l0:List (S54)):Option ((List (S32))):=if 0≤(l0.length:Int) then(if((l0.length:Int):Int).toNat≤7036874417766 then(laws_toRecS.l0 k l0 (List.replicate ((l0.length:Int):Int).toNat z32) 0) else(none)) else(none)
theorem laws_toRecS.mono_l:∀k,(∀y0 y1 y2,LeO (laws_toRecS.l0 k y0 y1 y2) (laws_toRecS.l0 (k+1) y0 y1 y2))
 |0=>fun _ _ _ r h=>by simp[laws_toRecS.l0] at h
 |k+1=>by
  have ih0:=laws_toRecS.mono_l k
  ·intro y0 y1 y2;unfold laws_toRecS.l0
   repeat' first|(with_reducible exact ih0 _ _ _)|(with_reducible exact laws_toRec.mono _ _ _ _)|(with_reducible exact LeO.refl _)|(with_reducible exact LeO.none _)|(with_reducible refine LeO.ite ?_ ?_)|(with_reducible refine LeO.bind ?_ (fun _=>?_))|exact ih0 _ _ _|exact laws_toRec.mono _ _ _ _|exact LeO.none _|refine LeO.ite ?_ ?_|refine LeO.bind ?_ (fun _=>?_)
theorem laws_toRecS.mono:∀a0 k,LeO (laws_toRecS.f k a0) (laws_toRecS.f (k+1) a0):=by
 intro a0 k;have ih0:=laws_toRecS.mono_l k;unfold laws_toRecS.f
 repeat' first|(with_reducible exact ih0 _ _ _)|(with_reducible exact laws_toRec.mono _ _ _ _)|(with_reducible exact LeO.refl _)|(with_reducible exact LeO.none _)|(with_reducible refine LeO.ite ?_ ?_)|(with_reducible refine LeO.bind ?_ (fun _=>?_))|exact ih0 _ _ _|exact laws_toRec.mono _ _ _ _|exact LeO.none _|refine LeO.ite ?_ ?_|refine LeO.bind ?_ (fun _=>?_)
set_option maxHeartbeats 8000000 in
set_option maxRecDepth 100000 in
theorem laws_toRecS.calls (k:Nat) (A0:Option Addr) (c0:Nat) (l0:List (S54)) (r:List (S32)) (w:World) (hr0:Kd.C k54 w A0 l0.length l0) (hc0:l0.length≤c0) (h:laws_toRecS.f k l0=some r) :
  Calls Try.prog 40 #[.slice A0 l0.length c0] w fun e w'=>∃v0_:Value,e=.returned (v0_)∧Kd.S k32 32 w' w.heap.size (fun _=>True) v0_ r∧Below w.heap.size w w':=by
 have hu54:=Try.underlying54;have hu32:=Try.underlying32;have HR0:=qaf.mk hr0;have HC0:=qaf.mk hc0;clear hr0 hc0;have HB:=qaf.mk (Below.refl w.heap.size w);have H:(if 0≤(l0.length:Int) then(if((l0.length:Int):Int).toNat≤7036874417766 then(laws_toRecS.l0 k l0 (List.replicate ((l0.length:Int):Int).toNat z32) 0) else(none)) else(none))=some r:=h;clear h;by_cases c2:0≤(l0.length:Int)
 ·rw[if_pos c2] at H;have c2b0:=eq_true c2;have c2b1:decide (0≤(l0.length:Int))=true:=decide_eq_true c2;clear c2;by_cases c3:((l0.length:Int):Int).toNat≤7036874417766
  ·rw[if_pos c3] at H;have c3b0:=eq_true c3;have c3b1:decide (((l0.length:Int):Int).toNat≤7036874417766)=true:=decide_eq_true c3;clear c3;obtain⟨y1099,hy1099⟩:∃y_:List (S32),y_=(List.replicate ((l0.length:Int):Int).toNat z32):=⟨_,rfl⟩
   replace H:(laws_toRecS.l0 k l0 y1099 0)=some r:=by first|(rw[hy1099];with_reducible exact H)|(have H2_:=(Option.bind_some _ _).symm.trans H;rw[hy1099];with_reducible exact H2_)|(have H2_:=(Option.bind_some _ _).symm.trans H;with_reducible exact H2_)|with_reducible exact H|(rw[hy1099];exact H)|exact H
   have Ny1099:=qaf.mk hy1099;clear hy1099;have H':=qaf.mk H;clear H;go_enter Try.func40,Try.ntmps40
   go_wp2_with(first|((with_reducible refine qam (N:=7) rfl ?_);refine Kd.S_make k32 _ 32 rfl (N:=7) rfl 23 _ _ rfl (l0.length:Int) rfl rfl Try.underlying23 (.agg #[(.int .i64 0),(.int .i64 0),(.slice none 0 0)]) 40 info32 rfl (by decide) (by omega) z32 (ok:=fun _=>True) (okp:=fun _=>True) (k32_mkM _ _ _ z32 (Kd.R_nil _ _ _ _ _)) (fun _ hk=>hk) trivial (of_decide_eq_true (za10)) (Nat.le_trans (Nat.mul_le_mul_right _ (of_decide_eq_true (za10):(l0.length:Int).toNat≤7036874417766)) (by omega)) (Below.refl _ _) (Nat.le_refl _) ?_;intro v1100 w4 ho5 hb hg_ hnew_;clear hg_ hnew_;(first|rw[←Ny1099.out] at ho5|(simp only[Int.reduceToNat] at ho5;rw[←Ny1099.out] at ho5));have HO1101:=qaf.mk (Kd.S_lower ho5 (qan (za2 HB)));replace HB:=qaf.mk (qad (za2 HB) hb);clear hb ho5))
   go_loopg [4] k (fun kq v4 w'=>∃(x3_1:List (S32)) (x4_1:Int),v4=.int .i64 x4_1∧qaf (laws_toRecS.l0 kq l0 x3_1 x4_1=some r)∧qaf (kq≤k)∧qaf (Kd.S k32 32 w' w.heap.size (fun _=>True) v1100 x3_1)∧qaf (Below w.heap.size w w'))
   case atStart=>exact⟨(y1099),(0),(za38),H',⟨Nat.le_refl _⟩,⟨za24 HO1101⟩,⟨za2 HB⟩⟩
   case round=>
    clear H'
    try clear c2
    try clear c2b0
    try clear c2b1
    try clear p2
    try clear c3
    try clear c3b0
    try clear c3b1
    try clear c4
    obtain⟨x3_1,x4_1,rfl,HA,HK1,HO_3,HB⟩:=hrel
    cases gk with
    |zero=>exact absurd HA.out (by simp[laws_toRecS.l0])
    |succ k1=>
     have H:=HA.out;clear HA;simp only[laws_toRecS.l0] at H;by_cases c6:x4_1<(l0.length:Int)
     ·rw[if_pos c6] at H;have c6b0:decide (x4_1<(l0.length:Int))=true:=decide_eq_true c6;clear c6;by_cases c7:0≤x4_1
      ·rw[if_pos c7] at H;have c7b0:decide (0≤x4_1)=true:=decide_eq_true c7;clear c7;replace H:=Option.bind_eq_some_iff.mp H;obtain⟨⟨t1103,t1104,t1105⟩,A80,H⟩:=H;replace H:(if x4_1<(x3_1.length:Int) then(laws_toRecS.l0 k1 l0 (x3_1.set (x4_1:Int).toNat (⟨t1103,t1104,t1105⟩:S32)) (wrap64 (x4_1+1))) else(none))=some r:=H;have A8:=qaf.mk A80;clear A80;by_cases c9:x4_1<(x3_1.length:Int)
       ·rw[if_pos c9] at H;have c9b0:decide (x4_1<(x3_1.length:Int))=true:=decide_eq_true c9;clear c9;obtain⟨y1108,hy1108⟩:∃y_:List (S32),y_=(x3_1.set (x4_1:Int).toNat (⟨t1103,t1104,t1105⟩:S32)):=⟨_,rfl⟩
        replace H:(laws_toRecS.l0 k1 l0 y1108 (wrap64 (x4_1+1)))=some r:=by first|(rw[hy1108];with_reducible exact H)|(have H2_:=(Option.bind_some _ _).symm.trans H;rw[hy1108];with_reducible exact H2_)|(have H2_:=(Option.bind_some _ _).symm.trans H;with_reducible exact H2_)|with_reducible exact H|(rw[hy1108];exact H)|exact H
        have Ny1108:=qaf.mk hy1108;clear hy1108;have H':=qaf.mk H;clear H;have p1102:0≤(x4_1:Int):=of_decide_eq_true (za10);have q1102:x4_1<(l0.length:Int):=of_decide_eq_true (za10);obtain⟨ad1102,A1102_2,c1102_2,e1102,hx1102_0,hx1102_1,hx1102_2,hl1102_2,hi1102_2⟩:=at_T54 HR0.out x4_1 p1102 q1102
        cases e1102
        have hxo1102_2:=qaf.mk hx1102_2;replace hx1102_0:=(HB.out.cell (World.block_lt_of_cell? w _ hx1102_0)).trans hx1102_0;replace hx1102_1:=(HB.out.cell (World.block_lt_of_cell? w _ hx1102_1)).trans hx1102_1;replace hx1102_2:=(HB.out.cell (World.block_lt_of_cell? w _ hx1102_2)).trans hx1102_2;have HR1102_2:=qaf.mk hi1102_2;have HC1102_2:=qaf.mk hl1102_2;clear hi1102_2 hl1102_2;replace p1102:=eq_true p1102;replace q1102:=eq_true q1102
        go_wp2_with(first|((with_reducible refine qag (f:=33) rfl ?_);refine zF (some 20) Try.func33 #[.agg #[.int .i64 ((rd_T54 l0 x4_1).f0),.int .i64 ((rd_T54 l0 x4_1).f1),.slice A1102_2 ((rd_T54 l0 x4_1).f2).length c1102_2]] ?_;(with_reducible refine(laws_toRec.calls k1 ((rd_T54 l0 x4_1).f0) ((rd_T54 l0 x4_1).f1) _ _ ((rd_T54 l0 x4_1).f2) t1103 t1104 t1105 _ ?side1 ?side2 A8.out).mono ?_);(case side1=>exact zR HR1102_2 HB);(case side2=>exact HC1102_2.out);rintro e w11 ⟨v1106,rfl,ho0,hb⟩;refine⟨_,rfl,?_⟩;have hst_v1106:∀(W_:World) (a_:Addr) (m_:Mode),(store a_ v1106 m_).run Try.prog W_=stored Try.prog W_ a_ v1106 m_:=fun W_ a_ m_=>run_store _ _ _ _ _ (Kd.R_val ho0).2;replace HO_3:=qaf.mk (Kd.S_elder' (za24 HO_3) (Kd.R_base ho0) hb);have HO1107:=qaf.mk (Kd.R_lower ho0 (qan (za2 HB)));replace HB:=qaf.mk (qad (za2 HB) hb);(try clear hb);(try clear ho0);have p10:0≤(x4_1:Int):=of_decide_eq_true (za10);have q10:(x4_1:Int)<((x3_1.length:Int):Int):=of_decide_eq_true (za10);obtain⟨go10,co10,eo10,gb10,gl10,cl10,HG10⟩:=Kd.S_form HO_3.out (by omega);(first|cases eo10|(injection eo10 with ea_ en_ ec_;(first|subst ea_|(injection ea_ with ea_;subst ea_));subst ec_;clear en_));have GB10:=qaf.mk gb10;have GG10:=qaf.mk HG10;clear gb10 gl10 HG10;obtain⟨_,ce10,hcl10,hM10,hcc10,hfr10,_,_⟩:=Kd.S_elem HO_3.out z32 (x4_1:Int) p10 q10;obtain⟨ve10_2,rfl,ge10_2⟩:=k32_openM hM10;have hx10_0:w11.cell? ⟨go10,(x4_1:Int).toNat*3,none⟩=some (.int .i64 ((rd_T32 x3_1 x4_1).f0)):=hcc10 0 _ rfl;have hx10_1:w11.cell? ⟨go10,(x4_1:Int).toNat*3+1,none⟩=some (.int .i64 ((rd_T32 x3_1 x4_1).f1)):=hcc10 1 _ rfl;have hx10_2:w11.cell? ⟨go10,(x4_1:Int).toNat*3+2,none⟩=some (ve10_2):=hcc10 2 _ rfl;have hf10_0:w11.frozen? ⟨go10,(x4_1:Int).toNat*3,none⟩=false:=hfr10 0;have hf10_1:w11.frozen? ⟨go10,(x4_1:Int).toNat*3+1,none⟩=false:=hfr10 1;have hf10_2:w11.frozen? ⟨go10,(x4_1:Int).toNat*3+2,none⟩=false:=hfr10 2;clear hcl10 hcc10 hfr10 hM10;replace p10:=eq_true p10;replace q10:=eq_true q10;have n_:=qaf.mk (Kd.S_mono (ok':=(fun k_=>some k_≠(v1106:Value).ownBlock)) HO_3.out (fun k_ hk=>hk.2));clear HO_3;have HO_3:=n_;clear n_;have HX12:=qaf.mk (show Kd.S k32 32 w11 w.heap.size (fun k_=>((fun _=>True)) k_∧¬((fun k_=>some k_=(v1106:Value).ownBlock)) k_) (.slice (some ⟨go10,0,none⟩) x3_1.length co10) x3_1 from(by(with_reducible repeat(first|apply Kd.S_alloc|apply Kd.S_drewN|apply Kd.S_drew));exact Kd.S_mono HO_3.out (fun k_ hk=>⟨trivial,fun e_=>hk e_⟩)));obtain⟨oki12,ce12,hcl12,hM12,hcc12,hfr12,hoki12,hH12⟩:=Kd.S_elem HX12.out z32 (x4_1:Int) (of_decide_eq_true (za10)) (by have h_:(x4_1:Int)<((x3_1.length:Int):Int):=of_decide_eq_true (za10);first|exact h_|(have e_:=(Kd.S_reads' HO_3.out).1;omega)|simpa using h_);obtain⟨ve12_2,rfl,ge12_2⟩:=k32_openM hM12;have HP12:=Kd.S_seg hH12 (of_decide_eq_true (za10)) (by have h_:(x4_1:Int)<((x3_1.length:Int):Int):=of_decide_eq_true (za10);first|exact h_|(have e_:=(Kd.S_reads' HO_3.out).1;omega)|simpa using h_) (seg:=[.int .i64 t1103,.int .i64 t1104,v1106]) (j:=0) (show 3≤3 from by decide) (x':=(⟨t1103,t1104,t1105⟩:S32)) (k32_mkM _ _ _ (⟨t1103,t1104,t1105⟩:S32) (Kd.R_mono (Kd.R_tight rfl (Kd.R_mono (ok':=fun k_=>((fun _=>True)) k_∧k_≠go10) (Kd.R_apart' (HO1107.out) (Kd.S_typed HO_3.out) (by decide)) (fun k_ hk=>⟨trivial,fun e_=>(hk.2) (by rw[e_];rfl)⟩))) (fun _ h_=>Or.inr (h_)))) (fun _ hk=>hk) (fun k_ hk_=>((Kd.R_mono (ok':=fun k_=>((fun _=>True)) k_∧k_≠go10) (Kd.R_apart' (HO1107.out) (Kd.S_typed HO_3.out) (by decide)) (fun k_ hk=>⟨trivial,fun e_=>(hk.2) (by rw[e_];rfl)⟩))).1 k_ hk_.symm);have hx12_0:=hcc12 0 _ rfl;(try simp only[show(k32).sz=3 from rfl,Nat.mul_one,Nat.add_zero] at hx12_0);have hf12_0:=hfr12 0;(try simp only[show(k32).sz=3 from rfl,Nat.mul_one,Nat.add_zero] at hf12_0);have hx12_1:=hcc12 1 _ rfl;(try simp only[show(k32).sz=3 from rfl,Nat.mul_one,Nat.add_zero] at hx12_1);have hf12_1:=hfr12 1;(try simp only[show(k32).sz=3 from rfl,Nat.mul_one,Nat.add_zero] at hf12_1);have hx12_2:=hcc12 2 _ rfl;(try simp only[show(k32).sz=3 from rfl,Nat.mul_one,Nat.add_zero] at hx12_2);have hf12_2:=hfr12 2;(try simp only[show(k32).sz=3 from rfl,Nat.mul_one,Nat.add_zero] at hf12_2);clear hcl12 hcc12 hfr12 hM12 hoki12 hH12)|((with_reducible refine gate_store (t:=32) (p:=21) rfl ?_);refine qbe (t:=32) (p:=21) (v:=?vo_w13) (w1:=(((w11.setCell ⟨go10,(x4_1:Int).toNat*3,none⟩ (.int .i64 t1103)).setCell ⟨go10,(x4_1:Int).toNat*3+1,none⟩ (.int .i64 t1104)).setCell ⟨go10,(x4_1:Int).toNat*3+2,none⟩ (v1106))) ?hg ?ho ?hn ?hr ?_;(case ho=>rfl);(case hg=>rfl);(case hn=>rfl);(case hr=>first|(go_simp;done)|(go_simp;rfl));intro w13 hw;have hg:w11.grownBy w13 (some go10):=(by rw[hw];exact HP12.2);have hp_:Kd.S k32 32 w13 w.heap.size (fun _=>True) (.slice (some ⟨go10,0,none⟩) x3_1.length co10) y1108:=(by rw[hw,Ny1108.out];exact HP12.1);clear HP12;replace HO_3:=qaf.mk hp_;replace HB:=qaf.mk ((by rw[hw];exact qat (qat (qat (HB.out) GB10.out) GB10.out) GB10.out:Below w.heap.size w w13));clear HO1107;clear hg hw hp_))
        go_roundg k1
        case measure=>have:=HK1.out;omega
        case rel=>exact⟨(y1108),(wrap64 (x4_1+1)),(za38),H',⟨by have:=HK1.out;omega⟩,⟨za24 HO_3⟩,⟨za2 HB⟩⟩
       ·rw[if_neg c9] at H;exact absurd H (by simp)
      ·rw[if_neg c7] at H;exact absurd H (by simp)
     ·rw[if_neg c6] at H;have c6b0:decide (x4_1<(l0.length:Int))=false:=decide_eq_false c6;clear c6;obtain rfl:=Option.some.inj H;go_wp2;go_ret;exact⟨_,za12,za24 HO_3,za2 HB⟩
  ·rw[if_neg c3] at H;exact absurd H (by simp)
 ·rw[if_neg c2] at H;exact absurd H (by simp)
def laws_eqRecS.l0:Nat→List (S32)→List (S32)→Int→Option (Bool)
 |0,_,_,_=>none
 |k+1,x0,x1,x5=>if x5<(x0.length:Int) then(if 0≤x5 then(if x5<(x1.length:Int) then((laws_eqRec.f k ((rd_T32 x0 x5).f0) ((rd_T32 x0 x5).f1) ((rd_T32 x0 x5).f2) ((rd_T32 x1 x5).f0) ((rd_T32 x1 x5).f1) ((rd_T32 x1 x5).f2)).bind fun t1111=>(if t1111=true then(laws_eqRecS.l0 k x0 x1 (wrap64 (x5+1))) else(some false))) else(none)) else(none)) else(some true)
def laws_eqRecS.f (k:Nat) (l0:List (S32)) (l1:List (S32)):Option (Bool):=if(l0.length:Int)=(l1.length:Int) then(laws_eqRecS.l0 k l0 l1 0) else(some false)
theorem laws_eqRecS.mono_l:∀k,(∀y0 y1 y2,LeO (laws_eqRecS.l0 k y0 y1 y2) (laws_eqRecS.l0 (k+1) y0 y1 y2))
 |0=>fun _ _ _ r h=>by simp[laws_eqRecS.l0] at h
 |k+1=>by
  have ih0:=laws_eqRecS.mono_l k
  ·intro y0 y1 y2;unfold laws_eqRecS.l0
   repeat' first|(with_reducible exact ih0 _ _ _)|(with_reducible exact laws_eqRec.mono _ _ _ _ _ _ _)|(with_reducible exact LeO.refl _)|(with_reducible exact LeO.none _)|(with_reducible refine LeO.ite ?_ ?_)|(with_reducible refine LeO.bind ?_ (fun _=>?_))|exact ih0 _ _ _|exact laws_eqRec.mono _ _ _ _ _ _ _|exact LeO.none _|refine LeO.ite ?_ ?_|refine LeO.bind ?_ (fun _=>?_)
theorem laws_eqRecS.mono:∀a0 a1 k,LeO (laws_eqRecS.f k a0 a1) (laws_eqRecS.f (k+1) a0 a1):=by
 intro a0 a1 k;have ih0:=laws_eqRecS.mono_l k;unfold laws_eqRecS.f
 repeat' first|(with_reducible exact ih0 _ _ _)|(with_reducible exact laws_eqRec.mono _ _ _ _ _ _ _)|(with_reducible exact LeO.refl _)|(with_reducible exact LeO.none _)|(with_reducible refine LeO.ite ?_ ?_)|(with_reducible refine LeO.bind ?_ (fun _=>?_))|exact ih0 _ _ _|exact laws_eqRec.mono _ _ _ _ _ _ _|exact LeO.none _|refine LeO.ite ?_ ?_|refine LeO.bind ?_ (fun _=>?_)
def laws_eqRecS.T6:Bool × List (List Nat × List Nat):=(true,[([],[]),([],[]),([0,1],[0,1]),([2],[2]),([],[]),([],[]),([4,5],[4,5]),([6],[6]),([3,7],[3,7]),([8],[8])])
def laws_eqRecS.B6:List Nat:=[0,0,3,7,0,0,48,112,255,511]
theorem laws_eqRecS.tab6:rtab .any (opsOf Try.f41 6)=laws_eqRecS.T6:=by kernel_rfl
theorem laws_eqRecS.bits6:waitsOk laws_eqRecS.T6.2 laws_eqRecS.B6=true:=by kernel_rfl
set_option maxHeartbeats 8000000 in
set_option maxRecDepth 100000 in
theorem laws_eqRecS.calls (k:Nat) (A0:Option Addr) (c0:Nat) (l0:List (S32)) (A1:Option Addr) (c1:Nat) (l1:List (S32)) (r:Bool) (w:World) (hr0:Kd.C k32 w A0 l0.length l0) (hc0:l0.length≤c0) (hr1:Kd.C k32 w A1 l1.length l1) (hc1:l1.length≤c1) (h:laws_eqRecS.f k l0 l1=some r) :
  Calls Try.prog 41 #[.slice A0 l0.length c0,.slice A1 l1.length c1] w fun e w'=>e=.returned (.bool r)∧Below w.heap.size w w':=by
 have hu32:=Try.underlying32;have HR0:=qaf.mk hr0;have HC0:=qaf.mk hc0;clear hr0 hc0;have HR1:=qaf.mk hr1;have HC1:=qaf.mk hc1;clear hr1 hc1;have HB:=qaf.mk (Below.refl w.heap.size w);have H:(if(l0.length:Int)=(l1.length:Int) then(laws_eqRecS.l0 k l0 l1 0) else(some false))=some r:=h;clear h;by_cases c3:(l0.length:Int)=(l1.length:Int)
 ·rw[if_pos c3] at H;have c3b0:((l0.length:Int) == (l1.length:Int))=true:=beq_iff_eq.mpr c3;have c3b1:((l0.length:Int) != (l1.length:Int))=false:=bne_eq_false_iff_eq.mpr c3
  have c3b2:(l0.length == l1.length)=true:=by first|simpa using c3|(simp at c3 ⊢;omega)
  clear c3;have H':=qaf.mk H;clear H;go_enter Try.func41,Try.ntmps41;go_wp2
  go_loopg [5] k (fun kq v5 w'=>∃(x5_1:Int),v5=.int .i64 x5_1∧qaf (laws_eqRecS.l0 kq l0 l1 x5_1=some r)∧qaf (kq≤k)∧qaf (Below w.heap.size w w'))
  case atStart=>exact⟨(0),(za38),H',⟨Nat.le_refl _⟩,⟨za2 HB⟩⟩
  case round=>
   clear H'
   try clear c1
   try clear p2
   try clear c3
   try clear c3b0
   try clear c3b1
   try clear c3b2
   obtain⟨x5_1,rfl,HA,HK1,HB⟩:=hrel
   cases gk with
   |zero=>exact absurd HA.out (by simp[laws_eqRecS.l0])
   |succ k1=>
    have H:=HA.out;clear HA;simp only[laws_eqRecS.l0] at H;by_cases c4:x5_1<(l0.length:Int)
    ·rw[if_pos c4] at H;have c4b0:decide (x5_1<(l0.length:Int))=true:=decide_eq_true c4;clear c4;by_cases c5:0≤x5_1
     ·rw[if_pos c5] at H;have c5b0:decide (0≤x5_1)=true:=decide_eq_true c5;clear c5;by_cases c6:x5_1<(l1.length:Int)
      ·rw[if_pos c6] at H;have c6b0:decide (x5_1<(l1.length:Int))=true:=decide_eq_true c6;clear c6;replace H:=Option.bind_eq_some_iff.mp H;obtain⟨t1111,A70,H⟩:=H;replace H:(if t1111=true then(laws_eqRecS.l0 k1 l0 l1 (wrap64 (x5_1+1))) else(some false))=some r:=H;have A7:=qaf.mk A70;clear A70;by_cases c8:t1111=true
       ·subst c8
        have H1:(laws_eqRecS.l0 k1 l0 l1 (wrap64 (x5_1+1)))=some r:=by rw[if_pos rfl] at H;exact H
        clear H;have H:=H1;clear H1;have H':=qaf.mk H;clear H
        try go_wp2
        replace HB:=qaf.mk (qas HB.out);have p1109:0≤(x5_1:Int):=of_decide_eq_true (za10);have q1109:x5_1<(l0.length:Int):=of_decide_eq_true (za10);obtain⟨ad1109,A1109_2,c1109_2,e1109,hx1109_0,hx1109_1,hx1109_2,hl1109_2,hi1109_2⟩:=at_T32 HR0.out x5_1 p1109 q1109;have hw1109_2:=hx1109_2;have hw1109_1:=hx1109_1;have hw1109_0:=hx1109_0
        cases e1109
        have hxo1109_2:=qaf.mk hx1109_2;replace hx1109_0:=(HB.out.cell (World.block_lt_of_cell? w _ hx1109_0)).trans hx1109_0;replace hx1109_1:=(HB.out.cell (World.block_lt_of_cell? w _ hx1109_1)).trans hx1109_1;replace hx1109_2:=(HB.out.cell (World.block_lt_of_cell? w _ hx1109_2)).trans hx1109_2;have HR1109_2:=qaf.mk hi1109_2;have HC1109_2:=qaf.mk hl1109_2;clear hi1109_2 hl1109_2;replace p1109:=eq_true p1109;replace q1109:=eq_true q1109;have p1110:0≤(x5_1:Int):=of_decide_eq_true (za10);have q1110:x5_1<(l1.length:Int):=of_decide_eq_true (za10);obtain⟨ad1110,A1110_2,c1110_2,e1110,hx1110_0,hx1110_1,hx1110_2,hl1110_2,hi1110_2⟩:=at_T32 HR1.out x5_1 p1110 q1110;have hw1110_2:=hx1110_2;have hw1110_1:=hx1110_1;have hw1110_0:=hx1110_0
        cases e1110
        have hxo1110_2:=qaf.mk hx1110_2;replace hx1110_0:=(HB.out.cell (World.block_lt_of_cell? w _ hx1110_0)).trans hx1110_0;replace hx1110_1:=(HB.out.cell (World.block_lt_of_cell? w _ hx1110_1)).trans hx1110_1;replace hx1110_2:=(HB.out.cell (World.block_lt_of_cell? w _ hx1110_2)).trans hx1110_2;have HR1110_2:=qaf.mk hi1110_2;have HC1110_2:=qaf.mk hl1110_2;clear hi1110_2 hl1110_2;replace p1110:=eq_true p1110;replace q1110:=eq_true q1110
        refine start_ (n:=10) (S:=fun w'=>w'.cell? (ad1109.add ((x5_1).toNat*3))=some (.int .i64 ((rd_T32 l0 x5_1).f0))∧w'.cell? ⟨(ad1109.add ((x5_1).toNat*3)).block,(ad1109.add ((x5_1).toNat*3)).off+1,none⟩=some (.int .i64 ((rd_T32 l0 x5_1).f1))∧w'.cell? ⟨(ad1109.add ((x5_1).toNat*3)).block,(ad1109.add ((x5_1).toNat*3)).off+2,none⟩=some (.slice A1109_2 ((rd_T32 l0 x5_1).f2).length c1109_2)∧w'.cell? (ad1110.add ((x5_1).toNat*3))=some (.int .i64 ((rd_T32 l1 x5_1).f0))∧w'.cell? ⟨(ad1110.add ((x5_1).toNat*3)).block,(ad1110.add ((x5_1).toNat*3)).off+1,none⟩=some (.int .i64 ((rd_T32 l1 x5_1).f1))∧w'.cell? ⟨(ad1110.add ((x5_1).toNat*3)).block,(ad1110.add ((x5_1).toNat*3)).off+2,none⟩=some (.slice A1110_2 ((rd_T32 l1 x5_1).f2).length c1110_2)) (ds:=[]) #[false,false,false,false,false,false,false,false,false,false] (by kernel_rfl) rfl rfl ⟨((HB.out.cell (World.block_lt_of_cell? w _ hw1109_0)).trans hw1109_0),((HB.out.cell (World.block_lt_of_cell? w _ hw1109_1)).trans hw1109_1),((HB.out.cell (World.block_lt_of_cell? w _ hw1109_2)).trans hw1109_2),((HB.out.cell (World.block_lt_of_cell? w _ hw1110_0)).trans hw1110_0),((HB.out.cell (World.block_lt_of_cell? w _ hw1110_1)).trans hw1110_1),((HB.out.cell (World.block_lt_of_cell? w _ hw1110_2)).trans hw1110_2)⟩ (fun hHeld=>?_);refine qbc laws_eqRecS.tab6 laws_eqRecS.bits6 (fun HT_ HW_=>?_)
        generalize wr.drew=w9 at HB HR1109_2 HR1110_2 hx1109_0 hx1109_1 hx1109_2 hx1110_0 hx1110_1 hx1110_2 hHeld ⊢;refine qao (i:=0) (N:=some 17) (v:=?_) (a':=?_) #[true,false,false,false,false,false,false,false,false,false] rfl rfl (qak HT_.out (by kernel_rfl)) (fun _ _ _ h=>h) (Or.inl ⟨by rfl,?_⟩) ?_ ?_;rotate_left
        ·intro w';go_simp
         with_reducible rfl
        rotate_left
        ·simp only[Act.put,List.setIfInBounds_toArray,List.set_cons_zero,List.set_cons_succ,qai,qaj];rfl
        refine qao (i:=1) (N:=some 18) (v:=?_) (a':=?_) #[true,true,false,false,false,false,false,false,false,false] rfl rfl (qak HT_.out (by kernel_rfl)) (fun _ _ _ h=>h) (Or.inl ⟨by rfl,?_⟩) ?_ ?_;rotate_left
        ·intro w';go_simp
         with_reducible rfl
        rotate_left
        ·simp only[Act.put,List.setIfInBounds_toArray,List.set_cons_zero,List.set_cons_succ,qai,qaj];rfl
        refine qao (i:=2) (N:=some 19) (v:=?_) (a':=?_) #[true,true,true,false,false,false,false,false,false,false] rfl rfl (qak HT_.out (by kernel_rfl)) (fun _ _ _ h=>h) (Or.inl ⟨by rfl,?_⟩) ?_ ?_;rotate_left
        ·intro w';go_simp
         with_reducible rfl
        rotate_left
        ·simp only[Act.put,List.setIfInBounds_toArray,List.set_cons_zero,List.set_cons_succ,qai,qaj];rfl
        refine qao (i:=4) (N:=some 21) (v:=?_) (a':=?_) #[true,true,true,false,true,false,false,false,false,false] rfl rfl (qak HT_.out (by kernel_rfl)) (fun _ _ _ h=>h) (Or.inl ⟨by rfl,?_⟩) ?_ ?_;rotate_left
        ·intro w';go_simp
         with_reducible rfl
        rotate_left
        ·simp only[Act.put,List.setIfInBounds_toArray,List.set_cons_zero,List.set_cons_succ,qai,qaj];rfl
        refine qao (i:=5) (N:=some 22) (v:=?_) (a':=?_) #[true,true,true,false,true,true,false,false,false,false] rfl rfl (qak HT_.out (by kernel_rfl)) (fun _ _ _ h=>h) (Or.inl ⟨by rfl,?_⟩) ?_ ?_;rotate_left
        ·intro w';go_simp
         with_reducible rfl
        rotate_left
        ·simp only[Act.put,List.setIfInBounds_toArray,List.set_cons_zero,List.set_cons_succ,qai,qaj];rfl
        refine qao (i:=6) (N:=some 23) (v:=?_) (a':=?_) #[true,true,true,false,true,true,true,false,false,false] rfl rfl (qak HT_.out (by kernel_rfl)) (fun _ _ _ h=>h) (Or.inl ⟨by rfl,?_⟩) ?_ ?_;rotate_left
        ·intro w';go_simp
         with_reducible rfl
        rotate_left
        ·simp only[Act.put,List.setIfInBounds_toArray,List.set_cons_zero,List.set_cons_succ,qai,qaj];rfl
        refine take_ (i:=3) (N:=some 20) (v:=?_) (a':=?_) #[true,true,true,true,true,true,true,false,false,false] rfl rfl (qav HT_.out HW_.out (by kernel_rfl)) (fun _ _ _ h=>h) (Or.inl ⟨by rfl,?_⟩) hHeld ?_ ?_;rotate_left
        ·rintro w' ⟨s0,s1,s2,s3,s4,s5⟩;go_simp
         with_reducible rfl
        rotate_left
        ·simp only[Act.put,List.setIfInBounds_toArray,List.set_cons_zero,List.set_cons_succ,qai,qaj];rfl
        refine take_ (i:=7) (N:=some 24) (v:=?_) (a':=?_) #[true,true,true,true,true,true,true,true,false,false] rfl rfl (qav HT_.out HW_.out (by kernel_rfl)) (fun _ _ _ h=>h) (Or.inl ⟨by rfl,?_⟩) hHeld ?_ ?_;rotate_left
        ·rintro w' ⟨s0,s1,s2,s3,s4,s5⟩;go_simp
         with_reducible rfl
        rotate_left
        ·simp only[Act.put,List.setIfInBounds_toArray,List.set_cons_zero,List.set_cons_succ,qai,qaj];rfl
        refine one_ (i:=8) (N:=some 25) #[true,true,true,true,true,true,true,true,true,false] rfl rfl (one_of HT_.out (by kernel_rfl)) (by decide) (fun K hK=>?_);refine goes_ Try.func35 (by kernel_rfl) rfl #[.agg #[.int .i64 ((rd_T32 l0 x5_1).f0),.int .i64 ((rd_T32 l0 x5_1).f1),.slice A1109_2 ((rd_T32 l0 x5_1).f2).length c1109_2],.agg #[.int .i64 ((rd_T32 l1 x5_1).f0),.int .i64 ((rd_T32 l1 x5_1).f1),.slice A1110_2 ((rd_T32 l1 x5_1).f2).length c1110_2]] (by rfl) rfl rfl (by(try simp only[List.map_toArray,List.map_cons,List.map_nil]);first|done|rfl|(simp only[List.length_drop,List.length_take];rfl)) ?_
        with_reducible refine(laws_eqRec.calls k1 ((rd_T32 l0 x5_1).f0) ((rd_T32 l0 x5_1).f1) _ _ ((rd_T32 l0 x5_1).f2) ((rd_T32 l1 x5_1).f0) ((rd_T32 l1 x5_1).f1) _ _ ((rd_T32 l1 x5_1).f2) true _ ?side1 ?side2 ?side3 ?side4 A7.out).mono ?_
        (case side1=>exact zR HR1109_2 HB);(case side2=>exact HC1109_2.out);(case side3=>exact zR HR1110_2 HB);(case side4=>exact HC1110_2.out);rintro e w10 ⟨rfl,hb⟩;refine⟨_,rfl,?_⟩;replace HB:=qaf.mk (qad (za2 HB) hb);(try clear hb);(try clear hb2);(try clear hk);(try clear hi);refine hK.out _ _ ⟨((HB.out.cell (World.block_lt_of_cell? w _ hw1109_0)).trans hw1109_0),((HB.out.cell (World.block_lt_of_cell? w _ hw1109_1)).trans hw1109_1),((HB.out.cell (World.block_lt_of_cell? w _ hw1109_2)).trans hw1109_2),((HB.out.cell (World.block_lt_of_cell? w _ hw1110_0)).trans hw1110_0),((HB.out.cell (World.block_lt_of_cell? w _ hw1110_1)).trans hw1110_1),((HB.out.cell (World.block_lt_of_cell? w _ hw1110_2)).trans hw1110_2)⟩ (fun hHeld=>?_);clear hK K;refine qbb (a':=?_) ?_ ?_;rotate_left
        ·show Act.put _ (some 25) _=_;simp only[Act.put,List.setIfInBounds_toArray,List.set_cons_zero,List.set_cons_succ,qai,qaj];rfl
        refine qao (i:=9) (N:=some 26) (v:=?_) (a':=?_) #[true,true,true,true,true,true,true,true,true,true] rfl rfl (qak HT_.out (by kernel_rfl)) (fun _ _ _ h=>h) (Or.inl ⟨by rfl,?_⟩) ?_ ?_;rotate_left
        ·intro w';go_simp
         with_reducible rfl
        rotate_left
        ·simp only[Act.put,List.setIfInBounds_toArray,List.set_cons_zero,List.set_cons_succ,qai,qaj];rfl
        refine done_ (done_of HT_.out (by kernel_rfl)) ?_
        try go_wp2
        go_roundg k1
        case measure=>have:=HK1.out;omega
        case rel=>exact⟨(wrap64 (x5_1+1)),(za38),H',⟨by have:=HK1.out;omega⟩,⟨za2 HB⟩⟩
       ·replace c8:=Bool.eq_false_iff.mpr c8;subst c8
        have H1:(some false)=some r:=by rw[if_neg (show ¬(false=true) by decide)] at H;exact H
        clear H;have H:=H1;clear H1;obtain rfl:=Option.some.inj H
        try go_wp2
        replace HB:=qaf.mk (qas HB.out);have p1109:0≤(x5_1:Int):=of_decide_eq_true (za10);have q1109:x5_1<(l0.length:Int):=of_decide_eq_true (za10);obtain⟨ad1109,A1109_2,c1109_2,e1109,hx1109_0,hx1109_1,hx1109_2,hl1109_2,hi1109_2⟩:=at_T32 HR0.out x5_1 p1109 q1109;have hw1109_2:=hx1109_2;have hw1109_1:=hx1109_1;have hw1109_0:=hx1109_0
        cases e1109
        have hxo1109_2:=qaf.mk hx1109_2;replace hx1109_0:=(HB.out.cell (World.block_lt_of_cell? w _ hx1109_0)).trans hx1109_0;replace hx1109_1:=(HB.out.cell (World.block_lt_of_cell? w _ hx1109_1)).trans hx1109_1;replace hx1109_2:=(HB.out.cell (World.block_lt_of_cell? w _ hx1109_2)).trans hx1109_2;have HR1109_2:=qaf.mk hi1109_2;have HC1109_2:=qaf.mk hl1109_2;clear hi1109_2 hl1109_2;replace p1109:=eq_true p1109;replace q1109:=eq_true q1109;have p1110:0≤(x5_1:Int):=of_decide_eq_true (za10);have q1110:x5_1<(l1.length:Int):=of_decide_eq_true (za10);obtain⟨ad1110,A1110_2,c1110_2,e1110,hx1110_0,hx1110_1,hx1110_2,hl1110_2,hi1110_2⟩:=at_T32 HR1.out x5_1 p1110 q1110;have hw1110_2:=hx1110_2;have hw1110_1:=hx1110_1;have hw1110_0:=hx1110_0
        cases e1110
        have hxo1110_2:=qaf.mk hx1110_2;replace hx1110_0:=(HB.out.cell (World.block_lt_of_cell? w _ hx1110_0)).trans hx1110_0;replace hx1110_1:=(HB.out.cell (World.block_lt_of_cell? w _ hx1110_1)).trans hx1110_1;replace hx1110_2:=(HB.out.cell (World.block_lt_of_cell? w _ hx1110_2)).trans hx1110_2;have HR1110_2:=qaf.mk hi1110_2;have HC1110_2:=qaf.mk hl1110_2;clear hi1110_2 hl1110_2;replace p1110:=eq_true p1110;replace q1110:=eq_true q1110
        refine start_ (n:=10) (S:=fun w'=>w'.cell? (ad1109.add ((x5_1).toNat*3))=some (.int .i64 ((rd_T32 l0 x5_1).f0))∧w'.cell? ⟨(ad1109.add ((x5_1).toNat*3)).block,(ad1109.add ((x5_1).toNat*3)).off+1,none⟩=some (.int .i64 ((rd_T32 l0 x5_1).f1))∧w'.cell? ⟨(ad1109.add ((x5_1).toNat*3)).block,(ad1109.add ((x5_1).toNat*3)).off+2,none⟩=some (.slice A1109_2 ((rd_T32 l0 x5_1).f2).length c1109_2)∧w'.cell? (ad1110.add ((x5_1).toNat*3))=some (.int .i64 ((rd_T32 l1 x5_1).f0))∧w'.cell? ⟨(ad1110.add ((x5_1).toNat*3)).block,(ad1110.add ((x5_1).toNat*3)).off+1,none⟩=some (.int .i64 ((rd_T32 l1 x5_1).f1))∧w'.cell? ⟨(ad1110.add ((x5_1).toNat*3)).block,(ad1110.add ((x5_1).toNat*3)).off+2,none⟩=some (.slice A1110_2 ((rd_T32 l1 x5_1).f2).length c1110_2)) (ds:=[]) #[false,false,false,false,false,false,false,false,false,false] (by kernel_rfl) rfl rfl ⟨((HB.out.cell (World.block_lt_of_cell? w _ hw1109_0)).trans hw1109_0),((HB.out.cell (World.block_lt_of_cell? w _ hw1109_1)).trans hw1109_1),((HB.out.cell (World.block_lt_of_cell? w _ hw1109_2)).trans hw1109_2),((HB.out.cell (World.block_lt_of_cell? w _ hw1110_0)).trans hw1110_0),((HB.out.cell (World.block_lt_of_cell? w _ hw1110_1)).trans hw1110_1),((HB.out.cell (World.block_lt_of_cell? w _ hw1110_2)).trans hw1110_2)⟩ (fun hHeld=>?_);refine qbc laws_eqRecS.tab6 laws_eqRecS.bits6 (fun HT_ HW_=>?_)
        generalize wr.drew=w11 at HB HR1109_2 HR1110_2 hx1109_0 hx1109_1 hx1109_2 hx1110_0 hx1110_1 hx1110_2 hHeld ⊢;refine qao (i:=0) (N:=some 17) (v:=?_) (a':=?_) #[true,false,false,false,false,false,false,false,false,false] rfl rfl (qak HT_.out (by kernel_rfl)) (fun _ _ _ h=>h) (Or.inl ⟨by rfl,?_⟩) ?_ ?_;rotate_left
        ·intro w';go_simp
         with_reducible rfl
        rotate_left
        ·simp only[Act.put,List.setIfInBounds_toArray,List.set_cons_zero,List.set_cons_succ,qai,qaj];rfl
        refine qao (i:=1) (N:=some 18) (v:=?_) (a':=?_) #[true,true,false,false,false,false,false,false,false,false] rfl rfl (qak HT_.out (by kernel_rfl)) (fun _ _ _ h=>h) (Or.inl ⟨by rfl,?_⟩) ?_ ?_;rotate_left
        ·intro w';go_simp
         with_reducible rfl
        rotate_left
        ·simp only[Act.put,List.setIfInBounds_toArray,List.set_cons_zero,List.set_cons_succ,qai,qaj];rfl
        refine qao (i:=2) (N:=some 19) (v:=?_) (a':=?_) #[true,true,true,false,false,false,false,false,false,false] rfl rfl (qak HT_.out (by kernel_rfl)) (fun _ _ _ h=>h) (Or.inl ⟨by rfl,?_⟩) ?_ ?_;rotate_left
        ·intro w';go_simp
         with_reducible rfl
        rotate_left
        ·simp only[Act.put,List.setIfInBounds_toArray,List.set_cons_zero,List.set_cons_succ,qai,qaj];rfl
        refine qao (i:=4) (N:=some 21) (v:=?_) (a':=?_) #[true,true,true,false,true,false,false,false,false,false] rfl rfl (qak HT_.out (by kernel_rfl)) (fun _ _ _ h=>h) (Or.inl ⟨by rfl,?_⟩) ?_ ?_;rotate_left
        ·intro w';go_simp
         with_reducible rfl
        rotate_left
        ·simp only[Act.put,List.setIfInBounds_toArray,List.set_cons_zero,List.set_cons_succ,qai,qaj];rfl
        refine qao (i:=5) (N:=some 22) (v:=?_) (a':=?_) #[true,true,true,false,true,true,false,false,false,false] rfl rfl (qak HT_.out (by kernel_rfl)) (fun _ _ _ h=>h) (Or.inl ⟨by rfl,?_⟩) ?_ ?_;rotate_left
        ·intro w';go_simp
         with_reducible rfl
        rotate_left
        ·simp only[Act.put,List.setIfInBounds_toArray,List.set_cons_zero,List.set_cons_succ,qai,qaj];rfl
        refine qao (i:=6) (N:=some 23) (v:=?_) (a':=?_) #[true,true,true,false,true,true,true,false,false,false] rfl rfl (qak HT_.out (by kernel_rfl)) (fun _ _ _ h=>h) (Or.inl ⟨by rfl,?_⟩) ?_ ?_;rotate_left
        ·intro w';go_simp
         with_reducible rfl
        rotate_left
        ·simp only[Act.put,List.setIfInBounds_toArray,List.set_cons_zero,List.set_cons_succ,qai,qaj];rfl
        refine take_ (i:=3) (N:=some 20) (v:=?_) (a':=?_) #[true,true,true,true,true,true,true,false,false,false] rfl rfl (qav HT_.out HW_.out (by kernel_rfl)) (fun _ _ _ h=>h) (Or.inl ⟨by rfl,?_⟩) hHeld ?_ ?_;rotate_left
        ·rintro w' ⟨s0,s1,s2,s3,s4,s5⟩;go_simp
         with_reducible rfl
        rotate_left
        ·simp only[Act.put,List.setIfInBounds_toArray,List.set_cons_zero,List.set_cons_succ,qai,qaj];rfl
        refine take_ (i:=7) (N:=some 24) (v:=?_) (a':=?_) #[true,true,true,true,true,true,true,true,false,false] rfl rfl (qav HT_.out HW_.out (by kernel_rfl)) (fun _ _ _ h=>h) (Or.inl ⟨by rfl,?_⟩) hHeld ?_ ?_;rotate_left
        ·rintro w' ⟨s0,s1,s2,s3,s4,s5⟩;go_simp
         with_reducible rfl
        rotate_left
        ·simp only[Act.put,List.setIfInBounds_toArray,List.set_cons_zero,List.set_cons_succ,qai,qaj];rfl
        refine one_ (i:=8) (N:=some 25) #[true,true,true,true,true,true,true,true,true,false] rfl rfl (one_of HT_.out (by kernel_rfl)) (by decide) (fun K hK=>?_);refine goes_ Try.func35 (by kernel_rfl) rfl #[.agg #[.int .i64 ((rd_T32 l0 x5_1).f0),.int .i64 ((rd_T32 l0 x5_1).f1),.slice A1109_2 ((rd_T32 l0 x5_1).f2).length c1109_2],.agg #[.int .i64 ((rd_T32 l1 x5_1).f0),.int .i64 ((rd_T32 l1 x5_1).f1),.slice A1110_2 ((rd_T32 l1 x5_1).f2).length c1110_2]] (by rfl) rfl rfl (by(try simp only[List.map_toArray,List.map_cons,List.map_nil]);first|done|rfl|(simp only[List.length_drop,List.length_take];rfl)) ?_
        with_reducible refine(laws_eqRec.calls k1 ((rd_T32 l0 x5_1).f0) ((rd_T32 l0 x5_1).f1) _ _ ((rd_T32 l0 x5_1).f2) ((rd_T32 l1 x5_1).f0) ((rd_T32 l1 x5_1).f1) _ _ ((rd_T32 l1 x5_1).f2) false _ ?side1 ?side2 ?side3 ?side4 A7.out).mono ?_
        (case side1=>exact zR HR1109_2 HB);(case side2=>exact HC1109_2.out);(case side3=>exact zR HR1110_2 HB);(case side4=>exact HC1110_2.out);rintro e w12 ⟨rfl,hb⟩;refine⟨_,rfl,?_⟩;replace HB:=qaf.mk (qad (za2 HB) hb);(try clear hb);(try clear hb2);(try clear hk);(try clear hi);refine hK.out _ _ ⟨((HB.out.cell (World.block_lt_of_cell? w _ hw1109_0)).trans hw1109_0),((HB.out.cell (World.block_lt_of_cell? w _ hw1109_1)).trans hw1109_1),((HB.out.cell (World.block_lt_of_cell? w _ hw1109_2)).trans hw1109_2),((HB.out.cell (World.block_lt_of_cell? w _ hw1110_0)).trans hw1110_0),((HB.out.cell (World.block_lt_of_cell? w _ hw1110_1)).trans hw1110_1),((HB.out.cell (World.block_lt_of_cell? w _ hw1110_2)).trans hw1110_2)⟩ (fun hHeld=>?_);clear hK K;refine qbb (a':=?_) ?_ ?_;rotate_left
        ·show Act.put _ (some 25) _=_;simp only[Act.put,List.setIfInBounds_toArray,List.set_cons_zero,List.set_cons_succ,qai,qaj];rfl
        refine qao (i:=9) (N:=some 26) (v:=?_) (a':=?_) #[true,true,true,true,true,true,true,true,true,true] rfl rfl (qak HT_.out (by kernel_rfl)) (fun _ _ _ h=>h) (Or.inl ⟨by rfl,?_⟩) ?_ ?_;rotate_left
        ·intro w';go_simp
         with_reducible rfl
        rotate_left
        ·simp only[Act.put,List.setIfInBounds_toArray,List.set_cons_zero,List.set_cons_succ,qai,qaj];rfl
        refine done_ (done_of HT_.out (by kernel_rfl)) ?_
        try go_wp2
        go_ret;exact⟨za12,za2 HB⟩
      ·rw[if_neg c6] at H;exact absurd H (by simp)
     ·rw[if_neg c5] at H;exact absurd H (by simp)
    ·rw[if_neg c4] at H;have c4b0:decide (x5_1<(l0.length:Int))=false:=decide_eq_false c4;clear c4;obtain rfl:=Option.some.inj H;go_wp2;go_ret;exact⟨za12,za2 HB⟩
 ·rw[if_neg c3] at H;have c3b0:((l0.length:Int) == (l1.length:Int))=false:=beq_eq_false_iff_ne.mpr c3;have c3b1:((l0.length:Int) != (l1.length:Int))=true:=bne_iff_ne.mpr c3
  have c3b2:(l0.length == l1.length)=false:=by first|simpa using c3|(simp at c3 ⊢;omega)
  obtain rfl:=Option.some.inj H;go_enter Try.func41,Try.ntmps41;go_wp2;go_ret;exact⟨za12,za2 HB⟩
end Go.Proofs.Ytmbdphefnalenaa.Print
