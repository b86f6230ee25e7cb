-- Written by squeeze.py, a program of this session, out of what print.sh and myprint.py had printed: cut to what is used, narrowed. Not trusted, Lean checks it.
import Derived.Test.YtbomcadjkcmcgaaZK
import Derived.Test.YtbomcadjkcmcgaaZa5
namespace Go.Proofs.Ytbomcadjkcmcgaa.Print
open Go.RowKit Go.Proofs.YtbomcadjkcmcgaaW.PrintWords Go.Proofs.YtbomcadjkcmcgaaW.PrintLast Go.Proofs.YtbomcadjkcmcgaaW.PrintMore
attribute [local go_sem] max2_int min2_int max_two min_two max_three min_three max_four min_four
set_option linter.unusedVariables false
set_option linter.unusedSimpArgs false
def laws_toRec.f (k:Nat) (a0_0:Int) (a0_1:Int) (l0_2:List Int):Option (Int × Int × List Int):=(laws_toIntS.f k l0_2).bind fun t180=>(some (a0_0,a0_1,t180))
theorem laws_toRec.mono:∀a0 a1 a2 k,LeO (laws_toRec.f k a0 a1 a2) (laws_toRec.f (k+1) a0 a1 a2):=by
 intro a0 a1 a2 k
 unfold laws_toRec.f
 repeat' first
   |(with_reducible exact laws_toIntS.mono _ _)
   |(with_reducible exact LeO.refl _)
   |(with_reducible exact LeO.none _)
   |(with_reducible refine LeO.ite ?_ ?_)
   |(with_reducible refine LeO.bind ?_ (fun _=>?_))
   |exact laws_toIntS.mono _ _
   |exact LeO.none _
   |refine LeO.ite ?_ ?_
   |refine LeO.bind ?_ (fun _=>?_)
set_option maxHeartbeats 8000000 in
set_option maxRecDepth 100000 in
theorem laws_toRec.calls (k:Nat) (a0_0:Int) (a0_1:Int) (A0_2:Option Addr) (c0_2:Nat) (l0_2:List Int) (r1:Int) (r2:Int) (r3:List Int) (w:World) (hr0_2:Kd.C (Kd.int .i64) w A0_2 l0_2.length l0_2) (hc0_2:l0_2.length≤c0_2) (h:laws_toRec.f k a0_0 a0_1 l0_2=some (r1,r2,r3)) :
  Calls Try.prog 50 #[.agg #[.int .i64 a0_0,.int .i64 a0_1,.slice A0_2 l0_2.length c0_2]] w fun e w'=>∃v2_:Value,e=.returned (.agg #[.int .i64 r1,.int .i64 r2,v2_])∧Kd.R (Kd.int .i64) 3 w' w.heap.size (fun _=>True) v2_ r3∧Below w.heap.size w w':=by
 have hu75:=Try.underlying75
 have hu62:=Try.underlying62
 have HR0_2:=qam.mk hr0_2
 have HC0_2:=qam.mk hc0_2
 clear hr0_2 hc0_2
 have HB:=qam.mk (Below.refl w.heap.size w)
 have H:((laws_toIntS.f k l0_2).bind fun t180=>(some (a0_0,a0_1,t180)))=some (r1,r2,r3):=h
 clear h
 replace H:=Option.bind_eq_some_iff.mp H
 obtain⟨t180,A20,H⟩:=H
 replace H:(some (a0_0,a0_1,t180))=some (r1,r2,r3):=H
 have A2:=qam.mk A20
 clear A20
 simp only[Option.some.injEq,Prod.mk.injEq] at H
 obtain⟨rfl,rfl,rfl⟩:=H
 go_enter Try.func50,Try.ntmps50
 go_wp2_with(first|((with_reducible refine qak (N:=1) rfl ?_);refine qai ?hg (N:=1) ?hd (cs:=#[.int .i64 a0_0,.int .i64 a0_1,.slice A0_2 l0_2.length c0_2]) (t:=75) ?hr ?_;(case hd=>rfl);(case hg=>rfl);(case hr=>first|(go_simp;done)|(go_simp;rfl));intro gb177 hg w3 hbox hb;have n0_:=qam.mk (qad (za2 HB) hb);have n1_:=qam.mk (hbox);have n2_:=qam.mk ((by rw[hg];exact(qac (za2 HB)):w.heap.size≤gb177));have n3_:=qam.mk ((by rw[hg];exact(qac (za2 HB)):w.heap.size≤gb177));clear HB;have HB:=n0_;have BK177:=n1_;have GW177:=n2_;have GE177:=n3_;clear n0_ n1_ n2_ n3_;clear hb hbox hg)|((with_reducible refine qak (N:=2) rfl ?_);refine qai ?hg (N:=2) ?hd (cs:=#[.int .i64 0,.int .i64 0,.slice none 0 0]) (t:=62) ?hr ?_;(case hd=>rfl);(case hg=>rfl);(case hr=>first|(go_simp;done)|(go_simp;rfl));intro gb178 hg w4 hbox hb;have n0_:=qam.mk (qae (g:=gb177) (o:=.cells #[.int .i64 a0_0,.int .i64 a0_1,.slice A0_2 l0_2.length c0_2] 75 (0,0)) (za0 BK177) hb);have n1_:=qam.mk (qad (za1 HB GE177) hb);have n2_:=qam.mk (hbox);have n3_:=qam.mk ((by rw[hg];exact(qac (za1 HB GE177)):w.heap.size≤gb178));have n4_:=qam.mk ((by rw[hg];exact(qac (za1 HB GE177)):w.heap.size≤gb178));have n5_:=qam.mk ((by rw[hg];exact Nat.ne_of_lt (qal (g:=gb177) (o:=.cells #[.int .i64 a0_0,.int .i64 a0_1,.slice A0_2 l0_2.length c0_2] 75 (0,0)) (za0 BK177)):gb177≠gb178));have n6_:=qam.mk ((by rw[hg];exact Nat.ne_of_gt (qal (g:=gb177) (o:=.cells #[.int .i64 a0_0,.int .i64 a0_1,.slice A0_2 l0_2.length c0_2] 75 (0,0)) (za0 BK177)):gb178≠gb177));clear BK177;clear HB;have BK177:=n0_;have HB:=n1_;have BK178:=n2_;have GW178:=n3_;have GE178:=n4_;have NB177_178:=n5_;have NB178_177:=n6_;clear n0_ n1_ n2_ n3_ n4_ n5_ n6_;clear hb hbox hg)|((with_reducible refine qak (N:=3) rfl ?_);refine qai ?hg (N:=3) ?hd (cs:=#[.int .i64 0,.int .i64 0,.slice none 0 0]) (t:=62) ?hr ?_;(case hd=>rfl);(case hg=>rfl);(case hr=>first|(go_simp;done)|(go_simp;rfl));intro gb179 hg w5 hbox hb;have n0_:=qam.mk (qae (g:=gb177) (o:=.cells #[.int .i64 a0_0,.int .i64 a0_1,.slice A0_2 l0_2.length c0_2] 75 (0,0)) (za0 BK177) hb);have n1_:=qam.mk (qae (g:=gb178) (o:=.cells #[.int .i64 0,.int .i64 0,.slice none 0 0] 62 (0,0)) (za0 BK178) hb);have n2_:=qam.mk (qad (za3 HB GE177 GE178) hb);have n3_:=qam.mk (hbox);have n4_:=qam.mk ((by rw[hg];exact(qac (za3 HB GE177 GE178)):w.heap.size≤gb179));have n5_:=qam.mk ((by rw[hg];exact(qac (za3 HB GE177 GE178)):w.heap.size≤gb179));have n6_:=qam.mk ((by rw[hg];exact Nat.ne_of_lt (qal (g:=gb177) (o:=.cells #[.int .i64 a0_0,.int .i64 a0_1,.slice A0_2 l0_2.length c0_2] 75 (0,0)) (za0 BK177)):gb177≠gb179));have n7_:=qam.mk ((by rw[hg];exact Nat.ne_of_gt (qal (g:=gb177) (o:=.cells #[.int .i64 a0_0,.int .i64 a0_1,.slice A0_2 l0_2.length c0_2] 75 (0,0)) (za0 BK177)):gb179≠gb177));have n8_:=qam.mk ((by rw[hg];exact Nat.ne_of_lt (qal (g:=gb178) (o:=.cells #[.int .i64 0,.int .i64 0,.slice none 0 0] 62 (0,0)) (za0 BK178)):gb178≠gb179));have n9_:=qam.mk ((by rw[hg];exact Nat.ne_of_gt (qal (g:=gb178) (o:=.cells #[.int .i64 0,.int .i64 0,.slice none 0 0] 62 (0,0)) (za0 BK178)):gb179≠gb178));clear BK177;clear BK178;clear HB;have BK177:=n0_;have BK178:=n1_;have HB:=n2_;have BK179:=n3_;have GW179:=n4_;have GE179:=n5_;have NB177_179:=n6_;have NB179_177:=n7_;have NB178_179:=n8_;have NB179_178:=n9_;clear n0_ n1_ n2_ n3_ n4_ n5_ n6_ n7_ n8_ n9_;clear hb hbox hg;have hnb6:=NB177_178.out;have hnc6:=NB178_177.out;have hnb7:=NB177_179.out;have hnc7:=NB179_177.out;have hcz8_0:w5.cell? ⟨gb177,0,none⟩=some (.int .i64 a0_0):=(qab BK177.out 0).trans rfl;have hcz8_1:w5.cell? ⟨gb177,1,none⟩=some (.int .i64 a0_1):=(qab BK177.out 1).trans rfl;have hcz8_2:w5.cell? ⟨gb177,2,none⟩=some (.slice A0_2 l0_2.length c0_2):=(qab BK177.out 2).trans rfl;have hfz8_0:=qaa BK177.out 0;have hfz8_1:=qaa BK177.out 1;have hfz8_2:=qaa BK177.out 2;have hnb9:=NB179_178.out;have hnc9:=NB178_179.out;have hcz10_0:w5.cell? ⟨gb179,0,none⟩=some (.int .i64 0):=(qab BK179.out 0).trans rfl;have hcz10_1:w5.cell? ⟨gb179,1,none⟩=some (.int .i64 0):=(qab BK179.out 1).trans rfl;have hcz10_2:w5.cell? ⟨gb179,2,none⟩=some (.slice none 0 0):=(qab BK179.out 2).trans rfl;have hfz10_0:=qaa BK179.out 0;have hfz10_1:=qaa BK179.out 1;have hfz10_2:=qaa BK179.out 2)|((with_reducible refine qaj (f:=59) rfl ?_);refine goesL_ (some 12) rfl rfl Try.func59 (by kernel_rfl) rfl #[.slice A0_2 l0_2.length c0_2] rfl (by(try simp only[List.map_toArray,List.map_cons,List.map_nil]);first|done|rfl|(simp only[List.length_drop,List.length_take];rfl)) ?_;(with_reducible refine(laws_toIntS.calls k _ _ l0_2 t180 _ ?side1 ?side2 A2.out).mono ?_);(case side1=>exact Kd.C_below HR0_2.out (za5 HB GE177 GE178 GE179));(case side2=>exact HC0_2.out);rintro e w11 ⟨v181,rfl,ho0,hb⟩;refine⟨_,rfl,?_⟩;have n0_:=qam.mk (Kd.R_lower ho0 (qac (za5 HB GE177 GE178 GE179)));have n1_:=qam.mk (qae (g:=gb177) (o:=.cells #[.int .i64 a0_0,.int .i64 a0_1,.slice A0_2 l0_2.length c0_2] 75 (0,0)) (za4 NB177_179 BK177) hb);have n2_:=qam.mk (qae (g:=gb178) (o:=.cells #[.int .i64 0,.int .i64 0,.slice none 0 0] 62 (0,0)) (za4 NB178_179 BK178) hb);have n3_:=qam.mk (qae (g:=gb179) (o:=.cells #[.int .i64 a0_0,.int .i64 a0_1,.slice none 0 0] 62 (0,0)) (by(with_reducible repeat(first|refine qah ?_ _|refine qaf ?_|refine qag ?_ _));refine qan (cs:=#[.int .i64 a0_0,.int .i64 0,.slice none 0 0]) ?_ 1 _ rfl;(with_reducible repeat(first|refine qah ?_ _|refine qaf ?_|refine qag ?_ _));refine qan (cs:=#[.int .i64 0,.int .i64 0,.slice none 0 0]) ?_ 0 _ rfl;(with_reducible repeat(first|refine qah ?_ _|refine qaf ?_|refine qag ?_ _));exact BK179.out) hb);have n4_:=qam.mk (qad (za5 HB GE177 GE178 GE179) hb);clear BK177;clear BK178;clear BK179;clear HB;have HO182:=n0_;have BK177:=n1_;have BK178:=n2_;have BK179:=n3_;have HB:=n4_;clear n0_ n1_ n2_ n3_ n4_;(try clear hb);(try clear hb2);(try clear hk);(try clear hi);(try clear ho0);obtain⟨Ao12,co12,eo12⟩:=Kd.R_slice HO182.out;subst eo12;have hcz13_0:w11.cell? ⟨gb179,0,none⟩=some (.int .i64 a0_0):=(qab BK179.out 0).trans rfl;have hcz13_1:w11.cell? ⟨gb179,1,none⟩=some (.int .i64 a0_1):=(qab BK179.out 1).trans rfl;have hcz13_2:w11.cell? ⟨gb179,2,none⟩=some (.slice none 0 0):=(qab BK179.out 2).trans rfl;have hfz13_0:=qaa BK179.out 0;have hfz13_1:=qaa BK179.out 1;have hfz13_2:=qaa BK179.out 2;have hcz14_0:w11.cell? ⟨gb178,0,none⟩=some (.int .i64 0):=(qab BK178.out 0).trans rfl;have hcz14_1:w11.cell? ⟨gb178,1,none⟩=some (.int .i64 0):=(qab BK178.out 1).trans rfl;have hcz14_2:w11.cell? ⟨gb178,2,none⟩=some (.slice none 0 0):=(qab BK178.out 2).trans rfl;have hfz14_0:=qaa BK178.out 0;have hfz14_1:=qaa BK178.out 1;have hfz14_2:=qaa BK178.out 2))
 refine bodyPost_ret (results_cell_row rfl _ _ gb178 62 #[.int .i64 a0_0,.int .i64 a0_1,.slice Ao12 t180.length co12] (0,0) _ rfl (by(with_reducible repeat(first|refine qah ?_ _|refine qaf ?_|refine qag ?_ _));refine qan (cs:=#[.int .i64 a0_0,.int .i64 a0_1,.slice none 0 0]) ?_ 2 _ rfl;(with_reducible repeat(first|refine qah ?_ _|refine qaf ?_|refine qag ?_ _));refine qan (cs:=#[.int .i64 a0_0,.int .i64 0,.slice none 0 0]) ?_ 1 _ rfl;(with_reducible repeat(first|refine qah ?_ _|refine qaf ?_|refine qag ?_ _));refine qan (cs:=#[.int .i64 0,.int .i64 0,.slice none 0 0]) ?_ 0 _ rfl;(with_reducible repeat(first|refine qah ?_ _|refine qaf ?_|refine qag ?_ _));refine blk_far ?_ NB178_179.out _;(with_reducible repeat(first|refine qah ?_ _|refine qaf ?_|refine qag ?_ _));exact BK178.out) Try.underlying62 rfl (by kernel_rfl)) rfl ?_
 exact⟨_,za8,by(with_reducible repeat(first|apply Kd.R_alloc|apply Kd.R_drewN|apply Kd.R_drew));exact Kd.R_mono (Kd.R_far (p:=⟨gb178,2,none⟩) (Kd.R_far (p:=⟨gb178,1,none⟩) (Kd.R_far (p:=⟨gb178,0,none⟩) (Kd.R_far (p:=⟨gb179,2,none⟩) (Kd.R_types (Kd.R_types HO182.out BK179.out (by decide)) BK178.out (by decide)) (fun _ hk=>hk.1.2) (.slice Ao12 t180.length co12)) (fun _ hk=>hk.2) (.int .i64 a0_0)) (fun _ hk=>hk.2) (.int .i64 a0_1)) (fun _ hk=>hk.2) (.slice Ao12 t180.length co12)) (fun _ hk=>trivial),za5 HB GE177 GE178 GE179⟩
def laws_toRecS.l0:Nat→List (S75)→List (S62)→Int→Option ((List (S62)))
 |0,_,_,_=>none
 |k+1,x0,x3,x4=>if x4<(x0.length:Int) then(if 0≤x4 then((laws_toRec.f k ((rd_T75 x0 x4).f0) ((rd_T75 x0 x4).f1) ((rd_T75 x0 x4).f2)).bind fun bt187=>(if x4<(x3.length:Int) then(laws_toRecS.l0 k x0 (x3.set (x4:Int).toNat (⟨bt187.1,bt187.2.1,bt187.2.2⟩:S62)) (wrap64 (x4+1))) else(none))) else(none)) else(some x3)
def laws_toRecS.f (k:Nat) (l0:List (S75)):Option ((List (S62))):=if 0≤(l0.length:Int) then(if((l0.length:Int):Int).toNat≤7036874417766 then(laws_toRecS.l0 k l0 (List.replicate ((l0.length:Int):Int).toNat z62) 0) else(none)) else(none)
theorem laws_toRecS.mono_l:∀k,(∀y0 y1 y2,LeO (laws_toRecS.l0 k y0 y1 y2) (laws_toRecS.l0 (k+1) y0 y1 y2))
 |0=>fun _ _ _ r h=>by simp[laws_toRecS.l0] at h
 |k+1=>by
  have ih0:=laws_toRecS.mono_l k
  ·intro y0 y1 y2
   unfold laws_toRecS.l0
   repeat' first
   |(with_reducible exact ih0 _ _ _)
   |(with_reducible exact laws_toRec.mono _ _ _ _)
   |(with_reducible exact LeO.refl _)
   |(with_reducible exact LeO.none _)
   |(with_reducible refine LeO.ite ?_ ?_)
   |(with_reducible refine LeO.bind ?_ (fun _=>?_))
   |exact ih0 _ _ _
   |exact laws_toRec.mono _ _ _ _
   |exact LeO.none _
   |refine LeO.ite ?_ ?_
   |refine LeO.bind ?_ (fun _=>?_)
theorem laws_toRecS.mono:∀a0 k,LeO (laws_toRecS.f k a0) (laws_toRecS.f (k+1) a0):=by
 intro a0 k
 have ih0:=laws_toRecS.mono_l k
 unfold laws_toRecS.f
 repeat' first
   |(with_reducible exact ih0 _ _ _)
   |(with_reducible exact laws_toRec.mono _ _ _ _)
   |(with_reducible exact LeO.refl _)
   |(with_reducible exact LeO.none _)
   |(with_reducible refine LeO.ite ?_ ?_)
   |(with_reducible refine LeO.bind ?_ (fun _=>?_))
   |exact ih0 _ _ _
   |exact laws_toRec.mono _ _ _ _
   |exact LeO.none _
   |refine LeO.ite ?_ ?_
   |refine LeO.bind ?_ (fun _=>?_)
set_option maxHeartbeats 8000000 in
set_option maxRecDepth 100000 in
theorem laws_toRecS.calls (k:Nat) (A0:Option Addr) (c0:Nat) (l0:List (S75)) (r:List (S62)) (w:World) (hr0:Kd.C k75 w A0 l0.length l0) (hc0:l0.length≤c0) (h:laws_toRecS.f k l0=some r) :
  Calls Try.prog 36 #[.slice A0 l0.length c0] w fun e w'=>∃v0_:Value,e=.returned (v0_)∧Kd.S k62 62 w' w.heap.size (fun _=>True) v0_ r∧Below w.heap.size w w':=by
 have hu75:=Try.underlying75
 have hu62:=Try.underlying62
 have HR0:=qam.mk hr0
 have HC0:=qam.mk hc0
 clear hr0 hc0
 have HB:=qam.mk (Below.refl w.heap.size w)
 have H:(if 0≤(l0.length:Int) then(if((l0.length:Int):Int).toNat≤7036874417766 then(laws_toRecS.l0 k l0 (List.replicate ((l0.length:Int):Int).toNat z62) 0) else(none)) else(none))=some r:=h
 clear h
 by_cases c2:0≤(l0.length:Int)
 ·rw[if_pos c2] at H
  have c2b0:=eq_true c2
  have c2b1:decide (0≤(l0.length:Int))=true:=decide_eq_true c2
  clear c2
  by_cases c3:((l0.length:Int):Int).toNat≤7036874417766
  ·rw[if_pos c3] at H
   have c3b0:=eq_true c3
   have c3b1:decide (((l0.length:Int):Int).toNat≤7036874417766)=true:=decide_eq_true c3
   clear c3
   obtain⟨y183,hy183⟩:∃y_:List (S62),y_=(List.replicate ((l0.length:Int):Int).toNat z62):=⟨_,rfl⟩
   replace H:(laws_toRecS.l0 k l0 y183 0)=some r:=by first|(rw[hy183];with_reducible exact H)|(have H2_:=(Option.bind_some _ _).symm.trans H;rw[hy183];with_reducible exact H2_)|(have H2_:=(Option.bind_some _ _).symm.trans H;with_reducible exact H2_)|with_reducible exact H|(rw[hy183];exact H)|exact H
   have Ny183:=qam.mk hy183
   clear hy183
   have H':=qam.mk H
   clear H
   go_enter Try.func36,Try.ntmps36
   go_wp2_with(first|((with_reducible refine qak (N:=7) rfl ?_);refine Kd.S_make k62 _ 62 rfl (N:=7) rfl 29 _ _ rfl (l0.length:Int) rfl rfl Try.underlying29 (.agg #[(.int .i64 0),(.int .i64 0),(.slice none 0 0)]) 40 info62 rfl (by decide) (by omega) z62 (ok:=fun _=>True) (okp:=fun _=>True) (k62_mkM _ _ _ z62 (Kd.R_nil _ _ _ _ _)) (fun _ hk=>hk) trivial (of_decide_eq_true (za6)) (Nat.le_trans (Nat.mul_le_mul_right _ (of_decide_eq_true (za6):(l0.length:Int).toNat≤7036874417766)) (by omega)) (Below.refl _ _) (Nat.le_refl _) ?_;intro v184 w4 ho5 hb hg_ hnew_;clear hg_ hnew_;(first|rw[←Ny183.out] at ho5|(simp only[Int.reduceToNat] at ho5;rw[←Ny183.out] at ho5));have n0_:=qam.mk (Kd.S_lower ho5 (qac (za2 HB)));have n1_:=qam.mk (qad (za2 HB) hb);clear HB;have HO185:=n0_;have HB:=n1_;clear n0_ n1_;clear hb ho5))
   go_loopg [4] k (fun kq v4 w'=>∃(x3_1:List (S62)) (x4_1:Int),v4=.int .i64 x4_1∧qam (laws_toRecS.l0 kq l0 x3_1 x4_1=some r)∧qam (kq≤k)∧qam (Kd.S k62 62 w' w.heap.size (fun _=>True) v184 x3_1)∧qam (Below w.heap.size w w'))
   case atStart=>exact⟨(y183),(0),(za11),H',⟨Nat.le_refl _⟩,⟨za10 HO185⟩,⟨za2 HB⟩⟩
   case round=>
    clear H'
    try clear c2
    try clear c2b0
    try clear c2b1
    try clear p2
    try clear c3
    try clear c3b0
    try clear c3b1
    obtain⟨x3_1,x4_1,rfl,HA,HK1,HO_3,HB⟩:=hrel
    cases gk with
    |zero=>exact absurd HA.out (by simp[laws_toRecS.l0])
    |succ k1=>
     have H:=HA.out
     clear HA
     simp only[laws_toRecS.l0] at H
     by_cases c6:x4_1<(l0.length:Int)
     ·rw[if_pos c6] at H
      have c6b0:decide (x4_1<(l0.length:Int))=true:=decide_eq_true c6
      clear c6
      by_cases c7:0≤x4_1
      ·rw[if_pos c7] at H
       have c7b0:decide (0≤x4_1)=true:=decide_eq_true c7
       clear c7
       replace H:=Option.bind_eq_some_iff.mp H
       obtain⟨⟨t187,t188,t189⟩,A80,H⟩:=H
       replace H:(if x4_1<(x3_1.length:Int) then(laws_toRecS.l0 k1 l0 (x3_1.set (x4_1:Int).toNat (⟨t187,t188,t189⟩:S62)) (wrap64 (x4_1+1))) else(none))=some r:=H
       have A8:=qam.mk A80
       clear A80
       by_cases c9:x4_1<(x3_1.length:Int)
       ·rw[if_pos c9] at H
        have c9b0:decide (x4_1<(x3_1.length:Int))=true:=decide_eq_true c9
        clear c9
        obtain⟨y192,hy192⟩:∃y_:List (S62),y_=(x3_1.set (x4_1:Int).toNat (⟨t187,t188,t189⟩:S62)):=⟨_,rfl⟩
        replace H:(laws_toRecS.l0 k1 l0 y192 (wrap64 (x4_1+1)))=some r:=by first|(rw[hy192];with_reducible exact H)|(have H2_:=(Option.bind_some _ _).symm.trans H;rw[hy192];with_reducible exact H2_)|(have H2_:=(Option.bind_some _ _).symm.trans H;with_reducible exact H2_)|with_reducible exact H|(rw[hy192];exact H)|exact H
        have Ny192:=qam.mk hy192
        clear hy192
        have H':=qam.mk H
        clear H
        have p186:0≤(x4_1:Int):=of_decide_eq_true (za6)
        have q186:x4_1<(l0.length:Int):=of_decide_eq_true (za6)
        obtain⟨ad186,A186_2,c186_2,e186,hx186_0,hx186_1,hx186_2,hl186_2,hi186_2⟩:=at_T75 HR0.out x4_1 p186 q186
        cases e186
        have hxo186_2:=qam.mk hx186_2
        replace hx186_0:=(HB.out.cell (World.block_lt_of_cell? w _ hx186_0)).trans hx186_0
        replace hx186_1:=(HB.out.cell (World.block_lt_of_cell? w _ hx186_1)).trans hx186_1
        replace hx186_2:=(HB.out.cell (World.block_lt_of_cell? w _ hx186_2)).trans hx186_2
        have HR186_2:=qam.mk hi186_2
        have HC186_2:=qam.mk hl186_2
        clear hi186_2 hl186_2
        replace p186:=eq_true p186
        replace q186:=eq_true q186
        go_wp2_with(first|((with_reducible refine qaj (f:=50) rfl ?_);refine goesL_ (some 20) rfl rfl Try.func50 (by kernel_rfl) rfl #[.agg #[.int .i64 ((rd_T75 l0 x4_1).f0),.int .i64 ((rd_T75 l0 x4_1).f1),.slice A186_2 ((rd_T75 l0 x4_1).f2).length c186_2]] rfl (by(try simp only[List.map_toArray,List.map_cons,List.map_nil]);first|done|rfl|(simp only[List.length_drop,List.length_take];rfl)) ?_;(with_reducible refine(laws_toRec.calls k1 ((rd_T75 l0 x4_1).f0) ((rd_T75 l0 x4_1).f1) _ _ ((rd_T75 l0 x4_1).f2) t187 t188 t189 _ ?side1 ?side2 A8.out).mono ?_);(case side1=>repeat(first|exact(Kd.C_below HR186_2.out HB.out)|(with_reducible refine Kd.C_alloc ?_ _)|(with_reducible refine Kd.C_drewN ?_ _)|(with_reducible refine Kd.C_drew ?_)));(case side2=>exact HC186_2.out);rintro e w11 ⟨v190,rfl,ho0,hb⟩;refine⟨_,rfl,?_⟩;have hst_v190:∀(W_:World) (a_:Addr) (m_:Mode),(store a_ v190 m_).run Try.prog W_=stored Try.prog W_ a_ v190 m_:=fun W_ a_ m_=>run_store _ _ _ _ _ (Kd.R_val ho0).2;have n0_:=qam.mk (Kd.S_elder' (za10 HO_3) (Kd.R_base ho0) hb);have n1_:=qam.mk (Kd.R_lower ho0 (qac (za2 HB)));have n2_:=qam.mk (qad (za2 HB) hb);clear HO_3;clear HB;have HO_3:=n0_;have HO191:=n1_;have HB:=n2_;clear n0_ n1_ n2_;(try clear hb);(try clear hb2);(try clear hk);(try clear hi);(try clear ho0);have p10:0≤(x4_1:Int):=of_decide_eq_true (za6);have q10:(x4_1:Int)<((x3_1.length:Int):Int):=of_decide_eq_true (za6);obtain⟨go10,co10,eo10,gb10,gl10,cl10,HG10⟩:=Kd.S_form HO_3.out (by omega);(first|cases eo10|(injection eo10 with ea_ en_ ec_;(first|subst ea_|(injection ea_ with ea_;subst ea_));subst ec_;clear en_));have GB10:=qam.mk gb10;have GG10:=qam.mk HG10;clear gb10 gl10 HG10;obtain⟨_,ce10,hcl10,hM10,hcc10,hfr10,_,_⟩:=Kd.S_elem HO_3.out z62 (x4_1:Int) p10 q10;obtain⟨ve10_2,rfl,ge10_2⟩:=k62_openM hM10;have hx10_0:w11.cell? ⟨go10,(x4_1:Int).toNat*3,none⟩=some (.int .i64 ((rd_T62 x3_1 x4_1).f0)):=hcc10 0 _ rfl;have hx10_1:w11.cell? ⟨go10,(x4_1:Int).toNat*3+1,none⟩=some (.int .i64 ((rd_T62 x3_1 x4_1).f1)):=hcc10 1 _ rfl;have hx10_2:w11.cell? ⟨go10,(x4_1:Int).toNat*3+2,none⟩=some (ve10_2):=hcc10 2 _ rfl;have hf10_0:w11.frozen? ⟨go10,(x4_1:Int).toNat*3,none⟩=false:=hfr10 0;have hf10_1:w11.frozen? ⟨go10,(x4_1:Int).toNat*3+1,none⟩=false:=hfr10 1;have hf10_2:w11.frozen? ⟨go10,(x4_1:Int).toNat*3+2,none⟩=false:=hfr10 2;clear hcl10 hcc10 hfr10 hM10;replace p10:=eq_true p10;replace q10:=eq_true q10;have n_:=qam.mk (Kd.S_mono (ok':=(fun k_=>some k_≠(v190:Value).ownBlock)) HO_3.out (fun k_ hk=>hk.2));clear HO_3;have HO_3:=n_;clear n_;have HX12:=qam.mk (show Kd.S k62 62 w11 w.heap.size (fun k_=>((fun _=>True)) k_∧¬((fun k_=>some k_=(v190:Value).ownBlock)) k_) (.slice (some ⟨go10,0,none⟩) x3_1.length co10) x3_1 from(by(with_reducible repeat(first|apply Kd.S_alloc|apply Kd.S_drewN|apply Kd.S_drew));exact Kd.S_mono HO_3.out (fun k_ hk=>⟨trivial,fun e_=>hk e_⟩)));obtain⟨oki12,ce12,hcl12,hM12,hcc12,hfr12,hoki12,hH12⟩:=Kd.S_elem HX12.out z62 (x4_1:Int) (of_decide_eq_true (za6)) (by have h_:(x4_1:Int)<((x3_1.length:Int):Int):=of_decide_eq_true (za6);first|exact h_|(have e_:=(Kd.S_reads' HO_3.out).1;omega)|simpa using h_);obtain⟨ve12_2,rfl,ge12_2⟩:=k62_openM hM12;have HP12:=Kd.S_seg hH12 (of_decide_eq_true (za6)) (by have h_:(x4_1:Int)<((x3_1.length:Int):Int):=of_decide_eq_true (za6);first|exact h_|(have e_:=(Kd.S_reads' HO_3.out).1;omega)|simpa using h_) (seg:=[.int .i64 t187,.int .i64 t188,v190]) (j:=0) (show 3≤3 from by decide) (x':=(⟨t187,t188,t189⟩:S62)) (k62_mkM _ _ _ (⟨t187,t188,t189⟩:S62) (Kd.R_mono (Kd.R_tight rfl (Kd.R_mono (ok':=fun k_=>((fun _=>True)) k_∧k_≠go10) (Kd.R_apart' (HO191.out) (Kd.S_typed HO_3.out) (by decide)) (fun k_ hk=>⟨trivial,fun e_=>(hk.2) (by rw[e_];rfl)⟩))) (fun _ h_=>Or.inr (h_)))) (fun _ hk=>hk) (fun k_ hk_=>((Kd.R_mono (ok':=fun k_=>((fun _=>True)) k_∧k_≠go10) (Kd.R_apart' (HO191.out) (Kd.S_typed HO_3.out) (by decide)) (fun k_ hk=>⟨trivial,fun e_=>(hk.2) (by rw[e_];rfl)⟩))).1 k_ hk_.symm);have hx12_0:=hcc12 0 _ rfl;(try simp only[show(k62).sz=3 from rfl,Nat.mul_one,Nat.add_zero] at hx12_0);have hf12_0:=hfr12 0;(try simp only[show(k62).sz=3 from rfl,Nat.mul_one,Nat.add_zero] at hf12_0);have hx12_1:=hcc12 1 _ rfl;(try simp only[show(k62).sz=3 from rfl,Nat.mul_one,Nat.add_zero] at hx12_1);have hf12_1:=hfr12 1;(try simp only[show(k62).sz=3 from rfl,Nat.mul_one,Nat.add_zero] at hf12_1);have hx12_2:=hcc12 2 _ rfl;(try simp only[show(k62).sz=3 from rfl,Nat.mul_one,Nat.add_zero] at hx12_2);have hf12_2:=hfr12 2;(try simp only[show(k62).sz=3 from rfl,Nat.mul_one,Nat.add_zero] at hf12_2);clear hcl12 hcc12 hfr12 hM12 hoki12 hH12)|((with_reducible refine gate_store (t:=62) (p:=21) rfl ?_);refine store_event (t:=62) (p:=21) (v:=?vo_w13) (w1:=(((w11.setCell ⟨go10,(x4_1:Int).toNat*3,none⟩ (.int .i64 t187)).setCell ⟨go10,(x4_1:Int).toNat*3+1,none⟩ (.int .i64 t188)).setCell ⟨go10,(x4_1:Int).toNat*3+2,none⟩ (v190))) ?hg ?ho ?hn ?hr ?_;(case ho=>rfl);(case hg=>rfl);(case hn=>rfl);(case hr=>first|(go_simp;done)|(go_simp;rfl));intro w13 hw;have hg:w11.grownBy w13 (some go10):=(by rw[hw];exact HP12.2);have hp_:Kd.S k62 62 w13 w.heap.size (fun _=>True) (.slice (some ⟨go10,0,none⟩) x3_1.length co10) y192:=(by rw[hw,Ny192.out];exact HP12.1);clear HP12;have n0_:=qam.mk (hp_);have n1_:=qam.mk ((by rw[hw];exact below_set (below_set (below_set (HB.out) GB10.out) GB10.out) GB10.out:Below w.heap.size w w13));clear HO_3;clear HB;clear HO191;have HO_3:=n0_;have HB:=n1_;clear n0_ n1_;clear hg hw hp_))
        go_roundg k1
        case measure=>have:=HK1.out;omega
        case rel=>exact⟨(y192),(wrap64 (x4_1+1)),(za11),H',⟨by have:=HK1.out;omega⟩,⟨za10 HO_3⟩,⟨za2 HB⟩⟩
       ·rw[if_neg c9] at H
        exact absurd H (by simp)
      ·rw[if_neg c7] at H
       exact absurd H (by simp)
     ·rw[if_neg c6] at H
      have c6b0:decide (x4_1<(l0.length:Int))=false:=decide_eq_false c6
      clear c6
      obtain rfl:=Option.some.inj H
      go_wp2
      go_ret
      exact⟨_,za8,za10 HO_3,za2 HB⟩
  ·rw[if_neg c3] at H
   exact absurd H (by simp)
 ·rw[if_neg c2] at H
  exact absurd H (by simp)
def laws_toLog.f (k:Nat) (l0_0:List (S75)) (a0_1:Int):Option ((List (S62)) × Int):=(laws_toRecS.f k l0_0).bind fun t196=>(some (t196,a0_1))
theorem laws_toLog.mono:∀a0 a1 k,LeO (laws_toLog.f k a0 a1) (laws_toLog.f (k+1) a0 a1):=by
 intro a0 a1 k
 unfold laws_toLog.f
 repeat' first
   |(with_reducible exact laws_toRecS.mono _ _)
   |(with_reducible exact LeO.refl _)
   |(with_reducible exact LeO.none _)
   |(with_reducible refine LeO.ite ?_ ?_)
   |(with_reducible refine LeO.bind ?_ (fun _=>?_))
   |exact laws_toRecS.mono _ _
   |exact LeO.none _
   |refine LeO.ite ?_ ?_
   |refine LeO.bind ?_ (fun _=>?_)
set_option maxHeartbeats 8000000 in
set_option maxRecDepth 100000 in
theorem laws_toLog.calls (k:Nat) (A0_0:Option Addr) (c0_0:Nat) (l0_0:List (S75)) (a0_1:Int) (r1:List (S62)) (r2:Int) (w:World) (hr0_0:Kd.C k75 w A0_0 l0_0.length l0_0) (hc0_0:l0_0.length≤c0_0) (h:laws_toLog.f k l0_0 a0_1=some (r1,r2)) :
  Calls Try.prog 20 #[.agg #[.slice A0_0 l0_0.length c0_0,.int .i64 a0_1]] w fun e w'=>∃v0_:Value,e=.returned (.agg #[v0_,.int .i64 r2])∧Kd.S k62 62 w' w.heap.size (fun _=>True) v0_ r1∧Below w.heap.size w w':=by
 have hu24:=Try.underlying24
 have hu31:=Try.underlying31
 have HR0_0:=qam.mk hr0_0
 have HC0_0:=qam.mk hc0_0
 clear hr0_0 hc0_0
 have HB:=qam.mk (Below.refl w.heap.size w)
 have H:((laws_toRecS.f k l0_0).bind fun t196=>(some (t196,a0_1)))=some (r1,r2):=h
 clear h
 replace H:=Option.bind_eq_some_iff.mp H
 obtain⟨t196,A20,H⟩:=H
 replace H:(some (t196,a0_1))=some (r1,r2):=H
 have A2:=qam.mk A20
 clear A20
 simp only[Option.some.injEq,Prod.mk.injEq] at H
 obtain⟨rfl,rfl⟩:=H
 go_enter Try.func20,Try.ntmps20
 go_wp2_with(first|((with_reducible refine qak (N:=1) rfl ?_);refine qai ?hg (N:=1) ?hd (cs:=#[.slice A0_0 l0_0.length c0_0,.int .i64 a0_1]) (t:=24) ?hr ?_;(case hd=>rfl);(case hg=>rfl);(case hr=>first|(go_simp;done)|(go_simp;rfl));intro gb193 hg w3 hbox hb;have n0_:=qam.mk (qad (za2 HB) hb);have n1_:=qam.mk (hbox);have n2_:=qam.mk ((by rw[hg];exact(qac (za2 HB)):w.heap.size≤gb193));have n3_:=qam.mk ((by rw[hg];exact(qac (za2 HB)):w.heap.size≤gb193));clear HB;have HB:=n0_;have BK193:=n1_;have GW193:=n2_;have GE193:=n3_;clear n0_ n1_ n2_ n3_;clear hb hbox hg)|((with_reducible refine qak (N:=2) rfl ?_);refine qai ?hg (N:=2) ?hd (cs:=#[.slice none 0 0,.int .i64 0]) (t:=31) ?hr ?_;(case hd=>rfl);(case hg=>rfl);(case hr=>first|(go_simp;done)|(go_simp;rfl));intro gb194 hg w4 hbox hb;have n0_:=qam.mk (qae (g:=gb193) (o:=.cells #[.slice A0_0 l0_0.length c0_0,.int .i64 a0_1] 24 (0,0)) (za0 BK193) hb);have n1_:=qam.mk (qad (za1 HB GE193) hb);have n2_:=qam.mk (hbox);have n3_:=qam.mk ((by rw[hg];exact(qac (za1 HB GE193)):w.heap.size≤gb194));have n4_:=qam.mk ((by rw[hg];exact(qac (za1 HB GE193)):w.heap.size≤gb194));have n5_:=qam.mk ((by rw[hg];exact Nat.ne_of_lt (qal (g:=gb193) (o:=.cells #[.slice A0_0 l0_0.length c0_0,.int .i64 a0_1] 24 (0,0)) (za0 BK193)):gb193≠gb194));have n6_:=qam.mk ((by rw[hg];exact Nat.ne_of_gt (qal (g:=gb193) (o:=.cells #[.slice A0_0 l0_0.length c0_0,.int .i64 a0_1] 24 (0,0)) (za0 BK193)):gb194≠gb193));clear BK193;clear HB;have BK193:=n0_;have HB:=n1_;have BK194:=n2_;have GW194:=n3_;have GE194:=n4_;have NB193_194:=n5_;have NB194_193:=n6_;clear n0_ n1_ n2_ n3_ n4_ n5_ n6_;clear hb hbox hg)|((with_reducible refine qak (N:=3) rfl ?_);refine qai ?hg (N:=3) ?hd (cs:=#[.slice none 0 0,.int .i64 0]) (t:=31) ?hr ?_;(case hd=>rfl);(case hg=>rfl);(case hr=>first|(go_simp;done)|(go_simp;rfl));intro gb195 hg w5 hbox hb;have n0_:=qam.mk (qae (g:=gb193) (o:=.cells #[.slice A0_0 l0_0.length c0_0,.int .i64 a0_1] 24 (0,0)) (za0 BK193) hb);have n1_:=qam.mk (qae (g:=gb194) (o:=.cells #[.slice none 0 0,.int .i64 0] 31 (0,0)) (za0 BK194) hb);have n2_:=qam.mk (qad (za3 HB GE193 GE194) hb);have n3_:=qam.mk (hbox);have n4_:=qam.mk ((by rw[hg];exact(qac (za3 HB GE193 GE194)):w.heap.size≤gb195));have n5_:=qam.mk ((by rw[hg];exact(qac (za3 HB GE193 GE194)):w.heap.size≤gb195));have n6_:=qam.mk ((by rw[hg];exact Nat.ne_of_lt (qal (g:=gb193) (o:=.cells #[.slice A0_0 l0_0.length c0_0,.int .i64 a0_1] 24 (0,0)) (za0 BK193)):gb193≠gb195));have n7_:=qam.mk ((by rw[hg];exact Nat.ne_of_gt (qal (g:=gb193) (o:=.cells #[.slice A0_0 l0_0.length c0_0,.int .i64 a0_1] 24 (0,0)) (za0 BK193)):gb195≠gb193));have n8_:=qam.mk ((by rw[hg];exact Nat.ne_of_lt (qal (g:=gb194) (o:=.cells #[.slice none 0 0,.int .i64 0] 31 (0,0)) (za0 BK194)):gb194≠gb195));have n9_:=qam.mk ((by rw[hg];exact Nat.ne_of_gt (qal (g:=gb194) (o:=.cells #[.slice none 0 0,.int .i64 0] 31 (0,0)) (za0 BK194)):gb195≠gb194));clear BK193;clear BK194;clear HB;have BK193:=n0_;have BK194:=n1_;have HB:=n2_;have BK195:=n3_;have GW195:=n4_;have GE195:=n5_;have NB193_195:=n6_;have NB195_193:=n7_;have NB194_195:=n8_;have NB195_194:=n9_;clear n0_ n1_ n2_ n3_ n4_ n5_ n6_ n7_ n8_ n9_;clear hb hbox hg;have hnb6:=NB193_194.out;have hnc6:=NB194_193.out;have hnb7:=NB193_195.out;have hnc7:=NB195_193.out;have hcz8_0:w5.cell? ⟨gb193,0,none⟩=some (.slice A0_0 l0_0.length c0_0):=(qab BK193.out 0).trans rfl;have hcz8_1:w5.cell? ⟨gb193,1,none⟩=some (.int .i64 a0_1):=(qab BK193.out 1).trans rfl;have hfz8_0:=qaa BK193.out 0;have hfz8_1:=qaa BK193.out 1)|((with_reducible refine qaj (f:=36) rfl ?_);refine goesL_ (some 6) rfl rfl Try.func36 (by kernel_rfl) rfl #[.slice A0_0 l0_0.length c0_0] rfl (by(try simp only[List.map_toArray,List.map_cons,List.map_nil]);first|done|rfl|(simp only[List.length_drop,List.length_take];rfl)) ?_;(with_reducible refine(laws_toRecS.calls k _ _ l0_0 t196 _ ?side1 ?side2 A2.out).mono ?_);(case side1=>repeat(first|exact(Kd.C_below HR0_0.out HB.out)|(with_reducible refine Kd.C_alloc ?_ _)|(with_reducible refine Kd.C_drewN ?_ _)|(with_reducible refine Kd.C_drew ?_)));(case side2=>exact HC0_0.out);rintro e w9 ⟨v197,rfl,ho0,hb⟩;refine⟨_,rfl,?_⟩;have n0_:=qam.mk (Kd.S_lower ho0 (qac (za5 HB GE193 GE194 GE195)));have n1_:=qam.mk (qae (g:=gb193) (o:=.cells #[.slice A0_0 l0_0.length c0_0,.int .i64 a0_1] 24 (0,0)) (za0 BK193) hb);have n2_:=qam.mk (qae (g:=gb194) (o:=.cells #[.slice none 0 0,.int .i64 0] 31 (0,0)) (za0 BK194) hb);have n3_:=qam.mk (qae (g:=gb195) (o:=.cells #[.slice none 0 0,.int .i64 0] 31 (0,0)) (za0 BK195) hb);have n4_:=qam.mk (qad (za5 HB GE193 GE194 GE195) hb);clear BK193;clear BK194;clear BK195;clear HB;have HO198:=n0_;have BK193:=n1_;have BK194:=n2_;have BK195:=n3_;have HB:=n4_;clear n0_ n1_ n2_ n3_ n4_;(try clear hb);(try clear hb2);(try clear hk);(try clear hi);(try clear ho0);obtain⟨Ao10,co10,eo10⟩:=Kd.S_slice HO198.out;subst eo10;have hnb11:=NB195_194.out;have hnc11:=NB194_195.out;have hcz12_0:w9.cell? ⟨gb195,0,none⟩=some (.slice none 0 0):=(qab BK195.out 0).trans rfl;have hcz12_1:w9.cell? ⟨gb195,1,none⟩=some (.int .i64 0):=(qab BK195.out 1).trans rfl;have hfz12_0:=qaa BK195.out 0;have hfz12_1:=qaa BK195.out 1;have hcz13_0:w9.cell? ⟨gb193,0,none⟩=some (.slice A0_0 l0_0.length c0_0):=(qab BK193.out 0).trans rfl;have hcz13_1:w9.cell? ⟨gb193,1,none⟩=some (.int .i64 a0_1):=(qab BK193.out 1).trans rfl;have hfz13_0:=qaa BK193.out 0;have hfz13_1:=qaa BK193.out 1;have hcz14_0:w9.cell? ⟨gb194,0,none⟩=some (.slice none 0 0):=(qab BK194.out 0).trans rfl;have hcz14_1:w9.cell? ⟨gb194,1,none⟩=some (.int .i64 0):=(qab BK194.out 1).trans rfl;have hfz14_0:=qaa BK194.out 0;have hfz14_1:=qaa BK194.out 1))
 refine bodyPost_ret (results_cell_row rfl _ _ gb194 31 #[.slice Ao10 t196.length co10,.int .i64 a0_1] (0,0) _ rfl (by(with_reducible repeat(first|refine qah ?_ _|refine qaf ?_|refine qag ?_ _));refine qan (cs:=#[.slice Ao10 t196.length co10,.int .i64 0]) ?_ 1 _ rfl;(with_reducible repeat(first|refine qah ?_ _|refine qaf ?_|refine qag ?_ _));refine qan (cs:=#[.slice none 0 0,.int .i64 0]) ?_ 0 _ rfl;(with_reducible repeat(first|refine qah ?_ _|refine qaf ?_|refine qag ?_ _));refine blk_far ?_ NB194_195.out _;(with_reducible repeat(first|refine qah ?_ _|refine qaf ?_|refine qag ?_ _));refine blk_far ?_ NB194_195.out _;(with_reducible repeat(first|refine qah ?_ _|refine qaf ?_|refine qag ?_ _));exact BK194.out) Try.underlying31 rfl (by kernel_rfl)) rfl ?_
 exact⟨_,za8,by(with_reducible repeat(first|apply Kd.S_alloc|apply Kd.S_drewN|apply Kd.S_drew));exact Kd.S_mono (Kd.S_far (p:=⟨gb194,1,none⟩) (Kd.S_far (p:=⟨gb194,0,none⟩) (Kd.S_far (p:=⟨gb195,1,none⟩) (Kd.S_far (p:=⟨gb195,0,none⟩) (Kd.S_types (Kd.S_types HO198.out BK195.out (by decide)) BK194.out (by decide)) (fun _ hk=>hk.1.2) (.slice Ao10 t196.length co10)) (fun _ hk=>hk.1.2) (.int .i64 a0_1)) (fun _ hk=>hk.2) (.slice Ao10 t196.length co10)) (fun _ hk=>hk.2) (.int .i64 a0_1)) (fun _ hk=>trivial),za5 HB GE193 GE194 GE195⟩
end Go.Proofs.Ytbomcadjkcmcgaa.Print
