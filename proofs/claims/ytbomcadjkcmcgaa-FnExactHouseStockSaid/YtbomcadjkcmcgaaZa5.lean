-- Written by squeeze.py: not trusted, Lean checks it.
import Derived.Test.YtbomcadjkcmcgaaZK
import Derived.Test.YtbomcadjkcmcgaaZa4
namespace Go.Proofs.Ytbomcadjkcmcgaa.Print
open Go.RowKit Go.Proofs.YtbomcadjkcmcgaaW.PrintWords Go.Proofs.YtbomcadjkcmcgaaW.PrintLast Go.Proofs.YtbomcadjkcmcgaaW.PrintMore
attribute [local go_sem] max2_int min2_int max_two min_two max_three min_three max_four min_four
set_option linter.unusedVariables false
set_option linter.unusedSimpArgs false
def laws_toRecS.l0:Nat→List (S75)→List (S62)→Int→Option ((List (S62)))
 |0,_,_,_=>none
 |k+1,x0,x3,x4=>if x4<(x0.length:Int) then(if 0≤x4 then((laws_toRec.f k ((rd_T75 x0 x4).f0) ((rd_T75 x0 x4).f1) ((rd_T75 x0 x4).f2)).bind fun bt187=>(if x4<(x3.length:Int) then(laws_toRecS.l0 k x0 (x3.set (x4:Int).toNat (⟨bt187.1,bt187.2.1,bt187.2.2⟩:S62)) (wrap64 (x4+1))) else(none))) else(none)) else(some x3)
def laws_toRecS.f (k:Nat) (l0:List (S75)):Option ((List (S62))):=if 0≤(l0.length:Int) then(if((l0.length:Int):Int).toNat≤7036874417766 then(laws_toRecS.l0 k l0 (List.replicate ((l0.length:Int):Int).toNat z62) 0) else(none)) else(none)
theorem laws_toRecS.mono_l:∀k,(∀y0 y1 y2,LeO (laws_toRecS.l0 k y0 y1 y2) (laws_toRecS.l0 (k+1) y0 y1 y2))
 |0=>fun _ _ _ r h=>by simp[laws_toRecS.l0] at h
 |k+1=>by
  have ih0:=laws_toRecS.mono_l k
  ·intro y0 y1 y2;unfold laws_toRecS.l0
   repeat' first|(with_reducible exact ih0 _ _ _)|(with_reducible exact laws_toRec.mono _ _ _ _)|(with_reducible exact LeO.refl _)|(with_reducible exact LeO.none _)|(with_reducible refine LeO.ite ?_ ?_)|(with_reducible refine LeO.bind ?_ (fun _=>?_))|exact ih0 _ _ _|exact laws_toRec.mono _ _ _ _|exact LeO.none _|refine LeO.ite ?_ ?_|refine LeO.bind ?_ (fun _=>?_)
theorem laws_toRecS.mono:∀a0 k,LeO (laws_toRecS.f k a0) (laws_toRecS.f (k+1) a0):=by
 intro a0 k;have ih0:=laws_toRecS.mono_l k;unfold laws_toRecS.f
 repeat' first|(with_reducible exact ih0 _ _ _)|(with_reducible exact laws_toRec.mono _ _ _ _)|(with_reducible exact LeO.refl _)|(with_reducible exact LeO.none _)|(with_reducible refine LeO.ite ?_ ?_)|(with_reducible refine LeO.bind ?_ (fun _=>?_))|exact ih0 _ _ _|exact laws_toRec.mono _ _ _ _|exact LeO.none _|refine LeO.ite ?_ ?_|refine LeO.bind ?_ (fun _=>?_)
set_option maxHeartbeats 8000000 in
set_option maxRecDepth 100000 in
theorem laws_toRecS.calls (k:Nat) (A0:Option Addr) (c0:Nat) (l0:List (S75)) (r:List (S62)) (w:World) (hr0:Kd.C k75 w A0 l0.length l0) (hc0:l0.length≤c0) (h:laws_toRecS.f k l0=some r) :
  Calls Try.prog 36 #[.slice A0 l0.length c0] w fun e w'=>∃v0_:Value,e=.returned (v0_)∧Kd.S k62 62 w' w.heap.size (fun _=>True) v0_ r∧Below w.heap.size w w':=by
 have hu75:=Try.underlying75;have hu62:=Try.underlying62;have HR0:=qah.mk hr0;have HC0:=qah.mk hc0;clear hr0 hc0;have HB:=qah.mk (Below.refl w.heap.size w);have H:(if 0≤(l0.length:Int) then(if((l0.length:Int):Int).toNat≤7036874417766 then(laws_toRecS.l0 k l0 (List.replicate ((l0.length:Int):Int).toNat z62) 0) else(none)) else(none))=some r:=h;clear h;by_cases c2:0≤(l0.length:Int)
 ·rw[if_pos c2] at H;have c2b0:=eq_true c2;have c2b1:decide (0≤(l0.length:Int))=true:=decide_eq_true c2;clear c2;by_cases c3:((l0.length:Int):Int).toNat≤7036874417766
  ·rw[if_pos c3] at H;have c3b0:=eq_true c3;have c3b1:decide (((l0.length:Int):Int).toNat≤7036874417766)=true:=decide_eq_true c3;clear c3;obtain⟨y183,hy183⟩:∃y_:List (S62),y_=(List.replicate ((l0.length:Int):Int).toNat z62):=⟨_,rfl⟩
   replace H:(laws_toRecS.l0 k l0 y183 0)=some r:=by first|(rw[hy183];with_reducible exact H)|(have H2_:=(Option.bind_some _ _).symm.trans H;rw[hy183];with_reducible exact H2_)|(have H2_:=(Option.bind_some _ _).symm.trans H;with_reducible exact H2_)|with_reducible exact H|(rw[hy183];exact H)|exact H
   have Ny183:=qah.mk hy183;clear hy183;have H':=qah.mk H;clear H;go_enter Try.func36,Try.ntmps36
   go_wp2_with(first|((with_reducible refine qag (N:=7) rfl ?_);refine Kd.S_make k62 _ 62 rfl (N:=7) rfl 29 _ _ rfl (l0.length:Int) rfl rfl Try.underlying29 (.agg #[(.int .i64 0),(.int .i64 0),(.slice none 0 0)]) 40 info62 rfl (by decide) (by omega) z62 (ok:=fun _=>True) (okp:=fun _=>True) (k62_mkM _ _ _ z62 (Kd.R_nil _ _ _ _ _)) (fun _ hk=>hk) trivial (of_decide_eq_true (za7)) (Nat.le_trans (Nat.mul_le_mul_right _ (of_decide_eq_true (za7):(l0.length:Int).toNat≤7036874417766)) (by omega)) (Below.refl _ _) (Nat.le_refl _) ?_;intro v184 w4 ho5 hb hg_ hnew_;clear hg_ hnew_;(first|rw[←Ny183.out] at ho5|(simp only[Int.reduceToNat] at ho5;rw[←Ny183.out] at ho5));have HO185:=qah.mk (Kd.S_lower ho5 (qam (za1 HB)));replace HB:=qah.mk (qaa (za1 HB) hb);clear hb ho5))
   go_loopg [4] k (fun kq v4 w'=>∃(x3_1:List (S62)) (x4_1:Int),v4=.int .i64 x4_1∧qah (laws_toRecS.l0 kq l0 x3_1 x4_1=some r)∧qah (kq≤k)∧qah (Kd.S k62 62 w' w.heap.size (fun _=>True) v184 x3_1)∧qah (Below w.heap.size w w'))
   case atStart=>exact⟨(y183),(0),(za11),H',⟨Nat.le_refl _⟩,⟨za9 HO185⟩,⟨za1 HB⟩⟩
   case round=>
    clear H'
    try clear c2
    try clear c2b0
    try clear c2b1
    try clear p2
    try clear c3
    try clear c3b0
    try clear c3b1
    obtain⟨x3_1,x4_1,rfl,HA,HK1,HO_3,HB⟩:=hrel
    cases gk with
    |zero=>exact absurd HA.out (by simp[laws_toRecS.l0])
    |succ k1=>
     have H:=HA.out;clear HA;simp only[laws_toRecS.l0] at H;by_cases c6:x4_1<(l0.length:Int)
     ·rw[if_pos c6] at H;have c6b0:decide (x4_1<(l0.length:Int))=true:=decide_eq_true c6;clear c6;by_cases c7:0≤x4_1
      ·rw[if_pos c7] at H;have c7b0:decide (0≤x4_1)=true:=decide_eq_true c7;clear c7;replace H:=Option.bind_eq_some_iff.mp H;obtain⟨⟨t187,t188,t189⟩,A80,H⟩:=H;replace H:(if x4_1<(x3_1.length:Int) then(laws_toRecS.l0 k1 l0 (x3_1.set (x4_1:Int).toNat (⟨t187,t188,t189⟩:S62)) (wrap64 (x4_1+1))) else(none))=some r:=H;have A8:=qah.mk A80;clear A80;by_cases c9:x4_1<(x3_1.length:Int)
       ·rw[if_pos c9] at H;have c9b0:decide (x4_1<(x3_1.length:Int))=true:=decide_eq_true c9;clear c9;obtain⟨y192,hy192⟩:∃y_:List (S62),y_=(x3_1.set (x4_1:Int).toNat (⟨t187,t188,t189⟩:S62)):=⟨_,rfl⟩
        replace H:(laws_toRecS.l0 k1 l0 y192 (wrap64 (x4_1+1)))=some r:=by first|(rw[hy192];with_reducible exact H)|(have H2_:=(Option.bind_some _ _).symm.trans H;rw[hy192];with_reducible exact H2_)|(have H2_:=(Option.bind_some _ _).symm.trans H;with_reducible exact H2_)|with_reducible exact H|(rw[hy192];exact H)|exact H
        have Ny192:=qah.mk hy192;clear hy192;have H':=qah.mk H;clear H;have p186:0≤(x4_1:Int):=of_decide_eq_true (za7);have q186:x4_1<(l0.length:Int):=of_decide_eq_true (za7);obtain⟨ad186,A186_2,c186_2,e186,hx186_0,hx186_1,hx186_2,hl186_2,hi186_2⟩:=at_T75 HR0.out x4_1 p186 q186
        cases e186
        have hxo186_2:=qah.mk hx186_2;replace hx186_0:=(HB.out.cell (World.block_lt_of_cell? w _ hx186_0)).trans hx186_0;replace hx186_1:=(HB.out.cell (World.block_lt_of_cell? w _ hx186_1)).trans hx186_1;replace hx186_2:=(HB.out.cell (World.block_lt_of_cell? w _ hx186_2)).trans hx186_2;have HR186_2:=qah.mk hi186_2;have HC186_2:=qah.mk hl186_2;clear hi186_2 hl186_2;replace p186:=eq_true p186;replace q186:=eq_true q186
        go_wp2_with(first|((with_reducible refine qaf (f:=50) rfl ?_);refine zF (some 20) Try.func50 #[.agg #[.int .i64 ((rd_T75 l0 x4_1).f0),.int .i64 ((rd_T75 l0 x4_1).f1),.slice A186_2 ((rd_T75 l0 x4_1).f2).length c186_2]] ?_;(with_reducible refine(laws_toRec.calls k1 ((rd_T75 l0 x4_1).f0) ((rd_T75 l0 x4_1).f1) _ _ ((rd_T75 l0 x4_1).f2) t187 t188 t189 _ ?side1 ?side2 A8.out).mono ?_);(case side1=>exact zR HR186_2 HB);(case side2=>exact HC186_2.out);rintro e w11 ⟨v190,rfl,ho0,hb⟩;refine⟨_,rfl,?_⟩;have hst_v190:∀(W_:World) (a_:Addr) (m_:Mode),(store a_ v190 m_).run Try.prog W_=stored Try.prog W_ a_ v190 m_:=fun W_ a_ m_=>run_store _ _ _ _ _ (Kd.R_val ho0).2;replace HO_3:=qah.mk (Kd.S_elder' (za9 HO_3) (Kd.R_base ho0) hb);have HO191:=qah.mk (Kd.R_lower ho0 (qam (za1 HB)));replace HB:=qah.mk (qaa (za1 HB) hb);(try clear hb);(try clear ho0);have p10:0≤(x4_1:Int):=of_decide_eq_true (za7);have q10:(x4_1:Int)<((x3_1.length:Int):Int):=of_decide_eq_true (za7);obtain⟨go10,co10,eo10,gb10,gl10,cl10,HG10⟩:=Kd.S_form HO_3.out (by omega);(first|cases eo10|(injection eo10 with ea_ en_ ec_;(first|subst ea_|(injection ea_ with ea_;subst ea_));subst ec_;clear en_));have GB10:=qah.mk gb10;have GG10:=qah.mk HG10;clear gb10 gl10 HG10;obtain⟨_,ce10,hcl10,hM10,hcc10,hfr10,_,_⟩:=Kd.S_elem HO_3.out z62 (x4_1:Int) p10 q10;obtain⟨ve10_2,rfl,ge10_2⟩:=k62_openM hM10;have hx10_0:w11.cell? ⟨go10,(x4_1:Int).toNat*3,none⟩=some (.int .i64 ((rd_T62 x3_1 x4_1).f0)):=hcc10 0 _ rfl;have hx10_1:w11.cell? ⟨go10,(x4_1:Int).toNat*3+1,none⟩=some (.int .i64 ((rd_T62 x3_1 x4_1).f1)):=hcc10 1 _ rfl;have hx10_2:w11.cell? ⟨go10,(x4_1:Int).toNat*3+2,none⟩=some (ve10_2):=hcc10 2 _ rfl;have hf10_0:w11.frozen? ⟨go10,(x4_1:Int).toNat*3,none⟩=false:=hfr10 0;have hf10_1:w11.frozen? ⟨go10,(x4_1:Int).toNat*3+1,none⟩=false:=hfr10 1;have hf10_2:w11.frozen? ⟨go10,(x4_1:Int).toNat*3+2,none⟩=false:=hfr10 2;clear hcl10 hcc10 hfr10 hM10;replace p10:=eq_true p10;replace q10:=eq_true q10;have n_:=qah.mk (Kd.S_mono (ok':=(fun k_=>some k_≠(v190:Value).ownBlock)) HO_3.out (fun k_ hk=>hk.2));clear HO_3;have HO_3:=n_;clear n_;have HX12:=qah.mk (show Kd.S k62 62 w11 w.heap.size (fun k_=>((fun _=>True)) k_∧¬((fun k_=>some k_=(v190:Value).ownBlock)) k_) (.slice (some ⟨go10,0,none⟩) x3_1.length co10) x3_1 from(by(with_reducible repeat(first|apply Kd.S_alloc|apply Kd.S_drewN|apply Kd.S_drew));exact Kd.S_mono HO_3.out (fun k_ hk=>⟨trivial,fun e_=>hk e_⟩)));obtain⟨oki12,ce12,hcl12,hM12,hcc12,hfr12,hoki12,hH12⟩:=Kd.S_elem HX12.out z62 (x4_1:Int) (of_decide_eq_true (za7)) (by have h_:(x4_1:Int)<((x3_1.length:Int):Int):=of_decide_eq_true (za7);first|exact h_|(have e_:=(Kd.S_reads' HO_3.out).1;omega)|simpa using h_);obtain⟨ve12_2,rfl,ge12_2⟩:=k62_openM hM12;have HP12:=Kd.S_seg hH12 (of_decide_eq_true (za7)) (by have h_:(x4_1:Int)<((x3_1.length:Int):Int):=of_decide_eq_true (za7);first|exact h_|(have e_:=(Kd.S_reads' HO_3.out).1;omega)|simpa using h_) (seg:=[.int .i64 t187,.int .i64 t188,v190]) (j:=0) (show 3≤3 from by decide) (x':=(⟨t187,t188,t189⟩:S62)) (k62_mkM _ _ _ (⟨t187,t188,t189⟩:S62) (Kd.R_mono (Kd.R_tight rfl (Kd.R_mono (ok':=fun k_=>((fun _=>True)) k_∧k_≠go10) (Kd.R_apart' (HO191.out) (Kd.S_typed HO_3.out) (by decide)) (fun k_ hk=>⟨trivial,fun e_=>(hk.2) (by rw[e_];rfl)⟩))) (fun _ h_=>Or.inr (h_)))) (fun _ hk=>hk) (fun k_ hk_=>((Kd.R_mono (ok':=fun k_=>((fun _=>True)) k_∧k_≠go10) (Kd.R_apart' (HO191.out) (Kd.S_typed HO_3.out) (by decide)) (fun k_ hk=>⟨trivial,fun e_=>(hk.2) (by rw[e_];rfl)⟩))).1 k_ hk_.symm);have hx12_0:=hcc12 0 _ rfl;(try simp only[show(k62).sz=3 from rfl,Nat.mul_one,Nat.add_zero] at hx12_0);have hf12_0:=hfr12 0;(try simp only[show(k62).sz=3 from rfl,Nat.mul_one,Nat.add_zero] at hf12_0);have hx12_1:=hcc12 1 _ rfl;(try simp only[show(k62).sz=3 from rfl,Nat.mul_one,Nat.add_zero] at hx12_1);have hf12_1:=hfr12 1;(try simp only[show(k62).sz=3 from rfl,Nat.mul_one,Nat.add_zero] at hf12_1);have hx12_2:=hcc12 2 _ rfl;(try simp only[show(k62).sz=3 from rfl,Nat.mul_one,Nat.add_zero] at hx12_2);have hf12_2:=hfr12 2;(try simp only[show(k62).sz=3 from rfl,Nat.mul_one,Nat.add_zero] at hf12_2);clear hcl12 hcc12 hfr12 hM12 hoki12 hH12)|((with_reducible refine gate_store (t:=62) (p:=21) rfl ?_);refine store_event (t:=62) (p:=21) (v:=?vo_w13) (w1:=(((w11.setCell ⟨go10,(x4_1:Int).toNat*3,none⟩ (.int .i64 t187)).setCell ⟨go10,(x4_1:Int).toNat*3+1,none⟩ (.int .i64 t188)).setCell ⟨go10,(x4_1:Int).toNat*3+2,none⟩ (v190))) ?hg ?ho ?hn ?hr ?_;(case ho=>rfl);(case hg=>rfl);(case hn=>rfl);(case hr=>first|(go_simp;done)|(go_simp;rfl));intro w13 hw;have hg:w11.grownBy w13 (some go10):=(by rw[hw];exact HP12.2);have hp_:Kd.S k62 62 w13 w.heap.size (fun _=>True) (.slice (some ⟨go10,0,none⟩) x3_1.length co10) y192:=(by rw[hw,Ny192.out];exact HP12.1);clear HP12;replace HO_3:=qah.mk hp_;replace HB:=qah.mk ((by rw[hw];exact below_set (below_set (below_set (HB.out) GB10.out) GB10.out) GB10.out:Below w.heap.size w w13));clear HO191;clear hg hw hp_))
        go_roundg k1
        case measure=>have:=HK1.out;omega
        case rel=>exact⟨(y192),(wrap64 (x4_1+1)),(za11),H',⟨by have:=HK1.out;omega⟩,⟨za9 HO_3⟩,⟨za1 HB⟩⟩
       ·rw[if_neg c9] at H;exact absurd H (by simp)
      ·rw[if_neg c7] at H;exact absurd H (by simp)
     ·rw[if_neg c6] at H;have c6b0:decide (x4_1<(l0.length:Int))=false:=decide_eq_false c6;clear c6;obtain rfl:=Option.some.inj H;go_wp2;go_ret;exact⟨_,za8,za9 HO_3,za1 HB⟩
  ·rw[if_neg c3] at H;exact absurd H (by simp)
 ·rw[if_neg c2] at H;exact absurd H (by simp)
def laws_toLog.f (k:Nat) (l0_0:List (S75)) (a0_1:Int):Option ((List (S62)) × Int):=(laws_toRecS.f k l0_0).bind fun t196=>(some (t196,a0_1))
theorem laws_toLog.mono:∀a0 a1 k,LeO (laws_toLog.f k a0 a1) (laws_toLog.f (k+1) a0 a1):=by
 intro a0 a1 k;unfold laws_toLog.f
 repeat' first|(with_reducible exact laws_toRecS.mono _ _)|(with_reducible exact LeO.refl _)|(with_reducible exact LeO.none _)|(with_reducible refine LeO.ite ?_ ?_)|(with_reducible refine LeO.bind ?_ (fun _=>?_))|exact laws_toRecS.mono _ _|exact LeO.none _|refine LeO.ite ?_ ?_|refine LeO.bind ?_ (fun _=>?_)
set_option maxHeartbeats 8000000 in
set_option maxRecDepth 100000 in
theorem laws_toLog.calls (k:Nat) (A0_0:Option Addr) (c0_0:Nat) (l0_0:List (S75)) (a0_1:Int) (r1:List (S62)) (r2:Int) (w:World) (hr0_0:Kd.C k75 w A0_0 l0_0.length l0_0) (hc0_0:l0_0.length≤c0_0) (h:laws_toLog.f k l0_0 a0_1=some (r1,r2)) :
  Calls Try.prog 20 #[.agg #[.slice A0_0 l0_0.length c0_0,.int .i64 a0_1]] w fun e w'=>∃v0_:Value,e=.returned (.agg #[v0_,.int .i64 r2])∧Kd.S k62 62 w' w.heap.size (fun _=>True) v0_ r1∧Below w.heap.size w w':=by
 have hu24:=Try.underlying24;have hu31:=Try.underlying31;have HR0_0:=qah.mk hr0_0;have HC0_0:=qah.mk hc0_0;clear hr0_0 hc0_0;have HB:=qah.mk (Below.refl w.heap.size w);have H:((laws_toRecS.f k l0_0).bind fun t196=>(some (t196,a0_1)))=some (r1,r2):=h;clear h;replace H:=Option.bind_eq_some_iff.mp H;obtain⟨t196,A20,H⟩:=H;replace H:(some (t196,a0_1))=some (r1,r2):=H;have A2:=qah.mk A20;clear A20;simp only[Option.some.injEq,Prod.mk.injEq] at H;obtain⟨rfl,rfl⟩:=H;go_enter Try.func20,Try.ntmps20
 go_wp2_with(first|((with_reducible refine qag (N:=1) rfl ?_);refine zX (N:=1) (cs:=#[.slice A0_0 l0_0.length c0_0,.int .i64 a0_1]) (t:=24) ?_;intro gb193 hg w3 hbox hb;have BK193:=qah.mk hbox;have GW193:=zH (w:=w) hg (za1 HB);have GE193:=GW193;replace HB:=qah.mk (qaa (za1 HB) hb);clear hb hbox hg)|((with_reducible refine qag (N:=2) rfl ?_);refine zX (N:=2) (cs:=#[.slice none 0 0,.int .i64 0]) (t:=31) ?_;intro gb194 hg w4 hbox hb;have BK194:=qah.mk hbox;have GW194:=zH (w:=w) hg (za0 HB GE193);have GE194:=GW194;replace HB:=qah.mk (qaa (za0 HB GE193) hb);have NB193_194:=zL BK193 hg;have NB194_193:=zG BK193 hg;replace BK193:=zY BK193 hb;clear hb hbox hg)|((with_reducible refine qag (N:=3) rfl ?_);refine zX (N:=3) (cs:=#[.slice none 0 0,.int .i64 0]) (t:=31) ?_;intro gb195 hg w5 hbox hb;have BK195:=qah.mk hbox;have GW195:=zH (w:=w) hg (za2 HB GE193 GE194);have GE195:=GW195;replace HB:=qah.mk (qaa (za2 HB GE193 GE194) hb);have NB193_195:=zL BK193 hg;have NB195_193:=zG BK193 hg;replace BK193:=zY BK193 hb;have NB194_195:=zL BK194 hg;have NB195_194:=zG BK194 hg;replace BK194:=zY BK194 hb;clear hb hbox hg;have hnb6:=NB193_194.out;have hnc6:=NB194_193.out;have hnb7:=NB193_195.out;have hnc7:=NB195_193.out;obtain⟨hcz8_0,hcz8_1,hfz8_0,hfz8_1⟩:=zC2 BK193)|((with_reducible refine qaf (f:=36) rfl ?_);refine zF (some 6) Try.func36 #[.slice A0_0 l0_0.length c0_0] ?_;(with_reducible refine(laws_toRecS.calls k _ _ l0_0 t196 _ ?side1 ?side2 A2.out).mono ?_);(case side1=>exact zR HR0_0 HB);(case side2=>exact HC0_0.out);rintro e w9 ⟨v197,rfl,ho0,hb⟩;refine⟨_,rfl,?_⟩;have HO198:=qah.mk (Kd.S_lower ho0 (qam (za3 HB GE193 GE194 GE195)));replace BK193:=zY BK193 hb;replace BK194:=zY BK194 hb;replace BK195:=zY BK195 hb;replace HB:=qah.mk (qaa (za3 HB GE193 GE194 GE195) hb);(try clear hb);(try clear ho0);obtain⟨Ao10,co10,eo10⟩:=Kd.S_slice HO198.out;subst eo10;have hnb11:=NB195_194.out;have hnc11:=NB194_195.out;obtain⟨hcz12_0,hcz12_1,hfz12_0,hfz12_1⟩:=zC2 BK195;obtain⟨hcz13_0,hcz13_1,hfz13_0,hfz13_1⟩:=zC2 BK193;obtain⟨hcz14_0,hcz14_1,hfz14_0,hfz14_1⟩:=zC2 BK194))
 refine bodyPost_ret (results_cell_row rfl _ _ gb194 31 #[.slice Ao10 t196.length co10,.int .i64 a0_1] (0,0) _ rfl (by(with_reducible repeat(first|refine qae ?_ _|refine qac ?_|refine qad ?_ _));refine qai (cs:=#[.slice Ao10 t196.length co10,.int .i64 0]) ?_ 1 _ rfl;(with_reducible repeat(first|refine qae ?_ _|refine qac ?_|refine qad ?_ _));refine qai (cs:=#[.slice none 0 0,.int .i64 0]) ?_ 0 _ rfl;(with_reducible repeat(first|refine qae ?_ _|refine qac ?_|refine qad ?_ _));refine blk_far ?_ NB194_195.out _;(with_reducible repeat(first|refine qae ?_ _|refine qac ?_|refine qad ?_ _));refine blk_far ?_ NB194_195.out _;(with_reducible repeat(first|refine qae ?_ _|refine qac ?_|refine qad ?_ _));exact BK194.out) Try.underlying31 rfl (by kernel_rfl)) rfl ?_
 exact⟨_,za8,by(with_reducible repeat(first|apply Kd.S_alloc|apply Kd.S_drewN|apply Kd.S_drew));exact Kd.S_mono (Kd.S_far (p:=⟨gb194,1,none⟩) (Kd.S_far (p:=⟨gb194,0,none⟩) (Kd.S_far (p:=⟨gb195,1,none⟩) (Kd.S_far (p:=⟨gb195,0,none⟩) (Kd.S_types (Kd.S_types HO198.out BK195.out (by decide)) BK194.out (by decide)) (fun _ hk=>hk.1.2) (.slice Ao10 t196.length co10)) (fun _ hk=>hk.1.2) (.int .i64 a0_1)) (fun _ hk=>hk.2) (.slice Ao10 t196.length co10)) (fun _ hk=>hk.2) (.int .i64 a0_1)) (fun _ hk=>trivial),za3 HB GE193 GE194 GE195⟩
def laws_toHouse.f (k:Nat) (a0_0:Int) (a0_1:Bool) (a0_2:Int) (l0_3:List (S75)) (a0_4:Int):Option (Int × Bool × Int × (List (S62)) × Int):=(laws_toLog.f k l0_3 a0_4).bind fun bt202=>(some (a0_0,a0_1,a0_2,bt202.1,bt202.2))
theorem laws_toHouse.mono:∀a0 a1 a2 a3 a4 k,LeO (laws_toHouse.f k a0 a1 a2 a3 a4) (laws_toHouse.f (k+1) a0 a1 a2 a3 a4):=by
 intro a0 a1 a2 a3 a4 k;unfold laws_toHouse.f
 repeat' first|(with_reducible exact laws_toLog.mono _ _ _)|(with_reducible exact LeO.refl _)|(with_reducible exact LeO.none _)|(with_reducible refine LeO.ite ?_ ?_)|(with_reducible refine LeO.bind ?_ (fun _=>?_))|exact laws_toLog.mono _ _ _|exact LeO.none _|refine LeO.ite ?_ ?_|refine LeO.bind ?_ (fun _=>?_)
set_option maxHeartbeats 8000000 in
set_option maxRecDepth 100000 in
theorem laws_toHouse.calls (k:Nat) (a0_0:Int) (a0_1:Bool) (a0_2:Int) (A0_3:Option Addr) (c0_3:Nat) (l0_3:List (S75)) (a0_4:Int) (r1:Int) (r2:Bool) (r3:Int) (r4:List (S62)) (r5:Int) (w:World) (hr0_3:Kd.C k75 w A0_3 l0_3.length l0_3) (hc0_3:l0_3.length≤c0_3) (h:laws_toHouse.f k a0_0 a0_1 a0_2 l0_3 a0_4=some (r1,r2,r3,r4,r5)) :
  Calls Try.prog 7 #[.agg #[.int .i64 a0_0,.bool a0_1,.int .i64 a0_2,.slice A0_3 l0_3.length c0_3,.int .i64 a0_4]] w fun e w'=>∃v3_:Value,e=.returned (.agg #[.int .i64 r1,.bool r2,.int .i64 r3,v3_,.int .i64 r5])∧Kd.S k62 62 w' w.heap.size (fun _=>True) v3_ r4∧Below w.heap.size w w':=by
 have hu26:=Try.underlying26;have hu33:=Try.underlying33;have hu24:=Try.underlying24;have hu31:=Try.underlying31;have HR0_3:=qah.mk hr0_3;have HC0_3:=qah.mk hc0_3;clear hr0_3 hc0_3;have HB:=qah.mk (Below.refl w.heap.size w);have H:((laws_toLog.f k l0_3 a0_4).bind fun bt202=>(some (a0_0,a0_1,a0_2,bt202.1,bt202.2)))=some (r1,r2,r3,r4,r5):=h;clear h;replace H:=Option.bind_eq_some_iff.mp H;obtain⟨⟨t202,t205⟩,A20,H⟩:=H;replace H:(some (a0_0,a0_1,a0_2,t202,t205))=some (r1,r2,r3,r4,r5):=H;have A2:=qah.mk A20;clear A20;simp only[Option.some.injEq,Prod.mk.injEq] at H;obtain⟨rfl,rfl,rfl,rfl,rfl⟩:=H;go_enter Try.func7,Try.ntmps7
 go_wp2_with(first|((with_reducible refine qag (N:=1) rfl ?_);refine zX (N:=1) (cs:=#[.int .i64 a0_0,.bool a0_1,.int .i64 a0_2,.slice A0_3 l0_3.length c0_3,.int .i64 a0_4]) (t:=26) ?_;intro gb199 hg w3 hbox hb;have BK199:=qah.mk hbox;have GW199:=zH (w:=w) hg (za1 HB);have GE199:=GW199;replace HB:=qah.mk (qaa (za1 HB) hb);clear hb hbox hg)|((with_reducible refine qag (N:=2) rfl ?_);refine zX (N:=2) (cs:=#[.int .i64 0,.bool false,.int .i64 0,.slice none 0 0,.int .i64 0]) (t:=33) ?_;intro gb200 hg w4 hbox hb;have BK200:=qah.mk hbox;have GW200:=zH (w:=w) hg (za0 HB GE199);have GE200:=GW200;replace HB:=qah.mk (qaa (za0 HB GE199) hb);have NB199_200:=zL BK199 hg;have NB200_199:=zG BK199 hg;replace BK199:=zY BK199 hb;clear hb hbox hg)|((with_reducible refine qag (N:=3) rfl ?_);refine zX (N:=3) (cs:=#[.int .i64 0,.bool false,.int .i64 0,.slice none 0 0,.int .i64 0]) (t:=33) ?_;intro gb201 hg w5 hbox hb;have BK201:=qah.mk hbox;have GW201:=zH (w:=w) hg (za2 HB GE199 GE200);have GE201:=GW201;replace HB:=qah.mk (qaa (za2 HB GE199 GE200) hb);have NB199_201:=zL BK199 hg;have NB201_199:=zG BK199 hg;replace BK199:=zY BK199 hb;have NB200_201:=zL BK200 hg;have NB201_200:=zG BK200 hg;replace BK200:=zY BK200 hb;clear hb hbox hg;have hnb6:=NB199_200.out;have hnc6:=NB200_199.out;have hnb7:=NB199_201.out;have hnc7:=NB201_199.out;obtain⟨hcz8_0,hcz8_1,hcz8_2,hcz8_3,hcz8_4,hfz8_0,hfz8_1,hfz8_2,hfz8_3,hfz8_4⟩:=zC5 BK199;have hnb9:=NB201_200.out;have hnc9:=NB200_201.out;obtain⟨hcz10_0,hcz10_1,hcz10_2,hcz10_3,hcz10_4,hfz10_0,hfz10_1,hfz10_2,hfz10_3,hfz10_4⟩:=zC5 BK201)|((with_reducible refine qaf (f:=20) rfl ?_);refine zF (some 15) Try.func20 #[.agg #[.slice A0_3 l0_3.length c0_3,.int .i64 a0_4]] ?_;(with_reducible refine(laws_toLog.calls k _ _ l0_3 a0_4 t202 t205 _ ?side1 ?side2 A2.out).mono ?_);(case side1=>exact Kd.C_below HR0_3.out (za3 HB GE199 GE200 GE201));(case side2=>exact HC0_3.out);rintro e w11 ⟨v203,rfl,ho0,hb⟩;refine⟨_,rfl,?_⟩;have HO204:=qah.mk (Kd.S_lower ho0 (qam (za3 HB GE199 GE200 GE201)));replace BK199:=qah.mk (qap (g:=gb199) (o:=.cells #[.int .i64 a0_0,.bool a0_1,.int .i64 a0_2,.slice A0_3 l0_3.length c0_3,.int .i64 a0_4] 26 (0,0)) (za17 NB199_201 BK199) hb);replace BK200:=qah.mk (qap (g:=gb200) (o:=.cells #[.int .i64 0,.bool false,.int .i64 0,.slice none 0 0,.int .i64 0] 33 (0,0)) (za17 NB200_201 BK200) hb);replace BK201:=qah.mk (qap (g:=gb201) (o:=.cells #[.int .i64 a0_0,.bool a0_1,.int .i64 a0_2,.slice none 0 0,.int .i64 0] 33 (0,0)) (by(with_reducible repeat(first|refine qae ?_ _|refine qac ?_|refine qad ?_ _));refine qai (cs:=#[.int .i64 a0_0,.bool a0_1,.int .i64 0,.slice none 0 0,.int .i64 0]) ?_ 2 _ rfl;(with_reducible repeat(first|refine qae ?_ _|refine qac ?_|refine qad ?_ _));refine qai (cs:=#[.int .i64 a0_0,.bool false,.int .i64 0,.slice none 0 0,.int .i64 0]) ?_ 1 _ rfl;(with_reducible repeat(first|refine qae ?_ _|refine qac ?_|refine qad ?_ _));refine qai (cs:=#[.int .i64 0,.bool false,.int .i64 0,.slice none 0 0,.int .i64 0]) ?_ 0 _ rfl;(with_reducible repeat(first|refine qae ?_ _|refine qac ?_|refine qad ?_ _));exact BK201.out) hb);replace HB:=qah.mk (qaa (za3 HB GE199 GE200 GE201) hb);(try clear hb);(try clear ho0);obtain⟨Ao12,co12,eo12⟩:=Kd.S_slice HO204.out;subst eo12;obtain⟨hcz13_0,hcz13_1,hcz13_2,hcz13_3,hcz13_4,hfz13_0,hfz13_1,hfz13_2,hfz13_3,hfz13_4⟩:=zC5 BK201;obtain⟨hcz14_0,hcz14_1,hcz14_2,hcz14_3,hcz14_4,hfz14_0,hfz14_1,hfz14_2,hfz14_3,hfz14_4⟩:=zC5 BK200))
 refine bodyPost_ret (results_cell_row rfl _ _ gb200 33 #[.int .i64 a0_0,.bool a0_1,.int .i64 a0_2,.slice Ao12 t202.length co12,.int .i64 t205] (0,0) _ rfl (by(with_reducible repeat(first|refine qae ?_ _|refine qac ?_|refine qad ?_ _));refine qai (cs:=#[.int .i64 a0_0,.bool a0_1,.int .i64 a0_2,.slice Ao12 t202.length co12,.int .i64 0]) ?_ 4 _ rfl;(with_reducible repeat(first|refine qae ?_ _|refine qac ?_|refine qad ?_ _));refine qai (cs:=#[.int .i64 a0_0,.bool a0_1,.int .i64 a0_2,.slice none 0 0,.int .i64 0]) ?_ 3 _ rfl;(with_reducible repeat(first|refine qae ?_ _|refine qac ?_|refine qad ?_ _));refine qai (cs:=#[.int .i64 a0_0,.bool a0_1,.int .i64 0,.slice none 0 0,.int .i64 0]) ?_ 2 _ rfl;(with_reducible repeat(first|refine qae ?_ _|refine qac ?_|refine qad ?_ _));refine qai (cs:=#[.int .i64 a0_0,.bool false,.int .i64 0,.slice none 0 0,.int .i64 0]) ?_ 1 _ rfl;(with_reducible repeat(first|refine qae ?_ _|refine qac ?_|refine qad ?_ _));refine qai (cs:=#[.int .i64 0,.bool false,.int .i64 0,.slice none 0 0,.int .i64 0]) ?_ 0 _ rfl;(with_reducible repeat(first|refine qae ?_ _|refine qac ?_|refine qad ?_ _));refine blk_far ?_ NB200_201.out _;(with_reducible repeat(first|refine qae ?_ _|refine qac ?_|refine qad ?_ _));refine blk_far ?_ NB200_201.out _;(with_reducible repeat(first|refine qae ?_ _|refine qac ?_|refine qad ?_ _));exact BK200.out) Try.underlying33 rfl (by kernel_rfl)) rfl ?_
 exact⟨_,za8,by(with_reducible repeat(first|apply Kd.S_alloc|apply Kd.S_drewN|apply Kd.S_drew));exact Kd.S_mono (Kd.S_far (p:=⟨gb200,4,none⟩) (Kd.S_far (p:=⟨gb200,3,none⟩) (Kd.S_far (p:=⟨gb200,2,none⟩) (Kd.S_far (p:=⟨gb200,1,none⟩) (Kd.S_far (p:=⟨gb200,0,none⟩) (Kd.S_far (p:=⟨gb201,4,none⟩) (Kd.S_far (p:=⟨gb201,3,none⟩) (Kd.S_types (Kd.S_types HO204.out BK201.out (by decide)) BK200.out (by decide)) (fun _ hk=>hk.1.2) (.slice Ao12 t202.length co12)) (fun _ hk=>hk.1.2) (.int .i64 t205)) (fun _ hk=>hk.2) (.int .i64 a0_0)) (fun _ hk=>hk.2) (.bool a0_1)) (fun _ hk=>hk.2) (.int .i64 a0_2)) (fun _ hk=>hk.2) (.slice Ao12 t202.length co12)) (fun _ hk=>hk.2) (.int .i64 t205)) (fun _ hk=>trivial),za3 HB GE199 GE200 GE201⟩
def impl_in.f (a0:Int) (a1:Int) (a2:Int):Option (Bool):=if a0≥a1 then(some (decide (a0≤a2))) else(some false)
set_option maxHeartbeats 8000000 in
set_option maxRecDepth 100000 in
theorem impl_in.calls (a0:Int) (a1:Int) (a2:Int) (r:Bool) (w:World) (h:impl_in.f a0 a1 a2=some r) :
  Calls Try.prog 37 #[.int .i64 a0,.int .i64 a1,.int .i64 a2] w fun e w'=>e=.returned (.bool r)∧Drawn0 w w':=by
 have H:(if a0≥a1 then(some (decide (a0≤a2))) else(some false))=some r:=h;clear h;by_cases c4:a0≥a1
 ·rw[if_pos c4] at H;have c4b0:decide (a1≤a0)=true:=decide_eq_true c4;clear c4;obtain rfl:=Option.some.inj H;go_enter Try.func37,Try.ntmps37;go_wp2;go_ret;exact⟨za11,za14⟩
 ·rw[if_neg c4] at H;have c4b0:decide (a1≤a0)=false:=decide_eq_false c4;clear c4;obtain rfl:=Option.some.inj H;go_enter Try.func37,Try.ntmps37;go_wp2;go_ret;exact⟨za11,za14⟩
def impl_isHouse.f (a0:Int):Option (Bool):=(impl_in.f a0 1 3).bind fun t206=>(some t206)
set_option maxHeartbeats 8000000 in
set_option maxRecDepth 100000 in
theorem impl_isHouse.calls (a0:Int) (r:Bool) (w:World) (h:impl_isHouse.f a0=some r) :
  Calls Try.prog 21 #[.int .i64 a0] w fun e w'=>e=.returned (.bool r)∧Drawn0 w w':=by
 have H:((impl_in.f a0 1 3).bind fun t206=>(some t206))=some r:=h;clear h;replace H:=Option.bind_eq_some_iff.mp H;obtain⟨t206,A20,H⟩:=H;replace H:(some t206)=some r:=H;have A2:=qah.mk A20;clear A20;obtain rfl:=Option.some.inj H;go_enter Try.func21,Try.ntmps21
 go_wp2_with(first|((with_reducible refine qaf (f:=37) rfl ?_);refine zF (some 4) Try.func37 #[.int .i64 a0,.int .i64 1,.int .i64 3] ?_;(with_reducible refine(impl_in.calls a0 1 3 t206 _ A2.out).mono ?_);rintro e w' ⟨rfl,⟨nd,rfl⟩⟩;refine⟨_,rfl,?_⟩))
 go_ret;exact⟨za11,za14⟩
def impl_wantedOk_1.f (a0:Int):Option (Bool):=(impl_in.f a0 0 3).bind fun t207=>(some (!t207))
set_option maxHeartbeats 8000000 in
set_option maxRecDepth 100000 in
theorem impl_wantedOk_1.calls (a0:Int) (r:Bool) (w:World) (h:impl_wantedOk_1.f a0=some r) :
  Calls Try.prog 60 #[.int .i64 a0] w fun e w'=>e=.returned (.bool r)∧Drawn0 w w':=by
 have H:((impl_in.f a0 0 3).bind fun t207=>(some (!t207)))=some r:=h;clear h;replace H:=Option.bind_eq_some_iff.mp H;obtain⟨t207,A20,H⟩:=H;replace H:(some (!t207))=some r:=H;have A2:=qah.mk A20;clear A20;obtain rfl:=Option.some.inj H;go_enter Try.func60,Try.ntmps60
 go_wp2_with(first|((with_reducible refine qaf (f:=37) rfl ?_);refine zF (some 4) Try.func37 #[.int .i64 a0,.int .i64 0,.int .i64 3] ?_;(with_reducible refine(impl_in.calls a0 0 3 t207 _ A2.out).mono ?_);rintro e w' ⟨rfl,⟨nd,rfl⟩⟩;refine⟨_,rfl,?_⟩))
 go_ret;exact⟨za11,za14⟩
def impl_wantedOk_2.f (a0:Int):Option (Bool):=some (a0 != 0)
set_option maxHeartbeats 8000000 in
set_option maxRecDepth 100000 in
theorem impl_wantedOk_2.calls (a0:Int) (r:Bool) (w:World) (h:impl_wantedOk_2.f a0=some r) :
  Calls Try.prog 61 #[.int .i64 a0] w fun e w'=>e=.returned (.bool r)∧Drawn0 w w':=by
 have H:(some (a0 != 0))=some r:=h;clear h;obtain rfl:=Option.some.inj H;go_enter Try.func61,Try.ntmps61;go_wp2;go_ret;exact⟨za11,za14⟩
theorem drop_cons_rd {l:List Int} {k:Nat} (h:k<l.length):l.drop k=rd l (k:Int) :: l.drop (k+1):=by
 rw[List.drop_eq_getElem_cons h];simp[rd,List.getD_eq_getElem?_getD,List.getElem?_eq_getElem h]
set_option maxHeartbeats 4000000 in
theorem idx_int (p:Int→Option Bool) (g:Nat) (A0:Option Addr) (c0:Nat) (l0:List Int) (r:Bool) (w:World) (hr0:Kd.C (Kd.int .i64) w A0 l0.length l0) (hc0:l0.length≤c0)
  (eg:∀args w,(callFunc g args).run Try.prog w=.ok (.enter g args) w)
  (hg:∀(W:World) (x:Int) (b:Bool),p x=some b→Calls Try.prog g #[.int .i64 x] W fun e w'=>e=.returned (.bool b)∧Drawn0 W w') (h:anyO p l0=some r) :
  Calls Try.prog 66 #[.slice A0 l0.length c0,.func (.func g) #[] #[]] w (IdxQ r w):=by
 have HR:=qah.mk hr0;have HG:=qah.mk hg;have HH:=qah.mk h;clear hr0 hc0 hg h
 have hbig:l0.length≤9223372036854775807:=by
  have:=HR.out;exact this.2.1
 go_enter Try.func66,Try.ntmps66;go_wp2
 go_loopg [5,8] l0.length (fun gg _ s8 wr=>∃kk q:Nat,kk≤l0.length∧l0.length - kk≤gg∧s8=.int .i64 kk∧wr=w.drewN q∧qah (anyO p (l0.drop kk)=some r))
 case atStart=>exact⟨0,0,Nat.zero_le _,by omega,rfl,rfl,HH⟩
 case round=>
  obtain⟨kk,q,hkk,hg',rfl,rfl,B⟩:=hrel;clear HH;by_cases hlt:kk<l0.length
  ·have hltz:(kk:Int)<(l0.length:Int):=by omega
   obtain⟨ad,e0,hcell⟩:=Kd.at_int HR.out (kk:Int) (by omega) hltz
   cases e0
   rw[Int.toNat_natCast] at hcell;have B':=B.out;rw[drop_cons_rd hlt] at B';obtain⟨b,hb,hb'⟩:=anyO_cons B';clear B B'
   have hcall:=fun W=>HG.out W _ b hb
   have HB:=qah.mk hb;clear hb
   rcases hb' with⟨rfl,rfl⟩|⟨rfl,hb'⟩
   ·go_wp2_with(go_at_fn g;refine(hcall _).mono ?_;rintro e w' ⟨rfl,⟨q',rfl⟩⟩)
    go_ret;exact⟨kk,rfl,by simp,⟨⟨_,rfl⟩⟩⟩
   ·have B2:=qah.mk hb';clear hb'
    go_wp2_with(go_at_fn g;refine(hcall _).mono ?_;rintro e w' ⟨rfl,⟨q',rfl⟩⟩)
    go_roundg (l0.length - (kk+1))
    case measure=>omega
    case rel=>exact⟨kk+1,_,by omega,by omega,by go_num,rfl,B2⟩
  ·have hltz:¬(kk:Int)<(l0.length:Int):=by omega
   have B':=B.out;rw[List.drop_eq_nil_of_le (by omega)] at B'
   have hr:false=r:=by injection B'
   subst hr;clear B';go_wp2;go_ret;exact⟨-1,rfl,by decide,⟨⟨q,rfl⟩⟩⟩
set_option maxHeartbeats 4000000 in
theorem contains_int (p:Int→Option Bool) (g:Nat) (A0:Option Addr) (c0:Nat) (l0:List Int) (r:Bool) (w:World) (hr0:Kd.C (Kd.int .i64) w A0 l0.length l0) (hc0:l0.length≤c0)
  (eg:∀args w,(callFunc g args).run Try.prog w=.ok (.enter g args) w)
  (hg:∀(W:World) (x:Int) (b:Bool),p x=some b→Calls Try.prog g #[.int .i64 x] W fun e w'=>e=.returned (.bool b)∧Drawn0 W w') (h:anyO p l0=some r) :
  Calls Try.prog 62 #[.slice A0 l0.length c0,.func (.func g) #[] #[]] w fun e w'=>e=.returned (.bool r)∧Drawn0 w w':=by
 have hI:=fun W=>idx_int p g A0 c0 l0 r W
 have HR:=qah.mk hr0;have HG:=qah.mk hg;have HH:=qah.mk h;have HC:=qah.mk hc0;clear hr0 hc0 hg h;go_enter Try.func62,Try.ntmps62
 go_wp2_with(go_at_call 66;refine(hI _ HR.out HC.out eg HG.out HH.out).mono ?_;rintro e w' ⟨i,rfl,hi,⟨q,rfl⟩⟩)
 go_ret;exact⟨by rw[←hi];rfl,⟨⟨_,rfl⟩⟩⟩
def impl_wantedOk.f (l0:List Int):Option (Bool):=if(l0.length:Int)=3 then((anyO impl_wantedOk_1.f l0).bind fun a=>if a=true then some false else anyO impl_wantedOk_2.f l0) else some false
set_option maxHeartbeats 8000000 in
set_option maxRecDepth 100000 in
theorem impl_wantedOk.calls (A0:Option Addr) (c0:Nat) (l0:List Int) (r:Bool) (w:World) (hr0:Kd.C (Kd.int .i64) w A0 l0.length l0) (hc0:l0.length≤c0) (h:impl_wantedOk.f l0=some r) :
  Calls Try.prog 51 #[.slice A0 l0.length c0] w fun e w'=>e=.returned (.bool r)∧Drawn0 w w':=by
 have HR:=qah.mk hr0;have HC:=qah.mk hc0
 have c1:=fun(W:World) (r':Bool) (hr:Kd.C (Kd.int .i64) W A0 l0.length l0) (h:anyO impl_wantedOk_1.f l0=some r')=>contains_int impl_wantedOk_1.f 60 A0 c0 l0 r' W hr HC.out (enters_of Try.func60 (by kernel_rfl) rfl) (fun W x b hb=>impl_wantedOk_1.calls x b W hb) h
 have c2:=fun(W:World) (r':Bool) (hr:Kd.C (Kd.int .i64) W A0 l0.length l0) (h:anyO impl_wantedOk_2.f l0=some r')=>contains_int impl_wantedOk_2.f 61 A0 c0 l0 r' W hr HC.out (enters_of Try.func61 (by kernel_rfl) rfl) (fun W x b hb=>impl_wantedOk_2.calls x b W hb) h
 have C1:=qah.mk c1;have C2:=qah.mk c2;clear hr0 hc0 c1 c2;unfold impl_wantedOk.f at h;by_cases h3:(l0.length:Int)=3
 ·rw[if_pos h3] at h;obtain⟨a,ha,h⟩:=Option.bind_eq_some_iff.mp h
  have h3b:((l0.length:Int) == 3)=true:=by simpa using h3
  clear h3
  cases a with
  |true=>
   rw[if_pos rfl] at h
   injection h with h
   subst h;have HA:=qah.mk ha;clear ha;go_enter Try.func51,Try.ntmps51
   go_wp2_with(go_at_call 62;refine(C1.out _ true HR.out HA.out).mono ?_;rintro e w' ⟨rfl,⟨q,rfl⟩⟩)
   go_ret;exact⟨rfl,⟨⟨_,rfl⟩⟩⟩
  |false=>
   rw[if_neg (by decide)] at h;have HA:=qah.mk ha;have HB:=qah.mk h;clear ha h;go_enter Try.func51,Try.ntmps51
   go_wp2_with fail
   go_at_call 62
   refine(C1.out _ false HR.out HA.out).mono ?_;rintro e w' ⟨rfl,⟨q,rfl⟩⟩
   go_wp2_with fail
   go_at_call 62
   refine(C2.out _ r (by exact HR.out) HB.out).mono ?_;rintro e w' ⟨rfl,⟨q2,rfl⟩⟩
   go_wp2_with fail
   go_ret;exact⟨rfl,⟨⟨_,rfl⟩⟩⟩
 ·rw[if_neg h3] at h
  injection h with h
  subst h
  have h3b:((l0.length:Int) == 3)=false:=by simpa using h3
  clear h3;go_enter Try.func51,Try.ntmps51;go_wp2;go_ret;exact⟨rfl,⟨⟨0,rfl⟩⟩⟩
def impl_isTrip.f (a0:Int):Option (Bool):=(impl_in.f a0 1 6).bind fun t208=>(some t208)
set_option maxHeartbeats 8000000 in
set_option maxRecDepth 100000 in
theorem impl_isTrip.calls (a0:Int) (r:Bool) (w:World) (h:impl_isTrip.f a0=some r) :
  Calls Try.prog 52 #[.int .i64 a0] w fun e w'=>e=.returned (.bool r)∧Drawn0 w w':=by
 have H:((impl_in.f a0 1 6).bind fun t208=>(some t208))=some r:=h;clear h;replace H:=Option.bind_eq_some_iff.mp H;obtain⟨t208,A20,H⟩:=H;replace H:(some t208)=some r:=H;have A2:=qah.mk A20;clear A20;obtain rfl:=Option.some.inj H;go_enter Try.func52,Try.ntmps52
 go_wp2_with(first|((with_reducible refine qaf (f:=37) rfl ?_);refine zF (some 4) Try.func37 #[.int .i64 a0,.int .i64 1,.int .i64 6] ?_;(with_reducible refine(impl_in.calls a0 1 6 t208 _ A2.out).mono ?_);rintro e w' ⟨rfl,⟨nd,rfl⟩⟩;refine⟨_,rfl,?_⟩))
 go_ret;exact⟨za11,za14⟩
end Go.Proofs.Ytbomcadjkcmcgaa.Print
