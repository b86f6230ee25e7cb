-- Written by squeeze.py: not trusted, Lean checks it.
import Derived.Test.YtjccnaklodbbfaaZK
namespace Go.Proofs.Ytjccnaklodbbfaa.Print
open Go.RowKit Go.Proofs.YtjccnaklodbbfaaW.PrintWords Go.Proofs.YtjccnaklodbbfaaW.PrintLast Go.Proofs.YtjccnaklodbbfaaW.PrintMore
attribute [local go_sem] max2_int min2_int max_two min_two max_three min_three max_four min_four
set_option linter.unusedVariables false
set_option linter.unusedSimpArgs false
def spec_l12Do.f (l0:List (S73)) (a1_0:Int) (a1_1:Int) (l1_2:List Int):Option ((List (S73))):=if a1_0=4 then((some (([]:List Int):List Int)).bind fun y766=>(if y766.length+l1_2.length<17592186044416 then(if l0.length<4398046511104 then(some (l0++[(⟨(y766++l1_2),1⟩:S73)])) else(none)) else(none))) else(if a1_0=5 then(if 0≤(wrap64 (a1_1 - 1)) then(if(wrap64 (a1_1 - 1))<(l0.length:Int) then(some (l0.set ((wrap64 (a1_1 - 1)):Int).toNat (⟨(rd_T73 l0 (wrap64 (a1_1 - 1))).f0,2⟩:S73))) else(none)) else(none)) else(if a1_0=6 then(if 0≤(wrap64 (a1_1 - 1)) then(if(wrap64 (a1_1 - 1))<(l0.length:Int) then(some (l0.set ((wrap64 (a1_1 - 1)):Int).toNat (⟨(rd_T73 l0 (wrap64 (a1_1 - 1))).f0,3⟩:S73))) else(none)) else(none)) else(if a1_0=7 then(if 0≤(wrap64 (a1_1 - 1)) then(if(wrap64 (a1_1 - 1))<(l0.length:Int) then(some (l0.set ((wrap64 (a1_1 - 1)):Int).toNat (⟨(rd_T73 l0 (wrap64 (a1_1 - 1))).f0,wrap64 (((rd_T73 l0 (wrap64 (a1_1 - 1))).f1)+2)⟩:S73))) else(none)) else(none)) else(some l0))))
def spec_l12Do.T9:Bool × List (List Nat × List Nat):=(true,[([],[]),([],[]),([1],[1]),([2],[2]),([],[]),([],[]),([5],[5]),([6],[6]),([4,7],[4,7]),([8],[8]),([9],[9]),([10],[10]),([0,3,0,1,2,3,4,5,6,7,8,9,10,11],[0,3]),([12,0,1,2,3,4,5,6,7,8,9,10,11],[12]),([13,11,0,1,2,3,4,5,6,7,8,9,10,11],[11,13])])
def spec_l12Do.B9:List Nat:=[0,0,2,6,0,0,32,96,240,496,1008,2032,4095,8191,16383]
theorem spec_l12Do.tab9:rtab .any (opsOf Try.f120 9)=spec_l12Do.T9:=by kernel_rfl
theorem spec_l12Do.bits9:waitsOk spec_l12Do.T9.2 spec_l12Do.B9=true:=by kernel_rfl
set_option maxHeartbeats 8000000 in
set_option maxRecDepth 100000 in
theorem spec_l12Do.calls (P0_:Nat→Prop) (u9000_:Value) (l0:List (S73)) (a1_0:Int) (a1_1:Int) (A1_2:Option Addr) (c1_2:Nat) (l1_2:List Int) (r:List (S73)) (w0 w:World) (hB:Below w0.heap.size w0 w) (ho0:Kd.S k73 73 w w0.heap.size P0_ u9000_ l0) (hr1_2:∀W_,Kept w W_ (fun k_=>P0_ k_)→Kd.C (Kd.int .i64) W_ A1_2 l1_2.length l1_2) (hc1_2:l1_2.length≤c1_2) (h:spec_l12Do.f l0 a1_0 a1_1 l1_2=some r) :
  Calls Try.prog 120 #[u9000_,.agg #[.int .i64 a1_0,.int .i64 a1_1,.slice A1_2 l1_2.length c1_2]] w fun e w'=>∃v0_:Value,e=.returned (v0_)∧Kd.S k73 73 w' w0.heap.size (fun k_=>(P0_ k_∨w.heap.size≤k_)) v0_ r∧Below w0.heap.size w0 w'∧Kept w w' (fun k_=>P0_ k_):=by
 have hu62:=Try.underlying62
 have hu73:=Try.underlying73
 have HO0:=Aside0.mk (show Kd.S k73 73 w w0.heap.size (fun k_=>(P0_ k_∨w.heap.size≤k_)) u9000_ l0 from Kd.S_mono ho0 (fun k_ hk=>(.inl hk)))
 have HR1_2:=Aside0.mk hr1_2
 have HC1_2:=Aside0.mk hc1_2
 clear hr1_2 hc1_2
 have HK:=Aside0.mk (Kept.refl w (fun k_=>P0_ k_))
 have HW0:=Aside0.mk hB.size
 have HB:=Aside0.mk hB
 clear hB
 have H:(if a1_0=4 then((some (([]:List Int):List Int)).bind fun y766=>(if y766.length+l1_2.length<17592186044416 then(if l0.length<4398046511104 then(some (l0++[(⟨(y766++l1_2),1⟩:S73)])) else(none)) else(none))) else(if a1_0=5 then(if 0≤(wrap64 (a1_1 - 1)) then(if(wrap64 (a1_1 - 1))<(l0.length:Int) then(some (l0.set ((wrap64 (a1_1 - 1)):Int).toNat (⟨(rd_T73 l0 (wrap64 (a1_1 - 1))).f0,2⟩:S73))) else(none)) else(none)) else(if a1_0=6 then(if 0≤(wrap64 (a1_1 - 1)) then(if(wrap64 (a1_1 - 1))<(l0.length:Int) then(some (l0.set ((wrap64 (a1_1 - 1)):Int).toNat (⟨(rd_T73 l0 (wrap64 (a1_1 - 1))).f0,3⟩:S73))) else(none)) else(none)) else(if a1_0=7 then(if 0≤(wrap64 (a1_1 - 1)) then(if(wrap64 (a1_1 - 1))<(l0.length:Int) then(some (l0.set ((wrap64 (a1_1 - 1)):Int).toNat (⟨(rd_T73 l0 (wrap64 (a1_1 - 1))).f0,wrap64 (((rd_T73 l0 (wrap64 (a1_1 - 1))).f1)+2)⟩:S73))) else(none)) else(none)) else(some l0)))))=some r:=h
 clear h
 by_cases c3:a1_0=4
 ·rw[if_pos c3] at H
  have c3b0:(a1_0 == 4)=true:=beq_iff_eq.mpr c3
  have c3b1:(a1_0 != 4)=false:=bne_eq_false_iff_eq.mpr c3
  clear c3
  obtain⟨y766,hy766⟩:∃y_:List Int,y_=(([]:List Int)):=⟨_,rfl⟩
  replace H:(if y766.length+l1_2.length<17592186044416 then(if l0.length<4398046511104 then(some (l0++[(⟨(y766++l1_2),1⟩:S73)])) else(none)) else(none))=some r:=by first|(rw[hy766];with_reducible exact H)|(have H2_:=(Option.bind_some _ _).symm.trans H;rw[hy766];with_reducible exact H2_)|(have H2_:=(Option.bind_some _ _).symm.trans H;with_reducible exact H2_)|with_reducible exact H|(rw[hy766];exact H)|exact H
  have Ny766:=Aside0.mk hy766
  clear hy766
  by_cases c4:y766.length+l1_2.length<17592186044416
  ·rw[if_pos c4] at H
   have LMc4:=Aside0.mk c4
   clear c4
   obtain⟨y769,hy769⟩:∃y_:List Int,y_=(y766++l1_2):=⟨_,rfl⟩
   replace H:(if l0.length<4398046511104 then(some (l0++[(⟨y769,1⟩:S73)])) else(none))=some r:=by first|(rw[hy769];with_reducible exact H)|(have H2_:=(Option.bind_some _ _).symm.trans H;rw[hy769];with_reducible exact H2_)|(have H2_:=(Option.bind_some _ _).symm.trans H;with_reducible exact H2_)|with_reducible exact H|(rw[hy769];exact H)|exact H
   have Ny769:=Aside0.mk hy769
   clear hy769
   by_cases c5:l0.length<4398046511104
   ·rw[if_pos c5] at H
    have LMc5:=Aside0.mk c5
    clear c5
    obtain⟨y772,hy772⟩:∃y_:List (S73),y_=(l0++[(⟨y769,1⟩:S73)]):=⟨_,rfl⟩
    replace H:(some y772)=some r:=by first|(rw[hy772];with_reducible exact H)|(have H2_:=(Option.bind_some _ _).symm.trans H;rw[hy772];with_reducible exact H2_)|(have H2_:=(Option.bind_some _ _).symm.trans H;with_reducible exact H2_)|with_reducible exact H|(rw[hy772];exact H)|exact H
    have Ny772:=Aside0.mk hy772
    clear hy772
    obtain rfl:=Option.some.inj H
    go_enter Try.func120,Try.ntmps120
    go_wp2_with(first|((with_reducible refine qah (N:=3) rfl ?_);refine zX (N:=3) (cs:=#[.int .i64 a1_0,.int .i64 a1_1,.slice A1_2 l1_2.length c1_2]) (t:=62) ?_;intro gb765 hg w6 hbox hb;replace HO0:=Aside0.mk (Kd.S_below (za8 HO0) hb);have BK765:=Aside0.mk hbox;have GW765:=Aside0.mk ((by rw[hg];exact(by first|exact HK.out.1|exact(show Kept w _ (fun k_=>P0_ k_) from by repeat(first|(with_reducible first|exact HK.out|apply Kept.alloc|apply Kept.drewN|apply Kept.drew)|exact HK.out)).1):w.heap.size≤gb765));replace HK:=Aside0.mk (Kept.below (S:=(fun k_=>P0_ k_)) (za26 HK) hb);have GE765:=zH (w:=w0) hg (za1 HB);replace HB:=Aside0.mk (qab (za1 HB) hb);clear hb hbox hg;obtain⟨hcz7_0,hcz7_1,hcz7_2,hfz7_0,hfz7_1,hfz7_2⟩:=zC3 BK765)|((with_reducible refine qah (N:=10) rfl ?_);refine Kd.R_lit (Kd.int .i64) _ 3 (by rfl) (N:=10) (by rfl) (xs:=([]:List Int)) (inner:=[]) (ok:=fun _=>True) (okp:=fun _=>True) (by first|(go_simp;done)|(go_simp;rfl)) (Reps.none _ _) (fun _ hk=>hk) trivial (Below.refl _ _) (Nat.le_refl _) (by simp) ?_;intro v767 w8 ho9 hb hg_ hnew_;clear hg_ hnew_;(first|rw[←Ny766.out] at ho9|(simp only[Int.reduceToNat] at ho9;rw[←Ny766.out] at ho9));replace HO0:=Aside0.mk (Kd.S_elder' (za8 HO0) (Kd.R_base ho9) hb);have HO768:=Aside0.mk (Kd.R_lower (Kd.R_newM (M:=fun k_=>(P0_ k_∨w.heap.size≤k_)) ho9 (by first|exact HK.out.1|exact(show Kept w _ (fun k_=>P0_ k_) from by repeat(first|(with_reducible first|exact HK.out|apply Kept.alloc|apply Kept.drewN|apply Kept.drew|refine Kept.setCell ?_ (.inr GW765.out) _)|exact HK.out)).1) (fun k_ h_=>.inr h_)) (below_size (za0 HB GE765)));replace BK765:=Aside0.mk (qaa (zB BK765) hb);replace HK:=Aside0.mk (Kept.below (S:=(fun k_=>P0_ k_)) (by repeat(first|(with_reducible first|exact HK.out|apply Kept.alloc|apply Kept.drewN|apply Kept.drew|refine Kept.setCell ?_ (.inr GW765.out) _)|exact HK.out)) hb);replace HB:=Aside0.mk (qab (za0 HB GE765) hb);clear hb ho9;obtain⟨hcz10_0,hcz10_1,hcz10_2,hfz10_0,hfz10_1,hfz10_2⟩:=zC3 BK765)|((with_reducible refine gate_builtin (b:=.append) (xs:=#[.tmp 10,.tmp 12]) rfl ?_);at_builtin;refine Kd.R_append_rows (Kd.int .i64) (w0:=w0) w0.heap.size rfl (.tmp 10) (.tmp 12) 55 3 (.int .i64 0) 8 rfl Try.underlying55 info3 rfl (by decide) (by omega) v767 y766 l1_2 _ _ _ (fun k_=>(P0_ k_∨w.heap.size≤k_)) (fun _=>False) rfl rfl ?aO ?aR (fun _ _ h=>h) (fun _ h=>h.elim) ?aF ?aB ?aS ?aL ?_;(case aR=>exact Kd.C_kept_now HR1_2.out (by repeat(first|(with_reducible first|exact HK.out|apply Kept.alloc|apply Kept.drewN|apply Kept.drew|refine Kept.setCell ?_ (.inr GW765.out) _)|exact HK.out)));(case aB=>exact(za0 HB GE765));(case aF=>exact(fun k_ hk=>(.inr (Nat.le_trans (by first|exact HK.out.1|exact(show Kept w _ (fun k_=>P0_ k_) from by repeat(first|(with_reducible first|exact HK.out|apply Kept.alloc|apply Kept.drewN|apply Kept.drew|refine Kept.setCell ?_ (.inr GW765.out) _)|exact HK.out)).1) hk))));(case aO=>exact(by(with_reducible repeat(first|apply Kd.R_alloc|apply Kd.R_drewN|apply Kd.R_drew));exact Kd.R_mono HO768.out (fun _ hk=>hk.1)));(case aS=>exact(below_size (za0 HB GE765)));(case aL=>have:=LMc4.out;omega);intro v770 w11 ho hb hg hat;rw[←Ny769.out] at ho;replace HO0:=Aside0.mk (Kd.S_after (ok:=(fun k_=>(P0_ k_∨w.heap.size≤k_))) (za8 HO0) hg hat);replace BK765:=Aside0.mk (qas (zB BK765) hg (Kd.R_ne HO768.out BK765.out (by decide)));replace HB:=Aside0.mk hb;replace HK:=Aside0.mk (Kept.of_grown (S:=(fun k_=>P0_ k_)) hg (by repeat(first|(with_reducible first|exact HK.out|apply Kept.alloc|apply Kept.drewN|apply Kept.drew|refine Kept.setCell ?_ (.inr GW765.out) _)|exact HK.out)) (fun k_ e_=>(HO768.out.1 k_ e_).1));have HO771:=Aside0.mk ho;clear HO768;clear ho hb hg hat;obtain⟨Ao12,co12,eo12⟩:=Kd.R_slice HO771.out;subst eo12)|((with_reducible refine gate_builtin (b:=.append) (xs:=#[.tmp 9,.tmp 15]) rfl ?_);at_builtin;refine Kd.S_append k73 (w0:=w0) w0.heap.size rfl (.tmp 9) (.tmp 15) 69 73 (.agg #[(.slice none 0 0),(.int .i64 0)]) 32 rfl Try.underlying69 info73 rfl (by decide) (by omega) u9000_ l0 (⟨y769,1⟩:S73) [.slice Ao12 y769.length co12,.int .i64 1] (fun k_=>(P0_ k_∨w.heap.size≤k_)) (fun k_=>some k_=(.slice Ao12 y769.length co12:Value).ownBlock) rfl rfl ?aP (fun k_ hk_=>((Kd.R_mono (ok':=fun k_=>((fun k_=>(P0_ k_∨w.heap.size≤k_))) k_∧some k_≠(u9000_:Value).ownBlock) (Kd.R_apart' (HO771.out) (Kd.S_typed HO0.out) (by decide)) (fun k_ hk=>⟨hk.1,hk.2⟩))).1 k_ hk_.symm) ?aF ?aO ?aB ?aS ?aL ?_;(case aP=>exact k73_mkM _ _ _ (⟨y769,1⟩:S73) (Kd.R_mono (Kd.R_tight rfl (Kd.R_mono (ok':=fun k_=>((fun k_=>(P0_ k_∨w.heap.size≤k_))) k_∧some k_≠(u9000_:Value).ownBlock) (Kd.R_apart' (HO771.out) (Kd.S_typed HO0.out) (by decide)) (fun k_ hk=>⟨hk.1,hk.2⟩))) (fun _ h_=>h_)));(case aB=>exact(za0 HB GE765));(case aF=>exact(fun k_ hk=>(.inr (Nat.le_trans (by first|exact HK.out.1|exact(show Kept w _ (fun k_=>P0_ k_) from by repeat(first|(with_reducible first|exact HK.out|apply Kept.alloc|apply Kept.drewN|apply Kept.drew|refine Kept.setCell ?_ (.inr GW765.out) _)|exact HK.out)).1) hk))));(case aO=>exact(by(with_reducible repeat(first|apply Kd.S_alloc|apply Kd.S_drewN|apply Kd.S_drew));exact Kd.S_mono HO0.out (fun k_ hk=>⟨hk.1,fun e_=>hk.2 e_⟩)));(case aS=>exact(below_size (za0 HB GE765)));(case aL=>have:=LMc5.out;omega);intro v773 w13 ho hb hg hat;rw[←Ny772.out] at ho;replace BK765:=Aside0.mk (qas (zB BK765) hg (Kd.S_ne HO0.out BK765.out (by decide)));replace HB:=Aside0.mk hb;replace HK:=Aside0.mk (Kept.of_grown (S:=(fun k_=>P0_ k_)) hg (by repeat(first|(with_reducible first|exact HK.out|apply Kept.alloc|apply Kept.drewN|apply Kept.drew|refine Kept.setCell ?_ (.inr GW765.out) _)|exact HK.out)) (fun k_ e_=>((Kd.S_R HO0.out).1 k_ e_).1));have HO774:=Aside0.mk ho;clear HO0 HO771;clear ho hb hg hat))
    go_ret
    exact⟨_,za9,za8 HO774,za0 HB GE765,by repeat(first|(with_reducible first|exact HK.out|apply Kept.alloc|apply Kept.drewN|apply Kept.drew|refine Kept.setCell ?_ (.inr GW765.out) _)|exact HK.out)⟩
   ·rw[if_neg c5] at H
    exact absurd H (by simp)
  ·rw[if_neg c4] at H
   exact absurd H (by simp)
 ·rw[if_neg c3] at H
  have c3b0:(a1_0 == 4)=false:=beq_eq_false_iff_ne.mpr c3
  have c3b1:(a1_0 != 4)=true:=bne_iff_ne.mpr c3
  by_cases c14:a1_0=5
  ·rw[if_pos c14] at H
   have c14b0:(a1_0 == 5)=true:=beq_iff_eq.mpr c14
   have c14b1:(a1_0 != 5)=false:=bne_eq_false_iff_eq.mpr c14
   clear c14
   obtain⟨ji15,hji15⟩:∃j_:Int,(wrap64 (a1_1 - 1))=j_:=⟨_,rfl⟩
   replace H:(if 0≤(ji15) then(if(ji15)<(l0.length:Int) then(some (l0.set ((ji15):Int).toNat (⟨(rd_T73 l0 (ji15)).f0,2⟩:S73))) else(none)) else(none))=some r:=by first|(rw[hji15] at H;exact H)|(simp only[hji15] at H ⊢;exact H)
   have hji15w:(IntKind.i64.wrap (a1_1 - 1))=ji15:=(qaj _).trans hji15
   by_cases c16:0≤(ji15)
   ·rw[if_pos c16] at H
    have c16b0:decide (0≤(ji15))=true:=decide_eq_true c16
    clear c16
    by_cases c17:(ji15)<(l0.length:Int)
    ·rw[if_pos c17] at H
     have c17b0:decide ((ji15)<(l0.length:Int))=true:=decide_eq_true c17
     clear c17
     obtain⟨y775,hy775⟩:∃y_:List (S73),y_=(l0.set ((ji15):Int).toNat (⟨(rd_T73 l0 (ji15)).f0,2⟩:S73)):=⟨_,rfl⟩
     replace H:(some y775)=some r:=by first|(rw[hy775];with_reducible exact H)|(have H2_:=(Option.bind_some _ _).symm.trans H;rw[hy775];with_reducible exact H2_)|(have H2_:=(Option.bind_some _ _).symm.trans H;with_reducible exact H2_)|with_reducible exact H|(rw[hy775];exact H)|exact H
     have Ny775:=Aside0.mk hy775
     clear hy775
     obtain rfl:=Option.some.inj H
     go_enter Try.func120,Try.ntmps120
     go_wp2_with(first|((with_reducible refine qah (N:=3) rfl ?_);refine zX (N:=3) (cs:=#[.int .i64 a1_0,.int .i64 a1_1,.slice A1_2 l1_2.length c1_2]) (t:=62) ?_;intro gb765 hg w19 hbox hb;replace HO0:=Aside0.mk (Kd.S_below (za8 HO0) hb);have BK765:=Aside0.mk hbox;have GW765:=Aside0.mk ((by rw[hg];exact(by first|exact HK.out.1|exact(show Kept w _ (fun k_=>P0_ k_) from by repeat(first|(with_reducible first|exact HK.out|apply Kept.alloc|apply Kept.drewN|apply Kept.drew)|exact HK.out)).1):w.heap.size≤gb765));replace HK:=Aside0.mk (Kept.below (S:=(fun k_=>P0_ k_)) (za26 HK) hb);have GE765:=zH (w:=w0) hg (za1 HB);replace HB:=Aside0.mk (qab (za1 HB) hb);clear hb hbox hg;obtain⟨hcz20_0,hcz20_1,hcz20_2,hfz20_0,hfz20_1,hfz20_2⟩:=zC3 BK765;have p18:0≤((ji15):Int):=of_decide_eq_true (za5);have q18:((ji15):Int)<((l0.length:Int):Int):=of_decide_eq_true (za5);obtain⟨go18,co18,eo18,gb18,gl18,cl18,HG18⟩:=Kd.S_form HO0.out (by omega);(first|cases eo18|(injection eo18 with ea_ en_ ec_;(first|subst ea_|(injection ea_ with ea_;subst ea_));subst ec_;clear en_));have GB18:=Aside0.mk gb18;have GG18:=Aside0.mk HG18;clear gb18 gl18 HG18;have HMgo18:=Aside0.mk (show(P0_ go18∨w.heap.size≤go18) from((Kd.S_R HO0.out).1 _ rfl));obtain⟨_,ce18,hcl18,hM18,hcc18,hfr18,_,_⟩:=Kd.S_elem HO0.out z73 ((ji15):Int) p18 q18;obtain⟨ve18_0,rfl,ge18_0⟩:=k73_openM hM18;have hx18_0:w19.cell? ⟨go18,((ji15):Int).toNat*2,none⟩=some (ve18_0):=hcc18 0 _ rfl;have hx18_1:w19.cell? ⟨go18,((ji15):Int).toNat*2+1,none⟩=some (.int .i64 ((rd_T73 l0 (ji15)).f1)):=hcc18 1 _ rfl;have hf18_0:w19.frozen? ⟨go18,((ji15):Int).toNat*2,none⟩=false:=hfr18 0;have hf18_1:w19.frozen? ⟨go18,((ji15):Int).toNat*2+1,none⟩=false:=hfr18 1;clear hcl18 hcc18 hfr18 hM18;replace p18:=eq_true p18;replace q18:=eq_true q18;have HX21:=Aside0.mk (show Kd.S k73 73 w19 w0.heap.size (fun k_=>((fun k_=>(P0_ k_∨w.heap.size≤k_))) k_∧¬((fun _=>False)) k_) (.slice (some ⟨go18,0,none⟩) l0.length co18) l0 from(by(with_reducible repeat(first|apply Kd.S_alloc|apply Kd.S_drewN|apply Kd.S_drew));exact Kd.S_mono HO0.out (fun k_ hk=>⟨hk,fun e_=>e_⟩)));obtain⟨oki21,ce21,hcl21,hM21,hcc21,hfr21,hoki21,hH21⟩:=Kd.S_elem HX21.out z73 ((ji15):Int) (of_decide_eq_true (za5)) (by have h_:((ji15):Int)<((l0.length:Int):Int):=of_decide_eq_true (za5);first|exact h_|(have e_:=(Kd.S_reads' HO0.out).1;omega)|simpa using h_);obtain⟨ve21_0,rfl,ge21_0⟩:=k73_openM hM21;have HP21:=Kd.S_seg hH21 (of_decide_eq_true (za5)) (by have h_:((ji15):Int)<((l0.length:Int):Int):=of_decide_eq_true (za5);first|exact h_|(have e_:=(Kd.S_reads' HO0.out).1;omega)|simpa using h_) (seg:=[.int .i64 2]) (j:=1) (show 2≤2 from by decide) (x':=(⟨(rd_T73 l0 (ji15)).f0,2⟩:S73)) (k73_mkM _ _ _ (⟨(rd_T73 l0 (ji15)).f0,2⟩:S73) (Kd.R_mono ge21_0 (fun _ h_=>Or.inl h_))) (fun _ hk=>hk) (fun k_ hk_=>hk_.elim);have hx21_1:=hcc21 1 _ rfl;(try simp only[show(k73).sz=2 from rfl,Nat.mul_one,Nat.add_zero] at hx21_1);have hf21_1:=hfr21 1;(try simp only[show(k73).sz=2 from rfl,Nat.mul_one,Nat.add_zero] at hf21_1);clear hcl21 hcc21 hfr21 hM21 hoki21 hH21)|((with_reducible refine gate_store (t:=3) (p:=24) rfl ?_);refine qat (t:=3) (p:=24) (v:=?vo_w22) (w1:=(w19.setCell ⟨go18,((ji15):Int).toNat*2+1,none⟩ (.int .i64 2))) ?hg ?ho ?hn ?hr ?_;(case ho=>rfl);(case hg=>rfl);(case hn=>rfl);(case hr=>first|(go_simp;done)|(go_simp;rfl));intro w22 hw;have hg:w19.grownBy w22 (some go18):=(by rw[hw];exact HP21.2);have hp_:Kd.S k73 73 w22 w0.heap.size (fun k_=>(P0_ k_∨w.heap.size≤k_)) (.slice (some ⟨go18,0,none⟩) l0.length co18) y775:=(by rw[hw,Ny775.out];exact HP21.1);clear HP21;replace BK765:=Aside0.mk (qas (zB BK765) hg (Kd.S_ne HO0.out BK765.out (by decide)));replace HB:=Aside0.mk ((by rw[hw];exact qac (HB.out) GB18.out:Below w0.heap.size w0 w22));replace HK:=Aside0.mk (Kept.of_grown (S:=(fun k_=>P0_ k_)) hg (by repeat(first|(with_reducible first|exact HK.out|apply Kept.alloc|apply Kept.drewN|apply Kept.drew|refine Kept.setCell ?_ (.inr GW765.out) _)|exact HK.out)) (fun k_ e_=>((Kd.S_R HO0.out).1 k_ e_)));replace HO0:=Aside0.mk hp_;clear hg hw hp_))
     go_ret
     exact⟨_,by first|rfl|(simp[qam,qal]<;>rfl)|(simp only[←hji15];first|rfl|(simp[qam,qal]<;>rfl))|(simp[*,qam,qal]<;>rfl),za8 HO0,za0 HB GE765,by repeat(first|(with_reducible first|exact HK.out|apply Kept.alloc|apply Kept.drewN|apply Kept.drew|refine Kept.setCell ?_ (.inr GW765.out) _)|exact HK.out)⟩
    ·rw[if_neg c17] at H
     exact absurd H (by simp)
   ·rw[if_neg c16] at H
    exact absurd H (by simp)
  ·rw[if_neg c14] at H
   have c14b0:(a1_0 == 5)=false:=beq_eq_false_iff_ne.mpr c14
   have c14b1:(a1_0 != 5)=true:=bne_iff_ne.mpr c14
   by_cases c23:a1_0=6
   ·rw[if_pos c23] at H
    have c23b0:(a1_0 == 6)=true:=beq_iff_eq.mpr c23
    have c23b1:(a1_0 != 6)=false:=bne_eq_false_iff_eq.mpr c23
    clear c23
    obtain⟨ji24,hji24⟩:∃j_:Int,(wrap64 (a1_1 - 1))=j_:=⟨_,rfl⟩
    replace H:(if 0≤(ji24) then(if(ji24)<(l0.length:Int) then(some (l0.set ((ji24):Int).toNat (⟨(rd_T73 l0 (ji24)).f0,3⟩:S73))) else(none)) else(none))=some r:=by first|(rw[hji24] at H;exact H)|(simp only[hji24] at H ⊢;exact H)
    have hji24w:(IntKind.i64.wrap (a1_1 - 1))=ji24:=(qaj _).trans hji24
    by_cases c25:0≤(ji24)
    ·rw[if_pos c25] at H
     have c25b0:decide (0≤(ji24))=true:=decide_eq_true c25
     clear c25
     by_cases c26:(ji24)<(l0.length:Int)
     ·rw[if_pos c26] at H
      have c26b0:decide ((ji24)<(l0.length:Int))=true:=decide_eq_true c26
      clear c26
      obtain⟨y776,hy776⟩:∃y_:List (S73),y_=(l0.set ((ji24):Int).toNat (⟨(rd_T73 l0 (ji24)).f0,3⟩:S73)):=⟨_,rfl⟩
      replace H:(some y776)=some r:=by first|(rw[hy776];with_reducible exact H)|(have H2_:=(Option.bind_some _ _).symm.trans H;rw[hy776];with_reducible exact H2_)|(have H2_:=(Option.bind_some _ _).symm.trans H;with_reducible exact H2_)|with_reducible exact H|(rw[hy776];exact H)|exact H
      have Ny776:=Aside0.mk hy776
      clear hy776
      obtain rfl:=Option.some.inj H
      go_enter Try.func120,Try.ntmps120
      go_wp2_with(first|((with_reducible refine qah (N:=3) rfl ?_);refine zX (N:=3) (cs:=#[.int .i64 a1_0,.int .i64 a1_1,.slice A1_2 l1_2.length c1_2]) (t:=62) ?_;intro gb765 hg w28 hbox hb;replace HO0:=Aside0.mk (Kd.S_below (za8 HO0) hb);have BK765:=Aside0.mk hbox;have GW765:=Aside0.mk ((by rw[hg];exact(by first|exact HK.out.1|exact(show Kept w _ (fun k_=>P0_ k_) from by repeat(first|(with_reducible first|exact HK.out|apply Kept.alloc|apply Kept.drewN|apply Kept.drew)|exact HK.out)).1):w.heap.size≤gb765));replace HK:=Aside0.mk (Kept.below (S:=(fun k_=>P0_ k_)) (za26 HK) hb);have GE765:=zH (w:=w0) hg (za1 HB);replace HB:=Aside0.mk (qab (za1 HB) hb);clear hb hbox hg;obtain⟨hcz29_0,hcz29_1,hcz29_2,hfz29_0,hfz29_1,hfz29_2⟩:=zC3 BK765;have p27:0≤((ji24):Int):=of_decide_eq_true (za5);have q27:((ji24):Int)<((l0.length:Int):Int):=of_decide_eq_true (za5);obtain⟨go27,co27,eo27,gb27,gl27,cl27,HG27⟩:=Kd.S_form HO0.out (by omega);(first|cases eo27|(injection eo27 with ea_ en_ ec_;(first|subst ea_|(injection ea_ with ea_;subst ea_));subst ec_;clear en_));have GB27:=Aside0.mk gb27;have GG27:=Aside0.mk HG27;clear gb27 gl27 HG27;have HMgo27:=Aside0.mk (show(P0_ go27∨w.heap.size≤go27) from((Kd.S_R HO0.out).1 _ rfl));obtain⟨_,ce27,hcl27,hM27,hcc27,hfr27,_,_⟩:=Kd.S_elem HO0.out z73 ((ji24):Int) p27 q27;obtain⟨ve27_0,rfl,ge27_0⟩:=k73_openM hM27;have hx27_0:w28.cell? ⟨go27,((ji24):Int).toNat*2,none⟩=some (ve27_0):=hcc27 0 _ rfl;have hx27_1:w28.cell? ⟨go27,((ji24):Int).toNat*2+1,none⟩=some (.int .i64 ((rd_T73 l0 (ji24)).f1)):=hcc27 1 _ rfl;have hf27_0:w28.frozen? ⟨go27,((ji24):Int).toNat*2,none⟩=false:=hfr27 0;have hf27_1:w28.frozen? ⟨go27,((ji24):Int).toNat*2+1,none⟩=false:=hfr27 1;clear hcl27 hcc27 hfr27 hM27;replace p27:=eq_true p27;replace q27:=eq_true q27;have HX30:=Aside0.mk (show Kd.S k73 73 w28 w0.heap.size (fun k_=>((fun k_=>(P0_ k_∨w.heap.size≤k_))) k_∧¬((fun _=>False)) k_) (.slice (some ⟨go27,0,none⟩) l0.length co27) l0 from(by(with_reducible repeat(first|apply Kd.S_alloc|apply Kd.S_drewN|apply Kd.S_drew));exact Kd.S_mono HO0.out (fun k_ hk=>⟨hk,fun e_=>e_⟩)));obtain⟨oki30,ce30,hcl30,hM30,hcc30,hfr30,hoki30,hH30⟩:=Kd.S_elem HX30.out z73 ((ji24):Int) (of_decide_eq_true (za5)) (by have h_:((ji24):Int)<((l0.length:Int):Int):=of_decide_eq_true (za5);first|exact h_|(have e_:=(Kd.S_reads' HO0.out).1;omega)|simpa using h_);obtain⟨ve30_0,rfl,ge30_0⟩:=k73_openM hM30;have HP30:=Kd.S_seg hH30 (of_decide_eq_true (za5)) (by have h_:((ji24):Int)<((l0.length:Int):Int):=of_decide_eq_true (za5);first|exact h_|(have e_:=(Kd.S_reads' HO0.out).1;omega)|simpa using h_) (seg:=[.int .i64 3]) (j:=1) (show 2≤2 from by decide) (x':=(⟨(rd_T73 l0 (ji24)).f0,3⟩:S73)) (k73_mkM _ _ _ (⟨(rd_T73 l0 (ji24)).f0,3⟩:S73) (Kd.R_mono ge30_0 (fun _ h_=>Or.inl h_))) (fun _ hk=>hk) (fun k_ hk_=>hk_.elim);have hx30_1:=hcc30 1 _ rfl;(try simp only[show(k73).sz=2 from rfl,Nat.mul_one,Nat.add_zero] at hx30_1);have hf30_1:=hfr30 1;(try simp only[show(k73).sz=2 from rfl,Nat.mul_one,Nat.add_zero] at hf30_1);clear hcl30 hcc30 hfr30 hM30 hoki30 hH30)|((with_reducible refine gate_store (t:=3) (p:=32) rfl ?_);refine qat (t:=3) (p:=32) (v:=?vo_w31) (w1:=(w28.setCell ⟨go27,((ji24):Int).toNat*2+1,none⟩ (.int .i64 3))) ?hg ?ho ?hn ?hr ?_;(case ho=>rfl);(case hg=>rfl);(case hn=>rfl);(case hr=>first|(go_simp;done)|(go_simp;rfl));intro w31 hw;have hg:w28.grownBy w31 (some go27):=(by rw[hw];exact HP30.2);have hp_:Kd.S k73 73 w31 w0.heap.size (fun k_=>(P0_ k_∨w.heap.size≤k_)) (.slice (some ⟨go27,0,none⟩) l0.length co27) y776:=(by rw[hw,Ny776.out];exact HP30.1);clear HP30;replace BK765:=Aside0.mk (qas (zB BK765) hg (Kd.S_ne HO0.out BK765.out (by decide)));replace HB:=Aside0.mk ((by rw[hw];exact qac (HB.out) GB27.out:Below w0.heap.size w0 w31));replace HK:=Aside0.mk (Kept.of_grown (S:=(fun k_=>P0_ k_)) hg (by repeat(first|(with_reducible first|exact HK.out|apply Kept.alloc|apply Kept.drewN|apply Kept.drew|refine Kept.setCell ?_ (.inr GW765.out) _)|exact HK.out)) (fun k_ e_=>((Kd.S_R HO0.out).1 k_ e_)));replace HO0:=Aside0.mk hp_;clear hg hw hp_))
      go_ret
      exact⟨_,by first|rfl|(simp[qam,qal]<;>rfl)|(simp only[←hji24];first|rfl|(simp[qam,qal]<;>rfl))|(simp[*,qam,qal]<;>rfl),za8 HO0,za0 HB GE765,by repeat(first|(with_reducible first|exact HK.out|apply Kept.alloc|apply Kept.drewN|apply Kept.drew|refine Kept.setCell ?_ (.inr GW765.out) _)|exact HK.out)⟩
     ·rw[if_neg c26] at H
      exact absurd H (by simp)
    ·rw[if_neg c25] at H
     exact absurd H (by simp)
   ·rw[if_neg c23] at H
    have c23b0:(a1_0 == 6)=false:=beq_eq_false_iff_ne.mpr c23
    have c23b1:(a1_0 != 6)=true:=bne_iff_ne.mpr c23
    by_cases c32:a1_0=7
    ·rw[if_pos c32] at H
     have c32b0:(a1_0 == 7)=true:=beq_iff_eq.mpr c32
     have c32b1:(a1_0 != 7)=false:=bne_eq_false_iff_eq.mpr c32
     clear c32
     obtain⟨ji33,hji33⟩:∃j_:Int,(wrap64 (a1_1 - 1))=j_:=⟨_,rfl⟩
     replace H:(if 0≤(ji33) then(if(ji33)<(l0.length:Int) then(some (l0.set ((ji33):Int).toNat (⟨(rd_T73 l0 (ji33)).f0,wrap64 (((rd_T73 l0 (ji33)).f1)+2)⟩:S73))) else(none)) else(none))=some r:=by first|(rw[hji33] at H;exact H)|(simp only[hji33] at H ⊢;exact H)
     have hji33w:(IntKind.i64.wrap (a1_1 - 1))=ji33:=(qaj _).trans hji33
     by_cases c34:0≤(ji33)
     ·rw[if_pos c34] at H
      have c34b0:decide (0≤(ji33))=true:=decide_eq_true c34
      clear c34
      by_cases c35:(ji33)<(l0.length:Int)
      ·rw[if_pos c35] at H
       have c35b0:decide ((ji33)<(l0.length:Int))=true:=decide_eq_true c35
       clear c35
       obtain⟨y778,hy778⟩:∃y_:List (S73),y_=(l0.set ((ji33):Int).toNat (⟨(rd_T73 l0 (ji33)).f0,wrap64 (((rd_T73 l0 (ji33)).f1)+2)⟩:S73)):=⟨_,rfl⟩
       replace H:(some y778)=some r:=by first|(rw[hy778];with_reducible exact H)|(have H2_:=(Option.bind_some _ _).symm.trans H;rw[hy778];with_reducible exact H2_)|(have H2_:=(Option.bind_some _ _).symm.trans H;with_reducible exact H2_)|with_reducible exact H|(rw[hy778];exact H)|exact H
       have Ny778:=Aside0.mk hy778
       clear hy778
       obtain rfl:=Option.some.inj H
       go_enter Try.func120,Try.ntmps120
       try go_wp2_with(first|((with_reducible refine qah (N:=3) rfl ?_);refine zX (N:=3) (cs:=#[.int .i64 a1_0,.int .i64 a1_1,.slice A1_2 l1_2.length c1_2]) (t:=62) ?_;intro gb765 hg w37 hbox hb;replace HO0:=Aside0.mk (Kd.S_below (za8 HO0) hb);have BK765:=Aside0.mk hbox;have GW765:=Aside0.mk ((by rw[hg];exact(by first|exact HK.out.1|exact(show Kept w _ (fun k_=>P0_ k_) from by repeat(first|(with_reducible first|exact HK.out|apply Kept.alloc|apply Kept.drewN|apply Kept.drew)|exact HK.out)).1):w.heap.size≤gb765));replace HK:=Aside0.mk (Kept.below (S:=(fun k_=>P0_ k_)) (za26 HK) hb);have GE765:=zH (w:=w0) hg (za1 HB);replace HB:=Aside0.mk (qab (za1 HB) hb);clear hb hbox hg;obtain⟨hcz38_0,hcz38_1,hcz38_2,hfz38_0,hfz38_1,hfz38_2⟩:=zC3 BK765))
       replace HO0:=Aside0.mk (Kd.S_drew HO0.out)
       replace BK765:=Aside0.mk (blk_drew BK765.out)
       replace HK:=Aside0.mk (Kept.drew HK.out)
       replace HB:=Aside0.mk (qae HB.out)
       obtain⟨Ao40,co40,eo40⟩:=Kd.S_slice HO0.out
       (first|subst eo40|(injection eo40 with f1_ f2_ f3_;have f4_:=f1_.symm;have f5_:=f3_.symm;clear f1_ f2_ f3_;subst f4_;subst f5_))
       have p777:0≤((ji33):Int):=of_decide_eq_true (za5)
       have q777:(ji33)<(l0.length:Int):=of_decide_eq_true (za5)
       obtain⟨ad777,A777_0,c777_0,e777,hx777_0,hx777_1,hl777_0,hi777_0⟩:=at_T73 (Kd.S_reads' HO0.out).2.2 (ji33) p777 q777
       cases e777
       obtain⟨ce777,hce777,hMe777,hcc777⟩:=Kd.S_get HO0.out z73 (ji33) p777 (by first|exact q777|exact of_decide_eq_true (za5)|(have e_:=(Kd.S_reads' HO0.out).1;omega))
       obtain⟨ve777_0,rfl,ge777_0⟩:=k73_openM hMe777
       have hv777_0:=hcc777 0 _ rfl
       rw[Nat.add_zero] at hv777_0
       replace hv777_0:=Option.some.inj (hv777_0.symm.trans hx777_0)
       rw[hv777_0] at ge777_0
       have HL777_0:=Aside0.mk (show Kd.R (Kd.int .i64) 3 _ _ _ _ ((rd_T73 l0 (ji33)).f0) from ge777_0)
       clear hv777_0 ge777_0
       clear hcc777 hce777
       have HR777_0:=Aside0.mk hi777_0
       have HC777_0:=Aside0.mk hl777_0
       clear hi777_0 hl777_0
       replace p777:=eq_true p777
       replace q777:=eq_true q777
       have p36:0≤((ji33):Int):=of_decide_eq_true (za5)
       have q36:((ji33):Int)<((l0.length:Int):Int):=of_decide_eq_true (za5)
       obtain⟨go36,co36,eo36,gb36,gl36,cl36,HG36⟩:=Kd.S_form HO0.out (by omega)
       (first|cases eo36|(injection eo36 with ea_ en_ ec_;(first|subst ea_|(injection ea_ with ea_;subst ea_));subst ec_;clear en_))
       have GB36:=Aside0.mk gb36
       have GG36:=Aside0.mk HG36
       clear gb36 gl36 HG36
       have HMgo36:=Aside0.mk (show(P0_ go36∨w.heap.size≤go36) from((Kd.S_R HO0.out).1 _ rfl))
       (first|simp only[add_plain] at hx777_0|skip)
       (first|simp only[add_plain] at hx777_1|skip)
       obtain⟨_,ce36,hcl36,hM36,hcc36,hfr36,_,_⟩:=Kd.S_elem HO0.out z73 ((ji33):Int) p36 q36
       obtain⟨ve36_0,rfl,ge36_0⟩:=k73_openM hM36
       have hx36_0:World.cell? _ ⟨go36,((ji33):Int).toNat*2,none⟩=some (ve36_0):=hcc36 0 _ rfl
       have hx36_1:World.cell? _ ⟨go36,((ji33):Int).toNat*2+1,none⟩=some (.int .i64 ((rd_T73 l0 (ji33)).f1)):=hcc36 1 _ rfl
       have hf36_0:World.frozen? _ ⟨go36,((ji33):Int).toNat*2,none⟩=false:=hfr36 0
       have hf36_1:World.frozen? _ ⟨go36,((ji33):Int).toNat*2+1,none⟩=false:=hfr36 1
       clear hcl36 hcc36 hfr36 hM36
       replace p36:=eq_true p36
       replace q36:=eq_true q36
       have HX41:=Aside0.mk (show Kd.S k73 73 _ w0.heap.size (fun k_=>((fun k_=>(P0_ k_∨w.heap.size≤k_))) k_∧¬(fun _=>False) k_) (.slice (some ⟨go36,0,none⟩) l0.length co40) l0 from(Kd.S_mono HO0.out (fun k_ hk=>⟨hk,fun e_=>e_⟩)))
       obtain⟨oki41,ce41,hcl41,hM41,hcc41,hfr41,hoki41,hH41⟩:=Kd.S_elem HX41.out z73 ((ji33):Int) (of_decide_eq_true (za5)) (by have h_:((ji33):Int)<((l0.length:Int):Int):=of_decide_eq_true (za5);first|exact h_|(have e_:=(Kd.S_reads' HO0.out).1;omega)|simpa using h_)
       obtain⟨ve41_0,rfl,ge41_0⟩:=k73_openM hM41
       have HP41:=(Kd.S_seg hH41 (of_decide_eq_true (za5)) (by have h_:((ji33):Int)<((l0.length:Int):Int):=of_decide_eq_true (za5);first|exact h_|(have e_:=(Kd.S_reads' HO0.out).1;omega)|simpa using h_) (seg:=[.int .i64 (wrap64 (((rd_T73 l0 (ji33)).f1)+2))]) (j:=1) (show 2≤2 from by decide) (x':=(⟨(rd_T73 l0 (ji33)).f0,wrap64 (((rd_T73 l0 (ji33)).f1)+2)⟩:S73)) (k73_mkM _ _ _ (⟨(rd_T73 l0 (ji33)).f0,wrap64 (((rd_T73 l0 (ji33)).f1)+2)⟩:S73) ge41_0) (fun _ hk=>Or.inl hk) (fun _ hk=>hk.elim)).1
       rw[←Ny778.out] at HP41
       have HQ41:=Aside0.mk HP41
       clear hcl41 hcc41 hfr41 hM41 HP41
       refine start_ (n:=15) (S:=fun w'=>w'.cell? ⟨gb765,0,none⟩=some (.int .i64 a1_0)∧w'.cell? ⟨gb765,1,none⟩=some (.int .i64 a1_1)∧w'.cell? ⟨gb765,2,none⟩=some (.slice A1_2 l1_2.length c1_2)∧w'.cell? ⟨go36,((ji33)).toNat*2,none⟩=some (.slice A777_0 ((rd_T73 l0 (ji33)).f0).length c777_0)∧w'.cell? ⟨go36,((ji33)).toNat*2+1,none⟩=some (.int .i64 ((rd_T73 l0 (ji33)).f1))) (ds:=[14]) #[false,false,false,false,false,false,false,false,false,false,false,false,false,false,false] (by kernel_rfl) rfl rfl ⟨(blk_cell BK765.out 0).trans rfl,(blk_cell BK765.out 1).trans rfl,(blk_cell BK765.out 2).trans rfl,hx777_0,hx777_1⟩ (fun hHeld=>?_);refine with_tabW spec_l12Do.tab9 spec_l12Do.bits9 (fun HT_ HW_=>?_)
       generalize w37.drew=w39 at HO0 BK765 HK HB GG36 HL777_0 HQ41 HR777_0 hf36_0 hf36_1 hx36_0 hx36_1 hx777_0 hx777_1 hHeld ⊢
       refine qar (i:=0) (N:=some 35) (v:=?_) (a':=?_) #[true,false,false,false,false,false,false,false,false,false,false,false,false,false,false] rfl rfl (qan HT_.out (by kernel_rfl)) (fun _ _ _ h=>h) (Or.inl ⟨by rfl,?_⟩) ?_ ?_
       rotate_left
       ·intro w'
        go_simp
        with_reducible rfl
       rotate_left
       ·simp only[Act.put,List.setIfInBounds_toArray,List.set_cons_zero,List.set_cons_succ,qaj,qak]
        rfl
       refine qar (i:=1) (N:=some 36) (v:=?_) (a':=?_) #[true,true,false,false,false,false,false,false,false,false,false,false,false,false,false] rfl rfl (qan HT_.out (by kernel_rfl)) (fun _ _ _ h=>h) (Or.inl ⟨by rfl,?_⟩) ?_ ?_
       rotate_left
       ·intro w'
        go_simp
        with_reducible rfl
       rotate_left
       ·simp only[Act.put,List.setIfInBounds_toArray,List.set_cons_zero,List.set_cons_succ,qaj,qak]
        rfl
       refine qar (i:=4) (N:=some 39) (v:=?_) (a':=?_) #[true,true,false,false,true,false,false,false,false,false,false,false,false,false,false] rfl rfl (qan HT_.out (by kernel_rfl)) (fun _ _ _ h=>h) (Or.inl ⟨by rfl,?_⟩) ?_ ?_
       rotate_left
       ·intro w'
        go_simp
        with_reducible rfl
       rotate_left
       ·simp only[Act.put,List.setIfInBounds_toArray,List.set_cons_zero,List.set_cons_succ,qaj,qak]
        rfl
       refine qar (i:=5) (N:=some 40) (v:=?_) (a':=?_) #[true,true,false,false,true,true,false,false,false,false,false,false,false,false,false] rfl rfl (qan HT_.out (by kernel_rfl)) (fun _ _ _ h=>h) (Or.inl ⟨by rfl,?_⟩) ?_ ?_
       rotate_left
       ·intro w'
        go_simp
        with_reducible rfl
       rotate_left
       ·simp only[Act.put,List.setIfInBounds_toArray,List.set_cons_zero,List.set_cons_succ,qaj,qak]
        rfl
       refine take_ (i:=2) (N:=some 37) (v:=?_) (a':=?_) #[true,true,true,false,true,true,false,false,false,false,false,false,false,false,false] rfl rfl (take_ofW HT_.out HW_.out (by kernel_rfl)) (fun _ _ _ h=>h) (Or.inl ⟨by rfl,?_⟩) hHeld ?_ ?_
       rotate_left
       ·rintro w' ⟨s0,s1,s2,s3,s4⟩
        go_simp
        with_reducible rfl
       rotate_left
       ·simp only[Act.put,List.setIfInBounds_toArray,List.set_cons_zero,List.set_cons_succ,qaj,qak]
        rfl
       refine qar (i:=3) (N:=some 38) (v:=?_) (a':=?_) #[true,true,true,true,true,true,false,false,false,false,false,false,false,false,false] rfl rfl (qan HT_.out (by kernel_rfl)) (fun _ _ _ h=>h) (Or.inl ⟨by rfl,?_⟩) ?_ ?_
       rotate_left
       ·intro w'
        go_simp
        with_reducible rfl
       rotate_left
       ·simp only[Act.put,List.setIfInBounds_toArray,List.set_cons_zero,List.set_cons_succ,qaj,qak]
        rfl
       refine take_ (i:=6) (N:=some 41) (v:=?_) (a':=?_) #[true,true,true,true,true,true,true,false,false,false,false,false,false,false,false] rfl rfl (take_ofW HT_.out HW_.out (by kernel_rfl)) (fun _ _ _ h=>h) (Or.inl ⟨by rfl,?_⟩) hHeld ?_ ?_
       rotate_left
       ·rintro w' ⟨s0,s1,s2,s3,s4⟩
        go_simp
        with_reducible rfl
       rotate_left
       ·simp only[Act.put,List.setIfInBounds_toArray,List.set_cons_zero,List.set_cons_succ,qaj,qak]
        rfl
       refine qar (i:=7) (N:=some 42) (v:=?_) (a':=?_) #[true,true,true,true,true,true,true,true,false,false,false,false,false,false,false] rfl rfl (qan HT_.out (by kernel_rfl)) (fun _ _ _ h=>h) (Or.inl ⟨by rfl,?_⟩) ?_ ?_
       rotate_left
       ·intro w'
        go_simp
        with_reducible rfl
       rotate_left
       ·simp only[Act.put,List.setIfInBounds_toArray,List.set_cons_zero,List.set_cons_succ,qaj,qak]
        rfl
       refine qar (i:=8) (N:=some 43) (v:=?_) (a':=?_) #[true,true,true,true,true,true,true,true,true,false,false,false,false,false,false] rfl rfl (qan HT_.out (by kernel_rfl)) (fun _ _ _ h=>h) (Or.inl ⟨by rfl,?_⟩) ?_ ?_
       rotate_left
       ·intro w'
        go_simp
        with_reducible rfl
       rotate_left
       ·simp only[Act.put,List.setIfInBounds_toArray,List.set_cons_zero,List.set_cons_succ,qaj,qak]
        rfl
       refine qar (i:=9) (N:=some 44) (v:=?_) (a':=?_) #[true,true,true,true,true,true,true,true,true,true,false,false,false,false,false] rfl rfl (qan HT_.out (by kernel_rfl)) (fun _ _ _ h=>h) (Or.inl ⟨by rfl,?_⟩) ?_ ?_
       rotate_left
       ·intro w'
        go_simp
        with_reducible rfl
       rotate_left
       ·simp only[Act.put,List.setIfInBounds_toArray,List.set_cons_zero,List.set_cons_succ,qaj,qak]
        rfl
       refine take_ (i:=10) (N:=some 45) (v:=?_) (a':=?_) #[true,true,true,true,true,true,true,true,true,true,true,false,false,false,false] rfl rfl (take_ofW HT_.out HW_.out (by kernel_rfl)) (fun _ _ _ h=>h) (Or.inl ⟨by rfl,?_⟩) hHeld ?_ ?_
       rotate_left
       ·rintro w' ⟨s0,s1,s2,s3,s4⟩
        go_simp
        with_reducible rfl
       rotate_left
       ·simp only[Act.put,List.setIfInBounds_toArray,List.set_cons_zero,List.set_cons_succ,qaj,qak]
        rfl
       refine qar (i:=11) (N:=some 46) (v:=?_) (a':=?_) #[true,true,true,true,true,true,true,true,true,true,true,true,false,false,false] rfl rfl (qan HT_.out (by kernel_rfl)) (fun _ _ _ h=>h) (Or.inl ⟨by rfl,?_⟩) ?_ ?_
       rotate_left
       ·intro w'
        go_simp
        with_reducible rfl
       rotate_left
       ·simp only[Act.put,List.setIfInBounds_toArray,List.set_cons_zero,List.set_cons_succ,qaj,qak]
        rfl
       refine qar (i:=12) (N:=some 47) (v:=?_) (a':=?_) #[true,true,true,true,true,true,true,true,true,true,true,true,true,false,false] rfl rfl (qan HT_.out (by kernel_rfl)) (fun _ _ _ h=>h) (Or.inl ⟨by rfl,?_⟩) ?_ ?_
       rotate_left
       ·intro w'
        go_simp
        with_reducible rfl
       rotate_left
       ·simp only[Act.put,List.setIfInBounds_toArray,List.set_cons_zero,List.set_cons_succ,qaj,qak]
        rfl
       refine qar (i:=13) (N:=some 48) (v:=?_) (a':=?_) #[true,true,true,true,true,true,true,true,true,true,true,true,true,true,false] rfl rfl (qan HT_.out (by kernel_rfl)) (fun _ _ _ h=>h) (Or.inl ⟨by rfl,?_⟩) ?_ ?_
       rotate_left
       ·intro w'
        go_simp
        with_reducible rfl
       rotate_left
       ·simp only[Act.put,List.setIfInBounds_toArray,List.set_cons_zero,List.set_cons_succ,qaj,qak]
        rfl
       refine last_ (i:=14) (N:=none) #[true,true,true,true,true,true,true,true,true,true,true,true,true,true,true] rfl rfl (one_of HT_.out (by kernel_rfl)) (by decide) (fun K hK=>?_)
       refine skip_ (w1:=?_) (by rfl) rfl ?_ ?_
       rotate_left
       ·go_simp
        rfl
       refine hK.out _ _ ?_
       clear hK K
       refine done_ (done_of HT_.out (by kernel_rfl)) ?_
       try go_wp2
       go_ret
       exact⟨_,by first|rfl|(simp[qam,qal]<;>rfl)|(simp only[←hji33];first|rfl|(simp[qam,qal]<;>rfl))|(simp[*,qam,qal]<;>rfl),za8 HQ41,za2 HB GB36 GE765,by repeat(first|(with_reducible first|exact HK.out|apply Kept.alloc|apply Kept.drewN|apply Kept.drew|refine Kept.setCell ?_ HMgo36.out _|refine Kept.setCell ?_ (.inr GW765.out) _)|exact HK.out)⟩
      ·rw[if_neg c35] at H
       exact absurd H (by simp)
     ·rw[if_neg c34] at H
      exact absurd H (by simp)
    ·rw[if_neg c32] at H
     have c32b0:(a1_0 == 7)=false:=beq_eq_false_iff_ne.mpr c32
     have c32b1:(a1_0 != 7)=true:=bne_iff_ne.mpr c32
     obtain rfl:=Option.some.inj H
     go_enter Try.func120,Try.ntmps120
     go_wp2_with(first|((with_reducible refine qah (N:=3) rfl ?_);refine zX (N:=3) (cs:=#[.int .i64 a1_0,.int .i64 a1_1,.slice A1_2 l1_2.length c1_2]) (t:=62) ?_;intro gb765 hg w42 hbox hb;replace HO0:=Aside0.mk (Kd.S_below (za8 HO0) hb);have BK765:=Aside0.mk hbox;have GW765:=Aside0.mk ((by rw[hg];exact(by first|exact HK.out.1|exact(show Kept w _ (fun k_=>P0_ k_) from by repeat(first|(with_reducible first|exact HK.out|apply Kept.alloc|apply Kept.drewN|apply Kept.drew)|exact HK.out)).1):w.heap.size≤gb765));replace HK:=Aside0.mk (Kept.below (S:=(fun k_=>P0_ k_)) (za26 HK) hb);have GE765:=zH (w:=w0) hg (za1 HB);replace HB:=Aside0.mk (qab (za1 HB) hb);clear hb hbox hg;obtain⟨hcz43_0,hcz43_1,hcz43_2,hfz43_0,hfz43_1,hfz43_2⟩:=zC3 BK765))
     go_ret
     exact⟨_,za9,za8 HO0,za0 HB GE765,by repeat(first|(with_reducible first|exact HK.out|apply Kept.alloc|apply Kept.drewN|apply Kept.drew|refine Kept.setCell ?_ (.inr GW765.out) _)|exact HK.out)⟩
end Go.Proofs.Ytjccnaklodbbfaa.Print
