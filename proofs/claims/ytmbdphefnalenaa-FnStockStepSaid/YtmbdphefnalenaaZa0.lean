-- Written by squeeze.py: not trusted, Lean checks it.
import Derived.Test.YtmbdphefnalenaaZK
namespace Go.Proofs.Ytmbdphefnalenaa.Print
open Go.RowKit Go.Proofs.YtmbdphefnalenaaW.PrintWords Go.Proofs.YtmbdphefnalenaaW.PrintLast Go.Proofs.YtmbdphefnalenaaW.PrintMore
attribute [local go_sem] max2_int min2_int max_two min_two max_three min_three max_four min_four
set_option linter.unusedVariables false
set_option linter.unusedSimpArgs false
theorem eqA49 (d:Nat) (w:World) (x0 y0:Int) (x1 y1:Int) :
  (Op.equalIn (d+2) 49 (.agg #[.int .i64 x0,.int .i64 x1]) (.agg #[.int .i64 y0,.int .i64 y1])).run Try.prog w=.ok (x0 == y0 && (x1 == y1)) w:=by
 refine eqA_of Try.underlying49 (by kernel_rfl) ?_;refine eqf_cons (by rfl) (by go_simp;rfl) (by go_simp;rfl) (by go_simp) ?_;exact eqf_last (by rfl) (by go_simp;rfl) (by go_simp;rfl) (by go_simp)
def IsS107 (w0 W:World) (g:Nat) (f0:List Int) (f1:Int):Prop:=∃A0 c0,W.heap[g]?=some (.cells #[.slice A0 f0.length c0,.int .i64 f1] 107 (0,0))∧w0.heap.size≤g∧Kd.C (Kd.int .u8) w0 A0 f0.length f0
theorem IsS107.grown {w0 W:World} {g:Nat} {f0:List Int} {f1:Int} {W1:World} {row:Option Nat} (h:IsS107 w0 W g f0 f1) (hw:W.grownBy W1 row) (hne:some g≠row):IsS107 w0 W1 g f0 f1:=by
 obtain⟨A0,c0,hb,hg,hr0⟩:=h;exact⟨A0,c0,blk_grown hb hw hne,hg,hr0⟩
theorem IsS107.own_neN {w0 W:World} {g:Nat} {f0:List Int} {f1:Int} {α:Type} {d:Kd α} {e:Nat} {base:Nat} {ok:Nat→Prop} {v:Value} {xs:List α} (h:IsS107 w0 W g f0 f1) (ho:Kd.N d e W base ok v xs) (ht:e≠107):some g≠v.ownBlock:=by
 obtain⟨A0,c0,hb,hg,hr0⟩:=h;exact Kd.N_ne ho hb ht
theorem IsS107.fresh {w0 W:World} {g:Nat} {f0:List Int} {f1:Int} (h:IsS107 w0 W g f0 f1):∀k,W.heap.size≤k→k≠g:=by
 obtain⟨A0,c0,hb,hg,hr0⟩:=h;exact Kd.freshB hb
theorem IsS107.kept {w0 W:World} {g:Nat} {f0:List Int} {f1:Int} {W1:World} {S:Nat→Prop} (h:IsS107 w0 W g f0 f1) (hk:Kept W W1 S) (hne:¬S g):IsS107 w0 W1 g f0 f1:=by
 obtain⟨A0,c0,hb,hg,hr0⟩:=h;exact⟨A0,c0,blk_kept hb hk hne,hg,hr0⟩
theorem IsS107.below {w0 W:World} {g:Nat} {f0:List Int} {f1:Int} {W1:World} (h:IsS107 w0 W g f0 f1) (hw:Below W.heap.size W W1):IsS107 w0 W1 g f0 f1:=h.grown (grown_of_below hw none) (by simp)
theorem IsS107.alloc {w0 W:World} {g:Nat} {f0:List Int} {f1:Int} (h:IsS107 w0 W g f0 f1) (o:Obj):IsS107 w0 (W.alloc o) g f0 f1:=h.below (below_alloc (Below.refl _ _) o)
theorem IsS107.drewN {w0 W:World} {g:Nat} {f0:List Int} {f1:Int} (h:IsS107 w0 W g f0 f1) (m:Nat):IsS107 w0 (W.drewN m) g f0 f1:=h
theorem IsS107.drew {w0 W:World} {g:Nat} {f0:List Int} {f1:Int} (h:IsS107 w0 W g f0 f1):IsS107 w0 W.drew g f0 f1:=h
theorem IsS107.at_ {w0 W:World} {g:Nat} {f0:List Int} {f1:Int} {w':World} {m:Nat} (hq:W.drewN m=w') (h:IsS107 w0 W g f0 f1):IsS107 w0 w' g f0 f1:=by subst hq;exact IsS107.drewN h m
theorem IsS107.apart {w0 W:World} {g:Nat} {f0:List Int} {f1:Int} {α:Type} {d:Kd α} {e:Nat} {base:Nat} {ok:Nat→Prop} {v:Value} {xs:List α} (h:IsS107 w0 W g f0 f1) (ho:d.R e W base ok v xs) (ht:∀q,q ∈ e :: d.E→q≠107):d.R e W base (fun k=>ok k∧k≠g) v xs:=by
 obtain⟨A0,c0,hb,hg,hr0⟩:=h;exact Kd.R_types ho hb ht
theorem IsS107.own_ne {w0 W:World} {g:Nat} {f0:List Int} {f1:Int} {α:Type} {d:Kd α} {e:Nat} {base:Nat} {ok:Nat→Prop} {v:Value} {xs:List α} (h:IsS107 w0 W g f0 f1) (ho:d.R e W base ok v xs) (ht:e≠107):some g≠v.ownBlock:=by
 obtain⟨A0,c0,hb,hg,hr0⟩:=h;exact Kd.R_ne ho hb ht
theorem IsS107.apartQ {w0 W:World} {g:Nat} {f0:List Int} {f1:Int} {α:Type} {d:Kd α} {e:Nat} {base:Nat} {ok:Nat→Prop} {v:Value} {xs:List α} (h:IsS107 w0 W g f0 f1) (ho:d.Q e W base ok v xs) (ht:∀q,q ∈ e :: d.E→q≠107):d.Q e W base (fun k=>ok k∧k≠g) v xs:=by
 obtain⟨A0,c0,hb,hg,hr0⟩:=h;exact Kd.Q_types ho hb ht
theorem IsS107.own_neQ {w0 W:World} {g:Nat} {f0:List Int} {f1:Int} {α:Type} {d:Kd α} {e:Nat} {base:Nat} {ok:Nat→Prop} {v:Value} {xs:List α} (h:IsS107 w0 W g f0 f1) (ho:d.Q e W base ok v xs) (ht:e≠107):some g≠v.ownBlock:=by
 obtain⟨A0,c0,hb,hg,hr0⟩:=h;exact Kd.Q_ne ho hb ht
theorem IsS107.apartS {w0 W:World} {g:Nat} {f0:List Int} {f1:Int} {α:Type} {d:Kd α} {e:Nat} {base:Nat} {ok:Nat→Prop} {v:Value} {xs:List α} (h:IsS107 w0 W g f0 f1) (ho:d.S e W base ok v xs) (ht:∀q,q ∈ e :: d.E→q≠107):d.S e W base (fun k=>ok k∧k≠g) v xs:=by
 obtain⟨A0,c0,hb,hg,hr0⟩:=h;exact Kd.S_types ho hb ht
theorem IsS107.own_neS {w0 W:World} {g:Nat} {f0:List Int} {f1:Int} {α:Type} {d:Kd α} {e:Nat} {base:Nat} {ok:Nat→Prop} {v:Value} {xs:List α} (h:IsS107 w0 W g f0 f1) (ho:d.S e W base ok v xs) (ht:e≠107):some g≠v.ownBlock:=by
 obtain⟨A0,c0,hb,hg,hr0⟩:=h;exact Kd.S_ne ho hb ht
theorem IsS107.lt {w0 W:World} {g:Nat} {f0:List Int} {f1:Int} (h:IsS107 w0 W g f0 f1):g<W.heap.size:=by
 obtain⟨A0,c0,hb,hg,hr0⟩:=h;exact blk_lt hb
theorem IsS107.ge {w0 W:World} {g:Nat} {f0:List Int} {f1:Int} (h:IsS107 w0 W g f0 f1):w0.heap.size≤g:=by
 obtain⟨A0,c0,hb,hg,hr0⟩:=h;exact hg
theorem IsS107.ne_blk {w0 W:World} {g:Nat} {f0:List Int} {f1:Int} {a:Nat} {cs:Array Value} {t:TypeId} {fr:Nat × Nat} (h:IsS107 w0 W g f0 f1) (hb2:W.heap[a]?=some (.cells cs t fr)) (ht:t≠107):g≠a:=by
 obtain⟨A0,c0,hb,hg,hr0⟩:=h;rintro rfl;rw[hb] at hb2
 injection hb2 with hb2
 injection hb2 with _ ht2
 exact ht ht2.symm
theorem IsS107.far {w0 W:World} {g:Nat} {f0:List Int} {f1:Int} {p:Addr} (h:IsS107 w0 W g f0 f1) (hne:g≠p.block) (u:Value):IsS107 w0 (W.setCell p u) g f0 f1:=by
 obtain⟨A0,c0,hb,hg,hr0⟩:=h;exact⟨A0,c0,blk_far hb hne u,hg,hr0⟩
theorem cellS107_0 {W:World} {g:Nat} {A0:Option Addr} {c0:Nat} {f0:List Int} {f1:Int} (h:W.heap[g]?=some (.cells #[.slice A0 f0.length c0,.int .i64 f1] 107 (0,0))):W.cell? ⟨g,0,none⟩=some (.slice A0 f0.length c0):=(qaf h 0).trans rfl
theorem cellS107_1 {W:World} {g:Nat} {A0:Option Addr} {c0:Nat} {f0:List Int} {f1:Int} (h:W.heap[g]?=some (.cells #[.slice A0 f0.length c0,.int .i64 f1] 107 (0,0))):W.cell? ⟨g,1,none⟩=some (.int .i64 f1):=(qaf h 1).trans rfl
theorem IsS107.set_1 {w0 W:World} {g:Nat} {f0:List Int} {f1:Int} (h:IsS107 w0 W g f0 f1) (x:Int):IsS107 w0 (W.setCell ⟨g,1,none⟩ (.int .i64 x)) g f0 x:=by
 obtain⟨A0,c0,hb,hg,hr0⟩:=h;exact⟨A0,c0,by simpa using blk_set hb 1 (.int .i64 x),hg,hr0⟩
theorem IsS107.new (w0 W:World) (A0:Option Addr) (c0:Nat) (f0:List Int) (f1:Int) (hB:Below w0.heap.size w0 W) (hr0:Kd.C (Kd.int .u8) w0 A0 f0.length f0):IsS107 w0 (W.alloc (.cells #[.slice A0 f0.length c0,.int .i64 f1] 107)) W.heap.size f0 f1:=⟨A0,c0,by simpa using heap_alloc_new W _,hB.size,hr0⟩
def spec_l6Open.f (l0:List Int):Option (List Int × Int):=if(l0.length:Int)>2000 then(if 2000≤(l0.length:Int) then(some (l0.take 2000,0)) else(none)) else(some (l0,0))
set_option maxHeartbeats 8000000 in
set_option maxRecDepth 100000 in
theorem spec_l6Open.calls (A0:Option Addr) (c0:Nat) (l0:List Int) (r1:List Int) (r2:Int) (w0 w:World) (hB:Below w0.heap.size w0 w) (hr0:Kd.C (Kd.int .u8) w0 A0 l0.length l0) (hc0:l0.length≤c0) (h:spec_l6Open.f l0=some (r1,r2)) :
  Calls Try.prog 46 #[.slice A0 l0.length c0] w fun e w'=>∃g_:Nat,e=.returned (.pointer (some ⟨g_,0,none⟩))∧IsS107 w0 w' g_ r1 r2∧Below w0.heap.size w0 w'∧Below w.heap.size w w':=by
 have hu107:=Try.underlying107;have HR0:=qae.mk hr0;have HC0:=qae.mk hc0;clear hr0 hc0;have HBW:=qae.mk (Below.refl w.heap.size w);have HW0:=qae.mk hB.size;have HB:=qae.mk hB;clear hB;have H:(if(l0.length:Int)>2000 then(if 2000≤(l0.length:Int) then(some (l0.take 2000,0)) else(none)) else(some (l0,0)))=some (r1,r2):=h;clear h;by_cases c2:(l0.length:Int)>2000
 ·rw[if_pos c2] at H;have c2b0:decide (2000<(l0.length:Int))=true:=decide_eq_true c2;have c2b1:decide (2000<l0.length)=true:=decide_eq_true (by omega);clear c2;by_cases c3:2000≤(l0.length:Int)
  ·rw[if_pos c3] at H;have c3b0:=eq_true c3;have c3b1:decide (2000≤(l0.length:Int))=true:=decide_eq_true c3;clear c3;simp only[Option.some.injEq,Prod.mk.injEq] at H;obtain⟨rfl,rfl⟩:=H;obtain⟨i04,hi04,_,hsz4,_⟩:=info_parts info5;obtain⟨hcut4,hA4,hC4⟩:=print_take_of (P:=Try.prog) (Value.int .u8) 0 22 5 .i64 Try.underlying22 hi04 hsz4 A0 c0 l0 2000 (by omega) (of_decide_eq_true (za6)) HC0.out;have HR101:=qae.mk (Kd.C_of_reads (h1:=fun _=>rfl) (hA4 _ (Kd.reads_of_C HR0.out)));have HC101:=qae.mk hC4;clear hA4 hC4 hi04 hsz4;go_enter Try.func46,Try.ntmps46
   go_wp2_with(first|((with_reducible refine qai (N:=10) rfl ?_);refine zX (N:=10) (cs:=#[.slice A0 (l0.take 2000).length c0,.int .i64 0]) (t:=107) ?_;intro gb102 hg w5 hbox hb;replace HB:=qae.mk (qad (za3 HB) hb);have BK102:=qae.mk hbox;have GW102:=zH (w:=w) hg (za3 HBW);have GE102:=qae.mk ((Nat.le_trans HW0.out (by rw[hg];exact(below_size (za3 HBW)):w.heap.size≤gb102):w0.heap.size≤gb102));replace HBW:=qae.mk (qad HBW.out hb);clear hb hbox hg))
   go_ret;exact⟨_,rfl,(show IsS107 w0 _ gb102 (l0.take 2000) 0 from⟨_,_,za21 BK102,GE102.out,HR101.out⟩),za1 HB GE102,za1 HBW GW102⟩
  ·rw[if_neg c3] at H;exact absurd H (by simp)
 ·rw[if_neg c2] at H;have c2b0:decide (2000<(l0.length:Int))=false:=decide_eq_false c2;have c2b1:decide (2000<l0.length)=false:=decide_eq_false (by omega);clear c2;simp only[Option.some.injEq,Prod.mk.injEq] at H;obtain⟨rfl,rfl⟩:=H;go_enter Try.func46,Try.ntmps46
  go_wp2_with(first|((with_reducible refine qai (N:=10) rfl ?_);refine zX (N:=10) (cs:=#[.slice A0 l0.length c0,.int .i64 0]) (t:=107) ?_;intro gb103 hg w6 hbox hb;replace HB:=qae.mk (qad (za3 HB) hb);have BK103:=qae.mk hbox;have GW103:=zH (w:=w) hg (za3 HBW);have GE103:=qae.mk ((Nat.le_trans HW0.out (by rw[hg];exact(below_size (za3 HBW)):w.heap.size≤gb103):w0.heap.size≤gb103));replace HBW:=qae.mk (qad HBW.out hb);clear hb hbox hg))
  go_ret;exact⟨_,rfl,(show IsS107 w0 _ gb103 l0 0 from⟨_,_,za21 BK103,GE103.out,HR0.out⟩),za1 HB GE103,za1 HBW GW103⟩
theorem zb16_d_pick {p_ q0_ q1_ : Prop} (h0_ : qae q0_) (h1_ : qae q1_) (r_ : q0_ → q1_ → p_ := by intro h0_ h1_; repeat(first|(with_reducible first|exact h0_|apply below_alloc|apply pw_below_drewN|apply qar|refine qas ?_ (IsS107.ge h1_))|exact h0_)) : p_ := r_ h0_.out h1_.out
theorem zb28_d_pick {p_ q0_ : Prop} (h0_ : qae q0_) (r_ : q0_ → p_ := by intro h0_; repeat(first|(with_reducible first|exact h0_|apply IsS107.alloc|apply IsS107.drewN|apply IsS107.drew|apply IsS107.set_1)|exact h0_)) : p_ := r_ h0_.out
def spec_l6Rd_pick.j0:Nat→Int→Bool→List Int→Int→Option (Int × Int)
 |0,_,_,_,_=>none
 |k+1,x1,x24,x1000,x1001=>if x24=true then(some (0,x1001)) else(if(wrap64 (x1001 - 1))<(x1000.length:Int) then(if 0≤(wrap64 (x1001 - 1)) then(if x1=0 then(none) else(some (Int.tmod (wrap64 (rd x1000 (wrap64 (x1001 - 1)))) x1,x1001))) else(none)) else(if(x1000.length:Int)=0 then(none) else(if 0≤(Int.tmod (wrap64 (x1001 - 1)) (x1000.length:Int)) then(if(Int.tmod (wrap64 (x1001 - 1)) (x1000.length:Int))<(x1000.length:Int) then(if 0≤(Int.tmod (wrap64 ((wrap64 ((wrap64 (x1001 - 1))*7))+3)) (x1000.length:Int)) then(if(Int.tmod (wrap64 ((wrap64 ((wrap64 (x1001 - 1))*7))+3)) (x1000.length:Int))<(x1000.length:Int) then(if x1=0 then(none) else(some (Int.tmod (Go.bits .xor .i64 (wrap64 ((wrap64 ((wrap64 ((wrap64 ((wrap64 (rd x1000 (Int.tmod (wrap64 (x1001 - 1)) (x1000.length:Int))))*131))+(wrap64 ((wrap64 (rd x1000 (Int.tmod (wrap64 ((wrap64 ((wrap64 (x1001 - 1))*7))+3)) (x1000.length:Int))))*1117))))+(wrap64 ((wrap64 (x1001 - 1))*29))))+(wrap64 ((wrap64 (Int.tdiv (wrap64 (x1001 - 1)) (x1000.length:Int)))*53)))) (wrap64 (Int.tdiv (wrap64 ((wrap64 ((wrap64 ((wrap64 ((wrap64 (rd x1000 (Int.tmod (wrap64 (x1001 - 1)) (x1000.length:Int))))*131))+(wrap64 ((wrap64 (rd x1000 (Int.tmod (wrap64 ((wrap64 ((wrap64 (x1001 - 1))*7))+3)) (x1000.length:Int))))*1117))))+(wrap64 ((wrap64 (x1001 - 1))*29))))+(wrap64 ((wrap64 (Int.tdiv (wrap64 (x1001 - 1)) (x1000.length:Int)))*53)))) 64))) x1,x1001))) else(none)) else(none)) else(none)) else(none))))
def spec_l6Rd_pick.f (k:Nat) (s0_0:List Int) (s0_1:Int) (a1:Int):Option (Int × Int):=if a1<1 then(spec_l6Rd_pick.j0 k a1 true s0_0 (wrap64 (s0_1+1))) else(spec_l6Rd_pick.j0 k a1 ((s0_0.length:Int) == 0) s0_0 (wrap64 (s0_1+1)))
theorem spec_l6Rd_pick.mono_l:∀k,(∀y0 y1 y2 y3,LeO (spec_l6Rd_pick.j0 k y0 y1 y2 y3) (spec_l6Rd_pick.j0 (k+1) y0 y1 y2 y3))
 |0=>fun _ _ _ _ r h=>by simp[spec_l6Rd_pick.j0] at h
 |k+1=>by
  have ih0:=spec_l6Rd_pick.mono_l k
  ·intro y0 y1 y2 y3;unfold spec_l6Rd_pick.j0
   repeat' first|(with_reducible exact ih0 _ _ _ _)|(with_reducible exact LeO.refl _)|(with_reducible exact LeO.none _)|(with_reducible refine LeO.ite ?_ ?_)|(with_reducible refine LeO.bind ?_ (fun _=>?_))|exact ih0 _ _ _ _|exact LeO.none _|refine LeO.ite ?_ ?_|refine LeO.bind ?_ (fun _=>?_)
theorem spec_l6Rd_pick.mono:∀a0 a1 a2 k,LeO (spec_l6Rd_pick.f k a0 a1 a2) (spec_l6Rd_pick.f (k+1) a0 a1 a2):=by
 intro a0 a1 a2 k;have ih0:=spec_l6Rd_pick.mono_l k;unfold spec_l6Rd_pick.f
 repeat' first|(with_reducible exact ih0 _ _ _ _)|(with_reducible exact LeO.refl _)|(with_reducible exact LeO.none _)|(with_reducible refine LeO.ite ?_ ?_)|(with_reducible refine LeO.bind ?_ (fun _=>?_))|exact ih0 _ _ _ _|exact LeO.none _|refine LeO.ite ?_ ?_|refine LeO.bind ?_ (fun _=>?_)
set_option maxHeartbeats 8000000 in
set_option maxRecDepth 100000 in
theorem spec_l6Rd_pick.calls (k:Nat) (g:Nat) (s0_0:List Int) (s0_1:Int) (a1:Int) (r1:Int) (r2:Int) (w0 w:World) (hI:IsS107 w0 w g s0_0 s0_1) (hB:Below w0.heap.size w0 w) (h:spec_l6Rd_pick.f k s0_0 s0_1 a1=some (r1,r2)) :
  Calls Try.prog 48 #[.pointer (some ⟨g,0,none⟩),.int .i64 a1] w fun e w'=>e=.returned (.int .i64 r1)∧IsS107 w0 w' g s0_0 r2∧Below w0.heap.size w0 w'∧KeepBut w w' g none:=by
 have HI0:=qae.mk hI;have HK:=qae.mk (KeepBut.refl w g none);have HL:=qae.mk hB.size;clear hI;have HW0:=qae.mk hB.size;have HB:=qae.mk hB;clear hB;have H:(if a1<1 then(spec_l6Rd_pick.j0 k a1 true s0_0 (wrap64 (s0_1+1))) else(spec_l6Rd_pick.j0 k a1 ((s0_0.length:Int) == 0) s0_0 (wrap64 (s0_1+1))))=some (r1,r2):=h;clear h;have HC3:=qae.mk H;clear H;obtain⟨ASz4_0,cSz4_0,HGz4,hgz4,HSz4_0⟩:=HI0.out;have hcz4_0:=cellS107_0 HGz4;have hcz4_1:=cellS107_1 HGz4;have hfz4_1:=blk_frozen HGz4 1;clear HGz4 hgz4;go_enter Try.func48,Try.ntmps48
 go_upto_region 2 with(fail)
 repeat(go_quiet(fail);go_upto_region 2 with(fail))
 go_cut [24] (fun v24 wc=>∃(kq:Nat) (x24_2:Bool),v24=.bool x24_2∧qae (spec_l6Rd_pick.j0 kq a1 x24_2 s0_0 (wrap64 (s0_1+1))=some (r1,r2))∧qae (kq≤k)∧qae (IsS107 w0 wc g s0_0 (wrap64 (s0_1+1)))∧qae (KeepBut w wc g none)∧qae (Below w0.heap.size w0 wc))
 case first=>
  have H:=HC3.out;clear HC3;by_cases c5:a1<1
  ·rw[if_pos c5] at H;have c5b0:decide (a1<1)=true:=decide_eq_true c5;clear c5;(first|rw[c5b0]|(simp only[qaj,qak];rw[c5b0])|skip);have H':=qae.mk H;clear H;go_wp2
   repeat(go_quiet(fail);try go_wp2)
   go_meet
   case rel=>exact⟨_,(true),(za46),H',⟨za48⟩,⟨zb28_d_pick HI0⟩,⟨za7 HK⟩,⟨zb16_d_pick HB HI0⟩⟩
  ·rw[if_neg c5] at H;have c5b0:decide (a1<1)=false:=decide_eq_false c5;clear c5;(first|rw[c5b0]|(simp only[qaj,qak];rw[c5b0])|skip);have H':=qae.mk H;clear H;obtain⟨ASz6_0,cSz6_0,HGz6,hgz6,HSz6_0⟩:=HI0.out;have hcz6_0:=cellS107_0 HGz6;have hcz6_1:=cellS107_1 HGz6;have hfz6_1:=blk_frozen HGz6 1;clear HGz6 hgz6;go_wp2
   repeat(go_quiet(fail);try go_wp2)
   go_meet
   case rel=>exact⟨_,(((s0_0.length:Int) == 0)),(za46),H',⟨za48⟩,⟨zb28_d_pick HI0⟩,⟨za7 HK⟩,⟨zb16_d_pick HB HI0⟩⟩
 case rest=>
  clear HC3
  try clear p2
  try clear c4
  try clear c5
  try clear c5b0
  try clear p6
  try clear hcz4_0
  try clear hcz4_1
  try clear hcz6_0
  try clear hcz6_1
  try clear hfz4_1
  try clear hfz6_1
  obtain⟨kq,x24_2,rfl,HA,HJ2,HI0,HK,HB⟩:=hcut
  cases kq with
  |zero=>exact absurd HA.out (by simp[spec_l6Rd_pick.j0])
  |succ kj2=>
   have H:=HA.out;clear HA;simp only[spec_l6Rd_pick.j0] at H;by_cases c7:x24_2=true
   ·subst c7
    have H1:(some (0,(wrap64 (s0_1+1))))=some (r1,r2):=by rw[if_pos rfl] at H;exact H
    clear H;have H:=H1;clear H1;simp only[Option.some.injEq,Prod.mk.injEq] at H;obtain⟨rfl,rfl⟩:=H;go_wp2
    repeat(go_quiet(fail);try go_wp2)
    go_ret;exact⟨za27,zb28_d_pick HI0,zb16_d_pick HB HI0,za7 HK⟩
   ·replace c7:=Bool.eq_false_iff.mpr c7;subst c7
    have H1:(if(wrap64 ((wrap64 (s0_1+1)) - 1))<(s0_0.length:Int) then(if 0≤(wrap64 ((wrap64 (s0_1+1)) - 1)) then(if a1=0 then(none) else(some (Int.tmod (wrap64 (rd s0_0 (wrap64 ((wrap64 (s0_1+1)) - 1)))) a1,(wrap64 (s0_1+1))))) else(none)) else(if(s0_0.length:Int)=0 then(none) else(if 0≤(Int.tmod (wrap64 ((wrap64 (s0_1+1)) - 1)) (s0_0.length:Int)) then(if(Int.tmod (wrap64 ((wrap64 (s0_1+1)) - 1)) (s0_0.length:Int))<(s0_0.length:Int) then(if 0≤(Int.tmod (wrap64 ((wrap64 ((wrap64 ((wrap64 (s0_1+1)) - 1))*7))+3)) (s0_0.length:Int)) then(if(Int.tmod (wrap64 ((wrap64 ((wrap64 ((wrap64 (s0_1+1)) - 1))*7))+3)) (s0_0.length:Int))<(s0_0.length:Int) then(if a1=0 then(none) else(some (Int.tmod (Go.bits .xor .i64 (wrap64 ((wrap64 ((wrap64 ((wrap64 ((wrap64 (rd s0_0 (Int.tmod (wrap64 ((wrap64 (s0_1+1)) - 1)) (s0_0.length:Int))))*131))+(wrap64 ((wrap64 (rd s0_0 (Int.tmod (wrap64 ((wrap64 ((wrap64 ((wrap64 (s0_1+1)) - 1))*7))+3)) (s0_0.length:Int))))*1117))))+(wrap64 ((wrap64 ((wrap64 (s0_1+1)) - 1))*29))))+(wrap64 ((wrap64 (Int.tdiv (wrap64 ((wrap64 (s0_1+1)) - 1)) (s0_0.length:Int)))*53)))) (wrap64 (Int.tdiv (wrap64 ((wrap64 ((wrap64 ((wrap64 ((wrap64 (rd s0_0 (Int.tmod (wrap64 ((wrap64 (s0_1+1)) - 1)) (s0_0.length:Int))))*131))+(wrap64 ((wrap64 (rd s0_0 (Int.tmod (wrap64 ((wrap64 ((wrap64 ((wrap64 (s0_1+1)) - 1))*7))+3)) (s0_0.length:Int))))*1117))))+(wrap64 ((wrap64 ((wrap64 (s0_1+1)) - 1))*29))))+(wrap64 ((wrap64 (Int.tdiv (wrap64 ((wrap64 (s0_1+1)) - 1)) (s0_0.length:Int)))*53)))) 64))) a1,(wrap64 (s0_1+1))))) else(none)) else(none)) else(none)) else(none))))=some (r1,r2):=by rw[if_neg (show ¬(false=true) by decide)] at H;exact H
    clear H;have H:=H1;clear H1;by_cases c8:(wrap64 ((wrap64 (s0_1+1)) - 1))<(s0_0.length:Int)
    ·rw[if_pos c8] at H;have c8b0:decide ((wrap64 ((wrap64 (s0_1+1)) - 1))<(s0_0.length:Int))=true:=decide_eq_true c8;clear c8;obtain⟨ji9,hji9⟩:∃j_:Int,(wrap64 ((wrap64 (s0_1+1)) - 1))=j_:=⟨_,rfl⟩
     replace H:(if 0≤(ji9) then(if a1=0 then(none) else(some (Int.tmod (wrap64 (rd s0_0 (ji9))) a1,(wrap64 (s0_1+1))))) else(none))=some (r1,r2):=by first|(rw[hji9] at H;exact H)|(simp only[hji9] at H ⊢;exact H)
     (try rw[hji9] at c8b0);have hji9w:(IntKind.i64.wrap ((wrap64 (s0_1+1)) - 1))=ji9:=(qaj _).trans hji9;by_cases c10:0≤(ji9)
     ·rw[if_pos c10] at H;have c10b0:decide (0≤(ji9))=true:=decide_eq_true c10;clear c10;by_cases c11:a1=0
      ·rw[if_pos c11] at H;exact absurd H (by simp)
      ·rw[if_neg c11] at H;have c11b0:(a1 == 0)=false:=beq_eq_false_iff_ne.mpr c11;have c11b1:(a1 != 0)=true:=bne_iff_ne.mpr c11;simp only[Option.some.injEq,Prod.mk.injEq] at H;obtain⟨rfl,rfl⟩:=H;obtain⟨ASz12_0,cSz12_0,HGz12,hgz12,HSz12_0⟩:=HI0.out;have hcz12_0:=cellS107_0 HGz12;have hcz12_1:=cellS107_1 HGz12;have hfz12_1:=blk_frozen HGz12 1;clear HGz12 hgz12;have p104:0≤((ji9):Int):=of_decide_eq_true (za6);have q104:(ji9)<(s0_0.length:Int):=of_decide_eq_true (za6);obtain⟨ad104,e104,hx104_0⟩:=Kd.at_int HSz12_0 (ji9) p104 q104
       cases e104
       replace hx104_0:=pw_cell_below HB.out hx104_0;replace p104:=eq_true p104;replace q104:=eq_true q104;go_wp2
       repeat(go_quiet(fail);try go_wp2)
       go_ret;exact⟨by first|rfl|(simp[qan,qao]<;>rfl)|(simp only[←hji9];first|rfl|(simp[qan,qao]<;>rfl))|(simp[*,qan,qao]<;>rfl),zb28_d_pick HI0,zb16_d_pick HB HI0,za7 HK⟩
     ·rw[if_neg c10] at H;exact absurd H (by simp)
    ·rw[if_neg c8] at H;have c8b0:decide ((wrap64 ((wrap64 (s0_1+1)) - 1))<(s0_0.length:Int))=false:=decide_eq_false c8;clear c8;by_cases c13:(s0_0.length:Int)=0
     ·rw[if_pos c13] at H;exact absurd H (by simp)
     ·rw[if_neg c13] at H;have c13b0:((s0_0.length:Int) == 0)=false:=beq_eq_false_iff_ne.mpr c13;have c13b1:((s0_0.length:Int) != 0)=true:=bne_iff_ne.mpr c13
      have c13b2:¬(s0_0=[]):=fun h_=>c13 (by rw[h_];rfl)
      obtain⟨ji14,hji14⟩:∃j_:Int,(Int.tmod (wrap64 ((wrap64 (s0_1+1)) - 1)) (s0_0.length:Int))=j_:=⟨_,rfl⟩
      replace H:(if 0≤(ji14) then(if(ji14)<(s0_0.length:Int) then(if 0≤(Int.tmod (wrap64 ((wrap64 ((wrap64 ((wrap64 (s0_1+1)) - 1))*7))+3)) (s0_0.length:Int)) then(if(Int.tmod (wrap64 ((wrap64 ((wrap64 ((wrap64 (s0_1+1)) - 1))*7))+3)) (s0_0.length:Int))<(s0_0.length:Int) then(if a1=0 then(none) else(some (Int.tmod (Go.bits .xor .i64 (wrap64 ((wrap64 ((wrap64 ((wrap64 ((wrap64 (rd s0_0 (ji14)))*131))+(wrap64 ((wrap64 (rd s0_0 (Int.tmod (wrap64 ((wrap64 ((wrap64 ((wrap64 (s0_1+1)) - 1))*7))+3)) (s0_0.length:Int))))*1117))))+(wrap64 ((wrap64 ((wrap64 (s0_1+1)) - 1))*29))))+(wrap64 ((wrap64 (Int.tdiv (wrap64 ((wrap64 (s0_1+1)) - 1)) (s0_0.length:Int)))*53)))) (wrap64 (Int.tdiv (wrap64 ((wrap64 ((wrap64 ((wrap64 ((wrap64 (rd s0_0 (ji14)))*131))+(wrap64 ((wrap64 (rd s0_0 (Int.tmod (wrap64 ((wrap64 ((wrap64 ((wrap64 (s0_1+1)) - 1))*7))+3)) (s0_0.length:Int))))*1117))))+(wrap64 ((wrap64 ((wrap64 (s0_1+1)) - 1))*29))))+(wrap64 ((wrap64 (Int.tdiv (wrap64 ((wrap64 (s0_1+1)) - 1)) (s0_0.length:Int)))*53)))) 64))) a1,(wrap64 (s0_1+1))))) else(none)) else(none)) else(none)) else(none))=some (r1,r2):=by first|(rw[hji14] at H;exact H)|(simp only[hji14] at H ⊢;exact H)
      by_cases c15:0≤(ji14)
      ·rw[if_pos c15] at H;have c15b0:decide (0≤(ji14))=true:=decide_eq_true c15;clear c15;by_cases c16:(ji14)<(s0_0.length:Int)
       ·rw[if_pos c16] at H;have c16b0:decide ((ji14)<(s0_0.length:Int))=true:=decide_eq_true c16;clear c16;obtain⟨ji17,hji17⟩:∃j_:Int,(Int.tmod (wrap64 ((wrap64 ((wrap64 ((wrap64 (s0_1+1)) - 1))*7))+3)) (s0_0.length:Int))=j_:=⟨_,rfl⟩
        replace H:(if 0≤(ji17) then(if(ji17)<(s0_0.length:Int) then(if a1=0 then(none) else(some (Int.tmod (Go.bits .xor .i64 (wrap64 ((wrap64 ((wrap64 ((wrap64 ((wrap64 (rd s0_0 (ji14)))*131))+(wrap64 ((wrap64 (rd s0_0 (ji17)))*1117))))+(wrap64 ((wrap64 ((wrap64 (s0_1+1)) - 1))*29))))+(wrap64 ((wrap64 (Int.tdiv (wrap64 ((wrap64 (s0_1+1)) - 1)) (s0_0.length:Int)))*53)))) (wrap64 (Int.tdiv (wrap64 ((wrap64 ((wrap64 ((wrap64 ((wrap64 (rd s0_0 (ji14)))*131))+(wrap64 ((wrap64 (rd s0_0 (ji17)))*1117))))+(wrap64 ((wrap64 ((wrap64 (s0_1+1)) - 1))*29))))+(wrap64 ((wrap64 (Int.tdiv (wrap64 ((wrap64 (s0_1+1)) - 1)) (s0_0.length:Int)))*53)))) 64))) a1,(wrap64 (s0_1+1))))) else(none)) else(none))=some (r1,r2):=by first|(rw[hji17] at H;exact H)|(simp only[hji17] at H ⊢;exact H)
        by_cases c18:0≤(ji17)
        ·rw[if_pos c18] at H;have c18b0:decide (0≤(ji17))=true:=decide_eq_true c18;clear c18;by_cases c19:(ji17)<(s0_0.length:Int)
         ·rw[if_pos c19] at H;have c19b0:decide ((ji17)<(s0_0.length:Int))=true:=decide_eq_true c19;clear c19;by_cases c20:a1=0
          ·rw[if_pos c20] at H;exact absurd H (by simp)
          ·rw[if_neg c20] at H;have c20b0:(a1 == 0)=false:=beq_eq_false_iff_ne.mpr c20;have c20b1:(a1 != 0)=true:=bne_iff_ne.mpr c20;simp only[Option.some.injEq,Prod.mk.injEq] at H;obtain⟨rfl,rfl⟩:=H;obtain⟨ASz21_0,cSz21_0,HGz21,hgz21,HSz21_0⟩:=HI0.out;have hcz21_0:=cellS107_0 HGz21;have hcz21_1:=cellS107_1 HGz21;have hfz21_1:=blk_frozen HGz21 1;clear HGz21 hgz21;have p105:0≤((ji14):Int):=of_decide_eq_true (za6);have q105:(ji14)<(s0_0.length:Int):=of_decide_eq_true (za6);obtain⟨ad105,e105,hx105_0⟩:=Kd.at_int HSz21_0 (ji14) p105 q105
           cases e105
           replace hx105_0:=pw_cell_below HB.out hx105_0;replace p105:=eq_true p105;replace q105:=eq_true q105;have p106:0≤((ji17):Int):=of_decide_eq_true (za6);have q106:(ji17)<(s0_0.length:Int):=of_decide_eq_true (za6);obtain⟨ad106,e106,hx106_0⟩:=Kd.at_int HSz21_0 (ji17) p106 q106;obtain rfl:ad105=ad106:=(by injection e106);replace hx106_0:=pw_cell_below HB.out hx106_0;replace p106:=eq_true p106;replace q106:=eq_true q106;go_wp2
           repeat(go_quiet(fail);try go_wp2)
           go_ret;exact⟨by first|rfl|(simp[qan,qao]<;>rfl)|(simp only[←hji14,←hji17];first|rfl|(simp[qan,qao]<;>rfl))|(simp[*,qan,qao]<;>rfl),zb28_d_pick HI0,zb16_d_pick HB HI0,za7 HK⟩
         ·rw[if_neg c19] at H;exact absurd H (by simp)
        ·rw[if_neg c18] at H;exact absurd H (by simp)
       ·rw[if_neg c16] at H;exact absurd H (by simp)
      ·rw[if_neg c15] at H;exact absurd H (by simp)
def spec_l6In.f (a0:Int) (a1:Int) (a2:Int):Option (Bool):=if a0≥a1 then(some (decide (a0≤a2))) else(some false)
set_option maxHeartbeats 8000000 in
set_option maxRecDepth 100000 in
theorem spec_l6In.calls (a0:Int) (a1:Int) (a2:Int) (r:Bool) (w:World) (h:spec_l6In.f a0 a1 a2=some r) :
  Calls Try.prog 80 #[.int .i64 a0,.int .i64 a1,.int .i64 a2] w fun e w'=>e=.returned (.bool r)∧Drawn0 w w':=by
 have H:(if a0≥a1 then(some (decide (a0≤a2))) else(some false))=some r:=h;clear h;by_cases c4:a0≥a1
 ·rw[if_pos c4] at H;have c4b0:decide (a1≤a0)=true:=decide_eq_true c4;clear c4;obtain rfl:=Option.some.inj H;go_enter Try.func80,Try.ntmps80;go_wp2;go_ret;exact⟨za46,za49⟩
 ·rw[if_neg c4] at H;have c4b0:decide (a1≤a0)=false:=decide_eq_false c4;clear c4;obtain rfl:=Option.some.inj H;go_enter Try.func80,Try.ntmps80;go_wp2;go_ret;exact⟨za46,za49⟩
def spec_l1Many.l0:Nat→List Int→Int→Int→Option (Bool)
 |0,_,_,_=>none
 |k+1,x0,x3,x4=>if x4<(x0.length:Int) then(if 0≤x4 then((spec_l6In.f (rd x0 x4) 0 3).bind fun t122=>(if t122=true then(spec_l1Many.l0 k x0 (wrap64 (x3+(rd x0 x4))) (wrap64 (x4+1))) else(some false))) else(none)) else(if(x0.length:Int)=3 then(some (decide (x3>0))) else(some false))
def spec_l1Many.f (k:Nat) (l0:List Int):Option (Bool):=spec_l1Many.l0 k l0 0 0
theorem spec_l1Many.mono_l:∀k,(∀y0 y1 y2,LeO (spec_l1Many.l0 k y0 y1 y2) (spec_l1Many.l0 (k+1) y0 y1 y2))
 |0=>fun _ _ _ r h=>by simp[spec_l1Many.l0] at h
 |k+1=>by
  have ih0:=spec_l1Many.mono_l k
  ·intro y0 y1 y2;unfold spec_l1Many.l0
   repeat' first|(with_reducible exact ih0 _ _ _)|(with_reducible exact LeO.refl _)|(with_reducible exact LeO.none _)|(with_reducible refine LeO.ite ?_ ?_)|(with_reducible refine LeO.bind ?_ (fun _=>?_))|exact ih0 _ _ _|exact LeO.none _|refine LeO.ite ?_ ?_|refine LeO.bind ?_ (fun _=>?_)
theorem spec_l1Many.mono:∀a0 k,LeO (spec_l1Many.f k a0) (spec_l1Many.f (k+1) a0):=by
 intro a0 k;have ih0:=spec_l1Many.mono_l k;unfold spec_l1Many.f
 repeat' first|(with_reducible exact ih0 _ _ _)|(with_reducible exact LeO.refl _)|(with_reducible exact LeO.none _)|(with_reducible refine LeO.ite ?_ ?_)|(with_reducible refine LeO.bind ?_ (fun _=>?_))|exact ih0 _ _ _|exact LeO.none _|refine LeO.ite ?_ ?_|refine LeO.bind ?_ (fun _=>?_)
set_option maxHeartbeats 8000000 in
set_option maxRecDepth 100000 in
theorem spec_l1Many.calls (k:Nat) (A0:Option Addr) (c0:Nat) (l0:List Int) (r:Bool) (w:World) (hr0:Kd.C (Kd.int .i64) w A0 l0.length l0) (hc0:l0.length≤c0) (h:spec_l1Many.f k l0=some r) :
  Calls Try.prog 102 #[.slice A0 l0.length c0] w fun e w'=>e=.returned (.bool r)∧Drawn0 w w':=by
 have HR0:=qae.mk hr0;have HC0:=qae.mk hc0;clear hr0 hc0;have H:(spec_l1Many.l0 k l0 0 0)=some r:=h;clear h;have H':=qae.mk H;clear H;go_enter Try.func102,Try.ntmps102;go_wp2
 go_loopg [3,4] k (fun kq v3 v4 w'=>∃(x3_1:Int) (x4_1:Int),v3=.int .i64 x3_1∧v4=.int .i64 x4_1∧qae (spec_l1Many.l0 kq l0 x3_1 x4_1=some r)∧qae (kq≤k)∧Drawn0 w w')
 case atStart=>exact⟨(0),(0),(za46),(za46),H',⟨Nat.le_refl _⟩,za49⟩
 case round=>
  clear H'
  try clear c1
  obtain⟨x3_1,x4_1,rfl,rfl,HA,HK1,⟨m1,rfl⟩⟩:=hrel
  cases gk with
  |zero=>exact absurd HA.out (by simp[spec_l1Many.l0])
  |succ k1=>
   have H:=HA.out;clear HA;simp only[spec_l1Many.l0] at H;by_cases c2:x4_1<(l0.length:Int)
   ·rw[if_pos c2] at H;have c2b0:decide (x4_1<(l0.length:Int))=true:=decide_eq_true c2;clear c2;by_cases c3:0≤x4_1
    ·rw[if_pos c3] at H;have c3b0:decide (0≤x4_1)=true:=decide_eq_true c3;clear c3;replace H:=Option.bind_eq_some_iff.mp H;obtain⟨t122,A40,H⟩:=H;replace H:(if t122=true then(spec_l1Many.l0 k1 l0 (wrap64 (x3_1+(rd l0 x4_1))) (wrap64 (x4_1+1))) else(some false))=some r:=H;have A4:=qae.mk A40;clear A40;by_cases c5:t122=true
     ·subst c5
      have H1:(spec_l1Many.l0 k1 l0 (wrap64 (x3_1+(rd l0 x4_1))) (wrap64 (x4_1+1)))=some r:=by rw[if_pos rfl] at H;exact H
      clear H;have H:=H1;clear H1;have H':=qae.mk H;clear H;have p121:0≤(x4_1:Int):=of_decide_eq_true (za6);have q121:x4_1<(l0.length:Int):=of_decide_eq_true (za6);obtain⟨ad121,e121,hx121_0⟩:=Kd.at_int HR0.out x4_1 p121 q121
      cases e121
      replace p121:=eq_true p121;replace q121:=eq_true q121
      go_wp2_with(first|((with_reducible refine qag (f:=80) rfl ?_);refine zF (some 15) Try.func80 #[.int .i64 (rd l0 x4_1),.int .i64 0,.int .i64 3] ?_;(with_reducible refine(spec_l6In.calls (rd l0 x4_1) 0 3 true _ A4.out).mono ?_);rintro e w' ⟨rfl,⟨nd,rfl⟩⟩;refine⟨_,rfl,?_⟩;have p123:0≤(x4_1:Int):=of_decide_eq_true (za6);have q123:x4_1<(l0.length:Int):=of_decide_eq_true (za6);obtain⟨ad123,e123,hx123_0⟩:=Kd.at_int HR0.out x4_1 p123 q123;obtain rfl:ad121=ad123:=(by injection e123);replace p123:=eq_true p123;replace q123:=eq_true q123))
      go_roundg k1
      case measure=>have:=HK1.out;omega
      case rel=>exact⟨(wrap64 (x3_1+(rd l0 x4_1))),(wrap64 (x4_1+1)),(za46),(za46),H',⟨by have:=HK1.out;omega⟩,za49⟩
     ·replace c5:=Bool.eq_false_iff.mpr c5;subst c5
      have H1:(some false)=some r:=by rw[if_neg (show ¬(false=true) by decide)] at H;exact H
      clear H;have H:=H1;clear H1;obtain rfl:=Option.some.inj H;have p121:0≤(x4_1:Int):=of_decide_eq_true (za6);have q121:x4_1<(l0.length:Int):=of_decide_eq_true (za6);obtain⟨ad121,e121,hx121_0⟩:=Kd.at_int HR0.out x4_1 p121 q121
      cases e121
      replace p121:=eq_true p121;replace q121:=eq_true q121
      go_wp2_with(first|((with_reducible refine qag (f:=80) rfl ?_);refine zF (some 15) Try.func80 #[.int .i64 (rd l0 x4_1),.int .i64 0,.int .i64 3] ?_;(with_reducible refine(spec_l6In.calls (rd l0 x4_1) 0 3 false _ A4.out).mono ?_);rintro e w' ⟨rfl,⟨nd,rfl⟩⟩;refine⟨_,rfl,?_⟩))
      go_ret;exact⟨za46,za49⟩
    ·rw[if_neg c3] at H;exact absurd H (by simp)
   ·rw[if_neg c2] at H;have c2b0:decide (x4_1<(l0.length:Int))=false:=decide_eq_false c2;clear c2;by_cases c6:(l0.length:Int)=3
    ·rw[if_pos c6] at H;have c6b0:((l0.length:Int) == 3)=true:=beq_iff_eq.mpr c6;have c6b1:((l0.length:Int) != 3)=false:=bne_eq_false_iff_eq.mpr c6;clear c6;obtain rfl:=Option.some.inj H;go_wp2;go_ret;exact⟨za46,za49⟩
    ·rw[if_neg c6] at H;have c6b0:((l0.length:Int) == 3)=false:=beq_eq_false_iff_ne.mpr c6;have c6b1:((l0.length:Int) != 3)=true:=bne_iff_ne.mpr c6;obtain rfl:=Option.some.inj H;go_wp2;go_ret;exact⟨za46,za49⟩
def spec_RecOk.f (k:Nat) (a0_0:Int) (a0_1:Int) (l0_2:List Int):Option (Bool):=(spec_l6In.f a0_1 1 6).bind fun t125=>(if t125=true then(if a0_0=1 then(if(l0_2.length:Int)=1 then(if 0<(l0_2.length:Int) then((spec_l6In.f (rd l0_2 0) 1 3).bind fun t127=>(some t127)) else(none)) else(some false)) else(if a0_0=4 then((spec_l1Many.f k l0_2).bind fun t128=>(some t128)) else((spec_l6In.f a0_0 2 7).bind fun t129=>(if t129=true then(some ((l0_2.length:Int) == 0)) else(some false))))) else(some false))
theorem spec_RecOk.mono:∀a0 a1 a2 k,LeO (spec_RecOk.f k a0 a1 a2) (spec_RecOk.f (k+1) a0 a1 a2):=by
 intro a0 a1 a2 k;unfold spec_RecOk.f
 repeat' first|(with_reducible exact spec_l1Many.mono _ _)|(with_reducible exact LeO.refl _)|(with_reducible exact LeO.none _)|(with_reducible refine LeO.ite ?_ ?_)|(with_reducible refine LeO.bind ?_ (fun _=>?_))|exact spec_l1Many.mono _ _|exact LeO.none _|refine LeO.ite ?_ ?_|refine LeO.bind ?_ (fun _=>?_)
set_option maxHeartbeats 8000000 in
set_option maxRecDepth 100000 in
theorem spec_RecOk.calls (k:Nat) (a0_0:Int) (a0_1:Int) (A0_2:Option Addr) (c0_2:Nat) (l0_2:List Int) (r:Bool) (w:World) (hr0_2:Kd.C (Kd.int .i64) w A0_2 l0_2.length l0_2) (hc0_2:l0_2.length≤c0_2) (h:spec_RecOk.f k a0_0 a0_1 l0_2=some r) :
  Calls Try.prog 84 #[.agg #[.int .i64 a0_0,.int .i64 a0_1,.slice A0_2 l0_2.length c0_2]] w fun e w'=>e=.returned (.bool r)∧Below w.heap.size w w':=by
 have hu32:=Try.underlying32;have HR0_2:=qae.mk hr0_2;have HC0_2:=qae.mk hc0_2;clear hr0_2 hc0_2;have HB:=qae.mk (Below.refl w.heap.size w);have H:((spec_l6In.f a0_1 1 6).bind fun t125=>(if t125=true then(if a0_0=1 then(if(l0_2.length:Int)=1 then(if 0<(l0_2.length:Int) then((spec_l6In.f (rd l0_2 0) 1 3).bind fun t127=>(some t127)) else(none)) else(some false)) else(if a0_0=4 then((spec_l1Many.f k l0_2).bind fun t128=>(some t128)) else((spec_l6In.f a0_0 2 7).bind fun t129=>(if t129=true then(some ((l0_2.length:Int) == 0)) else(some false))))) else(some false)))=some r:=h;clear h;replace H:=Option.bind_eq_some_iff.mp H;obtain⟨t125,A20,H⟩:=H;replace H:(if t125=true then(if a0_0=1 then(if(l0_2.length:Int)=1 then(if 0<(l0_2.length:Int) then((spec_l6In.f (rd l0_2 0) 1 3).bind fun t127=>(some t127)) else(none)) else(some false)) else(if a0_0=4 then((spec_l1Many.f k l0_2).bind fun t128=>(some t128)) else((spec_l6In.f a0_0 2 7).bind fun t129=>(if t129=true then(some ((l0_2.length:Int) == 0)) else(some false))))) else(some false))=some r:=H;have A2:=qae.mk A20;clear A20;by_cases c3:t125=true
 ·subst c3
  have H1:(if a0_0=1 then(if(l0_2.length:Int)=1 then(if 0<(l0_2.length:Int) then((spec_l6In.f (rd l0_2 0) 1 3).bind fun t127=>(some t127)) else(none)) else(some false)) else(if a0_0=4 then((spec_l1Many.f k l0_2).bind fun t128=>(some t128)) else((spec_l6In.f a0_0 2 7).bind fun t129=>(if t129=true then(some ((l0_2.length:Int) == 0)) else(some false)))))=some r:=by rw[if_pos rfl] at H;exact H
  clear H;have H:=H1;clear H1;by_cases c4:a0_0=1
  ·rw[if_pos c4] at H;have c4b0:(a0_0 == 1)=true:=beq_iff_eq.mpr c4;have c4b1:(a0_0 != 1)=false:=bne_eq_false_iff_eq.mpr c4;clear c4;by_cases c5:(l0_2.length:Int)=1
   ·rw[if_pos c5] at H;have c5b0:((l0_2.length:Int) == 1)=true:=beq_iff_eq.mpr c5;have c5b1:((l0_2.length:Int) != 1)=false:=bne_eq_false_iff_eq.mpr c5;clear c5;by_cases c6:0<(l0_2.length:Int)
    ·rw[if_pos c6] at H;have c6b0:decide (0<(l0_2.length:Int))=true:=decide_eq_true c6;have c6b1:decide (0<l0_2.length)=true:=decide_eq_true (by omega);clear c6;replace H:=Option.bind_eq_some_iff.mp H;obtain⟨t127,A70,H⟩:=H;replace H:(some t127)=some r:=H;have A7:=qae.mk A70;clear A70;obtain rfl:=Option.some.inj H;go_enter Try.func84,Try.ntmps84
     go_wp2_with(first|((with_reducible refine qai (N:=1) rfl ?_);(try(refine gate_guard (by rfl) ?_;dsimp only));refine zX (N:=1) (cs:=#[.int .i64 a0_0,.int .i64 a0_1,.slice A0_2 l0_2.length c0_2]) (t:=32) ?_;intro gb124 hg w8 hbox hb;have BK124:=qae.mk hbox;have GW124:=zH (w:=w) hg (za3 HB);have GE124:=GW124;replace HB:=qae.mk (qad (za3 HB) hb);clear hb hbox hg;obtain⟨hcz9_0,hcz9_1,hcz9_2,hfz9_0,hfz9_1,hfz9_2⟩:=zC3 BK124)|((with_reducible refine qag (f:=80) rfl ?_);refine zF (some 5) Try.func80 #[.int .i64 a0_1,.int .i64 1,.int .i64 6] ?_;(with_reducible refine(spec_l6In.calls a0_1 1 6 true _ A2.out).mono ?_);rintro e w' ⟨rfl,⟨nd,rfl⟩⟩;refine⟨_,rfl,?_⟩;have p126:0≤(0:Int):=(by omega);have q126:0<(l0_2.length:Int):=of_decide_eq_true (za6);obtain⟨ad126,e126,hx126_0⟩:=Kd.at_int HR0_2.out 0 p126 q126;cases e126;have qi126:(0<l0_2.length)=True:=eq_true (by omega);(try rw[show((0:Int)).toNat=0 from rfl] at hx126_0);(try rw[Addr.add_zero'] at hx126_0);replace hx126_0:=(HB.out.cell (World.block_lt_of_cell? w _ hx126_0)).trans hx126_0;replace p126:=eq_true p126;replace q126:=eq_true q126)|(go_at_call 80;(with_reducible refine(spec_l6In.calls (rd l0_2 0) 1 3 t127 _ A7.out).mono ?_);rintro e w' ⟨rfl,⟨nd,rfl⟩⟩))
     go_ret;exact⟨za27,za1 HB GE124⟩
    ·rw[if_neg c6] at H;exact absurd H (by simp)
   ·rw[if_neg c5] at H;have c5b0:((l0_2.length:Int) == 1)=false:=beq_eq_false_iff_ne.mpr c5;have c5b1:((l0_2.length:Int) != 1)=true:=bne_iff_ne.mpr c5;obtain rfl:=Option.some.inj H;go_enter Try.func84,Try.ntmps84
    go_wp2_with(first|((with_reducible refine qai (N:=1) rfl ?_);(try(refine gate_guard (by rfl) ?_;dsimp only));refine zX (N:=1) (cs:=#[.int .i64 a0_0,.int .i64 a0_1,.slice A0_2 l0_2.length c0_2]) (t:=32) ?_;intro gb124 hg w10 hbox hb;have BK124:=qae.mk hbox;have GW124:=zH (w:=w) hg (za3 HB);have GE124:=GW124;replace HB:=qae.mk (qad (za3 HB) hb);clear hb hbox hg;obtain⟨hcz11_0,hcz11_1,hcz11_2,hfz11_0,hfz11_1,hfz11_2⟩:=zC3 BK124)|((with_reducible refine qag (f:=80) rfl ?_);refine zF (some 5) Try.func80 #[.int .i64 a0_1,.int .i64 1,.int .i64 6] ?_;(with_reducible refine(spec_l6In.calls a0_1 1 6 true _ A2.out).mono ?_);rintro e w' ⟨rfl,⟨nd,rfl⟩⟩;refine⟨_,rfl,?_⟩))
    go_ret;exact⟨za27,za1 HB GE124⟩
  ·rw[if_neg c4] at H;have c4b0:(a0_0 == 1)=false:=beq_eq_false_iff_ne.mpr c4;have c4b1:(a0_0 != 1)=true:=bne_iff_ne.mpr c4;by_cases c12:a0_0=4
   ·rw[if_pos c12] at H;have c12b0:(a0_0 == 4)=true:=beq_iff_eq.mpr c12;have c12b1:(a0_0 != 4)=false:=bne_eq_false_iff_eq.mpr c12;clear c12;replace H:=Option.bind_eq_some_iff.mp H;obtain⟨t128,A130,H⟩:=H;replace H:(some t128)=some r:=H;have A13:=qae.mk A130;clear A130;obtain rfl:=Option.some.inj H;go_enter Try.func84,Try.ntmps84
    go_wp2_with(first|((with_reducible refine qai (N:=1) rfl ?_);(try(refine gate_guard (by rfl) ?_;dsimp only));refine zX (N:=1) (cs:=#[.int .i64 a0_0,.int .i64 a0_1,.slice A0_2 l0_2.length c0_2]) (t:=32) ?_;intro gb124 hg w14 hbox hb;have BK124:=qae.mk hbox;have GW124:=zH (w:=w) hg (za3 HB);have GE124:=GW124;replace HB:=qae.mk (qad (za3 HB) hb);clear hb hbox hg;obtain⟨hcz15_0,hcz15_1,hcz15_2,hfz15_0,hfz15_1,hfz15_2⟩:=zC3 BK124)|((with_reducible refine qag (f:=80) rfl ?_);refine zF (some 5) Try.func80 #[.int .i64 a0_1,.int .i64 1,.int .i64 6] ?_;(with_reducible refine(spec_l6In.calls a0_1 1 6 true _ A2.out).mono ?_);rintro e w' ⟨rfl,⟨nd,rfl⟩⟩;refine⟨_,rfl,?_⟩)|((with_reducible refine qag (f:=102) rfl ?_);refine zF (some 26) Try.func102 #[.slice A0_2 l0_2.length c0_2] ?_;(with_reducible refine(spec_l1Many.calls k _ _ l0_2 t128 _ ?side1 ?side2 A13.out).mono ?_);(case side1=>repeat(first|exact(Kd.C_below HR0_2.out (za1 HB GE124))|(with_reducible refine Kd.C_alloc ?_ _)|(with_reducible refine Kd.C_drewN ?_ _)|(with_reducible refine Kd.C_drew ?_)));(case side2=>exact HC0_2.out);rintro e w' ⟨rfl,⟨nd,rfl⟩⟩;refine⟨_,rfl,?_⟩))
    go_ret;exact⟨za27,za1 HB GE124⟩
   ·rw[if_neg c12] at H;have c12b0:(a0_0 == 4)=false:=beq_eq_false_iff_ne.mpr c12;have c12b1:(a0_0 != 4)=true:=bne_iff_ne.mpr c12;replace H:=Option.bind_eq_some_iff.mp H;obtain⟨t129,A160,H⟩:=H;replace H:(if t129=true then(some ((l0_2.length:Int) == 0)) else(some false))=some r:=H;have A16:=qae.mk A160;clear A160;by_cases c17:t129=true
    ·subst c17
     have H1:(some ((l0_2.length:Int) == 0))=some r:=by rw[if_pos rfl] at H;exact H
     clear H;have H:=H1;clear H1;obtain rfl:=Option.some.inj H;go_enter Try.func84,Try.ntmps84
     go_wp2_with(first|((with_reducible refine qai (N:=1) rfl ?_);(try(refine gate_guard (by rfl) ?_;dsimp only));refine zX (N:=1) (cs:=#[.int .i64 a0_0,.int .i64 a0_1,.slice A0_2 l0_2.length c0_2]) (t:=32) ?_;intro gb124 hg w18 hbox hb;have BK124:=qae.mk hbox;have GW124:=zH (w:=w) hg (za3 HB);have GE124:=GW124;replace HB:=qae.mk (qad (za3 HB) hb);clear hb hbox hg;obtain⟨hcz19_0,hcz19_1,hcz19_2,hfz19_0,hfz19_1,hfz19_2⟩:=zC3 BK124)|((with_reducible refine qag (f:=80) rfl ?_);refine zF (some 5) Try.func80 #[.int .i64 a0_1,.int .i64 1,.int .i64 6] ?_;(with_reducible refine(spec_l6In.calls a0_1 1 6 true _ A2.out).mono ?_);rintro e w' ⟨rfl,⟨nd,rfl⟩⟩;refine⟨_,rfl,?_⟩)|((with_reducible refine qag (f:=80) rfl ?_);refine zF (some 29) Try.func80 #[.int .i64 a0_0,.int .i64 2,.int .i64 7] ?_;(with_reducible refine(spec_l6In.calls a0_0 2 7 true _ A16.out).mono ?_);rintro e w' ⟨rfl,⟨nd,rfl⟩⟩;refine⟨_,rfl,?_⟩))
     go_ret;exact⟨za27,za1 HB GE124⟩
    ·replace c17:=Bool.eq_false_iff.mpr c17;subst c17
     have H1:(some false)=some r:=by rw[if_neg (show ¬(false=true) by decide)] at H;exact H
     clear H;have H:=H1;clear H1;obtain rfl:=Option.some.inj H;go_enter Try.func84,Try.ntmps84
     go_wp2_with(first|((with_reducible refine qai (N:=1) rfl ?_);(try(refine gate_guard (by rfl) ?_;dsimp only));refine zX (N:=1) (cs:=#[.int .i64 a0_0,.int .i64 a0_1,.slice A0_2 l0_2.length c0_2]) (t:=32) ?_;intro gb124 hg w20 hbox hb;have BK124:=qae.mk hbox;have GW124:=zH (w:=w) hg (za3 HB);have GE124:=GW124;replace HB:=qae.mk (qad (za3 HB) hb);clear hb hbox hg;obtain⟨hcz21_0,hcz21_1,hcz21_2,hfz21_0,hfz21_1,hfz21_2⟩:=zC3 BK124)|((with_reducible refine qag (f:=80) rfl ?_);refine zF (some 5) Try.func80 #[.int .i64 a0_1,.int .i64 1,.int .i64 6] ?_;(with_reducible refine(spec_l6In.calls a0_1 1 6 true _ A2.out).mono ?_);rintro e w' ⟨rfl,⟨nd,rfl⟩⟩;refine⟨_,rfl,?_⟩)|((with_reducible refine qag (f:=80) rfl ?_);refine zF (some 29) Try.func80 #[.int .i64 a0_0,.int .i64 2,.int .i64 7] ?_;(with_reducible refine(spec_l6In.calls a0_0 2 7 false _ A16.out).mono ?_);rintro e w' ⟨rfl,⟨nd,rfl⟩⟩;refine⟨_,rfl,?_⟩))
     go_ret;exact⟨za27,za1 HB GE124⟩
 ·replace c3:=Bool.eq_false_iff.mpr c3;subst c3
  have H1:(some false)=some r:=by rw[if_neg (show ¬(false=true) by decide)] at H;exact H
  clear H;have H:=H1;clear H1;obtain rfl:=Option.some.inj H;go_enter Try.func84,Try.ntmps84
  go_wp2_with(first|((with_reducible refine qai (N:=1) rfl ?_);(try(refine gate_guard (by rfl) ?_;dsimp only));refine zX (N:=1) (cs:=#[.int .i64 a0_0,.int .i64 a0_1,.slice A0_2 l0_2.length c0_2]) (t:=32) ?_;intro gb124 hg w22 hbox hb;have BK124:=qae.mk hbox;have GW124:=zH (w:=w) hg (za3 HB);have GE124:=GW124;replace HB:=qae.mk (qad (za3 HB) hb);clear hb hbox hg;obtain⟨hcz23_0,hcz23_1,hcz23_2,hfz23_0,hfz23_1,hfz23_2⟩:=zC3 BK124)|((with_reducible refine qag (f:=80) rfl ?_);refine zF (some 5) Try.func80 #[.int .i64 a0_1,.int .i64 1,.int .i64 6] ?_;(with_reducible refine(spec_l6In.calls a0_1 1 6 false _ A2.out).mono ?_);rintro e w' ⟨rfl,⟨nd,rfl⟩⟩;refine⟨_,rfl,?_⟩))
  go_ret;exact⟨za27,za1 HB GE124⟩
end Go.Proofs.Ytmbdphefnalenaa.Print
