-- Written by squeeze.py, a program of this session, out of what print.sh and myprint.py had printed: cut to what is used, narrowed. Not trusted, Lean checks it.
import Derived.Test.YtkbjgmfghhgodaaZK
import Derived.Test.YtkbjgmfghhgodaaZb0
import Derived.Test.YtkbjgmfghhgodaaZl0
import Derived.Test.YtkbjgmfghhgodaaZl1
namespace Go.Proofs.Ytkbjgmfghhgodaa.Print
open Go.RowKit Go.Proofs.YtkbjgmfghhgodaaW.PrintWords Go.Proofs.YtkbjgmfghhgodaaW.PrintLast Go.Proofs.YtkbjgmfghhgodaaW.PrintMore
attribute [local go_sem] max2_int min2_int max_two min_two max_three min_three max_four min_four
set_option linter.unusedVariables false
set_option linter.unusedSimpArgs false
def impl_LogOk_1.f (a0_0:Int) (a0_1:Int) (l0_2:List Int):Option (Bool):=(impl_RecOk.f a0_0 a0_1 l0_2).bind fun t593=>(some (!t593))
set_option maxHeartbeats 8000000 in
set_option maxRecDepth 100000 in
theorem impl_LogOk_1.calls (a0_0:Int) (a0_1:Int) (A0_2:Option Addr) (c0_2:Nat) (l0_2:List Int) (r:Bool) (w:World) (hr0_2:Kd.C (Kd.int .i64) w A0_2 l0_2.length l0_2) (hc0_2:l0_2.length≤c0_2) (h:impl_LogOk_1.f a0_0 a0_1 l0_2=some r) :
  Calls Try.prog 77 #[.agg #[.int .i64 a0_0,.int .i64 a0_1,.slice A0_2 l0_2.length c0_2]] w fun e w'=>e=.returned (.bool r)∧Below w.heap.size w w':=by
 have hu45:=Try.underlying45
 have HR0_2:=qbb.mk hr0_2
 have HC0_2:=qbb.mk hc0_2
 clear hr0_2 hc0_2
 have HB:=qbb.mk (Below.refl w.heap.size w)
 have H:((impl_RecOk.f a0_0 a0_1 l0_2).bind fun t593=>(some (!t593)))=some r:=h
 clear h
 replace H:=Option.bind_eq_some_iff.mp H
 obtain⟨t593,A20,H⟩:=H
 replace H:(some (!t593))=some r:=H
 have A2:=qbb.mk A20
 clear A20
 obtain rfl:=Option.some.inj H
 go_enter Try.func77,Try.ntmps77
 go_wp2_with(first|((with_reducible refine qav (N:=1) rfl ?_);refine qat ?hg (N:=1) ?hd (cs:=#[.int .i64 a0_0,.int .i64 a0_1,.slice A0_2 l0_2.length c0_2]) (t:=45) ?hr ?_;(case hd=>rfl);(case hg=>rfl);(case hr=>first|(go_simp;done)|(go_simp;rfl));intro gb592 hg w3 hbox hb;have n0_:=qbb.mk (qak (by repeat(first|(with_reducible first|exact HB.out|apply qac|apply qaa|apply qab)|exact HB.out)) hb);have n1_:=qbb.mk (hbox);have n2_:=qbb.mk ((by rw[hg];exact(qaj (by repeat(first|(with_reducible first|exact HB.out|apply qac|apply qaa|apply qab)|exact HB.out))):w.heap.size≤gb592));have n3_:=qbb.mk ((by rw[hg];exact(qaj (by repeat(first|(with_reducible first|exact HB.out|apply qac|apply qaa|apply qab)|exact HB.out))):w.heap.size≤gb592));clear HB;have HB:=n0_;have BK592:=n1_;have GW592:=n2_;have GE592:=n3_;clear n0_ n1_ n2_ n3_;clear hb hbox hg;have hcz4_0:w3.cell? ⟨gb592,0,none⟩=some (.int .i64 a0_0):=(qai BK592.out 0).trans rfl;have hcz4_1:w3.cell? ⟨gb592,1,none⟩=some (.int .i64 a0_1):=(qai BK592.out 1).trans rfl;have hcz4_2:w3.cell? ⟨gb592,2,none⟩=some (.slice A0_2 l0_2.length c0_2):=(qai BK592.out 2).trans rfl;have hfz4_0:=qah BK592.out 0;have hfz4_1:=qah BK592.out 1;have hfz4_2:=qah BK592.out 2)|((with_reducible refine qao (f:=27) rfl ?_);refine qax (some 4) rfl rfl Try.func27 (by kernel_rfl) rfl #[.agg #[.int .i64 a0_0,.int .i64 a0_1,.slice A0_2 l0_2.length c0_2]] rfl (by(try simp only[List.map_toArray,List.map_cons,List.map_nil]);first|done|rfl|(simp only[List.length_drop,List.length_take];rfl)) ?_;(with_reducible refine(impl_RecOk.calls a0_0 a0_1 _ _ l0_2 t593 _ ?side1 ?side2 A2.out).mono ?_);(case side1=>repeat(first|exact(Kd.C_below HR0_2.out HB.out)|(with_reducible refine Kd.C_alloc ?_ _)|(with_reducible refine Kd.C_drewN ?_ _)|(with_reducible refine Kd.C_drew ?_)));(case side2=>exact HC0_2.out);rintro e w5 ⟨rfl,hb⟩;refine⟨_,rfl,?_⟩;have n0_:=qbb.mk (qal (g:=gb592) (o:=.cells #[.int .i64 a0_0,.int .i64 a0_1,.slice A0_2 l0_2.length c0_2] 45 (0,0)) (by(with_reducible repeat(first|refine qae ?_ _|refine qaf ?_|refine qad ?_ _));exact BK592.out) hb);have n1_:=qbb.mk (qak (by repeat(first|(with_reducible first|exact HB.out|apply qac|apply qaa|apply qab|refine qag ?_ GE592.out)|exact HB.out)) hb);clear BK592;clear HB;have BK592:=n0_;have HB:=n1_;clear n0_ n1_;(try clear hb);(try clear hb2);(try clear hk);(try clear hi)))
 go_ret
 exact⟨by first|rfl|(simp[qan,qam]<;>rfl)|(simp[*,qan,qam]<;>rfl),by repeat(first|(with_reducible first|exact HB.out|apply qac|apply qaa|apply qab|refine qag ?_ GE592.out)|exact HB.out)⟩
theorem drop_cons_T45 {l:List S45} {k:Nat} (h:k<l.length):l.drop k=rd_T45 l (k:Int) :: l.drop (k+1):=by
 rw[List.drop_eq_getElem_cons h]
 simp[rd_T45,List.getD_eq_getElem?_getD,List.getElem?_eq_getElem h]
set_option maxHeartbeats 4000000 in
set_option maxRecDepth 100000 in
theorem idx_T45 (p:S45→Option Bool) (g:Nat) (A_:Option Addr) (c_:Nat) (l0:List S45) (r:Bool) (w:World) (hr0:Kd.C k45 w A_ l0.length l0) (hc0:l0.length≤c_)
  (eg:∀args w,(callFunc g args).run Try.prog w=.ok (.enter g args) w)
  (hg:∀(W:World) (x:S45) (A2:Option Addr) (c2:Nat) (b:Bool),Kd.C (Kd.int .i64) W A2 (x.f2).length (x.f2)→(x.f2).length≤c2→p x=some b→Calls Try.prog g #[.agg #[.int .i64 (x.f0),.int .i64 (x.f1),.slice A2 (x.f2).length c2]] W fun e w'=>e=.returned (.bool b)∧Below W.heap.size W w') (h:anyO p l0=some r) :
  Calls Try.prog 90 #[.slice A_ l0.length c_,.func (.func g) #[] #[]] w (IdxB r w):=by
 have HR:=qbb.mk hr0
 have HG:=qbb.mk hg
 have HH:=qbb.mk h
 clear hr0 hc0 hg h
 have hbig:l0.length≤9223372036854775807:=by
  have:=HR.out
  exact this.2.1
 go_enter Try.func90,Try.ntmps90
 go_wp2
 go_loopg [5,8] l0.length (fun gg _ s8 wr=>∃kk:Nat,kk≤l0.length∧l0.length - kk≤gg∧s8=.int .i64 kk∧qbb (Below w.heap.size w wr)∧qbb (anyO p (l0.drop kk)=some r))
 case atStart=>exact⟨0,Nat.zero_le _,by omega,rfl,⟨Below.refl _ _⟩,HH⟩
 case round=>
  obtain⟨kk,hkk,hg',rfl,BW,B⟩:=hrel
  clear HH
  by_cases hlt:kk<l0.length
  ·have hltz:(kk:Int)<(l0.length:Int):=by omega
   obtain⟨ad,A2,c2,e0,hx0,hx1,hx2,hl2,hi2⟩:=at_T45 HR.out (kk:Int) (by omega) hltz
   cases e0
   rw[Int.toNat_natCast] at hx0
   rw[Int.toNat_natCast] at hx1
   rw[Int.toNat_natCast] at hx2
   replace hx0:=(BW.out.cell (World.block_lt_of_cell? w _ hx0)).trans hx0
   replace hx1:=(BW.out.cell (World.block_lt_of_cell? w _ hx1)).trans hx1
   replace hx2:=(BW.out.cell (World.block_lt_of_cell? w _ hx2)).trans hx2
   have HI2:=qbb.mk hi2
   have HL2:=qbb.mk hl2
   clear hi2 hl2
   have B':=B.out
   rw[drop_cons_T45 hlt] at B'
   obtain⟨b,hb,hb'⟩:=anyO_cons B'
   clear B B'
   generalize rd_T45 l0 (kk:Int)=x at *
   have HB:=qbb.mk hb
   clear hb
   rcases hb' with⟨rfl,rfl⟩|⟨rfl,hb'⟩
   ·have hcall:=HG.out wr x _ _ true (Kd.C_below HI2.out BW.out) HL2.out HB.out
    go_wp2_with(go_at_fn g;refine hcall.mono ?_;rintro e w' ⟨rfl,hbl⟩)
    go_ret
    exact⟨kk,rfl,by simp,qak BW.out hbl⟩
   ·have B2:=qbb.mk hb'
    clear hb'
    have hcall:=HG.out wr x _ _ false (Kd.C_below HI2.out BW.out) HL2.out HB.out
    go_wp2_with(go_at_fn g;refine hcall.mono ?_;rintro e w' ⟨rfl,hbl⟩)
    go_roundg (l0.length - (kk+1))
    case measure=>omega
    case rel=>exact⟨kk+1,by omega,by omega,by go_num,⟨qak BW.out hbl⟩,B2⟩
  ·have hltz:¬(kk:Int)<(l0.length:Int):=by omega
   have B':=B.out
   rw[List.drop_eq_nil_of_le (by omega)] at B'
   have hr:false=r:=by injection B'
   subst hr
   clear B'
   go_wp2
   go_ret
   exact⟨-1,rfl,by decide,BW.out⟩
set_option maxHeartbeats 4000000 in
theorem contains_T45 (p:S45→Option Bool) (g:Nat) (A_:Option Addr) (c_:Nat) (l0:List S45) (r:Bool) (w:World) (hr0:Kd.C k45 w A_ l0.length l0) (hc0:l0.length≤c_)
  (eg:∀args w,(callFunc g args).run Try.prog w=.ok (.enter g args) w)
  (hg:∀(W:World) (x:S45) (A2:Option Addr) (c2:Nat) (b:Bool),Kd.C (Kd.int .i64) W A2 (x.f2).length (x.f2)→(x.f2).length≤c2→p x=some b→Calls Try.prog g #[.agg #[.int .i64 (x.f0),.int .i64 (x.f1),.slice A2 (x.f2).length c2]] W fun e w'=>e=.returned (.bool b)∧Below W.heap.size W w') (h:anyO p l0=some r) :
  Calls Try.prog 78 #[.slice A_ l0.length c_,.func (.func g) #[] #[]] w fun e w'=>e=.returned (.bool r)∧Below w.heap.size w w':=by
 have hI:=fun W=>idx_T45 p g A_ c_ l0 r W
 have HR:=qbb.mk hr0
 have HG:=qbb.mk hg
 have HH:=qbb.mk h
 have HC:=qbb.mk hc0
 clear hr0 hc0 hg h
 go_enter Try.func78,Try.ntmps78
 go_wp2_with(go_at_call 90;refine(hI _ HR.out HC.out eg HG.out HH.out).mono ?_;rintro e w' ⟨i,rfl,hi,hb⟩)
 go_ret
 exact⟨by rw[←hi];rfl,hb⟩
def impl_LogOk.f (l0_0:List (S45)) (a0_1:Int):Option (Bool):=if(l0_0.length:Int)≤40 then((impl_in.f a0_1 0 (l0_0.length:Int)).bind fun t=>if t=true then((anyO (fun x:S45=>impl_LogOk_1.f x.f0 x.f1 x.f2) l0_0).bind fun a=>some (!a)) else some false) else some false
set_option maxHeartbeats 8000000 in
set_option maxRecDepth 100000 in
theorem impl_LogOk.calls (A0_0:Option Addr) (c0_0:Nat) (l0_0:List (S45)) (a0_1:Int) (r:Bool) (w:World) (hr0_0:Kd.C k45 w A0_0 l0_0.length l0_0) (hc0_0:l0_0.length≤c0_0) (h:impl_LogOk.f l0_0 a0_1=some r) :
  Calls Try.prog 42 #[.agg #[.slice A0_0 l0_0.length c0_0,.int .i64 a0_1]] w fun e w'=>e=.returned (.bool r)∧Below w.heap.size w w':=by
 have HR:=qbb.mk hr0_0
 have HC:=qbb.mk hc0_0
 have c1:=fun(W:World) (r':Bool) (hr:Kd.C k45 W A0_0 l0_0.length l0_0) (h:anyO (fun x:S45=>impl_LogOk_1.f x.f0 x.f1 x.f2) l0_0=some r')=>contains_T45 (fun x:S45=>impl_LogOk_1.f x.f0 x.f1 x.f2) 77 A0_0 c0_0 l0_0 r' W hr HC.out (enters_of Try.func77 (by kernel_rfl) rfl) (fun W x A c b h1 h2 hb=>(impl_LogOk_1.calls x.f0 x.f1 A c x.f2 b W h1 h2 hb).mono fun e w' ⟨he,hd⟩=>⟨he,hd⟩) h
 have C1:=qbb.mk c1
 clear hr0_0 hc0_0 c1
 unfold impl_LogOk.f at h
 by_cases h3:(l0_0.length:Int)≤40
 ·rw[if_pos h3] at h
  have h3b:decide ((l0_0.length:Int)≤40)=true:=decide_eq_true h3
  have h3c:decide (l0_0.length≤40)=true:=decide_eq_true (by omega)
  clear h3
  obtain⟨t,ht,h⟩:=Option.bind_eq_some_iff.mp h
  have HT:=qbb.mk ht
  clear ht
  cases t with
  |false=>
   rw[if_neg (by decide)] at h
   injection h with h
   subst h
   go_enter Try.func42,Try.ntmps42
   go_wp2_with(go_at_call 48;refine(impl_in.calls _ _ _ false _ HT.out).mono ?_;rintro e w' ⟨rfl,⟨nd,rfl⟩⟩)
   go_ret
   exact⟨rfl,qaa (qac (Below.refl _ _) _) _⟩
  |true=>
   rw[if_pos rfl] at h
   obtain⟨a,ha,h⟩:=Option.bind_eq_some_iff.mp h
   injection h with h
   subst h
   have HA:=qbb.mk ha
   clear ha
   go_enter Try.func42,Try.ntmps42
   go_wp2_with(first|(go_at_call 48;refine(impl_in.calls _ _ _ true _ HT.out).mono ?_;rintro e w' ⟨rfl,⟨nd,rfl⟩⟩)|(go_at_call 78;refine(C1.out _ a ?side1 HA.out).mono ?_;(case side1=>repeat(first|exact HR.out|(with_reducible refine Kd.C_alloc ?_ _)|(with_reducible refine Kd.C_drewN ?_ _)|(with_reducible refine Kd.C_drew ?_)));rintro e w' ⟨rfl,hb⟩))
   go_ret
   exact⟨rfl,qak (qaa (qac (Below.refl _ _) _) _) hb⟩
 ·rw[if_neg h3] at h
  injection h with h
  subst h
  have h3b:decide ((l0_0.length:Int)≤40)=false:=decide_eq_false h3
  have h3c:decide (l0_0.length≤40)=false:=decide_eq_false (by omega)
  clear h3
  go_enter Try.func42,Try.ntmps42
  go_wp2
  go_ret
  exact⟨rfl,qac (Below.refl _ _) _⟩
def spec_LogOk.l0:Nat→Int→List (S45)→Int→Option (Bool)
 |0,_,_,_=>none
 |k+1,x3,x595000,x595001=>if x3<(x595000.length:Int) then(if 0≤x3 then((spec_RecOk.f k ((rd_T45 x595000 x3).f0) ((rd_T45 x595000 x3).f1) ((rd_T45 x595000 x3).f2)).bind fun t596=>(if t596=true then(spec_LogOk.l0 k (wrap64 (x3+1)) x595000 x595001) else(some false))) else(none)) else(if(x595000.length:Int)≤40 then((spec_l6In.f x595001 0 (x595000.length:Int)).bind fun t597=>(some t597)) else(some false))
def spec_LogOk.f (k:Nat) (l0_0:List (S45)) (a0_1:Int):Option (Bool):=spec_LogOk.l0 k 0 l0_0 a0_1
theorem spec_LogOk.mono_l:∀k,(∀y0 y1 y2,LeO (spec_LogOk.l0 k y0 y1 y2) (spec_LogOk.l0 (k+1) y0 y1 y2))
 |0=>fun _ _ _ r h=>by simp[spec_LogOk.l0] at h
 |k+1=>by
  have ih0:=spec_LogOk.mono_l k
  ·intro y0 y1 y2
   unfold spec_LogOk.l0
   repeat' first
   |(with_reducible exact ih0 _ _ _)
   |(with_reducible exact spec_RecOk.mono _ _ _ _)
   |(with_reducible exact LeO.refl _)
   |(with_reducible exact LeO.none _)
   |(with_reducible refine LeO.ite ?_ ?_)
   |(with_reducible refine LeO.bind ?_ (fun _=>?_))
   |exact ih0 _ _ _
   |exact spec_RecOk.mono _ _ _ _
   |exact LeO.none _
   |refine LeO.ite ?_ ?_
   |refine LeO.bind ?_ (fun _=>?_)
theorem spec_LogOk.mono:∀a0 a1 k,LeO (spec_LogOk.f k a0 a1) (spec_LogOk.f (k+1) a0 a1):=by
 intro a0 a1 k
 have ih0:=spec_LogOk.mono_l k
 unfold spec_LogOk.f
 repeat' first
   |(with_reducible exact ih0 _ _ _)
   |(with_reducible exact spec_RecOk.mono _ _ _ _)
   |(with_reducible exact LeO.refl _)
   |(with_reducible exact LeO.none _)
   |(with_reducible refine LeO.ite ?_ ?_)
   |(with_reducible refine LeO.bind ?_ (fun _=>?_))
   |exact ih0 _ _ _
   |exact spec_RecOk.mono _ _ _ _
   |exact LeO.none _
   |refine LeO.ite ?_ ?_
   |refine LeO.bind ?_ (fun _=>?_)
set_option maxHeartbeats 8000000 in
set_option maxRecDepth 100000 in
theorem spec_LogOk.calls (k:Nat) (A0_0:Option Addr) (c0_0:Nat) (l0_0:List (S45)) (a0_1:Int) (r:Bool) (w:World) (hr0_0:Kd.C k45 w A0_0 l0_0.length l0_0) (hc0_0:l0_0.length≤c0_0) (h:spec_LogOk.f k l0_0 a0_1=some r) :
  Calls Try.prog 43 #[.agg #[.slice A0_0 l0_0.length c0_0,.int .i64 a0_1]] w fun e w'=>e=.returned (.bool r)∧Below w.heap.size w w':=by
 have hu68:=Try.underlying68
 have hu45:=Try.underlying45
 have HR0_0:=qbb.mk hr0_0
 have HC0_0:=qbb.mk hc0_0
 clear hr0_0 hc0_0
 have HB:=qbb.mk (Below.refl w.heap.size w)
 have H:(spec_LogOk.l0 k 0 l0_0 a0_1)=some r:=h
 clear h
 have H':=qbb.mk H
 clear H
 go_enter Try.func43,Try.ntmps43
 go_wp2_with(first|((with_reducible refine qav (N:=1) rfl ?_);(try(refine gate_guard (by rfl) ?_;dsimp only));refine qat ?hg (N:=1) ?hd (cs:=#[.slice A0_0 l0_0.length c0_0,.int .i64 a0_1]) (t:=68) ?hr ?_;(case hd=>rfl);(case hg=>rfl);(case hr=>first|(go_simp;done)|(go_simp;rfl));intro gb594 hg w2 hbox hb;have n0_:=qbb.mk (qak (by repeat(first|(with_reducible first|exact HB.out|apply qac|apply qaa|apply qab)|exact HB.out)) hb);have n1_:=qbb.mk (hbox);have n2_:=qbb.mk ((by rw[hg];exact(qaj (by repeat(first|(with_reducible first|exact HB.out|apply qac|apply qaa|apply qab)|exact HB.out))):w.heap.size≤gb594));have n3_:=qbb.mk ((by rw[hg];exact(qaj (by repeat(first|(with_reducible first|exact HB.out|apply qac|apply qaa|apply qab)|exact HB.out))):w.heap.size≤gb594));clear HB;have HB:=n0_;have BK594:=n1_;have GW594:=n2_;have GE594:=n3_;clear n0_ n1_ n2_ n3_;clear hb hbox hg))
 go_loopg [3] k (fun kq v3 w'=>∃(x3_1:Int),v3=.int .i64 x3_1∧qbb (spec_LogOk.l0 kq x3_1 l0_0 a0_1=some r)∧qbb (kq≤k)∧qbb (w'.heap[gb594]?=some (.cells #[(.slice A0_0 l0_0.length c0_0),.int .i64 a0_1] 68 (0,0)))∧qbb (Below w.heap.size w w'))
 case atStart=>exact⟨(0),(by first|rfl|(simp;done)|(simp[*];done)),H',⟨Nat.le_refl _⟩,⟨by(with_reducible repeat(first|refine qae ?_ _|refine qaf ?_|refine qad ?_ _));exact BK594.out⟩,⟨by repeat(first|(with_reducible first|exact HB.out|apply qac|apply qaa|apply qab|refine qag ?_ GE594.out)|exact HB.out)⟩⟩
 case round=>
  clear H'
  try clear p2
  obtain⟨x3_1,rfl,HA,HK1,BK594,HB⟩:=hrel
  cases gk with
  |zero=>exact absurd HA.out (by simp[spec_LogOk.l0])
  |succ k1=>
   have H:=HA.out
   clear HA
   simp only[spec_LogOk.l0] at H
   by_cases c3:x3_1<(l0_0.length:Int)
   ·rw[if_pos c3] at H
    have c3b0:decide (x3_1<(l0_0.length:Int))=true:=decide_eq_true c3
    clear c3
    by_cases c4:0≤x3_1
    ·rw[if_pos c4] at H
     have c4b0:decide (0≤x3_1)=true:=decide_eq_true c4
     clear c4
     replace H:=Option.bind_eq_some_iff.mp H
     obtain⟨t596,A50,H⟩:=H
     replace H:(if t596=true then(spec_LogOk.l0 k1 (wrap64 (x3_1+1)) l0_0 a0_1) else(some false))=some r:=H
     have A5:=qbb.mk A50
     clear A50
     by_cases c6:t596=true
     ·subst c6
      have H1:(spec_LogOk.l0 k1 (wrap64 (x3_1+1)) l0_0 a0_1)=some r:=by rw[if_pos rfl] at H;exact H
      clear H
      have H:=H1
      clear H1
      have H':=qbb.mk H
      clear H
      have hcz7_0:wr.cell? ⟨gb594,0,none⟩=some (.slice A0_0 l0_0.length c0_0):=(qai BK594.out 0).trans rfl
      have hcz7_1:wr.cell? ⟨gb594,1,none⟩=some (.int .i64 a0_1):=(qai BK594.out 1).trans rfl
      have hfz7_0:=qah BK594.out 0
      have hfz7_1:=qah BK594.out 1
      have p595:0≤(x3_1:Int):=of_decide_eq_true (by first|(with_reducible assumption)|assumption)
      have q595:x3_1<(l0_0.length:Int):=of_decide_eq_true (by first|(with_reducible assumption)|assumption)
      obtain⟨ad595,A595_2,c595_2,e595,hx595_0,hx595_1,hx595_2,hl595_2,hi595_2⟩:=at_T45 HR0_0.out x3_1 p595 q595
      cases e595
      have hxo595_2:=qbb.mk hx595_2
      replace hx595_0:=(HB.out.cell (World.block_lt_of_cell? w _ hx595_0)).trans hx595_0
      replace hx595_1:=(HB.out.cell (World.block_lt_of_cell? w _ hx595_1)).trans hx595_1
      replace hx595_2:=(HB.out.cell (World.block_lt_of_cell? w _ hx595_2)).trans hx595_2
      have HR595_2:=qbb.mk hi595_2
      have HC595_2:=qbb.mk hl595_2
      clear hi595_2 hl595_2
      replace p595:=eq_true p595
      replace q595:=eq_true q595
      go_wp2_with(first|((with_reducible refine qao (f:=25) rfl ?_);refine qax (some 16) rfl rfl Try.func25 (by kernel_rfl) rfl #[.agg #[.int .i64 ((rd_T45 l0_0 x3_1).f0),.int .i64 ((rd_T45 l0_0 x3_1).f1),.slice A595_2 ((rd_T45 l0_0 x3_1).f2).length c595_2]] rfl (by(try simp only[List.map_toArray,List.map_cons,List.map_nil]);first|done|rfl|(simp only[List.length_drop,List.length_take];rfl)) ?_;(with_reducible refine(spec_RecOk.calls k1 ((rd_T45 l0_0 x3_1).f0) ((rd_T45 l0_0 x3_1).f1) _ _ ((rd_T45 l0_0 x3_1).f2) true _ ?side1 ?side2 A5.out).mono ?_);(case side1=>repeat(first|exact(Kd.C_below HR595_2.out HB.out)|(with_reducible refine Kd.C_alloc ?_ _)|(with_reducible refine Kd.C_drewN ?_ _)|(with_reducible refine Kd.C_drew ?_)));(case side2=>exact HC595_2.out);rintro e w8 ⟨rfl,hb⟩;refine⟨_,rfl,?_⟩;have n0_:=qbb.mk (qal (g:=gb594) (o:=.cells #[.slice (some ad595) l0_0.length c0_0,.int .i64 a0_1] 68 (0,0)) (by(with_reducible repeat(first|refine qae ?_ _|refine qaf ?_|refine qad ?_ _));exact BK594.out) hb);have n1_:=qbb.mk (qak (by repeat(first|(with_reducible first|exact HB.out|apply qac|apply qaa|apply qab|refine qag ?_ GE594.out)|exact HB.out)) hb);clear BK594;clear HB;have BK594:=n0_;have HB:=n1_;clear n0_ n1_;(try clear hb);(try clear hb2);(try clear hk);(try clear hi)))
      go_roundg k1
      case measure=>have:=HK1.out;omega
      case rel=>exact⟨(wrap64 (x3_1+1)),(by first|rfl|(simp;done)|(simp[*];done)),H',⟨by have:=HK1.out;omega⟩,⟨by(with_reducible repeat(first|refine qae ?_ _|refine qaf ?_|refine qad ?_ _));exact BK594.out⟩,⟨by repeat(first|(with_reducible first|exact HB.out|apply qac|apply qaa|apply qab|refine qag ?_ GE594.out)|exact HB.out)⟩⟩
     ·replace c6:=Bool.eq_false_iff.mpr c6
      subst c6
      have H1:(some false)=some r:=by rw[if_neg (show ¬(false=true) by decide)] at H;exact H
      clear H
      have H:=H1
      clear H1
      obtain rfl:=Option.some.inj H
      have hcz9_0:wr.cell? ⟨gb594,0,none⟩=some (.slice A0_0 l0_0.length c0_0):=(qai BK594.out 0).trans rfl
      have hcz9_1:wr.cell? ⟨gb594,1,none⟩=some (.int .i64 a0_1):=(qai BK594.out 1).trans rfl
      have hfz9_0:=qah BK594.out 0
      have hfz9_1:=qah BK594.out 1
      have p595:0≤(x3_1:Int):=of_decide_eq_true (by first|(with_reducible assumption)|assumption)
      have q595:x3_1<(l0_0.length:Int):=of_decide_eq_true (by first|(with_reducible assumption)|assumption)
      obtain⟨ad595,A595_2,c595_2,e595,hx595_0,hx595_1,hx595_2,hl595_2,hi595_2⟩:=at_T45 HR0_0.out x3_1 p595 q595
      cases e595
      have hxo595_2:=qbb.mk hx595_2
      replace hx595_0:=(HB.out.cell (World.block_lt_of_cell? w _ hx595_0)).trans hx595_0
      replace hx595_1:=(HB.out.cell (World.block_lt_of_cell? w _ hx595_1)).trans hx595_1
      replace hx595_2:=(HB.out.cell (World.block_lt_of_cell? w _ hx595_2)).trans hx595_2
      have HR595_2:=qbb.mk hi595_2
      have HC595_2:=qbb.mk hl595_2
      clear hi595_2 hl595_2
      replace p595:=eq_true p595
      replace q595:=eq_true q595
      go_wp2_with(first|((with_reducible refine qao (f:=25) rfl ?_);refine qax (some 16) rfl rfl Try.func25 (by kernel_rfl) rfl #[.agg #[.int .i64 ((rd_T45 l0_0 x3_1).f0),.int .i64 ((rd_T45 l0_0 x3_1).f1),.slice A595_2 ((rd_T45 l0_0 x3_1).f2).length c595_2]] rfl (by(try simp only[List.map_toArray,List.map_cons,List.map_nil]);first|done|rfl|(simp only[List.length_drop,List.length_take];rfl)) ?_;(with_reducible refine(spec_RecOk.calls k1 ((rd_T45 l0_0 x3_1).f0) ((rd_T45 l0_0 x3_1).f1) _ _ ((rd_T45 l0_0 x3_1).f2) false _ ?side1 ?side2 A5.out).mono ?_);(case side1=>repeat(first|exact(Kd.C_below HR595_2.out HB.out)|(with_reducible refine Kd.C_alloc ?_ _)|(with_reducible refine Kd.C_drewN ?_ _)|(with_reducible refine Kd.C_drew ?_)));(case side2=>exact HC595_2.out);rintro e w10 ⟨rfl,hb⟩;refine⟨_,rfl,?_⟩;have n0_:=qbb.mk (qal (g:=gb594) (o:=.cells #[.slice (some ad595) l0_0.length c0_0,.int .i64 a0_1] 68 (0,0)) (by(with_reducible repeat(first|refine qae ?_ _|refine qaf ?_|refine qad ?_ _));exact BK594.out) hb);have n1_:=qbb.mk (qak (by repeat(first|(with_reducible first|exact HB.out|apply qac|apply qaa|apply qab|refine qag ?_ GE594.out)|exact HB.out)) hb);clear BK594;clear HB;have BK594:=n0_;have HB:=n1_;clear n0_ n1_;(try clear hb);(try clear hb2);(try clear hk);(try clear hi)))
      go_ret
      exact⟨by first|rfl|(simp[qan,qam]<;>rfl)|(simp[*,qan,qam]<;>rfl),by repeat(first|(with_reducible first|exact HB.out|apply qac|apply qaa|apply qab|refine qag ?_ GE594.out)|exact HB.out)⟩
    ·rw[if_neg c4] at H
     exact absurd H (by simp)
   ·rw[if_neg c3] at H
    have c3b0:decide (x3_1<(l0_0.length:Int))=false:=decide_eq_false c3
    clear c3
    by_cases c11:(l0_0.length:Int)≤40
    ·rw[if_pos c11] at H
     have c11b0:decide ((l0_0.length:Int)≤40)=true:=decide_eq_true c11
     have c11b1:decide (l0_0.length≤40)=true:=decide_eq_true (by omega)
     clear c11
     replace H:=Option.bind_eq_some_iff.mp H
     obtain⟨t597,A120,H⟩:=H
     replace H:(some t597)=some r:=H
     have A12:=qbb.mk A120
     clear A120
     obtain rfl:=Option.some.inj H
     have hcz13_0:wr.cell? ⟨gb594,0,none⟩=some (.slice A0_0 l0_0.length c0_0):=(qai BK594.out 0).trans rfl
     have hcz13_1:wr.cell? ⟨gb594,1,none⟩=some (.int .i64 a0_1):=(qai BK594.out 1).trans rfl
     have hfz13_0:=qah BK594.out 0
     have hfz13_1:=qah BK594.out 1
     go_wp2_with(first|(go_at_call 47;(with_reducible refine(spec_l6In.calls a0_1 0 (l0_0.length:Int) t597 _ A12.out).mono ?_);rintro e w' ⟨rfl,⟨nd,rfl⟩⟩))
     go_ret
     exact⟨by first|rfl|(simp[qan,qam]<;>rfl)|(simp[*,qan,qam]<;>rfl),by repeat(first|(with_reducible first|exact HB.out|apply qac|apply qaa|apply qab|refine qag ?_ GE594.out)|exact HB.out)⟩
    ·rw[if_neg c11] at H
     have c11b0:decide ((l0_0.length:Int)≤40)=false:=decide_eq_false c11
     have c11b1:decide (l0_0.length≤40)=false:=decide_eq_false (by omega)
     clear c11
     obtain rfl:=Option.some.inj H
     have hcz14_0:wr.cell? ⟨gb594,0,none⟩=some (.slice A0_0 l0_0.length c0_0):=(qai BK594.out 0).trans rfl
     have hcz14_1:wr.cell? ⟨gb594,1,none⟩=some (.int .i64 a0_1):=(qai BK594.out 1).trans rfl
     have hfz14_0:=qah BK594.out 0
     have hfz14_1:=qah BK594.out 1
     go_wp2
     go_ret
     exact⟨by first|rfl|(simp[qan,qam]<;>rfl)|(simp[*,qan,qam]<;>rfl),by repeat(first|(with_reducible first|exact HB.out|apply qac|apply qaa|apply qab|refine qag ?_ GE594.out)|exact HB.out)⟩
end Go.Proofs.Ytkbjgmfghhgodaa.Print
