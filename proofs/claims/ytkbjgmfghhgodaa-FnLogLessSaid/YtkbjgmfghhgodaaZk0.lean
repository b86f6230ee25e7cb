-- Written by squeeze.py, a program of this session, out of what print.sh and myprint.py had printed: cut to what is used, narrowed. Not trusted, Lean checks it.
import Derived.Test.YtkbjgmfghhgodaaZK
import Derived.Test.YtkbjgmfghhgodaaZb0
namespace Go.Proofs.Ytkbjgmfghhgodaa.Print
open Go.RowKit Go.Proofs.YtkbjgmfghhgodaaW.PrintWords Go.Proofs.YtkbjgmfghhgodaaW.PrintLast Go.Proofs.YtkbjgmfghhgodaaW.PrintMore
attribute [local go_sem] max2_int min2_int max_two min_two max_three min_three max_four min_four
set_option linter.unusedVariables false
set_option linter.unusedSimpArgs false
def spec_l1Many.l0:Nat→List Int→Int→Int→Option (Bool)
 |0,_,_,_=>none
 |k+1,x0,x3,x4=>if x4<(x0.length:Int) then(if 0≤x4 then((spec_l6In.f (rd x0 x4) 0 3).bind fun t238=>(if t238=true then(spec_l1Many.l0 k x0 (wrap64 (x3+(rd x0 x4))) (wrap64 (x4+1))) else(some false))) else(none)) else(if(x0.length:Int)=3 then(some (decide (x3>0))) else(some false))
def spec_l1Many.f (k:Nat) (l0:List Int):Option (Bool):=spec_l1Many.l0 k l0 0 0
theorem spec_l1Many.mono_l:∀k,(∀y0 y1 y2,LeO (spec_l1Many.l0 k y0 y1 y2) (spec_l1Many.l0 (k+1) y0 y1 y2))
 |0=>fun _ _ _ r h=>by simp[spec_l1Many.l0] at h
 |k+1=>by
  have ih0:=spec_l1Many.mono_l k
  ·intro y0 y1 y2
   unfold spec_l1Many.l0
   repeat' first
   |(with_reducible exact ih0 _ _ _)
   |(with_reducible exact LeO.refl _)
   |(with_reducible exact LeO.none _)
   |(with_reducible refine LeO.ite ?_ ?_)
   |(with_reducible refine LeO.bind ?_ (fun _=>?_))
   |exact ih0 _ _ _
   |exact LeO.none _
   |refine LeO.ite ?_ ?_
   |refine LeO.bind ?_ (fun _=>?_)
theorem spec_l1Many.mono:∀a0 k,LeO (spec_l1Many.f k a0) (spec_l1Many.f (k+1) a0):=by
 intro a0 k
 have ih0:=spec_l1Many.mono_l k
 unfold spec_l1Many.f
 repeat' first
   |(with_reducible exact ih0 _ _ _)
   |(with_reducible exact LeO.refl _)
   |(with_reducible exact LeO.none _)
   |(with_reducible refine LeO.ite ?_ ?_)
   |(with_reducible refine LeO.bind ?_ (fun _=>?_))
   |exact ih0 _ _ _
   |exact LeO.none _
   |refine LeO.ite ?_ ?_
   |refine LeO.bind ?_ (fun _=>?_)
set_option maxHeartbeats 8000000 in
set_option maxRecDepth 100000 in
theorem spec_l1Many.calls (k:Nat) (A0:Option Addr) (c0:Nat) (l0:List Int) (r:Bool) (w:World) (hr0:Kd.C (Kd.int .i64) w A0 l0.length l0) (hc0:l0.length≤c0) (h:spec_l1Many.f k l0=some r) :
  Calls Try.prog 58 #[.slice A0 l0.length c0] w fun e w'=>e=.returned (.bool r)∧Drawn0 w w':=by
 have HR0:=qbb.mk hr0
 have HC0:=qbb.mk hc0
 clear hr0 hc0
 have H:(spec_l1Many.l0 k l0 0 0)=some r:=h
 clear h
 have H':=qbb.mk H
 clear H
 go_enter Try.func58,Try.ntmps58
 go_wp2
 go_loopg [3,4] k (fun kq v3 v4 w'=>∃(x3_1:Int) (x4_1:Int),v3=.int .i64 x3_1∧v4=.int .i64 x4_1∧qbb (spec_l1Many.l0 kq l0 x3_1 x4_1=some r)∧qbb (kq≤k)∧Drawn0 w w')
 case atStart=>exact⟨(0),(0),(by first|rfl|(simp;done)|(simp[*];done)),(by first|rfl|(simp;done)|(simp[*];done)),H',⟨Nat.le_refl _⟩,by repeat(first|exact Drawn0.refl _|apply Drawn0.step)⟩
 case round=>
  clear H'
  obtain⟨x3_1,x4_1,rfl,rfl,HA,HK1,⟨m1,rfl⟩⟩:=hrel
  cases gk with
  |zero=>exact absurd HA.out (by simp[spec_l1Many.l0])
  |succ k1=>
   have H:=HA.out
   clear HA
   simp only[spec_l1Many.l0] at H
   by_cases c2:x4_1<(l0.length:Int)
   ·rw[if_pos c2] at H
    have c2b0:decide (x4_1<(l0.length:Int))=true:=decide_eq_true c2
    clear c2
    by_cases c3:0≤x4_1
    ·rw[if_pos c3] at H
     have c3b0:decide (0≤x4_1)=true:=decide_eq_true c3
     clear c3
     replace H:=Option.bind_eq_some_iff.mp H
     obtain⟨t238,A40,H⟩:=H
     replace H:(if t238=true then(spec_l1Many.l0 k1 l0 (wrap64 (x3_1+(rd l0 x4_1))) (wrap64 (x4_1+1))) else(some false))=some r:=H
     have A4:=qbb.mk A40
     clear A40
     by_cases c5:t238=true
     ·subst c5
      have H1:(spec_l1Many.l0 k1 l0 (wrap64 (x3_1+(rd l0 x4_1))) (wrap64 (x4_1+1)))=some r:=by rw[if_pos rfl] at H;exact H
      clear H
      have H:=H1
      clear H1
      have H':=qbb.mk H
      clear H
      have p237:0≤(x4_1:Int):=of_decide_eq_true (by first|(with_reducible assumption)|assumption)
      have q237:x4_1<(l0.length:Int):=of_decide_eq_true (by first|(with_reducible assumption)|assumption)
      obtain⟨ad237,e237,hx237_0⟩:=Kd.at_int HR0.out x4_1 p237 q237
      cases e237
      replace p237:=eq_true p237
      replace q237:=eq_true q237
      go_wp2_with(first|((with_reducible refine qao (f:=47) rfl ?_);refine qax (some 15) rfl rfl Try.func47 (by kernel_rfl) rfl #[.int .i64 (rd l0 x4_1),.int .i64 0,.int .i64 3] rfl (by(try simp only[List.map_toArray,List.map_cons,List.map_nil]);first|done|rfl|(simp only[List.length_drop,List.length_take];rfl)) ?_;(with_reducible refine(spec_l6In.calls (rd l0 x4_1) 0 3 true _ A4.out).mono ?_);rintro e w' ⟨rfl,⟨nd,rfl⟩⟩;refine⟨_,rfl,?_⟩;have p239:0≤(x4_1:Int):=of_decide_eq_true (by first|(with_reducible assumption)|assumption);have q239:x4_1<(l0.length:Int):=of_decide_eq_true (by first|(with_reducible assumption)|assumption);obtain⟨ad239,e239,hx239_0⟩:=Kd.at_int HR0.out x4_1 p239 q239;obtain rfl:ad237=ad239:=(by injection e239);replace p239:=eq_true p239;replace q239:=eq_true q239))
      go_roundg k1
      case measure=>have:=HK1.out;omega
      case rel=>exact⟨(wrap64 (x3_1+(rd l0 x4_1))),(wrap64 (x4_1+1)),(by first|rfl|(simp;done)|(simp[*];done)),(by first|rfl|(simp;done)|(simp[*];done)),H',⟨by have:=HK1.out;omega⟩,by repeat(first|exact Drawn0.refl _|apply Drawn0.step)⟩
     ·replace c5:=Bool.eq_false_iff.mpr c5
      subst c5
      have H1:(some false)=some r:=by rw[if_neg (show ¬(false=true) by decide)] at H;exact H
      clear H
      have H:=H1
      clear H1
      obtain rfl:=Option.some.inj H
      have p237:0≤(x4_1:Int):=of_decide_eq_true (by first|(with_reducible assumption)|assumption)
      have q237:x4_1<(l0.length:Int):=of_decide_eq_true (by first|(with_reducible assumption)|assumption)
      obtain⟨ad237,e237,hx237_0⟩:=Kd.at_int HR0.out x4_1 p237 q237
      cases e237
      replace p237:=eq_true p237
      replace q237:=eq_true q237
      go_wp2_with(first|((with_reducible refine qao (f:=47) rfl ?_);refine qax (some 15) rfl rfl Try.func47 (by kernel_rfl) rfl #[.int .i64 (rd l0 x4_1),.int .i64 0,.int .i64 3] rfl (by(try simp only[List.map_toArray,List.map_cons,List.map_nil]);first|done|rfl|(simp only[List.length_drop,List.length_take];rfl)) ?_;(with_reducible refine(spec_l6In.calls (rd l0 x4_1) 0 3 false _ A4.out).mono ?_);rintro e w' ⟨rfl,⟨nd,rfl⟩⟩;refine⟨_,rfl,?_⟩))
      go_ret
      exact⟨by first|rfl|(simp;done)|(simp[*];done),by repeat(first|exact Drawn0.refl _|apply Drawn0.step)⟩
    ·rw[if_neg c3] at H
     exact absurd H (by simp)
   ·rw[if_neg c2] at H
    have c2b0:decide (x4_1<(l0.length:Int))=false:=decide_eq_false c2
    clear c2
    by_cases c6:(l0.length:Int)=3
    ·rw[if_pos c6] at H
     have c6b0:((l0.length:Int) == 3)=true:=beq_iff_eq.mpr c6
     have c6b1:((l0.length:Int) != 3)=false:=bne_eq_false_iff_eq.mpr c6
     clear c6
     obtain rfl:=Option.some.inj H
     go_wp2
     go_ret
     exact⟨by first|rfl|(simp;done)|(simp[*];done),by repeat(first|exact Drawn0.refl _|apply Drawn0.step)⟩
    ·rw[if_neg c6] at H
     have c6b0:((l0.length:Int) == 3)=false:=beq_eq_false_iff_ne.mpr c6
     have c6b1:((l0.length:Int) != 3)=true:=bne_iff_ne.mpr c6
     obtain rfl:=Option.some.inj H
     go_wp2
     go_ret
     exact⟨by first|rfl|(simp;done)|(simp[*];done),by repeat(first|exact Drawn0.refl _|apply Drawn0.step)⟩
def impl_wantedOk_1.f (a0:Int):Option (Bool):=(impl_in.f a0 0 3).bind fun t257=>(some (!t257))
set_option maxHeartbeats 8000000 in
set_option maxRecDepth 100000 in
theorem impl_wantedOk_1.calls (a0:Int) (r:Bool) (w:World) (h:impl_wantedOk_1.f a0=some r) :
  Calls Try.prog 83 #[.int .i64 a0] w fun e w'=>e=.returned (.bool r)∧Drawn0 w w':=by
 have H:((impl_in.f a0 0 3).bind fun t257=>(some (!t257)))=some r:=h
 clear h
 replace H:=Option.bind_eq_some_iff.mp H
 obtain⟨t257,A20,H⟩:=H
 replace H:(some (!t257))=some r:=H
 have A2:=qbb.mk A20
 clear A20
 obtain rfl:=Option.some.inj H
 go_enter Try.func83,Try.ntmps83
 go_wp2_with(first|((with_reducible refine qao (f:=48) rfl ?_);refine qax (some 4) rfl rfl Try.func48 (by kernel_rfl) rfl #[.int .i64 a0,.int .i64 0,.int .i64 3] rfl (by(try simp only[List.map_toArray,List.map_cons,List.map_nil]);first|done|rfl|(simp only[List.length_drop,List.length_take];rfl)) ?_;(with_reducible refine(impl_in.calls a0 0 3 t257 _ A2.out).mono ?_);rintro e w' ⟨rfl,⟨nd,rfl⟩⟩;refine⟨_,rfl,?_⟩))
 go_ret
 exact⟨by first|rfl|(simp;done)|(simp[*];done),by repeat(first|exact Drawn0.refl _|apply Drawn0.step)⟩
def impl_wantedOk_2.f (a0:Int):Option (Bool):=some (a0 != 0)
set_option maxHeartbeats 8000000 in
set_option maxRecDepth 100000 in
theorem impl_wantedOk_2.calls (a0:Int) (r:Bool) (w:World) (h:impl_wantedOk_2.f a0=some r) :
  Calls Try.prog 84 #[.int .i64 a0] w fun e w'=>e=.returned (.bool r)∧Drawn0 w w':=by
 have H:(some (a0 != 0))=some r:=h
 clear h
 obtain rfl:=Option.some.inj H
 go_enter Try.func84,Try.ntmps84
 go_wp2
 go_ret
 exact⟨by first|rfl|(simp;done)|(simp[*];done),by repeat(first|exact Drawn0.refl _|apply Drawn0.step)⟩
theorem drop_cons_rd {l:List Int} {k:Nat} (h:k<l.length):l.drop k=rd l (k:Int) :: l.drop (k+1):=by
 rw[List.drop_eq_getElem_cons h]
 simp[rd,List.getD_eq_getElem?_getD,List.getElem?_eq_getElem h]
set_option maxHeartbeats 4000000 in
theorem idx_int (p:Int→Option Bool) (g:Nat) (A0:Option Addr) (c0:Nat) (l0:List Int) (r:Bool) (w:World) (hr0:Kd.C (Kd.int .i64) w A0 l0.length l0) (hc0:l0.length≤c0)
  (eg:∀args w,(callFunc g args).run Try.prog w=.ok (.enter g args) w)
  (hg:∀(W:World) (x:Int) (b:Bool),p x=some b→Calls Try.prog g #[.int .i64 x] W fun e w'=>e=.returned (.bool b)∧Drawn0 W w') (h:anyO p l0=some r) :
  Calls Try.prog 91 #[.slice A0 l0.length c0,.func (.func g) #[] #[]] w (IdxQ r w):=by
 have HR:=qbb.mk hr0
 have HG:=qbb.mk hg
 have HH:=qbb.mk h
 clear hr0 hc0 hg h
 have hbig:l0.length≤9223372036854775807:=by
  have:=HR.out
  exact this.2.1
 go_enter Try.func91,Try.ntmps91
 go_wp2
 go_loopg [5,8] l0.length (fun gg _ s8 wr=>∃kk q:Nat,kk≤l0.length∧l0.length - kk≤gg∧s8=.int .i64 kk∧wr=w.drewN q∧qbb (anyO p (l0.drop kk)=some r))
 case atStart=>exact⟨0,0,Nat.zero_le _,by omega,rfl,rfl,HH⟩
 case round=>
  obtain⟨kk,q,hkk,hg',rfl,rfl,B⟩:=hrel
  clear HH
  by_cases hlt:kk<l0.length
  ·have hltz:(kk:Int)<(l0.length:Int):=by omega
   obtain⟨ad,e0,hcell⟩:=Kd.at_int HR.out (kk:Int) (by omega) hltz
   cases e0
   rw[Int.toNat_natCast] at hcell
   have B':=B.out
   rw[drop_cons_rd hlt] at B'
   obtain⟨b,hb,hb'⟩:=anyO_cons B'
   clear B B'
   have hcall:=fun W=>HG.out W _ b hb
   have HB:=qbb.mk hb
   clear hb
   rcases hb' with⟨rfl,rfl⟩|⟨rfl,hb'⟩
   ·go_wp2_with(go_at_fn g;refine(hcall _).mono ?_;rintro e w' ⟨rfl,⟨q',rfl⟩⟩)
    go_ret
    exact⟨kk,rfl,by simp,⟨⟨_,rfl⟩⟩⟩
   ·have B2:=qbb.mk hb'
    clear hb'
    go_wp2_with(go_at_fn g;refine(hcall _).mono ?_;rintro e w' ⟨rfl,⟨q',rfl⟩⟩)
    go_roundg (l0.length - (kk+1))
    case measure=>omega
    case rel=>exact⟨kk+1,_,by omega,by omega,by go_num,rfl,B2⟩
  ·have hltz:¬(kk:Int)<(l0.length:Int):=by omega
   have B':=B.out
   rw[List.drop_eq_nil_of_le (by omega)] at B'
   have hr:false=r:=by injection B'
   subst hr
   clear B'
   go_wp2
   go_ret
   exact⟨-1,rfl,by decide,⟨⟨q,rfl⟩⟩⟩
set_option maxHeartbeats 4000000 in
theorem contains_int (p:Int→Option Bool) (g:Nat) (A0:Option Addr) (c0:Nat) (l0:List Int) (r:Bool) (w:World) (hr0:Kd.C (Kd.int .i64) w A0 l0.length l0) (hc0:l0.length≤c0)
  (eg:∀args w,(callFunc g args).run Try.prog w=.ok (.enter g args) w)
  (hg:∀(W:World) (x:Int) (b:Bool),p x=some b→Calls Try.prog g #[.int .i64 x] W fun e w'=>e=.returned (.bool b)∧Drawn0 W w') (h:anyO p l0=some r) :
  Calls Try.prog 85 #[.slice A0 l0.length c0,.func (.func g) #[] #[]] w fun e w'=>e=.returned (.bool r)∧Drawn0 w w':=by
 have hI:=fun W=>idx_int p g A0 c0 l0 r W
 have HR:=qbb.mk hr0
 have HG:=qbb.mk hg
 have HH:=qbb.mk h
 have HC:=qbb.mk hc0
 clear hr0 hc0 hg h
 go_enter Try.func85,Try.ntmps85
 go_wp2_with(go_at_call 91;refine(hI _ HR.out HC.out eg HG.out HH.out).mono ?_;rintro e w' ⟨i,rfl,hi,⟨q,rfl⟩⟩)
 go_ret
 exact⟨by rw[←hi];rfl,⟨⟨_,rfl⟩⟩⟩
def impl_wantedOk.f (l0:List Int):Option (Bool):=if(l0.length:Int)=3 then((anyO impl_wantedOk_1.f l0).bind fun a=>if a=true then some false else anyO impl_wantedOk_2.f l0) else some false
set_option maxHeartbeats 8000000 in
set_option maxRecDepth 100000 in
theorem impl_wantedOk.calls (A0:Option Addr) (c0:Nat) (l0:List Int) (r:Bool) (w:World) (hr0:Kd.C (Kd.int .i64) w A0 l0.length l0) (hc0:l0.length≤c0) (h:impl_wantedOk.f l0=some r) :
  Calls Try.prog 60 #[.slice A0 l0.length c0] w fun e w'=>e=.returned (.bool r)∧Drawn0 w w':=by
 have HR:=qbb.mk hr0
 have HC:=qbb.mk hc0
 have c1:=fun(W:World) (r':Bool) (hr:Kd.C (Kd.int .i64) W A0 l0.length l0) (h:anyO impl_wantedOk_1.f l0=some r')=>contains_int impl_wantedOk_1.f 83 A0 c0 l0 r' W hr HC.out (enters_of Try.func83 (by kernel_rfl) rfl) (fun W x b hb=>impl_wantedOk_1.calls x b W hb) h
 have c2:=fun(W:World) (r':Bool) (hr:Kd.C (Kd.int .i64) W A0 l0.length l0) (h:anyO impl_wantedOk_2.f l0=some r')=>contains_int impl_wantedOk_2.f 84 A0 c0 l0 r' W hr HC.out (enters_of Try.func84 (by kernel_rfl) rfl) (fun W x b hb=>impl_wantedOk_2.calls x b W hb) h
 have C1:=qbb.mk c1
 have C2:=qbb.mk c2
 clear hr0 hc0 c1 c2
 unfold impl_wantedOk.f at h
 by_cases h3:(l0.length:Int)=3
 ·rw[if_pos h3] at h
  obtain⟨a,ha,h⟩:=Option.bind_eq_some_iff.mp h
  have h3b:((l0.length:Int) == 3)=true:=by simpa using h3
  clear h3
  cases a with
  |true=>
   rw[if_pos rfl] at h
   injection h with h
   subst h
   have HA:=qbb.mk ha
   clear ha
   go_enter Try.func60,Try.ntmps60
   go_wp2_with(go_at_call 85;refine(C1.out _ true HR.out HA.out).mono ?_;rintro e w' ⟨rfl,⟨q,rfl⟩⟩)
   go_ret
   exact⟨rfl,⟨⟨_,rfl⟩⟩⟩
  |false=>
   rw[if_neg (by decide)] at h
   have HA:=qbb.mk ha
   have HB:=qbb.mk h
   clear ha h
   go_enter Try.func60,Try.ntmps60
   go_wp2_with fail
   go_at_call 85
   refine(C1.out _ false HR.out HA.out).mono ?_
   rintro e w' ⟨rfl,⟨q,rfl⟩⟩
   go_wp2_with fail
   go_at_call 85
   refine(C2.out _ r (by exact HR.out) HB.out).mono ?_
   rintro e w' ⟨rfl,⟨q2,rfl⟩⟩
   go_wp2_with fail
   go_ret
   exact⟨rfl,⟨⟨_,rfl⟩⟩⟩
 ·rw[if_neg h3] at h
  injection h with h
  subst h
  have h3b:((l0.length:Int) == 3)=false:=by simpa using h3
  clear h3
  go_enter Try.func60,Try.ntmps60
  go_wp2
  go_ret
  exact⟨rfl,⟨⟨0,rfl⟩⟩⟩
end Go.Proofs.Ytkbjgmfghhgodaa.Print
