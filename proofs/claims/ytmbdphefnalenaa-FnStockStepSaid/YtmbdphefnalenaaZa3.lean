-- Written by squeeze.py: not trusted, Lean checks it.
import Derived.Test.YtmbdphefnalenaaZK
namespace Go.Proofs.Ytmbdphefnalenaa.Print
open Go.RowKit Go.Proofs.YtmbdphefnalenaaW.PrintWords Go.Proofs.YtmbdphefnalenaaW.PrintLast Go.Proofs.YtmbdphefnalenaaW.PrintMore
attribute [local go_sem] max2_int min2_int max_two min_two max_three min_three max_four min_four
set_option linter.unusedVariables false
set_option linter.unusedSimpArgs false
def impl_in.f (a0:Int) (a1:Int) (a2:Int):Option (Bool):=if a0≥a1 then(some (decide (a0≤a2))) else(some false)
set_option maxHeartbeats 8000000 in
set_option maxRecDepth 100000 in
theorem impl_in.calls (a0:Int) (a1:Int) (a2:Int) (r:Bool) (w:World) (h:impl_in.f a0 a1 a2=some r) :
  Calls Try.prog 66 #[.int .i64 a0,.int .i64 a1,.int .i64 a2] w fun e w'=>e=.returned (.bool r)∧Drawn0 w w':=by
 have H:(if a0≥a1 then(some (decide (a0≤a2))) else(some false))=some r:=h;clear h;by_cases c4:a0≥a1
 ·rw[if_pos c4] at H;have c4b0:decide (a1≤a0)=true:=decide_eq_true c4;clear c4;obtain rfl:=Option.some.inj H;go_enter Try.func66,Try.ntmps66;go_wp2;go_ret;exact⟨za46,za49⟩
 ·rw[if_neg c4] at H;have c4b0:decide (a1≤a0)=false:=decide_eq_false c4;clear c4;obtain rfl:=Option.some.inj H;go_enter Try.func66,Try.ntmps66;go_wp2;go_ret;exact⟨za46,za49⟩
def impl_wantedOk_1.f (a0:Int):Option (Bool):=(impl_in.f a0 0 3).bind fun t310=>(some (!t310))
set_option maxHeartbeats 8000000 in
set_option maxRecDepth 100000 in
theorem impl_wantedOk_1.calls (a0:Int) (r:Bool) (w:World) (h:impl_wantedOk_1.f a0=some r) :
  Calls Try.prog 107 #[.int .i64 a0] w fun e w'=>e=.returned (.bool r)∧Drawn0 w w':=by
 have H:((impl_in.f a0 0 3).bind fun t310=>(some (!t310)))=some r:=h;clear h;replace H:=Option.bind_eq_some_iff.mp H;obtain⟨t310,A20,H⟩:=H;replace H:(some (!t310))=some r:=H;have A2:=qae.mk A20;clear A20;obtain rfl:=Option.some.inj H;go_enter Try.func107,Try.ntmps107
 go_wp2_with(first|((with_reducible refine qag (f:=66) rfl ?_);refine zF (some 4) Try.func66 #[.int .i64 a0,.int .i64 0,.int .i64 3] ?_;(with_reducible refine(impl_in.calls a0 0 3 t310 _ A2.out).mono ?_);rintro e w' ⟨rfl,⟨nd,rfl⟩⟩;refine⟨_,rfl,?_⟩))
 go_ret;exact⟨za46,za49⟩
def impl_wantedOk_2.f (a0:Int):Option (Bool):=some (a0 != 0)
set_option maxHeartbeats 8000000 in
set_option maxRecDepth 100000 in
theorem impl_wantedOk_2.calls (a0:Int) (r:Bool) (w:World) (h:impl_wantedOk_2.f a0=some r) :
  Calls Try.prog 108 #[.int .i64 a0] w fun e w'=>e=.returned (.bool r)∧Drawn0 w w':=by
 have H:(some (a0 != 0))=some r:=h;clear h;obtain rfl:=Option.some.inj H;go_enter Try.func108,Try.ntmps108;go_wp2;go_ret;exact⟨za46,za49⟩
theorem drop_cons_rd {l:List Int} {k:Nat} (h:k<l.length):l.drop k=rd l (k:Int) :: l.drop (k+1):=by
 rw[List.drop_eq_getElem_cons h];simp[rd,List.getD_eq_getElem?_getD,List.getElem?_eq_getElem h]
set_option maxHeartbeats 4000000 in
theorem idx_int (p:Int→Option Bool) (g:Nat) (A0:Option Addr) (c0:Nat) (l0:List Int) (r:Bool) (w:World) (hr0:Kd.C (Kd.int .i64) w A0 l0.length l0) (hc0:l0.length≤c0)
  (eg:∀args w,(callFunc g args).run Try.prog w=.ok (.enter g args) w)
  (hg:∀(W:World) (x:Int) (b:Bool),p x=some b→Calls Try.prog g #[.int .i64 x] W fun e w'=>e=.returned (.bool b)∧Drawn0 W w') (h:anyO p l0=some r) :
  Calls Try.prog 113 #[.slice A0 l0.length c0,.func (.func g) #[] #[]] w (IdxQ r w):=by
 have HR:=qae.mk hr0;have HG:=qae.mk hg;have HH:=qae.mk h;clear hr0 hc0 hg h
 have hbig:l0.length≤9223372036854775807:=by
  have:=HR.out;exact this.2.1
 go_enter Try.func113,Try.ntmps113;go_wp2
 go_loopg [5,8] l0.length (fun gg _ s8 wr=>∃kk q:Nat,kk≤l0.length∧l0.length - kk≤gg∧s8=.int .i64 kk∧wr=w.drewN q∧qae (anyO p (l0.drop kk)=some r))
 case atStart=>exact⟨0,0,Nat.zero_le _,by omega,rfl,rfl,HH⟩
 case round=>
  obtain⟨kk,q,hkk,hg',rfl,rfl,B⟩:=hrel;clear HH;by_cases hlt:kk<l0.length
  ·have hltz:(kk:Int)<(l0.length:Int):=by omega
   obtain⟨ad,e0,hcell⟩:=Kd.at_int HR.out (kk:Int) (by omega) hltz
   cases e0
   rw[Int.toNat_natCast] at hcell;have B':=B.out;rw[drop_cons_rd hlt] at B';obtain⟨b,hb,hb'⟩:=anyO_cons B';clear B B'
   have hcall:=fun W=>HG.out W _ b hb
   have HB:=qae.mk hb;clear hb
   rcases hb' with⟨rfl,rfl⟩|⟨rfl,hb'⟩
   ·go_wp2_with(go_at_fn g;refine(hcall _).mono ?_;rintro e w' ⟨rfl,⟨q',rfl⟩⟩)
    go_ret;exact⟨kk,rfl,by simp,⟨⟨_,rfl⟩⟩⟩
   ·have B2:=qae.mk hb';clear hb'
    go_wp2_with(go_at_fn g;refine(hcall _).mono ?_;rintro e w' ⟨rfl,⟨q',rfl⟩⟩)
    go_roundg (l0.length - (kk+1))
    case measure=>omega
    case rel=>exact⟨kk+1,_,by omega,by omega,by go_num,rfl,B2⟩
  ·have hltz:¬(kk:Int)<(l0.length:Int):=by omega
   have B':=B.out;rw[List.drop_eq_nil_of_le (by omega)] at B'
   have hr:false=r:=by injection B'
   subst hr;clear B';go_wp2;go_ret;exact⟨-1,rfl,by decide,⟨⟨q,rfl⟩⟩⟩
set_option maxHeartbeats 4000000 in
theorem contains_int (p:Int→Option Bool) (g:Nat) (A0:Option Addr) (c0:Nat) (l0:List Int) (r:Bool) (w:World) (hr0:Kd.C (Kd.int .i64) w A0 l0.length l0) (hc0:l0.length≤c0)
  (eg:∀args w,(callFunc g args).run Try.prog w=.ok (.enter g args) w)
  (hg:∀(W:World) (x:Int) (b:Bool),p x=some b→Calls Try.prog g #[.int .i64 x] W fun e w'=>e=.returned (.bool b)∧Drawn0 W w') (h:anyO p l0=some r) :
  Calls Try.prog 109 #[.slice A0 l0.length c0,.func (.func g) #[] #[]] w fun e w'=>e=.returned (.bool r)∧Drawn0 w w':=by
 have hI:=fun W=>idx_int p g A0 c0 l0 r W
 have HR:=qae.mk hr0;have HG:=qae.mk hg;have HH:=qae.mk h;have HC:=qae.mk hc0;clear hr0 hc0 hg h;go_enter Try.func109,Try.ntmps109
 go_wp2_with(go_at_call 113;refine(hI _ HR.out HC.out eg HG.out HH.out).mono ?_;rintro e w' ⟨i,rfl,hi,⟨q,rfl⟩⟩)
 go_ret;exact⟨by rw[←hi];rfl,⟨⟨_,rfl⟩⟩⟩
def impl_wantedOk.f (l0:List Int):Option (Bool):=if(l0.length:Int)=3 then((anyO impl_wantedOk_1.f l0).bind fun a=>if a=true then some false else anyO impl_wantedOk_2.f l0) else some false
set_option maxHeartbeats 8000000 in
set_option maxRecDepth 100000 in
theorem impl_wantedOk.calls (A0:Option Addr) (c0:Nat) (l0:List Int) (r:Bool) (w:World) (hr0:Kd.C (Kd.int .i64) w A0 l0.length l0) (hc0:l0.length≤c0) (h:impl_wantedOk.f l0=some r) :
  Calls Try.prog 93 #[.slice A0 l0.length c0] w fun e w'=>e=.returned (.bool r)∧Drawn0 w w':=by
 have HR:=qae.mk hr0;have HC:=qae.mk hc0
 have c1:=fun(W:World) (r':Bool) (hr:Kd.C (Kd.int .i64) W A0 l0.length l0) (h:anyO impl_wantedOk_1.f l0=some r')=>contains_int impl_wantedOk_1.f 107 A0 c0 l0 r' W hr HC.out (enters_of Try.func107 (by kernel_rfl) rfl) (fun W x b hb=>impl_wantedOk_1.calls x b W hb) h
 have c2:=fun(W:World) (r':Bool) (hr:Kd.C (Kd.int .i64) W A0 l0.length l0) (h:anyO impl_wantedOk_2.f l0=some r')=>contains_int impl_wantedOk_2.f 108 A0 c0 l0 r' W hr HC.out (enters_of Try.func108 (by kernel_rfl) rfl) (fun W x b hb=>impl_wantedOk_2.calls x b W hb) h
 have C1:=qae.mk c1;have C2:=qae.mk c2;clear hr0 hc0 c1 c2;unfold impl_wantedOk.f at h;by_cases h3:(l0.length:Int)=3
 ·rw[if_pos h3] at h;obtain⟨a,ha,h⟩:=Option.bind_eq_some_iff.mp h
  have h3b:((l0.length:Int) == 3)=true:=by simpa using h3
  clear h3
  cases a with
  |true=>
   rw[if_pos rfl] at h
   injection h with h
   subst h;have HA:=qae.mk ha;clear ha;go_enter Try.func93,Try.ntmps93
   go_wp2_with(go_at_call 109;refine(C1.out _ true HR.out HA.out).mono ?_;rintro e w' ⟨rfl,⟨q,rfl⟩⟩)
   go_ret;exact⟨rfl,⟨⟨_,rfl⟩⟩⟩
  |false=>
   rw[if_neg (by decide)] at h;have HA:=qae.mk ha;have HB:=qae.mk h;clear ha h;go_enter Try.func93,Try.ntmps93
   go_wp2_with fail
   go_at_call 109
   refine(C1.out _ false HR.out HA.out).mono ?_;rintro e w' ⟨rfl,⟨q,rfl⟩⟩
   go_wp2_with fail
   go_at_call 109
   refine(C2.out _ r (by exact HR.out) HB.out).mono ?_;rintro e w' ⟨rfl,⟨q2,rfl⟩⟩
   go_wp2_with fail
   go_ret;exact⟨rfl,⟨⟨_,rfl⟩⟩⟩
 ·rw[if_neg h3] at h
  injection h with h
  subst h
  have h3b:((l0.length:Int) == 3)=false:=by simpa using h3
  clear h3;go_enter Try.func93,Try.ntmps93;go_wp2;go_ret;exact⟨rfl,⟨⟨0,rfl⟩⟩⟩
def impl_isTrip.f (a0:Int):Option (Bool):=(impl_in.f a0 1 6).bind fun t311=>(some t311)
set_option maxHeartbeats 8000000 in
set_option maxRecDepth 100000 in
theorem impl_isTrip.calls (a0:Int) (r:Bool) (w:World) (h:impl_isTrip.f a0=some r) :
  Calls Try.prog 94 #[.int .i64 a0] w fun e w'=>e=.returned (.bool r)∧Drawn0 w w':=by
 have H:((impl_in.f a0 1 6).bind fun t311=>(some t311))=some r:=h;clear h;replace H:=Option.bind_eq_some_iff.mp H;obtain⟨t311,A20,H⟩:=H;replace H:(some t311)=some r:=H;have A2:=qae.mk A20;clear A20;obtain rfl:=Option.some.inj H;go_enter Try.func94,Try.ntmps94
 go_wp2_with(first|((with_reducible refine qag (f:=66) rfl ?_);refine zF (some 4) Try.func66 #[.int .i64 a0,.int .i64 1,.int .i64 6] ?_;(with_reducible refine(impl_in.calls a0 1 6 t311 _ A2.out).mono ?_);rintro e w' ⟨rfl,⟨nd,rfl⟩⟩;refine⟨_,rfl,?_⟩))
 go_ret;exact⟨za46,za49⟩
def impl_RecOk.f (a0_0:Int) (a0_1:Int) (l0_2:List Int):Option (Bool):=if a0_0=1 then(if(l0_2.length:Int)=1 then(if 0<(l0_2.length:Int) then((impl_in.f (rd l0_2 0) 1 3).bind fun t314=>((impl_in.f a0_0 1 7).bind fun t315=>(if t315=true then((impl_isTrip.f a0_1).bind fun t316=>(if t316=true then(some t314) else(some false))) else(some false)))) else(none)) else((impl_in.f a0_0 1 7).bind fun t317=>(if t317=true then((impl_isTrip.f a0_1).bind fun t318=>(if t318=true then(some false) else(some false))) else(some false)))) else(if a0_0=4 then((impl_wantedOk.f l0_2).bind fun t319=>((impl_in.f a0_0 1 7).bind fun t320=>(if t320=true then((impl_isTrip.f a0_1).bind fun t321=>(if t321=true then(some t319) else(some false))) else(some false)))) else((impl_in.f a0_0 1 7).bind fun t322=>(if t322=true then((impl_isTrip.f a0_1).bind fun t323=>(if t323=true then(some ((l0_2.length:Int) == 0)) else(some false))) else(some false))))
set_option maxHeartbeats 8000000 in
set_option maxRecDepth 100000 in
theorem impl_RecOk.calls (a0_0:Int) (a0_1:Int) (A0_2:Option Addr) (c0_2:Nat) (l0_2:List Int) (r:Bool) (w:World) (hr0_2:Kd.C (Kd.int .i64) w A0_2 l0_2.length l0_2) (hc0_2:l0_2.length≤c0_2) (h:impl_RecOk.f a0_0 a0_1 l0_2=some r) :
  Calls Try.prog 63 #[.agg #[.int .i64 a0_0,.int .i64 a0_1,.slice A0_2 l0_2.length c0_2]] w fun e w'=>e=.returned (.bool r)∧Below w.heap.size w w':=by
 have hu32:=Try.underlying32;have HR0_2:=qae.mk hr0_2;have HC0_2:=qae.mk hc0_2;clear hr0_2 hc0_2;have HB:=qae.mk (Below.refl w.heap.size w)
 have H:(if a0_0=1 then(if(l0_2.length:Int)=1 then(if 0<(l0_2.length:Int) then((impl_in.f (rd l0_2 0) 1 3).bind fun t314=>((impl_in.f a0_0 1 7).bind fun t315=>(if t315=true then((impl_isTrip.f a0_1).bind fun t316=>(if t316=true then(some t314) else(some false))) else(some false)))) else(none)) else((impl_in.f a0_0 1 7).bind fun t317=>(if t317=true then((impl_isTrip.f a0_1).bind fun t318=>(if t318=true then(some false) else(some false))) else(some false)))) else(if a0_0=4 then((impl_wantedOk.f l0_2).bind fun t319=>((impl_in.f a0_0 1 7).bind fun t320=>(if t320=true then((impl_isTrip.f a0_1).bind fun t321=>(if t321=true then(some t319) else(some false))) else(some false)))) else((impl_in.f a0_0 1 7).bind fun t322=>(if t322=true then((impl_isTrip.f a0_1).bind fun t323=>(if t323=true then(some ((l0_2.length:Int) == 0)) else(some false))) else(some false)))))=some r:=h
 clear h;by_cases c2:a0_0=1
 ·rw[if_pos c2] at H;have c2b0:(a0_0 == 1)=true:=beq_iff_eq.mpr c2;have c2b1:(a0_0 != 1)=false:=bne_eq_false_iff_eq.mpr c2;clear c2;by_cases c3:(l0_2.length:Int)=1
  ·rw[if_pos c3] at H;have c3b0:((l0_2.length:Int) == 1)=true:=beq_iff_eq.mpr c3;have c3b1:((l0_2.length:Int) != 1)=false:=bne_eq_false_iff_eq.mpr c3;clear c3;by_cases c4:0<(l0_2.length:Int)
   ·rw[if_pos c4] at H;have c4b0:decide (0<(l0_2.length:Int))=true:=decide_eq_true c4;have c4b1:decide (0<l0_2.length)=true:=decide_eq_true (by omega);clear c4;replace H:=Option.bind_eq_some_iff.mp H;obtain⟨t314,A50,H⟩:=H;replace H:((impl_in.f a0_0 1 7).bind fun t315=>(if t315=true then((impl_isTrip.f a0_1).bind fun t316=>(if t316=true then(some t314) else(some false))) else(some false)))=some r:=H;have A5:=qae.mk A50;clear A50;replace H:=Option.bind_eq_some_iff.mp H;obtain⟨t315,A60,H⟩:=H;replace H:(if t315=true then((impl_isTrip.f a0_1).bind fun t316=>(if t316=true then(some t314) else(some false))) else(some false))=some r:=H;have A6:=qae.mk A60;clear A60;by_cases c7:t315=true
    ·subst c7
     have H1:((impl_isTrip.f a0_1).bind fun t316=>(if t316=true then(some t314) else(some false)))=some r:=by rw[if_pos rfl] at H;exact H
     clear H;have H:=H1;clear H1;replace H:=Option.bind_eq_some_iff.mp H;obtain⟨t316,A80,H⟩:=H;replace H:(if t316=true then(some t314) else(some false))=some r:=H;have A8:=qae.mk A80;clear A80;by_cases c9:t316=true
     ·subst c9
      have H1:(some t314)=some r:=by rw[if_pos rfl] at H;exact H
      clear H;have H:=H1;clear H1;obtain rfl:=Option.some.inj H;go_enter Try.func63,Try.ntmps63
      go_wp2_with(first|((with_reducible refine qai (N:=1) rfl ?_);refine zX (N:=1) (cs:=#[.int .i64 a0_0,.int .i64 a0_1,.slice A0_2 l0_2.length c0_2]) (t:=32) ?_;intro gb312 hg w10 hbox hb;have BK312:=qae.mk hbox;have GW312:=zH (w:=w) hg (za3 HB);have GE312:=GW312;replace HB:=qae.mk (qad (za3 HB) hb);clear hb hbox hg;obtain⟨hcz11_0,hcz11_1,hcz11_2,hfz11_0,hfz11_1,hfz11_2⟩:=zC3 BK312;have p313:0≤(0:Int):=(by omega);have q313:0<(l0_2.length:Int):=of_decide_eq_true (za6);obtain⟨ad313,e313,hx313_0⟩:=Kd.at_int HR0_2.out 0 p313 q313;cases e313;have qi313:(0<l0_2.length)=True:=eq_true (by omega);(try rw[show((0:Int)).toNat=0 from rfl] at hx313_0);(try rw[Addr.add_zero'] at hx313_0);replace hx313_0:=(HB.out.cell (World.block_lt_of_cell? w _ hx313_0)).trans hx313_0;replace p313:=eq_true p313;replace q313:=eq_true q313)|(go_at_call 66;(with_reducible refine(impl_in.calls (rd l0_2 0) 1 3 t314 _ A5.out).mono ?_);rintro e w' ⟨rfl,⟨nd,rfl⟩⟩)|((with_reducible refine qag (f:=66) rfl ?_);refine zF (some 30) Try.func66 #[.int .i64 a0_0,.int .i64 1,.int .i64 7] ?_;(with_reducible refine(impl_in.calls a0_0 1 7 true _ A6.out).mono ?_);rintro e w' ⟨rfl,⟨nd,rfl⟩⟩;refine⟨_,rfl,?_⟩)|(go_at_call 94;(with_reducible refine(impl_isTrip.calls a0_1 true _ A8.out).mono ?_);rintro e w' ⟨rfl,⟨nd,rfl⟩⟩))
      go_ret;exact⟨za27,za1 HB GE312⟩
     ·replace c9:=Bool.eq_false_iff.mpr c9;subst c9
      have H1:(some false)=some r:=by rw[if_neg (show ¬(false=true) by decide)] at H;exact H
      clear H;have H:=H1;clear H1;obtain rfl:=Option.some.inj H;go_enter Try.func63,Try.ntmps63
      go_wp2_with(first|((with_reducible refine qai (N:=1) rfl ?_);refine zX (N:=1) (cs:=#[.int .i64 a0_0,.int .i64 a0_1,.slice A0_2 l0_2.length c0_2]) (t:=32) ?_;intro gb312 hg w12 hbox hb;have BK312:=qae.mk hbox;have GW312:=zH (w:=w) hg (za3 HB);have GE312:=GW312;replace HB:=qae.mk (qad (za3 HB) hb);clear hb hbox hg;obtain⟨hcz13_0,hcz13_1,hcz13_2,hfz13_0,hfz13_1,hfz13_2⟩:=zC3 BK312;have p313:0≤(0:Int):=(by omega);have q313:0<(l0_2.length:Int):=of_decide_eq_true (za6);obtain⟨ad313,e313,hx313_0⟩:=Kd.at_int HR0_2.out 0 p313 q313;cases e313;have qi313:(0<l0_2.length)=True:=eq_true (by omega);(try rw[show((0:Int)).toNat=0 from rfl] at hx313_0);(try rw[Addr.add_zero'] at hx313_0);replace hx313_0:=(HB.out.cell (World.block_lt_of_cell? w _ hx313_0)).trans hx313_0;replace p313:=eq_true p313;replace q313:=eq_true q313)|(go_at_call 66;(with_reducible refine(impl_in.calls (rd l0_2 0) 1 3 t314 _ A5.out).mono ?_);rintro e w' ⟨rfl,⟨nd,rfl⟩⟩)|((with_reducible refine qag (f:=66) rfl ?_);refine zF (some 30) Try.func66 #[.int .i64 a0_0,.int .i64 1,.int .i64 7] ?_;(with_reducible refine(impl_in.calls a0_0 1 7 true _ A6.out).mono ?_);rintro e w' ⟨rfl,⟨nd,rfl⟩⟩;refine⟨_,rfl,?_⟩)|(go_at_call 94;(with_reducible refine(impl_isTrip.calls a0_1 false _ A8.out).mono ?_);rintro e w' ⟨rfl,⟨nd,rfl⟩⟩))
      go_ret;exact⟨za27,za1 HB GE312⟩
    ·replace c7:=Bool.eq_false_iff.mpr c7;subst c7
     have H1:(some false)=some r:=by rw[if_neg (show ¬(false=true) by decide)] at H;exact H
     clear H;have H:=H1;clear H1;obtain rfl:=Option.some.inj H;go_enter Try.func63,Try.ntmps63
     go_wp2_with(first|((with_reducible refine qai (N:=1) rfl ?_);refine zX (N:=1) (cs:=#[.int .i64 a0_0,.int .i64 a0_1,.slice A0_2 l0_2.length c0_2]) (t:=32) ?_;intro gb312 hg w14 hbox hb;have BK312:=qae.mk hbox;have GW312:=zH (w:=w) hg (za3 HB);have GE312:=GW312;replace HB:=qae.mk (qad (za3 HB) hb);clear hb hbox hg;obtain⟨hcz15_0,hcz15_1,hcz15_2,hfz15_0,hfz15_1,hfz15_2⟩:=zC3 BK312;have p313:0≤(0:Int):=(by omega);have q313:0<(l0_2.length:Int):=of_decide_eq_true (za6);obtain⟨ad313,e313,hx313_0⟩:=Kd.at_int HR0_2.out 0 p313 q313;cases e313;have qi313:(0<l0_2.length)=True:=eq_true (by omega);(try rw[show((0:Int)).toNat=0 from rfl] at hx313_0);(try rw[Addr.add_zero'] at hx313_0);replace hx313_0:=(HB.out.cell (World.block_lt_of_cell? w _ hx313_0)).trans hx313_0;replace p313:=eq_true p313;replace q313:=eq_true q313)|(go_at_call 66;(with_reducible refine(impl_in.calls (rd l0_2 0) 1 3 t314 _ A5.out).mono ?_);rintro e w' ⟨rfl,⟨nd,rfl⟩⟩)|((with_reducible refine qag (f:=66) rfl ?_);refine zF (some 30) Try.func66 #[.int .i64 a0_0,.int .i64 1,.int .i64 7] ?_;(with_reducible refine(impl_in.calls a0_0 1 7 false _ A6.out).mono ?_);rintro e w' ⟨rfl,⟨nd,rfl⟩⟩;refine⟨_,rfl,?_⟩))
     go_ret;exact⟨za27,za1 HB GE312⟩
   ·rw[if_neg c4] at H;exact absurd H (by simp)
  ·rw[if_neg c3] at H;have c3b0:((l0_2.length:Int) == 1)=false:=beq_eq_false_iff_ne.mpr c3;have c3b1:((l0_2.length:Int) != 1)=true:=bne_iff_ne.mpr c3;replace H:=Option.bind_eq_some_iff.mp H;obtain⟨t317,A160,H⟩:=H;replace H:(if t317=true then((impl_isTrip.f a0_1).bind fun t318=>(if t318=true then(some false) else(some false))) else(some false))=some r:=H;have A16:=qae.mk A160;clear A160;by_cases c17:t317=true
   ·subst c17
    have H1:((impl_isTrip.f a0_1).bind fun t318=>(if t318=true then(some false) else(some false)))=some r:=by rw[if_pos rfl] at H;exact H
    clear H;have H:=H1;clear H1;replace H:=Option.bind_eq_some_iff.mp H;obtain⟨t318,A180,H⟩:=H;replace H:(if t318=true then(some false) else(some false))=some r:=H;have A18:=qae.mk A180;clear A180;by_cases c19:t318=true
    ·subst c19
     have H1:(some false)=some r:=by rw[if_pos rfl] at H;exact H
     clear H;have H:=H1;clear H1;obtain rfl:=Option.some.inj H;go_enter Try.func63,Try.ntmps63
     go_wp2_with(first|((with_reducible refine qai (N:=1) rfl ?_);refine zX (N:=1) (cs:=#[.int .i64 a0_0,.int .i64 a0_1,.slice A0_2 l0_2.length c0_2]) (t:=32) ?_;intro gb312 hg w20 hbox hb;have BK312:=qae.mk hbox;have GW312:=zH (w:=w) hg (za3 HB);have GE312:=GW312;replace HB:=qae.mk (qad (za3 HB) hb);clear hb hbox hg;obtain⟨hcz21_0,hcz21_1,hcz21_2,hfz21_0,hfz21_1,hfz21_2⟩:=zC3 BK312)|((with_reducible refine qag (f:=66) rfl ?_);refine zF (some 30) Try.func66 #[.int .i64 a0_0,.int .i64 1,.int .i64 7] ?_;(with_reducible refine(impl_in.calls a0_0 1 7 true _ A16.out).mono ?_);rintro e w' ⟨rfl,⟨nd,rfl⟩⟩;refine⟨_,rfl,?_⟩)|(go_at_call 94;(with_reducible refine(impl_isTrip.calls a0_1 true _ A18.out).mono ?_);rintro e w' ⟨rfl,⟨nd,rfl⟩⟩))
     go_ret;exact⟨za27,za1 HB GE312⟩
    ·replace c19:=Bool.eq_false_iff.mpr c19;subst c19
     have H1:(some false)=some r:=by rw[if_neg (show ¬(false=true) by decide)] at H;exact H
     clear H;have H:=H1;clear H1;obtain rfl:=Option.some.inj H;go_enter Try.func63,Try.ntmps63
     go_wp2_with(first|((with_reducible refine qai (N:=1) rfl ?_);refine zX (N:=1) (cs:=#[.int .i64 a0_0,.int .i64 a0_1,.slice A0_2 l0_2.length c0_2]) (t:=32) ?_;intro gb312 hg w22 hbox hb;have BK312:=qae.mk hbox;have GW312:=zH (w:=w) hg (za3 HB);have GE312:=GW312;replace HB:=qae.mk (qad (za3 HB) hb);clear hb hbox hg;obtain⟨hcz23_0,hcz23_1,hcz23_2,hfz23_0,hfz23_1,hfz23_2⟩:=zC3 BK312)|((with_reducible refine qag (f:=66) rfl ?_);refine zF (some 30) Try.func66 #[.int .i64 a0_0,.int .i64 1,.int .i64 7] ?_;(with_reducible refine(impl_in.calls a0_0 1 7 true _ A16.out).mono ?_);rintro e w' ⟨rfl,⟨nd,rfl⟩⟩;refine⟨_,rfl,?_⟩)|(go_at_call 94;(with_reducible refine(impl_isTrip.calls a0_1 false _ A18.out).mono ?_);rintro e w' ⟨rfl,⟨nd,rfl⟩⟩))
     go_ret;exact⟨za27,za1 HB GE312⟩
   ·replace c17:=Bool.eq_false_iff.mpr c17;subst c17
    have H1:(some false)=some r:=by rw[if_neg (show ¬(false=true) by decide)] at H;exact H
    clear H;have H:=H1;clear H1;obtain rfl:=Option.some.inj H;go_enter Try.func63,Try.ntmps63
    go_wp2_with(first|((with_reducible refine qai (N:=1) rfl ?_);refine zX (N:=1) (cs:=#[.int .i64 a0_0,.int .i64 a0_1,.slice A0_2 l0_2.length c0_2]) (t:=32) ?_;intro gb312 hg w24 hbox hb;have BK312:=qae.mk hbox;have GW312:=zH (w:=w) hg (za3 HB);have GE312:=GW312;replace HB:=qae.mk (qad (za3 HB) hb);clear hb hbox hg;obtain⟨hcz25_0,hcz25_1,hcz25_2,hfz25_0,hfz25_1,hfz25_2⟩:=zC3 BK312)|((with_reducible refine qag (f:=66) rfl ?_);refine zF (some 30) Try.func66 #[.int .i64 a0_0,.int .i64 1,.int .i64 7] ?_;(with_reducible refine(impl_in.calls a0_0 1 7 false _ A16.out).mono ?_);rintro e w' ⟨rfl,⟨nd,rfl⟩⟩;refine⟨_,rfl,?_⟩))
    go_ret;exact⟨za27,za1 HB GE312⟩
 ·rw[if_neg c2] at H;have c2b0:(a0_0 == 1)=false:=beq_eq_false_iff_ne.mpr c2;have c2b1:(a0_0 != 1)=true:=bne_iff_ne.mpr c2;by_cases c26:a0_0=4
  ·rw[if_pos c26] at H;have c26b0:(a0_0 == 4)=true:=beq_iff_eq.mpr c26;have c26b1:(a0_0 != 4)=false:=bne_eq_false_iff_eq.mpr c26;clear c26;replace H:=Option.bind_eq_some_iff.mp H;obtain⟨t319,A270,H⟩:=H;replace H:((impl_in.f a0_0 1 7).bind fun t320=>(if t320=true then((impl_isTrip.f a0_1).bind fun t321=>(if t321=true then(some t319) else(some false))) else(some false)))=some r:=H;have A27:=qae.mk A270;clear A270;replace H:=Option.bind_eq_some_iff.mp H;obtain⟨t320,A280,H⟩:=H;replace H:(if t320=true then((impl_isTrip.f a0_1).bind fun t321=>(if t321=true then(some t319) else(some false))) else(some false))=some r:=H;have A28:=qae.mk A280;clear A280;by_cases c29:t320=true
   ·subst c29
    have H1:((impl_isTrip.f a0_1).bind fun t321=>(if t321=true then(some t319) else(some false)))=some r:=by rw[if_pos rfl] at H;exact H
    clear H;have H:=H1;clear H1;replace H:=Option.bind_eq_some_iff.mp H;obtain⟨t321,A300,H⟩:=H;replace H:(if t321=true then(some t319) else(some false))=some r:=H;have A30:=qae.mk A300;clear A300;by_cases c31:t321=true
    ·subst c31
     have H1:(some t319)=some r:=by rw[if_pos rfl] at H;exact H
     clear H;have H:=H1;clear H1;obtain rfl:=Option.some.inj H;go_enter Try.func63,Try.ntmps63
     go_wp2_with(first|((with_reducible refine qai (N:=1) rfl ?_);refine zX (N:=1) (cs:=#[.int .i64 a0_0,.int .i64 a0_1,.slice A0_2 l0_2.length c0_2]) (t:=32) ?_;intro gb312 hg w32 hbox hb;have BK312:=qae.mk hbox;have GW312:=zH (w:=w) hg (za3 HB);have GE312:=GW312;replace HB:=qae.mk (qad (za3 HB) hb);clear hb hbox hg;obtain⟨hcz33_0,hcz33_1,hcz33_2,hfz33_0,hfz33_1,hfz33_2⟩:=zC3 BK312)|((with_reducible refine qag (f:=93) rfl ?_);refine zF (some 27) Try.func93 #[.slice A0_2 l0_2.length c0_2] ?_;(with_reducible refine(impl_wantedOk.calls _ _ l0_2 t319 _ ?side1 ?side2 A27.out).mono ?_);(case side1=>exact zR HR0_2 HB);(case side2=>exact HC0_2.out);rintro e w' ⟨rfl,⟨nd,rfl⟩⟩;refine⟨_,rfl,?_⟩)|((with_reducible refine qag (f:=66) rfl ?_);refine zF (some 30) Try.func66 #[.int .i64 a0_0,.int .i64 1,.int .i64 7] ?_;(with_reducible refine(impl_in.calls a0_0 1 7 true _ A28.out).mono ?_);rintro e w' ⟨rfl,⟨nd,rfl⟩⟩;refine⟨_,rfl,?_⟩)|(go_at_call 94;(with_reducible refine(impl_isTrip.calls a0_1 true _ A30.out).mono ?_);rintro e w' ⟨rfl,⟨nd,rfl⟩⟩))
     go_ret;exact⟨za27,za1 HB GE312⟩
    ·replace c31:=Bool.eq_false_iff.mpr c31;subst c31
     have H1:(some false)=some r:=by rw[if_neg (show ¬(false=true) by decide)] at H;exact H
     clear H;have H:=H1;clear H1;obtain rfl:=Option.some.inj H;go_enter Try.func63,Try.ntmps63
     go_wp2_with(first|((with_reducible refine qai (N:=1) rfl ?_);refine zX (N:=1) (cs:=#[.int .i64 a0_0,.int .i64 a0_1,.slice A0_2 l0_2.length c0_2]) (t:=32) ?_;intro gb312 hg w34 hbox hb;have BK312:=qae.mk hbox;have GW312:=zH (w:=w) hg (za3 HB);have GE312:=GW312;replace HB:=qae.mk (qad (za3 HB) hb);clear hb hbox hg;obtain⟨hcz35_0,hcz35_1,hcz35_2,hfz35_0,hfz35_1,hfz35_2⟩:=zC3 BK312)|((with_reducible refine qag (f:=93) rfl ?_);refine zF (some 27) Try.func93 #[.slice A0_2 l0_2.length c0_2] ?_;(with_reducible refine(impl_wantedOk.calls _ _ l0_2 t319 _ ?side1 ?side2 A27.out).mono ?_);(case side1=>exact zR HR0_2 HB);(case side2=>exact HC0_2.out);rintro e w' ⟨rfl,⟨nd,rfl⟩⟩;refine⟨_,rfl,?_⟩)|((with_reducible refine qag (f:=66) rfl ?_);refine zF (some 30) Try.func66 #[.int .i64 a0_0,.int .i64 1,.int .i64 7] ?_;(with_reducible refine(impl_in.calls a0_0 1 7 true _ A28.out).mono ?_);rintro e w' ⟨rfl,⟨nd,rfl⟩⟩;refine⟨_,rfl,?_⟩)|(go_at_call 94;(with_reducible refine(impl_isTrip.calls a0_1 false _ A30.out).mono ?_);rintro e w' ⟨rfl,⟨nd,rfl⟩⟩))
     go_ret;exact⟨za27,za1 HB GE312⟩
   ·replace c29:=Bool.eq_false_iff.mpr c29;subst c29
    have H1:(some false)=some r:=by rw[if_neg (show ¬(false=true) by decide)] at H;exact H
    clear H;have H:=H1;clear H1;obtain rfl:=Option.some.inj H;go_enter Try.func63,Try.ntmps63
    go_wp2_with(first|((with_reducible refine qai (N:=1) rfl ?_);refine zX (N:=1) (cs:=#[.int .i64 a0_0,.int .i64 a0_1,.slice A0_2 l0_2.length c0_2]) (t:=32) ?_;intro gb312 hg w36 hbox hb;have BK312:=qae.mk hbox;have GW312:=zH (w:=w) hg (za3 HB);have GE312:=GW312;replace HB:=qae.mk (qad (za3 HB) hb);clear hb hbox hg;obtain⟨hcz37_0,hcz37_1,hcz37_2,hfz37_0,hfz37_1,hfz37_2⟩:=zC3 BK312)|((with_reducible refine qag (f:=93) rfl ?_);refine zF (some 27) Try.func93 #[.slice A0_2 l0_2.length c0_2] ?_;(with_reducible refine(impl_wantedOk.calls _ _ l0_2 t319 _ ?side1 ?side2 A27.out).mono ?_);(case side1=>exact zR HR0_2 HB);(case side2=>exact HC0_2.out);rintro e w' ⟨rfl,⟨nd,rfl⟩⟩;refine⟨_,rfl,?_⟩)|((with_reducible refine qag (f:=66) rfl ?_);refine zF (some 30) Try.func66 #[.int .i64 a0_0,.int .i64 1,.int .i64 7] ?_;(with_reducible refine(impl_in.calls a0_0 1 7 false _ A28.out).mono ?_);rintro e w' ⟨rfl,⟨nd,rfl⟩⟩;refine⟨_,rfl,?_⟩))
    go_ret;exact⟨za27,za1 HB GE312⟩
  ·rw[if_neg c26] at H;have c26b0:(a0_0 == 4)=false:=beq_eq_false_iff_ne.mpr c26;have c26b1:(a0_0 != 4)=true:=bne_iff_ne.mpr c26;replace H:=Option.bind_eq_some_iff.mp H;obtain⟨t322,A380,H⟩:=H;replace H:(if t322=true then((impl_isTrip.f a0_1).bind fun t323=>(if t323=true then(some ((l0_2.length:Int) == 0)) else(some false))) else(some false))=some r:=H;have A38:=qae.mk A380;clear A380;by_cases c39:t322=true
   ·subst c39
    have H1:((impl_isTrip.f a0_1).bind fun t323=>(if t323=true then(some ((l0_2.length:Int) == 0)) else(some false)))=some r:=by rw[if_pos rfl] at H;exact H
    clear H;have H:=H1;clear H1;replace H:=Option.bind_eq_some_iff.mp H;obtain⟨t323,A400,H⟩:=H;replace H:(if t323=true then(some ((l0_2.length:Int) == 0)) else(some false))=some r:=H;have A40:=qae.mk A400;clear A400;by_cases c41:t323=true
    ·subst c41
     have H1:(some ((l0_2.length:Int) == 0))=some r:=by rw[if_pos rfl] at H;exact H
     clear H;have H:=H1;clear H1;obtain rfl:=Option.some.inj H;go_enter Try.func63,Try.ntmps63
     go_wp2_with(first|((with_reducible refine qai (N:=1) rfl ?_);refine zX (N:=1) (cs:=#[.int .i64 a0_0,.int .i64 a0_1,.slice A0_2 l0_2.length c0_2]) (t:=32) ?_;intro gb312 hg w42 hbox hb;have BK312:=qae.mk hbox;have GW312:=zH (w:=w) hg (za3 HB);have GE312:=GW312;replace HB:=qae.mk (qad (za3 HB) hb);clear hb hbox hg;obtain⟨hcz43_0,hcz43_1,hcz43_2,hfz43_0,hfz43_1,hfz43_2⟩:=zC3 BK312)|((with_reducible refine qag (f:=66) rfl ?_);refine zF (some 30) Try.func66 #[.int .i64 a0_0,.int .i64 1,.int .i64 7] ?_;(with_reducible refine(impl_in.calls a0_0 1 7 true _ A38.out).mono ?_);rintro e w' ⟨rfl,⟨nd,rfl⟩⟩;refine⟨_,rfl,?_⟩)|(go_at_call 94;(with_reducible refine(impl_isTrip.calls a0_1 true _ A40.out).mono ?_);rintro e w' ⟨rfl,⟨nd,rfl⟩⟩))
     go_ret;exact⟨za27,za1 HB GE312⟩
    ·replace c41:=Bool.eq_false_iff.mpr c41;subst c41
     have H1:(some false)=some r:=by rw[if_neg (show ¬(false=true) by decide)] at H;exact H
     clear H;have H:=H1;clear H1;obtain rfl:=Option.some.inj H;go_enter Try.func63,Try.ntmps63
     go_wp2_with(first|((with_reducible refine qai (N:=1) rfl ?_);refine zX (N:=1) (cs:=#[.int .i64 a0_0,.int .i64 a0_1,.slice A0_2 l0_2.length c0_2]) (t:=32) ?_;intro gb312 hg w44 hbox hb;have BK312:=qae.mk hbox;have GW312:=zH (w:=w) hg (za3 HB);have GE312:=GW312;replace HB:=qae.mk (qad (za3 HB) hb);clear hb hbox hg;obtain⟨hcz45_0,hcz45_1,hcz45_2,hfz45_0,hfz45_1,hfz45_2⟩:=zC3 BK312)|((with_reducible refine qag (f:=66) rfl ?_);refine zF (some 30) Try.func66 #[.int .i64 a0_0,.int .i64 1,.int .i64 7] ?_;(with_reducible refine(impl_in.calls a0_0 1 7 true _ A38.out).mono ?_);rintro e w' ⟨rfl,⟨nd,rfl⟩⟩;refine⟨_,rfl,?_⟩)|(go_at_call 94;(with_reducible refine(impl_isTrip.calls a0_1 false _ A40.out).mono ?_);rintro e w' ⟨rfl,⟨nd,rfl⟩⟩))
     go_ret;exact⟨za27,za1 HB GE312⟩
   ·replace c39:=Bool.eq_false_iff.mpr c39;subst c39
    have H1:(some false)=some r:=by rw[if_neg (show ¬(false=true) by decide)] at H;exact H
    clear H;have H:=H1;clear H1;obtain rfl:=Option.some.inj H;go_enter Try.func63,Try.ntmps63
    go_wp2_with(first|((with_reducible refine qai (N:=1) rfl ?_);refine zX (N:=1) (cs:=#[.int .i64 a0_0,.int .i64 a0_1,.slice A0_2 l0_2.length c0_2]) (t:=32) ?_;intro gb312 hg w46 hbox hb;have BK312:=qae.mk hbox;have GW312:=zH (w:=w) hg (za3 HB);have GE312:=GW312;replace HB:=qae.mk (qad (za3 HB) hb);clear hb hbox hg;obtain⟨hcz47_0,hcz47_1,hcz47_2,hfz47_0,hfz47_1,hfz47_2⟩:=zC3 BK312)|((with_reducible refine qag (f:=66) rfl ?_);refine zF (some 30) Try.func66 #[.int .i64 a0_0,.int .i64 1,.int .i64 7] ?_;(with_reducible refine(impl_in.calls a0_0 1 7 false _ A38.out).mono ?_);rintro e w' ⟨rfl,⟨nd,rfl⟩⟩;refine⟨_,rfl,?_⟩))
    go_ret;exact⟨za27,za1 HB GE312⟩
def spec_l2Free.l0:Nat→Int→Int→Int→List (S49)→Option (Int)
 |0,_,_,_,_=>none
 |k+1,x3,x4,x393000,x393001=>if x4<(x393001.length:Int) then(if 0≤x4 then(if((rd_T49 x393001 x4).f1)=1 then(spec_l2Free.l0 k (wrap64 (x3 - ((rd_T49 x393001 x4).f0))) (wrap64 (x4+1)) x393000 x393001) else(if((rd_T49 x393001 x4).f1)=2 then(spec_l2Free.l0 k (wrap64 (x3 - ((rd_T49 x393001 x4).f0))) (wrap64 (x4+1)) x393000 x393001) else(spec_l2Free.l0 k x3 (wrap64 (x4+1)) x393000 x393001))) else(none)) else(some x3)
def spec_l2Free.f (k:Nat) (a0_0:Int) (l0_1:List (S49)):Option (Int):=spec_l2Free.l0 k a0_0 0 a0_0 l0_1
theorem spec_l2Free.mono_l:∀k,(∀y0 y1 y2 y3,LeO (spec_l2Free.l0 k y0 y1 y2 y3) (spec_l2Free.l0 (k+1) y0 y1 y2 y3))
 |0=>fun _ _ _ _ r h=>by simp[spec_l2Free.l0] at h
 |k+1=>by
  have ih0:=spec_l2Free.mono_l k
  ·intro y0 y1 y2 y3;unfold spec_l2Free.l0
   repeat' first|(with_reducible exact ih0 _ _ _ _)|(with_reducible exact LeO.refl _)|(with_reducible exact LeO.none _)|(with_reducible refine LeO.ite ?_ ?_)|(with_reducible refine LeO.bind ?_ (fun _=>?_))|exact ih0 _ _ _ _|exact LeO.none _|refine LeO.ite ?_ ?_|refine LeO.bind ?_ (fun _=>?_)
theorem spec_l2Free.mono:∀a0 a1 k,LeO (spec_l2Free.f k a0 a1) (spec_l2Free.f (k+1) a0 a1):=by
 intro a0 a1 k;have ih0:=spec_l2Free.mono_l k;unfold spec_l2Free.f
 repeat' first|(with_reducible exact ih0 _ _ _ _)|(with_reducible exact LeO.refl _)|(with_reducible exact LeO.none _)|(with_reducible refine LeO.ite ?_ ?_)|(with_reducible refine LeO.bind ?_ (fun _=>?_))|exact ih0 _ _ _ _|exact LeO.none _|refine LeO.ite ?_ ?_|refine LeO.bind ?_ (fun _=>?_)
set_option maxHeartbeats 8000000 in
set_option maxRecDepth 100000 in
theorem spec_l2Free.calls (k:Nat) (a0_0:Int) (A0_1:Option Addr) (c0_1:Nat) (l0_1:List (S49)) (r:Int) (w:World) (hr0_1:Kd.C k49 w A0_1 l0_1.length l0_1) (hc0_1:l0_1.length≤c0_1) (h:spec_l2Free.f k a0_0 l0_1=some r) :
  Calls Try.prog 105 #[.agg #[.int .i64 a0_0,.slice A0_1 l0_1.length c0_1]] w fun e w'=>e=.returned (.int .i64 r)∧Below w.heap.size w w':=by
 have hu38:=Try.underlying38;have HR0_1:=qae.mk hr0_1;have HC0_1:=qae.mk hc0_1;clear hr0_1 hc0_1;have HB:=qae.mk (Below.refl w.heap.size w);have H:(spec_l2Free.l0 k a0_0 0 a0_0 l0_1)=some r:=h;clear h;have H':=qae.mk H;clear H;go_enter Try.func105,Try.ntmps105
 go_wp2_with(first|((with_reducible refine qai (N:=1) rfl ?_);refine zX (N:=1) (cs:=#[.int .i64 a0_0,.slice A0_1 l0_1.length c0_1]) (t:=38) ?_;intro gb392 hg w2 hbox hb;have BK392:=qae.mk hbox;have GW392:=zH (w:=w) hg (za3 HB);have GE392:=GW392;replace HB:=qae.mk (qad (za3 HB) hb);clear hb hbox hg;obtain⟨hcz3_0,hcz3_1,hfz3_0,hfz3_1⟩:=zC2 BK392))
 go_loopg [3,4] k (fun kq v3 v4 w'=>∃(x3_1:Int) (x4_1:Int),v3=.int .i64 x3_1∧v4=.int .i64 x4_1∧qae (spec_l2Free.l0 kq x3_1 x4_1 a0_0 l0_1=some r)∧qae (kq≤k)∧qae (w'.heap[gb392]?=some (.cells #[.int .i64 a0_0,(.slice A0_1 l0_1.length c0_1)] 38 (0,0)))∧qae (Below w.heap.size w w'))
 case atStart=>exact⟨(a0_0),(0),(za46),(za46),H',⟨Nat.le_refl _⟩,⟨za21 BK392⟩,⟨za1 HB GE392⟩⟩
 case round=>
  clear H'
  try clear c1
  try clear p2
  try clear hcz3_0
  try clear hcz3_1
  try clear hfz3_0
  try clear hfz3_1
  obtain⟨x3_1,x4_1,rfl,rfl,HA,HK1,BK392,HB⟩:=hrel
  cases gk with
  |zero=>exact absurd HA.out (by simp[spec_l2Free.l0])
  |succ k1=>
   have H:=HA.out;clear HA;simp only[spec_l2Free.l0] at H;by_cases c4:x4_1<(l0_1.length:Int)
   ·rw[if_pos c4] at H;have c4b0:decide (x4_1<(l0_1.length:Int))=true:=decide_eq_true c4;clear c4;by_cases c5:0≤x4_1
    ·rw[if_pos c5] at H;have c5b0:decide (0≤x4_1)=true:=decide_eq_true c5;clear c5;by_cases c6:((rd_T49 l0_1 x4_1).f1)=1
     ·rw[if_pos c6] at H;have c6b0:(((rd_T49 l0_1 x4_1).f1) == 1)=true:=beq_iff_eq.mpr c6;have c6b1:(((rd_T49 l0_1 x4_1).f1) != 1)=false:=bne_eq_false_iff_eq.mpr c6;clear c6;have H':=qae.mk H;clear H;obtain⟨hcz7_0,hcz7_1,hfz7_0,hfz7_1⟩:=zC2 BK392;have p393:0≤(x4_1:Int):=of_decide_eq_true (za6);have q393:x4_1<(l0_1.length:Int):=of_decide_eq_true (za6);obtain⟨ad393,e393,hx393_0,hx393_1⟩:=at_T49 HR0_1.out x4_1 p393 q393
      cases e393
      replace hx393_0:=(HB.out.cell (World.block_lt_of_cell? w _ hx393_0)).trans hx393_0;replace hx393_1:=(HB.out.cell (World.block_lt_of_cell? w _ hx393_1)).trans hx393_1;replace p393:=eq_true p393;replace q393:=eq_true q393;have p394:0≤(x4_1:Int):=of_decide_eq_true (za6);have q394:x4_1<(l0_1.length:Int):=of_decide_eq_true (za6);obtain⟨ad394,e394,hx394_0,hx394_1⟩:=at_T49 HR0_1.out x4_1 p394 q394;obtain rfl:ad393=ad394:=(by injection e394);replace hx394_0:=(HB.out.cell (World.block_lt_of_cell? w _ hx394_0)).trans hx394_0;replace hx394_1:=(HB.out.cell (World.block_lt_of_cell? w _ hx394_1)).trans hx394_1;replace p394:=eq_true p394;replace q394:=eq_true q394;go_wp2
      go_roundg k1
      case measure=>have:=HK1.out;omega
      case rel=>exact⟨(wrap64 (x3_1 - ((rd_T49 l0_1 x4_1).f0))),(wrap64 (x4_1+1)),(za46),(za46),H',⟨by have:=HK1.out;omega⟩,⟨za21 BK392⟩,⟨za1 HB GE392⟩⟩
     ·rw[if_neg c6] at H;have c6b0:(((rd_T49 l0_1 x4_1).f1) == 1)=false:=beq_eq_false_iff_ne.mpr c6;have c6b1:(((rd_T49 l0_1 x4_1).f1) != 1)=true:=bne_iff_ne.mpr c6;by_cases c8:((rd_T49 l0_1 x4_1).f1)=2
      ·rw[if_pos c8] at H;have c8b0:(((rd_T49 l0_1 x4_1).f1) == 2)=true:=beq_iff_eq.mpr c8;have c8b1:(((rd_T49 l0_1 x4_1).f1) != 2)=false:=bne_eq_false_iff_eq.mpr c8;clear c8;have H':=qae.mk H;clear H;obtain⟨hcz9_0,hcz9_1,hfz9_0,hfz9_1⟩:=zC2 BK392;have p393:0≤(x4_1:Int):=of_decide_eq_true (za6);have q393:x4_1<(l0_1.length:Int):=of_decide_eq_true (za6);obtain⟨ad393,e393,hx393_0,hx393_1⟩:=at_T49 HR0_1.out x4_1 p393 q393
       cases e393
       replace hx393_0:=(HB.out.cell (World.block_lt_of_cell? w _ hx393_0)).trans hx393_0;replace hx393_1:=(HB.out.cell (World.block_lt_of_cell? w _ hx393_1)).trans hx393_1;replace p393:=eq_true p393;replace q393:=eq_true q393;have p395:0≤(x4_1:Int):=of_decide_eq_true (za6);have q395:x4_1<(l0_1.length:Int):=of_decide_eq_true (za6);obtain⟨ad395,e395,hx395_0,hx395_1⟩:=at_T49 HR0_1.out x4_1 p395 q395;obtain rfl:ad393=ad395:=(by injection e395);replace hx395_0:=(HB.out.cell (World.block_lt_of_cell? w _ hx395_0)).trans hx395_0;replace hx395_1:=(HB.out.cell (World.block_lt_of_cell? w _ hx395_1)).trans hx395_1;replace p395:=eq_true p395;replace q395:=eq_true q395;have p396:0≤(x4_1:Int):=of_decide_eq_true (za6);have q396:x4_1<(l0_1.length:Int):=of_decide_eq_true (za6);obtain⟨ad396,e396,hx396_0,hx396_1⟩:=at_T49 HR0_1.out x4_1 p396 q396;obtain rfl:ad393=ad396:=(by injection e396);replace hx396_0:=(HB.out.cell (World.block_lt_of_cell? w _ hx396_0)).trans hx396_0;replace hx396_1:=(HB.out.cell (World.block_lt_of_cell? w _ hx396_1)).trans hx396_1;replace p396:=eq_true p396;replace q396:=eq_true q396;go_wp2
       go_roundg k1
       case measure=>have:=HK1.out;omega
       case rel=>exact⟨(wrap64 (x3_1 - ((rd_T49 l0_1 x4_1).f0))),(wrap64 (x4_1+1)),(za46),(za46),H',⟨by have:=HK1.out;omega⟩,⟨za21 BK392⟩,⟨za1 HB GE392⟩⟩
      ·rw[if_neg c8] at H;have c8b0:(((rd_T49 l0_1 x4_1).f1) == 2)=false:=beq_eq_false_iff_ne.mpr c8;have c8b1:(((rd_T49 l0_1 x4_1).f1) != 2)=true:=bne_iff_ne.mpr c8;have H':=qae.mk H;clear H;obtain⟨hcz10_0,hcz10_1,hfz10_0,hfz10_1⟩:=zC2 BK392;have p393:0≤(x4_1:Int):=of_decide_eq_true (za6);have q393:x4_1<(l0_1.length:Int):=of_decide_eq_true (za6);obtain⟨ad393,e393,hx393_0,hx393_1⟩:=at_T49 HR0_1.out x4_1 p393 q393
       cases e393
       replace hx393_0:=(HB.out.cell (World.block_lt_of_cell? w _ hx393_0)).trans hx393_0;replace hx393_1:=(HB.out.cell (World.block_lt_of_cell? w _ hx393_1)).trans hx393_1;replace p393:=eq_true p393;replace q393:=eq_true q393;have p395:0≤(x4_1:Int):=of_decide_eq_true (za6);have q395:x4_1<(l0_1.length:Int):=of_decide_eq_true (za6);obtain⟨ad395,e395,hx395_0,hx395_1⟩:=at_T49 HR0_1.out x4_1 p395 q395;obtain rfl:ad393=ad395:=(by injection e395);replace hx395_0:=(HB.out.cell (World.block_lt_of_cell? w _ hx395_0)).trans hx395_0;replace hx395_1:=(HB.out.cell (World.block_lt_of_cell? w _ hx395_1)).trans hx395_1;replace p395:=eq_true p395;replace q395:=eq_true q395;go_wp2
       go_roundg k1
       case measure=>have:=HK1.out;omega
       case rel=>exact⟨(x3_1),(wrap64 (x4_1+1)),(za46),(za46),H',⟨by have:=HK1.out;omega⟩,⟨za21 BK392⟩,⟨za1 HB GE392⟩⟩
    ·rw[if_neg c5] at H;exact absurd H (by simp)
   ·rw[if_neg c4] at H;have c4b0:decide (x4_1<(l0_1.length:Int))=false:=decide_eq_false c4;clear c4;obtain rfl:=Option.some.inj H;obtain⟨hcz11_0,hcz11_1,hfz11_0,hfz11_1⟩:=zC2 BK392;go_wp2;go_ret;exact⟨za27,za1 HB GE392⟩
end Go.Proofs.Ytmbdphefnalenaa.Print
