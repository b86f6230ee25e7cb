-- Written by squeeze.py: not trusted, Lean checks it.
import Derived.Test.YtbcepmkifomifaaDoorZK
import Derived.Test.YtbcepmkifomifaaDoorZe0
namespace Go.Proofs.YtbcepmkifomifaaDoor.Print
open Go.RowKit Go.Proofs.YtbcepmkifomifaaDoorW.PrintWords Go.Proofs.YtbcepmkifomifaaDoorW.PrintLast Go.Proofs.YtbcepmkifomifaaDoorW.PrintMore
attribute [local go_sem] max2_int min2_int max_two min_two max_three min_three max_four min_four
set_option linter.unusedVariables false
set_option linter.unusedSimpArgs false
def impl_wantedOk_1.f (a0:Int):Option (Bool):=(impl_in.f a0 0 3).bind fun t182=>(some (!t182))
set_option maxHeartbeats 8000000 in
set_option maxRecDepth 100000 in
theorem impl_wantedOk_1.calls (a0:Int) (r:Bool) (w:World) (h:impl_wantedOk_1.f a0=some r) :
  Calls Tryd.prog 73 #[.int .i64 a0] w fun e w'=>e=.returned (.bool r)∧Drawn0 w w':=by
 have H:((impl_in.f a0 0 3).bind fun t182=>(some (!t182)))=some r:=h;clear h;replace H:=Option.bind_eq_some_iff.mp H;obtain⟨t182,A20,H⟩:=H;replace H:(some (!t182))=some r:=H;have A2:=qaj.mk A20;clear A20;obtain rfl:=Option.some.inj H;go_enter Tryd.func73,Tryd.ntmps73
 go_wp2_with(first|((with_reducible refine qae (f:=54) rfl ?_);refine zF (some 4) Tryd.func54 #[.int .i64 a0,.int .i64 0,.int .i64 3] ?_;(with_reducible refine(impl_in.calls a0 0 3 t182 _ A2.out).mono ?_);rintro e w' ⟨rfl,⟨nd,rfl⟩⟩;refine⟨_,rfl,?_⟩))
 go_ret;exact⟨za23,za32⟩
def impl_wantedOk_2.f (a0:Int):Option (Bool):=some (a0 != 0)
set_option maxHeartbeats 8000000 in
set_option maxRecDepth 100000 in
theorem impl_wantedOk_2.calls (a0:Int) (r:Bool) (w:World) (h:impl_wantedOk_2.f a0=some r) :
  Calls Tryd.prog 74 #[.int .i64 a0] w fun e w'=>e=.returned (.bool r)∧Drawn0 w w':=by
 have H:(some (a0 != 0))=some r:=h;clear h;obtain rfl:=Option.some.inj H;go_enter Tryd.func74,Tryd.ntmps74;go_wp2;go_ret;exact⟨za23,za32⟩
theorem drop_cons_rd {l:List Int} {k:Nat} (h:k<l.length):l.drop k=rd l (k:Int) :: l.drop (k+1):=by
 rw[List.drop_eq_getElem_cons h];simp[rd,List.getD_eq_getElem?_getD,List.getElem?_eq_getElem h]
set_option maxHeartbeats 4000000 in
theorem idx_int (p:Int→Option Bool) (g:Nat) (A0:Option Addr) (c0:Nat) (l0:List Int) (r:Bool) (w:World) (hr0:Kd.C (Kd.int .i64) w A0 l0.length l0) (hc0:l0.length≤c0)
  (eg:∀args w,(callFunc g args).run Tryd.prog w=.ok (.enter g args) w)
  (hg:∀(W:World) (x:Int) (b:Bool),p x=some b→Calls Tryd.prog g #[.int .i64 x] W fun e w'=>e=.returned (.bool b)∧Drawn0 W w') (h:anyO p l0=some r) :
  Calls Tryd.prog 81 #[.slice A0 l0.length c0,.func (.func g) #[] #[]] w (IdxQ r w):=by
 have HR:=qaj.mk hr0;have HG:=qaj.mk hg;have HH:=qaj.mk h;clear hr0 hc0 hg h
 have hbig:l0.length≤9223372036854775807:=by
  have:=HR.out;exact this.2.1
 go_enter Tryd.func81,Tryd.ntmps81;go_wp2
 go_loopg [5,8] l0.length (fun gg _ s8 wr=>∃kk q:Nat,kk≤l0.length∧l0.length - kk≤gg∧s8=.int .i64 kk∧wr=w.drewN q∧qaj (anyO p (l0.drop kk)=some r))
 case atStart=>exact⟨0,0,Nat.zero_le _,by omega,rfl,rfl,HH⟩
 case round=>
  obtain⟨kk,q,hkk,hg',rfl,rfl,B⟩:=hrel;clear HH;by_cases hlt:kk<l0.length
  ·have hltz:(kk:Int)<(l0.length:Int):=by omega
   obtain⟨ad,e0,hcell⟩:=Kd.at_int HR.out (kk:Int) (by omega) hltz
   cases e0
   rw[Int.toNat_natCast] at hcell;have B':=B.out;rw[drop_cons_rd hlt] at B';obtain⟨b,hb,hb'⟩:=anyO_cons B';clear B B'
   have hcall:=fun W=>HG.out W _ b hb
   have HB:=qaj.mk hb;clear hb
   rcases hb' with⟨rfl,rfl⟩|⟨rfl,hb'⟩
   ·go_wp2_with(go_at_fn g;refine(hcall _).mono ?_;rintro e w' ⟨rfl,⟨q',rfl⟩⟩)
    go_ret;exact⟨kk,rfl,by simp,⟨⟨_,rfl⟩⟩⟩
   ·have B2:=qaj.mk hb';clear hb'
    go_wp2_with(go_at_fn g;refine(hcall _).mono ?_;rintro e w' ⟨rfl,⟨q',rfl⟩⟩)
    go_roundg (l0.length - (kk+1))
    case measure=>omega
    case rel=>exact⟨kk+1,_,by omega,by omega,by go_num,rfl,B2⟩
  ·have hltz:¬(kk:Int)<(l0.length:Int):=by omega
   have B':=B.out;rw[List.drop_eq_nil_of_le (by omega)] at B'
   have hr:false=r:=by injection B'
   subst hr;clear B';go_wp2;go_ret;exact⟨-1,rfl,by decide,⟨⟨q,rfl⟩⟩⟩
set_option maxHeartbeats 4000000 in
theorem contains_int (p:Int→Option Bool) (g:Nat) (A0:Option Addr) (c0:Nat) (l0:List Int) (r:Bool) (w:World) (hr0:Kd.C (Kd.int .i64) w A0 l0.length l0) (hc0:l0.length≤c0)
  (eg:∀args w,(callFunc g args).run Tryd.prog w=.ok (.enter g args) w)
  (hg:∀(W:World) (x:Int) (b:Bool),p x=some b→Calls Tryd.prog g #[.int .i64 x] W fun e w'=>e=.returned (.bool b)∧Drawn0 W w') (h:anyO p l0=some r) :
  Calls Tryd.prog 75 #[.slice A0 l0.length c0,.func (.func g) #[] #[]] w fun e w'=>e=.returned (.bool r)∧Drawn0 w w':=by
 have hI:=fun W=>idx_int p g A0 c0 l0 r W
 have HR:=qaj.mk hr0;have HG:=qaj.mk hg;have HH:=qaj.mk h;have HC:=qaj.mk hc0;clear hr0 hc0 hg h;go_enter Tryd.func75,Tryd.ntmps75
 go_wp2_with(go_at_call 81;refine(hI _ HR.out HC.out eg HG.out HH.out).mono ?_;rintro e w' ⟨i,rfl,hi,⟨q,rfl⟩⟩)
 go_ret;exact⟨by rw[←hi];rfl,⟨⟨_,rfl⟩⟩⟩
def impl_wantedOk.f (l0:List Int):Option (Bool):=if(l0.length:Int)=3 then((anyO impl_wantedOk_1.f l0).bind fun a=>if a=true then some false else anyO impl_wantedOk_2.f l0) else some false
set_option maxHeartbeats 8000000 in
set_option maxRecDepth 100000 in
theorem impl_wantedOk.calls (A0:Option Addr) (c0:Nat) (l0:List Int) (r:Bool) (w:World) (hr0:Kd.C (Kd.int .i64) w A0 l0.length l0) (hc0:l0.length≤c0) (h:impl_wantedOk.f l0=some r) :
  Calls Tryd.prog 55 #[.slice A0 l0.length c0] w fun e w'=>e=.returned (.bool r)∧Drawn0 w w':=by
 have HR:=qaj.mk hr0;have HC:=qaj.mk hc0
 have c1:=fun(W:World) (r':Bool) (hr:Kd.C (Kd.int .i64) W A0 l0.length l0) (h:anyO impl_wantedOk_1.f l0=some r')=>contains_int impl_wantedOk_1.f 73 A0 c0 l0 r' W hr HC.out (enters_of Tryd.func73 (by kernel_rfl) rfl) (fun W x b hb=>impl_wantedOk_1.calls x b W hb) h
 have c2:=fun(W:World) (r':Bool) (hr:Kd.C (Kd.int .i64) W A0 l0.length l0) (h:anyO impl_wantedOk_2.f l0=some r')=>contains_int impl_wantedOk_2.f 74 A0 c0 l0 r' W hr HC.out (enters_of Tryd.func74 (by kernel_rfl) rfl) (fun W x b hb=>impl_wantedOk_2.calls x b W hb) h
 have C1:=qaj.mk c1;have C2:=qaj.mk c2;clear hr0 hc0 c1 c2;unfold impl_wantedOk.f at h;by_cases h3:(l0.length:Int)=3
 ·rw[if_pos h3] at h;obtain⟨a,ha,h⟩:=Option.bind_eq_some_iff.mp h
  have h3b:((l0.length:Int) == 3)=true:=by simpa using h3
  clear h3
  cases a with
  |true=>
   rw[if_pos rfl] at h
   injection h with h
   subst h;have HA:=qaj.mk ha;clear ha;go_enter Tryd.func55,Tryd.ntmps55
   go_wp2_with(go_at_call 75;refine(C1.out _ true HR.out HA.out).mono ?_;rintro e w' ⟨rfl,⟨q,rfl⟩⟩)
   go_ret;exact⟨rfl,⟨⟨_,rfl⟩⟩⟩
  |false=>
   rw[if_neg (by decide)] at h;have HA:=qaj.mk ha;have HB:=qaj.mk h;clear ha h;go_enter Tryd.func55,Tryd.ntmps55
   go_wp2_with fail
   go_at_call 75
   refine(C1.out _ false HR.out HA.out).mono ?_;rintro e w' ⟨rfl,⟨q,rfl⟩⟩
   go_wp2_with fail
   go_at_call 75
   refine(C2.out _ r (by exact HR.out) HB.out).mono ?_;rintro e w' ⟨rfl,⟨q2,rfl⟩⟩
   go_wp2_with fail
   go_ret;exact⟨rfl,⟨⟨_,rfl⟩⟩⟩
 ·rw[if_neg h3] at h
  injection h with h
  subst h
  have h3b:((l0.length:Int) == 3)=false:=by simpa using h3
  clear h3;go_enter Tryd.func55,Tryd.ntmps55;go_wp2;go_ret;exact⟨rfl,⟨⟨0,rfl⟩⟩⟩
def impl_RecOk.f (a0_0:Int) (a0_1:Int) (l0_2:List Int):Option (Bool):=if a0_0=1 then(if(l0_2.length:Int)=1 then(if 0<(l0_2.length:Int) then((impl_in.f (rd l0_2 0) 1 3).bind fun t186=>((impl_in.f a0_0 1 7).bind fun t187=>(if t187=true then((impl_isTrip.f a0_1).bind fun t188=>(if t188=true then(some t186) else(some false))) else(some false)))) else(none)) else((impl_in.f a0_0 1 7).bind fun t189=>(if t189=true then((impl_isTrip.f a0_1).bind fun t190=>(if t190=true then(some false) else(some false))) else(some false)))) else(if a0_0=4 then((impl_wantedOk.f l0_2).bind fun t191=>((impl_in.f a0_0 1 7).bind fun t192=>(if t192=true then((impl_isTrip.f a0_1).bind fun t193=>(if t193=true then(some t191) else(some false))) else(some false)))) else((impl_in.f a0_0 1 7).bind fun t194=>(if t194=true then((impl_isTrip.f a0_1).bind fun t195=>(if t195=true then(some ((l0_2.length:Int) == 0)) else(some false))) else(some false))))
set_option maxHeartbeats 8000000 in
set_option maxRecDepth 100000 in
theorem impl_RecOk.calls (a0_0:Int) (a0_1:Int) (A0_2:Option Addr) (c0_2:Nat) (l0_2:List Int) (r:Bool) (w:World) (hr0_2:Kd.C (Kd.int .i64) w A0_2 l0_2.length l0_2) (hc0_2:l0_2.length≤c0_2) (h:impl_RecOk.f a0_0 a0_1 l0_2=some r) :
  Calls Tryd.prog 25 #[.agg #[.int .i64 a0_0,.int .i64 a0_1,.slice A0_2 l0_2.length c0_2]] w fun e w'=>e=.returned (.bool r)∧Below w.heap.size w w':=by
 have hu25:=Tryd.underlying25;have HR0_2:=qaj.mk hr0_2;have HC0_2:=qaj.mk hc0_2;clear hr0_2 hc0_2;have HB:=qaj.mk (Below.refl w.heap.size w)
 have H:(if a0_0=1 then(if(l0_2.length:Int)=1 then(if 0<(l0_2.length:Int) then((impl_in.f (rd l0_2 0) 1 3).bind fun t186=>((impl_in.f a0_0 1 7).bind fun t187=>(if t187=true then((impl_isTrip.f a0_1).bind fun t188=>(if t188=true then(some t186) else(some false))) else(some false)))) else(none)) else((impl_in.f a0_0 1 7).bind fun t189=>(if t189=true then((impl_isTrip.f a0_1).bind fun t190=>(if t190=true then(some false) else(some false))) else(some false)))) else(if a0_0=4 then((impl_wantedOk.f l0_2).bind fun t191=>((impl_in.f a0_0 1 7).bind fun t192=>(if t192=true then((impl_isTrip.f a0_1).bind fun t193=>(if t193=true then(some t191) else(some false))) else(some false)))) else((impl_in.f a0_0 1 7).bind fun t194=>(if t194=true then((impl_isTrip.f a0_1).bind fun t195=>(if t195=true then(some ((l0_2.length:Int) == 0)) else(some false))) else(some false)))))=some r:=h
 clear h;by_cases c2:a0_0=1
 ·rw[if_pos c2] at H;have c2b0:(a0_0 == 1)=true:=beq_iff_eq.mpr c2;have c2b1:(a0_0 != 1)=false:=bne_eq_false_iff_eq.mpr c2;clear c2;by_cases c3:(l0_2.length:Int)=1
  ·rw[if_pos c3] at H;have c3b0:((l0_2.length:Int) == 1)=true:=beq_iff_eq.mpr c3;have c3b1:((l0_2.length:Int) != 1)=false:=bne_eq_false_iff_eq.mpr c3;clear c3;by_cases c4:0<(l0_2.length:Int)
   ·rw[if_pos c4] at H;have c4b0:decide (0<(l0_2.length:Int))=true:=decide_eq_true c4;have c4b1:decide (0<l0_2.length)=true:=decide_eq_true (by omega);clear c4;replace H:=Option.bind_eq_some_iff.mp H;obtain⟨t186,A50,H⟩:=H;replace H:((impl_in.f a0_0 1 7).bind fun t187=>(if t187=true then((impl_isTrip.f a0_1).bind fun t188=>(if t188=true then(some t186) else(some false))) else(some false)))=some r:=H;have A5:=qaj.mk A50;clear A50;replace H:=Option.bind_eq_some_iff.mp H;obtain⟨t187,A60,H⟩:=H;replace H:(if t187=true then((impl_isTrip.f a0_1).bind fun t188=>(if t188=true then(some t186) else(some false))) else(some false))=some r:=H;have A6:=qaj.mk A60;clear A60;by_cases c7:t187=true
    ·subst c7
     have H1:((impl_isTrip.f a0_1).bind fun t188=>(if t188=true then(some t186) else(some false)))=some r:=by rw[if_pos rfl] at H;exact H
     clear H;have H:=H1;clear H1;replace H:=Option.bind_eq_some_iff.mp H;obtain⟨t188,A80,H⟩:=H;replace H:(if t188=true then(some t186) else(some false))=some r:=H;have A8:=qaj.mk A80;clear A80;by_cases c9:t188=true
     ·subst c9
      have H1:(some t186)=some r:=by rw[if_pos rfl] at H;exact H
      clear H;have H:=H1;clear H1;obtain rfl:=Option.some.inj H;go_enter Tryd.func25,Tryd.ntmps25
      go_wp2_with(first|((with_reducible refine qai (N:=1) rfl ?_);refine zX (N:=1) (cs:=#[.int .i64 a0_0,.int .i64 a0_1,.slice A0_2 l0_2.length c0_2]) (t:=25) ?_;intro gb184 hg w10 hbox hb;have BK184:=qaj.mk hbox;have GW184:=zH (w:=w) hg (za2 HB);have GE184:=GW184;replace HB:=qaj.mk (qaa (za2 HB) hb);clear hb hbox hg;obtain⟨hcz11_0,hcz11_1,hcz11_2,hfz11_0,hfz11_1,hfz11_2⟩:=zC3 BK184;have p185:0≤(0:Int):=(by omega);have q185:0<(l0_2.length:Int):=of_decide_eq_true (za13);obtain⟨ad185,e185,hx185_0⟩:=Kd.at_int HR0_2.out 0 p185 q185;cases e185;have qi185:(0<l0_2.length)=True:=eq_true (by omega);(try rw[show((0:Int)).toNat=0 from rfl] at hx185_0);(try rw[Addr.add_zero'] at hx185_0);replace hx185_0:=(HB.out.cell (World.block_lt_of_cell? w _ hx185_0)).trans hx185_0;replace p185:=eq_true p185;replace q185:=eq_true q185)|(go_at_call 54;(with_reducible refine(impl_in.calls (rd l0_2 0) 1 3 t186 _ A5.out).mono ?_);rintro e w' ⟨rfl,⟨nd,rfl⟩⟩)|((with_reducible refine qae (f:=54) rfl ?_);refine zF (some 30) Tryd.func54 #[.int .i64 a0_0,.int .i64 1,.int .i64 7] ?_;(with_reducible refine(impl_in.calls a0_0 1 7 true _ A6.out).mono ?_);rintro e w' ⟨rfl,⟨nd,rfl⟩⟩;refine⟨_,rfl,?_⟩)|(go_at_call 56;(with_reducible refine(impl_isTrip.calls a0_1 true _ A8.out).mono ?_);rintro e w' ⟨rfl,⟨nd,rfl⟩⟩))
      go_ret;exact⟨za10,za0 HB GE184⟩
     ·replace c9:=Bool.eq_false_iff.mpr c9;subst c9
      have H1:(some false)=some r:=by rw[if_neg (show ¬(false=true) by decide)] at H;exact H
      clear H;have H:=H1;clear H1;obtain rfl:=Option.some.inj H;go_enter Tryd.func25,Tryd.ntmps25
      go_wp2_with(first|((with_reducible refine qai (N:=1) rfl ?_);refine zX (N:=1) (cs:=#[.int .i64 a0_0,.int .i64 a0_1,.slice A0_2 l0_2.length c0_2]) (t:=25) ?_;intro gb184 hg w12 hbox hb;have BK184:=qaj.mk hbox;have GW184:=zH (w:=w) hg (za2 HB);have GE184:=GW184;replace HB:=qaj.mk (qaa (za2 HB) hb);clear hb hbox hg;obtain⟨hcz13_0,hcz13_1,hcz13_2,hfz13_0,hfz13_1,hfz13_2⟩:=zC3 BK184;have p185:0≤(0:Int):=(by omega);have q185:0<(l0_2.length:Int):=of_decide_eq_true (za13);obtain⟨ad185,e185,hx185_0⟩:=Kd.at_int HR0_2.out 0 p185 q185;cases e185;have qi185:(0<l0_2.length)=True:=eq_true (by omega);(try rw[show((0:Int)).toNat=0 from rfl] at hx185_0);(try rw[Addr.add_zero'] at hx185_0);replace hx185_0:=(HB.out.cell (World.block_lt_of_cell? w _ hx185_0)).trans hx185_0;replace p185:=eq_true p185;replace q185:=eq_true q185)|(go_at_call 54;(with_reducible refine(impl_in.calls (rd l0_2 0) 1 3 t186 _ A5.out).mono ?_);rintro e w' ⟨rfl,⟨nd,rfl⟩⟩)|((with_reducible refine qae (f:=54) rfl ?_);refine zF (some 30) Tryd.func54 #[.int .i64 a0_0,.int .i64 1,.int .i64 7] ?_;(with_reducible refine(impl_in.calls a0_0 1 7 true _ A6.out).mono ?_);rintro e w' ⟨rfl,⟨nd,rfl⟩⟩;refine⟨_,rfl,?_⟩)|(go_at_call 56;(with_reducible refine(impl_isTrip.calls a0_1 false _ A8.out).mono ?_);rintro e w' ⟨rfl,⟨nd,rfl⟩⟩))
      go_ret;exact⟨za10,za0 HB GE184⟩
    ·replace c7:=Bool.eq_false_iff.mpr c7;subst c7
     have H1:(some false)=some r:=by rw[if_neg (show ¬(false=true) by decide)] at H;exact H
     clear H;have H:=H1;clear H1;obtain rfl:=Option.some.inj H;go_enter Tryd.func25,Tryd.ntmps25
     go_wp2_with(first|((with_reducible refine qai (N:=1) rfl ?_);refine zX (N:=1) (cs:=#[.int .i64 a0_0,.int .i64 a0_1,.slice A0_2 l0_2.length c0_2]) (t:=25) ?_;intro gb184 hg w14 hbox hb;have BK184:=qaj.mk hbox;have GW184:=zH (w:=w) hg (za2 HB);have GE184:=GW184;replace HB:=qaj.mk (qaa (za2 HB) hb);clear hb hbox hg;obtain⟨hcz15_0,hcz15_1,hcz15_2,hfz15_0,hfz15_1,hfz15_2⟩:=zC3 BK184;have p185:0≤(0:Int):=(by omega);have q185:0<(l0_2.length:Int):=of_decide_eq_true (za13);obtain⟨ad185,e185,hx185_0⟩:=Kd.at_int HR0_2.out 0 p185 q185;cases e185;have qi185:(0<l0_2.length)=True:=eq_true (by omega);(try rw[show((0:Int)).toNat=0 from rfl] at hx185_0);(try rw[Addr.add_zero'] at hx185_0);replace hx185_0:=(HB.out.cell (World.block_lt_of_cell? w _ hx185_0)).trans hx185_0;replace p185:=eq_true p185;replace q185:=eq_true q185)|(go_at_call 54;(with_reducible refine(impl_in.calls (rd l0_2 0) 1 3 t186 _ A5.out).mono ?_);rintro e w' ⟨rfl,⟨nd,rfl⟩⟩)|((with_reducible refine qae (f:=54) rfl ?_);refine zF (some 30) Tryd.func54 #[.int .i64 a0_0,.int .i64 1,.int .i64 7] ?_;(with_reducible refine(impl_in.calls a0_0 1 7 false _ A6.out).mono ?_);rintro e w' ⟨rfl,⟨nd,rfl⟩⟩;refine⟨_,rfl,?_⟩))
     go_ret;exact⟨za10,za0 HB GE184⟩
   ·rw[if_neg c4] at H;exact absurd H (by simp)
  ·rw[if_neg c3] at H;have c3b0:((l0_2.length:Int) == 1)=false:=beq_eq_false_iff_ne.mpr c3;have c3b1:((l0_2.length:Int) != 1)=true:=bne_iff_ne.mpr c3;replace H:=Option.bind_eq_some_iff.mp H;obtain⟨t189,A160,H⟩:=H;replace H:(if t189=true then((impl_isTrip.f a0_1).bind fun t190=>(if t190=true then(some false) else(some false))) else(some false))=some r:=H;have A16:=qaj.mk A160;clear A160;by_cases c17:t189=true
   ·subst c17
    have H1:((impl_isTrip.f a0_1).bind fun t190=>(if t190=true then(some false) else(some false)))=some r:=by rw[if_pos rfl] at H;exact H
    clear H;have H:=H1;clear H1;replace H:=Option.bind_eq_some_iff.mp H;obtain⟨t190,A180,H⟩:=H;replace H:(if t190=true then(some false) else(some false))=some r:=H;have A18:=qaj.mk A180;clear A180;by_cases c19:t190=true
    ·subst c19
     have H1:(some false)=some r:=by rw[if_pos rfl] at H;exact H
     clear H;have H:=H1;clear H1;obtain rfl:=Option.some.inj H;go_enter Tryd.func25,Tryd.ntmps25
     go_wp2_with(first|((with_reducible refine qai (N:=1) rfl ?_);refine zX (N:=1) (cs:=#[.int .i64 a0_0,.int .i64 a0_1,.slice A0_2 l0_2.length c0_2]) (t:=25) ?_;intro gb184 hg w20 hbox hb;have BK184:=qaj.mk hbox;have GW184:=zH (w:=w) hg (za2 HB);have GE184:=GW184;replace HB:=qaj.mk (qaa (za2 HB) hb);clear hb hbox hg;obtain⟨hcz21_0,hcz21_1,hcz21_2,hfz21_0,hfz21_1,hfz21_2⟩:=zC3 BK184)|((with_reducible refine qae (f:=54) rfl ?_);refine zF (some 30) Tryd.func54 #[.int .i64 a0_0,.int .i64 1,.int .i64 7] ?_;(with_reducible refine(impl_in.calls a0_0 1 7 true _ A16.out).mono ?_);rintro e w' ⟨rfl,⟨nd,rfl⟩⟩;refine⟨_,rfl,?_⟩)|(go_at_call 56;(with_reducible refine(impl_isTrip.calls a0_1 true _ A18.out).mono ?_);rintro e w' ⟨rfl,⟨nd,rfl⟩⟩))
     go_ret;exact⟨za10,za0 HB GE184⟩
    ·replace c19:=Bool.eq_false_iff.mpr c19;subst c19
     have H1:(some false)=some r:=by rw[if_neg (show ¬(false=true) by decide)] at H;exact H
     clear H;have H:=H1;clear H1;obtain rfl:=Option.some.inj H;go_enter Tryd.func25,Tryd.ntmps25
     go_wp2_with(first|((with_reducible refine qai (N:=1) rfl ?_);refine zX (N:=1) (cs:=#[.int .i64 a0_0,.int .i64 a0_1,.slice A0_2 l0_2.length c0_2]) (t:=25) ?_;intro gb184 hg w22 hbox hb;have BK184:=qaj.mk hbox;have GW184:=zH (w:=w) hg (za2 HB);have GE184:=GW184;replace HB:=qaj.mk (qaa (za2 HB) hb);clear hb hbox hg;obtain⟨hcz23_0,hcz23_1,hcz23_2,hfz23_0,hfz23_1,hfz23_2⟩:=zC3 BK184)|((with_reducible refine qae (f:=54) rfl ?_);refine zF (some 30) Tryd.func54 #[.int .i64 a0_0,.int .i64 1,.int .i64 7] ?_;(with_reducible refine(impl_in.calls a0_0 1 7 true _ A16.out).mono ?_);rintro e w' ⟨rfl,⟨nd,rfl⟩⟩;refine⟨_,rfl,?_⟩)|(go_at_call 56;(with_reducible refine(impl_isTrip.calls a0_1 false _ A18.out).mono ?_);rintro e w' ⟨rfl,⟨nd,rfl⟩⟩))
     go_ret;exact⟨za10,za0 HB GE184⟩
   ·replace c17:=Bool.eq_false_iff.mpr c17;subst c17
    have H1:(some false)=some r:=by rw[if_neg (show ¬(false=true) by decide)] at H;exact H
    clear H;have H:=H1;clear H1;obtain rfl:=Option.some.inj H;go_enter Tryd.func25,Tryd.ntmps25
    go_wp2_with(first|((with_reducible refine qai (N:=1) rfl ?_);refine zX (N:=1) (cs:=#[.int .i64 a0_0,.int .i64 a0_1,.slice A0_2 l0_2.length c0_2]) (t:=25) ?_;intro gb184 hg w24 hbox hb;have BK184:=qaj.mk hbox;have GW184:=zH (w:=w) hg (za2 HB);have GE184:=GW184;replace HB:=qaj.mk (qaa (za2 HB) hb);clear hb hbox hg;obtain⟨hcz25_0,hcz25_1,hcz25_2,hfz25_0,hfz25_1,hfz25_2⟩:=zC3 BK184)|((with_reducible refine qae (f:=54) rfl ?_);refine zF (some 30) Tryd.func54 #[.int .i64 a0_0,.int .i64 1,.int .i64 7] ?_;(with_reducible refine(impl_in.calls a0_0 1 7 false _ A16.out).mono ?_);rintro e w' ⟨rfl,⟨nd,rfl⟩⟩;refine⟨_,rfl,?_⟩))
    go_ret;exact⟨za10,za0 HB GE184⟩
 ·rw[if_neg c2] at H;have c2b0:(a0_0 == 1)=false:=beq_eq_false_iff_ne.mpr c2;have c2b1:(a0_0 != 1)=true:=bne_iff_ne.mpr c2;by_cases c26:a0_0=4
  ·rw[if_pos c26] at H;have c26b0:(a0_0 == 4)=true:=beq_iff_eq.mpr c26;have c26b1:(a0_0 != 4)=false:=bne_eq_false_iff_eq.mpr c26;clear c26;replace H:=Option.bind_eq_some_iff.mp H;obtain⟨t191,A270,H⟩:=H;replace H:((impl_in.f a0_0 1 7).bind fun t192=>(if t192=true then((impl_isTrip.f a0_1).bind fun t193=>(if t193=true then(some t191) else(some false))) else(some false)))=some r:=H;have A27:=qaj.mk A270;clear A270;replace H:=Option.bind_eq_some_iff.mp H;obtain⟨t192,A280,H⟩:=H;replace H:(if t192=true then((impl_isTrip.f a0_1).bind fun t193=>(if t193=true then(some t191) else(some false))) else(some false))=some r:=H;have A28:=qaj.mk A280;clear A280;by_cases c29:t192=true
   ·subst c29
    have H1:((impl_isTrip.f a0_1).bind fun t193=>(if t193=true then(some t191) else(some false)))=some r:=by rw[if_pos rfl] at H;exact H
    clear H;have H:=H1;clear H1;replace H:=Option.bind_eq_some_iff.mp H;obtain⟨t193,A300,H⟩:=H;replace H:(if t193=true then(some t191) else(some false))=some r:=H;have A30:=qaj.mk A300;clear A300;by_cases c31:t193=true
    ·subst c31
     have H1:(some t191)=some r:=by rw[if_pos rfl] at H;exact H
     clear H;have H:=H1;clear H1;obtain rfl:=Option.some.inj H;go_enter Tryd.func25,Tryd.ntmps25
     go_wp2_with(first|((with_reducible refine qai (N:=1) rfl ?_);refine zX (N:=1) (cs:=#[.int .i64 a0_0,.int .i64 a0_1,.slice A0_2 l0_2.length c0_2]) (t:=25) ?_;intro gb184 hg w32 hbox hb;have BK184:=qaj.mk hbox;have GW184:=zH (w:=w) hg (za2 HB);have GE184:=GW184;replace HB:=qaj.mk (qaa (za2 HB) hb);clear hb hbox hg;obtain⟨hcz33_0,hcz33_1,hcz33_2,hfz33_0,hfz33_1,hfz33_2⟩:=zC3 BK184)|((with_reducible refine qae (f:=55) rfl ?_);refine zF (some 27) Tryd.func55 #[.slice A0_2 l0_2.length c0_2] ?_;(with_reducible refine(impl_wantedOk.calls _ _ l0_2 t191 _ ?side1 ?side2 A27.out).mono ?_);(case side1=>exact zR HR0_2 HB);(case side2=>exact HC0_2.out);rintro e w' ⟨rfl,⟨nd,rfl⟩⟩;refine⟨_,rfl,?_⟩)|((with_reducible refine qae (f:=54) rfl ?_);refine zF (some 30) Tryd.func54 #[.int .i64 a0_0,.int .i64 1,.int .i64 7] ?_;(with_reducible refine(impl_in.calls a0_0 1 7 true _ A28.out).mono ?_);rintro e w' ⟨rfl,⟨nd,rfl⟩⟩;refine⟨_,rfl,?_⟩)|(go_at_call 56;(with_reducible refine(impl_isTrip.calls a0_1 true _ A30.out).mono ?_);rintro e w' ⟨rfl,⟨nd,rfl⟩⟩))
     go_ret;exact⟨za10,za0 HB GE184⟩
    ·replace c31:=Bool.eq_false_iff.mpr c31;subst c31
     have H1:(some false)=some r:=by rw[if_neg (show ¬(false=true) by decide)] at H;exact H
     clear H;have H:=H1;clear H1;obtain rfl:=Option.some.inj H;go_enter Tryd.func25,Tryd.ntmps25
     go_wp2_with(first|((with_reducible refine qai (N:=1) rfl ?_);refine zX (N:=1) (cs:=#[.int .i64 a0_0,.int .i64 a0_1,.slice A0_2 l0_2.length c0_2]) (t:=25) ?_;intro gb184 hg w34 hbox hb;have BK184:=qaj.mk hbox;have GW184:=zH (w:=w) hg (za2 HB);have GE184:=GW184;replace HB:=qaj.mk (qaa (za2 HB) hb);clear hb hbox hg;obtain⟨hcz35_0,hcz35_1,hcz35_2,hfz35_0,hfz35_1,hfz35_2⟩:=zC3 BK184)|((with_reducible refine qae (f:=55) rfl ?_);refine zF (some 27) Tryd.func55 #[.slice A0_2 l0_2.length c0_2] ?_;(with_reducible refine(impl_wantedOk.calls _ _ l0_2 t191 _ ?side1 ?side2 A27.out).mono ?_);(case side1=>exact zR HR0_2 HB);(case side2=>exact HC0_2.out);rintro e w' ⟨rfl,⟨nd,rfl⟩⟩;refine⟨_,rfl,?_⟩)|((with_reducible refine qae (f:=54) rfl ?_);refine zF (some 30) Tryd.func54 #[.int .i64 a0_0,.int .i64 1,.int .i64 7] ?_;(with_reducible refine(impl_in.calls a0_0 1 7 true _ A28.out).mono ?_);rintro e w' ⟨rfl,⟨nd,rfl⟩⟩;refine⟨_,rfl,?_⟩)|(go_at_call 56;(with_reducible refine(impl_isTrip.calls a0_1 false _ A30.out).mono ?_);rintro e w' ⟨rfl,⟨nd,rfl⟩⟩))
     go_ret;exact⟨za10,za0 HB GE184⟩
   ·replace c29:=Bool.eq_false_iff.mpr c29;subst c29
    have H1:(some false)=some r:=by rw[if_neg (show ¬(false=true) by decide)] at H;exact H
    clear H;have H:=H1;clear H1;obtain rfl:=Option.some.inj H;go_enter Tryd.func25,Tryd.ntmps25
    go_wp2_with(first|((with_reducible refine qai (N:=1) rfl ?_);refine zX (N:=1) (cs:=#[.int .i64 a0_0,.int .i64 a0_1,.slice A0_2 l0_2.length c0_2]) (t:=25) ?_;intro gb184 hg w36 hbox hb;have BK184:=qaj.mk hbox;have GW184:=zH (w:=w) hg (za2 HB);have GE184:=GW184;replace HB:=qaj.mk (qaa (za2 HB) hb);clear hb hbox hg;obtain⟨hcz37_0,hcz37_1,hcz37_2,hfz37_0,hfz37_1,hfz37_2⟩:=zC3 BK184)|((with_reducible refine qae (f:=55) rfl ?_);refine zF (some 27) Tryd.func55 #[.slice A0_2 l0_2.length c0_2] ?_;(with_reducible refine(impl_wantedOk.calls _ _ l0_2 t191 _ ?side1 ?side2 A27.out).mono ?_);(case side1=>exact zR HR0_2 HB);(case side2=>exact HC0_2.out);rintro e w' ⟨rfl,⟨nd,rfl⟩⟩;refine⟨_,rfl,?_⟩)|((with_reducible refine qae (f:=54) rfl ?_);refine zF (some 30) Tryd.func54 #[.int .i64 a0_0,.int .i64 1,.int .i64 7] ?_;(with_reducible refine(impl_in.calls a0_0 1 7 false _ A28.out).mono ?_);rintro e w' ⟨rfl,⟨nd,rfl⟩⟩;refine⟨_,rfl,?_⟩))
    go_ret;exact⟨za10,za0 HB GE184⟩
  ·rw[if_neg c26] at H;have c26b0:(a0_0 == 4)=false:=beq_eq_false_iff_ne.mpr c26;have c26b1:(a0_0 != 4)=true:=bne_iff_ne.mpr c26;replace H:=Option.bind_eq_some_iff.mp H;obtain⟨t194,A380,H⟩:=H;replace H:(if t194=true then((impl_isTrip.f a0_1).bind fun t195=>(if t195=true then(some ((l0_2.length:Int) == 0)) else(some false))) else(some false))=some r:=H;have A38:=qaj.mk A380;clear A380;by_cases c39:t194=true
   ·subst c39
    have H1:((impl_isTrip.f a0_1).bind fun t195=>(if t195=true then(some ((l0_2.length:Int) == 0)) else(some false)))=some r:=by rw[if_pos rfl] at H;exact H
    clear H;have H:=H1;clear H1;replace H:=Option.bind_eq_some_iff.mp H;obtain⟨t195,A400,H⟩:=H;replace H:(if t195=true then(some ((l0_2.length:Int) == 0)) else(some false))=some r:=H;have A40:=qaj.mk A400;clear A400;by_cases c41:t195=true
    ·subst c41
     have H1:(some ((l0_2.length:Int) == 0))=some r:=by rw[if_pos rfl] at H;exact H
     clear H;have H:=H1;clear H1;obtain rfl:=Option.some.inj H;go_enter Tryd.func25,Tryd.ntmps25
     go_wp2_with(first|((with_reducible refine qai (N:=1) rfl ?_);refine zX (N:=1) (cs:=#[.int .i64 a0_0,.int .i64 a0_1,.slice A0_2 l0_2.length c0_2]) (t:=25) ?_;intro gb184 hg w42 hbox hb;have BK184:=qaj.mk hbox;have GW184:=zH (w:=w) hg (za2 HB);have GE184:=GW184;replace HB:=qaj.mk (qaa (za2 HB) hb);clear hb hbox hg;obtain⟨hcz43_0,hcz43_1,hcz43_2,hfz43_0,hfz43_1,hfz43_2⟩:=zC3 BK184)|((with_reducible refine qae (f:=54) rfl ?_);refine zF (some 30) Tryd.func54 #[.int .i64 a0_0,.int .i64 1,.int .i64 7] ?_;(with_reducible refine(impl_in.calls a0_0 1 7 true _ A38.out).mono ?_);rintro e w' ⟨rfl,⟨nd,rfl⟩⟩;refine⟨_,rfl,?_⟩)|(go_at_call 56;(with_reducible refine(impl_isTrip.calls a0_1 true _ A40.out).mono ?_);rintro e w' ⟨rfl,⟨nd,rfl⟩⟩))
     go_ret;exact⟨za10,za0 HB GE184⟩
    ·replace c41:=Bool.eq_false_iff.mpr c41;subst c41
     have H1:(some false)=some r:=by rw[if_neg (show ¬(false=true) by decide)] at H;exact H
     clear H;have H:=H1;clear H1;obtain rfl:=Option.some.inj H;go_enter Tryd.func25,Tryd.ntmps25
     go_wp2_with(first|((with_reducible refine qai (N:=1) rfl ?_);refine zX (N:=1) (cs:=#[.int .i64 a0_0,.int .i64 a0_1,.slice A0_2 l0_2.length c0_2]) (t:=25) ?_;intro gb184 hg w44 hbox hb;have BK184:=qaj.mk hbox;have GW184:=zH (w:=w) hg (za2 HB);have GE184:=GW184;replace HB:=qaj.mk (qaa (za2 HB) hb);clear hb hbox hg;obtain⟨hcz45_0,hcz45_1,hcz45_2,hfz45_0,hfz45_1,hfz45_2⟩:=zC3 BK184)|((with_reducible refine qae (f:=54) rfl ?_);refine zF (some 30) Tryd.func54 #[.int .i64 a0_0,.int .i64 1,.int .i64 7] ?_;(with_reducible refine(impl_in.calls a0_0 1 7 true _ A38.out).mono ?_);rintro e w' ⟨rfl,⟨nd,rfl⟩⟩;refine⟨_,rfl,?_⟩)|(go_at_call 56;(with_reducible refine(impl_isTrip.calls a0_1 false _ A40.out).mono ?_);rintro e w' ⟨rfl,⟨nd,rfl⟩⟩))
     go_ret;exact⟨za10,za0 HB GE184⟩
   ·replace c39:=Bool.eq_false_iff.mpr c39;subst c39
    have H1:(some false)=some r:=by rw[if_neg (show ¬(false=true) by decide)] at H;exact H
    clear H;have H:=H1;clear H1;obtain rfl:=Option.some.inj H;go_enter Tryd.func25,Tryd.ntmps25
    go_wp2_with(first|((with_reducible refine qai (N:=1) rfl ?_);refine zX (N:=1) (cs:=#[.int .i64 a0_0,.int .i64 a0_1,.slice A0_2 l0_2.length c0_2]) (t:=25) ?_;intro gb184 hg w46 hbox hb;have BK184:=qaj.mk hbox;have GW184:=zH (w:=w) hg (za2 HB);have GE184:=GW184;replace HB:=qaj.mk (qaa (za2 HB) hb);clear hb hbox hg;obtain⟨hcz47_0,hcz47_1,hcz47_2,hfz47_0,hfz47_1,hfz47_2⟩:=zC3 BK184)|((with_reducible refine qae (f:=54) rfl ?_);refine zF (some 30) Tryd.func54 #[.int .i64 a0_0,.int .i64 1,.int .i64 7] ?_;(with_reducible refine(impl_in.calls a0_0 1 7 false _ A38.out).mono ?_);rintro e w' ⟨rfl,⟨nd,rfl⟩⟩;refine⟨_,rfl,?_⟩))
    go_ret;exact⟨za10,za0 HB GE184⟩
def impl_recWords.f :Option (List ByteArray):=some (([(⟨#[]⟩:ByteArray),(⟨#[104,111,108,100]⟩:ByteArray),(⟨#[99,108,111,115,101]⟩:ByteArray),(⟨#[117,110,100,111]⟩:ByteArray),(⟨#[98,101,103,105,110]⟩:ByteArray),(⟨#[121,101,115]⟩:ByteArray),(⟨#[110,111]⟩:ByteArray),(⟨#[101,110,100]⟩:ByteArray)]:List ByteArray))
set_option maxHeartbeats 8000000 in
set_option maxRecDepth 100000 in
theorem impl_recWords.calls  (r:List ByteArray) (w:World) (h:impl_recWords.f =some r) :
  Calls Tryd.prog 40 #[] w fun e w'=>∃v0_:Value,e=.returned (v0_)∧Kd.R Kd.string 9 w' w.heap.size (fun _=>True) v0_ r∧Below w.heap.size w w':=by
 have HB:=qaj.mk (Below.refl w.heap.size w);have H:(some (([(⟨#[]⟩:ByteArray),(⟨#[104,111,108,100]⟩:ByteArray),(⟨#[99,108,111,115,101]⟩:ByteArray),(⟨#[117,110,100,111]⟩:ByteArray),(⟨#[98,101,103,105,110]⟩:ByteArray),(⟨#[121,101,115]⟩:ByteArray),(⟨#[110,111]⟩:ByteArray),(⟨#[101,110,100]⟩:ByteArray)]:List ByteArray)))=some r:=h;clear h;obtain⟨y196,hy196⟩:∃y_:List ByteArray,y_=(([(⟨#[]⟩:ByteArray),(⟨#[104,111,108,100]⟩:ByteArray),(⟨#[99,108,111,115,101]⟩:ByteArray),(⟨#[117,110,100,111]⟩:ByteArray),(⟨#[98,101,103,105,110]⟩:ByteArray),(⟨#[121,101,115]⟩:ByteArray),(⟨#[110,111]⟩:ByteArray),(⟨#[101,110,100]⟩:ByteArray)]:List ByteArray)):=⟨_,rfl⟩
 replace H:(some y196)=some r:=by first|(rw[hy196];with_reducible exact H)|(have H2_:=(Option.bind_some _ _).symm.trans H;rw[hy196];with_reducible exact H2_)|(have H2_:=(Option.bind_some _ _).symm.trans H;with_reducible exact H2_)|with_reducible exact H|(rw[hy196];exact H)|exact H
 have Ny196:=qaj.mk hy196;clear hy196;obtain rfl:=Option.some.inj H;go_enter Tryd.func40,Tryd.ntmps40
 go_wp2_with(first|((with_reducible refine qai (N:=1) rfl ?_);refine Kd.R_lit Kd.string _ 9 (by rfl) (N:=1) (by rfl) (xs:=([(⟨#[]⟩:ByteArray),(⟨#[104,111,108,100]⟩:ByteArray),(⟨#[99,108,111,115,101]⟩:ByteArray),(⟨#[117,110,100,111]⟩:ByteArray),(⟨#[98,101,103,105,110]⟩:ByteArray),(⟨#[121,101,115]⟩:ByteArray),(⟨#[110,111]⟩:ByteArray),(⟨#[101,110,100]⟩:ByteArray)]:List ByteArray)) (inner:=[.string (⟨#[]⟩:ByteArray),.string (⟨#[104,111,108,100]⟩:ByteArray),.string (⟨#[99,108,111,115,101]⟩:ByteArray),.string (⟨#[117,110,100,111]⟩:ByteArray),.string (⟨#[98,101,103,105,110]⟩:ByteArray),.string (⟨#[121,101,115]⟩:ByteArray),.string (⟨#[110,111]⟩:ByteArray),.string (⟨#[101,110,100]⟩:ByteArray)]) (ok:=fun _=>True) (okp:=fun _=>True) (by first|(go_simp;done)|(go_simp;rfl)) ?hp (fun _ hk=>hk) trivial (Below.refl _ _) (Nat.le_refl _) (by simp) ?_;(case hp=>exact(Reps.one (show Kd.M Kd.string _ _ _ (⟨#[]⟩:ByteArray) [.string (⟨#[]⟩:ByteArray)] from rfl) (Reps.one (show Kd.M Kd.string _ _ _ (⟨#[104,111,108,100]⟩:ByteArray) [.string (⟨#[104,111,108,100]⟩:ByteArray)] from rfl) (Reps.one (show Kd.M Kd.string _ _ _ (⟨#[99,108,111,115,101]⟩:ByteArray) [.string (⟨#[99,108,111,115,101]⟩:ByteArray)] from rfl) (Reps.one (show Kd.M Kd.string _ _ _ (⟨#[117,110,100,111]⟩:ByteArray) [.string (⟨#[117,110,100,111]⟩:ByteArray)] from rfl) (Reps.one (show Kd.M Kd.string _ _ _ (⟨#[98,101,103,105,110]⟩:ByteArray) [.string (⟨#[98,101,103,105,110]⟩:ByteArray)] from rfl) (Reps.one (show Kd.M Kd.string _ _ _ (⟨#[121,101,115]⟩:ByteArray) [.string (⟨#[121,101,115]⟩:ByteArray)] from rfl) (Reps.one (show Kd.M Kd.string _ _ _ (⟨#[110,111]⟩:ByteArray) [.string (⟨#[110,111]⟩:ByteArray)] from rfl) (Reps.one (show Kd.M Kd.string _ _ _ (⟨#[101,110,100]⟩:ByteArray) [.string (⟨#[101,110,100]⟩:ByteArray)] from rfl) (Reps.none _ _))))))))));intro v197 w1 ho2 hb hg_ hnew_;clear hg_ hnew_;(first|rw[←Ny196.out] at ho2|(simp only[Int.reduceToNat] at ho2;rw[←Ny196.out] at ho2));have HO198:=qaj.mk (Kd.R_lower ho2 (qam (za2 HB)));replace HB:=qaj.mk (qaa (za2 HB) hb);clear hb ho2))
 go_ret;exact⟨_,za10,za3 HO198,za2 HB⟩
end Go.Proofs.YtbcepmkifomifaaDoor.Print
