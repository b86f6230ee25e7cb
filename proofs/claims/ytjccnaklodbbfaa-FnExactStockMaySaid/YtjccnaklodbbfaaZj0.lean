-- Written by squeeze.py, a program of this session, out of what print.sh and myprint.py had printed: cut to what is used, narrowed. Not trusted, Lean checks it.
import Derived.Test.YtjccnaklodbbfaaZK
import Derived.Test.YtjccnaklodbbfaaZb0
namespace Go.Proofs.Ytjccnaklodbbfaa.Print
open Go.RowKit Go.Proofs.YtjccnaklodbbfaaW.PrintWords Go.Proofs.YtjccnaklodbbfaaW.PrintLast Go.Proofs.YtjccnaklodbbfaaW.PrintMore
attribute [local go_sem] max2_int min2_int max_two min_two max_three min_three max_four min_four
set_option linter.unusedVariables false
set_option linter.unusedSimpArgs false
def impl_wantedOk_1.f (a0:Int):Option (Bool):=(impl_in.f a0 0 3).bind fun t209=>(some (!t209))
set_option maxHeartbeats 8000000 in
set_option maxRecDepth 100000 in
theorem impl_wantedOk_1.calls (a0:Int) (r:Bool) (w:World) (h:impl_wantedOk_1.f a0=some r) :
  Calls Try.prog 115 #[.int .i64 a0] w fun e w'=>e=.returned (.bool r)∧Drawn0 w w':=by
 have H:((impl_in.f a0 0 3).bind fun t209=>(some (!t209)))=some r:=h
 clear h
 replace H:=Option.bind_eq_some_iff.mp H
 obtain⟨t209,A20,H⟩:=H
 replace H:(some (!t209))=some r:=H
 have A2:=qal.mk A20
 clear A20
 obtain rfl:=Option.some.inj H
 go_enter Try.func115,Try.ntmps115
 go_wp2_with(first|((with_reducible refine qai (f:=60) rfl ?_);refine qau (some 4) rfl rfl Try.func60 (by kernel_rfl) rfl #[.int .i64 a0,.int .i64 0,.int .i64 3] rfl (by(try simp only[List.map_toArray,List.map_cons,List.map_nil]);first|done|rfl|(simp only[List.length_drop,List.length_take];rfl)) ?_;(with_reducible refine(impl_in.calls a0 0 3 t209 _ A2.out).mono ?_);rintro e w' ⟨rfl,⟨nd,rfl⟩⟩;refine⟨_,rfl,?_⟩))
 go_ret
 exact⟨za22,za44⟩
def impl_wantedOk_2.f (a0:Int):Option (Bool):=some (a0 != 0)
set_option maxHeartbeats 8000000 in
set_option maxRecDepth 100000 in
theorem impl_wantedOk_2.calls (a0:Int) (r:Bool) (w:World) (h:impl_wantedOk_2.f a0=some r) :
  Calls Try.prog 116 #[.int .i64 a0] w fun e w'=>e=.returned (.bool r)∧Drawn0 w w':=by
 have H:(some (a0 != 0))=some r:=h
 clear h
 obtain rfl:=Option.some.inj H
 go_enter Try.func116,Try.ntmps116
 go_wp2
 go_ret
 exact⟨za22,za44⟩
theorem drop_cons_rd {l:List Int} {k:Nat} (h:k<l.length):l.drop k=rd l (k:Int) :: l.drop (k+1):=by
 rw[List.drop_eq_getElem_cons h]
 simp[rd,List.getD_eq_getElem?_getD,List.getElem?_eq_getElem h]
set_option maxHeartbeats 4000000 in
theorem idx_int (p:Int→Option Bool) (g:Nat) (A0:Option Addr) (c0:Nat) (l0:List Int) (r:Bool) (w:World) (hr0:Kd.C (Kd.int .i64) w A0 l0.length l0) (hc0:l0.length≤c0)
  (eg:∀args w,(callFunc g args).run Try.prog w=.ok (.enter g args) w)
  (hg:∀(W:World) (x:Int) (b:Bool),p x=some b→Calls Try.prog g #[.int .i64 x] W fun e w'=>e=.returned (.bool b)∧Drawn0 W w') (h:anyO p l0=some r) :
  Calls Try.prog 128 #[.slice A0 l0.length c0,.func (.func g) #[] #[]] w (IdxQ r w):=by
 have HR:=qal.mk hr0
 have HG:=qal.mk hg
 have HH:=qal.mk h
 clear hr0 hc0 hg h
 have hbig:l0.length≤9223372036854775807:=by
  have:=HR.out
  exact this.2.1
 go_enter Try.func128,Try.ntmps128
 go_wp2
 go_loopg [5,8] l0.length (fun gg _ s8 wr=>∃kk q:Nat,kk≤l0.length∧l0.length - kk≤gg∧s8=.int .i64 kk∧wr=w.drewN q∧qal (anyO p (l0.drop kk)=some r))
 case atStart=>exact⟨0,0,Nat.zero_le _,by omega,rfl,rfl,HH⟩
 case round=>
  obtain⟨kk,q,hkk,hg',rfl,rfl,B⟩:=hrel
  clear HH
  by_cases hlt:kk<l0.length
  ·have hltz:(kk:Int)<(l0.length:Int):=by omega
   obtain⟨ad,e0,hcell⟩:=Kd.at_int HR.out (kk:Int) (by omega) hltz
   cases e0
   rw[Int.toNat_natCast] at hcell
   have B':=B.out
   rw[drop_cons_rd hlt] at B'
   obtain⟨b,hb,hb'⟩:=anyO_cons B'
   clear B B'
   have hcall:=fun W=>HG.out W _ b hb
   have HB:=qal.mk hb
   clear hb
   rcases hb' with⟨rfl,rfl⟩|⟨rfl,hb'⟩
   ·go_wp2_with(go_at_fn g;refine(hcall _).mono ?_;rintro e w' ⟨rfl,⟨q',rfl⟩⟩)
    go_ret
    exact⟨kk,rfl,by simp,⟨⟨_,rfl⟩⟩⟩
   ·have B2:=qal.mk hb'
    clear hb'
    go_wp2_with(go_at_fn g;refine(hcall _).mono ?_;rintro e w' ⟨rfl,⟨q',rfl⟩⟩)
    go_roundg (l0.length - (kk+1))
    case measure=>omega
    case rel=>exact⟨kk+1,_,by omega,by omega,by go_num,rfl,B2⟩
  ·have hltz:¬(kk:Int)<(l0.length:Int):=by omega
   have B':=B.out
   rw[List.drop_eq_nil_of_le (by omega)] at B'
   have hr:false=r:=by injection B'
   subst hr
   clear B'
   go_wp2
   go_ret
   exact⟨-1,rfl,by decide,⟨⟨q,rfl⟩⟩⟩
set_option maxHeartbeats 4000000 in
theorem contains_int (p:Int→Option Bool) (g:Nat) (A0:Option Addr) (c0:Nat) (l0:List Int) (r:Bool) (w:World) (hr0:Kd.C (Kd.int .i64) w A0 l0.length l0) (hc0:l0.length≤c0)
  (eg:∀args w,(callFunc g args).run Try.prog w=.ok (.enter g args) w)
  (hg:∀(W:World) (x:Int) (b:Bool),p x=some b→Calls Try.prog g #[.int .i64 x] W fun e w'=>e=.returned (.bool b)∧Drawn0 W w') (h:anyO p l0=some r) :
  Calls Try.prog 117 #[.slice A0 l0.length c0,.func (.func g) #[] #[]] w fun e w'=>e=.returned (.bool r)∧Drawn0 w w':=by
 have hI:=fun W=>idx_int p g A0 c0 l0 r W
 have HR:=qal.mk hr0
 have HG:=qal.mk hg
 have HH:=qal.mk h
 have HC:=qal.mk hc0
 clear hr0 hc0 hg h
 go_enter Try.func117,Try.ntmps117
 go_wp2_with(go_at_call 128;refine(hI _ HR.out HC.out eg HG.out HH.out).mono ?_;rintro e w' ⟨i,rfl,hi,⟨q,rfl⟩⟩)
 go_ret
 exact⟨by rw[←hi];rfl,⟨⟨_,rfl⟩⟩⟩
def impl_wantedOk.f (l0:List Int):Option (Bool):=if(l0.length:Int)=3 then((anyO impl_wantedOk_1.f l0).bind fun a=>if a=true then some false else anyO impl_wantedOk_2.f l0) else some false
set_option maxHeartbeats 8000000 in
set_option maxRecDepth 100000 in
theorem impl_wantedOk.calls (A0:Option Addr) (c0:Nat) (l0:List Int) (r:Bool) (w:World) (hr0:Kd.C (Kd.int .i64) w A0 l0.length l0) (hc0:l0.length≤c0) (h:impl_wantedOk.f l0=some r) :
  Calls Try.prog 90 #[.slice A0 l0.length c0] w fun e w'=>e=.returned (.bool r)∧Drawn0 w w':=by
 have HR:=qal.mk hr0
 have HC:=qal.mk hc0
 have c1:=fun(W:World) (r':Bool) (hr:Kd.C (Kd.int .i64) W A0 l0.length l0) (h:anyO impl_wantedOk_1.f l0=some r')=>contains_int impl_wantedOk_1.f 115 A0 c0 l0 r' W hr HC.out (enters_of Try.func115 (by kernel_rfl) rfl) (fun W x b hb=>impl_wantedOk_1.calls x b W hb) h
 have c2:=fun(W:World) (r':Bool) (hr:Kd.C (Kd.int .i64) W A0 l0.length l0) (h:anyO impl_wantedOk_2.f l0=some r')=>contains_int impl_wantedOk_2.f 116 A0 c0 l0 r' W hr HC.out (enters_of Try.func116 (by kernel_rfl) rfl) (fun W x b hb=>impl_wantedOk_2.calls x b W hb) h
 have C1:=qal.mk c1
 have C2:=qal.mk c2
 clear hr0 hc0 c1 c2
 unfold impl_wantedOk.f at h
 by_cases h3:(l0.length:Int)=3
 ·rw[if_pos h3] at h
  obtain⟨a,ha,h⟩:=Option.bind_eq_some_iff.mp h
  have h3b:((l0.length:Int) == 3)=true:=by simpa using h3
  clear h3
  cases a with
  |true=>
   rw[if_pos rfl] at h
   injection h with h
   subst h
   have HA:=qal.mk ha
   clear ha
   go_enter Try.func90,Try.ntmps90
   go_wp2_with(go_at_call 117;refine(C1.out _ true HR.out HA.out).mono ?_;rintro e w' ⟨rfl,⟨q,rfl⟩⟩)
   go_ret
   exact⟨rfl,⟨⟨_,rfl⟩⟩⟩
  |false=>
   rw[if_neg (by decide)] at h
   have HA:=qal.mk ha
   have HB:=qal.mk h
   clear ha h
   go_enter Try.func90,Try.ntmps90
   go_wp2_with fail
   go_at_call 117
   refine(C1.out _ false HR.out HA.out).mono ?_
   rintro e w' ⟨rfl,⟨q,rfl⟩⟩
   go_wp2_with fail
   go_at_call 117
   refine(C2.out _ r (by exact HR.out) HB.out).mono ?_
   rintro e w' ⟨rfl,⟨q2,rfl⟩⟩
   go_wp2_with fail
   go_ret
   exact⟨rfl,⟨⟨_,rfl⟩⟩⟩
 ·rw[if_neg h3] at h
  injection h with h
  subst h
  have h3b:((l0.length:Int) == 3)=false:=by simpa using h3
  clear h3
  go_enter Try.func90,Try.ntmps90
  go_wp2
  go_ret
  exact⟨rfl,⟨⟨0,rfl⟩⟩⟩
def impl_isTrip.f (a0:Int):Option (Bool):=(impl_in.f a0 1 6).bind fun t210=>(some t210)
set_option maxHeartbeats 8000000 in
set_option maxRecDepth 100000 in
theorem impl_isTrip.calls (a0:Int) (r:Bool) (w:World) (h:impl_isTrip.f a0=some r) :
  Calls Try.prog 113 #[.int .i64 a0] w fun e w'=>e=.returned (.bool r)∧Drawn0 w w':=by
 have H:((impl_in.f a0 1 6).bind fun t210=>(some t210))=some r:=h
 clear h
 replace H:=Option.bind_eq_some_iff.mp H
 obtain⟨t210,A20,H⟩:=H
 replace H:(some t210)=some r:=H
 have A2:=qal.mk A20
 clear A20
 obtain rfl:=Option.some.inj H
 go_enter Try.func113,Try.ntmps113
 go_wp2_with(first|((with_reducible refine qai (f:=60) rfl ?_);refine qau (some 4) rfl rfl Try.func60 (by kernel_rfl) rfl #[.int .i64 a0,.int .i64 1,.int .i64 6] rfl (by(try simp only[List.map_toArray,List.map_cons,List.map_nil]);first|done|rfl|(simp only[List.length_drop,List.length_take];rfl)) ?_;(with_reducible refine(impl_in.calls a0 1 6 t210 _ A2.out).mono ?_);rintro e w' ⟨rfl,⟨nd,rfl⟩⟩;refine⟨_,rfl,?_⟩))
 go_ret
 exact⟨za22,za44⟩
def impl_RecOk.f (a0_0:Int) (a0_1:Int) (l0_2:List Int):Option (Bool):=if a0_0=1 then(if(l0_2.length:Int)=1 then(if 0<(l0_2.length:Int) then((impl_in.f (rd l0_2 0) 1 3).bind fun t213=>((impl_in.f a0_0 1 7).bind fun t214=>(if t214=true then((impl_isTrip.f a0_1).bind fun t215=>(if t215=true then(some t213) else(some false))) else(some false)))) else(none)) else((impl_in.f a0_0 1 7).bind fun t216=>(if t216=true then((impl_isTrip.f a0_1).bind fun t217=>(if t217=true then(some false) else(some false))) else(some false)))) else(if a0_0=4 then((impl_wantedOk.f l0_2).bind fun t218=>((impl_in.f a0_0 1 7).bind fun t219=>(if t219=true then((impl_isTrip.f a0_1).bind fun t220=>(if t220=true then(some t218) else(some false))) else(some false)))) else((impl_in.f a0_0 1 7).bind fun t221=>(if t221=true then((impl_isTrip.f a0_1).bind fun t222=>(if t222=true then(some ((l0_2.length:Int) == 0)) else(some false))) else(some false))))
set_option maxHeartbeats 8000000 in
set_option maxRecDepth 100000 in
theorem impl_RecOk.calls (a0_0:Int) (a0_1:Int) (A0_2:Option Addr) (c0_2:Nat) (l0_2:List Int) (r:Bool) (w:World) (hr0_2:Kd.C (Kd.int .i64) w A0_2 l0_2.length l0_2) (hc0_2:l0_2.length≤c0_2) (h:impl_RecOk.f a0_0 a0_1 l0_2=some r) :
  Calls Try.prog 82 #[.agg #[.int .i64 a0_0,.int .i64 a0_1,.slice A0_2 l0_2.length c0_2]] w fun e w'=>e=.returned (.bool r)∧Below w.heap.size w w':=by
 have hu62:=Try.underlying62
 have HR0_2:=qal.mk hr0_2
 have HC0_2:=qal.mk hc0_2
 clear hr0_2 hc0_2
 have HB:=qal.mk (Below.refl w.heap.size w)
 have H:(if a0_0=1 then(if(l0_2.length:Int)=1 then(if 0<(l0_2.length:Int) then((impl_in.f (rd l0_2 0) 1 3).bind fun t213=>((impl_in.f a0_0 1 7).bind fun t214=>(if t214=true then((impl_isTrip.f a0_1).bind fun t215=>(if t215=true then(some t213) else(some false))) else(some false)))) else(none)) else((impl_in.f a0_0 1 7).bind fun t216=>(if t216=true then((impl_isTrip.f a0_1).bind fun t217=>(if t217=true then(some false) else(some false))) else(some false)))) else(if a0_0=4 then((impl_wantedOk.f l0_2).bind fun t218=>((impl_in.f a0_0 1 7).bind fun t219=>(if t219=true then((impl_isTrip.f a0_1).bind fun t220=>(if t220=true then(some t218) else(some false))) else(some false)))) else((impl_in.f a0_0 1 7).bind fun t221=>(if t221=true then((impl_isTrip.f a0_1).bind fun t222=>(if t222=true then(some ((l0_2.length:Int) == 0)) else(some false))) else(some false)))))=some r:=h
 clear h
 by_cases c2:a0_0=1
 ·rw[if_pos c2] at H
  have c2b0:(a0_0 == 1)=true:=beq_iff_eq.mpr c2
  have c2b1:(a0_0 != 1)=false:=bne_eq_false_iff_eq.mpr c2
  clear c2
  by_cases c3:(l0_2.length:Int)=1
  ·rw[if_pos c3] at H
   have c3b0:((l0_2.length:Int) == 1)=true:=beq_iff_eq.mpr c3
   have c3b1:((l0_2.length:Int) != 1)=false:=bne_eq_false_iff_eq.mpr c3
   clear c3
   by_cases c4:0<(l0_2.length:Int)
   ·rw[if_pos c4] at H
    have c4b0:decide (0<(l0_2.length:Int))=true:=decide_eq_true c4
    have c4b1:decide (0<l0_2.length)=true:=decide_eq_true (by omega)
    clear c4
    replace H:=Option.bind_eq_some_iff.mp H
    obtain⟨t213,A50,H⟩:=H
    replace H:((impl_in.f a0_0 1 7).bind fun t214=>(if t214=true then((impl_isTrip.f a0_1).bind fun t215=>(if t215=true then(some t213) else(some false))) else(some false)))=some r:=H
    have A5:=qal.mk A50
    clear A50
    replace H:=Option.bind_eq_some_iff.mp H
    obtain⟨t214,A60,H⟩:=H
    replace H:(if t214=true then((impl_isTrip.f a0_1).bind fun t215=>(if t215=true then(some t213) else(some false))) else(some false))=some r:=H
    have A6:=qal.mk A60
    clear A60
    by_cases c7:t214=true
    ·subst c7
     have H1:((impl_isTrip.f a0_1).bind fun t215=>(if t215=true then(some t213) else(some false)))=some r:=by rw[if_pos rfl] at H;exact H
     clear H
     have H:=H1
     clear H1
     replace H:=Option.bind_eq_some_iff.mp H
     obtain⟨t215,A80,H⟩:=H
     replace H:(if t215=true then(some t213) else(some false))=some r:=H
     have A8:=qal.mk A80
     clear A80
     by_cases c9:t215=true
     ·subst c9
      have H1:(some t213)=some r:=by rw[if_pos rfl] at H;exact H
      clear H
      have H:=H1
      clear H1
      obtain rfl:=Option.some.inj H
      go_enter Try.func82,Try.ntmps82
      go_wp2_with(first|((with_reducible refine qak (N:=1) rfl ?_);refine qaj ?hg (N:=1) ?hd (cs:=#[.int .i64 a0_0,.int .i64 a0_1,.slice A0_2 l0_2.length c0_2]) (t:=62) ?hr ?_;(case hd=>rfl);(case hg=>rfl);(case hr=>first|(go_simp;done)|(go_simp;rfl));intro gb211 hg w10 hbox hb;have n0_:=qal.mk (qae (za2 HB) hb);have n1_:=qal.mk (hbox);have n2_:=qal.mk ((by rw[hg];exact(qad (za2 HB)):w.heap.size≤gb211));have n3_:=qal.mk ((by rw[hg];exact(qad (za2 HB)):w.heap.size≤gb211));clear HB;have HB:=n0_;have BK211:=n1_;have GW211:=n2_;have GE211:=n3_;clear n0_ n1_ n2_ n3_;clear hb hbox hg;have hcz11_0:w10.cell? ⟨gb211,0,none⟩=some (.int .i64 a0_0):=(qab BK211.out 0).trans rfl;have hcz11_1:w10.cell? ⟨gb211,1,none⟩=some (.int .i64 a0_1):=(qab BK211.out 1).trans rfl;have hcz11_2:w10.cell? ⟨gb211,2,none⟩=some (.slice A0_2 l0_2.length c0_2):=(qab BK211.out 2).trans rfl;have hfz11_0:=qaa BK211.out 0;have hfz11_1:=qaa BK211.out 1;have hfz11_2:=qaa BK211.out 2;have p212:0≤(0:Int):=(by omega);have q212:0<(l0_2.length:Int):=of_decide_eq_true (za8);obtain⟨ad212,e212,hx212_0⟩:=Kd.at_int HR0_2.out 0 p212 q212;cases e212;have qi212:(0<l0_2.length)=True:=eq_true (by omega);(try rw[show((0:Int)).toNat=0 from rfl] at hx212_0);(try rw[Addr.add_zero'] at hx212_0);replace hx212_0:=(HB.out.cell (World.block_lt_of_cell? w _ hx212_0)).trans hx212_0;replace p212:=eq_true p212;replace q212:=eq_true q212)|(go_at_call 60;(with_reducible refine(impl_in.calls (rd l0_2 0) 1 3 t213 _ A5.out).mono ?_);rintro e w' ⟨rfl,⟨nd,rfl⟩⟩)|((with_reducible refine qai (f:=60) rfl ?_);refine qau (some 30) rfl rfl Try.func60 (by kernel_rfl) rfl #[.int .i64 a0_0,.int .i64 1,.int .i64 7] rfl (by(try simp only[List.map_toArray,List.map_cons,List.map_nil]);first|done|rfl|(simp only[List.length_drop,List.length_take];rfl)) ?_;(with_reducible refine(impl_in.calls a0_0 1 7 true _ A6.out).mono ?_);rintro e w' ⟨rfl,⟨nd,rfl⟩⟩;refine⟨_,rfl,?_⟩)|(go_at_call 113;(with_reducible refine(impl_isTrip.calls a0_1 true _ A8.out).mono ?_);rintro e w' ⟨rfl,⟨nd,rfl⟩⟩))
      go_ret
      exact⟨za9,za1 HB GE211⟩
     ·replace c9:=Bool.eq_false_iff.mpr c9
      subst c9
      have H1:(some false)=some r:=by rw[if_neg (show ¬(false=true) by decide)] at H;exact H
      clear H
      have H:=H1
      clear H1
      obtain rfl:=Option.some.inj H
      go_enter Try.func82,Try.ntmps82
      go_wp2_with(first|((with_reducible refine qak (N:=1) rfl ?_);refine qaj ?hg (N:=1) ?hd (cs:=#[.int .i64 a0_0,.int .i64 a0_1,.slice A0_2 l0_2.length c0_2]) (t:=62) ?hr ?_;(case hd=>rfl);(case hg=>rfl);(case hr=>first|(go_simp;done)|(go_simp;rfl));intro gb211 hg w12 hbox hb;have n0_:=qal.mk (qae (za2 HB) hb);have n1_:=qal.mk (hbox);have n2_:=qal.mk ((by rw[hg];exact(qad (za2 HB)):w.heap.size≤gb211));have n3_:=qal.mk ((by rw[hg];exact(qad (za2 HB)):w.heap.size≤gb211));clear HB;have HB:=n0_;have BK211:=n1_;have GW211:=n2_;have GE211:=n3_;clear n0_ n1_ n2_ n3_;clear hb hbox hg;have hcz13_0:w12.cell? ⟨gb211,0,none⟩=some (.int .i64 a0_0):=(qab BK211.out 0).trans rfl;have hcz13_1:w12.cell? ⟨gb211,1,none⟩=some (.int .i64 a0_1):=(qab BK211.out 1).trans rfl;have hcz13_2:w12.cell? ⟨gb211,2,none⟩=some (.slice A0_2 l0_2.length c0_2):=(qab BK211.out 2).trans rfl;have hfz13_0:=qaa BK211.out 0;have hfz13_1:=qaa BK211.out 1;have hfz13_2:=qaa BK211.out 2;have p212:0≤(0:Int):=(by omega);have q212:0<(l0_2.length:Int):=of_decide_eq_true (za8);obtain⟨ad212,e212,hx212_0⟩:=Kd.at_int HR0_2.out 0 p212 q212;cases e212;have qi212:(0<l0_2.length)=True:=eq_true (by omega);(try rw[show((0:Int)).toNat=0 from rfl] at hx212_0);(try rw[Addr.add_zero'] at hx212_0);replace hx212_0:=(HB.out.cell (World.block_lt_of_cell? w _ hx212_0)).trans hx212_0;replace p212:=eq_true p212;replace q212:=eq_true q212)|(go_at_call 60;(with_reducible refine(impl_in.calls (rd l0_2 0) 1 3 t213 _ A5.out).mono ?_);rintro e w' ⟨rfl,⟨nd,rfl⟩⟩)|((with_reducible refine qai (f:=60) rfl ?_);refine qau (some 30) rfl rfl Try.func60 (by kernel_rfl) rfl #[.int .i64 a0_0,.int .i64 1,.int .i64 7] rfl (by(try simp only[List.map_toArray,List.map_cons,List.map_nil]);first|done|rfl|(simp only[List.length_drop,List.length_take];rfl)) ?_;(with_reducible refine(impl_in.calls a0_0 1 7 true _ A6.out).mono ?_);rintro e w' ⟨rfl,⟨nd,rfl⟩⟩;refine⟨_,rfl,?_⟩)|(go_at_call 113;(with_reducible refine(impl_isTrip.calls a0_1 false _ A8.out).mono ?_);rintro e w' ⟨rfl,⟨nd,rfl⟩⟩))
      go_ret
      exact⟨za9,za1 HB GE211⟩
    ·replace c7:=Bool.eq_false_iff.mpr c7
     subst c7
     have H1:(some false)=some r:=by rw[if_neg (show ¬(false=true) by decide)] at H;exact H
     clear H
     have H:=H1
     clear H1
     obtain rfl:=Option.some.inj H
     go_enter Try.func82,Try.ntmps82
     go_wp2_with(first|((with_reducible refine qak (N:=1) rfl ?_);refine qaj ?hg (N:=1) ?hd (cs:=#[.int .i64 a0_0,.int .i64 a0_1,.slice A0_2 l0_2.length c0_2]) (t:=62) ?hr ?_;(case hd=>rfl);(case hg=>rfl);(case hr=>first|(go_simp;done)|(go_simp;rfl));intro gb211 hg w14 hbox hb;have n0_:=qal.mk (qae (za2 HB) hb);have n1_:=qal.mk (hbox);have n2_:=qal.mk ((by rw[hg];exact(qad (za2 HB)):w.heap.size≤gb211));have n3_:=qal.mk ((by rw[hg];exact(qad (za2 HB)):w.heap.size≤gb211));clear HB;have HB:=n0_;have BK211:=n1_;have GW211:=n2_;have GE211:=n3_;clear n0_ n1_ n2_ n3_;clear hb hbox hg;have hcz15_0:w14.cell? ⟨gb211,0,none⟩=some (.int .i64 a0_0):=(qab BK211.out 0).trans rfl;have hcz15_1:w14.cell? ⟨gb211,1,none⟩=some (.int .i64 a0_1):=(qab BK211.out 1).trans rfl;have hcz15_2:w14.cell? ⟨gb211,2,none⟩=some (.slice A0_2 l0_2.length c0_2):=(qab BK211.out 2).trans rfl;have hfz15_0:=qaa BK211.out 0;have hfz15_1:=qaa BK211.out 1;have hfz15_2:=qaa BK211.out 2;have p212:0≤(0:Int):=(by omega);have q212:0<(l0_2.length:Int):=of_decide_eq_true (za8);obtain⟨ad212,e212,hx212_0⟩:=Kd.at_int HR0_2.out 0 p212 q212;cases e212;have qi212:(0<l0_2.length)=True:=eq_true (by omega);(try rw[show((0:Int)).toNat=0 from rfl] at hx212_0);(try rw[Addr.add_zero'] at hx212_0);replace hx212_0:=(HB.out.cell (World.block_lt_of_cell? w _ hx212_0)).trans hx212_0;replace p212:=eq_true p212;replace q212:=eq_true q212)|(go_at_call 60;(with_reducible refine(impl_in.calls (rd l0_2 0) 1 3 t213 _ A5.out).mono ?_);rintro e w' ⟨rfl,⟨nd,rfl⟩⟩)|((with_reducible refine qai (f:=60) rfl ?_);refine qau (some 30) rfl rfl Try.func60 (by kernel_rfl) rfl #[.int .i64 a0_0,.int .i64 1,.int .i64 7] rfl (by(try simp only[List.map_toArray,List.map_cons,List.map_nil]);first|done|rfl|(simp only[List.length_drop,List.length_take];rfl)) ?_;(with_reducible refine(impl_in.calls a0_0 1 7 false _ A6.out).mono ?_);rintro e w' ⟨rfl,⟨nd,rfl⟩⟩;refine⟨_,rfl,?_⟩))
     go_ret
     exact⟨za9,za1 HB GE211⟩
   ·rw[if_neg c4] at H
    exact absurd H (by simp)
  ·rw[if_neg c3] at H
   have c3b0:((l0_2.length:Int) == 1)=false:=beq_eq_false_iff_ne.mpr c3
   have c3b1:((l0_2.length:Int) != 1)=true:=bne_iff_ne.mpr c3
   replace H:=Option.bind_eq_some_iff.mp H
   obtain⟨t216,A160,H⟩:=H
   replace H:(if t216=true then((impl_isTrip.f a0_1).bind fun t217=>(if t217=true then(some false) else(some false))) else(some false))=some r:=H
   have A16:=qal.mk A160
   clear A160
   by_cases c17:t216=true
   ·subst c17
    have H1:((impl_isTrip.f a0_1).bind fun t217=>(if t217=true then(some false) else(some false)))=some r:=by rw[if_pos rfl] at H;exact H
    clear H
    have H:=H1
    clear H1
    replace H:=Option.bind_eq_some_iff.mp H
    obtain⟨t217,A180,H⟩:=H
    replace H:(if t217=true then(some false) else(some false))=some r:=H
    have A18:=qal.mk A180
    clear A180
    by_cases c19:t217=true
    ·subst c19
     have H1:(some false)=some r:=by rw[if_pos rfl] at H;exact H
     clear H
     have H:=H1
     clear H1
     obtain rfl:=Option.some.inj H
     go_enter Try.func82,Try.ntmps82
     go_wp2_with(first|((with_reducible refine qak (N:=1) rfl ?_);refine qaj ?hg (N:=1) ?hd (cs:=#[.int .i64 a0_0,.int .i64 a0_1,.slice A0_2 l0_2.length c0_2]) (t:=62) ?hr ?_;(case hd=>rfl);(case hg=>rfl);(case hr=>first|(go_simp;done)|(go_simp;rfl));intro gb211 hg w20 hbox hb;have n0_:=qal.mk (qae (za2 HB) hb);have n1_:=qal.mk (hbox);have n2_:=qal.mk ((by rw[hg];exact(qad (za2 HB)):w.heap.size≤gb211));have n3_:=qal.mk ((by rw[hg];exact(qad (za2 HB)):w.heap.size≤gb211));clear HB;have HB:=n0_;have BK211:=n1_;have GW211:=n2_;have GE211:=n3_;clear n0_ n1_ n2_ n3_;clear hb hbox hg;have hcz21_0:w20.cell? ⟨gb211,0,none⟩=some (.int .i64 a0_0):=(qab BK211.out 0).trans rfl;have hcz21_1:w20.cell? ⟨gb211,1,none⟩=some (.int .i64 a0_1):=(qab BK211.out 1).trans rfl;have hcz21_2:w20.cell? ⟨gb211,2,none⟩=some (.slice A0_2 l0_2.length c0_2):=(qab BK211.out 2).trans rfl;have hfz21_0:=qaa BK211.out 0;have hfz21_1:=qaa BK211.out 1;have hfz21_2:=qaa BK211.out 2)|((with_reducible refine qai (f:=60) rfl ?_);refine qau (some 30) rfl rfl Try.func60 (by kernel_rfl) rfl #[.int .i64 a0_0,.int .i64 1,.int .i64 7] rfl (by(try simp only[List.map_toArray,List.map_cons,List.map_nil]);first|done|rfl|(simp only[List.length_drop,List.length_take];rfl)) ?_;(with_reducible refine(impl_in.calls a0_0 1 7 true _ A16.out).mono ?_);rintro e w' ⟨rfl,⟨nd,rfl⟩⟩;refine⟨_,rfl,?_⟩)|(go_at_call 113;(with_reducible refine(impl_isTrip.calls a0_1 true _ A18.out).mono ?_);rintro e w' ⟨rfl,⟨nd,rfl⟩⟩))
     go_ret
     exact⟨za9,za1 HB GE211⟩
    ·replace c19:=Bool.eq_false_iff.mpr c19
     subst c19
     have H1:(some false)=some r:=by rw[if_neg (show ¬(false=true) by decide)] at H;exact H
     clear H
     have H:=H1
     clear H1
     obtain rfl:=Option.some.inj H
     go_enter Try.func82,Try.ntmps82
     go_wp2_with(first|((with_reducible refine qak (N:=1) rfl ?_);refine qaj ?hg (N:=1) ?hd (cs:=#[.int .i64 a0_0,.int .i64 a0_1,.slice A0_2 l0_2.length c0_2]) (t:=62) ?hr ?_;(case hd=>rfl);(case hg=>rfl);(case hr=>first|(go_simp;done)|(go_simp;rfl));intro gb211 hg w22 hbox hb;have n0_:=qal.mk (qae (za2 HB) hb);have n1_:=qal.mk (hbox);have n2_:=qal.mk ((by rw[hg];exact(qad (za2 HB)):w.heap.size≤gb211));have n3_:=qal.mk ((by rw[hg];exact(qad (za2 HB)):w.heap.size≤gb211));clear HB;have HB:=n0_;have BK211:=n1_;have GW211:=n2_;have GE211:=n3_;clear n0_ n1_ n2_ n3_;clear hb hbox hg;have hcz23_0:w22.cell? ⟨gb211,0,none⟩=some (.int .i64 a0_0):=(qab BK211.out 0).trans rfl;have hcz23_1:w22.cell? ⟨gb211,1,none⟩=some (.int .i64 a0_1):=(qab BK211.out 1).trans rfl;have hcz23_2:w22.cell? ⟨gb211,2,none⟩=some (.slice A0_2 l0_2.length c0_2):=(qab BK211.out 2).trans rfl;have hfz23_0:=qaa BK211.out 0;have hfz23_1:=qaa BK211.out 1;have hfz23_2:=qaa BK211.out 2)|((with_reducible refine qai (f:=60) rfl ?_);refine qau (some 30) rfl rfl Try.func60 (by kernel_rfl) rfl #[.int .i64 a0_0,.int .i64 1,.int .i64 7] rfl (by(try simp only[List.map_toArray,List.map_cons,List.map_nil]);first|done|rfl|(simp only[List.length_drop,List.length_take];rfl)) ?_;(with_reducible refine(impl_in.calls a0_0 1 7 true _ A16.out).mono ?_);rintro e w' ⟨rfl,⟨nd,rfl⟩⟩;refine⟨_,rfl,?_⟩)|(go_at_call 113;(with_reducible refine(impl_isTrip.calls a0_1 false _ A18.out).mono ?_);rintro e w' ⟨rfl,⟨nd,rfl⟩⟩))
     go_ret
     exact⟨za9,za1 HB GE211⟩
   ·replace c17:=Bool.eq_false_iff.mpr c17
    subst c17
    have H1:(some false)=some r:=by rw[if_neg (show ¬(false=true) by decide)] at H;exact H
    clear H
    have H:=H1
    clear H1
    obtain rfl:=Option.some.inj H
    go_enter Try.func82,Try.ntmps82
    go_wp2_with(first|((with_reducible refine qak (N:=1) rfl ?_);refine qaj ?hg (N:=1) ?hd (cs:=#[.int .i64 a0_0,.int .i64 a0_1,.slice A0_2 l0_2.length c0_2]) (t:=62) ?hr ?_;(case hd=>rfl);(case hg=>rfl);(case hr=>first|(go_simp;done)|(go_simp;rfl));intro gb211 hg w24 hbox hb;have n0_:=qal.mk (qae (za2 HB) hb);have n1_:=qal.mk (hbox);have n2_:=qal.mk ((by rw[hg];exact(qad (za2 HB)):w.heap.size≤gb211));have n3_:=qal.mk ((by rw[hg];exact(qad (za2 HB)):w.heap.size≤gb211));clear HB;have HB:=n0_;have BK211:=n1_;have GW211:=n2_;have GE211:=n3_;clear n0_ n1_ n2_ n3_;clear hb hbox hg;have hcz25_0:w24.cell? ⟨gb211,0,none⟩=some (.int .i64 a0_0):=(qab BK211.out 0).trans rfl;have hcz25_1:w24.cell? ⟨gb211,1,none⟩=some (.int .i64 a0_1):=(qab BK211.out 1).trans rfl;have hcz25_2:w24.cell? ⟨gb211,2,none⟩=some (.slice A0_2 l0_2.length c0_2):=(qab BK211.out 2).trans rfl;have hfz25_0:=qaa BK211.out 0;have hfz25_1:=qaa BK211.out 1;have hfz25_2:=qaa BK211.out 2)|((with_reducible refine qai (f:=60) rfl ?_);refine qau (some 30) rfl rfl Try.func60 (by kernel_rfl) rfl #[.int .i64 a0_0,.int .i64 1,.int .i64 7] rfl (by(try simp only[List.map_toArray,List.map_cons,List.map_nil]);first|done|rfl|(simp only[List.length_drop,List.length_take];rfl)) ?_;(with_reducible refine(impl_in.calls a0_0 1 7 false _ A16.out).mono ?_);rintro e w' ⟨rfl,⟨nd,rfl⟩⟩;refine⟨_,rfl,?_⟩))
    go_ret
    exact⟨za9,za1 HB GE211⟩
 ·rw[if_neg c2] at H
  have c2b0:(a0_0 == 1)=false:=beq_eq_false_iff_ne.mpr c2
  have c2b1:(a0_0 != 1)=true:=bne_iff_ne.mpr c2
  by_cases c26:a0_0=4
  ·rw[if_pos c26] at H
   have c26b0:(a0_0 == 4)=true:=beq_iff_eq.mpr c26
   have c26b1:(a0_0 != 4)=false:=bne_eq_false_iff_eq.mpr c26
   clear c26
   replace H:=Option.bind_eq_some_iff.mp H
   obtain⟨t218,A270,H⟩:=H
   replace H:((impl_in.f a0_0 1 7).bind fun t219=>(if t219=true then((impl_isTrip.f a0_1).bind fun t220=>(if t220=true then(some t218) else(some false))) else(some false)))=some r:=H
   have A27:=qal.mk A270
   clear A270
   replace H:=Option.bind_eq_some_iff.mp H
   obtain⟨t219,A280,H⟩:=H
   replace H:(if t219=true then((impl_isTrip.f a0_1).bind fun t220=>(if t220=true then(some t218) else(some false))) else(some false))=some r:=H
   have A28:=qal.mk A280
   clear A280
   by_cases c29:t219=true
   ·subst c29
    have H1:((impl_isTrip.f a0_1).bind fun t220=>(if t220=true then(some t218) else(some false)))=some r:=by rw[if_pos rfl] at H;exact H
    clear H
    have H:=H1
    clear H1
    replace H:=Option.bind_eq_some_iff.mp H
    obtain⟨t220,A300,H⟩:=H
    replace H:(if t220=true then(some t218) else(some false))=some r:=H
    have A30:=qal.mk A300
    clear A300
    by_cases c31:t220=true
    ·subst c31
     have H1:(some t218)=some r:=by rw[if_pos rfl] at H;exact H
     clear H
     have H:=H1
     clear H1
     obtain rfl:=Option.some.inj H
     go_enter Try.func82,Try.ntmps82
     go_wp2_with(first|((with_reducible refine qak (N:=1) rfl ?_);refine qaj ?hg (N:=1) ?hd (cs:=#[.int .i64 a0_0,.int .i64 a0_1,.slice A0_2 l0_2.length c0_2]) (t:=62) ?hr ?_;(case hd=>rfl);(case hg=>rfl);(case hr=>first|(go_simp;done)|(go_simp;rfl));intro gb211 hg w32 hbox hb;have n0_:=qal.mk (qae (za2 HB) hb);have n1_:=qal.mk (hbox);have n2_:=qal.mk ((by rw[hg];exact(qad (za2 HB)):w.heap.size≤gb211));have n3_:=qal.mk ((by rw[hg];exact(qad (za2 HB)):w.heap.size≤gb211));clear HB;have HB:=n0_;have BK211:=n1_;have GW211:=n2_;have GE211:=n3_;clear n0_ n1_ n2_ n3_;clear hb hbox hg;have hcz33_0:w32.cell? ⟨gb211,0,none⟩=some (.int .i64 a0_0):=(qab BK211.out 0).trans rfl;have hcz33_1:w32.cell? ⟨gb211,1,none⟩=some (.int .i64 a0_1):=(qab BK211.out 1).trans rfl;have hcz33_2:w32.cell? ⟨gb211,2,none⟩=some (.slice A0_2 l0_2.length c0_2):=(qab BK211.out 2).trans rfl;have hfz33_0:=qaa BK211.out 0;have hfz33_1:=qaa BK211.out 1;have hfz33_2:=qaa BK211.out 2)|((with_reducible refine qai (f:=90) rfl ?_);refine qau (some 27) rfl rfl Try.func90 (by kernel_rfl) rfl #[.slice A0_2 l0_2.length c0_2] rfl (by(try simp only[List.map_toArray,List.map_cons,List.map_nil]);first|done|rfl|(simp only[List.length_drop,List.length_take];rfl)) ?_;(with_reducible refine(impl_wantedOk.calls _ _ l0_2 t218 _ ?side1 ?side2 A27.out).mono ?_);(case side1=>repeat(first|exact(Kd.C_below HR0_2.out HB.out)|(with_reducible refine Kd.C_alloc ?_ _)|(with_reducible refine Kd.C_drewN ?_ _)|(with_reducible refine Kd.C_drew ?_)));(case side2=>exact HC0_2.out);rintro e w' ⟨rfl,⟨nd,rfl⟩⟩;refine⟨_,rfl,?_⟩)|((with_reducible refine qai (f:=60) rfl ?_);refine qau (some 30) rfl rfl Try.func60 (by kernel_rfl) rfl #[.int .i64 a0_0,.int .i64 1,.int .i64 7] rfl (by(try simp only[List.map_toArray,List.map_cons,List.map_nil]);first|done|rfl|(simp only[List.length_drop,List.length_take];rfl)) ?_;(with_reducible refine(impl_in.calls a0_0 1 7 true _ A28.out).mono ?_);rintro e w' ⟨rfl,⟨nd,rfl⟩⟩;refine⟨_,rfl,?_⟩)|(go_at_call 113;(with_reducible refine(impl_isTrip.calls a0_1 true _ A30.out).mono ?_);rintro e w' ⟨rfl,⟨nd,rfl⟩⟩))
     go_ret
     exact⟨za9,za1 HB GE211⟩
    ·replace c31:=Bool.eq_false_iff.mpr c31
     subst c31
     have H1:(some false)=some r:=by rw[if_neg (show ¬(false=true) by decide)] at H;exact H
     clear H
     have H:=H1
     clear H1
     obtain rfl:=Option.some.inj H
     go_enter Try.func82,Try.ntmps82
     go_wp2_with(first|((with_reducible refine qak (N:=1) rfl ?_);refine qaj ?hg (N:=1) ?hd (cs:=#[.int .i64 a0_0,.int .i64 a0_1,.slice A0_2 l0_2.length c0_2]) (t:=62) ?hr ?_;(case hd=>rfl);(case hg=>rfl);(case hr=>first|(go_simp;done)|(go_simp;rfl));intro gb211 hg w34 hbox hb;have n0_:=qal.mk (qae (za2 HB) hb);have n1_:=qal.mk (hbox);have n2_:=qal.mk ((by rw[hg];exact(qad (za2 HB)):w.heap.size≤gb211));have n3_:=qal.mk ((by rw[hg];exact(qad (za2 HB)):w.heap.size≤gb211));clear HB;have HB:=n0_;have BK211:=n1_;have GW211:=n2_;have GE211:=n3_;clear n0_ n1_ n2_ n3_;clear hb hbox hg;have hcz35_0:w34.cell? ⟨gb211,0,none⟩=some (.int .i64 a0_0):=(qab BK211.out 0).trans rfl;have hcz35_1:w34.cell? ⟨gb211,1,none⟩=some (.int .i64 a0_1):=(qab BK211.out 1).trans rfl;have hcz35_2:w34.cell? ⟨gb211,2,none⟩=some (.slice A0_2 l0_2.length c0_2):=(qab BK211.out 2).trans rfl;have hfz35_0:=qaa BK211.out 0;have hfz35_1:=qaa BK211.out 1;have hfz35_2:=qaa BK211.out 2)|((with_reducible refine qai (f:=90) rfl ?_);refine qau (some 27) rfl rfl Try.func90 (by kernel_rfl) rfl #[.slice A0_2 l0_2.length c0_2] rfl (by(try simp only[List.map_toArray,List.map_cons,List.map_nil]);first|done|rfl|(simp only[List.length_drop,List.length_take];rfl)) ?_;(with_reducible refine(impl_wantedOk.calls _ _ l0_2 t218 _ ?side1 ?side2 A27.out).mono ?_);(case side1=>repeat(first|exact(Kd.C_below HR0_2.out HB.out)|(with_reducible refine Kd.C_alloc ?_ _)|(with_reducible refine Kd.C_drewN ?_ _)|(with_reducible refine Kd.C_drew ?_)));(case side2=>exact HC0_2.out);rintro e w' ⟨rfl,⟨nd,rfl⟩⟩;refine⟨_,rfl,?_⟩)|((with_reducible refine qai (f:=60) rfl ?_);refine qau (some 30) rfl rfl Try.func60 (by kernel_rfl) rfl #[.int .i64 a0_0,.int .i64 1,.int .i64 7] rfl (by(try simp only[List.map_toArray,List.map_cons,List.map_nil]);first|done|rfl|(simp only[List.length_drop,List.length_take];rfl)) ?_;(with_reducible refine(impl_in.calls a0_0 1 7 true _ A28.out).mono ?_);rintro e w' ⟨rfl,⟨nd,rfl⟩⟩;refine⟨_,rfl,?_⟩)|(go_at_call 113;(with_reducible refine(impl_isTrip.calls a0_1 false _ A30.out).mono ?_);rintro e w' ⟨rfl,⟨nd,rfl⟩⟩))
     go_ret
     exact⟨za9,za1 HB GE211⟩
   ·replace c29:=Bool.eq_false_iff.mpr c29
    subst c29
    have H1:(some false)=some r:=by rw[if_neg (show ¬(false=true) by decide)] at H;exact H
    clear H
    have H:=H1
    clear H1
    obtain rfl:=Option.some.inj H
    go_enter Try.func82,Try.ntmps82
    go_wp2_with(first|((with_reducible refine qak (N:=1) rfl ?_);refine qaj ?hg (N:=1) ?hd (cs:=#[.int .i64 a0_0,.int .i64 a0_1,.slice A0_2 l0_2.length c0_2]) (t:=62) ?hr ?_;(case hd=>rfl);(case hg=>rfl);(case hr=>first|(go_simp;done)|(go_simp;rfl));intro gb211 hg w36 hbox hb;have n0_:=qal.mk (qae (za2 HB) hb);have n1_:=qal.mk (hbox);have n2_:=qal.mk ((by rw[hg];exact(qad (za2 HB)):w.heap.size≤gb211));have n3_:=qal.mk ((by rw[hg];exact(qad (za2 HB)):w.heap.size≤gb211));clear HB;have HB:=n0_;have BK211:=n1_;have GW211:=n2_;have GE211:=n3_;clear n0_ n1_ n2_ n3_;clear hb hbox hg;have hcz37_0:w36.cell? ⟨gb211,0,none⟩=some (.int .i64 a0_0):=(qab BK211.out 0).trans rfl;have hcz37_1:w36.cell? ⟨gb211,1,none⟩=some (.int .i64 a0_1):=(qab BK211.out 1).trans rfl;have hcz37_2:w36.cell? ⟨gb211,2,none⟩=some (.slice A0_2 l0_2.length c0_2):=(qab BK211.out 2).trans rfl;have hfz37_0:=qaa BK211.out 0;have hfz37_1:=qaa BK211.out 1;have hfz37_2:=qaa BK211.out 2)|((with_reducible refine qai (f:=90) rfl ?_);refine qau (some 27) rfl rfl Try.func90 (by kernel_rfl) rfl #[.slice A0_2 l0_2.length c0_2] rfl (by(try simp only[List.map_toArray,List.map_cons,List.map_nil]);first|done|rfl|(simp only[List.length_drop,List.length_take];rfl)) ?_;(with_reducible refine(impl_wantedOk.calls _ _ l0_2 t218 _ ?side1 ?side2 A27.out).mono ?_);(case side1=>repeat(first|exact(Kd.C_below HR0_2.out HB.out)|(with_reducible refine Kd.C_alloc ?_ _)|(with_reducible refine Kd.C_drewN ?_ _)|(with_reducible refine Kd.C_drew ?_)));(case side2=>exact HC0_2.out);rintro e w' ⟨rfl,⟨nd,rfl⟩⟩;refine⟨_,rfl,?_⟩)|((with_reducible refine qai (f:=60) rfl ?_);refine qau (some 30) rfl rfl Try.func60 (by kernel_rfl) rfl #[.int .i64 a0_0,.int .i64 1,.int .i64 7] rfl (by(try simp only[List.map_toArray,List.map_cons,List.map_nil]);first|done|rfl|(simp only[List.length_drop,List.length_take];rfl)) ?_;(with_reducible refine(impl_in.calls a0_0 1 7 false _ A28.out).mono ?_);rintro e w' ⟨rfl,⟨nd,rfl⟩⟩;refine⟨_,rfl,?_⟩))
    go_ret
    exact⟨za9,za1 HB GE211⟩
  ·rw[if_neg c26] at H
   have c26b0:(a0_0 == 4)=false:=beq_eq_false_iff_ne.mpr c26
   have c26b1:(a0_0 != 4)=true:=bne_iff_ne.mpr c26
   replace H:=Option.bind_eq_some_iff.mp H
   obtain⟨t221,A380,H⟩:=H
   replace H:(if t221=true then((impl_isTrip.f a0_1).bind fun t222=>(if t222=true then(some ((l0_2.length:Int) == 0)) else(some false))) else(some false))=some r:=H
   have A38:=qal.mk A380
   clear A380
   by_cases c39:t221=true
   ·subst c39
    have H1:((impl_isTrip.f a0_1).bind fun t222=>(if t222=true then(some ((l0_2.length:Int) == 0)) else(some false)))=some r:=by rw[if_pos rfl] at H;exact H
    clear H
    have H:=H1
    clear H1
    replace H:=Option.bind_eq_some_iff.mp H
    obtain⟨t222,A400,H⟩:=H
    replace H:(if t222=true then(some ((l0_2.length:Int) == 0)) else(some false))=some r:=H
    have A40:=qal.mk A400
    clear A400
    by_cases c41:t222=true
    ·subst c41
     have H1:(some ((l0_2.length:Int) == 0))=some r:=by rw[if_pos rfl] at H;exact H
     clear H
     have H:=H1
     clear H1
     obtain rfl:=Option.some.inj H
     go_enter Try.func82,Try.ntmps82
     go_wp2_with(first|((with_reducible refine qak (N:=1) rfl ?_);refine qaj ?hg (N:=1) ?hd (cs:=#[.int .i64 a0_0,.int .i64 a0_1,.slice A0_2 l0_2.length c0_2]) (t:=62) ?hr ?_;(case hd=>rfl);(case hg=>rfl);(case hr=>first|(go_simp;done)|(go_simp;rfl));intro gb211 hg w42 hbox hb;have n0_:=qal.mk (qae (za2 HB) hb);have n1_:=qal.mk (hbox);have n2_:=qal.mk ((by rw[hg];exact(qad (za2 HB)):w.heap.size≤gb211));have n3_:=qal.mk ((by rw[hg];exact(qad (za2 HB)):w.heap.size≤gb211));clear HB;have HB:=n0_;have BK211:=n1_;have GW211:=n2_;have GE211:=n3_;clear n0_ n1_ n2_ n3_;clear hb hbox hg;have hcz43_0:w42.cell? ⟨gb211,0,none⟩=some (.int .i64 a0_0):=(qab BK211.out 0).trans rfl;have hcz43_1:w42.cell? ⟨gb211,1,none⟩=some (.int .i64 a0_1):=(qab BK211.out 1).trans rfl;have hcz43_2:w42.cell? ⟨gb211,2,none⟩=some (.slice A0_2 l0_2.length c0_2):=(qab BK211.out 2).trans rfl;have hfz43_0:=qaa BK211.out 0;have hfz43_1:=qaa BK211.out 1;have hfz43_2:=qaa BK211.out 2)|((with_reducible refine qai (f:=60) rfl ?_);refine qau (some 30) rfl rfl Try.func60 (by kernel_rfl) rfl #[.int .i64 a0_0,.int .i64 1,.int .i64 7] rfl (by(try simp only[List.map_toArray,List.map_cons,List.map_nil]);first|done|rfl|(simp only[List.length_drop,List.length_take];rfl)) ?_;(with_reducible refine(impl_in.calls a0_0 1 7 true _ A38.out).mono ?_);rintro e w' ⟨rfl,⟨nd,rfl⟩⟩;refine⟨_,rfl,?_⟩)|(go_at_call 113;(with_reducible refine(impl_isTrip.calls a0_1 true _ A40.out).mono ?_);rintro e w' ⟨rfl,⟨nd,rfl⟩⟩))
     go_ret
     exact⟨za9,za1 HB GE211⟩
    ·replace c41:=Bool.eq_false_iff.mpr c41
     subst c41
     have H1:(some false)=some r:=by rw[if_neg (show ¬(false=true) by decide)] at H;exact H
     clear H
     have H:=H1
     clear H1
     obtain rfl:=Option.some.inj H
     go_enter Try.func82,Try.ntmps82
     go_wp2_with(first|((with_reducible refine qak (N:=1) rfl ?_);refine qaj ?hg (N:=1) ?hd (cs:=#[.int .i64 a0_0,.int .i64 a0_1,.slice A0_2 l0_2.length c0_2]) (t:=62) ?hr ?_;(case hd=>rfl);(case hg=>rfl);(case hr=>first|(go_simp;done)|(go_simp;rfl));intro gb211 hg w44 hbox hb;have n0_:=qal.mk (qae (za2 HB) hb);have n1_:=qal.mk (hbox);have n2_:=qal.mk ((by rw[hg];exact(qad (za2 HB)):w.heap.size≤gb211));have n3_:=qal.mk ((by rw[hg];exact(qad (za2 HB)):w.heap.size≤gb211));clear HB;have HB:=n0_;have BK211:=n1_;have GW211:=n2_;have GE211:=n3_;clear n0_ n1_ n2_ n3_;clear hb hbox hg;have hcz45_0:w44.cell? ⟨gb211,0,none⟩=some (.int .i64 a0_0):=(qab BK211.out 0).trans rfl;have hcz45_1:w44.cell? ⟨gb211,1,none⟩=some (.int .i64 a0_1):=(qab BK211.out 1).trans rfl;have hcz45_2:w44.cell? ⟨gb211,2,none⟩=some (.slice A0_2 l0_2.length c0_2):=(qab BK211.out 2).trans rfl;have hfz45_0:=qaa BK211.out 0;have hfz45_1:=qaa BK211.out 1;have hfz45_2:=qaa BK211.out 2)|((with_reducible refine qai (f:=60) rfl ?_);refine qau (some 30) rfl rfl Try.func60 (by kernel_rfl) rfl #[.int .i64 a0_0,.int .i64 1,.int .i64 7] rfl (by(try simp only[List.map_toArray,List.map_cons,List.map_nil]);first|done|rfl|(simp only[List.length_drop,List.length_take];rfl)) ?_;(with_reducible refine(impl_in.calls a0_0 1 7 true _ A38.out).mono ?_);rintro e w' ⟨rfl,⟨nd,rfl⟩⟩;refine⟨_,rfl,?_⟩)|(go_at_call 113;(with_reducible refine(impl_isTrip.calls a0_1 false _ A40.out).mono ?_);rintro e w' ⟨rfl,⟨nd,rfl⟩⟩))
     go_ret
     exact⟨za9,za1 HB GE211⟩
   ·replace c39:=Bool.eq_false_iff.mpr c39
    subst c39
    have H1:(some false)=some r:=by rw[if_neg (show ¬(false=true) by decide)] at H;exact H
    clear H
    have H:=H1
    clear H1
    obtain rfl:=Option.some.inj H
    go_enter Try.func82,Try.ntmps82
    go_wp2_with(first|((with_reducible refine qak (N:=1) rfl ?_);refine qaj ?hg (N:=1) ?hd (cs:=#[.int .i64 a0_0,.int .i64 a0_1,.slice A0_2 l0_2.length c0_2]) (t:=62) ?hr ?_;(case hd=>rfl);(case hg=>rfl);(case hr=>first|(go_simp;done)|(go_simp;rfl));intro gb211 hg w46 hbox hb;have n0_:=qal.mk (qae (za2 HB) hb);have n1_:=qal.mk (hbox);have n2_:=qal.mk ((by rw[hg];exact(qad (za2 HB)):w.heap.size≤gb211));have n3_:=qal.mk ((by rw[hg];exact(qad (za2 HB)):w.heap.size≤gb211));clear HB;have HB:=n0_;have BK211:=n1_;have GW211:=n2_;have GE211:=n3_;clear n0_ n1_ n2_ n3_;clear hb hbox hg;have hcz47_0:w46.cell? ⟨gb211,0,none⟩=some (.int .i64 a0_0):=(qab BK211.out 0).trans rfl;have hcz47_1:w46.cell? ⟨gb211,1,none⟩=some (.int .i64 a0_1):=(qab BK211.out 1).trans rfl;have hcz47_2:w46.cell? ⟨gb211,2,none⟩=some (.slice A0_2 l0_2.length c0_2):=(qab BK211.out 2).trans rfl;have hfz47_0:=qaa BK211.out 0;have hfz47_1:=qaa BK211.out 1;have hfz47_2:=qaa BK211.out 2)|((with_reducible refine qai (f:=60) rfl ?_);refine qau (some 30) rfl rfl Try.func60 (by kernel_rfl) rfl #[.int .i64 a0_0,.int .i64 1,.int .i64 7] rfl (by(try simp only[List.map_toArray,List.map_cons,List.map_nil]);first|done|rfl|(simp only[List.length_drop,List.length_take];rfl)) ?_;(with_reducible refine(impl_in.calls a0_0 1 7 false _ A38.out).mono ?_);rintro e w' ⟨rfl,⟨nd,rfl⟩⟩;refine⟨_,rfl,?_⟩))
    go_ret
    exact⟨za9,za1 HB GE211⟩
end Go.Proofs.Ytjccnaklodbbfaa.Print
