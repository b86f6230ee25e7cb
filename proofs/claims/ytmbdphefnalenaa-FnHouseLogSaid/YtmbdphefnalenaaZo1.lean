-- Written by squeeze.py: not trusted, Lean checks it.
import Derived.Test.YtmbdphefnalenaaZK
import Derived.Test.YtmbdphefnalenaaZb0
import Derived.Test.YtmbdphefnalenaaZc0
import Derived.Test.YtmbdphefnalenaaZc1
import Derived.Test.YtmbdphefnalenaaZf0
import Derived.Test.YtmbdphefnalenaaZo0
namespace Go.Proofs.Ytmbdphefnalenaa.Print
open Go.RowKit Go.Proofs.YtmbdphefnalenaaW.PrintWords Go.Proofs.YtmbdphefnalenaaW.PrintLast Go.Proofs.YtmbdphefnalenaaW.PrintMore
attribute [local go_sem] max2_int min2_int max_two min_two max_three min_three max_four min_four
set_option linter.unusedVariables false
set_option linter.unusedSimpArgs false
theorem zb29_ouseOk {p_ q0_ q1_ q2_ : Prop} (h0_ : Aside0 q0_) (h1_ : Aside0 q1_) (h2_ : Aside0 q2_) (r_ : q0_ → q1_ → q2_ → p_ := by intro h0_ h1_ h2_; repeat(first|(with_reducible first|exact h0_|apply below_alloc|apply qaq|apply qao|refine qak ?_ (IsS107.ge h1_)|refine qak ?_ h2_)|exact h0_)) : p_ := r_ h0_.out h1_.out h2_.out
def spec_DrawHouseOk.f (k:Nat) (l0:List Int):Option (Int × Bool × Int × (List (S32)) × Int):=(spec_l6Open.f l0).bind fun bt1127=>((spec_l71House.f k bt1127.1 bt1127.2).bind fun bt1130=>(some (bt1130.1,bt1130.2.1,bt1130.2.2.1,bt1130.2.2.2.1,bt1130.2.2.2.2.1)))
theorem spec_DrawHouseOk.mono:∀a0 k,LeO (spec_DrawHouseOk.f k a0) (spec_DrawHouseOk.f (k+1) a0):=by
 intro a0 k
 unfold spec_DrawHouseOk.f
 repeat' first
   |(with_reducible exact spec_l71House.mono _ _ _)
   |(with_reducible exact LeO.refl _)
   |(with_reducible exact LeO.none _)
   |(with_reducible refine LeO.ite ?_ ?_)
   |(with_reducible refine LeO.bind ?_ (fun _=>?_))
   |exact spec_l71House.mono _ _ _
   |exact LeO.none _
   |refine LeO.ite ?_ ?_
   |refine LeO.bind ?_ (fun _=>?_)
set_option maxHeartbeats 8000000 in
set_option maxRecDepth 100000 in
theorem spec_DrawHouseOk.calls (k:Nat) (A0:Option Addr) (c0:Nat) (l0:List Int) (r1:Int) (r2:Bool) (r3:Int) (r4:List (S32)) (r5:Int) (w:World) (hr0:Kd.C (Kd.int .u8) w A0 l0.length l0) (hc0:l0.length≤c0) (h:spec_DrawHouseOk.f k l0=some (r1,r2,r3,r4,r5)) :
  Calls Try.prog 43 #[.slice A0 l0.length c0] w fun e w'=>∃v3_:Value,e=.returned (.agg #[.int .i64 r1,.bool r2,.int .i64 r3,v3_,.int .i64 r5])∧Kd.N k32 32 w' w.heap.size (fun k_=>(w.heap.size≤k_)) v3_ r4∧Below w.heap.size w w':=by
 have hu72:=Try.underlying72
 have HR0:=Aside0.mk hr0
 have HC0:=Aside0.mk hc0
 clear hr0 hc0
 have HB:=Aside0.mk (Below.refl w.heap.size w)
 have H:((spec_l6Open.f l0).bind fun bt1127=>((spec_l71House.f k bt1127.1 bt1127.2).bind fun bt1130=>(some (bt1130.1,bt1130.2.1,bt1130.2.2.1,bt1130.2.2.2.1,bt1130.2.2.2.2.1))))=some (r1,r2,r3,r4,r5):=h
 clear h
 replace H:=Option.bind_eq_some_iff.mp H
 obtain⟨⟨t1127,t1128⟩,A20,H⟩:=H
 replace H:((spec_l71House.f k t1127 t1128).bind fun bt1130=>(some (bt1130.1,bt1130.2.1,bt1130.2.2.1,bt1130.2.2.2.1,bt1130.2.2.2.2.1)))=some (r1,r2,r3,r4,r5):=H
 have A2:=Aside0.mk A20
 clear A20
 replace H:=Option.bind_eq_some_iff.mp H
 obtain⟨⟨t1130,t1131,t1132,t1133,t1136,t1137⟩,A30,H⟩:=H
 replace H:(some (t1130,t1131,t1132,t1133,t1136))=some (r1,r2,r3,r4,r5):=H
 have A3:=Aside0.mk A30
 clear A30
 simp only[Option.some.injEq,Prod.mk.injEq] at H
 obtain⟨rfl,rfl,rfl,rfl,rfl⟩:=H
 go_enter Try.func43,Try.ntmps43
 go_wp2_with(first|((with_reducible refine qae (N:=2) rfl ?_);refine zX (N:=2) (cs:=#[.int .i64 0,.bool false,.int .i64 0,.slice none 0 0,.int .i64 0]) (t:=72) ?_;intro gb1126 hg w4 hbox hb;have BK1126:=Aside0.mk hbox;have GW1126:=zH (w:=w) hg (za4 HB);have GE1126:=GW1126;replace HB:=Aside0.mk (qab (za4 HB) hb);clear hb hbox hg)|((with_reducible refine qac (f:=46) rfl ?_);refine zF (some 4) Try.func46 #[.slice A0 l0.length c0] ?_;(with_reducible refine(spec_l6Open.calls _ _ l0 t1127 t1128 w _ ?side1 ?side2 ?side3 A2.out).mono ?_);(case side1=>exact(za1 HB GE1126));(case side2=>exact HR0.out);(case side3=>exact HC0.out);rintro e w5 ⟨g1129,rfl,hi,hb,hb2⟩;refine⟨_,rfl,?_⟩;replace HB:=Aside0.mk hb;have HI1129:=Aside0.mk hi;have NB1129_1126:=Aside0.mk (IsS107.ne_blk hi (qaa (zB BK1126) hb2) (by decide));have NB1126_1129:=Aside0.mk (Ne.symm (IsS107.ne_blk hi (qaa (zB BK1126) hb2) (by decide)));replace BK1126:=Aside0.mk (qaa (zB BK1126) hb2);(try clear hb);(try clear hb2);(try clear hi))|((with_reducible refine qac (f:=77) rfl ?_);refine zF (some 5) Try.func77 #[.pointer (some ⟨g1129,0,none⟩)] ?_;(with_reducible refine(spec_l71House.calls k g1129 t1127 t1128 t1130 t1131 t1132 t1133 t1136 t1137 w _ ?side1 ?side2 A3.out).mono ?_);(case side1=>repeat(first|(with_reducible first|exact HI1129.out|apply IsS107.alloc|apply IsS107.drewN|apply IsS107.drew|apply IsS107.set_1|refine IsS107.far ?_ NB1129_1126.out _)|exact HI1129.out));(case side2=>exact(zb29_ouseOk HB HI1129 GE1126));rintro e w6 ⟨v1134,rfl,ho0,hi,hb,hk⟩;refine⟨_,rfl,?_⟩;have HO1135:=Aside0.mk (Kd.N_lower (Kd.N_mono (ok':=fun k_=>(w.heap.size≤k_)∧k_≠gb1126∧k_≠g1129) ho0 (fun k_ hk_=>⟨(Nat.le_trans (below_size (zb29_ouseOk HB HI1129 GE1126)) hk_),(Kd.freshB (zB BK1126) k_ hk_),(IsS107.fresh (by repeat(first|(with_reducible first|exact HI1129.out|apply IsS107.alloc|apply IsS107.drewN|apply IsS107.drew|apply IsS107.set_1|refine IsS107.far ?_ NB1129_1126.out _)|exact HI1129.out)) k_ hk_)⟩)) (below_size (zb29_ouseOk HB HI1129 GE1126)));replace BK1126:=Aside0.mk (KeepBut.blk hk (zB BK1126) NB1126_1129.out (by simp));replace HB:=Aside0.mk hb;replace HI1129:=Aside0.mk hi;(try clear hb);(try clear hk);(try clear hi);(try clear ho0);have hnb7:=NB1126_1129.out;have hnc7:=NB1129_1126.out;obtain⟨hcz8_0,hcz8_1,hcz8_2,hcz8_3,hcz8_4,hfz8_0,hfz8_1,hfz8_2,hfz8_3,hfz8_4⟩:=zC5 BK1126;obtain⟨Ao9,co9,eo9⟩:=Kd.N_slice HO1135.out;subst eo9))
 refine bodyPost_ret (results_cell_row rfl _ _ gb1126 72 #[.int .i64 t1130,.bool t1131,.int .i64 t1132,.slice Ao9 t1133.length co9,.int .i64 t1136] (0,0) _ rfl (by(with_reducible repeat(first|refine blk_drewN ?_ _|refine blk_drew ?_|refine blk_alloc ?_ _));refine qad (cs:=#[.int .i64 t1130,.bool t1131,.int .i64 t1132,.slice Ao9 t1133.length co9,.int .i64 0]) ?_ 4 _ rfl;(with_reducible repeat(first|refine blk_drewN ?_ _|refine blk_drew ?_|refine blk_alloc ?_ _));refine qad (cs:=#[.int .i64 t1130,.bool t1131,.int .i64 t1132,.slice none 0 0,.int .i64 0]) ?_ 3 _ rfl;(with_reducible repeat(first|refine blk_drewN ?_ _|refine blk_drew ?_|refine blk_alloc ?_ _));refine qad (cs:=#[.int .i64 t1130,.bool t1131,.int .i64 0,.slice none 0 0,.int .i64 0]) ?_ 2 _ rfl;(with_reducible repeat(first|refine blk_drewN ?_ _|refine blk_drew ?_|refine blk_alloc ?_ _));refine qad (cs:=#[.int .i64 t1130,.bool false,.int .i64 0,.slice none 0 0,.int .i64 0]) ?_ 1 _ rfl;(with_reducible repeat(first|refine blk_drewN ?_ _|refine blk_drew ?_|refine blk_alloc ?_ _));refine qad (cs:=#[.int .i64 0,.bool false,.int .i64 0,.slice none 0 0,.int .i64 0]) ?_ 0 _ rfl;(with_reducible repeat(first|refine blk_drewN ?_ _|refine blk_drew ?_|refine blk_alloc ?_ _));exact BK1126.out) Try.underlying72 rfl (by kernel_rfl)) rfl ?_
 exact⟨_,za16,by(with_reducible repeat(first|apply Kd.N_alloc|apply Kd.N_drewN|apply Kd.N_drew));exact Kd.N_mono (Kd.N_far (p:=⟨gb1126,4,none⟩) (Kd.N_far (p:=⟨gb1126,3,none⟩) (Kd.N_far (p:=⟨gb1126,2,none⟩) (Kd.N_far (p:=⟨gb1126,1,none⟩) (Kd.N_far (p:=⟨gb1126,0,none⟩) (Kd.N_mono HO1135.out (fun k_ hk=>(⟨hk,hk.2.1⟩:_∧k_≠gb1126))) (fun _ hk=>hk.2) (.int .i64 t1130)) (fun _ hk=>hk.2) (.bool t1131)) (fun _ hk=>hk.2) (.int .i64 t1132)) (fun _ hk=>hk.2) (.slice Ao9 t1133.length co9)) (fun _ hk=>hk.2) (.int .i64 t1136)) (fun _ hk=>hk.1.1),zb29_ouseOk HB HI1129 GE1126⟩
def impl_isHouse.f (a0:Int):Option (Bool):=(impl_in.f a0 1 3).bind fun t1138=>(some t1138)
set_option maxHeartbeats 8000000 in
set_option maxRecDepth 100000 in
theorem impl_isHouse.calls (a0:Int) (r:Bool) (w:World) (h:impl_isHouse.f a0=some r) :
  Calls Try.prog 78 #[.int .i64 a0] w fun e w'=>e=.returned (.bool r)∧Drawn0 w w':=by
 have H:((impl_in.f a0 1 3).bind fun t1138=>(some t1138))=some r:=h
 clear h
 replace H:=Option.bind_eq_some_iff.mp H
 obtain⟨t1138,A20,H⟩:=H
 replace H:(some t1138)=some r:=H
 have A2:=Aside0.mk A20
 clear A20
 obtain rfl:=Option.some.inj H
 go_enter Try.func78,Try.ntmps78
 go_wp2_with(first|((with_reducible refine qac (f:=66) rfl ?_);refine zF (some 4) Try.func66 #[.int .i64 a0,.int .i64 1,.int .i64 3] ?_;(with_reducible refine(impl_in.calls a0 1 3 t1138 _ A2.out).mono ?_);rintro e w' ⟨rfl,⟨nd,rfl⟩⟩;refine⟨_,rfl,?_⟩))
 go_ret
 exact⟨za43,za56⟩
def impl_LogOk_1.f (a0_0:Int) (a0_1:Int) (l0_2:List Int):Option (Bool):=(impl_RecOk.f a0_0 a0_1 l0_2).bind fun t1140=>(some (!t1140))
set_option maxHeartbeats 8000000 in
set_option maxRecDepth 100000 in
theorem impl_LogOk_1.calls (a0_0:Int) (a0_1:Int) (A0_2:Option Addr) (c0_2:Nat) (l0_2:List Int) (r:Bool) (w:World) (hr0_2:Kd.C (Kd.int .i64) w A0_2 l0_2.length l0_2) (hc0_2:l0_2.length≤c0_2) (h:impl_LogOk_1.f a0_0 a0_1 l0_2=some r) :
  Calls Try.prog 98 #[.agg #[.int .i64 a0_0,.int .i64 a0_1,.slice A0_2 l0_2.length c0_2]] w fun e w'=>e=.returned (.bool r)∧Below w.heap.size w w':=by
 have hu32:=Try.underlying32
 have HR0_2:=Aside0.mk hr0_2
 have HC0_2:=Aside0.mk hc0_2
 clear hr0_2 hc0_2
 have HB:=Aside0.mk (Below.refl w.heap.size w)
 have H:((impl_RecOk.f a0_0 a0_1 l0_2).bind fun t1140=>(some (!t1140)))=some r:=h
 clear h
 replace H:=Option.bind_eq_some_iff.mp H
 obtain⟨t1140,A20,H⟩:=H
 replace H:(some (!t1140))=some r:=H
 have A2:=Aside0.mk A20
 clear A20
 obtain rfl:=Option.some.inj H
 go_enter Try.func98,Try.ntmps98
 go_wp2_with(first|((with_reducible refine qae (N:=1) rfl ?_);refine zX (N:=1) (cs:=#[.int .i64 a0_0,.int .i64 a0_1,.slice A0_2 l0_2.length c0_2]) (t:=32) ?_;intro gb1139 hg w3 hbox hb;have BK1139:=Aside0.mk hbox;have GW1139:=zH (w:=w) hg (za4 HB);have GE1139:=GW1139;replace HB:=Aside0.mk (qab (za4 HB) hb);clear hb hbox hg;obtain⟨hcz4_0,hcz4_1,hcz4_2,hfz4_0,hfz4_1,hfz4_2⟩:=zC3 BK1139)|((with_reducible refine qac (f:=63) rfl ?_);refine zF (some 4) Try.func63 #[.agg #[.int .i64 a0_0,.int .i64 a0_1,.slice A0_2 l0_2.length c0_2]] ?_;(with_reducible refine(impl_RecOk.calls a0_0 a0_1 _ _ l0_2 t1140 _ ?side1 ?side2 A2.out).mono ?_);(case side1=>exact zR HR0_2 HB);(case side2=>exact HC0_2.out);rintro e w5 ⟨rfl,hb⟩;refine⟨_,rfl,?_⟩;replace BK1139:=Aside0.mk (qaa (zB BK1139) hb);replace HB:=Aside0.mk (qab (za1 HB GE1139) hb);(try clear hb)))
 go_ret
 exact⟨za16,za1 HB GE1139⟩
theorem drop_cons_T32 {l:List S32} {k:Nat} (h:k<l.length):l.drop k=rd_T32 l (k:Int) :: l.drop (k+1):=by
 rw[List.drop_eq_getElem_cons h]
 simp[rd_T32,List.getD_eq_getElem?_getD,List.getElem?_eq_getElem h]
set_option maxHeartbeats 4000000 in
set_option maxRecDepth 100000 in
theorem idx_T32 (p:S32→Option Bool) (g:Nat) (A_:Option Addr) (c_:Nat) (l0:List S32) (r:Bool) (w:World) (hr0:Kd.C k32 w A_ l0.length l0) (hc0:l0.length≤c_)
  (eg:∀args w,(callFunc g args).run Try.prog w=.ok (.enter g args) w)
  (hg:∀(W:World) (x:S32) (A2:Option Addr) (c2:Nat) (b:Bool),Kd.C (Kd.int .i64) W A2 (x.f2).length (x.f2)→(x.f2).length≤c2→p x=some b→Calls Try.prog g #[.agg #[.int .i64 (x.f0),.int .i64 (x.f1),.slice A2 (x.f2).length c2]] W fun e w'=>e=.returned (.bool b)∧Below W.heap.size W w') (h:anyO p l0=some r) :
  Calls Try.prog 110 #[.slice A_ l0.length c_,.func (.func g) #[] #[]] w (IdxB r w):=by
 have HR:=Aside0.mk hr0
 have HG:=Aside0.mk hg
 have HH:=Aside0.mk h
 clear hr0 hc0 hg h
 have hbig:l0.length≤9223372036854775807:=by
  have:=HR.out
  exact this.2.1
 go_enter Try.func110,Try.ntmps110
 go_wp2
 go_loopg [5,8] l0.length (fun gg _ s8 wr=>∃kk:Nat,kk≤l0.length∧l0.length - kk≤gg∧s8=.int .i64 kk∧Aside0 (Below w.heap.size w wr)∧Aside0 (anyO p (l0.drop kk)=some r))
 case atStart=>exact⟨0,Nat.zero_le _,by omega,rfl,⟨Below.refl _ _⟩,HH⟩
 case round=>
  obtain⟨kk,hkk,hg',rfl,BW,B⟩:=hrel
  clear HH
  by_cases hlt:kk<l0.length
  ·have hltz:(kk:Int)<(l0.length:Int):=by omega
   obtain⟨ad,A2,c2,e0,hx0,hx1,hx2,hl2,hi2⟩:=at_T32 HR.out (kk:Int) (by omega) hltz
   cases e0
   rw[Int.toNat_natCast] at hx0
   rw[Int.toNat_natCast] at hx1
   rw[Int.toNat_natCast] at hx2
   replace hx0:=(BW.out.cell (World.block_lt_of_cell? w _ hx0)).trans hx0
   replace hx1:=(BW.out.cell (World.block_lt_of_cell? w _ hx1)).trans hx1
   replace hx2:=(BW.out.cell (World.block_lt_of_cell? w _ hx2)).trans hx2
   have HI2:=Aside0.mk hi2
   have HL2:=Aside0.mk hl2
   clear hi2 hl2
   have B':=B.out
   rw[drop_cons_T32 hlt] at B'
   obtain⟨b,hb,hb'⟩:=anyO_cons B'
   clear B B'
   generalize rd_T32 l0 (kk:Int)=x at *
   have HB:=Aside0.mk hb
   clear hb
   rcases hb' with⟨rfl,rfl⟩|⟨rfl,hb'⟩
   ·have hcall:=HG.out wr x _ _ true (Kd.C_below HI2.out BW.out) HL2.out HB.out
    go_wp2_with(go_at_fn g;refine hcall.mono ?_;rintro e w' ⟨rfl,hbl⟩)
    go_ret
    exact⟨kk,rfl,by simp,qab BW.out hbl⟩
   ·have B2:=Aside0.mk hb'
    clear hb'
    have hcall:=HG.out wr x _ _ false (Kd.C_below HI2.out BW.out) HL2.out HB.out
    go_wp2_with(go_at_fn g;refine hcall.mono ?_;rintro e w' ⟨rfl,hbl⟩)
    go_roundg (l0.length - (kk+1))
    case measure=>omega
    case rel=>exact⟨kk+1,by omega,by omega,by go_num,⟨qab BW.out hbl⟩,B2⟩
  ·have hltz:¬(kk:Int)<(l0.length:Int):=by omega
   have B':=B.out
   rw[List.drop_eq_nil_of_le (by omega)] at B'
   have hr:false=r:=by injection B'
   subst hr
   clear B'
   go_wp2
   go_ret
   exact⟨-1,rfl,by decide,BW.out⟩
set_option maxHeartbeats 4000000 in
theorem contains_T32 (p:S32→Option Bool) (g:Nat) (A_:Option Addr) (c_:Nat) (l0:List S32) (r:Bool) (w:World) (hr0:Kd.C k32 w A_ l0.length l0) (hc0:l0.length≤c_)
  (eg:∀args w,(callFunc g args).run Try.prog w=.ok (.enter g args) w)
  (hg:∀(W:World) (x:S32) (A2:Option Addr) (c2:Nat) (b:Bool),Kd.C (Kd.int .i64) W A2 (x.f2).length (x.f2)→(x.f2).length≤c2→p x=some b→Calls Try.prog g #[.agg #[.int .i64 (x.f0),.int .i64 (x.f1),.slice A2 (x.f2).length c2]] W fun e w'=>e=.returned (.bool b)∧Below W.heap.size W w') (h:anyO p l0=some r) :
  Calls Try.prog 99 #[.slice A_ l0.length c_,.func (.func g) #[] #[]] w fun e w'=>e=.returned (.bool r)∧Below w.heap.size w w':=by
 have hI:=fun W=>idx_T32 p g A_ c_ l0 r W
 have HR:=Aside0.mk hr0
 have HG:=Aside0.mk hg
 have HH:=Aside0.mk h
 have HC:=Aside0.mk hc0
 clear hr0 hc0 hg h
 go_enter Try.func99,Try.ntmps99
 go_wp2_with(go_at_call 110;refine(hI _ HR.out HC.out eg HG.out HH.out).mono ?_;rintro e w' ⟨i,rfl,hi,hb⟩)
 go_ret
 exact⟨by rw[←hi];rfl,hb⟩
def impl_LogOk.f (l0_0:List (S32)) (a0_1:Int):Option (Bool):=if(l0_0.length:Int)≤40 then((impl_in.f a0_1 0 (l0_0.length:Int)).bind fun t=>if t=true then((anyO (fun x:S32=>impl_LogOk_1.f x.f0 x.f1 x.f2) l0_0).bind fun a=>some (!a)) else some false) else some false
set_option maxHeartbeats 8000000 in
set_option maxRecDepth 100000 in
theorem impl_LogOk.calls (A0_0:Option Addr) (c0_0:Nat) (l0_0:List (S32)) (a0_1:Int) (r:Bool) (w:World) (hr0_0:Kd.C k32 w A0_0 l0_0.length l0_0) (hc0_0:l0_0.length≤c0_0) (h:impl_LogOk.f l0_0 a0_1=some r) :
  Calls Try.prog 79 #[.agg #[.slice A0_0 l0_0.length c0_0,.int .i64 a0_1]] w fun e w'=>e=.returned (.bool r)∧Below w.heap.size w w':=by
 have HR:=Aside0.mk hr0_0
 have HC:=Aside0.mk hc0_0
 have c1:=fun(W:World) (r':Bool) (hr:Kd.C k32 W A0_0 l0_0.length l0_0) (h:anyO (fun x:S32=>impl_LogOk_1.f x.f0 x.f1 x.f2) l0_0=some r')=>contains_T32 (fun x:S32=>impl_LogOk_1.f x.f0 x.f1 x.f2) 98 A0_0 c0_0 l0_0 r' W hr HC.out (enters_of Try.func98 (by kernel_rfl) rfl) (fun W x A c b h1 h2 hb=>(impl_LogOk_1.calls x.f0 x.f1 A c x.f2 b W h1 h2 hb).mono fun e w' ⟨he,hd⟩=>⟨he,hd⟩) h
 have C1:=Aside0.mk c1
 clear hr0_0 hc0_0 c1
 unfold impl_LogOk.f at h
 by_cases h3:(l0_0.length:Int)≤40
 ·rw[if_pos h3] at h
  have h3b:decide ((l0_0.length:Int)≤40)=true:=decide_eq_true h3
  have h3c:decide (l0_0.length≤40)=true:=decide_eq_true (by omega)
  clear h3
  obtain⟨t,ht,h⟩:=Option.bind_eq_some_iff.mp h
  have HT:=Aside0.mk ht
  clear ht
  cases t with
  |false=>
   rw[if_neg (by decide)] at h
   injection h with h
   subst h
   go_enter Try.func79,Try.ntmps79
   go_wp2_with(go_at_call 66;refine(impl_in.calls _ _ _ false _ HT.out).mono ?_;rintro e w' ⟨rfl,⟨nd,rfl⟩⟩)
   go_ret
   exact⟨rfl,qaq (below_alloc (Below.refl _ _) _) _⟩
  |true=>
   rw[if_pos rfl] at h
   obtain⟨a,ha,h⟩:=Option.bind_eq_some_iff.mp h
   injection h with h
   subst h
   have HA:=Aside0.mk ha
   clear ha
   go_enter Try.func79,Try.ntmps79
   go_wp2_with(first|(go_at_call 66;refine(impl_in.calls _ _ _ true _ HT.out).mono ?_;rintro e w' ⟨rfl,⟨nd,rfl⟩⟩)|(go_at_call 99;refine(C1.out _ a ?side1 HA.out).mono ?_;(case side1=>repeat(first|exact HR.out|(with_reducible refine Kd.C_alloc ?_ _)|(with_reducible refine Kd.C_drewN ?_ _)|(with_reducible refine Kd.C_drew ?_)));rintro e w' ⟨rfl,hb⟩))
   go_ret
   exact⟨rfl,qab (qaq (below_alloc (Below.refl _ _) _) _) hb⟩
 ·rw[if_neg h3] at h
  injection h with h
  subst h
  have h3b:decide ((l0_0.length:Int)≤40)=false:=decide_eq_false h3
  have h3c:decide (l0_0.length≤40)=false:=decide_eq_false (by omega)
  clear h3
  go_enter Try.func79,Try.ntmps79
  go_wp2
  go_ret
  exact⟨rfl,below_alloc (Below.refl _ _) _⟩
def impl_HouseOk.f (k:Nat) (a0_0:Int) (a0_1:Bool) (a0_2:Int) (l0_3:List (S32)) (a0_4:Int):Option (Bool):=(impl_isHouse.f a0_0).bind fun t1142=>(if t1142=true then((impl_LogOk.f l0_3 a0_4).bind fun t1143=>(if t1143=true then((impl_StockOf.f k a0_2 l0_3).bind fun bt1144=>(some bt1144.2.2)) else(some false))) else(some false))
theorem impl_HouseOk.mono:∀a0 a1 a2 a3 a4 k,LeO (impl_HouseOk.f k a0 a1 a2 a3 a4) (impl_HouseOk.f (k+1) a0 a1 a2 a3 a4):=by
 intro a0 a1 a2 a3 a4 k
 unfold impl_HouseOk.f
 repeat' first
   |(with_reducible exact impl_StockOf.mono _ _ _)
   |(with_reducible exact LeO.refl _)
   |(with_reducible exact LeO.none _)
   |(with_reducible refine LeO.ite ?_ ?_)
   |(with_reducible refine LeO.bind ?_ (fun _=>?_))
   |exact impl_StockOf.mono _ _ _
   |exact LeO.none _
   |refine LeO.ite ?_ ?_
   |refine LeO.bind ?_ (fun _=>?_)
set_option maxHeartbeats 8000000 in
set_option maxRecDepth 100000 in
theorem impl_HouseOk.calls (k:Nat) (a0_0:Int) (a0_1:Bool) (a0_2:Int) (A0_3:Option Addr) (c0_3:Nat) (l0_3:List (S32)) (a0_4:Int) (r:Bool) (w:World) (hr0_3:Kd.C k32 w A0_3 l0_3.length l0_3) (hc0_3:l0_3.length≤c0_3) (h:impl_HouseOk.f k a0_0 a0_1 a0_2 l0_3 a0_4=some r) :
  Calls Try.prog 44 #[.agg #[.int .i64 a0_0,.bool a0_1,.int .i64 a0_2,.slice A0_3 l0_3.length c0_3,.int .i64 a0_4]] w fun e w'=>e=.returned (.bool r)∧Below w.heap.size w w':=by
 have hu72:=Try.underlying72
 have hu70:=Try.underlying70
 have hu38:=Try.underlying38
 have HR0_3:=Aside0.mk hr0_3
 have HC0_3:=Aside0.mk hc0_3
 clear hr0_3 hc0_3
 have HB:=Aside0.mk (Below.refl w.heap.size w)
 have H:((impl_isHouse.f a0_0).bind fun t1142=>(if t1142=true then((impl_LogOk.f l0_3 a0_4).bind fun t1143=>(if t1143=true then((impl_StockOf.f k a0_2 l0_3).bind fun bt1144=>(some bt1144.2.2)) else(some false))) else(some false)))=some r:=h
 clear h
 replace H:=Option.bind_eq_some_iff.mp H
 obtain⟨t1142,A20,H⟩:=H
 replace H:(if t1142=true then((impl_LogOk.f l0_3 a0_4).bind fun t1143=>(if t1143=true then((impl_StockOf.f k a0_2 l0_3).bind fun bt1144=>(some bt1144.2.2)) else(some false))) else(some false))=some r:=H
 have A2:=Aside0.mk A20
 clear A20
 by_cases c3:t1142=true
 ·subst c3
  have H1:((impl_LogOk.f l0_3 a0_4).bind fun t1143=>(if t1143=true then((impl_StockOf.f k a0_2 l0_3).bind fun bt1144=>(some bt1144.2.2)) else(some false)))=some r:=by rw[if_pos rfl] at H;exact H
  clear H
  have H:=H1
  clear H1
  replace H:=Option.bind_eq_some_iff.mp H
  obtain⟨t1143,A40,H⟩:=H
  replace H:(if t1143=true then((impl_StockOf.f k a0_2 l0_3).bind fun bt1144=>(some bt1144.2.2)) else(some false))=some r:=H
  have A4:=Aside0.mk A40
  clear A40
  by_cases c5:t1143=true
  ·subst c5
   have H1:((impl_StockOf.f k a0_2 l0_3).bind fun bt1144=>(some bt1144.2.2))=some r:=by rw[if_pos rfl] at H;exact H
   clear H
   have H:=H1
   clear H1
   replace H:=Option.bind_eq_some_iff.mp H
   obtain⟨⟨t1144,t1145,t1148⟩,A60,H⟩:=H
   replace H:(some t1148)=some r:=H
   have A6:=Aside0.mk A60
   clear A60
   obtain rfl:=Option.some.inj H
   go_enter Try.func44,Try.ntmps44
   go_wp2_with(first|((with_reducible refine qae (N:=1) rfl ?_);refine zX (N:=1) (cs:=#[.int .i64 a0_0,.bool a0_1,.int .i64 a0_2,.slice A0_3 l0_3.length c0_3,.int .i64 a0_4]) (t:=72) ?_;intro gb1141 hg w7 hbox hb;have BK1141:=Aside0.mk hbox;have GW1141:=zH (w:=w) hg (za4 HB);have GE1141:=GW1141;replace HB:=Aside0.mk (qab (za4 HB) hb);clear hb hbox hg;obtain⟨hcz8_0,hcz8_1,hcz8_2,hcz8_3,hcz8_4,hfz8_0,hfz8_1,hfz8_2,hfz8_3,hfz8_4⟩:=zC5 BK1141)|((with_reducible refine qac (f:=78) rfl ?_);refine zF (some 7) Try.func78 #[.int .i64 a0_0] ?_;(with_reducible refine(impl_isHouse.calls a0_0 true _ A2.out).mono ?_);rintro e w' ⟨rfl,⟨nd,rfl⟩⟩;refine⟨_,rfl,?_⟩;(try(rw[drewN_self w7];generalize hq_:World.drewN w7 _=w7;replace BK1141:Aside0 (w7.heap[gb1141]?=some (.cells #[.int .i64 a0_0,.bool a0_1,.int .i64 a0_2,.slice A0_3 l0_3.length c0_3,.int .i64 a0_4] 72 (0,0))):=⟨by rw[←hq_];exact(zB BK1141)⟩;replace HB:Aside0 (Below w.heap.size w w7):=⟨by rw[←hq_];exact(za1 HB GE1141)⟩;clear hq_;have hczugb1141_0:w7.cell? ⟨gb1141,0,none⟩=some _:=(blk_cell BK1141.out 0).trans rfl;have hfzugb1141_0:=blk_frozen BK1141.out 0;have hczugb1141_1:w7.cell? ⟨gb1141,1,none⟩=some _:=(blk_cell BK1141.out 1).trans rfl;have hfzugb1141_1:=blk_frozen BK1141.out 1;have hczugb1141_2:w7.cell? ⟨gb1141,2,none⟩=some _:=(blk_cell BK1141.out 2).trans rfl;have hfzugb1141_2:=blk_frozen BK1141.out 2;have hczugb1141_3:w7.cell? ⟨gb1141,3,none⟩=some _:=(blk_cell BK1141.out 3).trans rfl;have hfzugb1141_3:=blk_frozen BK1141.out 3;have hczugb1141_4:w7.cell? ⟨gb1141,4,none⟩=some _:=(blk_cell BK1141.out 4).trans rfl;have hfzugb1141_4:=blk_frozen BK1141.out 4)))|(go_at_call 79;(with_reducible refine(impl_LogOk.calls _ _ l0_3 a0_4 true _ ?side1 ?side2 A4.out).mono ?_);(case side1=>exact zR HR0_3 HB);(case side2=>exact HC0_3.out);rintro e w9 ⟨rfl,hb⟩;replace BK1141:=Aside0.mk (qaa (zB BK1141) hb);replace HB:=Aside0.mk (qab (za1 HB GE1141) hb);(try clear hb);obtain⟨hcz10_0,hcz10_1,hcz10_2,hcz10_3,hcz10_4,hfz10_0,hfz10_1,hfz10_2,hfz10_3,hfz10_4⟩:=zC5 BK1141)|((with_reducible refine qac (f:=22) rfl ?_);refine zF (some 21) Try.func22 #[.int .i64 a0_2,.slice A0_3 l0_3.length c0_3] ?_;(with_reducible refine(impl_StockOf.calls k a0_2 _ _ l0_3 t1144 t1145 t1148 _ ?side1 ?side2 A6.out).mono ?_);(case side1=>exact zR HR0_3 HB);(case side2=>exact HC0_3.out);rintro e w11 ⟨v1146,rfl,ho0,hb⟩;refine⟨_,rfl,?_⟩;have HO1147:=Aside0.mk (Kd.R_lower ho0 (below_size (za1 HB GE1141)));replace BK1141:=Aside0.mk (qaa (zB BK1141) hb);replace HB:=Aside0.mk (qab (za1 HB GE1141) hb);(try clear hb);(try clear ho0))|((with_reducible refine qae (N:=3) rfl ?_);refine zX (N:=3) (cs:=#[.int .i64 0,.slice none 0 0]) (t:=38) ?_;intro gb1149 hg w12 hbox hb;replace HO1147:=Aside0.mk (Kd.R_below (za5 HO1147) hb);have BK1149:=Aside0.mk hbox;have GW1149:=zH (w:=w) hg (za1 HB GE1141);have GE1149:=GW1149;replace HB:=Aside0.mk (qab (za1 HB GE1141) hb);have NB1141_1149:=zL BK1141 hg;have NB1149_1141:=zG BK1141 hg;replace BK1141:=Aside0.mk (qaa (zB BK1141) hb);clear hb hbox hg;have hnb13:=NB1149_1141.out;have hnc13:=NB1141_1149.out;obtain⟨hcz14_0,hcz14_1,hfz14_0,hfz14_1⟩:=zC2 BK1149;obtain⟨Ao15,co15,eo15⟩:=Kd.R_slice HO1147.out;subst eo15))
   go_ret
   exact⟨za16,za2 HB GE1141 GE1149⟩
  ·replace c5:=Bool.eq_false_iff.mpr c5
   subst c5
   have H1:(some false)=some r:=by rw[if_neg (show ¬(false=true) by decide)] at H;exact H
   clear H
   have H:=H1
   clear H1
   obtain rfl:=Option.some.inj H
   go_enter Try.func44,Try.ntmps44
   go_wp2_with(first|((with_reducible refine qae (N:=1) rfl ?_);refine zX (N:=1) (cs:=#[.int .i64 a0_0,.bool a0_1,.int .i64 a0_2,.slice A0_3 l0_3.length c0_3,.int .i64 a0_4]) (t:=72) ?_;intro gb1141 hg w16 hbox hb;have BK1141:=Aside0.mk hbox;have GW1141:=zH (w:=w) hg (za4 HB);have GE1141:=GW1141;replace HB:=Aside0.mk (qab (za4 HB) hb);clear hb hbox hg;obtain⟨hcz17_0,hcz17_1,hcz17_2,hcz17_3,hcz17_4,hfz17_0,hfz17_1,hfz17_2,hfz17_3,hfz17_4⟩:=zC5 BK1141)|((with_reducible refine qac (f:=78) rfl ?_);refine zF (some 7) Try.func78 #[.int .i64 a0_0] ?_;(with_reducible refine(impl_isHouse.calls a0_0 true _ A2.out).mono ?_);rintro e w' ⟨rfl,⟨nd,rfl⟩⟩;refine⟨_,rfl,?_⟩)|(go_at_call 79;(with_reducible refine(impl_LogOk.calls _ _ l0_3 a0_4 false _ ?side1 ?side2 A4.out).mono ?_);(case side1=>repeat(first|exact(Kd.C_below HR0_3.out (za1 HB GE1141))|(with_reducible refine Kd.C_alloc ?_ _)|(with_reducible refine Kd.C_drewN ?_ _)|(with_reducible refine Kd.C_drew ?_)));(case side2=>exact HC0_3.out);rintro e w18 ⟨rfl,hb⟩;replace BK1141:=Aside0.mk (qaa (zB BK1141) hb);replace HB:=Aside0.mk (qab (za1 HB GE1141) hb);(try clear hb)))
   go_ret
   exact⟨za16,za1 HB GE1141⟩
 ·replace c3:=Bool.eq_false_iff.mpr c3
  subst c3
  have H1:(some false)=some r:=by rw[if_neg (show ¬(false=true) by decide)] at H;exact H
  clear H
  have H:=H1
  clear H1
  obtain rfl:=Option.some.inj H
  go_enter Try.func44,Try.ntmps44
  go_wp2_with(first|((with_reducible refine qae (N:=1) rfl ?_);refine zX (N:=1) (cs:=#[.int .i64 a0_0,.bool a0_1,.int .i64 a0_2,.slice A0_3 l0_3.length c0_3,.int .i64 a0_4]) (t:=72) ?_;intro gb1141 hg w19 hbox hb;have BK1141:=Aside0.mk hbox;have GW1141:=zH (w:=w) hg (za4 HB);have GE1141:=GW1141;replace HB:=Aside0.mk (qab (za4 HB) hb);clear hb hbox hg;obtain⟨hcz20_0,hcz20_1,hcz20_2,hcz20_3,hcz20_4,hfz20_0,hfz20_1,hfz20_2,hfz20_3,hfz20_4⟩:=zC5 BK1141)|((with_reducible refine qac (f:=78) rfl ?_);refine zF (some 7) Try.func78 #[.int .i64 a0_0] ?_;(with_reducible refine(impl_isHouse.calls a0_0 false _ A2.out).mono ?_);rintro e w' ⟨rfl,⟨nd,rfl⟩⟩;refine⟨_,rfl,?_⟩))
  go_ret
  exact⟨za16,za1 HB GE1141⟩
def spec_LogOk.l0:Nat→Int→List (S32)→Int→Option (Bool)
 |0,_,_,_=>none
 |k+1,x3,x1151000,x1151001=>if x3<(x1151000.length:Int) then(if 0≤x3 then((spec_RecOk.f k ((rd_T32 x1151000 x3).f0) ((rd_T32 x1151000 x3).f1) ((rd_T32 x1151000 x3).f2)).bind fun t1152=>(if t1152=true then(spec_LogOk.l0 k (wrap64 (x3+1)) x1151000 x1151001) else(some false))) else(none)) else(if(x1151000.length:Int)≤40 then((spec_l6In.f x1151001 0 (x1151000.length:Int)).bind fun t1153=>(some t1153)) else(some false))
def spec_LogOk.f (k:Nat) (l0_0:List (S32)) (a0_1:Int):Option (Bool):=spec_LogOk.l0 k 0 l0_0 a0_1
theorem spec_LogOk.mono_l:∀k,(∀y0 y1 y2,LeO (spec_LogOk.l0 k y0 y1 y2) (spec_LogOk.l0 (k+1) y0 y1 y2))
 |0=>fun _ _ _ r h=>by simp[spec_LogOk.l0] at h
 |k+1=>by
  have ih0:=spec_LogOk.mono_l k
  ·intro y0 y1 y2
   unfold spec_LogOk.l0
   repeat' first
   |(with_reducible exact ih0 _ _ _)
   |(with_reducible exact spec_RecOk.mono _ _ _ _)
   |(with_reducible exact LeO.refl _)
   |(with_reducible exact LeO.none _)
   |(with_reducible refine LeO.ite ?_ ?_)
   |(with_reducible refine LeO.bind ?_ (fun _=>?_))
   |exact ih0 _ _ _
   |exact spec_RecOk.mono _ _ _ _
   |exact LeO.none _
   |refine LeO.ite ?_ ?_
   |refine LeO.bind ?_ (fun _=>?_)
theorem spec_LogOk.mono:∀a0 a1 k,LeO (spec_LogOk.f k a0 a1) (spec_LogOk.f (k+1) a0 a1):=by
 intro a0 a1 k
 have ih0:=spec_LogOk.mono_l k
 unfold spec_LogOk.f
 repeat' first
   |(with_reducible exact ih0 _ _ _)
   |(with_reducible exact spec_RecOk.mono _ _ _ _)
   |(with_reducible exact LeO.refl _)
   |(with_reducible exact LeO.none _)
   |(with_reducible refine LeO.ite ?_ ?_)
   |(with_reducible refine LeO.bind ?_ (fun _=>?_))
   |exact ih0 _ _ _
   |exact spec_RecOk.mono _ _ _ _
   |exact LeO.none _
   |refine LeO.ite ?_ ?_
   |refine LeO.bind ?_ (fun _=>?_)
set_option maxHeartbeats 8000000 in
set_option maxRecDepth 100000 in
theorem spec_LogOk.calls (k:Nat) (A0_0:Option Addr) (c0_0:Nat) (l0_0:List (S32)) (a0_1:Int) (r:Bool) (w:World) (hr0_0:Kd.C k32 w A0_0 l0_0.length l0_0) (hc0_0:l0_0.length≤c0_0) (h:spec_LogOk.f k l0_0 a0_1=some r) :
  Calls Try.prog 81 #[.agg #[.slice A0_0 l0_0.length c0_0,.int .i64 a0_1]] w fun e w'=>e=.returned (.bool r)∧Below w.heap.size w w':=by
 have hu70:=Try.underlying70
 have hu32:=Try.underlying32
 have HR0_0:=Aside0.mk hr0_0
 have HC0_0:=Aside0.mk hc0_0
 clear hr0_0 hc0_0
 have HB:=Aside0.mk (Below.refl w.heap.size w)
 have H:(spec_LogOk.l0 k 0 l0_0 a0_1)=some r:=h
 clear h
 have H':=Aside0.mk H
 clear H
 go_enter Try.func81,Try.ntmps81
 go_wp2_with(first|((with_reducible refine qae (N:=1) rfl ?_);(try(refine gate_guard (by rfl) ?_;dsimp only));refine zX (N:=1) (cs:=#[.slice A0_0 l0_0.length c0_0,.int .i64 a0_1]) (t:=70) ?_;intro gb1150 hg w2 hbox hb;have BK1150:=Aside0.mk hbox;have GW1150:=zH (w:=w) hg (za4 HB);have GE1150:=GW1150;replace HB:=Aside0.mk (qab (za4 HB) hb);clear hb hbox hg))
 go_loopg [3] k (fun kq v3 w'=>∃(x3_1:Int),v3=.int .i64 x3_1∧Aside0 (spec_LogOk.l0 kq x3_1 l0_0 a0_1=some r)∧Aside0 (kq≤k)∧Aside0 (w'.heap[gb1150]?=some (.cells #[(.slice A0_0 l0_0.length c0_0),.int .i64 a0_1] 70 (0,0)))∧Aside0 (Below w.heap.size w w'))
 case atStart=>exact⟨(0),(za43),H',⟨Nat.le_refl _⟩,⟨za24 BK1150⟩,⟨za1 HB GE1150⟩⟩
 case round=>
  clear H'
  try clear p2
  obtain⟨x3_1,rfl,HA,HK1,BK1150,HB⟩:=hrel
  cases gk with
  |zero=>exact absurd HA.out (by simp[spec_LogOk.l0])
  |succ k1=>
   have H:=HA.out
   clear HA
   simp only[spec_LogOk.l0] at H
   by_cases c3:x3_1<(l0_0.length:Int)
   ·rw[if_pos c3] at H
    have c3b0:decide (x3_1<(l0_0.length:Int))=true:=decide_eq_true c3
    clear c3
    by_cases c4:0≤x3_1
    ·rw[if_pos c4] at H
     have c4b0:decide (0≤x3_1)=true:=decide_eq_true c4
     clear c4
     replace H:=Option.bind_eq_some_iff.mp H
     obtain⟨t1152,A50,H⟩:=H
     replace H:(if t1152=true then(spec_LogOk.l0 k1 (wrap64 (x3_1+1)) l0_0 a0_1) else(some false))=some r:=H
     have A5:=Aside0.mk A50
     clear A50
     by_cases c6:t1152=true
     ·subst c6
      have H1:(spec_LogOk.l0 k1 (wrap64 (x3_1+1)) l0_0 a0_1)=some r:=by rw[if_pos rfl] at H;exact H
      clear H
      have H:=H1
      clear H1
      have H':=Aside0.mk H
      clear H
      obtain⟨hcz7_0,hcz7_1,hfz7_0,hfz7_1⟩:=zC2 BK1150
      have p1151:0≤(x3_1:Int):=of_decide_eq_true (za9)
      have q1151:x3_1<(l0_0.length:Int):=of_decide_eq_true (za9)
      obtain⟨ad1151,A1151_2,c1151_2,e1151,hx1151_0,hx1151_1,hx1151_2,hl1151_2,hi1151_2⟩:=at_T32 HR0_0.out x3_1 p1151 q1151
      cases e1151
      have hxo1151_2:=Aside0.mk hx1151_2
      replace hx1151_0:=(HB.out.cell (World.block_lt_of_cell? w _ hx1151_0)).trans hx1151_0
      replace hx1151_1:=(HB.out.cell (World.block_lt_of_cell? w _ hx1151_1)).trans hx1151_1
      replace hx1151_2:=(HB.out.cell (World.block_lt_of_cell? w _ hx1151_2)).trans hx1151_2
      have HR1151_2:=Aside0.mk hi1151_2
      have HC1151_2:=Aside0.mk hl1151_2
      clear hi1151_2 hl1151_2
      replace p1151:=eq_true p1151
      replace q1151:=eq_true q1151
      go_wp2_with(first|((with_reducible refine qac (f:=84) rfl ?_);refine zF (some 16) Try.func84 #[.agg #[.int .i64 ((rd_T32 l0_0 x3_1).f0),.int .i64 ((rd_T32 l0_0 x3_1).f1),.slice A1151_2 ((rd_T32 l0_0 x3_1).f2).length c1151_2]] ?_;(with_reducible refine(spec_RecOk.calls k1 ((rd_T32 l0_0 x3_1).f0) ((rd_T32 l0_0 x3_1).f1) _ _ ((rd_T32 l0_0 x3_1).f2) true _ ?side1 ?side2 A5.out).mono ?_);(case side1=>exact zR HR1151_2 HB);(case side2=>exact HC1151_2.out);rintro e w8 ⟨rfl,hb⟩;refine⟨_,rfl,?_⟩;replace BK1150:=Aside0.mk (qaa (zB BK1150) hb);replace HB:=Aside0.mk (qab (za1 HB GE1150) hb);(try clear hb)))
      go_roundg k1
      case measure=>have:=HK1.out;omega
      case rel=>exact⟨(wrap64 (x3_1+1)),(za43),H',⟨by have:=HK1.out;omega⟩,⟨za24 BK1150⟩,⟨za1 HB GE1150⟩⟩
     ·replace c6:=Bool.eq_false_iff.mpr c6
      subst c6
      have H1:(some false)=some r:=by rw[if_neg (show ¬(false=true) by decide)] at H;exact H
      clear H
      have H:=H1
      clear H1
      obtain rfl:=Option.some.inj H
      obtain⟨hcz9_0,hcz9_1,hfz9_0,hfz9_1⟩:=zC2 BK1150
      have p1151:0≤(x3_1:Int):=of_decide_eq_true (za9)
      have q1151:x3_1<(l0_0.length:Int):=of_decide_eq_true (za9)
      obtain⟨ad1151,A1151_2,c1151_2,e1151,hx1151_0,hx1151_1,hx1151_2,hl1151_2,hi1151_2⟩:=at_T32 HR0_0.out x3_1 p1151 q1151
      cases e1151
      have hxo1151_2:=Aside0.mk hx1151_2
      replace hx1151_0:=(HB.out.cell (World.block_lt_of_cell? w _ hx1151_0)).trans hx1151_0
      replace hx1151_1:=(HB.out.cell (World.block_lt_of_cell? w _ hx1151_1)).trans hx1151_1
      replace hx1151_2:=(HB.out.cell (World.block_lt_of_cell? w _ hx1151_2)).trans hx1151_2
      have HR1151_2:=Aside0.mk hi1151_2
      have HC1151_2:=Aside0.mk hl1151_2
      clear hi1151_2 hl1151_2
      replace p1151:=eq_true p1151
      replace q1151:=eq_true q1151
      go_wp2_with(first|((with_reducible refine qac (f:=84) rfl ?_);refine zF (some 16) Try.func84 #[.agg #[.int .i64 ((rd_T32 l0_0 x3_1).f0),.int .i64 ((rd_T32 l0_0 x3_1).f1),.slice A1151_2 ((rd_T32 l0_0 x3_1).f2).length c1151_2]] ?_;(with_reducible refine(spec_RecOk.calls k1 ((rd_T32 l0_0 x3_1).f0) ((rd_T32 l0_0 x3_1).f1) _ _ ((rd_T32 l0_0 x3_1).f2) false _ ?side1 ?side2 A5.out).mono ?_);(case side1=>exact zR HR1151_2 HB);(case side2=>exact HC1151_2.out);rintro e w10 ⟨rfl,hb⟩;refine⟨_,rfl,?_⟩;replace BK1150:=Aside0.mk (qaa (zB BK1150) hb);replace HB:=Aside0.mk (qab (za1 HB GE1150) hb);(try clear hb)))
      go_ret
      exact⟨za16,za1 HB GE1150⟩
    ·rw[if_neg c4] at H
     exact absurd H (by simp)
   ·rw[if_neg c3] at H
    have c3b0:decide (x3_1<(l0_0.length:Int))=false:=decide_eq_false c3
    clear c3
    by_cases c11:(l0_0.length:Int)≤40
    ·rw[if_pos c11] at H
     have c11b0:decide ((l0_0.length:Int)≤40)=true:=decide_eq_true c11
     have c11b1:decide (l0_0.length≤40)=true:=decide_eq_true (by omega)
     clear c11
     replace H:=Option.bind_eq_some_iff.mp H
     obtain⟨t1153,A120,H⟩:=H
     replace H:(some t1153)=some r:=H
     have A12:=Aside0.mk A120
     clear A120
     obtain rfl:=Option.some.inj H
     obtain⟨hcz13_0,hcz13_1,hfz13_0,hfz13_1⟩:=zC2 BK1150
     go_wp2_with(first|(go_at_call 80;(with_reducible refine(spec_l6In.calls a0_1 0 (l0_0.length:Int) t1153 _ A12.out).mono ?_);rintro e w' ⟨rfl,⟨nd,rfl⟩⟩))
     go_ret
     exact⟨za16,za1 HB GE1150⟩
    ·rw[if_neg c11] at H
     have c11b0:decide ((l0_0.length:Int)≤40)=false:=decide_eq_false c11
     have c11b1:decide (l0_0.length≤40)=false:=decide_eq_false (by omega)
     clear c11
     obtain rfl:=Option.some.inj H
     obtain⟨hcz14_0,hcz14_1,hfz14_0,hfz14_1⟩:=zC2 BK1150
     go_wp2
     go_ret
     exact⟨za16,za1 HB GE1150⟩
end Go.Proofs.Ytmbdphefnalenaa.Print
