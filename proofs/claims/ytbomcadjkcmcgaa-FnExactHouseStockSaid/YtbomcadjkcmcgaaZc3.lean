-- Written by squeeze.py: not trusted, Lean checks it.
import Derived.Test.YtbomcadjkcmcgaaZK
import Derived.Test.YtbomcadjkcmcgaaZc2
namespace Go.Proofs.Ytbomcadjkcmcgaa.Print
open Go.RowKit Go.Proofs.YtbomcadjkcmcgaaW.PrintWords Go.Proofs.YtbomcadjkcmcgaaW.PrintLast Go.Proofs.YtbomcadjkcmcgaaW.PrintMore
attribute [local go_sem] max2_int min2_int max_two min_two max_three min_three max_four min_four
set_option linter.unusedVariables false
set_option linter.unusedSimpArgs false
def laws_markRecS.go (k:Nat):List S62→Int→Option Int
 |[],x=>some x
 |y :: ys,x=>(laws_markIntS.f k y.f2 (wrap64 (wrap64 (x+1)+1))).bind fun t=>laws_markRecS.go k ys t.1
def laws_markRecS.f (k:Nat) (l0:List S62) (a1:Int):Option Int:=laws_markRecS.go k l0 a1
theorem laws_markRecS.mono_go (k:Nat):∀l x,LeO (laws_markRecS.go k l x) (laws_markRecS.go (k+1) l x)
 |[],_=>LeO.refl _
 |_ :: ys,_=>LeO.bind (laws_markIntS.mono _ _ _) (fun t=>laws_markRecS.mono_go k ys t.1)
theorem laws_markRecS.mono:∀a0 a1 k,LeO (laws_markRecS.f k a0 a1) (laws_markRecS.f (k+1) a0 a1):=fun a0 a1 k=>laws_markRecS.mono_go k a0 a1
theorem laws_markRecS.drop {l:List S62} {i:Nat} (h:i<l.length):l.drop i=rd_T62 l (i:Int) :: l.drop (i+1):=by
 rw[List.drop_eq_getElem_cons h];simp[rd_T62,List.getD_eq_getElem?_getD,List.getElem?_eq_getElem h]
theorem laws_markRecS.drop_set {l:List S62} {i:Nat} (x:S62):(l.set i x).drop (i+1)=l.drop (i+1):=by
 rw[List.drop_set];simp
theorem laws_markRecS.rd_set {l:List S62} {i:Nat} (x:S62) (h:i<l.length):rd_T62 (l.set i x) (i:Int)=x:=by
 simp[rd_T62,List.getD_eq_getElem?_getD,List.getElem?_set,h]
theorem laws_markRecS.put {W:World} {base g n cap:Nat} {ok:Nat→Prop} {l:List S62} (h:Kd.S k62 62 W base ok (.slice (some ⟨g,0,none⟩) n cap) l) {i:Nat} (hi:i<n) (x:Int) :
  (W.frozen? ⟨g,i*3,none⟩=false∧W.frozen? ⟨g,i*3+1,none⟩=false∧(∃u,W.cell? ⟨g,i*3,none⟩=some u)∧(∃u,W.cell? ⟨g,i*3+1,none⟩=some u))∧
  (Kd.S k62 62 (W.setCell ⟨g,i*3,none⟩ (.int .i64 x)) base ok (.slice (some ⟨g,0,none⟩) n cap) (l.set i ⟨x,(rd_T62 l i).f1,(rd_T62 l i).f2⟩)∧W.grownBy (W.setCell ⟨g,i*3,none⟩ (.int .i64 x)) (some g))∧
  (Kd.S k62 62 (W.setCell ⟨g,i*3+1,none⟩ (.int .i64 x)) base ok (.slice (some ⟨g,0,none⟩) n cap) (l.set i ⟨(rd_T62 l i).f0,x,(rd_T62 l i).f2⟩)∧W.grownBy (W.setCell ⟨g,i*3+1,none⟩ (.int .i64 x)) (some g)):=by
 have hX:Kd.S k62 62 W base (fun k_=>ok k_∧¬(fun _:Nat=>False) k_) (.slice (some ⟨g,0,none⟩) n cap) l:=Kd.S_mono h (fun k_ hk=>⟨hk,fun e=>e⟩);obtain⟨oki,ce,hcl,hM,hcc,hfr,hoki,hH⟩:=Kd.S_elem hX z62 (i:Int) (by omega) (by omega);obtain⟨ve,rfl,ge⟩:=k62_openM hM;have h1:=Kd.S_seg hH (by omega) (by omega) (seg:=[.int .i64 x]) (j:=0) (show 1≤3 from by decide) (x':=(⟨x,(rd_T62 l i).f1,(rd_T62 l i).f2⟩:S62)) (k62_mkM _ _ _ (⟨x,(rd_T62 l i).f1,(rd_T62 l i).f2⟩:S62) (Kd.R_mono ge (fun _ h_=>Or.inl h_))) (fun _ hk=>hk) (fun k_ hk_=>hk_.elim);have h2:=Kd.S_seg hH (by omega) (by omega) (seg:=[.int .i64 x]) (j:=1) (show 2≤3 from by decide) (x':=(⟨(rd_T62 l i).f0,x,(rd_T62 l i).f2⟩:S62)) (k62_mkM _ _ _ (⟨(rd_T62 l i).f0,x,(rd_T62 l i).f2⟩:S62) (Kd.R_mono ge (fun _ h_=>Or.inl h_))) (fun _ hk=>hk) (fun k_ hk_=>hk_.elim);have f0:=hfr 0;have f1:=hfr 1;have c0:=hcc 0 _ rfl;have c1:=hcc 1 _ rfl;simp only[Int.toNat_natCast,show(k62).sz=3 from rfl,Nat.add_zero] at f0 f1 c0 c1 h1 h2;exact⟨⟨f0,f1,⟨_,c0⟩,⟨_,c1⟩⟩,h1,h2⟩
theorem laws_markRecS.rd2 {l:List S62} {i:Nat} {a b:Int} {y:S62} {W:World} {base:Nat} {ok:Nat→Prop} {v:Value} (h:i<l.length) (hR:(Kd.int .i64).R 3 W base ok v (rd_T62 ((l.set i ⟨a,y.f1,(rd_T62 l i).f2⟩).set i ⟨(rd_T62 (l.set i ⟨a,y.f1,(rd_T62 l i).f2⟩) i).f0,b,(rd_T62 (l.set i ⟨a,y.f1,(rd_T62 l i).f2⟩) i).f2⟩) i).f2):(Kd.int .i64).R 3 W base ok v (rd_T62 l i).f2:=by
 rw[laws_markRecS.rd_set _ (by rw[List.length_set];exact h),laws_markRecS.rd_set _ h] at hR;exact hR
theorem laws_markRecS.lend {W:World} {base g n cap:Nat} {ok:Nat→Prop} {l:List S62} (h:Kd.S k62 62 W base ok (.slice (some ⟨g,0,none⟩) n cap) l) {i:Nat} (hi:i<n) :
  ∃(oki:Nat→Prop) (v:Value),W.cell? ⟨g,i*3+2,none⟩=some v∧(Kd.int .i64).R 3 W base oki v (rd_T62 l i).f2∧(∀k_,some k_=v.ownBlock→ok k_)∧
   ∀(W2:World) (m:List Int),(Kd.int .i64).R 3 W2 base (fun k_=>some k_=v.ownBlock∨W.heap.size≤k_) v m→Kept W W2 (fun k_=>some k_=v.ownBlock)→∃l',l'.length=l.length∧l'.drop (i+1)=l.drop (i+1)∧Kd.S k62 62 W2 base ok (.slice (some ⟨g,0,none⟩) n cap) l':=by
 obtain⟨oki,c,hcl,hM,hcc,hoki,hH⟩:=Kd.S_lend h z62 (i:Int) (by omega) (by omega);obtain⟨v,rfl,ge⟩:=k62_openM hM
 have hv:∀k_,some k_=v.ownBlock→oki k_:=fun k_ hk=>ge.1 k_ hk.symm
 have c2:=hcc 2 _ rfl;simp only[Int.toNat_natCast,show(k62).sz=3 from rfl] at c2;refine⟨oki,v,c2,ge,fun k_ hk=>(hoki k_ (hv k_ hk)).1,fun W2 m hm hk=>⟨_,?_,?_,Kd.H_back (Kd.H_step hH (fun k_ h1 h2 h3=>hk.2 k_ h3 (fun e=>h2 (hv k_ e)))) (x':=⟨(rd_T62 l i).f0,(rd_T62 l i).f1,m⟩) (k62_mkM _ _ _ (⟨(rd_T62 l i).f0,(rd_T62 l i).f1,m⟩:S62) (Kd.R_reok rfl hm (fun k_ hk=>ge.1 k_ hk))) (fun _ h=>h)⟩⟩
 ·simp
 ·rw[Int.toNat_natCast];exact laws_markRecS.drop_set _
set_option maxHeartbeats 8000000 in
set_option maxRecDepth 100000 in
theorem laws_markRecS.calls (k:Nat) (P0_:Nat→Prop) (u9000_:Value) (l0:List S62) (a1:Int) (r:Int) (w0 w:World) (hB:Below w0.heap.size w0 w) (ho0:Kd.S k62 62 w w0.heap.size P0_ u9000_ l0) (h:laws_markRecS.f k l0 a1=some r) :
  Calls Try.prog 46 #[u9000_,.int .i64 a1] w fun e w'=>e=.returned (.int .i64 r)∧Below w0.heap.size w0 w'∧Kept w w' (fun k_=>P0_ k_):=by
 have HO0:=qah.mk (show Kd.S k62 62 w w0.heap.size (fun k_=>(P0_ k_∨w.heap.size≤k_)) u9000_ l0 from Kd.S_mono ho0 (fun k_ hk=>(.inl hk)))
 have hmx:l0.length≤9223372036854775807:=by
  obtain⟨A,c,rfl,h1,h2⟩:=Kd.S_reads ho0;have:=h2.2.1;omega
 have HMX:=qah.mk hmx;clear hmx;have HK:=qah.mk (Kept.refl w (fun k_=>P0_ k_));have HW0:=qah.mk hB.size;have HB:=qah.mk hB;clear hB;obtain⟨A_,c_,rfl⟩:=Kd.S_slice ho0;clear ho0;have H':=qah.mk (show laws_markRecS.go k (l0.drop 0) a1=some r from h);clear h;go_enter Try.func46,Try.ntmps46;go_wp2
 go_loopg [1,5] l0.length (fun gq v1 v5 w'=>∃(l:List S62) (i:Nat) (x:Int),v1=.int .i64 x∧v5=.int .i64 (i:Int)∧qah (i≤l0.length)∧qah (l0.length - i≤gq)∧qah (l.length=l0.length)∧qah (laws_markRecS.go k (l.drop i) x=some r)∧qah (Kd.S k62 62 w' w0.heap.size (fun k_=>(P0_ k_∨w.heap.size≤k_)) (.slice A_ l0.length c_) l)∧qah (Kept w w' (fun k_=>P0_ k_))∧qah (Below w0.heap.size w0 w'))
 case atStart=>exact⟨l0,0,a1,rfl,rfl,⟨Nat.zero_le _⟩,⟨by omega⟩,⟨rfl⟩,H',HO0,HK,HB⟩
 case round=>
  clear H' HO0 HK HB;obtain⟨l,i,x,rfl,rfl,HI,HG,HL,HH,HO,HK,HB⟩:=hrel;by_cases hlt:i<l0.length
  ·have hltz:(i:Int)<(l0.length:Int):=by omega
   have h0z:(0:Int)≤(i:Int):=by omega
   have hb0:decide ((i:Int)<(l0.length:Int))=true:=decide_eq_true hltz
   have hw1:(IntKind.i64.wrap ((i:Int)+1))=((i+1:Nat):Int):=by have:=HMX.out;rw[qaj];unfold wrap64;omega
   obtain⟨g,cap,eo,gb,gl,cl,hg0⟩:=Kd.S_form HO.out (by have:=HL.out;omega);(first|cases eo|(injection eo with ea_ en_ ec_;(first|subst ea_|(injection ea_ with ea_;subst ea_));subst ec_;clear en_));have GB:=qah.mk gb;clear gb gl hg0;have HP:=laws_markRecS.put HO.out hlt x;obtain⟨⟨f0,f1,⟨u0,c0⟩,⟨u1,c1⟩⟩,HP0,_⟩:=HP;have hm0:P0_ g∨w.heap.size≤g:=(Kd.S_R HO.out).1 g (by simp[Value.ownBlock]);have HM:=qah.mk hm0;clear hm0;have HHd:=HH.out;rw[laws_markRecS.drop (by have:=HL.out;omega)] at HHd;obtain⟨⟨t1,t2⟩,ht,hh⟩:=Option.bind_eq_some_iff.mp HHd;have HT:=qah.mk ht;have HN:=qah.mk hh;clear HH HHd ht hh
   go_wp2_with(first|((with_reducible refine gate_store (t:=3) (p:=16) rfl ?_);refine store_event (t:=3) (p:=16) (v:=?vo_1) (w1:=(wr.setCell ⟨g,i*3,none⟩ (.int .i64 x))) ?hg ?ho ?hn ?hr ?_;(case ho=>rfl);(case hg=>rfl);(case hn=>rfl);(case hr=>first|(go_simp;done)|(go_simp;rfl));intro w8 hw;have hg_:wr.grownBy w8 (some g):=(by rw[hw];exact HP0.2);have hp_:=qah.mk (show Kd.S k62 62 w8 w0.heap.size (fun k_=>(P0_ k_∨w.heap.size≤k_)) (.slice (some ⟨g,0,none⟩) l0.length c_) (l.set i ⟨x,(rd_T62 l i).f1,(rd_T62 l i).f2⟩) from by rw[hw];exact HP0.1);have hb_:=qah.mk (show Below w0.heap.size w0 w8 from by rw[hw];exact below_set HB.out GB.out);have hk_:=qah.mk (Kept.of_grown (S:=(fun k_=>P0_ k_)) hg_ HK.out (fun k_ e_=>(Kd.S_R HO.out).1 k_ e_));clear HO HB HK HP0 f0 f1 c0 c1 hg_ hw;have HO:=hp_;have HB:=hb_;have HK:=hk_;clear hp_ hb_ hk_;obtain⟨⟨f0,f1,⟨u0,c0⟩,⟨u1,c1⟩⟩,_,HP1⟩:=laws_markRecS.put HO.out hlt (wrap64 (x+1)))|((with_reducible refine gate_store (t:=3) (p:=23) rfl ?_);refine store_event (t:=3) (p:=23) (v:=?vo_2) (w1:=(w8.setCell ⟨g,i*3+1,none⟩ (.int .i64 (wrap64 (x+1))))) ?hg ?ho ?hn ?hr ?_;(case ho=>rfl);(case hg=>rfl);(case hn=>rfl);(case hr=>first|(go_simp;done)|(go_simp;rfl));intro w9 hw;have hg_:w8.grownBy w9 (some g):=(by rw[hw];exact HP1.2);have hp_:=qah.mk (show Kd.S k62 62 w9 w0.heap.size (fun k_=>(P0_ k_∨w.heap.size≤k_)) (.slice (some ⟨g,0,none⟩) l0.length c_) _ from by rw[hw];exact HP1.1);have hb_:=qah.mk (show Below w0.heap.size w0 w9 from by rw[hw];exact below_set HB.out GB.out);have hk_:=qah.mk (Kept.of_grown (S:=(fun k_=>P0_ k_)) hg_ HK.out (fun k_ e_=>(Kd.S_R HO.out).1 k_ e_));clear HO HB HK HP1 f0 f1 c0 c1 hg_ hw;have HO:=hp_;have HB:=hb_;have HK:=hk_;clear hp_ hb_ hk_;obtain⟨oki,v2,cv,hR2,hok2,hback⟩:=laws_markRecS.lend HO.out hlt;have HR2:=qah.mk (laws_markRecS.rd2 (l:=l) (i:=i) (by have:=HL.out;omega) hR2);have HK2:=qah.mk hok2;have HBK:=qah.mk hback;clear hR2 hok2 hback;obtain⟨A2,c2,e2⟩:=Kd.R_slice HR2.out;subst e2)|((with_reducible refine qaf (f:=57) rfl ?_);refine goesL_ (some 32) rfl rfl Try.func57 (by kernel_rfl) rfl #[.slice A2 (rd_T62 l i).f2.length c2,.int .i64 (wrap64 (wrap64 (x+1)+1))] rfl (by(try simp only[List.map_toArray,List.map_cons,List.map_nil]);first|done|rfl) ?_;(with_reducible refine(laws_markIntS.calls k (fun k_=>some k_=(.slice A2 (rd_T62 l i).f2.length c2:Value).ownBlock) (.slice A2 (rd_T62 l i).f2.length c2) (rd_T62 l i).f2 (wrap64 (wrap64 (x+1)+1)) t1 t2 w0 _ ?side1 ?side2 HT.out).mono ?_);(case side1=>exact HB.out);(case side2=>exact Kd.R_tight rfl HR2.out);rintro e w10 ⟨rfl,hy0,hb,hkp⟩;refine⟨_,rfl,?_⟩;obtain⟨l2,hl2,hd2,hs2⟩:=HBK.out w10 t2 hy0 hkp;have hk_:=qah.mk (Kept.then_ (S:=(fun k_=>P0_ k_)) HK.out hkp (fun k_ hs_=>HK2.out k_ hs_));have HO2:=qah.mk hs2;have HD2:=qah.mk hd2;have HL2:=qah.mk hl2;clear HB HK hs2 hd2 hl2 hy0;have HB:=qah.mk hb;have HK:=hk_;clear hb hk_ hkp))
   go_roundg (l0.length - (i+1))
   case measure=>have:=HG.out;omega
   case rel=>
    refine⟨l2,i+1,t1,rfl,by go_num,⟨by omega⟩,⟨Nat.le_refl _⟩,⟨?_⟩,⟨?_⟩,HO2,HK,HB⟩
    ·rw[HL2.out];simp only[List.length_set];exact HL.out
    ·rw[HD2.out,laws_markRecS.drop_set,laws_markRecS.drop_set];exact HN.out
  ·have hltz:¬(i:Int)<(l0.length:Int):=by omega
   have hb0:decide ((i:Int)<(l0.length:Int))=false:=decide_eq_false hltz;have hh:=HH.out;rw[List.drop_eq_nil_of_le (by have:=HL.out;omega)] at hh
   injection hh with hh
   subst hh;go_wp2;go_ret;exact⟨rfl,HB.out,HK.out⟩
def laws_markLog.f (k:Nat) (l0_0:List S62) (a0_1:Int) (a1:Int):Option Int:=laws_markRecS.f k l0_0 a1
theorem laws_markLog.mono:∀a0 a1 a2 k,LeO (laws_markLog.f k a0 a1 a2) (laws_markLog.f (k+1) a0 a1 a2):=fun a0 _ a2 k=>laws_markRecS.mono a0 a2 k
set_option maxHeartbeats 8000000 in
set_option maxRecDepth 100000 in
theorem laws_markLog.calls (k:Nat) (P0_:Nat→Prop) (u9000_:Value) (l0_0:List S62) (a0_1:Int) (a1:Int) (r:Int) (w0 w:World) (hB:Below w0.heap.size w0 w) (ho0:Kd.S k62 62 w w0.heap.size P0_ u9000_ l0_0) (h:laws_markLog.f k l0_0 a0_1 a1=some r) :
  Calls Try.prog 28 #[.agg #[u9000_,.int .i64 a0_1],.int .i64 a1] w fun e w'=>e=.returned (.int .i64 r)∧Below w0.heap.size w0 w'∧Kept w w' (fun k_=>P0_ k_):=by
 obtain⟨A_,c_,rfl⟩:=Kd.S_slice ho0;have HO:=qah.mk ho0;have HB:=qah.mk hB;have HH:=qah.mk (show laws_markRecS.f k l0_0 a1=some r from h);clear ho0 hB h;go_enter Try.func28,Try.ntmps28
 go_wp2_with(first|((with_reducible refine qag (N:=2) rfl ?_);refine zX (N:=2) (cs:=#[.slice A_ l0_0.length c_,.int .i64 a0_1]) (t:=31) ?_;intro gb hg w1 hbox hb;have HS:=qah.mk (Kd.S_below HO.out hb);have HK:=qah.mk (Kept.below (S:=(fun k_=>P0_ k_)) (Kept.refl w _) hb);have HB1:=qah.mk (below_then HB.out HB.out.size hb);clear HO HB hb hg;have hcz0:w1.cell? ⟨gb,0,none⟩=some (.slice A_ l0_0.length c_):=(qab hbox 0).trans rfl;have hcz1:w1.cell? ⟨gb,1,none⟩=some (.int .i64 a0_1):=(qab hbox 1).trans rfl;clear hbox)|((with_reducible refine qaf (f:=46) rfl ?_);refine goesL_ (some 8) rfl rfl Try.func46 (by kernel_rfl) rfl #[.slice A_ l0_0.length c_,.int .i64 a1] rfl (by(try simp only[List.map_toArray,List.map_cons,List.map_nil]);first|done|rfl) ?_;(with_reducible refine(laws_markRecS.calls k P0_ (.slice A_ l0_0.length c_) l0_0 a1 r w0 _ ?side1 ?side2 HH.out).mono ?_);(case side1=>exact HB1.out);(case side2=>exact HS.out);rintro e w2 ⟨rfl,hb,hk⟩;refine⟨_,rfl,?_⟩;have HB2:=qah.mk hb;have HK2:=qah.mk (Kept.then_ (S:=(fun k_=>P0_ k_)) HK.out hk (fun k_ hs_=>.inl hs_));clear HK HB1 HS hb hk hcz0 hcz1))
 go_ret;exact⟨rfl,HB2.out,HK2.out⟩
def laws_markHouse.f (k:Nat) (a0_0:Int) (a0_1:Bool) (a0_2:Int) (l0_3:List S62) (a0_4:Int) (a1:Int):Option Int:=laws_markLog.f k l0_3 a0_4 a1
theorem laws_markHouse.mono:∀a0 a1 a2 a3 a4 a5 k,LeO (laws_markHouse.f k a0 a1 a2 a3 a4 a5) (laws_markHouse.f (k+1) a0 a1 a2 a3 a4 a5):=fun _ _ _ a3 a4 a5 k=>laws_markLog.mono a3 a4 a5 k
set_option maxHeartbeats 8000000 in
set_option maxRecDepth 100000 in
theorem laws_markHouse.calls (k:Nat) (a0_0:Int) (a0_1:Bool) (a0_2:Int) (P0_:Nat→Prop) (u9000_:Value) (l0_3:List S62) (a0_4:Int) (a1:Int) (r:Int) (w0 w:World) (hB:Below w0.heap.size w0 w) (ho0:Kd.S k62 62 w w0.heap.size P0_ u9000_ l0_3) (h:laws_markHouse.f k a0_0 a0_1 a0_2 l0_3 a0_4 a1=some r) :
  Calls Try.prog 13 #[.agg #[.int .i64 a0_0,.bool a0_1,.int .i64 a0_2,u9000_,.int .i64 a0_4],.int .i64 a1] w fun e w'=>e=.returned (.int .i64 r)∧Below w0.heap.size w0 w'∧Kept w w' (fun k_=>P0_ k_):=by
 obtain⟨A_,c_,rfl⟩:=Kd.S_slice ho0;have HO:=qah.mk ho0;have HB:=qah.mk hB;have HH:=qah.mk (show laws_markLog.f k l0_3 a0_4 a1=some r from h);clear ho0 hB h;go_enter Try.func13,Try.ntmps13
 go_wp2_with(first|((with_reducible refine qag (N:=2) rfl ?_);refine zX (N:=2) (cs:=#[.int .i64 a0_0,.bool a0_1,.int .i64 a0_2,.slice A_ l0_3.length c_,.int .i64 a0_4]) (t:=33) ?_;intro gb hg w1 hbox hb;have HS:=qah.mk (Kd.S_below HO.out hb);have HK:=qah.mk (Kept.below (S:=(fun k_=>P0_ k_)) (Kept.refl w _) hb);have HB1:=qah.mk (below_then HB.out HB.out.size hb);clear HO HB hb hg;have hcz3:w1.cell? ⟨gb,3,none⟩=some (.slice A_ l0_3.length c_):=(qab hbox 3).trans rfl;have hcz4:w1.cell? ⟨gb,4,none⟩=some (.int .i64 a0_4):=(qab hbox 4).trans rfl;clear hbox)|((with_reducible refine qaf (f:=28) rfl ?_);refine goesL_ (some 8) rfl rfl Try.func28 (by kernel_rfl) rfl #[.agg #[.slice A_ l0_3.length c_,.int .i64 a0_4],.int .i64 a1] rfl (by(try simp only[List.map_toArray,List.map_cons,List.map_nil]);first|done|rfl) ?_;(with_reducible refine(laws_markLog.calls k P0_ (.slice A_ l0_3.length c_) l0_3 a0_4 a1 r w0 _ ?side1 ?side2 HH.out).mono ?_);(case side1=>exact HB1.out);(case side2=>exact HS.out);rintro e w2 ⟨rfl,hb,hk⟩;refine⟨_,rfl,?_⟩;have HB2:=qah.mk hb;have HK2:=qah.mk (Kept.then_ (S:=(fun k_=>P0_ k_)) HK.out hk (fun k_ hs_=>.inl hs_));clear HK HB1 HS hb hk hcz3 hcz4))
 go_ret;exact⟨rfl,HB2.out,HK2.out⟩
def laws_markHoldS.l0:Nat→List (S72)→Int→Int→Option (Int × (List (S72)))
 |0,_,_,_=>none
 |k+1,x0,x1,x5=>if x5<(x0.length:Int) then(if 0≤x5 then((some (x0.set (x5:Int).toNat (⟨x1,(rd_T72 x0 x5).f1⟩:S72):List (S72))).bind fun y380=>(laws_markHoldS.l0 k (y380.set (x5:Int).toNat (⟨(rd_T72 y380 x5).f0,wrap64 (x1+1)⟩:S72)) (wrap64 ((wrap64 (x1+1))+1)) (wrap64 (x5+1)))) else(none)) else(some (x1,x0))
def laws_markHoldS.f (k:Nat) (l0:List (S72)) (a1:Int):Option (Int × (List (S72))):=laws_markHoldS.l0 k l0 a1 0
theorem laws_markHoldS.mono_l:∀k,(∀y0 y1 y2,LeO (laws_markHoldS.l0 k y0 y1 y2) (laws_markHoldS.l0 (k+1) y0 y1 y2))
 |0=>fun _ _ _ r h=>by simp[laws_markHoldS.l0] at h
 |k+1=>by
  have ih0:=laws_markHoldS.mono_l k
  ·intro y0 y1 y2;unfold laws_markHoldS.l0
   repeat' first|(with_reducible exact ih0 _ _ _)|(with_reducible exact LeO.refl _)|(with_reducible exact LeO.none _)|(with_reducible refine LeO.ite ?_ ?_)|(with_reducible refine LeO.bind ?_ (fun _=>?_))|exact ih0 _ _ _|exact LeO.none _|refine LeO.ite ?_ ?_|refine LeO.bind ?_ (fun _=>?_)
theorem laws_markHoldS.mono:∀a0 a1 k,LeO (laws_markHoldS.f k a0 a1) (laws_markHoldS.f (k+1) a0 a1):=by
 intro a0 a1 k;have ih0:=laws_markHoldS.mono_l k;unfold laws_markHoldS.f
 repeat' first|(with_reducible exact ih0 _ _ _)|(with_reducible exact LeO.refl _)|(with_reducible exact LeO.none _)|(with_reducible refine LeO.ite ?_ ?_)|(with_reducible refine LeO.bind ?_ (fun _=>?_))|exact ih0 _ _ _|exact LeO.none _|refine LeO.ite ?_ ?_|refine LeO.bind ?_ (fun _=>?_)
set_option maxHeartbeats 8000000 in
set_option maxRecDepth 100000 in
theorem laws_markHoldS.calls (k:Nat) (P0_:Nat→Prop) (u9000_:Value) (l0:List (S72)) (a1:Int) (r1:Int) (r2:List (S72)) (w0 w:World) (hB:Below w0.heap.size w0 w) (ho0:Kd.R k72 72 w w0.heap.size P0_ u9000_ l0) (h:laws_markHoldS.f k l0 a1=some (r1,r2)) :
  Calls Try.prog 29 #[u9000_,.int .i64 a1] w fun e w'=>e=.returned (.int .i64 r1)∧Kd.R k72 72 w' w0.heap.size (fun k_=>(P0_ k_∨w.heap.size≤k_)) u9000_ r2∧Below w0.heap.size w0 w'∧Kept w w' (fun k_=>P0_ k_):=by
 have HO0:=qah.mk (show Kd.R k72 72 w w0.heap.size (fun k_=>(P0_ k_∨w.heap.size≤k_)) u9000_ l0 from Kd.R_mono ho0 (fun k_ hk=>(.inl hk)));have HK:=qah.mk (Kept.refl w (fun k_=>P0_ k_));have HW0:=qah.mk hB.size;have HB:=qah.mk hB;clear hB;have H:(laws_markHoldS.l0 k l0 a1 0)=some (r1,r2):=h;clear h;have H':=qah.mk H;clear H;go_enter Try.func29,Try.ntmps29;go_wp2
 go_loopg [1,5] k (fun kq v1 v5 w'=>∃(x0_1:List (S72)) (x1_1:Int) (x5_1:Int),v1=.int .i64 x1_1∧v5=.int .i64 x5_1∧qah (laws_markHoldS.l0 kq x0_1 x1_1 x5_1=some (r1,r2))∧qah (kq≤k)∧qah (Kd.R k72 72 w' w0.heap.size (fun k_=>(P0_ k_∨w.heap.size≤k_)) u9000_ x0_1)∧qah (Kept w w' (fun k_=>P0_ k_))∧qah (Below w0.heap.size w0 w'))
 case atStart=>exact⟨(l0),(a1),(0),(za11),(za11),H',⟨Nat.le_refl _⟩,⟨za5 HO0⟩,⟨za13 HK⟩,⟨za1 HB⟩⟩
 case round=>
  clear H'
  try clear c2
  try clear p2
  obtain⟨x0_1,x1_1,x5_1,rfl,rfl,HA,HK1,HO_0,HK,HB⟩:=hrel
  cases gk with
  |zero=>exact absurd HA.out (by simp[laws_markHoldS.l0])
  |succ k1=>
   have H:=HA.out;clear HA;simp only[laws_markHoldS.l0] at H;by_cases c3:x5_1<(x0_1.length:Int)
   ·rw[if_pos c3] at H;have c3b0:decide (x5_1<(x0_1.length:Int))=true:=decide_eq_true c3;clear c3;by_cases c4:0≤x5_1
    ·rw[if_pos c4] at H;have c4b0:decide (0≤x5_1)=true:=decide_eq_true c4;clear c4;obtain⟨y380,hy380⟩:∃y_:List (S72),y_=(x0_1.set (x5_1:Int).toNat (⟨x1_1,(rd_T72 x0_1 x5_1).f1⟩:S72)):=⟨_,rfl⟩
     replace H:(laws_markHoldS.l0 k1 (y380.set (x5_1:Int).toNat (⟨(rd_T72 y380 x5_1).f0,wrap64 (x1_1+1)⟩:S72)) (wrap64 ((wrap64 (x1_1+1))+1)) (wrap64 (x5_1+1)))=some (r1,r2):=by first|(rw[hy380];with_reducible exact H)|(have H2_:=(Option.bind_some _ _).symm.trans H;rw[hy380];with_reducible exact H2_)|(have H2_:=(Option.bind_some _ _).symm.trans H;with_reducible exact H2_)|with_reducible exact H|(rw[hy380];exact H)|exact H
     have Ny380:=qah.mk hy380;clear hy380;obtain⟨y381,hy381⟩:∃y_:List (S72),y_=(y380.set (x5_1:Int).toNat (⟨(rd_T72 y380 x5_1).f0,wrap64 (x1_1+1)⟩:S72)):=⟨_,rfl⟩
     replace H:(laws_markHoldS.l0 k1 y381 (wrap64 ((wrap64 (x1_1+1))+1)) (wrap64 (x5_1+1)))=some (r1,r2):=by first|(rw[hy381];with_reducible exact H)|(have H2_:=(Option.bind_some _ _).symm.trans H;rw[hy381];with_reducible exact H2_)|(have H2_:=(Option.bind_some _ _).symm.trans H;with_reducible exact H2_)|with_reducible exact H|(rw[hy381];exact H)|exact H
     have Ny381:=qah.mk hy381;clear hy381;have H':=qah.mk H;clear H;obtain⟨Ao7,co7,eo7⟩:=Kd.R_slice HO_0.out;subst eo7;have p5:0≤(x5_1:Int):=of_decide_eq_true (za7);have q5:(x5_1:Int)<((x0_1.length:Int):Int):=of_decide_eq_true (za7);obtain⟨go5,co5,eo5,gb5,gl5,cl5,HG5⟩:=Kd.R_form HO_0.out (by omega);(first|cases eo5|(injection eo5 with ea_ en_ ec_;(first|subst ea_|(injection ea_ with ea_;subst ea_));subst ec_;clear en_));have GB5:=qah.mk gb5;have GG5:=qah.mk HG5;clear gb5 gl5 HG5;have HMgo5:=qah.mk (show(P0_ go5∨w.heap.size≤go5) from(HO_0.out.1 _ rfl));obtain⟨ce5,hcl5,hM5,hcc5,hfr5⟩:=Kd.R_elem HO_0.out z72 (x5_1:Int) p5 q5;obtain rfl:=k72_openM hM5;have hx5_0:wr.cell? ⟨go5,(x5_1:Int).toNat*2,none⟩=some (.int .i64 ((rd_T72 x0_1 x5_1).f0)):=hcc5 0 _ rfl;have hx5_1:wr.cell? ⟨go5,(x5_1:Int).toNat*2+1,none⟩=some (.int .i64 ((rd_T72 x0_1 x5_1).f1)):=hcc5 1 _ rfl;have hf5_0:wr.frozen? ⟨go5,(x5_1:Int).toNat*2,none⟩=false:=hfr5 0;have hf5_1:wr.frozen? ⟨go5,(x5_1:Int).toNat*2+1,none⟩=false:=hfr5 1;clear hcl5 hcc5 hfr5 hM5;replace p5:=eq_true p5;replace q5:=eq_true q5;have HX8:=qah.mk (show Kd.R k72 72 wr w0.heap.size (fun k_=>(P0_ k_∨w.heap.size≤k_)) (.slice (some ⟨go5,0,none⟩) x0_1.length co7) x0_1 from(za5 HO_0));obtain⟨ce8,hcl8,hM8,hcc8,hfr8⟩:=Kd.R_elem HX8.out z72 (x5_1:Int) (of_decide_eq_true (za7)) (by have h_:(x5_1:Int)<((x0_1.length:Int):Int):=of_decide_eq_true (za7);first|exact h_|(have e_:=(Kd.R_reads' HO_0.out).1;omega)|simpa using h_)
     obtain rfl:=k72_openM hM8;have HP8:=Kd.R_seg HX8.out (x5_1:Int) (of_decide_eq_true (za7)) (by have h_:(x5_1:Int)<((x0_1.length:Int):Int):=of_decide_eq_true (za7);first|exact h_|(have e_:=(Kd.R_reads' HO_0.out).1;omega)|simpa using h_) (seg:=[.int .i64 x1_1]) (j:=0) hcl8 hcc8 (show 1≤2 from by decide) (x':=(⟨x1_1,(rd_T72 x0_1 x5_1).f1⟩:S72)) (k72_mkM _ _ _ (⟨x1_1,(rd_T72 x0_1 x5_1).f1⟩:S72) ) (fun _ hk=>hk);have hx8_0:=hcc8 0 _ rfl;(try simp only[show(k72).sz=2 from rfl,Nat.mul_one,Nat.add_zero] at hx8_0);have hf8_0:=hfr8 0;(try simp only[show(k72).sz=2 from rfl,Nat.mul_one,Nat.add_zero] at hf8_0);clear hcl8 hcc8 hfr8 hM8
     go_wp2_with(first|((with_reducible refine gate_store (t:=3) (p:=16) rfl ?_);refine store_event (t:=3) (p:=16) (v:=?vo_w9) (w1:=(wr.setCell ⟨go5,(x5_1:Int).toNat*2,none⟩ (.int .i64 x1_1))) ?hg ?ho ?hn ?hr ?_;(case ho=>rfl);(case hg=>rfl);(case hn=>rfl);(case hr=>first|(go_simp;done)|(go_simp;rfl));intro w9 hw;have hg:wr.grownBy w9 (some go5):=(by rw[hw];exact HP8.2);have hp_:Kd.R k72 72 w9 w0.heap.size (fun k_=>(P0_ k_∨w.heap.size≤k_)) (.slice (some ⟨go5,0,none⟩) x0_1.length co7) y380:=(by rw[hw,Ny380.out];exact HP8.1);clear HP8;replace HB:=qah.mk ((by rw[hw];exact below_set (HB.out) GB5.out:Below w0.heap.size w0 w9));replace HK:=qah.mk (Kept.of_grown (S:=(fun k_=>P0_ k_)) hg (za13 HK) (fun k_ e_=>(HO_0.out.1 k_ e_)));replace HO_0:=qah.mk hp_;clear hg hw hp_;have p6:0≤(x5_1:Int):=of_decide_eq_true (za7);have q6:(x5_1:Int)<((x0_1.length:Int):Int):=of_decide_eq_true (za7);obtain⟨ce6,hcl6,hM6,hcc6,hfr6⟩:=Kd.R_elem HO_0.out z72 (x5_1:Int) p6 q6;obtain rfl:=k72_openM hM6;have hx6_0:w9.cell? ⟨go5,(x5_1:Int).toNat*2,none⟩=some (.int .i64 ((rd_T72 y380 x5_1).f0)):=hcc6 0 _ rfl;have hx6_1:w9.cell? ⟨go5,(x5_1:Int).toNat*2+1,none⟩=some (.int .i64 ((rd_T72 y380 x5_1).f1)):=hcc6 1 _ rfl;have hf6_0:w9.frozen? ⟨go5,(x5_1:Int).toNat*2,none⟩=false:=hfr6 0;have hf6_1:w9.frozen? ⟨go5,(x5_1:Int).toNat*2+1,none⟩=false:=hfr6 1;clear hcl6 hcc6 hfr6 hM6;replace p6:=eq_true p6;replace q6:=eq_true q6;have HX10:=qah.mk (show Kd.R k72 72 w9 w0.heap.size (fun k_=>(P0_ k_∨w.heap.size≤k_)) (.slice (some ⟨go5,0,none⟩) x0_1.length co7) y380 from(za5 HO_0));obtain⟨ce10,hcl10,hM10,hcc10,hfr10⟩:=Kd.R_elem HX10.out z72 (x5_1:Int) (of_decide_eq_true (za7)) (by have h_:(x5_1:Int)<((x0_1.length:Int):Int):=of_decide_eq_true (za7);first|exact h_|(have e_:=(Kd.R_reads' HO_0.out).1;omega)|simpa using h_);obtain rfl:=k72_openM hM10;have HP10:=Kd.R_seg HX10.out (x5_1:Int) (of_decide_eq_true (za7)) (by have h_:(x5_1:Int)<((x0_1.length:Int):Int):=of_decide_eq_true (za7);first|exact h_|(have e_:=(Kd.R_reads' HO_0.out).1;omega)|simpa using h_) (seg:=[.int .i64 (wrap64 (x1_1+1))]) (j:=1) hcl10 hcc10 (show 2≤2 from by decide) (x':=(⟨(rd_T72 y380 x5_1).f0,wrap64 (x1_1+1)⟩:S72)) (k72_mkM _ _ _ (⟨(rd_T72 y380 x5_1).f0,wrap64 (x1_1+1)⟩:S72) ) (fun _ hk=>hk);have hx10_1:=hcc10 1 _ rfl;(try simp only[show(k72).sz=2 from rfl,Nat.mul_one,Nat.add_zero] at hx10_1);have hf10_1:=hfr10 1;(try simp only[show(k72).sz=2 from rfl,Nat.mul_one,Nat.add_zero] at hf10_1);clear hcl10 hcc10 hfr10 hM10)|((with_reducible refine gate_store (t:=3) (p:=23) rfl ?_);refine store_event (t:=3) (p:=23) (v:=?vo_w11) (w1:=(w9.setCell ⟨go5,(x5_1:Int).toNat*2+1,none⟩ (.int .i64 (wrap64 (x1_1+1))))) ?hg ?ho ?hn ?hr ?_;(case ho=>rfl);(case hg=>rfl);(case hn=>rfl);(case hr=>first|(go_simp;done)|(go_simp;rfl));intro w11 hw;have hg:w9.grownBy w11 (some go5):=(by rw[hw];exact HP10.2);have hp_:Kd.R k72 72 w11 w0.heap.size (fun k_=>(P0_ k_∨w.heap.size≤k_)) (.slice (some ⟨go5,0,none⟩) x0_1.length co7) y381:=(by rw[hw,Ny381.out];exact HP10.1);clear HP10;replace HB:=qah.mk ((by rw[hw];exact below_set (HB.out) GB5.out:Below w0.heap.size w0 w11));replace HK:=qah.mk (Kept.of_grown (S:=(fun k_=>P0_ k_)) hg (za13 HK) (fun k_ e_=>(HO_0.out.1 k_ e_)));replace HO_0:=qah.mk hp_;clear hg hw hp_))
     go_roundg k1
     case measure=>have:=HK1.out;omega
     case rel=>exact⟨(y381),(wrap64 ((wrap64 (x1_1+1))+1)),(wrap64 (x5_1+1)),(za11),(za11),H',⟨by have:=HK1.out;omega⟩,⟨za5 HO_0⟩,⟨za13 HK⟩,⟨za1 HB⟩⟩
    ·rw[if_neg c4] at H;exact absurd H (by simp)
   ·rw[if_neg c3] at H;have c3b0:decide (x5_1<(x0_1.length:Int))=false:=decide_eq_false c3;clear c3;simp only[Option.some.injEq,Prod.mk.injEq] at H;obtain⟨rfl,rfl⟩:=H;obtain⟨Ao12,co12,eo12⟩:=Kd.R_slice HO_0.out;subst eo12;go_wp2;go_ret;exact⟨za8,za5 HO_0,za1 HB,za13 HK⟩
def laws_markStock.f (k:Nat) (a0_0:Int) (l0_1:List (S72)) (a1:Int):Option (Int × (List (S72))):=(laws_markHoldS.f k l0_1 a1).bind fun bt383=>(some (bt383.1,bt383.2))
theorem laws_markStock.mono:∀a0 a1 a2 k,LeO (laws_markStock.f k a0 a1 a2) (laws_markStock.f (k+1) a0 a1 a2):=by
 intro a0 a1 a2 k;unfold laws_markStock.f
 repeat' first|(with_reducible exact laws_markHoldS.mono _ _ _)|(with_reducible exact LeO.refl _)|(with_reducible exact LeO.none _)|(with_reducible refine LeO.ite ?_ ?_)|(with_reducible refine LeO.bind ?_ (fun _=>?_))|exact laws_markHoldS.mono _ _ _|exact LeO.none _|refine LeO.ite ?_ ?_|refine LeO.bind ?_ (fun _=>?_)
set_option maxHeartbeats 8000000 in
set_option maxRecDepth 100000 in
theorem laws_markStock.calls (k:Nat) (a0_0:Int) (P0_1_:Nat→Prop) (u9000_:Value) (l0_1:List (S72)) (a1:Int) (r1:Int) (r2:List (S72)) (w0 w:World) (hB:Below w0.heap.size w0 w) (ho0_1:Kd.R k72 72 w w0.heap.size P0_1_ u9000_ l0_1) (h:laws_markStock.f k a0_0 l0_1 a1=some (r1,r2)) :
  Calls Try.prog 14 #[.agg #[.int .i64 a0_0,u9000_],.int .i64 a1] w fun e w'=>e=.returned (.int .i64 r1)∧Kd.R k72 72 w' w0.heap.size (fun k_=>(P0_1_ k_∨w.heap.size≤k_)) u9000_ r2∧Below w0.heap.size w0 w'∧Kept w w' (fun k_=>P0_1_ k_):=by
 have hu39:=Try.underlying39;have HO0_1:=qah.mk (show Kd.R k72 72 w w0.heap.size (fun k_=>(P0_1_ k_∨w.heap.size≤k_)) u9000_ l0_1 from Kd.R_mono ho0_1 (fun k_ hk=>(.inl hk)));have HK:=qah.mk (Kept.refl w (fun k_=>P0_1_ k_));have HW0:=qah.mk hB.size;have HB:=qah.mk hB;clear hB;have H:((laws_markHoldS.f k l0_1 a1).bind fun bt383=>(some (bt383.1,bt383.2)))=some (r1,r2):=h;clear h;replace H:=Option.bind_eq_some_iff.mp H;obtain⟨⟨t383,t384⟩,A30,H⟩:=H;replace H:(some (t383,t384))=some (r1,r2):=H;have A3:=qah.mk A30;clear A30;simp only[Option.some.injEq,Prod.mk.injEq] at H;obtain⟨rfl,rfl⟩:=H;obtain⟨Ao4,co4,eo4⟩:=Kd.R_slice HO0_1.out;subst eo4;go_enter Try.func14,Try.ntmps14
 go_wp2_with(first|((with_reducible refine qag (N:=2) rfl ?_);refine zX (N:=2) (cs:=#[.int .i64 a0_0,.slice Ao4 l0_1.length co4]) (t:=39) ?_;intro gb382 hg w5 hbox hb;replace HO0_1:=qah.mk (Kd.R_below (za5 HO0_1) hb);have BK382:=qah.mk hbox;have GW382:=qah.mk ((by rw[hg];exact(by first|exact HK.out.1|exact(show Kept w _ (fun k_=>P0_1_ k_) from by repeat(first|(with_reducible first|exact HK.out|apply Kept.alloc|apply Kept.drewN|apply Kept.drew)|exact HK.out)).1):w.heap.size≤gb382));replace HK:=qah.mk (Kept.below (S:=(fun k_=>P0_1_ k_)) (za13 HK) hb);have GE382:=zH (w:=w0) hg (za1 HB);replace HB:=qah.mk (qaa (za1 HB) hb);clear hb hbox hg;obtain⟨hcz6_0,hcz6_1,hfz6_0,hfz6_1⟩:=zC2 BK382)|((with_reducible refine qaf (f:=29) rfl ?_);refine zF (some 8) Try.func29 #[.slice Ao4 l0_1.length co4,.int .i64 a1] ?_;(with_reducible refine(laws_markHoldS.calls k (fun k_=>some k_=(.slice Ao4 l0_1.length co4:Value).ownBlock) (.slice Ao4 l0_1.length co4) l0_1 a1 t383 t384 w0 _ ?side1 ?side2 A3.out).mono ?_);(case side1=>exact(za0 HB GE382));(case side2=>exact Kd.R_tight rfl HO0_1.out);rintro e w7 ⟨rfl,hy0,hb,hkp⟩;refine⟨_,rfl,?_⟩;replace BK382:=qah.mk (blk_kept (zB BK382) hkp (fun hs_=>(fun e_=>(Kd.R_ne HO0_1.out BK382.out (by decide)) e_) hs_));replace HK:=qah.mk (Kept.then_ (S:=(fun k_=>P0_1_ k_)) (by repeat(first|(with_reducible first|exact HK.out|apply Kept.alloc|apply Kept.drewN|apply Kept.drew|refine Kept.setCell ?_ (.inr GW382.out) _)|exact HK.out)) hkp (fun k_ hs_=>(fun e_=>(HO0_1.out.1 k_ e_.symm)) hs_));replace HO0_1:=qah.mk (Kd.R_reok rfl hy0 (fun k_ e_=>HO0_1.out.1 k_ e_));replace HB:=qah.mk hb;(try clear hb);(try clear hkp);(try clear hy0)))
 go_ret;exact⟨za8,za5 HO0_1,za0 HB GE382,by repeat(first|(with_reducible first|exact HK.out|apply Kept.alloc|apply Kept.drewN|apply Kept.drew|refine Kept.setCell ?_ (.inr GW382.out) _)|exact HK.out)⟩
def laws_heldHoldS.l0:Nat→List (S72)→Int→Int→Option (Int)
 |0,_,_,_=>none
 |k+1,x0,x1,x5=>if x5<(x0.length:Int) then(if 0≤x5 then(if((rd_T72 x0 x5).f0)=x1 then(if((rd_T72 x0 x5).f1)=(wrap64 (x1+1)) then(laws_heldHoldS.l0 k x0 (wrap64 ((wrap64 (x1+1))+1)) (wrap64 (x5+1))) else(some (-1))) else(some (-1))) else(none)) else(some x1)
def laws_heldHoldS.f (k:Nat) (l0:List (S72)) (a1:Int):Option (Int):=laws_heldHoldS.l0 k l0 a1 0
theorem laws_heldHoldS.mono_l:∀k,(∀y0 y1 y2,LeO (laws_heldHoldS.l0 k y0 y1 y2) (laws_heldHoldS.l0 (k+1) y0 y1 y2))
 |0=>fun _ _ _ r h=>by simp[laws_heldHoldS.l0] at h
 |k+1=>by
  have ih0:=laws_heldHoldS.mono_l k
  ·intro y0 y1 y2;unfold laws_heldHoldS.l0
   repeat' first|(with_reducible exact ih0 _ _ _)|(with_reducible exact LeO.refl _)|(with_reducible exact LeO.none _)|(with_reducible refine LeO.ite ?_ ?_)|(with_reducible refine LeO.bind ?_ (fun _=>?_))|exact ih0 _ _ _|exact LeO.none _|refine LeO.ite ?_ ?_|refine LeO.bind ?_ (fun _=>?_)
theorem laws_heldHoldS.mono:∀a0 a1 k,LeO (laws_heldHoldS.f k a0 a1) (laws_heldHoldS.f (k+1) a0 a1):=by
 intro a0 a1 k;have ih0:=laws_heldHoldS.mono_l k;unfold laws_heldHoldS.f
 repeat' first|(with_reducible exact ih0 _ _ _)|(with_reducible exact LeO.refl _)|(with_reducible exact LeO.none _)|(with_reducible refine LeO.ite ?_ ?_)|(with_reducible refine LeO.bind ?_ (fun _=>?_))|exact ih0 _ _ _|exact LeO.none _|refine LeO.ite ?_ ?_|refine LeO.bind ?_ (fun _=>?_)
set_option maxHeartbeats 8000000 in
set_option maxRecDepth 100000 in
theorem laws_heldHoldS.calls (k:Nat) (A0:Option Addr) (c0:Nat) (l0:List (S72)) (a1:Int) (r:Int) (w:World) (hr0:Kd.C k72 w A0 l0.length l0) (hc0:l0.length≤c0) (h:laws_heldHoldS.f k l0 a1=some r) :
  Calls Try.prog 30 #[.slice A0 l0.length c0,.int .i64 a1] w fun e w'=>e=.returned (.int .i64 r)∧Drawn0 w w':=by
 have HR0:=qah.mk hr0;have HC0:=qah.mk hc0;clear hr0 hc0;have H:(laws_heldHoldS.l0 k l0 a1 0)=some r:=h;clear h;have H':=qah.mk H;clear H;go_enter Try.func30,Try.ntmps30;go_wp2
 go_loopg [1,5] k (fun kq v1 v5 w'=>∃(x1_1:Int) (x5_1:Int),v1=.int .i64 x1_1∧v5=.int .i64 x5_1∧qah (laws_heldHoldS.l0 kq l0 x1_1 x5_1=some r)∧qah (kq≤k)∧Drawn0 w w')
 case atStart=>exact⟨(a1),(0),(za11),(za11),H',⟨Nat.le_refl _⟩,za14⟩
 case round=>
  clear H'
  try clear p2
  obtain⟨x1_1,x5_1,rfl,rfl,HA,HK1,⟨m1,rfl⟩⟩:=hrel
  cases gk with
  |zero=>exact absurd HA.out (by simp[laws_heldHoldS.l0])
  |succ k1=>
   have H:=HA.out;clear HA;simp only[laws_heldHoldS.l0] at H;by_cases c3:x5_1<(l0.length:Int)
   ·rw[if_pos c3] at H;have c3b0:decide (x5_1<(l0.length:Int))=true:=decide_eq_true c3;clear c3;by_cases c4:0≤x5_1
    ·rw[if_pos c4] at H;have c4b0:decide (0≤x5_1)=true:=decide_eq_true c4;clear c4;by_cases c5:((rd_T72 l0 x5_1).f0)=x1_1
     ·rw[if_pos c5] at H;have c5b0:(((rd_T72 l0 x5_1).f0) == x1_1)=true:=beq_iff_eq.mpr c5;have c5b1:(((rd_T72 l0 x5_1).f0) != x1_1)=false:=bne_eq_false_iff_eq.mpr c5;clear c5;by_cases c6:((rd_T72 l0 x5_1).f1)=(wrap64 (x1_1+1))
      ·rw[if_pos c6] at H;have c6b0:(((rd_T72 l0 x5_1).f1) == (wrap64 (x1_1+1)))=true:=beq_iff_eq.mpr c6;have c6b1:(((rd_T72 l0 x5_1).f1) != (wrap64 (x1_1+1)))=false:=bne_eq_false_iff_eq.mpr c6;clear c6;have H':=qah.mk H;clear H;have p385:0≤(x5_1:Int):=of_decide_eq_true (za7);have q385:x5_1<(l0.length:Int):=of_decide_eq_true (za7);obtain⟨ad385,e385,hx385_0,hx385_1⟩:=at_T72 HR0.out x5_1 p385 q385
       cases e385
       replace p385:=eq_true p385;replace q385:=eq_true q385;have p386:0≤(x5_1:Int):=of_decide_eq_true (za7);have q386:x5_1<(l0.length:Int):=of_decide_eq_true (za7);obtain⟨ad386,e386,hx386_0,hx386_1⟩:=at_T72 HR0.out x5_1 p386 q386;obtain rfl:ad385=ad386:=(by injection e386);replace p386:=eq_true p386;replace q386:=eq_true q386;go_wp2
       go_roundg k1
       case measure=>have:=HK1.out;omega
       case rel=>exact⟨(wrap64 ((wrap64 (x1_1+1))+1)),(wrap64 (x5_1+1)),(za11),(za11),H',⟨by have:=HK1.out;omega⟩,za14⟩
      ·rw[if_neg c6] at H;have c6b0:(((rd_T72 l0 x5_1).f1) == (wrap64 (x1_1+1)))=false:=beq_eq_false_iff_ne.mpr c6;have c6b1:(((rd_T72 l0 x5_1).f1) != (wrap64 (x1_1+1)))=true:=bne_iff_ne.mpr c6;obtain rfl:=Option.some.inj H;have p385:0≤(x5_1:Int):=of_decide_eq_true (za7);have q385:x5_1<(l0.length:Int):=of_decide_eq_true (za7);obtain⟨ad385,e385,hx385_0,hx385_1⟩:=at_T72 HR0.out x5_1 p385 q385
       cases e385
       replace p385:=eq_true p385;replace q385:=eq_true q385;have p386:0≤(x5_1:Int):=of_decide_eq_true (za7);have q386:x5_1<(l0.length:Int):=of_decide_eq_true (za7);obtain⟨ad386,e386,hx386_0,hx386_1⟩:=at_T72 HR0.out x5_1 p386 q386;obtain rfl:ad385=ad386:=(by injection e386);replace p386:=eq_true p386;replace q386:=eq_true q386;go_wp2;go_ret;exact⟨za11,za14⟩
     ·rw[if_neg c5] at H;have c5b0:(((rd_T72 l0 x5_1).f0) == x1_1)=false:=beq_eq_false_iff_ne.mpr c5;have c5b1:(((rd_T72 l0 x5_1).f0) != x1_1)=true:=bne_iff_ne.mpr c5;obtain rfl:=Option.some.inj H;have p385:0≤(x5_1:Int):=of_decide_eq_true (za7);have q385:x5_1<(l0.length:Int):=of_decide_eq_true (za7);obtain⟨ad385,e385,hx385_0,hx385_1⟩:=at_T72 HR0.out x5_1 p385 q385
      cases e385
      replace p385:=eq_true p385;replace q385:=eq_true q385;go_wp2;go_ret;exact⟨za11,za14⟩
    ·rw[if_neg c4] at H;exact absurd H (by simp)
   ·rw[if_neg c3] at H;have c3b0:decide (x5_1<(l0.length:Int))=false:=decide_eq_false c3;clear c3;obtain rfl:=Option.some.inj H;go_wp2;go_ret;exact⟨za11,za14⟩
def laws_heldStock.f (k:Nat) (a0_0:Int) (l0_1:List (S72)) (a1:Int):Option (Int):=(laws_heldHoldS.f k l0_1 a1).bind fun t388=>(if t388<0 then(some (-1)) else(some t388))
theorem laws_heldStock.mono:∀a0 a1 a2 k,LeO (laws_heldStock.f k a0 a1 a2) (laws_heldStock.f (k+1) a0 a1 a2):=by
 intro a0 a1 a2 k;unfold laws_heldStock.f
 repeat' first|(with_reducible exact laws_heldHoldS.mono _ _ _)|(with_reducible exact LeO.refl _)|(with_reducible exact LeO.none _)|(with_reducible refine LeO.ite ?_ ?_)|(with_reducible refine LeO.bind ?_ (fun _=>?_))|exact laws_heldHoldS.mono _ _ _|exact LeO.none _|refine LeO.ite ?_ ?_|refine LeO.bind ?_ (fun _=>?_)
set_option maxHeartbeats 8000000 in
set_option maxRecDepth 100000 in
theorem laws_heldStock.calls (k:Nat) (a0_0:Int) (A0_1:Option Addr) (c0_1:Nat) (l0_1:List (S72)) (a1:Int) (r:Int) (w:World) (hr0_1:Kd.C k72 w A0_1 l0_1.length l0_1) (hc0_1:l0_1.length≤c0_1) (h:laws_heldStock.f k a0_0 l0_1 a1=some r) :
  Calls Try.prog 15 #[.agg #[.int .i64 a0_0,.slice A0_1 l0_1.length c0_1],.int .i64 a1] w fun e w'=>e=.returned (.int .i64 r)∧Below w.heap.size w w':=by
 have hu39:=Try.underlying39;have HR0_1:=qah.mk hr0_1;have HC0_1:=qah.mk hc0_1;clear hr0_1 hc0_1;have HB:=qah.mk (Below.refl w.heap.size w);have H:((laws_heldHoldS.f k l0_1 a1).bind fun t388=>(if t388<0 then(some (-1)) else(some t388)))=some r:=h;clear h;replace H:=Option.bind_eq_some_iff.mp H;obtain⟨t388,A30,H⟩:=H;replace H:(if t388<0 then(some (-1)) else(some t388))=some r:=H;have A3:=qah.mk A30;clear A30;by_cases c4:t388<0
 ·rw[if_pos c4] at H;have c4b0:decide (t388<0)=true:=decide_eq_true c4;clear c4;obtain rfl:=Option.some.inj H;go_enter Try.func15,Try.ntmps15
  go_wp2_with(first|((with_reducible refine qag (N:=2) rfl ?_);refine zX (N:=2) (cs:=#[.int .i64 a0_0,.slice A0_1 l0_1.length c0_1]) (t:=39) ?_;intro gb387 hg w5 hbox hb;have BK387:=qah.mk hbox;have GW387:=zH (w:=w) hg (za1 HB);have GE387:=GW387;replace HB:=qah.mk (qaa (za1 HB) hb);clear hb hbox hg;obtain⟨hcz6_0,hcz6_1,hfz6_0,hfz6_1⟩:=zC2 BK387)|((with_reducible refine qaf (f:=30) rfl ?_);refine zF (some 8) Try.func30 #[.slice A0_1 l0_1.length c0_1,.int .i64 a1] ?_;(with_reducible refine(laws_heldHoldS.calls k _ _ l0_1 a1 t388 _ ?side1 ?side2 A3.out).mono ?_);(case side1=>exact zR HR0_1 HB);(case side2=>exact HC0_1.out);rintro e w' ⟨rfl,⟨nd,rfl⟩⟩;refine⟨_,rfl,?_⟩))
  go_ret;exact⟨za8,za0 HB GE387⟩
 ·rw[if_neg c4] at H;have c4b0:decide (t388<0)=false:=decide_eq_false c4;clear c4;obtain rfl:=Option.some.inj H;go_enter Try.func15,Try.ntmps15
  go_wp2_with(first|((with_reducible refine qag (N:=2) rfl ?_);refine zX (N:=2) (cs:=#[.int .i64 a0_0,.slice A0_1 l0_1.length c0_1]) (t:=39) ?_;intro gb387 hg w7 hbox hb;have BK387:=qah.mk hbox;have GW387:=zH (w:=w) hg (za1 HB);have GE387:=GW387;replace HB:=qah.mk (qaa (za1 HB) hb);clear hb hbox hg;obtain⟨hcz8_0,hcz8_1,hfz8_0,hfz8_1⟩:=zC2 BK387)|((with_reducible refine qaf (f:=30) rfl ?_);refine zF (some 8) Try.func30 #[.slice A0_1 l0_1.length c0_1,.int .i64 a1] ?_;(with_reducible refine(laws_heldHoldS.calls k _ _ l0_1 a1 t388 _ ?side1 ?side2 A3.out).mono ?_);(case side1=>exact zR HR0_1 HB);(case side2=>exact HC0_1.out);rintro e w' ⟨rfl,⟨nd,rfl⟩⟩;refine⟨_,rfl,?_⟩))
  go_ret;exact⟨za8,za0 HB GE387⟩
end Go.Proofs.Ytbomcadjkcmcgaa.Print
