-- Written by squeeze.py: not trusted, Lean checks it.
import Derived.Test.YtmbdphefnalenaaZK
import Derived.Test.YtmbdphefnalenaaZw1
namespace Go.Proofs.Ytmbdphefnalenaa.Print
open Go.RowKit Go.Proofs.YtmbdphefnalenaaW.PrintWords Go.Proofs.YtmbdphefnalenaaW.PrintLast Go.Proofs.YtmbdphefnalenaaW.PrintMore
attribute [local go_sem] max2_int min2_int max_two min_two max_three min_three max_four min_four
set_option linter.unusedVariables false
set_option linter.unusedSimpArgs false
def laws_markRecS.go (k:Nat):List S32→Int→Option Int
 |[],x=>some x
 |y :: ys,x=>(laws_markIntS.f k y.f2 (wrap64 (wrap64 (x+1)+1))).bind fun t=>laws_markRecS.go k ys t.1
def laws_markRecS.f (k:Nat) (l0:List S32) (a1:Int):Option Int:=laws_markRecS.go k l0 a1
theorem laws_markRecS.mono_go (k:Nat):∀l x,LeO (laws_markRecS.go k l x) (laws_markRecS.go (k+1) l x)
 |[],_=>LeO.refl _
 |_ :: ys,_=>LeO.bind (laws_markIntS.mono _ _ _) (fun t=>laws_markRecS.mono_go k ys t.1)
theorem laws_markRecS.mono:∀a0 a1 k,LeO (laws_markRecS.f k a0 a1) (laws_markRecS.f (k+1) a0 a1):=fun a0 a1 k=>laws_markRecS.mono_go k a0 a1
theorem laws_markRecS.drop {l:List S32} {i:Nat} (h:i<l.length):l.drop i=rd_T32 l (i:Int) :: l.drop (i+1):=by
 rw[List.drop_eq_getElem_cons h];simp[rd_T32,List.getD_eq_getElem?_getD,List.getElem?_eq_getElem h]
theorem laws_markRecS.drop_set {l:List S32} {i:Nat} (x:S32):(l.set i x).drop (i+1)=l.drop (i+1):=by
 rw[List.drop_set];simp
theorem laws_markRecS.rd_set {l:List S32} {i:Nat} (x:S32) (h:i<l.length):rd_T32 (l.set i x) (i:Int)=x:=by
 simp[rd_T32,List.getD_eq_getElem?_getD,List.getElem?_set,h]
theorem laws_markRecS.put {W:World} {base g n cap:Nat} {ok:Nat→Prop} {l:List S32} (h:Kd.S k32 32 W base ok (.slice (some ⟨g,0,none⟩) n cap) l) {i:Nat} (hi:i<n) (x:Int) :
  (W.frozen? ⟨g,i*3,none⟩=false∧W.frozen? ⟨g,i*3+1,none⟩=false∧(∃u,W.cell? ⟨g,i*3,none⟩=some u)∧(∃u,W.cell? ⟨g,i*3+1,none⟩=some u))∧
  (Kd.S k32 32 (W.setCell ⟨g,i*3,none⟩ (.int .i64 x)) base ok (.slice (some ⟨g,0,none⟩) n cap) (l.set i ⟨x,(rd_T32 l i).f1,(rd_T32 l i).f2⟩)∧W.grownBy (W.setCell ⟨g,i*3,none⟩ (.int .i64 x)) (some g))∧
  (Kd.S k32 32 (W.setCell ⟨g,i*3+1,none⟩ (.int .i64 x)) base ok (.slice (some ⟨g,0,none⟩) n cap) (l.set i ⟨(rd_T32 l i).f0,x,(rd_T32 l i).f2⟩)∧W.grownBy (W.setCell ⟨g,i*3+1,none⟩ (.int .i64 x)) (some g)):=by
 have hX:Kd.S k32 32 W base (fun k_=>ok k_∧¬(fun _:Nat=>False) k_) (.slice (some ⟨g,0,none⟩) n cap) l:=Kd.S_mono h (fun k_ hk=>⟨hk,fun e=>e⟩);obtain⟨oki,ce,hcl,hM,hcc,hfr,hoki,hH⟩:=Kd.S_elem hX z32 (i:Int) (by omega) (by omega);obtain⟨ve,rfl,ge⟩:=k32_openM hM;have h1:=Kd.S_seg hH (by omega) (by omega) (seg:=[.int .i64 x]) (j:=0) (show 1≤3 from by decide) (x':=(⟨x,(rd_T32 l i).f1,(rd_T32 l i).f2⟩:S32)) (k32_mkM _ _ _ (⟨x,(rd_T32 l i).f1,(rd_T32 l i).f2⟩:S32) (Kd.R_mono ge (fun _ h_=>Or.inl h_))) (fun _ hk=>hk) (fun k_ hk_=>hk_.elim);have h2:=Kd.S_seg hH (by omega) (by omega) (seg:=[.int .i64 x]) (j:=1) (show 2≤3 from by decide) (x':=(⟨(rd_T32 l i).f0,x,(rd_T32 l i).f2⟩:S32)) (k32_mkM _ _ _ (⟨(rd_T32 l i).f0,x,(rd_T32 l i).f2⟩:S32) (Kd.R_mono ge (fun _ h_=>Or.inl h_))) (fun _ hk=>hk) (fun k_ hk_=>hk_.elim);have f0:=hfr 0;have f1:=hfr 1;have c0:=hcc 0 _ rfl;have c1:=hcc 1 _ rfl;simp only[Int.toNat_natCast,show(k32).sz=3 from rfl,Nat.add_zero] at f0 f1 c0 c1 h1 h2;exact⟨⟨f0,f1,⟨_,c0⟩,⟨_,c1⟩⟩,h1,h2⟩
theorem laws_markRecS.rd2 {l:List S32} {i:Nat} {a b:Int} {y:S32} {W:World} {base:Nat} {ok:Nat→Prop} {v:Value} (h:i<l.length) (hR:(Kd.int .i64).R 3 W base ok v (rd_T32 ((l.set i ⟨a,y.f1,(rd_T32 l i).f2⟩).set i ⟨(rd_T32 (l.set i ⟨a,y.f1,(rd_T32 l i).f2⟩) i).f0,b,(rd_T32 (l.set i ⟨a,y.f1,(rd_T32 l i).f2⟩) i).f2⟩) i).f2):(Kd.int .i64).R 3 W base ok v (rd_T32 l i).f2:=by
 rw[laws_markRecS.rd_set _ (by rw[List.length_set];exact h),laws_markRecS.rd_set _ h] at hR;exact hR
theorem laws_markRecS.lend {W:World} {base g n cap:Nat} {ok:Nat→Prop} {l:List S32} (h:Kd.S k32 32 W base ok (.slice (some ⟨g,0,none⟩) n cap) l) {i:Nat} (hi:i<n) :
  ∃(oki:Nat→Prop) (v:Value),W.cell? ⟨g,i*3+2,none⟩=some v∧(Kd.int .i64).R 3 W base oki v (rd_T32 l i).f2∧(∀k_,some k_=v.ownBlock→ok k_)∧
   ∀(W2:World) (m:List Int),(Kd.int .i64).R 3 W2 base (fun k_=>some k_=v.ownBlock∨W.heap.size≤k_) v m→Kept W W2 (fun k_=>some k_=v.ownBlock)→∃l',l'.length=l.length∧l'.drop (i+1)=l.drop (i+1)∧Kd.S k32 32 W2 base ok (.slice (some ⟨g,0,none⟩) n cap) l':=by
 obtain⟨oki,c,hcl,hM,hcc,hoki,hH⟩:=Kd.S_lend h z32 (i:Int) (by omega) (by omega);obtain⟨v,rfl,ge⟩:=k32_openM hM
 have hv:∀k_,some k_=v.ownBlock→oki k_:=fun k_ hk=>ge.1 k_ hk.symm
 have c2:=hcc 2 _ rfl;simp only[Int.toNat_natCast,show(k32).sz=3 from rfl] at c2;refine⟨oki,v,c2,ge,fun k_ hk=>(hoki k_ (hv k_ hk)).1,fun W2 m hm hk=>⟨_,?_,?_,Kd.H_back (Kd.H_step hH (fun k_ h1 h2 h3=>hk.2 k_ h3 (fun e=>h2 (hv k_ e)))) (x':=⟨(rd_T32 l i).f0,(rd_T32 l i).f1,m⟩) (k32_mkM _ _ _ (⟨(rd_T32 l i).f0,(rd_T32 l i).f1,m⟩:S32) (Kd.R_reok rfl hm (fun k_ hk=>ge.1 k_ hk))) (fun _ h=>h)⟩⟩
 ·simp
 ·rw[Int.toNat_natCast];exact laws_markRecS.drop_set _
set_option maxHeartbeats 8000000 in
set_option maxRecDepth 100000 in
theorem laws_markRecS.calls (k:Nat) (P0_:Nat→Prop) (u9000_:Value) (l0:List S32) (a1:Int) (r:Int) (w0 w:World) (hB:Below w0.heap.size w0 w) (ho0:Kd.S k32 32 w w0.heap.size P0_ u9000_ l0) (h:laws_markRecS.f k l0 a1=some r) :
  Calls Try.prog 42 #[u9000_,.int .i64 a1] w fun e w'=>e=.returned (.int .i64 r)∧Below w0.heap.size w0 w'∧Kept w w' (fun k_=>P0_ k_):=by
 have HO0:=qaf.mk (show Kd.S k32 32 w w0.heap.size (fun k_=>(P0_ k_∨w.heap.size≤k_)) u9000_ l0 from Kd.S_mono ho0 (fun k_ hk=>(.inl hk)))
 have hmx:l0.length≤9223372036854775807:=by
  obtain⟨A,c,rfl,h1,h2⟩:=Kd.S_reads ho0;have:=h2.2.1;omega
 have HMX:=qaf.mk hmx;clear hmx;have HK:=qaf.mk (Kept.refl w (fun k_=>P0_ k_));have HW0:=qaf.mk hB.size;have HB:=qaf.mk hB;clear hB;obtain⟨A_,c_,rfl⟩:=Kd.S_slice ho0;clear ho0;have H':=qaf.mk (show laws_markRecS.go k (l0.drop 0) a1=some r from h);clear h;go_enter Try.func42,Try.ntmps42;go_wp2
 go_loopg [1,5] l0.length (fun gq v1 v5 w'=>∃(l:List S32) (i:Nat) (x:Int),v1=.int .i64 x∧v5=.int .i64 (i:Int)∧qaf (i≤l0.length)∧qaf (l0.length - i≤gq)∧qaf (l.length=l0.length)∧qaf (laws_markRecS.go k (l.drop i) x=some r)∧qaf (Kd.S k32 32 w' w0.heap.size (fun k_=>(P0_ k_∨w.heap.size≤k_)) (.slice A_ l0.length c_) l)∧qaf (Kept w w' (fun k_=>P0_ k_))∧qaf (Below w0.heap.size w0 w'))
 case atStart=>exact⟨l0,0,a1,rfl,rfl,⟨Nat.zero_le _⟩,⟨by omega⟩,⟨rfl⟩,H',HO0,HK,HB⟩
 case round=>
  clear H' HO0 HK HB;obtain⟨l,i,x,rfl,rfl,HI,HG,HL,HH,HO,HK,HB⟩:=hrel;by_cases hlt:i<l0.length
  ·have hltz:(i:Int)<(l0.length:Int):=by omega
   have h0z:(0:Int)≤(i:Int):=by omega
   have hb0:decide ((i:Int)<(l0.length:Int))=true:=decide_eq_true hltz
   have hw1:(IntKind.i64.wrap ((i:Int)+1))=((i+1:Nat):Int):=by have:=HMX.out;rw[qai];unfold wrap64;omega
   obtain⟨g,cap,eo,gb,gl,cl,hg0⟩:=Kd.S_form HO.out (by have:=HL.out;omega);(first|cases eo|(injection eo with ea_ en_ ec_;(first|subst ea_|(injection ea_ with ea_;subst ea_));subst ec_;clear en_));have GB:=qaf.mk gb;clear gb gl hg0;have HP:=laws_markRecS.put HO.out hlt x;obtain⟨⟨f0,f1,⟨u0,c0⟩,⟨u1,c1⟩⟩,HP0,_⟩:=HP;have hm0:P0_ g∨w.heap.size≤g:=(Kd.S_R HO.out).1 g (by simp[Value.ownBlock]);have HM:=qaf.mk hm0;clear hm0;have HHd:=HH.out;rw[laws_markRecS.drop (by have:=HL.out;omega)] at HHd;obtain⟨⟨t1,t2⟩,ht,hh⟩:=Option.bind_eq_some_iff.mp HHd;have HT:=qaf.mk ht;have HN:=qaf.mk hh;clear HH HHd ht hh
   go_wp2_with(first|((with_reducible refine gate_store (t:=3) (p:=16) rfl ?_);refine qbe (t:=3) (p:=16) (v:=?vo_1) (w1:=(wr.setCell ⟨g,i*3,none⟩ (.int .i64 x))) ?hg ?ho ?hn ?hr ?_;(case ho=>rfl);(case hg=>rfl);(case hn=>rfl);(case hr=>first|(go_simp;done)|(go_simp;rfl));intro w8 hw;have hg_:wr.grownBy w8 (some g):=(by rw[hw];exact HP0.2);have hp_:=qaf.mk (show Kd.S k32 32 w8 w0.heap.size (fun k_=>(P0_ k_∨w.heap.size≤k_)) (.slice (some ⟨g,0,none⟩) l0.length c_) (l.set i ⟨x,(rd_T32 l i).f1,(rd_T32 l i).f2⟩) from by rw[hw];exact HP0.1);have hb_:=qaf.mk (show Below w0.heap.size w0 w8 from by rw[hw];exact qat HB.out GB.out);have hk_:=qaf.mk (Kept.of_grown (S:=(fun k_=>P0_ k_)) hg_ HK.out (fun k_ e_=>(Kd.S_R HO.out).1 k_ e_));clear HO HB HK HP0 f0 f1 c0 c1 hg_ hw;have HO:=hp_;have HB:=hb_;have HK:=hk_;clear hp_ hb_ hk_;obtain⟨⟨f0,f1,⟨u0,c0⟩,⟨u1,c1⟩⟩,_,HP1⟩:=laws_markRecS.put HO.out hlt (wrap64 (x+1)))|((with_reducible refine gate_store (t:=3) (p:=23) rfl ?_);refine qbe (t:=3) (p:=23) (v:=?vo_2) (w1:=(w8.setCell ⟨g,i*3+1,none⟩ (.int .i64 (wrap64 (x+1))))) ?hg ?ho ?hn ?hr ?_;(case ho=>rfl);(case hg=>rfl);(case hn=>rfl);(case hr=>first|(go_simp;done)|(go_simp;rfl));intro w9 hw;have hg_:w8.grownBy w9 (some g):=(by rw[hw];exact HP1.2);have hp_:=qaf.mk (show Kd.S k32 32 w9 w0.heap.size (fun k_=>(P0_ k_∨w.heap.size≤k_)) (.slice (some ⟨g,0,none⟩) l0.length c_) _ from by rw[hw];exact HP1.1);have hb_:=qaf.mk (show Below w0.heap.size w0 w9 from by rw[hw];exact qat HB.out GB.out);have hk_:=qaf.mk (Kept.of_grown (S:=(fun k_=>P0_ k_)) hg_ HK.out (fun k_ e_=>(Kd.S_R HO.out).1 k_ e_));clear HO HB HK HP1 f0 f1 c0 c1 hg_ hw;have HO:=hp_;have HB:=hb_;have HK:=hk_;clear hp_ hb_ hk_;obtain⟨oki,v2,cv,hR2,hok2,hback⟩:=laws_markRecS.lend HO.out hlt;have HR2:=qaf.mk (laws_markRecS.rd2 (l:=l) (i:=i) (by have:=HL.out;omega) hR2);have HK2:=qaf.mk hok2;have HBK:=qaf.mk hback;clear hR2 hok2 hback;obtain⟨A2,c2,e2⟩:=Kd.R_slice HR2.out;subst e2)|((with_reducible refine qag (f:=75) rfl ?_);refine goesL_ (some 32) rfl rfl Try.func75 (by kernel_rfl) rfl #[.slice A2 (rd_T32 l i).f2.length c2,.int .i64 (wrap64 (wrap64 (x+1)+1))] rfl (by(try simp only[List.map_toArray,List.map_cons,List.map_nil]);first|done|rfl) ?_;(with_reducible refine(laws_markIntS.calls k (fun k_=>some k_=(.slice A2 (rd_T32 l i).f2.length c2:Value).ownBlock) (.slice A2 (rd_T32 l i).f2.length c2) (rd_T32 l i).f2 (wrap64 (wrap64 (x+1)+1)) t1 t2 w0 _ ?side1 ?side2 HT.out).mono ?_);(case side1=>exact HB.out);(case side2=>exact Kd.R_tight rfl HR2.out);rintro e w10 ⟨rfl,hy0,hb,hkp⟩;refine⟨_,rfl,?_⟩;obtain⟨l2,hl2,hd2,hs2⟩:=HBK.out w10 t2 hy0 hkp;have hk_:=qaf.mk (Kept.then_ (S:=(fun k_=>P0_ k_)) HK.out hkp (fun k_ hs_=>HK2.out k_ hs_));have HO2:=qaf.mk hs2;have HD2:=qaf.mk hd2;have HL2:=qaf.mk hl2;clear HB HK hs2 hd2 hl2 hy0;have HB:=qaf.mk hb;have HK:=hk_;clear hb hk_ hkp))
   go_roundg (l0.length - (i+1))
   case measure=>have:=HG.out;omega
   case rel=>
    refine⟨l2,i+1,t1,rfl,by go_num,⟨by omega⟩,⟨Nat.le_refl _⟩,⟨?_⟩,⟨?_⟩,HO2,HK,HB⟩
    ·rw[HL2.out];simp only[List.length_set];exact HL.out
    ·rw[HD2.out,laws_markRecS.drop_set,laws_markRecS.drop_set];exact HN.out
  ·have hltz:¬(i:Int)<(l0.length:Int):=by omega
   have hb0:decide ((i:Int)<(l0.length:Int))=false:=decide_eq_false hltz;have hh:=HH.out;rw[List.drop_eq_nil_of_le (by have:=HL.out;omega)] at hh
   injection hh with hh
   subst hh;go_wp2;go_ret;exact⟨rfl,HB.out,HK.out⟩
end Go.Proofs.Ytmbdphefnalenaa.Print
