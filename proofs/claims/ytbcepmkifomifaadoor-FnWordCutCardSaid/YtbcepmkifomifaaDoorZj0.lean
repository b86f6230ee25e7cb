-- Written by squeeze.py: not trusted, Lean checks it.
import Derived.Test.YtbcepmkifomifaaDoorZK
import Derived.Test.YtbcepmkifomifaaDoorZe0
namespace Go.Proofs.YtbcepmkifomifaaDoor.Print
open Go.RowKit Go.Proofs.YtbcepmkifomifaaDoorW.PrintWords Go.Proofs.YtbcepmkifomifaaDoorW.PrintLast Go.Proofs.YtbcepmkifomifaaDoorW.PrintMore
attribute [local go_sem] max2_int min2_int max_two min_two max_three min_three max_four min_four
set_option linter.unusedVariables false
set_option linter.unusedSimpArgs false
def spec_l1Cut.step (a:Int) (out:List ByteArray) (b:UInt8):List ByteArray:=if((b.toNat:Nat):Int)=a then out++[ByteArray.empty] else out.set (out.length - 1) (rdOf ByteArray.empty out ((out.length:Int) - 1)++⟨#[b]⟩)
def spec_l1Cut.T7:Bool × List (List Nat × List Nat):=(true,[([],[]),([],[]),([1],[1]),([2],[2]),([],[]),([],[]),([5],[5]),([6],[6]),([4,7],[4,7]),([8],[8]),([],[]),([],[]),([10,11],[10,11]),([12],[12]),([13],[13]),([9,14],[9,14]),([0,3,0,1,2,3,4,5,6,7,8,9,10,11,12,13,14,15],[0,3]),([16,15,0,1,2,3,4,5,6,7,8,9,10,11,12,13,14,15],[15,16])])
def spec_l1Cut.B7:List Nat:=[0,0,2,6,0,0,32,96,240,496,0,0,3072,7168,15360,32752,65535,131071]
theorem spec_l1Cut.tab7:rtab .any (opsOf Tryd.f47 7)=spec_l1Cut.T7:=by kernel_rfl
theorem spec_l1Cut.bits7:waitsOk spec_l1Cut.T7.2 spec_l1Cut.B7=true:=by kernel_rfl
def spec_l1Cut.f (a0:ByteArray) (a1:Int):Option (List ByteArray):=if a0.size≤1000 then some (a0.data.toList.foldl (spec_l1Cut.step a1) [ByteArray.empty]) else none
theorem spec_l1Cut.len (a:Int) (out:List ByteArray) (b:UInt8):out.length≤(spec_l1Cut.step a out b).length∧(spec_l1Cut.step a out b).length≤out.length+1:=by
 unfold spec_l1Cut.step;split
 ·simp
 ·rw[List.length_set];omega
theorem spec_l1Cut.own_ {W:World} {base:Nat} {v:Value} {out:List ByteArray} (h:Kd.R Kd.string 9 W base (fun _=>True) v out) (hl:1≤out.length):∃g cap,v=.slice (some ⟨g,0,none⟩) out.length cap:=by
 obtain⟨-,inner,hown,hr⟩:=h
 rcases hown.2 with⟨rfl,hn⟩|⟨g,cap,cur,rfl,_⟩
 ·omega
 ·exact⟨g,cap,rfl⟩
theorem spec_l1Cut.rd_size (z:List ByteArray) (n:Nat) (h:∀y ∈ z,y.size≤n) (j:Int):(rdOf ByteArray.empty z j).size≤n:=by
 unfold rdOf;rw[List.getD_eq_getElem?_getD]
 cases he:z[j.toNat]? with
 |none=>exact Nat.zero_le _
 |some y=>exact h y (List.mem_of_getElem? he)
theorem spec_l1Cut.sizes (a:Int):∀(l:List UInt8) (z:List ByteArray) (n:Nat),(∀y ∈ z,y.size≤n)→∀y ∈ l.foldl (spec_l1Cut.step a) z,y.size≤n+l.length
 |[],z,n,h,y,hy=>h y hy
 |b :: l,z,n,h,y,hy=>by
  rw[List.foldl_cons] at hy
  have:=spec_l1Cut.sizes a l _ (n+1) (fun q hq=>by
   unfold spec_l1Cut.step at hq;split at hq
   ·rcases List.mem_append.1 hq with h1|h1
    ·have:=h q h1;omega
    ·rw[List.mem_singleton] at h1;subst h1;exact Nat.zero_le _
   ·rcases List.mem_or_eq_of_mem_set hq with h1|h1
    ·have:=h q h1;omega
    ·subst h1;rw[ByteArray.size_append];have h2:=spec_l1Cut.rd_size z n h ((z.length:Int) - 1);have h3:(⟨#[b]⟩:ByteArray).size=1:=rfl
     omega) y hy
  rw[List.length_cons];omega
theorem spec_l1Cut.byte (b:UInt8):strOfNums [((b.toNat:Nat):Int)]=⟨#[b]⟩:=by
 simp[strOfNums]
theorem spec_l1Cut.bt_ (s:ByteArray) (i:Nat) (h:i<s.data.toList.length):bt s (i:Int)=(((s.data.toList[i]).toNat:Nat):Int):=by
 have h':i<s.size:=h;simp only[bt,Int.toNat_natCast,dif_pos h'];rfl
theorem spec_l1Cut.takeS (s:ByteArray) (i:Nat) (h:i<s.data.toList.length) (a:Int) (z:List ByteArray):(s.data.toList.take (i+1)).foldl (spec_l1Cut.step a) z=spec_l1Cut.step a ((s.data.toList.take i).foldl (spec_l1Cut.step a) z) (s.data.toList[i]):=by
 rw[List.take_succ_eq_append_getElem h,List.foldl_append];rfl
theorem spec_l1Cut.lens (a:Int):∀(l:List UInt8) (z:List ByteArray),z.length≤(l.foldl (spec_l1Cut.step a) z).length∧(l.foldl (spec_l1Cut.step a) z).length≤z.length+l.length
 |[],z=>by simp
 |b :: l,z=>by
  have h1:=spec_l1Cut.lens a l (spec_l1Cut.step a z b);have h2:=spec_l1Cut.len a z b;rw[List.foldl_cons,List.length_cons];omega
set_option maxHeartbeats 8000000 in
set_option maxRecDepth 100000 in
theorem spec_l1Cut.calls (a0:ByteArray) (a1:Int) (r:List ByteArray) (w:World) (h:spec_l1Cut.f a0 a1=some r) :
  Calls Tryd.prog 47 #[.string a0,.int .u8 a1] w fun e w'=>∃v0_:Value,e=.returned (v0_)∧Kd.R Kd.string 9 w' w.heap.size (fun _=>True) v0_ r∧Below w.heap.size w w':=by
 unfold spec_l1Cut.f at h;by_cases hs:a0.size≤1000
 ·rw[if_pos hs] at h
  injection h with h
  subst h;have hL:a0.data.toList.length=a0.size:=rfl;have HB:=qaj.mk (Below.refl w.heap.size w);go_enter Tryd.func47,Tryd.ntmps47
  go_wp2_with(first|((with_reducible refine qai (N:=7) rfl ?_);refine Kd.R_lit Kd.string _ 9 (by rfl) (N:=7) (by rfl) (xs:=([ByteArray.empty]:List ByteArray)) (inner:=[.string ByteArray.empty]) (ok:=fun _=>True) (okp:=fun _=>True) (by first|(go_simp;done)|(go_simp;rfl)) ?hp (fun _ hk=>hk) trivial (Below.refl _ _) (Nat.le_refl _) (by simp) ?_;(case hp=>exact(Reps.one (show Kd.M Kd.string _ _ _ ByteArray.empty [.string ByteArray.empty] from rfl) (Reps.none _ _)));intro v7 w7 ho7 hb hg_ hnew_;clear hg_ hnew_;have HN:=qaj.mk ho7;have n1_:=qaj.mk (qaa HB.out hb);clear HB ho7 hb;have HB:=n1_;clear n1_))
  go_loopg [5,6] a0.size (fun kq v5 v6 w'=>∃(x:Int) (i:Nat),v6=.int .i64 x∧x=(i:Int)∧i+kq=a0.size∧Kd.R Kd.string 9 w' w.heap.size (fun _=>True) v5 ((a0.data.toList.take i).foldl (spec_l1Cut.step a1) [ByteArray.empty])∧Below w.heap.size w w')
  case atStart=>exact⟨0,0,rfl,rfl,by omega,HN.out,HB.out⟩
  case round=>
   obtain⟨x,i,rfl,hxi,hi,hN,hb⟩:=hrel;clear HN HB;have HN:=qaj.mk hN;have HBb:=qaj.mk hb;clear hN hb
   cases gk with
   |zero=>
    have hd:decide (x<(a0.size:Int))=false:=decide_eq_false (by omega);have hl:a0.data.toList.take i=a0.data.toList:=List.take_of_length_le (by omega);rw[hl] at HN;go_wp2;go_ret;exact⟨_,rfl,HN.out,HBb.out⟩
   |succ g=>
    have hlt:x<(a0.size:Int):=by omega
    have hw1:wrap64 (x+1)=x+1:=by unfold wrap64;omega
    have hd:decide (x<(a0.size:Int))=true:=decide_eq_true hlt
    have hil:i<a0.data.toList.length:=by omega
    have hlens:=spec_l1Cut.lens a1 (a0.data.toList.take i) [ByteArray.empty];rw[List.length_take,List.length_singleton] at hlens;have hsz:=spec_l1Cut.sizes a1 (a0.data.toList.take i) [ByteArray.empty] 0 (fun y hy=>by rw[List.mem_singleton] at hy;subst hy;exact Nat.le_refl _);rw[List.length_take] at hsz;have hT:=spec_l1Cut.takeS a0 i hil a1 [ByteArray.empty];generalize (a0.data.toList.take i).foldl (spec_l1Cut.step a1) [ByteArray.empty]=out at HN hlens hT hsz;have p6:=eq_true (show 0≤x by omega);have q6:=eq_true hlt;have hx6:=bt_at a0 x;have hb_:bt a0 x=_:=hxi ▸ spec_l1Cut.bt_ a0 i hil;have HX:=qaj.mk hxi;have HBy:=qaj.mk hb_;clear hxi;by_cases c7:bt a0 x=a1
    ·have c7b0:(bt a0 x == a1)=true:=beq_iff_eq.mpr c7
     have hT2:spec_l1Cut.step a1 out (a0.data.toList[i])=out++[ByteArray.empty]:=by
      unfold spec_l1Cut.step;rw[if_pos (by rw[←hb_];exact c7)]
     rw[hT2] at hT;clear hb_ hT2
     go_wp2_with((with_reducible refine gate_builtin (b:=.append) (xs:=#[.tmp 19,.tmp 20]) rfl ?_);at_builtin;refine Kd.R_append Kd.string (w0:=w) w.heap.size rfl (.tmp 19) (.tmp 20) 56 9 (.string ByteArray.empty) 16 rfl Tryd.underlying56 info9 rfl (by decide) (by omega) _ out ByteArray.empty [.string ByteArray.empty] (fun _=>True) (fun _=>False) rfl rfl rfl (fun _ hk=>hk.elim) (fun _ _=>trivial) HN.out HBb.out HBb.out.size (by omega) ?_;intro v21 w21 ho hb hg_ hat;replace HN:=qaj.mk ho;replace HBb:=qaj.mk hb;clear ho hb hg_ hat)
     go_roundg g
     case measure=>omega
     case rel=>
      refine⟨_,i+1,rfl,by have:=HX.out;omega,by omega,?_,HBb.out⟩;rw[hT];exact HN.out
    ·have c7b0:(bt a0 x == a1)=false:=beq_eq_false_iff_ne.mpr c7
     have hT2:spec_l1Cut.step a1 out (a0.data.toList[i])=out.set (out.length - 1) (rdOf ByteArray.empty out ((out.length:Int) - 1)++strOfNums [bt a0 x]):=by
      unfold spec_l1Cut.step;rw[if_neg (by rw[←hb_];exact c7),hb_,spec_l1Cut.byte]
     rw[hT2] at hT;clear hb_ hT2;obtain⟨g0,cap0,hv0⟩:=spec_l1Cut.own_ HN.out (by omega);subst hv0
     have hw_:wrap64 ((out.length:Int) - 1)=(out.length:Int) - 1:=by unfold wrap64;omega
     have p8:=eq_true (show 0≤(out.length:Int) - 1 by omega);have q8:=eq_true (show(out.length:Int) - 1<(out.length:Int) by omega);have p9:=eq_true (show(1:Int)≤(out.length:Int) by omega)
     have e9:((out.length:Int) - 1).toNat=out.length - 1:=by omega
     have h10:=spec_l1Cut.rd_size out _ hsz ((out.length:Int) - 1);have h11:(strOfNums [bt a0 x]).size=1:=rfl;have p10:(9223372036854775807<(rdOf ByteArray.empty out ((out.length:Int) - 1)).size+(strOfNums [bt a0 x]).size)=False:=eq_false (by omega);clear h10 h11;have HE9:=qaj.mk e9;clear e9
     try go_wp2
     replace HN:=qaj.mk (Kd.R_drew HN.out);replace HBb:=qaj.mk (qar HBb.out);refine start_ (n:=18) (S:=fun w'=>w'.cell? ⟨g0,out.length - 1,none⟩=some (.string (rdOf ByteArray.empty out ((out.length:Int) - 1)))) (ds:=[17]) #[false,false,false,false,false,false,false,false,false,false,false,false,false,false,false,false,false,false] (by kernel_rfl) rfl rfl (HE9.out ▸ (Kd.R_cell ByteArray.empty HN.out ((out.length:Int) - 1) (by omega) (by omega)).1) (fun hHeld=>?_);refine with_tabW spec_l1Cut.tab7 spec_l1Cut.bits7 (fun HT_ HW_=>?_);generalize wr.drew=w13 at HN HBb hHeld ⊢;refine qaq (i:=0) (N:=some 22) (v:=?_) (a':=?_) #[true,false,false,false,false,false,false,false,false,false,false,false,false,false,false,false,false,false] rfl rfl (qan HT_.out (by kernel_rfl)) (fun _ _ _ h=>h) (Or.inl ⟨by rfl,?_⟩) ?_ ?_;rotate_left
     ·intro w';go_simp
      with_reducible rfl
     rotate_left
     ·simp only[Act.put,List.setIfInBounds_toArray,List.set_cons_zero,List.set_cons_succ,qak,qal];rfl
     refine qaq (i:=1) (N:=some 23) (v:=?_) (a':=?_) #[true,true,false,false,false,false,false,false,false,false,false,false,false,false,false,false,false,false] rfl rfl (qan HT_.out (by kernel_rfl)) (fun _ _ _ h=>h) (Or.inl ⟨by rfl,?_⟩) ?_ ?_;rotate_left
     ·intro w';go_simp
      with_reducible rfl
     rotate_left
     ·simp only[Act.put,List.setIfInBounds_toArray,List.set_cons_zero,List.set_cons_succ,qak,qal];rfl
     refine qaq (i:=2) (N:=some 24) (v:=?_) (a':=?_) #[true,true,true,false,false,false,false,false,false,false,false,false,false,false,false,false,false,false] rfl rfl (qan HT_.out (by kernel_rfl)) (fun _ _ _ h=>h) (Or.inl ⟨by rfl,?_⟩) ?_ ?_;rotate_left
     ·intro w';go_simp
      with_reducible rfl
     rotate_left
     ·simp only[Act.put,List.setIfInBounds_toArray,List.set_cons_zero,List.set_cons_succ,qak,qal];rfl
     refine qaq (i:=3) (N:=some 25) (v:=?_) (a':=?_) #[true,true,true,true,false,false,false,false,false,false,false,false,false,false,false,false,false,false] rfl rfl (qan HT_.out (by kernel_rfl)) (fun _ _ _ h=>h) (Or.inl ⟨by rfl,?_⟩) ?_ ?_;rotate_left
     ·intro w';go_simp
      with_reducible rfl
     rotate_left
     ·simp only[Act.put,List.setIfInBounds_toArray,List.set_cons_zero,List.set_cons_succ,qak,qal];rfl
     refine qaq (i:=4) (N:=some 26) (v:=?_) (a':=?_) #[true,true,true,true,true,false,false,false,false,false,false,false,false,false,false,false,false,false] rfl rfl (qan HT_.out (by kernel_rfl)) (fun _ _ _ h=>h) (Or.inl ⟨by rfl,?_⟩) ?_ ?_;rotate_left
     ·intro w';go_simp
      with_reducible rfl
     rotate_left
     ·simp only[Act.put,List.setIfInBounds_toArray,List.set_cons_zero,List.set_cons_succ,qak,qal];rfl
     refine qaq (i:=5) (N:=some 27) (v:=?_) (a':=?_) #[true,true,true,true,true,true,false,false,false,false,false,false,false,false,false,false,false,false] rfl rfl (qan HT_.out (by kernel_rfl)) (fun _ _ _ h=>h) (Or.inl ⟨by rfl,?_⟩) ?_ ?_;rotate_left
     ·intro w';go_simp
      with_reducible rfl
     rotate_left
     ·simp only[Act.put,List.setIfInBounds_toArray,List.set_cons_zero,List.set_cons_succ,qak,qal];rfl
     refine qaq (i:=6) (N:=some 28) (v:=?_) (a':=?_) #[true,true,true,true,true,true,true,false,false,false,false,false,false,false,false,false,false,false] rfl rfl (qan HT_.out (by kernel_rfl)) (fun _ _ _ h=>h) (Or.inl ⟨by rfl,?_⟩) ?_ ?_;rotate_left
     ·intro w';go_simp
      with_reducible rfl
     rotate_left
     ·simp only[Act.put,List.setIfInBounds_toArray,List.set_cons_zero,List.set_cons_succ,qak,qal];rfl
     refine qaq (i:=7) (N:=some 29) (v:=?_) (a':=?_) #[true,true,true,true,true,true,true,true,false,false,false,false,false,false,false,false,false,false] rfl rfl (qan HT_.out (by kernel_rfl)) (fun _ _ _ h=>h) (Or.inl ⟨by rfl,?_⟩) ?_ ?_;rotate_left
     ·intro w';go_simp
      with_reducible rfl
     rotate_left
     ·simp only[Act.put,List.setIfInBounds_toArray,List.set_cons_zero,List.set_cons_succ,qak,qal];rfl
     refine qaq (i:=8) (N:=some 30) (v:=?_) (a':=?_) #[true,true,true,true,true,true,true,true,true,false,false,false,false,false,false,false,false,false] rfl rfl (qan HT_.out (by kernel_rfl)) (fun _ _ _ h=>h) (Or.inl ⟨by rfl,?_⟩) ?_ ?_;rotate_left
     ·intro w';go_simp
      with_reducible rfl
     rotate_left
     ·simp only[Act.put,List.setIfInBounds_toArray,List.set_cons_zero,List.set_cons_succ,qak,qal];rfl
     refine take_ (i:=9) (N:=some 31) (v:=?_) (a':=?_) #[true,true,true,true,true,true,true,true,true,true,false,false,false,false,false,false,false,false] rfl rfl (take_ofW HT_.out HW_.out (by kernel_rfl)) (fun _ _ _ h=>h) (Or.inl ⟨by rfl,?_⟩) hHeld ?_ ?_;rotate_left
     ·intro w' s0;go_simp
      with_reducible rfl
     rotate_left
     ·simp only[Act.put,List.setIfInBounds_toArray,List.set_cons_zero,List.set_cons_succ,qak,qal];rfl
     refine qaq (i:=10) (N:=some 32) (v:=?_) (a':=?_) #[true,true,true,true,true,true,true,true,true,true,true,false,false,false,false,false,false,false] rfl rfl (qan HT_.out (by kernel_rfl)) (fun _ _ _ h=>h) (Or.inl ⟨by rfl,?_⟩) ?_ ?_;rotate_left
     ·intro w';go_simp
      with_reducible rfl
     rotate_left
     ·simp only[Act.put,List.setIfInBounds_toArray,List.set_cons_zero,List.set_cons_succ,qak,qal];rfl
     refine qaq (i:=11) (N:=some 33) (v:=?_) (a':=?_) #[true,true,true,true,true,true,true,true,true,true,true,true,false,false,false,false,false,false] rfl rfl (qan HT_.out (by kernel_rfl)) (fun _ _ _ h=>h) (Or.inl ⟨by rfl,?_⟩) ?_ ?_;rotate_left
     ·intro w';go_simp
      with_reducible rfl
     rotate_left
     ·simp only[Act.put,List.setIfInBounds_toArray,List.set_cons_zero,List.set_cons_succ,qak,qal];rfl
     refine qaq (i:=12) (N:=some 34) (v:=?_) (a':=?_) #[true,true,true,true,true,true,true,true,true,true,true,true,true,false,false,false,false,false] rfl rfl (qan HT_.out (by kernel_rfl)) (fun _ _ _ h=>h) (Or.inl ⟨by rfl,?_⟩) ?_ ?_;rotate_left
     ·intro w';go_simp
      with_reducible rfl
     rotate_left
     ·simp only[Act.put,List.setIfInBounds_toArray,List.set_cons_zero,List.set_cons_succ,qak,qal];rfl
     refine one_ (i:=13) (N:=some 35) #[true,true,true,true,true,true,true,true,true,true,true,true,true,true,false,false,false,false] rfl rfl (one_of HT_.out (by kernel_rfl)) (by decide) (fun K hK=>?_);refine Kd.R_lit_step (Kd.int .u8) _ 5 (by rfl) (N:=35) (by rfl) (xs:=([bt a0 x]:List Int)) (inner:=[.int .u8 (bt a0 x)]) (ok:=fun _=>True) (okp:=fun _=>True) (by first|(go_simp;done)|(go_simp;rfl)) ?hp (fun _ hk=>hk) trivial (Below.refl _ _) (Nat.le_refl _) (by simp) ?_;(case hp=>exact(Reps.one (show Kd.M (Kd.int .u8) _ _ _ (bt a0 x) [.int .u8 (bt a0 x)] from rfl) (Reps.none _ _)));intro v35 w15 ho16 hb hg_ hnew_;clear hg_ hnew_;have HL:=qaj.mk ho16;have n0_:=qaj.mk (Kd.R_below HN.out hb);have n1_:=qaj.mk (qaa HBb.out hb);have HS_:=(hb.cell (World.block_lt_of_cell? _ _ hHeld)).trans hHeld;clear HN HBb hb ho16;have HN:=n0_;have HBb:=n1_;clear n0_ n1_;refine hK.out _ _ HS_ (fun hHeld=>?_);clear hK K HS_;refine norm_ (a':=?_) ?_ ?_;rotate_left
     ·show Act.put _ (some 35) _=_;simp only[Act.put,List.setIfInBounds_toArray,List.set_cons_zero,List.set_cons_succ,qak,qal];rfl
     refine one_ (i:=14) (N:=some 36) #[true,true,true,true,true,true,true,true,true,true,true,true,true,true,true,false,false,false] rfl rfl (one_of HT_.out (by kernel_rfl)) (by decide) (fun K hK=>?_);have hcv17:=own_string (P:=Tryd.prog) Tryd.underlying22 Tryd.underlying5 Tryd.underlying9 (Kd.own_of_R HL.out);refine value_ (w1:=?_) (v:=?_) (by rfl) rfl ?_ ?_;rotate_left 2
     ·go_simp;constructor
      ·rfl
      ·rfl
     clear hcv17;refine hK.out _ _ hHeld (fun hHeld=>?_);clear hK K;refine norm_ (a':=?_) ?_ ?_;rotate_left
     ·show Act.put _ (some 36) _=_;simp only[Act.put,List.setIfInBounds_toArray,List.set_cons_zero,List.set_cons_succ,qak,qal];rfl
     refine qaq (i:=15) (N:=some 37) (v:=?_) (a':=?_) #[true,true,true,true,true,true,true,true,true,true,true,true,true,true,true,true,false,false] rfl rfl (qan HT_.out (by kernel_rfl)) (fun _ _ _ h=>h) (Or.inl ⟨by rfl,?_⟩) ?_ ?_;rotate_left
     ·intro w';go_simp
      with_reducible rfl
     rotate_left
     ·simp only[Act.put,List.setIfInBounds_toArray,List.set_cons_zero,List.set_cons_succ,qak,qal];rfl
     refine qaq (i:=16) (N:=some 38) (v:=?_) (a':=?_) #[true,true,true,true,true,true,true,true,true,true,true,true,true,true,true,true,true,false] rfl rfl (qan HT_.out (by kernel_rfl)) (fun _ _ _ h=>h) (Or.inl ⟨by rfl,?_⟩) ?_ ?_;rotate_left
     ·intro w';go_simp
      with_reducible rfl
     rotate_left
     ·simp only[Act.put,List.setIfInBounds_toArray,List.set_cons_zero,List.set_cons_succ,qak,qal];rfl
     refine last_ (i:=17) (N:=none) #[true,true,true,true,true,true,true,true,true,true,true,true,true,true,true,true,true,true] rfl rfl (one_of HT_.out (by kernel_rfl)) (by decide) (fun K hK=>?_);have hst_:=HE9.out ▸ Kd.R_putg HN.out ((out.length:Int) - 1) ((rdOf ByteArray.empty out ((out.length:Int) - 1))++strOfNums [bt a0 x]);have hfz_:=HE9.out ▸ (Kd.R_cell ByteArray.empty HN.out ((out.length:Int) - 1) (by omega) (by omega)).2;refine skip_ (w1:=w15.setCell ⟨g0,out.length - 1,none⟩ (.string ((rdOf ByteArray.empty out ((out.length:Int) - 1))++strOfNums [bt a0 x]))) (by rfl) rfl ?_ ?_
     ·go_simp
     refine hK.out _ _ ?_;clear hK K;refine done_ (by kernel_rfl) ?_;have hb0_:w.heap.size≤g0:=Kd.R_base HN.out g0 rfl;replace HN:=qaj.mk hst_.1;replace HBb:=qaj.mk (below_set (j:=out.length - 1) (v:=.string (rdOf ByteArray.empty out ((out.length:Int) - 1)++strOfNums [bt a0 x])) HBb.out hb0_);clear hst_ hfz_ hHeld hb0_;go_wp2
     go_roundg g
     case measure=>omega
     case rel=>
      refine⟨_,i+1,rfl,by have:=HX.out;omega,by omega,?_,HBb.out⟩;rw[hT];exact HN.out
 ·rw[if_neg hs] at h
  cases h
def spec_l1Dec.l0:Nat→ByteArray→Int→Int→Option (Int)
 |0,_,_,_=>none
 |k+1,x0,x3,x4=>if x4<(x0.size:Int) then(if 0≤x4 then(if(bt x0 x4)<48 then(some (-1)) else(if(bt x0 x4)>57 then(some (-1)) else(spec_l1Dec.l0 k x0 (wrap64 ((wrap64 (10*x3))+(((bt x0 x4) - 48)%256))) (wrap64 (x4+1))))) else(none)) else(some x3)
def spec_l1Dec.f (k:Nat) (a0:ByteArray):Option (Int):=(spec_l6In.f (a0.size:Int) 1 2).bind fun t283=>(if t283=true then(spec_l1Dec.l0 k a0 0 0) else(some (-1)))
theorem spec_l1Dec.mono_l:∀k,(∀y0 y1 y2,LeO (spec_l1Dec.l0 k y0 y1 y2) (spec_l1Dec.l0 (k+1) y0 y1 y2))
 |0=>fun _ _ _ r h=>by simp[spec_l1Dec.l0] at h
 |k+1=>by
  have ih0:=spec_l1Dec.mono_l k
  ·intro y0 y1 y2;unfold spec_l1Dec.l0
   repeat' first|(with_reducible exact ih0 _ _ _)|(with_reducible exact LeO.refl _)|(with_reducible exact LeO.none _)|(with_reducible refine LeO.ite ?_ ?_)|(with_reducible refine LeO.bind ?_ (fun _=>?_))|exact ih0 _ _ _|exact LeO.none _|refine LeO.ite ?_ ?_|refine LeO.bind ?_ (fun _=>?_)
theorem spec_l1Dec.mono:∀a0 k,LeO (spec_l1Dec.f k a0) (spec_l1Dec.f (k+1) a0):=by
 intro a0 k;have ih0:=spec_l1Dec.mono_l k;unfold spec_l1Dec.f
 repeat' first|(with_reducible exact ih0 _ _ _)|(with_reducible exact LeO.refl _)|(with_reducible exact LeO.none _)|(with_reducible refine LeO.ite ?_ ?_)|(with_reducible refine LeO.bind ?_ (fun _=>?_))|exact ih0 _ _ _|exact LeO.none _|refine LeO.ite ?_ ?_|refine LeO.bind ?_ (fun _=>?_)
set_option maxHeartbeats 8000000 in
set_option maxRecDepth 100000 in
theorem spec_l1Dec.calls (k:Nat) (a0:ByteArray) (r:Int) (w:World) (h:spec_l1Dec.f k a0=some r) :
  Calls Tryd.prog 48 #[.string a0] w fun e w'=>e=.returned (.int .i64 r)∧Drawn0 w w':=by
 have H:((spec_l6In.f (a0.size:Int) 1 2).bind fun t283=>(if t283=true then(spec_l1Dec.l0 k a0 0 0) else(some (-1))))=some r:=h;clear h;replace H:=Option.bind_eq_some_iff.mp H;obtain⟨t283,A20,H⟩:=H;replace H:(if t283=true then(spec_l1Dec.l0 k a0 0 0) else(some (-1)))=some r:=H;have A2:=qaj.mk A20;clear A20;by_cases c3:t283=true
 ·subst c3
  have H1:(spec_l1Dec.l0 k a0 0 0)=some r:=by rw[if_pos rfl] at H;exact H
  clear H;have H:=H1;clear H1;have H':=qaj.mk H;clear H;go_enter Tryd.func48,Tryd.ntmps48
  go_wp2_with(first|((with_reducible refine qae (f:=64) rfl ?_);refine zF (some 7) Tryd.func64 #[.int .i64 (a0.size:Int),.int .i64 1,.int .i64 2] ?_;(with_reducible refine(spec_l6In.calls (a0.size:Int) 1 2 true _ A2.out).mono ?_);rintro e w' ⟨rfl,⟨nd,rfl⟩⟩;refine⟨_,rfl,?_⟩))
  go_loopg [3,4] k (fun kq v3 v4 w'=>∃(x3_1:Int) (x4_1:Int),v3=.int .i64 x3_1∧v4=.int .i64 x4_1∧qaj (spec_l1Dec.l0 kq a0 x3_1 x4_1=some r)∧qaj (kq≤k)∧Drawn0 w w')
  case atStart=>exact⟨(0),(0),(za23),(za23),H',⟨Nat.le_refl _⟩,za32⟩
  case round=>
   clear H'
   try clear p2
   try clear c3
   obtain⟨x3_1,x4_1,rfl,rfl,HA,HK1,⟨m1,rfl⟩⟩:=hrel
   cases gk with
   |zero=>exact absurd HA.out (by simp[spec_l1Dec.l0])
   |succ k1=>
    have H:=HA.out;clear HA;simp only[spec_l1Dec.l0] at H;by_cases c4:x4_1<(a0.size:Int)
    ·rw[if_pos c4] at H;have c4b0:decide (x4_1<(a0.size:Int))=true:=decide_eq_true c4;clear c4;by_cases c5:0≤x4_1
     ·rw[if_pos c5] at H;have c5b0:decide (0≤x4_1)=true:=decide_eq_true c5;clear c5;by_cases c7:(bt a0 x4_1)<48
      ·rw[if_pos c7] at H;have c7b0:decide ((bt a0 x4_1)<48)=true:=decide_eq_true c7;clear c7;obtain rfl:=Option.some.inj H;have p6:0≤(x4_1:Int):=of_decide_eq_true (za13);have q6:x4_1<(a0.size:Int):=of_decide_eq_true (za13);have hx6:=bt_at a0 x4_1;replace p6:=eq_true p6;replace q6:=eq_true q6;go_wp2;go_ret;exact⟨za23,za32⟩
      ·rw[if_neg c7] at H;have c7b0:decide ((bt a0 x4_1)<48)=false:=decide_eq_false c7;clear c7;by_cases c9:(bt a0 x4_1)>57
       ·rw[if_pos c9] at H;have c9b0:decide (57<(bt a0 x4_1))=true:=decide_eq_true c9;clear c9;obtain rfl:=Option.some.inj H;have p6:0≤(x4_1:Int):=of_decide_eq_true (za13);have q6:x4_1<(a0.size:Int):=of_decide_eq_true (za13);have hx6:=bt_at a0 x4_1;replace p6:=eq_true p6;replace q6:=eq_true q6;have p8:0≤(x4_1:Int):=of_decide_eq_true (za13);have q8:x4_1<(a0.size:Int):=of_decide_eq_true (za13);have hx8:=bt_at a0 x4_1;replace p8:=eq_true p8;replace q8:=eq_true q8;go_wp2;go_ret;exact⟨za23,za32⟩
       ·rw[if_neg c9] at H;have c9b0:decide (57<(bt a0 x4_1))=false:=decide_eq_false c9;clear c9;have H':=qaj.mk H;clear H;have p6:0≤(x4_1:Int):=of_decide_eq_true (za13);have q6:x4_1<(a0.size:Int):=of_decide_eq_true (za13);have hx6:=bt_at a0 x4_1;replace p6:=eq_true p6;replace q6:=eq_true q6;have p8:0≤(x4_1:Int):=of_decide_eq_true (za13);have q8:x4_1<(a0.size:Int):=of_decide_eq_true (za13);have hx8:=bt_at a0 x4_1;replace p8:=eq_true p8;replace q8:=eq_true q8;have p10:0≤(x4_1:Int):=of_decide_eq_true (za13);have q10:x4_1<(a0.size:Int):=of_decide_eq_true (za13);have hx10:=bt_at a0 x4_1;replace p10:=eq_true p10;replace q10:=eq_true q10;go_wp2
        go_roundg k1
        case measure=>have:=HK1.out;omega
        case rel=>exact⟨(wrap64 ((wrap64 (10*x3_1))+(((bt a0 x4_1) - 48)%256))),(wrap64 (x4_1+1)),(za23),(za23),H',⟨by have:=HK1.out;omega⟩,za32⟩
     ·rw[if_neg c5] at H;exact absurd H (by simp)
    ·rw[if_neg c4] at H;have c4b0:decide (x4_1<(a0.size:Int))=false:=decide_eq_false c4;clear c4;obtain rfl:=Option.some.inj H;go_wp2;go_ret;exact⟨za23,za32⟩
 ·replace c3:=Bool.eq_false_iff.mpr c3;subst c3
  have H1:(some (-1))=some r:=by rw[if_neg (show ¬(false=true) by decide)] at H;exact H
  clear H;have H:=H1;clear H1;obtain rfl:=Option.some.inj H;go_enter Tryd.func48,Tryd.ntmps48
  go_wp2_with(first|((with_reducible refine qae (f:=64) rfl ?_);refine zF (some 7) Tryd.func64 #[.int .i64 (a0.size:Int),.int .i64 1,.int .i64 2] ?_;(with_reducible refine(spec_l6In.calls (a0.size:Int) 1 2 false _ A2.out).mono ?_);rintro e w' ⟨rfl,⟨nd,rfl⟩⟩;refine⟨_,rfl,?_⟩))
  go_ret;exact⟨za23,za32⟩
end Go.Proofs.YtbcepmkifomifaaDoor.Print
