-- Written by squeeze.py: not trusted, Lean checks it.
import Derived.Test.YtbcepmkifomifaaDoorZK
import Derived.Test.YtbcepmkifomifaaDoorShelf
namespace Go.Proofs.YtbcepmkifomifaaDoor.Print
open Go.RowKit Go.Proofs.YtbcepmkifomifaaDoorW.PrintWords Go.Proofs.YtbcepmkifomifaaDoorW.PrintLast Go.Proofs.YtbcepmkifomifaaDoorW.PrintMore
attribute [local go_sem] max2_int min2_int max_two min_two max_three min_three max_four min_four
set_option linter.unusedVariables false
set_option linter.unusedSimpArgs false
def impl_parsed.num (s:ByteArray):Int:=match Lib.atoiAll s.data.toList with
 |.ok v=>v
 |.range=>Lib.atoiSat s.data.toList
 |_=>0
def impl_parsed.parts (s:ByteArray):List ByteArray:=Lib.splitB ⟨#[32]⟩ 0 (Lib.countB s ⟨#[32]⟩) s
def impl_parsed.f (a0:ByteArray) (l1:List ByteArray):Option (Int × List Int):=if a0.size≤2097152∧0<l1.length then some (Lib.idxOfS l1 (rdOf ByteArray.empty (impl_parsed.parts a0) 0),(impl_parsed.parts a0).tail.map impl_parsed.num) else none
theorem impl_parsed.atoi (s:ByteArray) (hs:s.size≤2097152) (w:World) (hgw:Tryd.GW w):Calls Tryd.prog 71 #[.string s] w fun e w'=>∃v,e=.returned (.tuple #[.int .i64 (impl_parsed.num s),v])∧Below w.heap.size w w':=by
 obtain⟨-,⟨e1,h1,k1⟩,e2,h2,k2⟩:=hgw;unfold impl_parsed.num
 cases h:Lib.atoiAll s.data.toList with
 |ok v=>
  refine(Tryd.strconv_Atoi_ok s (by omega) v h w).mono ?_;rintro e w' ⟨rfl,rfl|⟨t,rfl⟩⟩
  ·exact⟨_,rfl,Below.refl _ _⟩
  ·exact⟨_,rfl,Lib.bytesWorld_below _ _ _⟩
 |range=>
  refine(Tryd.strconv_Atoi_range s (by omega) h e2 w h2 k2).mono ?_;rintro e w' ⟨N,rfl,-,-,hb⟩;exact⟨_,rfl,hb⟩
 |_=>
  refine(Tryd.strconv_Atoi_none s (by omega) (fun v e=>by rw[h] at e;cases e) (fun e=>by rw[h] at e;cases e) e1 w h1 k1).mono ?_;rintro e w' ⟨N,rfl,-,-,hb⟩;exact⟨_,rfl,hb⟩
theorem impl_parsed.parts_length (s:ByteArray):(impl_parsed.parts s).length=Lib.countB s ⟨#[32]⟩+1:=Lib.splitB_all ⟨#[32]⟩ (by decide) 0 _ s rfl
theorem impl_parsed.add_ (b o j:Nat):Addr.add ⟨b,o,none⟩ j=⟨b,o+j,none⟩:=by
 unfold Addr.add;split
 ·rename_i h;subst h;rfl
 ·rfl
theorem impl_parsed.rd_get (xs:List ByteArray) (i:Nat) (h:i<xs.length):rdOf ByteArray.empty xs (i:Int)=xs[i]:=by simp[rdOf,List.getD_eq_getElem?_getD,List.getElem?_eq_getElem h]
theorem impl_parsed.rd_mem (xs:List ByteArray) (i:Nat) (h:i<xs.length):rdOf ByteArray.empty xs (i:Int) ∈ xs:=by rw[impl_parsed.rd_get xs i h];exact List.getElem_mem h
theorem impl_parsed.split_small:∀(k:Nat) (s:ByteArray) (x:ByteArray),x ∈ Lib.splitB ⟨#[32]⟩ 0 k s→x.size≤s.size
 |0,s,x,h=>by rw[Lib.splitB_zero,List.mem_singleton] at h;rw[h];exact Nat.le_refl _
 |k+1,s,x,h=>by
  unfold Lib.splitB at h;split at h
  ·rw[List.mem_singleton] at h;rw[h];exact Nat.le_refl _
  ·rcases List.mem_cons.1 h with rfl|h
   ·rw[ByteArray.size_extract];omega
   ·have:=impl_parsed.split_small k _ x h;rw[ByteArray.size_extract] at this;omega
theorem impl_parsed.C_row (w:World) (xs:List ByteArray) (hx:xs.length≤9223372036854775807):Kd.C Kd.string (w.alloc (.cells (xs.map Value.string).toArray 9)) (some ⟨w.heap.size,0,none⟩) xs.length xs:=by
 refine⟨rfl,hx,fun _=>⟨_,rfl,fun j p hp=>⟨[.string p],rfl,rfl,fun i u hu=>?_⟩⟩⟩
 match i,hu with
 |0,hu=>
  simp only[List.getElem?_cons_zero,Option.some.injEq] at hu;subst hu;have hj:j<xs.length:=(List.getElem?_eq_some_iff.1 hp).1;have hb:(w.alloc (.cells (xs.map Value.string).toArray 9)).heap[w.heap.size]?=some (.cells (xs.map Value.string).toArray 9 (0,0)):=blk_new w _;show World.cell? _ (Addr.add ⟨w.heap.size,0,none⟩ (j*1+0))=_
  have ha:Addr.add ⟨w.heap.size,0,none⟩ (j*1+0)=⟨w.heap.size,j,none⟩:=by
   unfold Addr.add;split
   ·have:j=0:=by omega
    subst this;rfl
   ·simp
  rw[ha];unfold World.cell?;rw[hb];simp[hp]
 |i+1,hu=>simp at hu
theorem impl_parsed.index (A1:Option Addr) (c1:Nat) (l1:List ByteArray) (x:ByteArray) (w:World) (hp:0<l1.length) (hC:Kd.C Kd.string w A1 l1.length l1):Calls Tryd.prog 72 #[.slice A1 l1.length c1,.string x] w fun e w'=>e=.returned (.int .i64 (Lib.idxOfS l1 x))∧w'=w:=by
 obtain⟨ad,rfl,hc⟩:=(Kd.reads_of_C (enc:=Value.string) (d:=ByteArray.empty) (h1:=fun _=>rfl) hC).2.2 hp;obtain⟨b,off,spot⟩:=ad
 have hs0:spot=none:=by
  have:=hc 0 hp;unfold Addr.add World.cell? at this
  cases spot with
  |none=>rfl
  |some q=>simp at this;split at this<;>simp at this
 subst hs0
 have:=Tryd.slices_Index_string b off l1.length c1 l1 x w (Nat.le_refl _) hC.2.1 (fun j hj=>by
  have h:=hc j hj
  have ha:Addr.add ⟨b,off,none⟩ j=⟨b,off+j,none⟩:=by
   unfold Addr.add;split
   ·rename_i h;subst h;rfl
   ·rfl
  rw[ha] at h
  exact h)
 rwa [List.take_length] at this
theorem impl_parsed.split (a0:ByteArray) (hs:a0.size≤2097152) (w:World) (hgw:Tryd.GW w) (n:Nat) (hn:(impl_parsed.parts a0).length=n+1):Calls Tryd.prog 70 #[.string a0,.string ⟨#[32]⟩] w fun e W1=>∃b,e=.returned (.slice (some ⟨b,0,none⟩) (n+1) (n+1))∧Kd.C Kd.string W1 (some ⟨b,0,none⟩) (impl_parsed.parts a0).length (impl_parsed.parts a0)∧Below w.heap.size w W1:=by
 obtain⟨⟨m,hm⟩,-⟩:=hgw
 have he:n=Lib.countB a0 ⟨#[32]⟩:=by have:=impl_parsed.parts_length a0;omega
 subst he;refine(Tryd.strings_Split a0 ⟨#[32]⟩ m w (by omega) hm (by decide)).mono ?_;rintro e W1 ⟨rfl,rfl⟩;refine⟨_,rfl,impl_parsed.C_row w _ ?_,(Below.refl _ _).alloc (Nat.le_refl _) _⟩;have h1:(Lib.splitB ⟨#[32]⟩ 0 (Lib.countB a0 ⟨#[32]⟩) a0).length=Lib.countB a0 ⟨#[32]⟩+1:=impl_parsed.parts_length a0;have h2:=Lib.countB_mul_le ⟨#[32]⟩ (by decide) a0.size a0 (Nat.le_refl _);have h3:(⟨#[32]⟩:ByteArray).size=1:=rfl;rw[h3] at h2;rw[h1];omega
set_option maxHeartbeats 8000000 in
set_option maxRecDepth 100000 in
theorem impl_parsed.calls (a0:ByteArray) (A1:Option Addr) (c1:Nat) (l1:List ByteArray) (r1:Int) (r2:List Int) (w:World) (hr1:Kd.C Kd.string w A1 l1.length l1) (hc1:l1.length≤c1) (hgw:Tryd.GW w) (h:impl_parsed.f a0 l1=some (r1,r2)) :
  Calls Tryd.prog 44 #[.string a0,.slice A1 l1.length c1] w fun e w'=>∃v1_:Value,e=.returned (.tuple #[.int .i64 r1,v1_])∧Kd.R (Kd.int .i64) 3 w' w.heap.size (fun _=>True) v1_ r2∧Below w.heap.size w w':=by
 unfold impl_parsed.f at h;by_cases hs0:a0.size≤2097152∧0<l1.length
 ·rw[if_pos hs0] at h;obtain⟨hs,hpos⟩:=hs0
  injection h with h
  injection h with e1 e2
  subst e1;subst e2;have HR:=qaj.mk hr1;have HG:=qaj.mk hgw;clear hr1 hgw;obtain⟨n,hn⟩:∃n,(impl_parsed.parts a0).length=n+1:=⟨_,impl_parsed.parts_length a0⟩
  have hsplit:=fun W=>impl_parsed.split a0 hs W
  have hsmall:∀x,x ∈ (impl_parsed.parts a0).tail→x.size≤2097152:=fun x hx=>Nat.le_trans (impl_parsed.split_small _ a0 x (List.mem_of_mem_tail hx)) hs
  have hbig:n≤2097152:=by
   have:=impl_parsed.parts_length a0;have h2:=Lib.countB_mul_le ⟨#[32]⟩ (by decide) a0.size a0 (Nat.le_refl _);have h3:(⟨#[32]⟩:ByteArray).size=1:=rfl;rw[h3] at h2;omega
  have HS:=qaj.mk hsplit;clear hsplit;generalize impl_parsed.parts a0=P at hn hsmall HS ⊢;by_cases hn0:n=0
  ·subst hn0;go_enter Tryd.func44,Tryd.ntmps44
   go_wp2_with(go_at_call 70;refine(HS.out _ HG.out 0 hn).mono ?_;rintro e W1 ⟨b,rfl,hC,hb⟩;have HC:=qaj.mk hC;have HB:=qaj.mk hb;have HG1:=qaj.mk (Tryd.GW.below HG.out hb);clear hC hb)
   have hl1:P.length=1:=hn
   have HD:Kd.C Kd.string W1 (some ⟨b,0,none⟩) 0 P.tail:=by
    have h:=Kd.C_drop (m:=1) HC.out (by omega) (Nat.le_refl P.length);rw[if_pos hl1,List.length_drop,List.drop_one] at h;rw[hl1] at h;exact h
   have HLd:=hl1
   go_loopg [7,17] 0 (fun kq v7 v17 w'=>∃i:Nat,v17=.int .i64 i∧i+kq=0∧Kd.R (Kd.int .i64) 3 w' W1.heap.size (fun _=>True) v7 ((P.tail.take i).map impl_parsed.num)∧Below W1.heap.size W1 w')
   case atStart=>
    exact⟨0,rfl,by omega,Kd.R_nil _ _ _ _ _,Below.refl _ _⟩
   case round=>
    obtain⟨i,rfl,hi,hN,hb⟩:=hrel
    cases gk with
    |zero=>
     have hd:decide ((i:Int)<((0:Nat):Int))=false:=decide_eq_false (by omega)
     have hl:P.tail.take i=P.tail:=by rw[List.take_of_length_le (by rw[List.length_tail];omega)]
     rw[hl] at hN;have HN:=qaj.mk hN;have HBb:=qaj.mk hb;clear hN hb;obtain⟨ad0,e0,hx0⟩:=Kd.at_string (Kd.C_below HC.out HBb.out) 0 (by omega) (by omega)
     cases e0
     rw[show(0:Int).toNat=0 from rfl,impl_parsed.add_] at hx0
     go_wp2_with(go_at_call 72;refine(impl_parsed.index A1 c1 l1 _ _ hpos ?idx).mono ?_;(case idx=>exact Kd.C_below HR.out (HB.out.trans (HBb.out.mono HB.out.size)));rintro e w3 ⟨rfl,rfl⟩)
     go_ret2
     exact⟨_,rfl,Kd.R_lower HN.out HB.out.size,HB.out.trans (HBb.out.mono HB.out.size)⟩
    |succ g=>
     exfalso;omega
  ·have hnb:(n == 0)=false:=beq_eq_false_iff_ne.mpr hn0;go_enter Tryd.func44,Tryd.ntmps44
   go_wp2_with(go_at_call 70;refine(HS.out _ HG.out n hn).mono ?_;rintro e W1 ⟨b,rfl,hC,hb⟩;have HC:=qaj.mk hC;have HB:=qaj.mk hb;have HG1:=qaj.mk (Tryd.GW.below HG.out hb);clear hC hb)
   have hl1:P.length=n+1:=hn
   have HD:Kd.C Kd.string W1 (some ⟨b,1,none⟩) n P.tail:=by
    have h:=Kd.C_drop (m:=1) HC.out (by omega) (Nat.le_refl P.length);rw[if_neg (by omega),List.length_drop,List.drop_one] at h;rw[hl1] at h;exact h
   have HLd:=hl1
   go_loopg [7,17] n (fun kq v7 v17 w'=>∃i:Nat,v17=.int .i64 i∧i+kq=n∧Kd.R (Kd.int .i64) 3 w' W1.heap.size (fun _=>True) v7 ((P.tail.take i).map impl_parsed.num)∧Below W1.heap.size W1 w')
   case atStart=>
    exact⟨0,rfl,by omega,Kd.R_nil _ _ _ _ _,Below.refl _ _⟩
   case round=>
    obtain⟨i,rfl,hi,hN,hb⟩:=hrel
    cases gk with
    |zero=>
     have hd:decide ((i:Int)<((n:Nat):Int))=false:=decide_eq_false (by omega)
     have hl:P.tail.take i=P.tail:=by rw[List.take_of_length_le (by rw[List.length_tail];omega)]
     rw[hl] at hN;have HN:=qaj.mk hN;have HBb:=qaj.mk hb;clear hN hb;obtain⟨ad0,e0,hx0⟩:=Kd.at_string (Kd.C_below HC.out HBb.out) 0 (by omega) (by omega)
     cases e0
     rw[show(0:Int).toNat=0 from rfl,impl_parsed.add_] at hx0
     go_wp2_with(go_at_call 72;refine(impl_parsed.index A1 c1 l1 _ _ hpos ?idx).mono ?_;(case idx=>exact Kd.C_below HR.out (HB.out.trans (HBb.out.mono HB.out.size)));rintro e w3 ⟨rfl,rfl⟩)
     go_ret2
     exact⟨_,rfl,Kd.R_lower HN.out HB.out.size,HB.out.trans (HBb.out.mono HB.out.size)⟩
    |succ g=>
     have hlt:(i:Int)<((n:Nat):Int):=by omega
     have hd:decide ((i:Int)<((n:Nat):Int))=true:=decide_eq_true hlt;have HN:=qaj.mk hN;have HBb:=qaj.mk hb;clear hN hb;obtain⟨ad1,e1,hx1⟩:=Kd.at_string (Kd.C_below HD HBb.out) (i:Int) (by omega) hlt
     cases e1
     rw[Int.toNat_natCast,impl_parsed.add_] at hx1;have hsz:(rdOf ByteArray.empty P.tail (i:Int)).size≤2097152:=hsmall _ (impl_parsed.rd_mem _ _ (by rw[List.length_tail];omega))
     go_wp2_with(first|(go_at_call 71;refine(impl_parsed.atoi _ hsz _ ?gw).mono ?_;(case gw=>exact Tryd.GW.below HG1.out HBb.out);rintro e w4 ⟨v4,rfl,hb4⟩;replace HN:=qaj.mk (Kd.R_below HN.out hb4);replace HBb:=qaj.mk (HBb.out.trans (hb4.mono HBb.out.size));clear hb4)|((with_reducible refine gate_builtin (b:=.append) (xs:=#[.tmp 26,.tmp 28]) rfl ?_);at_builtin;refine Kd.R_append (Kd.int .i64) (w0:=W1) W1.heap.size rfl (.tmp 26) (.tmp 28) 23 3 (.int .i64 0) 8 rfl Tryd.underlying23 info3 rfl (by decide) (by omega) _ ((P.tail.take i).map impl_parsed.num) (impl_parsed.num (rdOf ByteArray.empty P.tail (i:Int))) [.int .i64 (impl_parsed.num (rdOf ByteArray.empty P.tail (i:Int)))] (fun _=>True) (fun _=>False) rfl rfl rfl (fun _ hk=>hk.elim) (fun _ _=>trivial) HN.out HBb.out HBb.out.size ?aL ?_;(case aL=>(rw[List.length_map,List.length_take,List.length_tail];omega));intro v5 w5 ho5 hb5 hg5 hat5;replace HN:=qaj.mk ho5;replace HBb:=qaj.mk hb5;clear ho5 hb5 hg5 hat5))
     go_roundg g
     case measure=>omega
     case rel=>
      refine⟨i+1,by go_num,by omega,?_,HBb.out⟩
      have e3:P.tail.take (i+1)=P.tail.take i++[rdOf ByteArray.empty P.tail (i:Int)]:=by
       have hlen:i<P.tail.length:=by rw[List.length_tail];omega
       rw[List.take_succ_eq_append_getElem hlen];congr 2;exact(impl_parsed.rd_get _ _ hlen).symm
      rw[e3,List.map_append];exact HN.out
 ·rw[if_neg hs0] at h
  cases h
end Go.Proofs.YtbcepmkifomifaaDoor.Print
