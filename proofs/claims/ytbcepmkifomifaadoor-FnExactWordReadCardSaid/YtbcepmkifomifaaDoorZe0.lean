-- Written by squeeze.py: not trusted, Lean checks it.
import Derived.Test.YtbcepmkifomifaaDoorZK
import Derived.Test.YtbcepmkifomifaaDoorShelf
namespace Go.Proofs.YtbcepmkifomifaaDoor.Print
open Go.RowKit Go.Proofs.YtbcepmkifomifaaDoorW.PrintWords Go.Proofs.YtbcepmkifomifaaDoorW.PrintLast Go.Proofs.YtbcepmkifomifaaDoorW.PrintMore
attribute [local go_sem] max2_int min2_int max_two min_two max_three min_three max_four min_four
set_option linter.unusedVariables false
set_option linter.unusedSimpArgs false
def impl_in.f (a0:Int) (a1:Int) (a2:Int):Option (Bool):=if a0≥a1 then(some (decide (a0≤a2))) else(some false)
set_option maxHeartbeats 8000000 in
set_option maxRecDepth 100000 in
theorem impl_in.calls (a0:Int) (a1:Int) (a2:Int) (r:Bool) (w:World) (h:impl_in.f a0 a1 a2=some r) :
  Calls Tryd.prog 54 #[.int .i64 a0,.int .i64 a1,.int .i64 a2] w fun e w'=>e=.returned (.bool r)∧Drawn0 w w':=by
 have H:(if a0≥a1 then(some (decide (a0≤a2))) else(some false))=some r:=h;clear h;by_cases c4:a0≥a1
 ·rw[if_pos c4] at H;have c4b0:decide (a1≤a0)=true:=decide_eq_true c4;clear c4;obtain rfl:=Option.some.inj H;go_enter Tryd.func54,Tryd.ntmps54;go_wp2;go_ret;exact⟨za23,za32⟩
 ·rw[if_neg c4] at H;have c4b0:decide (a1≤a0)=false:=decide_eq_false c4;clear c4;obtain rfl:=Option.some.inj H;go_enter Tryd.func54,Tryd.ntmps54;go_wp2;go_ret;exact⟨za23,za32⟩
def impl_isTrip.f (a0:Int):Option (Bool):=(impl_in.f a0 1 6).bind fun t183=>(some t183)
set_option maxHeartbeats 8000000 in
set_option maxRecDepth 100000 in
theorem impl_isTrip.calls (a0:Int) (r:Bool) (w:World) (h:impl_isTrip.f a0=some r) :
  Calls Tryd.prog 56 #[.int .i64 a0] w fun e w'=>e=.returned (.bool r)∧Drawn0 w w':=by
 have H:((impl_in.f a0 1 6).bind fun t183=>(some t183))=some r:=h;clear h;replace H:=Option.bind_eq_some_iff.mp H;obtain⟨t183,A20,H⟩:=H;replace H:(some t183)=some r:=H;have A2:=qaj.mk A20;clear A20;obtain rfl:=Option.some.inj H;go_enter Tryd.func56,Tryd.ntmps56
 go_wp2_with(first|((with_reducible refine qae (f:=54) rfl ?_);refine zF (some 4) Tryd.func54 #[.int .i64 a0,.int .i64 1,.int .i64 6] ?_;(with_reducible refine(impl_in.calls a0 1 6 t183 _ A2.out).mono ?_);rintro e w' ⟨rfl,⟨nd,rfl⟩⟩;refine⟨_,rfl,?_⟩))
 go_ret;exact⟨za23,za32⟩
def impl_joined.num (n:Int):List UInt8:=32 :: Lib.decDigits n.toNat
def impl_joined.bs (a0:ByteArray) (l:List Int):List UInt8:=a0.data.toList++l.flatMap impl_joined.num
theorem impl_joined.two (m:Nat) (h:m<100):(Lib.decDigits m).length≤2:=by
 rw[Lib.decDigits];split
 ·simp
 ·rw[Lib.decDigits,dif_pos (by omega)];simp
theorem impl_joined.length (a0:ByteArray):∀(l:List Int),(∀n ∈ l,0≤n∧n<100)→(impl_joined.bs a0 l).length≤a0.size+3*l.length:=by
 intro l h;unfold impl_joined.bs;rw[List.length_append]
 have:(l.flatMap impl_joined.num).length≤3*l.length:=by
  induction l with
  |nil=>simp
  |cons n l ih=>
   have h1:=ih (fun x hx=>h x (List.mem_cons_of_mem _ hx));have h2:=impl_joined.two n.toNat (by have:=h n (List.mem_cons_self ..);omega);rw[List.flatMap_cons,List.length_append,List.length_cons];unfold impl_joined.num at h1 ⊢;rw[List.length_cons];omega
 have e:a0.data.toList.length=a0.size:=rfl;omega
def impl_joined.f (a0:ByteArray) (l1:List Int):Option (ByteArray):=if(l1.all fun n=>decide (0≤n) && decide (n<100))=true∧a0.size+3*l1.length≤1000 then some ⟨(impl_joined.bs a0 l1).toArray⟩ else none
set_option maxHeartbeats 8000000 in
set_option maxRecDepth 100000 in
theorem impl_joined.calls (a0:ByteArray) (A1:Option Addr) (c1:Nat) (l1:List Int) (r:ByteArray) (w:World) (hr1:Kd.C (Kd.int .i64) w A1 l1.length l1) (hc1:l1.length≤c1) (h:impl_joined.f a0 l1=some r) :
  Calls Tryd.prog 39 #[.string a0,.slice A1 l1.length c1] w fun e w'=>e=.returned (.string r)∧Below w.heap.size w w':=by
 unfold impl_joined.f at h;by_cases hc:(l1.all fun n=>decide (0≤n) && decide (n<100))=true∧a0.size+3*l1.length≤1000
 ·rw[if_pos hc] at h
  injection h with h
  subst h;have h0:Lib.IsBuilder 77 5 w.heap.size w.heap.size [] (w.alloc (.cells #[.pointer none,.slice none 0 0] 77)):=Lib.fresh_isBuilder 77 5 w;have b0:Below w.heap.size w (w.alloc (.cells #[.pointer none,.slice none 0 0] 77)):=(Below.refl _ w).alloc (Nat.le_refl _) _;go_enter Tryd.func39,Tryd.ntmps39
  go_wp2_with(go_at_call 66;refine(Tryd.Builder_WriteString w.heap.size w.heap.size [] a0 _ h0 (by simp;omega) b0.size).mono ?_)
  rintro e W1 ⟨rfl,h1,b1⟩;go_wp2
  go_loopg [12] l1.length (fun kq v12 w'=>∃i:Nat,v12=.int .i64 i∧i+kq=l1.length∧Lib.BuilderAt 77 5 w.heap.size w.heap.size (.pointer (some ⟨w.heap.size,0,none⟩)) (Lib.byteCells (impl_joined.bs a0 (l1.take i))) w'∧Below w.heap.size w w')
  case atStart=>
   refine⟨0,rfl,by omega,?_,b0.trans b1⟩;rw[List.nil_append] at h1
   have e1:Lib.byteCells (impl_joined.bs a0 (l1.take 0))=Lib.strCells a0:=by simp[impl_joined.bs,Lib.strCells,Lib.byteCells]
   rw[e1];exact h1
  case round=>
   obtain⟨i,rfl,hi,hB,hb⟩:=hrel
   cases gk with
   |zero=>
    have hi':¬((i:Int)<(l1.length:Int)):=by omega
    have hd:decide ((i:Int)<(l1.length:Int))=false:=decide_eq_false hi';have hl:l1.take i=l1:=List.take_of_length_le (by omega);rw[hl] at hB
    go_wp2_with(go_at_call 68;refine(Tryd.Builder_String_any w.heap.size w.heap.size (impl_joined.bs a0 l1) _ (Or.inr hB) hb.size).mono ?_;rintro e W2 ⟨rfl,b2⟩;replace b2:=qaj.mk b2)
    go_ret;exact⟨rfl,hb.trans b2.out⟩
   |succ g=>
    have hlt:(i:Int)<(l1.length:Int):=by omega
    have hd:decide ((i:Int)<(l1.length:Int))=true:=decide_eq_true hlt;have hC:Kd.C (Kd.int .i64) wr A1 l1.length l1:=Kd.C_below hr1 hb;obtain⟨ad,e,hx⟩:=Kd.at_int hC (i:Int) (by omega) hlt
    cases e
    have hn:rd l1 (i:Int)=l1[i]'(by omega):=by simp[rd,List.getElem?_eq_getElem (show i<l1.length by omega)]
    have hm:=List.all_eq_true.1 hc.1 (l1[i]'(by omega)) (List.getElem_mem _);simp only[Bool.and_eq_true,decide_eq_true_eq] at hm;obtain⟨m,hmm⟩:∃m:Nat,rd l1 (i:Int)=(m:Int):=⟨(rd l1 (i:Int)).toNat,by rw[hn];omega⟩;rw[hmm,Int.toNat_natCast] at hx
    have hm1:m<100:=by rw[←hn] at hm;omega
    have h2:=impl_joined.two m hm1;have hL:=impl_joined.length a0 (l1.take i) (fun n hn_=>by have:=List.all_eq_true.1 hc.1 n (List.mem_of_mem_take hn_);simpa using this)
    have hT:(l1.take i).length=i:=by rw[List.length_take];omega
    go_wp2_with(first|(go_at_call 67;refine(Tryd.strconv_Itoa_small m (by rw[←hn] at hm;omega) _).mono ?_;rintro e w1 ⟨rfl,rfl⟩)|(go_at_call 66;refine(Tryd.Builder_WriteString w.heap.size w.heap.size _ _ _ (Or.inr hB) ?hlen hb.size).mono ?_;(case hlen=>(have e1:(Lib.byteCells (impl_joined.bs a0 (l1.take i))).length=(impl_joined.bs a0 (l1.take i)).length:=by simp[Lib.byteCells]);(have e2:((⟨#[32]⟩:ByteArray)++⟨(Lib.decDigits m).toArray⟩).size=1+(Lib.decDigits m).length:=by rw[ByteArray.size_append];rfl);rw[e1];first|(rw[e2];omega)|omega);rintro e w2 ⟨rfl,hB2,b2⟩;replace hB2:=qaj.mk hB2;replace b2:=qaj.mk b2))
    go_roundg g
    case measure=>omega
    case rel=>
     refine⟨i+1,by go_num,by omega,?_,hb.trans b2.out⟩
     have e1:Lib.byteCells (impl_joined.bs a0 (l1.take (i+1)))=Lib.byteCells (impl_joined.bs a0 (l1.take i))++Lib.strCells ((⟨#[32]⟩:ByteArray)++⟨(Lib.decDigits m).toArray⟩):=by
      rw[Lib.strCells_eq,←Lib.byteCells_append];congr 1
      have e2:(l1[i]'(by omega)).toNat=m:=by rw[←hn,hmm];omega
      have e3:l1.take (i+1)=l1.take i++[l1[i]'(by omega)]:=List.take_succ_eq_append_getElem (by omega)
      have e4:((⟨#[32]⟩:ByteArray)++⟨(Lib.decDigits m).toArray⟩).data.toList=32 :: Lib.decDigits m:=by rw[ByteArray.data_append];simp
      rw[e3,e4];unfold impl_joined.bs;rw[List.flatMap_append,←List.append_assoc];congr 1;show List.flatMap impl_joined.num [_]=_;rw[List.flatMap_singleton];unfold impl_joined.num;rw[e2]
     rw[e1];exact hB2.out
 ·rw[if_neg hc] at h;exact absurd h (by simp)
def spec_l6In.f (a0:Int) (a1:Int) (a2:Int):Option (Bool):=if a0≥a1 then(some (decide (a0≤a2))) else(some false)
set_option maxHeartbeats 8000000 in
set_option maxRecDepth 100000 in
theorem spec_l6In.calls (a0:Int) (a1:Int) (a2:Int) (r:Bool) (w:World) (h:spec_l6In.f a0 a1 a2=some r) :
  Calls Tryd.prog 64 #[.int .i64 a0,.int .i64 a1,.int .i64 a2] w fun e w'=>e=.returned (.bool r)∧Drawn0 w w':=by
 have H:(if a0≥a1 then(some (decide (a0≤a2))) else(some false))=some r:=h;clear h;by_cases c4:a0≥a1
 ·rw[if_pos c4] at H;have c4b0:decide (a1≤a0)=true:=decide_eq_true c4;clear c4;obtain rfl:=Option.some.inj H;go_enter Tryd.func64,Tryd.ntmps64;go_wp2;go_ret;exact⟨za23,za32⟩
 ·rw[if_neg c4] at H;have c4b0:decide (a1≤a0)=false:=decide_eq_false c4;clear c4;obtain rfl:=Option.some.inj H;go_enter Tryd.func64,Tryd.ntmps64;go_wp2;go_ret;exact⟨za23,za32⟩
def spec_l6Dec.f:Nat→Int→Option (ByteArray)
 |0,_=>none
 |k+1,a0=>if a0<(-9223372036854775807) then(some (⟨#[45,57,50,50,51,51,55,50,48,51,54,56,53,52,55,55,53,56,48,56]⟩:ByteArray)) else(if a0<0 then((spec_l6Dec.f k (wrap64 (-a0))).bind fun t211=>(if 1+t211.size≤9223372036854775807 then(some ((⟨#[45]⟩:ByteArray)++t211)) else(none))) else(if a0<10 then(some (strOfNums (([(wrap64 (48+a0))%256]:List Int)))) else((spec_l6Dec.f k (wrap64 (Int.tdiv a0 10))).bind fun t215=>((some (([(wrap64 (48+(Int.tmod a0 10)))%256]:List Int):List Int)).bind fun y216=>(if t215.size+(strOfNums y216).size≤9223372036854775807 then(some (t215++(strOfNums y216))) else(none))))))
theorem spec_l6Dec.mono_l:∀k,(∀y0,LeO (spec_l6Dec.f k y0) (spec_l6Dec.f (k+1) y0))
 |0=>fun _ r h=>by simp[spec_l6Dec.f] at h
 |k+1=>by
  have ih0:=spec_l6Dec.mono_l k
  ·intro y0;unfold spec_l6Dec.f
   repeat' first|(with_reducible exact ih0 _)|(with_reducible exact LeO.refl _)|(with_reducible exact LeO.none _)|(with_reducible refine LeO.ite ?_ ?_)|(with_reducible refine LeO.bind ?_ (fun _=>?_))|exact ih0 _|exact LeO.none _|refine LeO.ite ?_ ?_|refine LeO.bind ?_ (fun _=>?_)
theorem spec_l6Dec.mono:∀a0 k,LeO (spec_l6Dec.f k a0) (spec_l6Dec.f (k+1) a0):=by
 intro a0 k;have ih0:=spec_l6Dec.mono_l k;exact ih0 a0
def spec_l6Dec.T7:Bool × List (List Nat × List Nat):=(true,[([],[]),([0],[0]),([1],[1]),([],[]),([3],[3]),([4],[4]),([5],[5]),([6],[6]),([7],[7]),([2,8],[2,8]),([9,2,0,1,2,3,4,5,6,7,8,9],[9])])
def spec_l6Dec.B7:List Nat:=[0,1,3,0,8,24,56,120,248,511,1023]
theorem spec_l6Dec.tab7:rtab .any (opsOf Tryd.f43 7)=spec_l6Dec.T7:=by kernel_rfl
theorem spec_l6Dec.bits7:waitsOk spec_l6Dec.T7.2 spec_l6Dec.B7=true:=by kernel_rfl
set_option maxHeartbeats 8000000 in
set_option maxRecDepth 100000 in
theorem spec_l6Dec.calls (k:Nat):∀(a0:Int) (r:ByteArray) (w:World) (h:spec_l6Dec.f k a0=some r),
  Calls Tryd.prog 43 #[.int .i64 a0] w fun e w'=>e=.returned (.string r)∧Below w.heap.size w w':=by
 induction k using Nat.strongRecOn with
 |_ k ih=>
 intro a0 r w h
 cases k with
 |zero=>exact absurd h (by simp[spec_l6Dec.f])
 |succ k=>
 simp only[spec_l6Dec.f] at h;have HB:=qaj.mk (Below.refl w.heap.size w);have H:(if a0<(-9223372036854775807) then(some (⟨#[45,57,50,50,51,51,55,50,48,51,54,56,53,52,55,55,53,56,48,56]⟩:ByteArray)) else(if a0<0 then((spec_l6Dec.f k (wrap64 (-a0))).bind fun t211=>(if 1+t211.size≤9223372036854775807 then(some ((⟨#[45]⟩:ByteArray)++t211)) else(none))) else(if a0<10 then(some (strOfNums (([(wrap64 (48+a0))%256]:List Int)))) else((spec_l6Dec.f k (wrap64 (Int.tdiv a0 10))).bind fun t215=>((some (([(wrap64 (48+(Int.tmod a0 10)))%256]:List Int):List Int)).bind fun y216=>(if t215.size+(strOfNums y216).size≤9223372036854775807 then(some (t215++(strOfNums y216))) else(none)))))))=some r:=h;clear h;by_cases c2:a0<(-9223372036854775807)
 ·rw[if_pos c2] at H;have c2b0:decide (a0<(-9223372036854775807))=true:=decide_eq_true c2;clear c2;obtain rfl:=Option.some.inj H;go_enter Tryd.func43,Tryd.ntmps43;go_wp2;go_ret;exact⟨za10,za2 HB⟩
 ·rw[if_neg c2] at H;have c2b0:decide (a0<(-9223372036854775807))=false:=decide_eq_false c2;clear c2;by_cases c3:a0<0
  ·rw[if_pos c3] at H;have c3b0:decide (a0<0)=true:=decide_eq_true c3;clear c3;replace H:=Option.bind_eq_some_iff.mp H;obtain⟨t211,A40,H⟩:=H;replace H:(if 1+t211.size≤9223372036854775807 then(some ((⟨#[45]⟩:ByteArray)++t211)) else(none))=some r:=H;have A4:=qaj.mk A40;clear A40;by_cases c5:1+t211.size≤9223372036854775807
   ·rw[if_pos c5] at H;have c5b0:=eq_true c5;have c5b1:decide (1+t211.size≤9223372036854775807)=true:=decide_eq_true c5
    try have c5b2:(9223372036854775807<1+t211.size)=False:=eq_false (Nat.not_lt.2 c5)
    obtain rfl:=Option.some.inj H;go_enter Tryd.func43,Tryd.ntmps43
    go_wp2_with(first|((with_reducible refine qae (f:=43) rfl ?_);refine zF (some 9) Tryd.func43 #[.int .i64 (wrap64 (-a0))] ?_;(with_reducible refine(ih k (by omega) (wrap64 (-a0)) t211 _ A4.out).mono ?_);rintro e w6 ⟨rfl,hb⟩;refine⟨_,rfl,?_⟩;replace HB:=qaj.mk (qac (za2 HB) hb);(try clear hb)))
    go_ret;exact⟨za10,za2 HB⟩
   ·rw[if_neg c5] at H;exact absurd H (by simp)
  ·rw[if_neg c3] at H;have c3b0:decide (a0<0)=false:=decide_eq_false c3;clear c3;by_cases c7:a0<10
   ·rw[if_pos c7] at H;have c7b0:decide (a0<10)=true:=decide_eq_true c7;clear c7;obtain⟨y212,hy212⟩:∃y_:List Int,y_=(([(wrap64 (48+a0))%256]:List Int)):=⟨_,rfl⟩
    replace H:(some (strOfNums y212))=some r:=by first|(rw[hy212];with_reducible exact H)|(have H2_:=(Option.bind_some _ _).symm.trans H;rw[hy212];with_reducible exact H2_)|(have H2_:=(Option.bind_some _ _).symm.trans H;with_reducible exact H2_)|with_reducible exact H|(rw[hy212];exact H)|exact H
    have Ny212:=qaj.mk hy212;clear hy212;obtain rfl:=Option.some.inj H;go_enter Tryd.func43,Tryd.ntmps43
    go_wp2_with(first|((with_reducible refine qai (N:=16) rfl ?_);refine Kd.R_lit (Kd.int .u8) _ 5 (by rfl) (N:=16) (by rfl) (xs:=([(wrap64 (48+a0))%256]:List Int)) (inner:=[.int .u8 ((wrap64 (48+a0))%256)]) (ok:=fun _=>True) (okp:=fun _=>True) (by first|(go_simp;done)|(go_simp;rfl)) ?hp (fun _ hk=>hk) trivial (Below.refl _ _) (Nat.le_refl _) (by simp) ?_;(case hp=>exact(Reps.one (show Kd.M (Kd.int .u8) _ _ _ ((wrap64 (48+a0))%256) [.int .u8 ((wrap64 (48+a0))%256)] from rfl) (Reps.none _ _)));intro v213 w8 ho9 hb hg_ hnew_;clear hg_ hnew_;(first|rw[←Ny212.out] at ho9|(simp only[Int.reduceToNat] at ho9;rw[←Ny212.out] at ho9));have HO214:=qaj.mk (Kd.R_lower ho9 (qam (za2 HB)));replace HB:=qaj.mk (qac (za2 HB) hb);clear hb ho9;have hcv10:=own_string (P:=Tryd.prog) Tryd.underlying22 Tryd.underlying5 Tryd.underlying9 (Kd.own_of_R HO214.out)))
    go_ret;exact⟨za10,za2 HB⟩
   ·rw[if_neg c7] at H;have c7b0:decide (a0<10)=false:=decide_eq_false c7;clear c7;replace H:=Option.bind_eq_some_iff.mp H;obtain⟨t215,A110,H⟩:=H;replace H:((some (([(wrap64 (48+(Int.tmod a0 10)))%256]:List Int):List Int)).bind fun y216=>(if t215.size+(strOfNums y216).size≤9223372036854775807 then(some (t215++(strOfNums y216))) else(none)))=some r:=H;have A11:=qaj.mk A110;clear A110;obtain⟨y216,hy216⟩:∃y_:List Int,y_=(([(wrap64 (48+(Int.tmod a0 10)))%256]:List Int)):=⟨_,rfl⟩
    replace H:(if t215.size+(strOfNums y216).size≤9223372036854775807 then(some (t215++(strOfNums y216))) else(none))=some r:=by first|(rw[hy216];with_reducible exact H)|(have H2_:=(Option.bind_some _ _).symm.trans H;rw[hy216];with_reducible exact H2_)|(have H2_:=(Option.bind_some _ _).symm.trans H;with_reducible exact H2_)|with_reducible exact H|(rw[hy216];exact H)|exact H
    have Ny216:=qaj.mk hy216;clear hy216;by_cases c12:t215.size+(strOfNums y216).size≤9223372036854775807
    ·rw[if_pos c12] at H;have c12b0:=eq_true c12;have c12b1:decide (t215.size+(strOfNums y216).size≤9223372036854775807)=true:=decide_eq_true c12
     try have c12b2:(9223372036854775807<t215.size+(strOfNums y216).size)=False:=eq_false (Nat.not_lt.2 c12)
     obtain rfl:=Option.some.inj H;go_enter Tryd.func43,Tryd.ntmps43
     try go_wp2
     replace HB:=qaj.mk (below_drew1 HB.out);refine start_ (n:=11) (S:=fun w'=>True) (ds:=[]) #[false,false,false,false,false,false,false,false,false,false,false] (by kernel_rfl) rfl rfl trivial (fun hHeld=>?_);refine with_tabW spec_l6Dec.tab7 spec_l6Dec.bits7 (fun HT_ HW_=>?_);generalize w.drew=w13 at HB hHeld ⊢;refine qaq (i:=0) (N:=some 18) (v:=?_) (a':=?_) #[true,false,false,false,false,false,false,false,false,false,false] rfl rfl (qan HT_.out (by kernel_rfl)) (fun _ _ _ h=>h) (Or.inl ⟨by rfl,?_⟩) ?_ ?_;rotate_left
     ·intro w';go_simp
      with_reducible rfl
     rotate_left
     ·simp only[Act.put,List.setIfInBounds_toArray,List.set_cons_zero,List.set_cons_succ,qak,qal];rfl
     refine qaq (i:=1) (N:=some 19) (v:=?_) (a':=?_) #[true,true,false,false,false,false,false,false,false,false,false] rfl rfl (qan HT_.out (by kernel_rfl)) (fun _ _ _ h=>h) (Or.inl ⟨by rfl,?_⟩) ?_ ?_;rotate_left
     ·intro w';go_simp
      with_reducible rfl
     rotate_left
     ·simp only[Act.put,List.setIfInBounds_toArray,List.set_cons_zero,List.set_cons_succ,qak,qal];rfl
     refine qaq (i:=3) (N:=some 21) (v:=?_) (a':=?_) #[true,true,false,true,false,false,false,false,false,false,false] rfl rfl (qan HT_.out (by kernel_rfl)) (fun _ _ _ h=>h) (Or.inl ⟨by rfl,?_⟩) ?_ ?_;rotate_left
     ·intro w';go_simp
      with_reducible rfl
     rotate_left
     ·simp only[Act.put,List.setIfInBounds_toArray,List.set_cons_zero,List.set_cons_succ,qak,qal];rfl
     refine qaq (i:=4) (N:=some 22) (v:=?_) (a':=?_) #[true,true,false,true,true,false,false,false,false,false,false] rfl rfl (qan HT_.out (by kernel_rfl)) (fun _ _ _ h=>h) (Or.inl ⟨by rfl,?_⟩) ?_ ?_;rotate_left
     ·intro w';go_simp
      with_reducible rfl
     rotate_left
     ·simp only[Act.put,List.setIfInBounds_toArray,List.set_cons_zero,List.set_cons_succ,qak,qal];rfl
     refine qaq (i:=5) (N:=some 23) (v:=?_) (a':=?_) #[true,true,false,true,true,true,false,false,false,false,false] rfl rfl (qan HT_.out (by kernel_rfl)) (fun _ _ _ h=>h) (Or.inl ⟨by rfl,?_⟩) ?_ ?_;rotate_left
     ·intro w';go_simp
      with_reducible rfl
     rotate_left
     ·simp only[Act.put,List.setIfInBounds_toArray,List.set_cons_zero,List.set_cons_succ,qak,qal];rfl
     refine qaq (i:=6) (N:=some 24) (v:=?_) (a':=?_) #[true,true,false,true,true,true,true,false,false,false,false] rfl rfl (qan HT_.out (by kernel_rfl)) (fun _ _ _ h=>h) (Or.inl ⟨by rfl,?_⟩) ?_ ?_;rotate_left
     ·intro w';go_simp
      with_reducible rfl
     rotate_left
     ·simp only[Act.put,List.setIfInBounds_toArray,List.set_cons_zero,List.set_cons_succ,qak,qal];rfl
     refine join_ (σ:=Value) 2 #[true,true,true,true,true,true,true,true,true,false,false] (fun s_=>[(20,.string t215),(25,s_),(26,.string (strOfNums y216))]) (fun s_ w'=>(Kd.R (Kd.int .u8) 5 w' w.heap.size (fun _=>True) s_ y216)∧(Below w.heap.size w w')) ?_ ?_;rotate_left
     ·intro hCont;refine two_ (i:=2) (j:=7) (Ni:=some 20) (Nj:=some 25) #[true,true,true,true,true,true,true,false,false,false,false] #[true,true,false,true,true,true,true,true,false,false,false] rfl rfl rfl rfl (two_of HT_.out (by kernel_rfl)) (by decide) (by decide) (fun K hK=>?_) (fun K hK=>?_)
      ·skip;refine goes_ Tryd.func43 (by kernel_rfl) rfl #[.int .i64 (wrap64 (Int.tdiv a0 10))] (by rfl) rfl rfl (by(try simp only[List.map_toArray,List.map_cons,List.map_nil]);first|done|rfl|(simp only[List.length_drop,List.length_take];rfl)) ?_
       with_reducible refine(ih k (by omega) (wrap64 (Int.tdiv a0 10)) t215 _ A11.out).mono ?_
       rintro e w14 ⟨rfl,hb⟩;refine⟨_,rfl,?_⟩;replace HB:=qaj.mk (qac (za2 HB) hb);(try clear hb);(try clear hb2);(try clear hk);(try clear hi);refine hK.out _ _ trivial (fun hHeld=>?_);clear hK K;refine norm_ (a':=?_) ?_ ?_;rotate_left
       ·show Act.put _ (some 20) _=_;simp only[Act.put,List.setIfInBounds_toArray,List.set_cons_zero,List.set_cons_succ,qak,qal];rfl
       refine one_ (i:=7) (N:=some 25) #[true,true,true,true,true,true,true,true,false,false,false] rfl rfl (one_of HT_.out (by kernel_rfl)) (by decide) (fun K hK=>?_);refine Kd.R_lit_step (Kd.int .u8) _ 5 (by rfl) (N:=25) (by rfl) (xs:=([(wrap64 (48+(Int.tmod a0 10)))%256]:List Int)) (inner:=[.int .u8 ((wrap64 (48+(Int.tmod a0 10)))%256)]) (ok:=fun _=>True) (okp:=fun _=>True) (by first|(go_simp;done)|(go_simp;rfl)) ?hp (fun _ hk=>hk) trivial (Below.refl _ _) (Nat.le_refl _) (by simp) ?_;(case hp=>exact(Reps.one (show Kd.M (Kd.int .u8) _ _ _ ((wrap64 (48+(Int.tmod a0 10)))%256) [.int .u8 ((wrap64 (48+(Int.tmod a0 10)))%256)] from rfl) (Reps.none _ _)));intro v217 w15 ho16 hb hg_ hnew_;clear hg_ hnew_;(first|rw[←Ny216.out] at ho16|(simp only[Int.reduceToNat] at ho16;rw[←Ny216.out] at ho16));have HO218:=qaj.mk (Kd.R_lower ho16 (qam (za2 HB)));replace HB:=qaj.mk (qac (za2 HB) hb);clear hb ho16;refine hK.out _ _ trivial (fun hHeld=>?_);clear hK K;refine norm_ (a':=?_) ?_ ?_;rotate_left
       ·show Act.put _ (some 25) _=_;simp only[Act.put,List.setIfInBounds_toArray,List.set_cons_zero,List.set_cons_succ,qak,qal];rfl
       refine one_ (i:=8) (N:=some 26) #[true,true,true,true,true,true,true,true,true,false,false] rfl rfl (one_of HT_.out (by kernel_rfl)) (by decide) (fun K hK=>?_);have hcv17:=own_string (P:=Tryd.prog) Tryd.underlying22 Tryd.underlying5 Tryd.underlying9 (Kd.own_of_R HO218.out);refine value_ (w1:=?_) (v:=?_) (by rfl) rfl ?_ ?_;rotate_left 2
       ·go_simp;constructor
        ·rfl
        ·rfl
       clear hcv17;refine hK.out _ _ trivial (fun hHeld=>?_);clear hK K;refine norm_ (a':=?_) ?_ ?_;rotate_left
       ·show Act.put _ (some 26) _=_;simp only[Act.put,List.setIfInBounds_toArray,List.set_cons_zero,List.set_cons_succ,qak,qal];rfl
       exact norm_ (by simp only[putAll,Act.put,List.setIfInBounds_toArray,List.set_cons_zero,List.set_cons_succ]) (hCont (v217) _ ⟨(za4 HO218),(za2 HB)⟩)
      ·skip;refine Kd.R_lit_step (Kd.int .u8) _ 5 (by rfl) (N:=25) (by rfl) (xs:=([(wrap64 (48+(Int.tmod a0 10)))%256]:List Int)) (inner:=[.int .u8 ((wrap64 (48+(Int.tmod a0 10)))%256)]) (ok:=fun _=>True) (okp:=fun _=>True) (by first|(go_simp;done)|(go_simp;rfl)) ?hp (fun _ hk=>hk) trivial (Below.refl _ _) (Nat.le_refl _) (by simp) ?_;(case hp=>exact(Reps.one (show Kd.M (Kd.int .u8) _ _ _ ((wrap64 (48+(Int.tmod a0 10)))%256) [.int .u8 ((wrap64 (48+(Int.tmod a0 10)))%256)] from rfl) (Reps.none _ _)));intro v217 w14 ho15 hb hg_ hnew_;clear hg_ hnew_;(first|rw[←Ny216.out] at ho15|(simp only[Int.reduceToNat] at ho15;rw[←Ny216.out] at ho15));have HO218:=qaj.mk (Kd.R_lower ho15 (qam (za2 HB)));replace HB:=qaj.mk (qac (za2 HB) hb);clear hb ho15;refine hK.out _ _ trivial (fun hHeld=>?_);clear hK K;refine norm_ (a':=?_) ?_ ?_;rotate_left
       ·show Act.put _ (some 25) _=_;simp only[Act.put,List.setIfInBounds_toArray,List.set_cons_zero,List.set_cons_succ,qak,qal];rfl
       refine two_ (i:=2) (j:=8) (Ni:=some 20) (Nj:=some 26) #[true,true,true,true,true,true,true,true,false,false,false] #[true,true,false,true,true,true,true,true,true,false,false] rfl rfl rfl rfl (two_of HT_.out (by kernel_rfl)) (by decide) (by decide) (fun K hK=>?_) (fun K hK=>?_)
       ·skip;refine goes_ Tryd.func43 (by kernel_rfl) rfl #[.int .i64 (wrap64 (Int.tdiv a0 10))] (by rfl) rfl rfl (by(try simp only[List.map_toArray,List.map_cons,List.map_nil]);first|done|rfl|(simp only[List.length_drop,List.length_take];rfl)) ?_
        with_reducible refine(ih k (by omega) (wrap64 (Int.tdiv a0 10)) t215 _ A11.out).mono ?_
        rintro e w16 ⟨rfl,hb⟩;refine⟨_,rfl,?_⟩;replace HO218:=qaj.mk (Kd.R_below (za4 HO218) hb);replace HB:=qaj.mk (qac (za2 HB) hb);(try clear hb);(try clear hb2);(try clear hk);(try clear hi);refine hK.out _ _ trivial (fun hHeld=>?_);clear hK K;refine norm_ (a':=?_) ?_ ?_;rotate_left
        ·show Act.put _ (some 20) _=_;simp only[Act.put,List.setIfInBounds_toArray,List.set_cons_zero,List.set_cons_succ,qak,qal];rfl
        refine one_ (i:=8) (N:=some 26) #[true,true,true,true,true,true,true,true,true,false,false] rfl rfl (one_of HT_.out (by kernel_rfl)) (by decide) (fun K hK=>?_);have hcv17:=own_string (P:=Tryd.prog) Tryd.underlying22 Tryd.underlying5 Tryd.underlying9 (Kd.own_of_R HO218.out);refine value_ (w1:=?_) (v:=?_) (by rfl) rfl ?_ ?_;rotate_left 2
        ·go_simp;constructor
         ·rfl
         ·rfl
        clear hcv17;refine hK.out _ _ trivial (fun hHeld=>?_);clear hK K;refine norm_ (a':=?_) ?_ ?_;rotate_left
        ·show Act.put _ (some 26) _=_;simp only[Act.put,List.setIfInBounds_toArray,List.set_cons_zero,List.set_cons_succ,qak,qal];rfl
        exact norm_ (by simp only[putAll,Act.put,List.setIfInBounds_toArray,List.set_cons_zero,List.set_cons_succ]) (hCont (v217) _ ⟨(za4 HO218),(za2 HB)⟩)
       ·skip;have hcv16:=own_string (P:=Tryd.prog) Tryd.underlying22 Tryd.underlying5 Tryd.underlying9 (Kd.own_of_R HO218.out);refine value_ (w1:=?_) (v:=?_) (by rfl) rfl ?_ ?_;rotate_left 2
        ·go_simp;constructor
         ·rfl
         ·rfl
        clear hcv16;refine hK.out _ _ trivial (fun hHeld=>?_);clear hK K;refine norm_ (a':=?_) ?_ ?_;rotate_left
        ·show Act.put _ (some 26) _=_;simp only[Act.put,List.setIfInBounds_toArray,List.set_cons_zero,List.set_cons_succ,qak,qal];rfl
        refine one_ (i:=2) (N:=some 20) #[true,true,true,true,true,true,true,true,true,false,false] rfl rfl (one_of HT_.out (by kernel_rfl)) (by decide) (fun K hK=>?_);refine goes_ Tryd.func43 (by kernel_rfl) rfl #[.int .i64 (wrap64 (Int.tdiv a0 10))] (by rfl) rfl rfl (by(try simp only[List.map_toArray,List.map_cons,List.map_nil]);first|done|rfl|(simp only[List.length_drop,List.length_take];rfl)) ?_
        with_reducible refine(ih k (by omega) (wrap64 (Int.tdiv a0 10)) t215 _ A11.out).mono ?_
        rintro e w17 ⟨rfl,hb⟩;refine⟨_,rfl,?_⟩;replace HO218:=qaj.mk (Kd.R_below (za4 HO218) hb);replace HB:=qaj.mk (qac (za2 HB) hb);(try clear hb);(try clear hb2);(try clear hk);(try clear hi);refine hK.out _ _ trivial (fun hHeld=>?_);clear hK K;refine norm_ (a':=?_) ?_ ?_;rotate_left
        ·show Act.put _ (some 20) _=_;simp only[Act.put,List.setIfInBounds_toArray,List.set_cons_zero,List.set_cons_succ,qak,qal];rfl
        exact norm_ (by simp only[putAll,Act.put,List.setIfInBounds_toArray,List.set_cons_zero,List.set_cons_succ]) (hCont (v217) _ ⟨(za4 HO218),(za2 HB)⟩)
     rintro v217 w18 ⟨h0_,h1_⟩;have HO218:qaj (Kd.R (Kd.int .u8) 5 w18 w.heap.size (fun _=>True) v217 y216):=⟨h0_⟩;replace HB:qaj (Below w.heap.size w w18):=⟨h1_⟩;clear h0_ h1_;have hHeld:=trivial;refine norm_ (a':=?_) ?_ ?_;rotate_left
     ·simp only[putAll,Act.put,List.setIfInBounds_toArray,List.set_cons_zero,List.set_cons_succ];rfl
     refine qaq (i:=9) (N:=some 27) (v:=?_) (a':=?_) #[true,true,true,true,true,true,true,true,true,true,false] rfl rfl (qan HT_.out (by kernel_rfl)) (fun _ _ _ h=>h) (Or.inl ⟨by rfl,?_⟩) ?_ ?_;rotate_left
     ·intro w';go_simp
      with_reducible rfl
     rotate_left
     ·simp only[Act.put,List.setIfInBounds_toArray,List.set_cons_zero,List.set_cons_succ,qak,qal];rfl
     refine qaq (i:=10) (N:=some 2) (v:=?_) (a':=?_) #[true,true,true,true,true,true,true,true,true,true,true] rfl rfl (qan HT_.out (by kernel_rfl)) (fun _ _ _ h=>h) (Or.inl ⟨by rfl,?_⟩) ?_ ?_;rotate_left
     ·intro w';go_simp
      with_reducible rfl
     rotate_left
     ·simp only[Act.put,List.setIfInBounds_toArray,List.set_cons_zero,List.set_cons_succ,qak,qal];rfl
     refine done_ (done_of HT_.out (by kernel_rfl)) ?_
     try go_wp2
     go_ret;exact⟨za10,za2 HB⟩
    ·rw[if_neg c12] at H;exact absurd H (by simp)
def impl_parsed.num (s:ByteArray):Int:=match Lib.atoiAll s.data.toList with
 |.ok v=>v
 |.«syntax»=>0
 |.range=>Lib.atoiSat s.data.toList
def impl_parsed.parts (s:ByteArray):List ByteArray:=Lib.splitB ⟨#[32]⟩ 0 (Lib.countB s ⟨#[32]⟩) s
def impl_parsed.f (a0:ByteArray) (l1:List ByteArray):Option (Int × List Int):=if a0.size≤2097152∧0<l1.length then some (Lib.idxOfS l1 (rdOf ByteArray.empty (impl_parsed.parts a0) 0),(impl_parsed.parts a0).tail.map impl_parsed.num) else none
theorem impl_parsed.atoi (s:ByteArray) (hs:s.size≤2097152) (w:World) (hgw:Tryd.GW w):Calls Tryd.prog 71 #[.string s] w fun e w'=>∃v,e=.returned (.tuple #[.int .i64 (impl_parsed.num s),v])∧Below w.heap.size w w':=by
 obtain⟨-,⟨e1,h1,k1⟩,e2,h2,k2⟩:=hgw;unfold impl_parsed.num
 cases h:Lib.atoiAll s.data.toList with
 |ok v=>
  refine(Tryd.strconv_Atoi_ok s (by omega) v h w).mono ?_;rintro e w' ⟨rfl,rfl|⟨t,rfl⟩⟩
  ·exact⟨_,rfl,Below.refl _ _⟩
  ·exact⟨_,rfl,Lib.bytesWorld_below _ _ _⟩
 |«syntax»=>
  refine(Tryd.strconv_Atoi_syntax s (by omega) h e1 w h1 k1).mono ?_;rintro e w' ⟨N,rfl,-,-,hb⟩;exact⟨_,rfl,hb⟩
 |range=>
  refine(Tryd.strconv_Atoi_range s (by omega) h e2 w h2 k2).mono ?_;rintro e w' ⟨N,rfl,-,-,hb⟩;exact⟨_,rfl,hb⟩
theorem impl_parsed.parts_length (s:ByteArray):(impl_parsed.parts s).length=Lib.countB s ⟨#[32]⟩+1:=Lib.splitB_all ⟨#[32]⟩ (by decide) 0 _ s rfl
theorem impl_parsed.add_ (b o j:Nat):Addr.add ⟨b,o,none⟩ j=⟨b,o+j,none⟩:=by
 unfold Addr.add;split
 ·rename_i h;subst h;rfl
 ·rfl
theorem impl_parsed.rd_get (xs:List ByteArray) (i:Nat) (h:i<xs.length):rdOf ByteArray.empty xs (i:Int)=xs[i]:=by simp[rdOf,List.getD_eq_getElem?_getD,List.getElem?_eq_getElem h]
theorem impl_parsed.rd_mem (xs:List ByteArray) (i:Nat) (h:i<xs.length):rdOf ByteArray.empty xs (i:Int) ∈ xs:=by rw[impl_parsed.rd_get xs i h];exact List.getElem_mem h
theorem impl_parsed.split_small:∀(k:Nat) (s:ByteArray) (x:ByteArray),x ∈ Lib.splitB ⟨#[32]⟩ 0 k s→x.size≤s.size
 |0,s,x,h=>by rw[Lib.splitB_zero,List.mem_singleton] at h;rw[h];exact Nat.le_refl _
 |k+1,s,x,h=>by
  unfold Lib.splitB at h;split at h
  ·rw[List.mem_singleton] at h;rw[h];exact Nat.le_refl _
  ·rcases List.mem_cons.1 h with rfl|h
   ·rw[ByteArray.size_extract];omega
   ·have:=impl_parsed.split_small k _ x h;rw[ByteArray.size_extract] at this;omega
theorem impl_parsed.C_row (w:World) (xs:List ByteArray) (hx:xs.length≤9223372036854775807):Kd.C Kd.string (w.alloc (.cells (xs.map Value.string).toArray 9)) (some ⟨w.heap.size,0,none⟩) xs.length xs:=by
 refine⟨rfl,hx,fun _=>⟨_,rfl,fun j p hp=>⟨[.string p],rfl,rfl,fun i u hu=>?_⟩⟩⟩
 match i,hu with
 |0,hu=>
  simp only[List.getElem?_cons_zero,Option.some.injEq] at hu;subst hu;have hj:j<xs.length:=(List.getElem?_eq_some_iff.1 hp).1;have hb:(w.alloc (.cells (xs.map Value.string).toArray 9)).heap[w.heap.size]?=some (.cells (xs.map Value.string).toArray 9 (0,0)):=blk_new w _;show World.cell? _ (Addr.add ⟨w.heap.size,0,none⟩ (j*1+0))=_
  have ha:Addr.add ⟨w.heap.size,0,none⟩ (j*1+0)=⟨w.heap.size,j,none⟩:=by
   unfold Addr.add;split
   ·have:j=0:=by omega
    subst this;rfl
   ·simp
  rw[ha];unfold World.cell?;rw[hb];simp[hp]
 |i+1,hu=>simp at hu
theorem impl_parsed.index (A1:Option Addr) (c1:Nat) (l1:List ByteArray) (x:ByteArray) (w:World) (hp:0<l1.length) (hC:Kd.C Kd.string w A1 l1.length l1):Calls Tryd.prog 72 #[.slice A1 l1.length c1,.string x] w fun e w'=>e=.returned (.int .i64 (Lib.idxOfS l1 x))∧w'=w:=by
 obtain⟨ad,rfl,hc⟩:=(Kd.reads_of_C (enc:=Value.string) (d:=ByteArray.empty) (h1:=fun _=>rfl) hC).2.2 hp;obtain⟨b,off,spot⟩:=ad
 have hs0:spot=none:=by
  have:=hc 0 hp;unfold Addr.add World.cell? at this
  cases spot with
  |none=>rfl
  |some q=>simp at this;split at this<;>simp at this
 subst hs0
 have:=Tryd.slices_Index_string b off l1.length c1 l1 x w (Nat.le_refl _) hC.2.1 (fun j hj=>by
  have h:=hc j hj
  have ha:Addr.add ⟨b,off,none⟩ j=⟨b,off+j,none⟩:=by
   unfold Addr.add;split
   ·rename_i h;subst h;rfl
   ·rfl
  rw[ha] at h
  exact h)
 rwa [List.take_length] at this
theorem impl_parsed.split (a0:ByteArray) (hs:a0.size≤2097152) (w:World) (hgw:Tryd.GW w) (n:Nat) (hn:(impl_parsed.parts a0).length=n+1):Calls Tryd.prog 70 #[.string a0,.string ⟨#[32]⟩] w fun e W1=>∃b,e=.returned (.slice (some ⟨b,0,none⟩) (n+1) (n+1))∧Kd.C Kd.string W1 (some ⟨b,0,none⟩) (impl_parsed.parts a0).length (impl_parsed.parts a0)∧Below w.heap.size w W1:=by
 obtain⟨⟨m,hm⟩,-⟩:=hgw
 have he:n=Lib.countB a0 ⟨#[32]⟩:=by have:=impl_parsed.parts_length a0;omega
 subst he;refine(Tryd.strings_Split a0 ⟨#[32]⟩ m w (by omega) hm (by decide)).mono ?_;rintro e W1 ⟨rfl,rfl⟩;refine⟨_,rfl,impl_parsed.C_row w _ ?_,(Below.refl _ _).alloc (Nat.le_refl _) _⟩;have h1:(Lib.splitB ⟨#[32]⟩ 0 (Lib.countB a0 ⟨#[32]⟩) a0).length=Lib.countB a0 ⟨#[32]⟩+1:=impl_parsed.parts_length a0;have h2:=Lib.countB_mul_le ⟨#[32]⟩ (by decide) a0.size a0 (Nat.le_refl _);have h3:(⟨#[32]⟩:ByteArray).size=1:=rfl;rw[h3] at h2;rw[h1];omega
set_option maxHeartbeats 8000000 in
set_option maxRecDepth 100000 in
theorem impl_parsed.calls (a0:ByteArray) (A1:Option Addr) (c1:Nat) (l1:List ByteArray) (r1:Int) (r2:List Int) (w:World) (hr1:Kd.C Kd.string w A1 l1.length l1) (hc1:l1.length≤c1) (hgw:Tryd.GW w) (h:impl_parsed.f a0 l1=some (r1,r2)) :
  Calls Tryd.prog 44 #[.string a0,.slice A1 l1.length c1] w fun e w'=>∃v1_:Value,e=.returned (.tuple #[.int .i64 r1,v1_])∧Kd.R (Kd.int .i64) 3 w' w.heap.size (fun _=>True) v1_ r2∧Below w.heap.size w w':=by
 unfold impl_parsed.f at h;by_cases hs0:a0.size≤2097152∧0<l1.length
 ·rw[if_pos hs0] at h;obtain⟨hs,hpos⟩:=hs0
  injection h with h
  injection h with e1 e2
  subst e1;subst e2;have HR:=qaj.mk hr1;have HG:=qaj.mk hgw;clear hr1 hgw;obtain⟨n,hn⟩:∃n,(impl_parsed.parts a0).length=n+1:=⟨_,impl_parsed.parts_length a0⟩
  have hsplit:=fun W=>impl_parsed.split a0 hs W
  have hsmall:∀x,x ∈ (impl_parsed.parts a0).tail→x.size≤2097152:=fun x hx=>Nat.le_trans (impl_parsed.split_small _ a0 x (List.mem_of_mem_tail hx)) hs
  have hbig:n≤2097152:=by
   have:=impl_parsed.parts_length a0;have h2:=Lib.countB_mul_le ⟨#[32]⟩ (by decide) a0.size a0 (Nat.le_refl _);have h3:(⟨#[32]⟩:ByteArray).size=1:=rfl;rw[h3] at h2;omega
  have HS:=qaj.mk hsplit;clear hsplit;generalize impl_parsed.parts a0=P at hn hsmall HS ⊢;by_cases hn0:n=0
  ·subst hn0;go_enter Tryd.func44,Tryd.ntmps44
   go_wp2_with(go_at_call 70;refine(HS.out _ HG.out 0 hn).mono ?_;rintro e W1 ⟨b,rfl,hC,hb⟩;have HC:=qaj.mk hC;have HB:=qaj.mk hb;have HG1:=qaj.mk (Tryd.GW.below HG.out hb);clear hC hb)
   have hl1:P.length=1:=hn
   have HD:Kd.C Kd.string W1 (some ⟨b,0,none⟩) 0 P.tail:=by
    have h:=Kd.C_drop (m:=1) HC.out (by omega) (Nat.le_refl P.length);rw[if_pos hl1,List.length_drop,List.drop_one] at h;rw[hl1] at h;exact h
   have HLd:=hl1
   go_loopg [7,17] 0 (fun kq v7 v17 w'=>∃i:Nat,v17=.int .i64 i∧i+kq=0∧Kd.R (Kd.int .i64) 3 w' W1.heap.size (fun _=>True) v7 ((P.tail.take i).map impl_parsed.num)∧Below W1.heap.size W1 w')
   case atStart=>
    exact⟨0,rfl,by omega,Kd.R_nil _ _ _ _ _,Below.refl _ _⟩
   case round=>
    obtain⟨i,rfl,hi,hN,hb⟩:=hrel
    cases gk with
    |zero=>
     have hd:decide ((i:Int)<((0:Nat):Int))=false:=decide_eq_false (by omega)
     have hl:P.tail.take i=P.tail:=by rw[List.take_of_length_le (by rw[List.length_tail];omega)]
     rw[hl] at hN;have HN:=qaj.mk hN;have HBb:=qaj.mk hb;clear hN hb;obtain⟨ad0,e0,hx0⟩:=Kd.at_string (Kd.C_below HC.out HBb.out) 0 (by omega) (by omega)
     cases e0
     rw[show(0:Int).toNat=0 from rfl,impl_parsed.add_] at hx0
     go_wp2_with(go_at_call 72;refine(impl_parsed.index A1 c1 l1 _ _ hpos ?idx).mono ?_;(case idx=>exact Kd.C_below HR.out (HB.out.trans (HBb.out.mono HB.out.size)));rintro e w3 ⟨rfl,rfl⟩)
     go_ret2
     exact⟨_,rfl,Kd.R_lower HN.out HB.out.size,HB.out.trans (HBb.out.mono HB.out.size)⟩
    |succ g=>
     exfalso;omega
  ·have hnb:(n == 0)=false:=beq_eq_false_iff_ne.mpr hn0;go_enter Tryd.func44,Tryd.ntmps44
   go_wp2_with(go_at_call 70;refine(HS.out _ HG.out n hn).mono ?_;rintro e W1 ⟨b,rfl,hC,hb⟩;have HC:=qaj.mk hC;have HB:=qaj.mk hb;have HG1:=qaj.mk (Tryd.GW.below HG.out hb);clear hC hb)
   have hl1:P.length=n+1:=hn
   have HD:Kd.C Kd.string W1 (some ⟨b,1,none⟩) n P.tail:=by
    have h:=Kd.C_drop (m:=1) HC.out (by omega) (Nat.le_refl P.length);rw[if_neg (by omega),List.length_drop,List.drop_one] at h;rw[hl1] at h;exact h
   have HLd:=hl1
   go_loopg [7,17] n (fun kq v7 v17 w'=>∃i:Nat,v17=.int .i64 i∧i+kq=n∧Kd.R (Kd.int .i64) 3 w' W1.heap.size (fun _=>True) v7 ((P.tail.take i).map impl_parsed.num)∧Below W1.heap.size W1 w')
   case atStart=>
    exact⟨0,rfl,by omega,Kd.R_nil _ _ _ _ _,Below.refl _ _⟩
   case round=>
    obtain⟨i,rfl,hi,hN,hb⟩:=hrel
    cases gk with
    |zero=>
     have hd:decide ((i:Int)<((n:Nat):Int))=false:=decide_eq_false (by omega)
     have hl:P.tail.take i=P.tail:=by rw[List.take_of_length_le (by rw[List.length_tail];omega)]
     rw[hl] at hN;have HN:=qaj.mk hN;have HBb:=qaj.mk hb;clear hN hb;obtain⟨ad0,e0,hx0⟩:=Kd.at_string (Kd.C_below HC.out HBb.out) 0 (by omega) (by omega)
     cases e0
     rw[show(0:Int).toNat=0 from rfl,impl_parsed.add_] at hx0
     go_wp2_with(go_at_call 72;refine(impl_parsed.index A1 c1 l1 _ _ hpos ?idx).mono ?_;(case idx=>exact Kd.C_below HR.out (HB.out.trans (HBb.out.mono HB.out.size)));rintro e w3 ⟨rfl,rfl⟩)
     go_ret2
     exact⟨_,rfl,Kd.R_lower HN.out HB.out.size,HB.out.trans (HBb.out.mono HB.out.size)⟩
    |succ g=>
     have hlt:(i:Int)<((n:Nat):Int):=by omega
     have hd:decide ((i:Int)<((n:Nat):Int))=true:=decide_eq_true hlt;have HN:=qaj.mk hN;have HBb:=qaj.mk hb;clear hN hb;obtain⟨ad1,e1,hx1⟩:=Kd.at_string (Kd.C_below HD HBb.out) (i:Int) (by omega) hlt
     cases e1
     rw[Int.toNat_natCast,impl_parsed.add_] at hx1;have hsz:(rdOf ByteArray.empty P.tail (i:Int)).size≤2097152:=hsmall _ (impl_parsed.rd_mem _ _ (by rw[List.length_tail];omega))
     go_wp2_with(first|(go_at_call 71;refine(impl_parsed.atoi _ hsz _ ?gw).mono ?_;(case gw=>exact Tryd.GW.below HG1.out HBb.out);rintro e w4 ⟨v4,rfl,hb4⟩;replace HN:=qaj.mk (Kd.R_below HN.out hb4);replace HBb:=qaj.mk (HBb.out.trans (hb4.mono HBb.out.size));clear hb4)|((with_reducible refine gate_builtin (b:=.append) (xs:=#[.tmp 26,.tmp 28]) rfl ?_);at_builtin;refine Kd.R_append (Kd.int .i64) (w0:=W1) W1.heap.size rfl (.tmp 26) (.tmp 28) 23 3 (.int .i64 0) 8 rfl Tryd.underlying23 info3 rfl (by decide) (by omega) _ ((P.tail.take i).map impl_parsed.num) (impl_parsed.num (rdOf ByteArray.empty P.tail (i:Int))) [.int .i64 (impl_parsed.num (rdOf ByteArray.empty P.tail (i:Int)))] (fun _=>True) (fun _=>False) rfl rfl rfl (fun _ hk=>hk.elim) (fun _ _=>trivial) HN.out HBb.out HBb.out.size ?aL ?_;(case aL=>(rw[List.length_map,List.length_take,List.length_tail];omega));intro v5 w5 ho5 hb5 hg5 hat5;replace HN:=qaj.mk ho5;replace HBb:=qaj.mk hb5;clear ho5 hb5 hg5 hat5))
     go_roundg g
     case measure=>omega
     case rel=>
      refine⟨i+1,by go_num,by omega,?_,HBb.out⟩
      have e3:P.tail.take (i+1)=P.tail.take i++[rdOf ByteArray.empty P.tail (i:Int)]:=by
       have hlen:i<P.tail.length:=by rw[List.length_tail];omega
       rw[List.take_succ_eq_append_getElem hlen];congr 2;exact(impl_parsed.rd_get _ _ hlen).symm
      rw[e3,List.map_append];exact HN.out
 ·rw[if_neg hs0] at h
  cases h
end Go.Proofs.YtbcepmkifomifaaDoor.Print
