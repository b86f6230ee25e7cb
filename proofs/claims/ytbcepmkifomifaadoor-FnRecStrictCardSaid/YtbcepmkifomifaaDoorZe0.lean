-- Written by squeeze.py: not trusted, Lean checks it.
import Derived.Test.YtbcepmkifomifaaDoorZK
import Derived.Test.YtbcepmkifomifaaDoorShelf
namespace Go.Proofs.YtbcepmkifomifaaDoor.Print
open Go.RowKit Go.Proofs.YtbcepmkifomifaaDoorW.PrintWords Go.Proofs.YtbcepmkifomifaaDoorW.PrintLast Go.Proofs.YtbcepmkifomifaaDoorW.PrintMore
attribute [local go_sem] max2_int min2_int max_two min_two max_three min_three max_four min_four
set_option linter.unusedVariables false
set_option linter.unusedSimpArgs false
def impl_in.f (a0:Int) (a1:Int) (a2:Int):Option (Bool):=if a0≥a1 then(some (decide (a0≤a2))) else(some false)
set_option maxHeartbeats 8000000 in
set_option maxRecDepth 100000 in
theorem impl_in.calls (a0:Int) (a1:Int) (a2:Int) (r:Bool) (w:World) (h:impl_in.f a0 a1 a2=some r) :
  Calls Tryd.prog 54 #[.int .i64 a0,.int .i64 a1,.int .i64 a2] w fun e w'=>e=.returned (.bool r)∧Drawn0 w w':=by
 have H:(if a0≥a1 then(some (decide (a0≤a2))) else(some false))=some r:=h;clear h;by_cases c4:a0≥a1
 ·rw[if_pos c4] at H;have c4b0:decide (a1≤a0)=true:=decide_eq_true c4;clear c4;obtain rfl:=Option.some.inj H;go_enter Tryd.func54,Tryd.ntmps54;go_wp2;go_ret;exact⟨za23,za32⟩
 ·rw[if_neg c4] at H;have c4b0:decide (a1≤a0)=false:=decide_eq_false c4;clear c4;obtain rfl:=Option.some.inj H;go_enter Tryd.func54,Tryd.ntmps54;go_wp2;go_ret;exact⟨za23,za32⟩
def impl_isTrip.f (a0:Int):Option (Bool):=(impl_in.f a0 1 6).bind fun t183=>(some t183)
set_option maxHeartbeats 8000000 in
set_option maxRecDepth 100000 in
theorem impl_isTrip.calls (a0:Int) (r:Bool) (w:World) (h:impl_isTrip.f a0=some r) :
  Calls Tryd.prog 56 #[.int .i64 a0] w fun e w'=>e=.returned (.bool r)∧Drawn0 w w':=by
 have H:((impl_in.f a0 1 6).bind fun t183=>(some t183))=some r:=h;clear h;replace H:=Option.bind_eq_some_iff.mp H;obtain⟨t183,A20,H⟩:=H;replace H:(some t183)=some r:=H;have A2:=qaj.mk A20;clear A20;obtain rfl:=Option.some.inj H;go_enter Tryd.func56,Tryd.ntmps56
 go_wp2_with(first|((with_reducible refine qae (f:=54) rfl ?_);refine zF (some 4) Tryd.func54 #[.int .i64 a0,.int .i64 1,.int .i64 6] ?_;(with_reducible refine(impl_in.calls a0 1 6 t183 _ A2.out).mono ?_);rintro e w' ⟨rfl,⟨nd,rfl⟩⟩;refine⟨_,rfl,?_⟩))
 go_ret;exact⟨za23,za32⟩
def impl_joined.num (n:Int):List UInt8:=32 :: Lib.decDigits n.toNat
def impl_joined.bs (a0:ByteArray) (l:List Int):List UInt8:=a0.data.toList++l.flatMap impl_joined.num
theorem impl_joined.two (m:Nat) (h:m<100):(Lib.decDigits m).length≤2:=by
 rw[Lib.decDigits];split
 ·simp
 ·rw[Lib.decDigits,dif_pos (by omega)];simp
theorem impl_joined.length (a0:ByteArray):∀(l:List Int),(∀n ∈ l,0≤n∧n<100)→(impl_joined.bs a0 l).length≤a0.size+3*l.length:=by
 intro l h;unfold impl_joined.bs;rw[List.length_append]
 have:(l.flatMap impl_joined.num).length≤3*l.length:=by
  induction l with
  |nil=>simp
  |cons n l ih=>
   have h1:=ih (fun x hx=>h x (List.mem_cons_of_mem _ hx));have h2:=impl_joined.two n.toNat (by have:=h n (List.mem_cons_self ..);omega);rw[List.flatMap_cons,List.length_append,List.length_cons];unfold impl_joined.num at h1 ⊢;rw[List.length_cons];omega
 have e:a0.data.toList.length=a0.size:=rfl;omega
def impl_joined.f (a0:ByteArray) (l1:List Int):Option (ByteArray):=if(l1.all fun n=>decide (0≤n) && decide (n<100))=true∧a0.size+3*l1.length≤1000 then some ⟨(impl_joined.bs a0 l1).toArray⟩ else none
set_option maxHeartbeats 8000000 in
set_option maxRecDepth 100000 in
theorem impl_joined.calls (a0:ByteArray) (A1:Option Addr) (c1:Nat) (l1:List Int) (r:ByteArray) (w:World) (hr1:Kd.C (Kd.int .i64) w A1 l1.length l1) (hc1:l1.length≤c1) (h:impl_joined.f a0 l1=some r) :
  Calls Tryd.prog 39 #[.string a0,.slice A1 l1.length c1] w fun e w'=>e=.returned (.string r)∧Below w.heap.size w w':=by
 unfold impl_joined.f at h;by_cases hc:(l1.all fun n=>decide (0≤n) && decide (n<100))=true∧a0.size+3*l1.length≤1000
 ·rw[if_pos hc] at h
  injection h with h
  subst h;have h0:Lib.IsBuilder 77 5 w.heap.size w.heap.size [] (w.alloc (.cells #[.pointer none,.slice none 0 0] 77)):=Lib.fresh_isBuilder 77 5 w;have b0:Below w.heap.size w (w.alloc (.cells #[.pointer none,.slice none 0 0] 77)):=(Below.refl _ w).alloc (Nat.le_refl _) _;go_enter Tryd.func39,Tryd.ntmps39
  go_wp2_with(go_at_call 66;refine(Tryd.Builder_WriteString w.heap.size w.heap.size [] a0 _ h0 (by simp;omega) b0.size).mono ?_)
  rintro e W1 ⟨rfl,h1,b1⟩;go_wp2
  go_loopg [12] l1.length (fun kq v12 w'=>∃i:Nat,v12=.int .i64 i∧i+kq=l1.length∧Lib.BuilderAt 77 5 w.heap.size w.heap.size (.pointer (some ⟨w.heap.size,0,none⟩)) (Lib.byteCells (impl_joined.bs a0 (l1.take i))) w'∧Below w.heap.size w w')
  case atStart=>
   refine⟨0,rfl,by omega,?_,b0.trans b1⟩;rw[List.nil_append] at h1
   have e1:Lib.byteCells (impl_joined.bs a0 (l1.take 0))=Lib.strCells a0:=by simp[impl_joined.bs,Lib.strCells,Lib.byteCells]
   rw[e1];exact h1
  case round=>
   obtain⟨i,rfl,hi,hB,hb⟩:=hrel
   cases gk with
   |zero=>
    have hi':¬((i:Int)<(l1.length:Int)):=by omega
    have hd:decide ((i:Int)<(l1.length:Int))=false:=decide_eq_false hi';have hl:l1.take i=l1:=List.take_of_length_le (by omega);rw[hl] at hB
    go_wp2_with(go_at_call 68;refine(Tryd.Builder_String_any w.heap.size w.heap.size (impl_joined.bs a0 l1) _ (Or.inr hB) hb.size).mono ?_;rintro e W2 ⟨rfl,b2⟩;replace b2:=qaj.mk b2)
    go_ret;exact⟨rfl,hb.trans b2.out⟩
   |succ g=>
    have hlt:(i:Int)<(l1.length:Int):=by omega
    have hd:decide ((i:Int)<(l1.length:Int))=true:=decide_eq_true hlt;have hC:Kd.C (Kd.int .i64) wr A1 l1.length l1:=Kd.C_below hr1 hb;obtain⟨ad,e,hx⟩:=Kd.at_int hC (i:Int) (by omega) hlt
    cases e
    have hn:rd l1 (i:Int)=l1[i]'(by omega):=by simp[rd,List.getElem?_eq_getElem (show i<l1.length by omega)]
    have hm:=List.all_eq_true.1 hc.1 (l1[i]'(by omega)) (List.getElem_mem _);simp only[Bool.and_eq_true,decide_eq_true_eq] at hm;obtain⟨m,hmm⟩:∃m:Nat,rd l1 (i:Int)=(m:Int):=⟨(rd l1 (i:Int)).toNat,by rw[hn];omega⟩;rw[hmm,Int.toNat_natCast] at hx
    have hm1:m<100:=by rw[←hn] at hm;omega
    have h2:=impl_joined.two m hm1;have hL:=impl_joined.length a0 (l1.take i) (fun n hn_=>by have:=List.all_eq_true.1 hc.1 n (List.mem_of_mem_take hn_);simpa using this)
    have hT:(l1.take i).length=i:=by rw[List.length_take];omega
    go_wp2_with(first|(go_at_call 67;refine(Tryd.strconv_Itoa_small m (by rw[←hn] at hm;omega) _).mono ?_;rintro e w1 ⟨rfl,rfl⟩)|(go_at_call 66;refine(Tryd.Builder_WriteString w.heap.size w.heap.size _ _ _ (Or.inr hB) ?hlen hb.size).mono ?_;(case hlen=>(have e1:(Lib.byteCells (impl_joined.bs a0 (l1.take i))).length=(impl_joined.bs a0 (l1.take i)).length:=by simp[Lib.byteCells]);(have e2:((⟨#[32]⟩:ByteArray)++⟨(Lib.decDigits m).toArray⟩).size=1+(Lib.decDigits m).length:=by rw[ByteArray.size_append];rfl);rw[e1];first|(rw[e2];omega)|omega);rintro e w2 ⟨rfl,hB2,b2⟩;replace hB2:=qaj.mk hB2;replace b2:=qaj.mk b2))
    go_roundg g
    case measure=>omega
    case rel=>
     refine⟨i+1,by go_num,by omega,?_,hb.trans b2.out⟩
     have e1:Lib.byteCells (impl_joined.bs a0 (l1.take (i+1)))=Lib.byteCells (impl_joined.bs a0 (l1.take i))++Lib.strCells ((⟨#[32]⟩:ByteArray)++⟨(Lib.decDigits m).toArray⟩):=by
      rw[Lib.strCells_eq,←Lib.byteCells_append];congr 1
      have e2:(l1[i]'(by omega)).toNat=m:=by rw[←hn,hmm];omega
      have e3:l1.take (i+1)=l1.take i++[l1[i]'(by omega)]:=List.take_succ_eq_append_getElem (by omega)
      have e4:((⟨#[32]⟩:ByteArray)++⟨(Lib.decDigits m).toArray⟩).data.toList=32 :: Lib.decDigits m:=by rw[ByteArray.data_append];simp
      rw[e3,e4];unfold impl_joined.bs;rw[List.flatMap_append,←List.append_assoc];congr 1;show List.flatMap impl_joined.num [_]=_;rw[List.flatMap_singleton];unfold impl_joined.num;rw[e2]
     rw[e1];exact hB2.out
 ·rw[if_neg hc] at h;exact absurd h (by simp)
def spec_l6In.f (a0:Int) (a1:Int) (a2:Int):Option (Bool):=if a0≥a1 then(some (decide (a0≤a2))) else(some false)
set_option maxHeartbeats 8000000 in
set_option maxRecDepth 100000 in
theorem spec_l6In.calls (a0:Int) (a1:Int) (a2:Int) (r:Bool) (w:World) (h:spec_l6In.f a0 a1 a2=some r) :
  Calls Tryd.prog 64 #[.int .i64 a0,.int .i64 a1,.int .i64 a2] w fun e w'=>e=.returned (.bool r)∧Drawn0 w w':=by
 have H:(if a0≥a1 then(some (decide (a0≤a2))) else(some false))=some r:=h;clear h;by_cases c4:a0≥a1
 ·rw[if_pos c4] at H;have c4b0:decide (a1≤a0)=true:=decide_eq_true c4;clear c4;obtain rfl:=Option.some.inj H;go_enter Tryd.func64,Tryd.ntmps64;go_wp2;go_ret;exact⟨za23,za32⟩
 ·rw[if_neg c4] at H;have c4b0:decide (a1≤a0)=false:=decide_eq_false c4;clear c4;obtain rfl:=Option.some.inj H;go_enter Tryd.func64,Tryd.ntmps64;go_wp2;go_ret;exact⟨za23,za32⟩
def spec_l6Dec.f:Nat→Int→Option (ByteArray)
 |0,_=>none
 |k+1,a0=>if a0<(-9223372036854775807) then(some (⟨#[45,57,50,50,51,51,55,50,48,51,54,56,53,52,55,55,53,56,48,56]⟩:ByteArray)) else(if a0<0 then((spec_l6Dec.f k (wrap64 (-a0))).bind fun t211=>(if 1+t211.size≤9223372036854775807 then(some ((⟨#[45]⟩:ByteArray)++t211)) else(none))) else(if a0<10 then(some (strOfNums (([(wrap64 (48+a0))%256]:List Int)))) else((spec_l6Dec.f k (wrap64 (Int.tdiv a0 10))).bind fun t215=>((some (([(wrap64 (48+(Int.tmod a0 10)))%256]:List Int):List Int)).bind fun y216=>(if t215.size+(strOfNums y216).size≤9223372036854775807 then(some (t215++(strOfNums y216))) else(none))))))
theorem spec_l6Dec.mono_l:∀k,(∀y0,LeO (spec_l6Dec.f k y0) (spec_l6Dec.f (k+1) y0))
 |0=>fun _ r h=>by simp[spec_l6Dec.f] at h
 |k+1=>by
  have ih0:=spec_l6Dec.mono_l k
  ·intro y0;unfold spec_l6Dec.f
   repeat' first|(with_reducible exact ih0 _)|(with_reducible exact LeO.refl _)|(with_reducible exact LeO.none _)|(with_reducible refine LeO.ite ?_ ?_)|(with_reducible refine LeO.bind ?_ (fun _=>?_))|exact ih0 _|exact LeO.none _|refine LeO.ite ?_ ?_|refine LeO.bind ?_ (fun _=>?_)
theorem spec_l6Dec.mono:∀a0 k,LeO (spec_l6Dec.f k a0) (spec_l6Dec.f (k+1) a0):=by
 intro a0 k;have ih0:=spec_l6Dec.mono_l k;exact ih0 a0
def spec_l6Dec.T7:Bool × List (List Nat × List Nat):=(true,[([],[]),([0],[0]),([1],[1]),([],[]),([3],[3]),([4],[4]),([5],[5]),([6],[6]),([7],[7]),([2,8],[2,8]),([9,2,0,1,2,3,4,5,6,7,8,9],[9])])
def spec_l6Dec.B7:List Nat:=[0,1,3,0,8,24,56,120,248,511,1023]
theorem spec_l6Dec.tab7:rtab .any (opsOf Tryd.f43 7)=spec_l6Dec.T7:=by kernel_rfl
theorem spec_l6Dec.bits7:waitsOk spec_l6Dec.T7.2 spec_l6Dec.B7=true:=by kernel_rfl
set_option maxHeartbeats 8000000 in
set_option maxRecDepth 100000 in
theorem spec_l6Dec.calls (k:Nat):∀(a0:Int) (r:ByteArray) (w:World) (h:spec_l6Dec.f k a0=some r),
  Calls Tryd.prog 43 #[.int .i64 a0] w fun e w'=>e=.returned (.string r)∧Below w.heap.size w w':=by
 induction k using Nat.strongRecOn with
 |_ k ih=>
 intro a0 r w h
 cases k with
 |zero=>exact absurd h (by simp[spec_l6Dec.f])
 |succ k=>
 simp only[spec_l6Dec.f] at h;have HB:=qaj.mk (Below.refl w.heap.size w);have H:(if a0<(-9223372036854775807) then(some (⟨#[45,57,50,50,51,51,55,50,48,51,54,56,53,52,55,55,53,56,48,56]⟩:ByteArray)) else(if a0<0 then((spec_l6Dec.f k (wrap64 (-a0))).bind fun t211=>(if 1+t211.size≤9223372036854775807 then(some ((⟨#[45]⟩:ByteArray)++t211)) else(none))) else(if a0<10 then(some (strOfNums (([(wrap64 (48+a0))%256]:List Int)))) else((spec_l6Dec.f k (wrap64 (Int.tdiv a0 10))).bind fun t215=>((some (([(wrap64 (48+(Int.tmod a0 10)))%256]:List Int):List Int)).bind fun y216=>(if t215.size+(strOfNums y216).size≤9223372036854775807 then(some (t215++(strOfNums y216))) else(none)))))))=some r:=h;clear h;by_cases c2:a0<(-9223372036854775807)
 ·rw[if_pos c2] at H;have c2b0:decide (a0<(-9223372036854775807))=true:=decide_eq_true c2;clear c2;obtain rfl:=Option.some.inj H;go_enter Tryd.func43,Tryd.ntmps43;go_wp2;go_ret;exact⟨za10,za2 HB⟩
 ·rw[if_neg c2] at H;have c2b0:decide (a0<(-9223372036854775807))=false:=decide_eq_false c2;clear c2;by_cases c3:a0<0
  ·rw[if_pos c3] at H;have c3b0:decide (a0<0)=true:=decide_eq_true c3;clear c3;replace H:=Option.bind_eq_some_iff.mp H;obtain⟨t211,A40,H⟩:=H;replace H:(if 1+t211.size≤9223372036854775807 then(some ((⟨#[45]⟩:ByteArray)++t211)) else(none))=some r:=H;have A4:=qaj.mk A40;clear A40;by_cases c5:1+t211.size≤9223372036854775807
   ·rw[if_pos c5] at H;have c5b0:=eq_true c5;have c5b1:decide (1+t211.size≤9223372036854775807)=true:=decide_eq_true c5
    try have c5b2:(9223372036854775807<1+t211.size)=False:=eq_false (Nat.not_lt.2 c5)
    obtain rfl:=Option.some.inj H;go_enter Tryd.func43,Tryd.ntmps43
    go_wp2_with(first|((with_reducible refine qae (f:=43) rfl ?_);refine zF (some 9) Tryd.func43 #[.int .i64 (wrap64 (-a0))] ?_;(with_reducible refine(ih k (by omega) (wrap64 (-a0)) t211 _ A4.out).mono ?_);rintro e w6 ⟨rfl,hb⟩;refine⟨_,rfl,?_⟩;replace HB:=qaj.mk (qaa (za2 HB) hb);(try clear hb)))
    go_ret;exact⟨za10,za2 HB⟩
   ·rw[if_neg c5] at H;exact absurd H (by simp)
  ·rw[if_neg c3] at H;have c3b0:decide (a0<0)=false:=decide_eq_false c3;clear c3;by_cases c7:a0<10
   ·rw[if_pos c7] at H;have c7b0:decide (a0<10)=true:=decide_eq_true c7;clear c7;obtain⟨y212,hy212⟩:∃y_:List Int,y_=(([(wrap64 (48+a0))%256]:List Int)):=⟨_,rfl⟩
    replace H:(some (strOfNums y212))=some r:=by first|(rw[hy212];with_reducible exact H)|(have H2_:=(Option.bind_some _ _).symm.trans H;rw[hy212];with_reducible exact H2_)|(have H2_:=(Option.bind_some _ _).symm.trans H;with_reducible exact H2_)|with_reducible exact H|(rw[hy212];exact H)|exact H
    have Ny212:=qaj.mk hy212;clear hy212;obtain rfl:=Option.some.inj H;go_enter Tryd.func43,Tryd.ntmps43
    go_wp2_with(first|((with_reducible refine qai (N:=16) rfl ?_);refine Kd.R_lit (Kd.int .u8) _ 5 (by rfl) (N:=16) (by rfl) (xs:=([(wrap64 (48+a0))%256]:List Int)) (inner:=[.int .u8 ((wrap64 (48+a0))%256)]) (ok:=fun _=>True) (okp:=fun _=>True) (by first|(go_simp;done)|(go_simp;rfl)) ?hp (fun _ hk=>hk) trivial (Below.refl _ _) (Nat.le_refl _) (by simp) ?_;(case hp=>exact(Reps.one (show Kd.M (Kd.int .u8) _ _ _ ((wrap64 (48+a0))%256) [.int .u8 ((wrap64 (48+a0))%256)] from rfl) (Reps.none _ _)));intro v213 w8 ho9 hb hg_ hnew_;clear hg_ hnew_;(first|rw[←Ny212.out] at ho9|(simp only[Int.reduceToNat] at ho9;rw[←Ny212.out] at ho9));have HO214:=qaj.mk (Kd.R_lower ho9 (qam (za2 HB)));replace HB:=qaj.mk (qaa (za2 HB) hb);clear hb ho9;have hcv10:=own_string (P:=Tryd.prog) Tryd.underlying22 Tryd.underlying5 Tryd.underlying9 (Kd.own_of_R HO214.out)))
    go_ret;exact⟨za10,za2 HB⟩
   ·rw[if_neg c7] at H;have c7b0:decide (a0<10)=false:=decide_eq_false c7;clear c7;replace H:=Option.bind_eq_some_iff.mp H;obtain⟨t215,A110,H⟩:=H;replace H:((some (([(wrap64 (48+(Int.tmod a0 10)))%256]:List Int):List Int)).bind fun y216=>(if t215.size+(strOfNums y216).size≤9223372036854775807 then(some (t215++(strOfNums y216))) else(none)))=some r:=H;have A11:=qaj.mk A110;clear A110;obtain⟨y216,hy216⟩:∃y_:List Int,y_=(([(wrap64 (48+(Int.tmod a0 10)))%256]:List Int)):=⟨_,rfl⟩
    replace H:(if t215.size+(strOfNums y216).size≤9223372036854775807 then(some (t215++(strOfNums y216))) else(none))=some r:=by first|(rw[hy216];with_reducible exact H)|(have H2_:=(Option.bind_some _ _).symm.trans H;rw[hy216];with_reducible exact H2_)|(have H2_:=(Option.bind_some _ _).symm.trans H;with_reducible exact H2_)|with_reducible exact H|(rw[hy216];exact H)|exact H
    have Ny216:=qaj.mk hy216;clear hy216;by_cases c12:t215.size+(strOfNums y216).size≤9223372036854775807
    ·rw[if_pos c12] at H;have c12b0:=eq_true c12;have c12b1:decide (t215.size+(strOfNums y216).size≤9223372036854775807)=true:=decide_eq_true c12
     try have c12b2:(9223372036854775807<t215.size+(strOfNums y216).size)=False:=eq_false (Nat.not_lt.2 c12)
     obtain rfl:=Option.some.inj H;go_enter Tryd.func43,Tryd.ntmps43
     try go_wp2
     replace HB:=qaj.mk (qar HB.out);refine start_ (n:=11) (S:=fun w'=>True) (ds:=[]) #[false,false,false,false,false,false,false,false,false,false,false] (by kernel_rfl) rfl rfl trivial (fun hHeld=>?_);refine with_tabW spec_l6Dec.tab7 spec_l6Dec.bits7 (fun HT_ HW_=>?_);generalize w.drew=w13 at HB hHeld ⊢;refine qaq (i:=0) (N:=some 18) (v:=?_) (a':=?_) #[true,false,false,false,false,false,false,false,false,false,false] rfl rfl (qan HT_.out (by kernel_rfl)) (fun _ _ _ h=>h) (Or.inl ⟨by rfl,?_⟩) ?_ ?_;rotate_left
     ·intro w';go_simp
      with_reducible rfl
     rotate_left
     ·simp only[Act.put,List.setIfInBounds_toArray,List.set_cons_zero,List.set_cons_succ,qak,qal];rfl
     refine qaq (i:=1) (N:=some 19) (v:=?_) (a':=?_) #[true,true,false,false,false,false,false,false,false,false,false] rfl rfl (qan HT_.out (by kernel_rfl)) (fun _ _ _ h=>h) (Or.inl ⟨by rfl,?_⟩) ?_ ?_;rotate_left
     ·intro w';go_simp
      with_reducible rfl
     rotate_left
     ·simp only[Act.put,List.setIfInBounds_toArray,List.set_cons_zero,List.set_cons_succ,qak,qal];rfl
     refine qaq (i:=3) (N:=some 21) (v:=?_) (a':=?_) #[true,true,false,true,false,false,false,false,false,false,false] rfl rfl (qan HT_.out (by kernel_rfl)) (fun _ _ _ h=>h) (Or.inl ⟨by rfl,?_⟩) ?_ ?_;rotate_left
     ·intro w';go_simp
      with_reducible rfl
     rotate_left
     ·simp only[Act.put,List.setIfInBounds_toArray,List.set_cons_zero,List.set_cons_succ,qak,qal];rfl
     refine qaq (i:=4) (N:=some 22) (v:=?_) (a':=?_) #[true,true,false,true,true,false,false,false,false,false,false] rfl rfl (qan HT_.out (by kernel_rfl)) (fun _ _ _ h=>h) (Or.inl ⟨by rfl,?_⟩) ?_ ?_;rotate_left
     ·intro w';go_simp
      with_reducible rfl
     rotate_left
     ·simp only[Act.put,List.setIfInBounds_toArray,List.set_cons_zero,List.set_cons_succ,qak,qal];rfl
     refine qaq (i:=5) (N:=some 23) (v:=?_) (a':=?_) #[true,true,false,true,true,true,false,false,false,false,false] rfl rfl (qan HT_.out (by kernel_rfl)) (fun _ _ _ h=>h) (Or.inl ⟨by rfl,?_⟩) ?_ ?_;rotate_left
     ·intro w';go_simp
      with_reducible rfl
     rotate_left
     ·simp only[Act.put,List.setIfInBounds_toArray,List.set_cons_zero,List.set_cons_succ,qak,qal];rfl
     refine qaq (i:=6) (N:=some 24) (v:=?_) (a':=?_) #[true,true,false,true,true,true,true,false,false,false,false] rfl rfl (qan HT_.out (by kernel_rfl)) (fun _ _ _ h=>h) (Or.inl ⟨by rfl,?_⟩) ?_ ?_;rotate_left
     ·intro w';go_simp
      with_reducible rfl
     rotate_left
     ·simp only[Act.put,List.setIfInBounds_toArray,List.set_cons_zero,List.set_cons_succ,qak,qal];rfl
     refine join_ (σ:=Value) 2 #[true,true,true,true,true,true,true,true,true,false,false] (fun s_=>[(20,.string t215),(25,s_),(26,.string (strOfNums y216))]) (fun s_ w'=>(Kd.R (Kd.int .u8) 5 w' w.heap.size (fun _=>True) s_ y216)∧(Below w.heap.size w w')) ?_ ?_;rotate_left
     ·intro hCont;refine two_ (i:=2) (j:=7) (Ni:=some 20) (Nj:=some 25) #[true,true,true,true,true,true,true,false,false,false,false] #[true,true,false,true,true,true,true,true,false,false,false] rfl rfl rfl rfl (two_of HT_.out (by kernel_rfl)) (by decide) (by decide) (fun K hK=>?_) (fun K hK=>?_)
      ·skip;refine goes_ Tryd.func43 (by kernel_rfl) rfl #[.int .i64 (wrap64 (Int.tdiv a0 10))] (by rfl) rfl rfl (by(try simp only[List.map_toArray,List.map_cons,List.map_nil]);first|done|rfl|(simp only[List.length_drop,List.length_take];rfl)) ?_
       with_reducible refine(ih k (by omega) (wrap64 (Int.tdiv a0 10)) t215 _ A11.out).mono ?_
       rintro e w14 ⟨rfl,hb⟩;refine⟨_,rfl,?_⟩;replace HB:=qaj.mk (qaa (za2 HB) hb);(try clear hb);(try clear hb2);(try clear hk);(try clear hi);refine hK.out _ _ trivial (fun hHeld=>?_);clear hK K;refine norm_ (a':=?_) ?_ ?_;rotate_left
       ·show Act.put _ (some 20) _=_;simp only[Act.put,List.setIfInBounds_toArray,List.set_cons_zero,List.set_cons_succ,qak,qal];rfl
       refine one_ (i:=7) (N:=some 25) #[true,true,true,true,true,true,true,true,false,false,false] rfl rfl (one_of HT_.out (by kernel_rfl)) (by decide) (fun K hK=>?_);refine Kd.R_lit_step (Kd.int .u8) _ 5 (by rfl) (N:=25) (by rfl) (xs:=([(wrap64 (48+(Int.tmod a0 10)))%256]:List Int)) (inner:=[.int .u8 ((wrap64 (48+(Int.tmod a0 10)))%256)]) (ok:=fun _=>True) (okp:=fun _=>True) (by first|(go_simp;done)|(go_simp;rfl)) ?hp (fun _ hk=>hk) trivial (Below.refl _ _) (Nat.le_refl _) (by simp) ?_;(case hp=>exact(Reps.one (show Kd.M (Kd.int .u8) _ _ _ ((wrap64 (48+(Int.tmod a0 10)))%256) [.int .u8 ((wrap64 (48+(Int.tmod a0 10)))%256)] from rfl) (Reps.none _ _)));intro v217 w15 ho16 hb hg_ hnew_;clear hg_ hnew_;(first|rw[←Ny216.out] at ho16|(simp only[Int.reduceToNat] at ho16;rw[←Ny216.out] at ho16));have HO218:=qaj.mk (Kd.R_lower ho16 (qam (za2 HB)));replace HB:=qaj.mk (qaa (za2 HB) hb);clear hb ho16;refine hK.out _ _ trivial (fun hHeld=>?_);clear hK K;refine norm_ (a':=?_) ?_ ?_;rotate_left
       ·show Act.put _ (some 25) _=_;simp only[Act.put,List.setIfInBounds_toArray,List.set_cons_zero,List.set_cons_succ,qak,qal];rfl
       refine one_ (i:=8) (N:=some 26) #[true,true,true,true,true,true,true,true,true,false,false] rfl rfl (one_of HT_.out (by kernel_rfl)) (by decide) (fun K hK=>?_);have hcv17:=own_string (P:=Tryd.prog) Tryd.underlying22 Tryd.underlying5 Tryd.underlying9 (Kd.own_of_R HO218.out);refine value_ (w1:=?_) (v:=?_) (by rfl) rfl ?_ ?_;rotate_left 2
       ·go_simp;constructor
        ·rfl
        ·rfl
       clear hcv17;refine hK.out _ _ trivial (fun hHeld=>?_);clear hK K;refine norm_ (a':=?_) ?_ ?_;rotate_left
       ·show Act.put _ (some 26) _=_;simp only[Act.put,List.setIfInBounds_toArray,List.set_cons_zero,List.set_cons_succ,qak,qal];rfl
       exact norm_ (by simp only[putAll,Act.put,List.setIfInBounds_toArray,List.set_cons_zero,List.set_cons_succ]) (hCont (v217) _ ⟨(za3 HO218),(za2 HB)⟩)
      ·skip;refine Kd.R_lit_step (Kd.int .u8) _ 5 (by rfl) (N:=25) (by rfl) (xs:=([(wrap64 (48+(Int.tmod a0 10)))%256]:List Int)) (inner:=[.int .u8 ((wrap64 (48+(Int.tmod a0 10)))%256)]) (ok:=fun _=>True) (okp:=fun _=>True) (by first|(go_simp;done)|(go_simp;rfl)) ?hp (fun _ hk=>hk) trivial (Below.refl _ _) (Nat.le_refl _) (by simp) ?_;(case hp=>exact(Reps.one (show Kd.M (Kd.int .u8) _ _ _ ((wrap64 (48+(Int.tmod a0 10)))%256) [.int .u8 ((wrap64 (48+(Int.tmod a0 10)))%256)] from rfl) (Reps.none _ _)));intro v217 w14 ho15 hb hg_ hnew_;clear hg_ hnew_;(first|rw[←Ny216.out] at ho15|(simp only[Int.reduceToNat] at ho15;rw[←Ny216.out] at ho15));have HO218:=qaj.mk (Kd.R_lower ho15 (qam (za2 HB)));replace HB:=qaj.mk (qaa (za2 HB) hb);clear hb ho15;refine hK.out _ _ trivial (fun hHeld=>?_);clear hK K;refine norm_ (a':=?_) ?_ ?_;rotate_left
       ·show Act.put _ (some 25) _=_;simp only[Act.put,List.setIfInBounds_toArray,List.set_cons_zero,List.set_cons_succ,qak,qal];rfl
       refine two_ (i:=2) (j:=8) (Ni:=some 20) (Nj:=some 26) #[true,true,true,true,true,true,true,true,false,false,false] #[true,true,false,true,true,true,true,true,true,false,false] rfl rfl rfl rfl (two_of HT_.out (by kernel_rfl)) (by decide) (by decide) (fun K hK=>?_) (fun K hK=>?_)
       ·skip;refine goes_ Tryd.func43 (by kernel_rfl) rfl #[.int .i64 (wrap64 (Int.tdiv a0 10))] (by rfl) rfl rfl (by(try simp only[List.map_toArray,List.map_cons,List.map_nil]);first|done|rfl|(simp only[List.length_drop,List.length_take];rfl)) ?_
        with_reducible refine(ih k (by omega) (wrap64 (Int.tdiv a0 10)) t215 _ A11.out).mono ?_
        rintro e w16 ⟨rfl,hb⟩;refine⟨_,rfl,?_⟩;replace HO218:=qaj.mk (Kd.R_below (za3 HO218) hb);replace HB:=qaj.mk (qaa (za2 HB) hb);(try clear hb);(try clear hb2);(try clear hk);(try clear hi);refine hK.out _ _ trivial (fun hHeld=>?_);clear hK K;refine norm_ (a':=?_) ?_ ?_;rotate_left
        ·show Act.put _ (some 20) _=_;simp only[Act.put,List.setIfInBounds_toArray,List.set_cons_zero,List.set_cons_succ,qak,qal];rfl
        refine one_ (i:=8) (N:=some 26) #[true,true,true,true,true,true,true,true,true,false,false] rfl rfl (one_of HT_.out (by kernel_rfl)) (by decide) (fun K hK=>?_);have hcv17:=own_string (P:=Tryd.prog) Tryd.underlying22 Tryd.underlying5 Tryd.underlying9 (Kd.own_of_R HO218.out);refine value_ (w1:=?_) (v:=?_) (by rfl) rfl ?_ ?_;rotate_left 2
        ·go_simp;constructor
         ·rfl
         ·rfl
        clear hcv17;refine hK.out _ _ trivial (fun hHeld=>?_);clear hK K;refine norm_ (a':=?_) ?_ ?_;rotate_left
        ·show Act.put _ (some 26) _=_;simp only[Act.put,List.setIfInBounds_toArray,List.set_cons_zero,List.set_cons_succ,qak,qal];rfl
        exact norm_ (by simp only[putAll,Act.put,List.setIfInBounds_toArray,List.set_cons_zero,List.set_cons_succ]) (hCont (v217) _ ⟨(za3 HO218),(za2 HB)⟩)
       ·skip;have hcv16:=own_string (P:=Tryd.prog) Tryd.underlying22 Tryd.underlying5 Tryd.underlying9 (Kd.own_of_R HO218.out);refine value_ (w1:=?_) (v:=?_) (by rfl) rfl ?_ ?_;rotate_left 2
        ·go_simp;constructor
         ·rfl
         ·rfl
        clear hcv16;refine hK.out _ _ trivial (fun hHeld=>?_);clear hK K;refine norm_ (a':=?_) ?_ ?_;rotate_left
        ·show Act.put _ (some 26) _=_;simp only[Act.put,List.setIfInBounds_toArray,List.set_cons_zero,List.set_cons_succ,qak,qal];rfl
        refine one_ (i:=2) (N:=some 20) #[true,true,true,true,true,true,true,true,true,false,false] rfl rfl (one_of HT_.out (by kernel_rfl)) (by decide) (fun K hK=>?_);refine goes_ Tryd.func43 (by kernel_rfl) rfl #[.int .i64 (wrap64 (Int.tdiv a0 10))] (by rfl) rfl rfl (by(try simp only[List.map_toArray,List.map_cons,List.map_nil]);first|done|rfl|(simp only[List.length_drop,List.length_take];rfl)) ?_
        with_reducible refine(ih k (by omega) (wrap64 (Int.tdiv a0 10)) t215 _ A11.out).mono ?_
        rintro e w17 ⟨rfl,hb⟩;refine⟨_,rfl,?_⟩;replace HO218:=qaj.mk (Kd.R_below (za3 HO218) hb);replace HB:=qaj.mk (qaa (za2 HB) hb);(try clear hb);(try clear hb2);(try clear hk);(try clear hi);refine hK.out _ _ trivial (fun hHeld=>?_);clear hK K;refine norm_ (a':=?_) ?_ ?_;rotate_left
        ·show Act.put _ (some 20) _=_;simp only[Act.put,List.setIfInBounds_toArray,List.set_cons_zero,List.set_cons_succ,qak,qal];rfl
        exact norm_ (by simp only[putAll,Act.put,List.setIfInBounds_toArray,List.set_cons_zero,List.set_cons_succ]) (hCont (v217) _ ⟨(za3 HO218),(za2 HB)⟩)
     rintro v217 w18 ⟨h0_,h1_⟩;have HO218:qaj (Kd.R (Kd.int .u8) 5 w18 w.heap.size (fun _=>True) v217 y216):=⟨h0_⟩;replace HB:qaj (Below w.heap.size w w18):=⟨h1_⟩;clear h0_ h1_;have hHeld:=trivial;refine norm_ (a':=?_) ?_ ?_;rotate_left
     ·simp only[putAll,Act.put,List.setIfInBounds_toArray,List.set_cons_zero,List.set_cons_succ];rfl
     refine qaq (i:=9) (N:=some 27) (v:=?_) (a':=?_) #[true,true,true,true,true,true,true,true,true,true,false] rfl rfl (qan HT_.out (by kernel_rfl)) (fun _ _ _ h=>h) (Or.inl ⟨by rfl,?_⟩) ?_ ?_;rotate_left
     ·intro w';go_simp
      with_reducible rfl
     rotate_left
     ·simp only[Act.put,List.setIfInBounds_toArray,List.set_cons_zero,List.set_cons_succ,qak,qal];rfl
     refine qaq (i:=10) (N:=some 2) (v:=?_) (a':=?_) #[true,true,true,true,true,true,true,true,true,true,true] rfl rfl (qan HT_.out (by kernel_rfl)) (fun _ _ _ h=>h) (Or.inl ⟨by rfl,?_⟩) ?_ ?_;rotate_left
     ·intro w';go_simp
      with_reducible rfl
     rotate_left
     ·simp only[Act.put,List.setIfInBounds_toArray,List.set_cons_zero,List.set_cons_succ,qak,qal];rfl
     refine done_ (done_of HT_.out (by kernel_rfl)) ?_
     try go_wp2
     go_ret;exact⟨za10,za2 HB⟩
    ·rw[if_neg c12] at H;exact absurd H (by simp)
end Go.Proofs.YtbcepmkifomifaaDoor.Print
