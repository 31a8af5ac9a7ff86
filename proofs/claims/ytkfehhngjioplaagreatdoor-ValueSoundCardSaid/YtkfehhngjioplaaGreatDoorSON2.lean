import Derived.KernelRfl
import Derived.Test.YtkfehhngjioplaaGreatDoorChecked
import Derived.ProofKit
import Derived.OpenShut
import Derived.LaidMore
import Derived.Lay
import Derived.Carry
import Derived.SevenTiedAt
import Derived.Stop.Joined
import Derived.Lib.LaidTab
import Derived.LaidSub
import Derived.Test.YtkfehhngjioplaaGreatDoorSOE3
import Derived.Test.YtkfehhngjioplaaGreatDoorSOG10
import Derived.Test.YtkfehhngjioplaaGreatDoorSOG7
import Derived.Test.YtkfehhngjioplaaGreatDoorSOG8
import Derived.Test.YtkfehhngjioplaaGreatDoorSOG9
import Derived.Test.YtkfehhngjioplaaGreatDoorSON1
set_option linter.unusedVariables false
set_option linter.unusedSimpArgs false
set_option linter.unusedSectionVars false
set_option maxRecDepth 100000
namespace Go.N
open Go.IntKind (i64)
open Go Go.Q Go.Rx
theorem number_l0(lf:Nat)(l:List UInt8)(hl:l.length≤1000000):∀ (k n i j a:Nat),i+k=l.length→k < n→(l.drop i).all isDig=true→a < 10 ^ j→j+k≤18→
  surveyorref01_number.l0 lf (bs l) n ((a:Nat):Int) ((i:Nat):Int)=some (((((l.drop i).foldl (fun a b=>a*10+dig b) a:Nat):Int),()),()):=by
 intro k
 induction k with
 | zero =>
  intro n i j a hi hn hd ha hj
  obtain⟨m,rfl⟩:=Nat.exists_eq_succ_of_ne_zero (show n≠0 by omega)
  rw[surveyorref01_number.l0,surveyorref01_number.r0,bs_size,decide_eq_false (by omega),brF,List.drop_of_length_le (by omega)]
  rfl
 | succ k ih =>
  intro n i j a hi hn hd ha hj
  obtain⟨m,rfl⟩:=Nat.exists_eq_succ_of_ne_zero (show n≠0 by omega)
  have hlt:i < l.length:=by omega
  rw[List.drop_eq_getElem_cons hlt,List.all_cons,Bool.and_eq_true]at hd
  have hb:=hd.1
  have hb':=hb
  unfold isDig at hb'
  simp only[decide_eq_true_eq]at hb'
  have p1:10 ^ (j+1)≤10 ^ 18:=Nat.pow_le_pow_right (by omega) (by omega)
  have p2:10 ^ (j+1)=10 ^ j*10:=Nat.pow_succ ..
  have p3:(10:Nat) ^ 18=1000000000000000000:=by decide
  have hdl:=dig_lt hb
  have e1:IntKind.u8.wrap (((l[i].toNat:Nat):Int)-48)=(dig l[i]:Int):=by
   rw[w8 (by omega) (by omega)];unfold dig;omega
  have e2:i64.wrap (((a:Nat):Int)*10)=((a*10:Nat):Int):=by rw[w64 (by omega) (by omega)];omega
  have e3:i64.wrap ((dig l[i]:Nat):Int)=((dig l[i]:Nat):Int):=w64 (by omega) (by omega)
  have e4:i64.wrap (((a*10:Nat):Int)+((dig l[i]:Nat):Int))=((a*10+dig l[i]:Nat):Int):=by rw[w64 (by omega) (by omega)];omega
  have e5:i64.wrap (((i:Nat):Int)+1)=((i+1:Nat):Int):=by rw[w64 (by omega) (by omega)];omega
  have hne:((((l[i]).toNat:Nat):Int) != 45)=true:=by
   rw[bne,u8_45,decide_eq_false (by intro e;rw[e]at hb';simp at hb')];rfl
  rw[surveyorref01_number.l0,surveyorref01_number.r0,bs_size,decide_eq_true (by omega),brT,sIdx_bs l _ i rfl hlt,bdS,hne,brT,bdS,e1,e2,e3,e4,e5,ih m (i+1) (j+1) _ (by omega) (by omega) hd.2 (by omega) (by omega)]
  rw[List.drop_eq_getElem_cons hlt,List.foldl_cons]
theorem number_ref(lf:Nat)(h3:200000≤lf){z:Int}(hz:sz z≤18):surveyorref01_number.f lf (bs (Lib.itoa z))=some (z,()):=by
 have hc:=can_itoa z
 have hp:=can_parts hc
 have hb:(body (Lib.itoa z)).length≤18:=hz
 have hl:=len_nlen (Lib.itoa z)
 have hnl:nlen (Lib.itoa z)≤18:=hz
 have hiv:=iv_itoa z
 have hdv:=dv_lt _ hp.1
 have p1:10 ^ (body (Lib.itoa z)).length≤10 ^ 18:=Nat.pow_le_pow_right (by omega) hb
 have p3:(10:Nat) ^ 18=1000000000000000000:=by decide
 rw[surveyorref01_number.f]
 by_cases hn:neg (Lib.itoa z)=true
 ·have hh:(Lib.itoa z).head? = some 45:=by unfold neg at hn;simpa using hn
  obtain⟨r,hr⟩:∃ r,Lib.itoa z=45::r:=by
   cases h:Lib.itoa z with
   | nil=>rw[h]at hh;simp at hh
   | cons b r=>rw[h]at hh;simp at hh;exact⟨r,by rw[hh]⟩
  have hbody:body (Lib.itoa z)=r:=by unfold body;rw[if_pos hh,hr];rfl
  rw[hbody]at hp hb hdv p1
  have st:surveyorref01_number.l0 lf (bs (Lib.itoa z)) ((lf+39)+1) 0 0=some ((((dv r:Nat):Int),()),()):=by
   have step:=number_l0 lf (Lib.itoa z) (by omega) r.length (lf+39) 1 0 0 (by rw[hr,List.length_cons];omega) (by omega) (by rw[hr];exact hp.1) (by decide) (by omega)
   rw[surveyorref01_number.l0,surveyorref01_number.r0,bs_size,decide_eq_true (by rw[hr,List.length_cons];omega),brT,sIdx_bs (Lib.itoa z) 0 0 rfl (by rw[hr];simp),bdS]
   have e45:((((Lib.itoa z)[0]'(by rw[hr];simp)).toNat:Nat):Int) != 45↔False:=by
    have:(Lib.itoa z)[0]'(by rw[hr];simp)=45:=by simp[hr]
    rw[this];decide
   rw[show(((((Lib.itoa z)[0]'(by rw[hr];simp)).toNat:Nat):Int) != 45)=false from by rw[Bool.eq_false_iff];exact fun h=>e45.1 h,brF,show i64.wrap (0+1)=((1:Nat):Int) from by decide]
   rw[show(0:Int)=((0:Nat):Int) from rfl,step]
   simp[hr,dv]
  rw[show lf+40=(lf+39)+1 from rfl,st,bdS,negative_f lf _ hp.2.2,bdS]
  simp only[hn,brT]
  unfold iv at hiv
  rw[if_pos hn,hbody]at hiv
  rw[w64 (by omega) (by omega)]
  congr 2;omega
 ·have hh:(Lib.itoa z).head?≠some 45:=by unfold neg at hn;simpa using hn
  have hbody:body (Lib.itoa z)=Lib.itoa z:=by unfold body;rw[if_neg hh]
  have st:=number_l0 lf (Lib.itoa z) (by omega) (Lib.itoa z).length (lf+40) 0 0 0 (by omega) (by omega) (by rw[List.drop_zero,←hbody];exact hp.1) (by decide) (by rw[←hbody];omega)
  rw[show((0:Nat):Int)=0 from rfl]at st
  rw[st,bdS,negative_f lf _ hp.2.2,bdS]
  simp only[hn,brF]
  unfold iv at hiv
  rw[if_neg hn,hbody]at hiv
  rw[List.drop_zero]
  exact congrArg (fun x:Int=>some (x,())) hiv
def D0(m:Nat):List UInt8:=if m=0 then []else D m
theorem D0_step{m:Nat}(h:m≠0):D0 m=D0 (m / 10)++[dch (m % 10)]:=by
 unfold D0
 rw[if_neg h]
 by_cases h10:m < 10
 ·rw[if_pos (by omega),List.nil_append]
  show Lib.decDigits m=_
  rw[dec_small h10,Nat.mod_eq_of_lt h10]
 ·rw[if_neg (by omega)]
  exact dec_big h10
theorem ten_digit(d:Nat)(h:d < 10):(([48,49,50,51,52,53,54,55,56,57]:List UInt8).drop d).take 1=[dch d]:=by
 have:∀ d:Fin 10,(([48,49,50,51,52,53,54,55,56,57]:List UInt8).drop d.val).take 1=[dch d.val]:=by decide +kernel
 exact this ⟨d,h⟩
theorem whole_l0(lf:Nat)(v0:Int):∀ (k n m:Nat) (v:Int) (acc:List UInt8),m < 10 ^ k→k < n→(v=(m:Int)∨v= -(m:Int))→m≤9223372036854775808→(v=(m:Int)→m≤9223372036854775807)→acc.length+k≤1000000→
  surveyorref01_Whole.l0 lf v0 n (bs acc) v=some ((bs (D0 m++acc),()),()):=by
 intro k
 induction k with
 | zero =>
  intro n m v acc hm hn hv _ _ _
  obtain⟨f,rfl⟩:=Nat.exists_eq_succ_of_ne_zero (show n≠0 by omega)
  obtain rfl:m=0:=by simpa using hm
  obtain rfl:v=0:=by omega
  rw[surveyorref01_Whole.l0,surveyorref01_Whole.r0,bne_self_eq_false,brF]
  rfl
 | succ k ih =>
  intro n m v acc hm hn hv hb hb2 hacc
  obtain⟨f,rfl⟩:=Nat.exists_eq_succ_of_ne_zero (show n≠0 by omega)
  by_cases h0:m=0
  ·subst h0
   obtain rfl:v=0:=by omega
   rw[surveyorref01_Whole.l0,surveyorref01_Whole.r0,bne_self_eq_false,brF]
   rfl
  have vn:v≠0:=by omega
  have p2:10 ^ (k+1)=10 ^ k*10:=Nat.pow_succ ..
  have et:Int.tmod v 10=((m % 10:Nat):Int)∨Int.tmod v 10= -((m % 10:Nat):Int):=by
   rcases hv with rfl | rfl
   ·left;rw[Int.tmod_eq_emod_of_nonneg (by omega)];omega
   ·right;rw[Int.neg_tmod,Int.tmod_eq_emod_of_nonneg (by omega)];omega
  have eq:(v=(m:Int)∧Int.tdiv v 10=((m / 10:Nat):Int))∨(v= -(m:Int)∧Int.tdiv v 10= -((m / 10:Nat):Int)):=by
   rcases hv with rfl | rfl
   ·left;exact⟨rfl,by rw[Int.tdiv_eq_ediv_of_nonneg (by omega)];omega⟩
   ·right;exact⟨rfl,by rw[Int.neg_tdiv,Int.tdiv_eq_ediv_of_nonneg (by omega)];omega⟩
  have e1:iRem v 10=some (Int.tmod v 10):=by unfold iRem;rw[if_neg (by decide)]
  have e2:iQuo .i64 v 10=some (Int.tdiv v 10):=by
   unfold iQuo;rw[if_neg (by decide)]
   congr 1
   apply w64<;>rcases eq with⟨_,e⟩ | ⟨_,e⟩<;>rw[e]<;>omega
  have e3:i64.wrap (0-Int.tmod v 10)=0-Int.tmod v 10:=by apply w64<;>rcases et with e | e<;>rw[e]<;>omega
  have e4:(if 0-Int.tmod v 10 > Int.tmod v 10 then 0-Int.tmod v 10 else Int.tmod v 10)=((m % 10:Nat):Int):=by
   rcases et with e | e<;>rw[e]<;>split<;>omega
  have e5:i64.wrap (((m % 10:Nat):Int)+1)=((m % 10+1:Nat):Int):=by rw[w64 (by omega) (by omega)];omega
  have lt10:m % 10 < 10:=Nat.mod_lt _ (by omega)
  rw[surveyorref01_Whole.l0,surveyorref01_Whole.r0,show(v != 0)=true by simpa using vn,brT,e1,bdS,bdS,e3,e4,e5,
   show(⟨#[48,49,50,51,52,53,54,55,56,57]⟩:ByteArray)=bs [48,49,50,51,52,53,54,55,56,57] from rfl,sCut_bs _ _ _ (m % 10) (m % 10+1) rfl rfl (by omega) (by simp;omega),bdS,
   Nat.add_sub_cancel_left,ten_digit _ lt10,sCat_bs _ _ (by simp;omega),bdS,e2,bdS,ih f (m / 10) _ _ (by omega) (by omega) (by rcases eq with⟨_,e⟩ | ⟨_,e⟩<;>rw[e]<;>omega) (by omega) (by omega) (by simp;omega),D0_step h0]
  simp
theorem whole_ref(lf:Nat)(h3:200000≤lf){z:Int}(h1: -9223372036854775808≤z)(h2:z≤9223372036854775807):surveyorref01_Whole.f lf z=some (bs (Lib.itoa z),()):=by
 have p19:(10:Nat) ^ 19=10000000000000000000:=by decide
 rw[surveyorref01_Whole.f]
 by_cases h0:z=0
 ·subst h0
  rw[BEq.rfl,brT]
  have i0:Lib.itoa 0=[48]:=by unfold Lib.itoa;rw[if_neg (by omega)];exact dec_zero
  rw[i0]
 ·rw[show(z==0)=false from beq_eq_false_iff_ne.2 h0,brF,show(⟨#[]⟩:ByteArray)=bs [] from rfl,
   whole_l0 lf z 19 (lf+40) z.natAbs z [] (by omega) (by omega) (by omega) (by omega) (by omega) (by simp),bdS]
  simp only[List.append_nil]
  have e0:D0 z.natAbs=D z.natAbs:=by unfold D0;rw[if_neg (by omega)]
  rw[e0]
  by_cases hn:z < 0
  ·have ln:(D z.natAbs).length≤19:=dec_len_le 18 _ (by omega)
   rw[decide_eq_true hn,brT,show(⟨#[45]⟩:ByteArray)=bs [45] from rfl,sCat_bs [45] _ (by simp;omega),bdS]
   unfold Lib.itoa
   rw[if_pos hn];rfl
  ·rw[decide_eq_false hn,brF]
   unfold Lib.itoa
   rw[if_neg hn,show z.natAbs=z.toNat by omega]
def bl(l:List Int):List UInt8:=l.reverse.map fun d=>dch d.toNat
theorem bl_snoc(l:List Int)(d:Int):bl (l++[d])=dch d.toNat::bl l:=by simp[bl]
theorem ld_bl{l:List Int}(h:Dg 10 l):ld (bl l)=l:=by
 unfold ld bl
 rw[←List.map_reverse,List.reverse_reverse,List.map_map]
 conv=>rhs;rw[←List.map_id l]
 apply List.map_congr_left
 intro d hd
 have:=h d hd
 simp only[Function.comp,id]
 rw[dig_dch (by omega)];omega
theorem bl_all{l:List Int}(h:Dg 10 l):(bl l).all isDig=true:=by
 rw[List.all_eq_true]
 intro b hb
 unfold bl at hb
 obtain⟨d,hd,rfl⟩:=List.mem_map.1 hb
 have:=h d (by simpa using hd)
 exact dch_isDig (by omega)
theorem bl_len(l:List Int):(bl l).length=l.length:=by simp[bl]
theorem bl_dec{l:List Int}(h:Dg 10 l)(ht:Tr l)(hn:l≠[]):bl l=D (lv 10 l).toNat:=by
 have hv:dv (bl l)=(lv 10 l).toNat:=by
  have:=lv_ld (bl l)
  rw[ld_bl h]at this
  omega
 rw[←hv]
 apply dec_of (bl_all h)
 ·intro e;apply hn;have:=bl_len l;rw[e]at this;exact List.length_eq_zero_iff.1 this.symm
 ·left
  obtain⟨m,x,rfl⟩:∃ m x,l=m++[x]:=⟨l.dropLast,l.getLast hn,(List.dropLast_concat_getLast hn).symm⟩
  have hx:=h x (by simp)
  have hx0:x≠0:=by intro e;subst e;simp[Tr]at ht
  unfold bl
  rw[List.reverse_append]
  simp only[List.reverse_singleton,List.singleton_append,List.map_cons,List.head?_cons,ne_eq,Option.some.injEq]
  intro e
  have:=congrArg UInt8.toNat e
  rw[dch_nat (by omega)]at this
  simp at this
  omega
theorem bytesS_snoc(acc:List UInt8)(d:Int)(h0:0≤d)(h1:d < 10):(acc.map fun b=>(b.toNat:Int))++[IntKind.u8.wrap (i64.wrap (48+d))]=(acc++[dch d.toNat]).map fun b=>(b.toNat:Int):=by
 rw[w64 (by omega) (by omega),w8 (by omega) (by omega),List.map_append]
 simp only[List.map_cons,List.map_nil]
 rw[dch_nat (by omega)]
 congr 2;omega
theorem made_l0(lf:Nat)(l q:List Int)(h:Dg 10 l)(hl:l.length≤1000000):∀ (k n:Nat) (acc:List UInt8),k≤l.length→k < n→acc.length+k≤1100000→
  surveyorref01_made.l0 lf l q n (((k:Nat):Int)-1) (acc.map fun b=>(b.toNat:Int))=some (((acc++bl (l.take k)).map fun b=>(b.toNat:Int),()),()):=by
 intro k
 induction k with
 | zero =>
  intro n acc hk hn ha
  obtain⟨m,rfl⟩:=Nat.exists_eq_succ_of_ne_zero (show n≠0 by omega)
  rw[surveyorref01_made.l0,surveyorref01_made.r0,decide_eq_false (by omega),brF]
  simp[bl]
 | succ k ih =>
  intro n acc hk hn ha
  obtain⟨m,rfl⟩:=Nat.exists_eq_succ_of_ne_zero (show n≠0 by omega)
  have hkl:k < l.length:=by omega
  have d:=h.at k hkl
  rw[surveyorref01_made.l0,surveyorref01_made.r0,show((k+1:Nat):Int)-1=((k:Nat):Int) by omega,decide_eq_true (by omega),brT,idxL_nat _ _ hkl,bdS,apL_ok _ _ _ (by decide) (by simp;omega),bdS,w64 (n:=((k:Nat):Int)-1) (by omega) (by omega),
   bytesS_snoc acc _ d.1 d.2,ih m _ (by omega) (by omega) (by simp;omega)]
  rw[←List.take_append_getElem hkl,bl_snoc]
  simp
theorem made_l1(lf:Nat)(l:List Int)(h:Dg 10 l)(hl:l.length≤1000000):∀ (k n:Nat) (acc:List UInt8),k≤l.length→k < n→acc.length+k≤1100000→
  surveyorref01_made.l1 lf l n (((k:Nat):Int)-1) (acc.map fun b=>(b.toNat:Int))=some (((acc++bl (l.take k)).map fun b=>(b.toNat:Int),()),()):=by
 intro k
 induction k with
 | zero =>
  intro n acc hk hn ha
  obtain⟨m,rfl⟩:=Nat.exists_eq_succ_of_ne_zero (show n≠0 by omega)
  rw[surveyorref01_made.l1,surveyorref01_made.r1,decide_eq_false (by omega),brF]
  simp[bl]
 | succ k ih =>
  intro n acc hk hn ha
  obtain⟨m,rfl⟩:=Nat.exists_eq_succ_of_ne_zero (show n≠0 by omega)
  have hkl:k < l.length:=by omega
  have d:=h.at k hkl
  rw[surveyorref01_made.l1,surveyorref01_made.r1,show((k+1:Nat):Int)-1=((k:Nat):Int) by omega,decide_eq_true (by omega),brT,idxL_nat _ _ hkl,bdS,apL_ok _ _ _ (by decide) (by simp;omega),bdS,w64 (n:=((k:Nat):Int)-1) (by omega) (by omega),
   bytesS_snoc acc _ d.1 d.2,ih m _ (by omega) (by omega) (by simp;omega)]
  rw[←List.take_append_getElem hkl,bl_snoc]
  simp
theorem made_ref(lf:Nat)(h3:200000≤lf){l:List Int}(h:Dg 10 l)(hl:l.length≤100000)(b:Bool):surveyorref01_made.f lf l b=some (bs (Lib.itoa (if b=true then -lv 10 l else lv 10 l)),()):=by
 have hd:=dg_tr h
 have ht:=tr_tr l
 have hv:=lv_tr 10 l
 have hlen:=tr_len l
 rw[surveyorref01_made.f,cut_f lf l hl h3,bdS]
 simp only
 by_cases h0:tr l=[]
 ·rw[h0]at hv
  have v0:lv 10 l=0:=by rw[←hv];rfl
  have i0:Lib.itoa 0=[48]:=by unfold Lib.itoa;rw[if_neg (by omega)];exact dec_zero
  rw[h0,show((([]:List Int).length:Nat):Int)==0 from rfl,brT,v0]
  cases b<;>simp[i0]
 ·have l0:0 < (tr l).length:=List.length_pos_iff.2 h0
  have vp:=lv_pos (B:=10) (by decide) hd ht h0
  have bd':=bl_dec hd ht h0
  rw[hv]at vp bd'
  rw[show((((tr l).length:Nat):Int)==0)=false from beq_eq_false_iff_ne.2 (by omega),brF,w64 (by omega) (by omega)]
  cases b with
  | true =>
   have:=made_l0 lf (tr l) [45] hd (by omega) (tr l).length (lf+40) [45] (Nat.le_refl _) (by omega) (by simp;omega)
   rw[show([45]:List UInt8).map (fun b=>(b.toNat:Int))=[45] from rfl]at this
   rw[brT,apL_ok _ _ _ (by decide) (by simp),bdS,List.nil_append,this,bdS,if_pos trivial,bdS,bytesS_map,List.take_length,bd',if_pos rfl]
   unfold Lib.itoa
   rw[if_pos (by omega),show(-lv 10 l).natAbs=(lv 10 l).toNat by omega]
   rfl
  | false =>
   have:=made_l1 lf (tr l) hd (by omega) (tr l).length (lf+40) [] (Nat.le_refl _) (by omega) (by simp;omega)
   rw[show([]:List UInt8).map (fun b=>(b.toNat:Int))=[] from rfl]at this
   rw[brF,this,bdS,if_pos trivial,bdS,bytesS_map,List.take_length,List.nil_append,bd',if_neg (by simp)]
   unfold Lib.itoa
   rw[if_neg (by omega)]
theorem at_ref(lf:Nat)(l:List Int)(i:Nat):surveyorref01_at.f lf l ((i:Nat):Int)=some (l.getD i 0,()):=by
 rw[surveyorref01_at.f]
 by_cases h:i < l.length
 ·rw[decide_eq_true (by omega),brT,idxL_nat _ _ h,bdS,getD_lt _ _ h]
 ·rw[decide_eq_false (by omega),brF,getD_ge _ _ h]
theorem rplus_l0(lf:Nat)(xs ys:List Int)(N:Nat)(hx:Dg 10 xs)(hy:Dg 10 ys)(hN:N=max xs.length ys.length+1)(hb:N≤1000000):∀ (k n i:Nat) (c:Int) (out:List Int),i+k=N→out.length=i→0≤c→c≤1→k < n→
  surveyorref01_plus.l0 lf xs ys n c (i:Nat) out=some ((out++addL 10 (xs.drop i) (ys.drop i) c k,()),()):=by
 have eN:i64.wrap ((if((ys.length:Nat):Int) >((xs.length:Nat):Int)then((ys.length:Nat):Int)else((xs.length:Nat):Int))+1)=((N:Nat):Int):=by
  have e:(if((ys.length:Nat):Int) >((xs.length:Nat):Int)then((ys.length:Nat):Int)else((xs.length:Nat):Int))=((max xs.length ys.length:Nat):Int):=by split<;>omega
  rw[e,w64 (by omega) (by omega)];omega
 intro k
 induction k with
 | zero =>
  intro n i c out hi ho h0 h1 hn
  obtain⟨m,rfl⟩:=Nat.exists_eq_succ_of_ne_zero (show n≠0 by omega)
  rw[surveyorref01_plus.l0,surveyorref01_plus.r0,eN,decide_eq_false (by omega),brF,addL,List.append_nil]
 | succ k ih =>
  intro n i c out hi ho h0 h1 hn
  obtain⟨m,rfl⟩:=Nat.exists_eq_succ_of_ne_zero (show n≠0 by omega)
  have ex:=hx.getD (by decide) i
  have ey:=hy.getD (by decide) i
  obtain⟨s,hs⟩:∃ s,s=c+xs.getD i 0+ys.getD i 0:=⟨_,rfl⟩
  have s0:0≤s:=by omega
  have e1:i64.wrap (xs.getD i 0+ys.getD i 0)=xs.getD i 0+ys.getD i 0:=w64 (by omega) (by omega)
  have e2:i64.wrap (c+(xs.getD i 0+ys.getD i 0))=s:=by rw[w64 (by omega) (by omega)];omega
  have e5:i64.wrap (((i:Nat):Int)+1)=((i+1:Nat):Int):=by rw[w64 (by omega) (by omega)];omega
  rw[surveyorref01_plus.l0,surveyorref01_plus.r0,eN,decide_eq_true (by omega),brT,at_ref,bdS,at_ref,bdS,e1,e2,iRem_nn s0 (by decide),bdS,apL_ok _ _ _ (by decide) (by simp;omega),bdS,iQuo_nn s0 (by decide) (by omega),bdS,e5,
   ih m (i+1) _ _ (by omega) (by simp;omega) (Int.ediv_nonneg s0 (by decide)) (by omega) (by omega),addL,headD_drop,headD_drop,tail_drop',tail_drop',←hs]
  simp
theorem rplus_ref(lf:Nat)(h3:200000≤lf){xs ys:List Int}(hx:Dg 10 xs)(hy:Dg 10 ys)(h1:xs.length≤90000)(h2:ys.length≤90000):
  ∃ l,surveyorref01_plus.f lf xs ys=some (l,())∧Dg 10 l∧Tr l∧l.length≤max xs.length ys.length+1∧lv 10 l=lv 10 xs+lv 10 ys:=by
 obtain⟨N,hN⟩:∃ N,N=max xs.length ys.length+1:=⟨_,rfl⟩
 refine⟨tr (addL 10 xs ys 0 N),?_,dg_tr (dg_addL (by decide) _ _ _ _),tr_tr _,?_,?_⟩
 ·have:=rplus_l0 lf xs ys N hx hy hN (by omega) N (lf+40) 0 0 [] (by omega) rfl (by omega) (by omega) (by omega)
  rw[show((0:Nat):Int)=0 from rfl]at this
  rw[surveyorref01_plus.f,this,bdS,List.drop_zero,List.drop_zero,List.nil_append,cut_f lf _ (by rw[addL_len];omega) h3,bdS]
 ·have:=tr_len (addL 10 xs ys 0 N)
  rw[addL_len]at this
  omega
 ·rw[lv_tr,lv_addL (by decide),Int.zero_add]
  have a1:=lv_lt (B:=10) (by decide) hx
  have a2:=lv_lt (B:=10) (by decide) hy
  have a3:=pow_mono' (B:=10) (by decide) (show xs.length≤max xs.length ys.length by omega)
  have a3':=pow_mono' (B:=10) (by decide) (show ys.length≤max xs.length ys.length by omega)
  have a4:=lv_nonneg (B:=10) (by decide) hx
  have a5:=lv_nonneg (B:=10) (by decide) hy
  apply Int.emod_eq_of_lt (by omega)
  rw[hN,Int.pow_succ]
  omega
theorem rminus_l0(lf:Nat)(xs ys:List Int)(hx:Dg 10 xs)(hy:Dg 10 ys)(hb:xs.length≤1000000):∀ (k n i:Nat) (c:Int) (out:List Int),i+k=xs.length→out.length=i→0≤c→c≤1→k < n→
  surveyorref01_minus.l0 lf xs ys n c (i:Nat) out=some ((out++subL 10 (xs.drop i) (ys.drop i) c k,()),()):=by
 intro k
 induction k with
 | zero =>
  intro n i c out hi ho h0 h1 hn
  obtain⟨m,rfl⟩:=Nat.exists_eq_succ_of_ne_zero (show n≠0 by omega)
  rw[surveyorref01_minus.l0,surveyorref01_minus.r0,decide_eq_false (by omega),brF,subL,List.append_nil]
 | succ k ih =>
  intro n i c out hi ho h0 h1 hn
  obtain⟨m,rfl⟩:=Nat.exists_eq_succ_of_ne_zero (show n≠0 by omega)
  have hil:i < xs.length:=by omega
  have ex:=hx.at i hil
  have ey:=hy.getD (by decide) i
  obtain⟨d,hd⟩:∃ d,d=xs[i]-c-ys.getD i 0:=⟨_,rfl⟩
  have e1:i64.wrap (xs[i]-ys.getD i 0)=xs[i]-ys.getD i 0:=w64 (by omega) (by omega)
  have e2:i64.wrap (xs[i]-ys.getD i 0-c)=d:=by rw[w64 (by omega) (by omega)];omega
  have e5:i64.wrap (((i:Nat):Int)+1)=((i+1:Nat):Int):=by rw[w64 (by omega) (by omega)];omega
  have go:∀ (v c':Int),v=d % 10→c'= -(d / 10)→0≤c'→c'≤1→surveyorref01_minus.l0 lf xs ys m c' ((i+1:Nat):Int) (out++[v])=some ((out++subL 10 (xs.drop i) (ys.drop i) c (k+1),()),()):=by
   intro v c' hv hc c0 c1
   rw[ih m (i+1) c' _ (by omega) (by simp;omega) c0 c1 (by omega),subL,headD_drop,headD_drop,tail_drop',tail_drop',getD_lt _ _ hil,←hd,hv,hc]
   simp
  rw[surveyorref01_minus.l0,surveyorref01_minus.r0,decide_eq_true (by omega),brT,idxL_nat _ _ hil,bdS,at_ref,bdS,e1,e2]
  by_cases hneg:d < 0
  ·rw[decide_eq_true hneg,brT,apL_ok _ _ _ (by decide) (by simp;omega),bdS,w64 (n:=d+10) (by omega) (by omega),e5]
   exact go _ 1 (by omega) (by omega) (by omega) (by omega)
  ·rw[decide_eq_false hneg,brF,apL_ok _ _ _ (by decide) (by simp;omega),bdS,e5]
   exact go _ 0 (by omega) (by omega) (by omega) (by omega)
theorem rminus_ref(lf:Nat)(h3:200000≤lf){xs ys:List Int}(hx:Dg 10 xs)(hy:Dg 10 ys)(h1:xs.length≤90000)(hle:lv 10 ys≤lv 10 xs):
  ∃ l,surveyorref01_minus.f lf xs ys=some (l,())∧Dg 10 l∧Tr l∧l.length≤xs.length∧lv 10 l=lv 10 xs-lv 10 ys:=by
 refine⟨tr (subL 10 xs ys 0 xs.length),?_,dg_tr (dg_subL (by decide) _ _ _ _),tr_tr _,?_,?_⟩
 ·have:=rminus_l0 lf xs ys hx hy (by omega) xs.length (lf+40) 0 0 [] (by omega) rfl (by omega) (by omega) (by omega)
  rw[show((0:Nat):Int)=0 from rfl]at this
  rw[surveyorref01_minus.f,this,bdS,List.drop_zero,List.drop_zero,List.nil_append,cut_f lf _ (by rw[subL_len];omega) h3,bdS]
 ·have:=tr_len (subL 10 xs ys 0 xs.length)
  rw[subL_len]at this
  exact this
 ·rw[lv_tr,lv_subL (by decide)]
  have a1:=lv_lt (B:=10) (by decide) hx
  have a5:=lv_nonneg (B:=10) (by decide) hy
  rw[show lv 10 xs-0-lv 10 ys=lv 10 xs-lv 10 ys by omega]
  exact Int.emod_eq_of_lt (by omega) (by omega)
theorem ld_body{z:Int}:Dg 10 (ld (body (Lib.itoa z)))∧lv 10 (ld (body (Lib.itoa z)))=(z.natAbs:Int)∧(ld (body (Lib.itoa z))).length=sz z:=by
 refine⟨ld_dg (can_parts (can_itoa z)).1,?_,by rw[ld_len];rfl⟩
 rw[lv_ld]
 have h:=iv_itoa z
 unfold iv at h
 split at h<;>omega
theorem neg_itoa(z:Int):neg (Lib.itoa z)=decide (z < 0):=by
 by_cases h:z < 0
 ·rw[decide_eq_true h];exact(iv_neg (can_itoa z)).1 (by rw[iv_itoa];exact h)
 ·rw[decide_eq_false h,Bool.eq_false_iff]
  intro e;have:=(iv_neg (can_itoa z)).2 e;rw[iv_itoa]at this;omega
theorem len_sz(z:Int):(Lib.itoa z).length≤sz z+1:=len_nlen _
theorem short_ref(lf:Nat){z:Int}(hz:sz z≤50000)(n:Int):surveyorref01_short.f lf (bs (Lib.itoa z)) n=some (decide ((sz z:Int)≤n),()):=by
 have:=len_sz z
 rw[surveyorref01_short.f,rDigits_f lf _ (itoa_ne z) (by omega),bdS]
 rfl
theorem sz_abs{z:Int}{k:Nat}(h:sz z≤k)(hk:1≤k):(z.natAbs:Int) < 10 ^ k:=by
 have a:=ld_body (z:=z)
 have b:=lv_lt (B:=10) (by decide) a.1
 rw[a.2.1,a.2.2]at b
 have:=pow_mono' (B:=10) (by decide) h
 omega
theorem long_sum(lf:Nat)(h3:200000≤lf){x y:Int}(hx:sz x≤50000)(hy:sz y≤50000):
    (bd (surveyorref01_digits.f lf (bs (Lib.itoa x))) fun r6 =>
 bd (surveyorref01_digits.f lf (bs (Lib.itoa y))) fun r7 =>
 bd (surveyorref01_Negative.f lf (bs (Lib.itoa x))) fun r8 =>
 bd (surveyorref01_Negative.f lf (bs (Lib.itoa y))) fun r9 =>
 br (r8.1==r9.1) (
 bd (surveyorref01_plus.f lf r6.1 r7.1) fun r10 =>
 bd (surveyorref01_Negative.f lf (bs (Lib.itoa x))) fun r11 =>
 bd (surveyorref01_made.f lf r10.1 r11.1) fun r12 =>
 some (r12.1,())) (
 bd (surveyorref01_cut.f lf r6.1) fun r13 =>
 bd (surveyorref01_cut.f lf r7.1) fun r14 =>
 bd (surveyorref01_order.f lf r13.1 r14.1) fun r15 =>
 br (decide (r15.1≥0)) (
 bd (surveyorref01_minus.f lf r6.1 r7.1) fun r16 =>
 bd (surveyorref01_Negative.f lf (bs (Lib.itoa x))) fun r17 =>
 bd (surveyorref01_made.f lf r16.1 r17.1) fun r18 =>
 some (r18.1,())) (
 bd (surveyorref01_minus.f lf r7.1 r6.1) fun r19 =>
 bd (surveyorref01_Negative.f lf (bs (Lib.itoa y))) fun r20 =>
 bd (surveyorref01_made.f lf r19.1 r20.1) fun r21 =>
 some (r21.1,()))))=some (bs (Lib.itoa (x+y)),()):=by
  have a:=ld_body (z:=x)
  have b:=ld_body (z:=y)
  have lx:=len_sz x
  have ly:=len_sz y
  rw[digits_ref lf _ (can_itoa x) (by omega) h3,bdS,digits_ref lf _ (can_itoa y) (by omega) h3,bdS,negative_f lf _ (itoa_ne x),bdS,negative_f lf _ (itoa_ne y),bdS]
  simp only[neg_itoa]
  by_cases hs:decide (x < 0)=decide (y < 0)
  · rw[beq_iff_eq.2 hs,brT]
    obtain⟨l,e,d1,d2,d3,d4⟩:=rplus_ref lf h3 a.1 b.1 (by omega) (by omega)
    rw[e,bdS]
    simp only[bdS]
    rw[made_ref lf h3 d1 (by omega),bdS,d4,a.2.1,b.2.1]
    refine congrArg (fun z:Int=>some (bs (Lib.itoa z),())) ?_
    have hs':(x < 0↔y < 0):=by simpa using hs
    by_cases hx0:x < 0
    · have:=hs'.1 hx0
      rw[decide_eq_true hx0,if_pos rfl];omega
    · have:¬y < 0:=fun e=>hx0 (hs'.2 e)
      rw[decide_eq_false hx0,if_neg (by simp)];omega
  · rw[beq_eq_false_iff_ne.2 hs,brF,cut_f lf _ (by omega) h3,bdS,cut_f lf _ (by omega) h3,bdS]
    simp only
    rw[rorder_f lf _ _ (dg_tr a.1) (dg_tr b.1) (tr_tr _) (tr_tr _) (by have:=tr_len (ld (body (Lib.itoa x)));omega) (by have:=tr_len (ld (body (Lib.itoa y)));omega) h3,bdS,lv_tr,lv_tr,a.2.1,b.2.1]
    simp only
    have hs':¬(x < 0↔y < 0):=by simpa using hs
    by_cases hc:(x.natAbs:Int)-(y.natAbs:Int) < 0
    · rw[decide_eq_false (by unfold sgn;rw[if_pos hc];decide),brF]
      obtain⟨l,e,d1,d2,d3,d4⟩:=rminus_ref lf h3 b.1 a.1 (by omega) (by rw[a.2.1,b.2.1];omega)
      rw[e,bdS]
      simp only[bdS]
      rw[made_ref lf h3 d1 (by omega),bdS,d4,a.2.1,b.2.1]
      refine congrArg (fun z:Int=>some (bs (Lib.itoa z),())) ?_
      by_cases hy0:y < 0
      · rw[decide_eq_true hy0,if_pos rfl];omega
      · rw[decide_eq_false hy0,if_neg (by simp)];omega
    · rw[decide_eq_true (by unfold sgn;rw[if_neg hc];split<;>decide),brT]
      obtain⟨l,e,d1,d2,d3,d4⟩:=rminus_ref lf h3 a.1 b.1 (by omega) (by rw[a.2.1,b.2.1];omega)
      rw[e,bdS]
      simp only[bdS]
      rw[made_ref lf h3 d1 (by omega),bdS,d4,a.2.1,b.2.1]
      refine congrArg (fun z:Int=>some (bs (Lib.itoa z),())) ?_
      by_cases hx0:x < 0
      · rw[decide_eq_true hx0,if_pos rfl];omega
      · rw[decide_eq_false hx0,if_neg (by simp)];omega
theorem sum_ref(lf:Nat)(h3:200000≤lf){x y:Int}(hx:sz x≤50000)(hy:sz y≤50000):surveyorref01_Sum.f lf (bs (Lib.itoa x)) (bs (Lib.itoa y))=some (bs (Lib.itoa (x+y)),()):=by
 rw[surveyorref01_Sum.f,short_ref lf hx,bdS]
 simp only
 by_cases c1:(sz x:Int)≤17
 ·rw[decide_eq_true c1,brT,short_ref lf hy,bdS]
  simp only
  by_cases c2:(sz y:Int)≤17
  ·have a:=sz_abs (z:=x) (k:=17) (by omega) (by omega)
   have b:=sz_abs (z:=y) (k:=17) (by omega) (by omega)
   have p:(10:Int) ^ 17=100000000000000000:=by decide
   rw[decide_eq_true c2,brT,number_ref lf h3 (by omega),bdS,number_ref lf h3 (by omega),bdS]
   simp only
   rw[w64 (by omega) (by omega),whole_ref lf h3 (by omega) (by omega),bdS]
  ·rw[decide_eq_false c2,brF]
   exact long_sum lf h3 hx hy
 ·rw[decide_eq_false c1,brF]
  exact long_sum lf h3 hx hy
theorem sz_neg(z:Int):sz (-z)=sz z:=by rw[←dlen_sz,←dlen_sz,Int.natAbs_neg]
theorem negatedL(lf:Nat){z:Int}(hz:sz z≤50000):surveyorref01_Negated.f lf (bs (Lib.itoa z))=some (bs (Lib.itoa (-z)),()):=by
 have hl:=len_sz z
 rw[surveyorref01_Negated.f,show(⟨#[48]⟩:ByteArray)=bs [48] from rfl,beq_bs]
 have i0:Lib.itoa 0=[48]:=by unfold Lib.itoa;rw[if_neg (by omega)];exact dec_zero
 by_cases h0:z=0
 ·subst h0
  rw[decide_eq_true i0,brT];rfl
 ·have hne:Lib.itoa z≠[48]:=fun e=>h0 (itoa_inj (e.trans i0.symm))
  rw[decide_eq_false hne,brF,negative_f lf _ (itoa_ne z),bdS]
  simp only
  by_cases hn:z < 0
  ·have e:Lib.itoa z=45::D z.natAbs:=by unfold Lib.itoa;rw[if_pos hn]
   have e':Lib.itoa (-z)=D z.natAbs:=by unfold Lib.itoa;rw[if_neg (by omega)];congr 1;omega
   have hng:neg (Lib.itoa z)=true:=by rw[e];rfl
   rw[hng,brT,e,e',sCut_from (45::D z.natAbs) 1 1 rfl (by simp),bdS]
   rfl
  ·have e:Lib.itoa z=D z.toNat:=by unfold Lib.itoa;rw[if_neg hn]
   have e':Lib.itoa (-z)=45::D z.toNat:=by unfold Lib.itoa;rw[if_pos (by omega)];congr 2;omega
   have hng:neg (Lib.itoa z)=false:=by rw[e];unfold neg;exact decide_eq_false (dec_no45 _)
   rw[hng,brF,e',show(⟨#[45]⟩:ByteArray)=bs [45] from rfl,sCat_bs [45] _ (by simp;omega),bdS,e]
   rfl
theorem diff_ref(lf:Nat)(h3:200000≤lf){x y:Int}(hx:sz x≤50000)(hy:sz y≤50000):surveyorref01_Diff.f lf (bs (Lib.itoa x)) (bs (Lib.itoa y))=some (bs (Lib.itoa (x-y)),()):=by
 rw[surveyorref01_Diff.f,negatedL lf hy,bdS,sum_ref lf h3 hx (by rw[sz_neg];exact hy),bdS,←Int.sub_eq_add_neg]
theorem product_ref(lf:Nat)(h3:200000≤lf){x y:Int}(hx:sz x≤40000)(hy:sz y≤40000):surveyorref01_Product.f lf (bs (Lib.itoa x)) (bs (Lib.itoa y))=some (bs (Lib.itoa (x*y)),()):=by
 have lx:=len_sz x
 have ly:=len_sz y
 rw[surveyorref01_Product.f,rDigits_f lf _ (itoa_ne x) (by omega),bdS,rDigits_f lf _ (itoa_ne y) (by omega),bdS]
 simp only
 rw[show nlen (Lib.itoa x)=sz x from rfl,show nlen (Lib.itoa y)=sz y from rfl,w64 (by omega) (by omega)]
 by_cases c:(sz x:Int)+(sz y:Int)≤18
 ·have s1:1≤sz x:=by
   have:=(can_parts (can_itoa x)).2.1
   exact List.length_pos_iff.2 this
  have s2:1≤sz y:=by
   have:=(can_parts (can_itoa y)).2.1
   exact List.length_pos_iff.2 this
  have a:=sz_abs (z:=x) (k:=sz x) (Nat.le_refl _) s1
  have b:=sz_abs (z:=y) (k:=sz y) (Nat.le_refl _) s2
  have p:(10:Int) ^ 18=1000000000000000000:=by decide
  have m1:(x*y).natAbs≤1000000000000000000:=by
   rw[Int.natAbs_mul]
   have h1:((x.natAbs:Int))*((y.natAbs:Int))≤10 ^ sz x*10 ^ sz y:=Int.mul_le_mul (by omega) (by omega) (by omega) (by omega)
   rw[←Int.pow_add]at h1
   have h2:=pow_mono' (B:=10) (by decide) (show sz x+sz y≤18 by omega)
   rw[←Int.natCast_mul]at h1
   omega
  rw[decide_eq_true c,brT,number_ref lf h3 (by omega),bdS,number_ref lf h3 (by omega),bdS]
  simp only
  rw[w64 (by omega) (by omega),whole_ref lf h3 (by omega) (by omega),bdS]
 ·have a:=ld_body (z:=x)
  have b:=ld_body (z:=y)
  rw[decide_eq_false c,brF,digits_ref lf _ (can_itoa x) (by omega) h3,bdS,digits_ref lf _ (can_itoa y) (by omega) h3,bdS]
  simp only
  obtain⟨r,e,d1,d2,d3⟩:=rtimes_f lf _ _ a.1 b.1 (by omega) (by omega) h3
  rw[e,bdS,negative_f lf _ (itoa_ne x),bdS,negative_f lf _ (itoa_ne y),bdS]
  simp only
  rw[made_ref lf h3 d1 (by omega),bdS,d3,a.2.1,b.2.1]
  refine congrArg (fun z:Int=>some (bs (Lib.itoa z),())) ?_
  rw[neg_itoa,neg_itoa]
  have hm:=Int.natAbs_mul x y
  have hm':(((x*y).natAbs:Nat):Int)=(x.natAbs:Int)*(y.natAbs:Int):=by rw[hm,Int.natCast_mul]
  rw[←hm']
  by_cases hx0:x < 0
  ·rw[decide_eq_true hx0]
   by_cases hy0:y < 0
   ·have:=Int.mul_pos_of_neg_of_neg hx0 hy0
    rw[decide_eq_true hy0];simp;omega
   ·have:=Int.mul_nonpos_of_nonpos_of_nonneg (show x≤0 by omega) (show 0≤y by omega)
    rw[decide_eq_false hy0];simp;omega
  ·rw[decide_eq_false hx0]
   by_cases hy0:y < 0
   ·have:=Int.mul_nonpos_of_nonneg_of_nonpos (show 0≤x by omega) (show y≤0 by omega)
    rw[decide_eq_true hy0];simp;omega
   ·have:=Int.mul_nonneg (show 0≤x by omega) (show 0≤y by omega)
    rw[decide_eq_false hy0];simp;omega
end Go.N
namespace Go.N
open Go.IntKind (i64)
open Go Go.Q Go.Rx
theorem split_ring(A V P q0 R r1 B:Int)(h:r1=R-V):V*(A+P*(q0+1-q0))+P*r1=V*A+P*R:=by subst h;grind
theorem split_l1(lf:Nat)(h3:200000≤lf)(a v5 v6 ys:List Int)(i:Nat)(hy:Dg 10 ys)(ty:Tr ys)(hyb:ys.length≤60000):∀ (c n:Nat) (rest q:List Int),c < n→Dg 10 rest→Tr rest→rest.length≤80000→lv 10 rest < (c+1)*lv 10 ys→Dg 10 q→(hi:i < q.length)→q[i]+c≤9→
  ∃ rest' q',surveyorref01_split.l1 lf a ys (i:Nat) v5 v6 n rest q=some ((rest',q',()),())∧Dg 10 rest'∧Tr rest'∧rest'.length≤rest.length∧lv 10 rest' < lv 10 ys∧Dg 10 q'∧q'.length=q.length∧
   lv 10 ys*lv 10 q'+10 ^ i*lv 10 rest'=lv 10 ys*lv 10 q+10 ^ i*lv 10 rest∧∀ p,p≠i→q'[p]? = q[p]? := by
 intro c
 induction c with
 | zero =>
  intro n rest q hn hr tr' hl hlt hq hi hc
  obtain⟨m,rfl⟩:=Nat.exists_eq_succ_of_ne_zero (show n≠0 by omega)
  have lt:lv 10 rest < lv 10 ys:=by simpa using hlt
  refine⟨rest,q,?_,hr,tr',Nat.le_refl _,lt,hq,rfl,rfl,fun p _=>rfl⟩
  rw[surveyorref01_split.l1,surveyorref01_split.r1,rorder_f lf rest ys hr hy tr' ty (by omega) (by omega) h3,bdS,decide_eq_false (by unfold sgn;rw[if_pos (by omega)];decide),brF]
 | succ c ih =>
  intro n rest q hn hr tr' hl hlt hq hi hc
  obtain⟨m,rfl⟩:=Nat.exists_eq_succ_of_ne_zero (show n≠0 by omega)
  rw[surveyorref01_split.l1,surveyorref01_split.r1,rorder_f lf rest ys hr hy tr' ty (by omega) (by omega) h3,bdS]
  by_cases lt:lv 10 rest < lv 10 ys
  ·rw[decide_eq_false (by unfold sgn;rw[if_pos (by omega)];decide),brF]
   exact⟨rest,q,rfl,hr,tr',Nat.le_refl _,lt,hq,rfl,rfl,fun p _=>rfl⟩
  ·rw[decide_eq_true (by unfold sgn;rw[if_neg (by omega)];split<;>decide),brT]
   obtain⟨r1,e,d1,d2,d3,d4⟩:=rminus_ref lf h3 hr hy (by omega) (by omega)
   have q0:=hq.at i hi
   have e1:i64.wrap (q[i]+1)=q[i]+1:=w64 (by omega) (by omega)
   have lt1:lv 10 r1 < ((c:Int)+1)*lv 10 ys:=by
    have:((c+1:Nat):Int)+1=((c:Int)+1)+1:=by omega
    rw[this,Int.add_mul ((c:Int)+1) 1,Int.one_mul]at hlt
    omega
   obtain⟨r',q',t1,t2,t3,t4,t5,t6,t7,t8,t9⟩:=ih m r1 (q.set i (q[i]+1)) (by omega) d1 d2 (by omega) lt1 (dg_set hq i ⟨by omega,by omega⟩) (by rw[List.length_set];exact hi) (by rw[List.getElem_set_self];omega)
   refine⟨r',q',?_,t2,t3,by omega,t5,t6,by rw[t7,List.length_set],?_,fun p hp=>by rw[t9 p hp,List.getElem?_set_ne (by omega)]⟩
   ·rw[e,bdS,idxB_nat _ _ hi,bdS,List.getElem?_eq_getElem hi,bdS,bdS,e1,upE_set _ _ _ hi,bdS]
    exact t1
   ·rw[t8,lv_set 10 q i _ hi]
    exact split_ring _ _ _ _ _ _ 10 d4
theorem split_round(lf:Nat)(h3:200000≤lf)(xs ys v5 v6:List Int)(hx:Dg 10 xs)(hy:Dg 10 ys)(ty:Tr ys)(hyb:ys.length≤60000)(k:Nat)(hk:k < xs.length)(rest q:List Int)(hr:Dg 10 rest)(hl:rest.length≤70000)(hlt:lv 10 rest < lv 10 ys)(hq:Dg 10 q)(hkq:k < q.length)(hz:q[k]=0):
  ∃ rest' q',surveyorref01_split.l1 lf xs ys (k:Nat) v5 v6 (lf+40) (tr ([xs[k]]++rest)) q=some ((rest',q',()),())∧Dg 10 rest'∧Tr rest'∧lv 10 rest' < lv 10 ys∧Dg 10 q'∧q'.length=q.length∧
   lv 10 ys*lv 10 q'+10 ^ k*lv 10 rest'=lv 10 ys*lv 10 q+10 ^ k*(xs[k]+10*lv 10 rest)∧∀ p,p≠k→q'[p]? = q[p]? := by
 have x0:=hx.at k hk
 have hd:Dg 10 ([xs[k]]++rest):=Dg.cons x0 hr
 have hl2:=tr_len ([xs[k]]++rest)
 have e:lv 10 ([xs[k]]++rest)=xs[k]+10*lv 10 rest:=rfl
 obtain⟨r',q',t1,t2,t3,_,t5,t6,t7,t8,t9⟩:=split_l1 lf h3 xs v5 v6 ys k hy ty hyb 9 (lf+40) (tr ([xs[k]]++rest)) q (by omega) (dg_tr hd) (tr_tr _) (by simp at hl2;simp;omega) (by rw[lv_tr,e];omega) hq hkq (by rw[hz];decide)
 rw[lv_tr,e]at t8
 exact⟨r',q',t1,t2,t3,t5,t6,t7,t8,t9⟩
theorem rest_len{rest ys:List Int}(hy:Dg 10 ys)(hr:Dg 10 rest)(tr':Tr rest)(h:lv 10 rest < lv 10 ys):rest.length≤ys.length:=by
 by_cases z:rest.length≤ys.length
 ·exact z
 ·have:=lv_len_lt (B:=10) (by decide) hy hr tr' (by omega);omega
theorem step_ring(V Q Q' P x R R' L:Int)(h:V*Q'+P*R'=V*Q+P*(x+10*R)):V*Q'+(P*R'+L)=V*Q+(P*10*R+(L+P*x)):=by grind
theorem split_l2(lf:Nat)(h3:200000≤lf)(xs ys v5:List Int)(hx:Dg 10 xs)(hy:Dg 10 ys)(ty:Tr ys)(hyb:ys.length≤60000)(hxb:xs.length≤60000):∀ (k n:Nat) (rest q:List Int),k < n→k≤xs.length→Dg 10 rest→Tr rest→lv 10 rest < lv 10 ys→Dg 10 q→k≤q.length→(∀ p,p < k→q[p]? = some 0)→
  ∃ rest' q',surveyorref01_split.l2 lf xs ys v5 n rest (((k:Nat):Int)-1) q=some ((rest',q',v5,()),())∧Dg 10 rest'∧Tr rest'∧lv 10 rest' < lv 10 ys∧Dg 10 q'∧q'.length=q.length∧
   lv 10 ys*lv 10 q'+lv 10 rest'=lv 10 ys*lv 10 q+(10 ^ k*lv 10 rest+lv 10 (xs.take k)):=by
 intro k
 induction k with
 | zero =>
  intro n rest q hn hk hr tr' hlt hq hkq hz
  obtain⟨m,rfl⟩:=Nat.exists_eq_succ_of_ne_zero (show n≠0 by omega)
  refine⟨rest,q,?_,hr,tr',hlt,hq,rfl,by simp[lv]⟩
  rw[surveyorref01_split.l2,surveyorref01_split.r2,decide_eq_false (by omega),brF]
 | succ k ih =>
  intro n rest q hn hk hr tr' hlt hq hkq hz
  obtain⟨m,rfl⟩:=Nat.exists_eq_succ_of_ne_zero (show n≠0 by omega)
  have hkl:k < xs.length:=by omega
  have rl:=rest_len hy hr tr' hlt
  have z0:q[k]'(by omega)=0:=by
   have h1:=hz k (by omega)
   rw[List.getElem?_eq_getElem (by omega)]at h1
   exact Option.some.inj h1
  obtain⟨r1,q1,t1,t2,t3,t4,t5,t6,t7,t8⟩:=split_round lf h3 xs ys v5 ([xs[k]]++rest) hx hy ty hyb k hkl rest q hr (by omega) hlt hq (by omega) z0
  obtain⟨r2,q2,s1,s2,s3,s4,s5,s6,s7⟩:=ih m r1 q1 (by omega) (by omega) t2 t3 t4 t5 (by omega) (fun p hp=>by rw[t8 p (by omega)];exact hz p (by omega))
  refine⟨r2,q2,?_,s2,s3,s4,s5,by rw[s6,t6],?_⟩
  ·rw[surveyorref01_split.l2,surveyorref01_split.r2,show((k+1:Nat):Int)-1=((k:Nat):Int) by omega,decide_eq_true (by omega),brT,idxL_nat _ _ hkl,bdS,apL_ok _ _ _ (by decide) (by simp;omega),bdS,cut_f lf _ (by simp;omega) h3,bdS]
   simp only[t1,bdS]
   rw[w64 (n:=((k:Nat):Int)-1) (by omega) (by omega)]
   exact s1
  ·rw[s7,lv_takes 10 xs k hkl,Int.pow_succ]
   exact step_ring _ _ _ _ _ _ _ _ t7
theorem split_l0(lf:Nat)(h3:200000≤lf)(xs ys:List Int)(hx:Dg 10 xs)(hy:Dg 10 ys)(ty:Tr ys)(hyb:ys.length≤60000)(hxb:xs.length≤60000)(k:Nat)(rest q:List Int)(hk:k≤xs.length)(hr:Dg 10 rest)(tr':Tr rest)(hlt:lv 10 rest < lv 10 ys)(hq:Dg 10 q)(hkq:k≤q.length)(hz:∀ p,p < k→q[p]? = some 0):
  ∃ b rest' q' w,surveyorref01_split.l0 lf xs ys (((k:Nat):Int)-1) q rest (lf+40)=some w∧w.1=b∧(if b=true then w.2.1.1=q'∧w.2.1.2.1=rest' else w.2.2.1.2.1=q'∧w.2.2.1.1=rest')∧Dg 10 rest'∧Tr rest'∧lv 10 rest' < lv 10 ys∧Dg 10 q'∧q'.length=q.length∧
   lv 10 ys*lv 10 q'+lv 10 rest'=lv 10 ys*lv 10 q+(10 ^ k*lv 10 rest+lv 10 (xs.take k)):=by
 cases k with
 | zero =>
  refine⟨true,rest,q,(true,(q,rest,()),(([],[],[],()),())),?_,rfl,by rw[if_pos rfl];exact⟨rfl,rfl⟩,hr,tr',hlt,hq,rfl,by simp[lv]⟩
  rw[show lf+40=(lf+39)+1 from rfl,surveyorref01_split.l0,surveyorref01_split.r0,decide_eq_false (by omega),brF]
 | succ k =>
  have hkl:k < xs.length:=by omega
  have rl:=rest_len hy hr tr' hlt
  have z0:q[k]'(by omega)=0:=by
   have h1:=hz k (by omega)
   rw[List.getElem?_eq_getElem (by omega)]at h1
   exact Option.some.inj h1
  obtain⟨r1,q1,t1,t2,t3,t4,t5,t6,t7,t8⟩:=split_round lf h3 xs ys rest ([xs[k]]++rest) hx hy ty hyb k hkl rest q hr (by omega) hlt hq (by omega) z0
  obtain⟨r2,q2,s1,s2,s3,s4,s5,s6,s7⟩:=split_l2 lf h3 xs ys rest hx hy ty hyb hxb k (lf+39) r1 q1 (by omega) (by omega) t2 t3 t4 t5 (by omega) (fun p hp=>by rw[t8 p (by omega)];exact hz p (by omega))
  refine⟨false,r2,q2,(false,([],[],()),((r2,q2,rest,()),())),?_,rfl,by simp,s2,s3,s4,s5,by rw[s6,t6],?_⟩
  ·rw[show lf+40=(lf+39)+1 from rfl,surveyorref01_split.l0,surveyorref01_split.r0,show((k+1:Nat):Int)-1=((k:Nat):Int) by omega,decide_eq_true (by omega),brT,idxL_nat _ _ hkl,bdS,apL_ok _ _ _ (by decide) (by simp;omega),bdS,cut_f lf _ (by simp;omega) h3,bdS]
   simp only[t1,bdS]
   rw[w64 (n:=((k:Nat):Int)-1) (by omega) (by omega),s1,bdS]
  ·rw[s7,lv_takes 10 xs k hkl,Int.pow_succ]
   exact step_ring _ _ _ _ _ _ _ _ t7
theorem split_ref(lf:Nat)(h3:200000≤lf){xs ys:List Int}(hx:Dg 10 xs)(hy:Dg 10 ys)(tx:Tr xs)(ty:Tr ys)(hyn:ys≠[])(hxb:xs.length≤60000)(hyb:ys.length≤60000):
  ∃ Q R,surveyorref01_split.f lf xs ys=some (Q,R,())∧Dg 10 Q∧Q.length≤xs.length+1∧Dg 10 R∧Tr R∧lv 10 xs=lv 10 ys*lv 10 Q+lv 10 R∧lv 10 R < lv 10 ys:=by
 have yl:1≤ys.length:=List.length_pos_iff.2 hyn
 obtain⟨n,hn⟩:∃ n,n=xs.length+1-ys.length:=⟨_,rfl⟩
 have yt:=lv_top (B:=10) (by decide) hy ty hyn
 have e0:(if(i64.wrap ((i64.wrap (((xs.length:Nat):Int)-((ys.length:Nat):Int)))+1)) > 0 then(i64.wrap ((i64.wrap (((xs.length:Nat):Int)-((ys.length:Nat):Int)))+1))else 0)=((n:Nat):Int):=by
  rw[w64 (n:=((xs.length:Nat):Int)-((ys.length:Nat):Int)) (by omega) (by omega),w64 (by omega) (by omega)]
  split<;>omega
 have e1:i64.wrap (((n:Nat):Int)-1)=((n:Nat):Int)-1:=w64 (by omega) (by omega)
 have nx:n≤xs.length:=by omega
 have rT:Tr (xs.drop n):=by
  unfold Tr at *
  by_cases z:n < xs.length
  ·rw[List.getLast?_drop,if_neg (by omega)];exact tx
  ·rw[List.drop_of_length_le (by omega)];simp
 have rlt:lv 10 (xs.drop n) < lv 10 ys:=by
  have a:=lv_lt (B:=10) (by decide) (hx.drop n)
  rw[List.length_drop]at a
  have b:=pow_mono' (B:=10) (by decide) (show xs.length-n≤ys.length-1 by omega)
  omega
 obtain⟨b,R,Q,w,t1,t2,t3,t4,t5,t6,t7,t8,t9⟩:=split_l0 lf h3 xs ys hx hy ty hyb hxb n (xs.drop n) (List.replicate n 0) nx (hx.drop n) rT rlt (Dg.zeros (by decide) _) (by simp) (fun p hp=>by rw[List.getElem?_replicate,if_pos hp])
 rw[List.length_replicate]at t8
 rw[lv_zeros,Int.mul_zero,Int.zero_add]at t9
 have sp:=lv_split 10 xs n nx
 refine⟨tr Q,R,?_,dg_tr t7,by have:=tr_len Q;omega,t4,t5,by rw[lv_tr];omega,t6⟩
 rw[surveyorref01_split.f,e0,e1,mkL_nat _ _ _ n rfl rfl (by omega),bdS,cutL_from _ _ n rfl nx,bdS,apL_ok _ _ _ (by decide) (by simp;omega),bdS,List.nil_append,t1,bdS,t2]
 cases b with
 | true =>
  rw[if_pos rfl]at t3
  rw[brT,t3.1,t3.2,cut_f lf Q (by omega) h3,bdS]
 | false =>
  rw[if_neg (by simp)]at t3
  rw[brF,t3.1,t3.2,cut_f lf Q (by omega) h3,bdS]
theorem floor_ref(lf:Nat){x y:Int}(hx:x.natAbs < 100000000000000000)(hy:y.natAbs < 100000000000000000)(h0:y≠0):surveyorref01_floor.f lf x y=some (x.fdiv y,()):=by
 have e:=Int.mul_tdiv_add_tmod x y
 have e1:iRem x y=some (Int.tmod x y):=by unfold iRem;rw[if_neg h0]
 have qb:(Int.tdiv x y).natAbs≤x.natAbs:=by rw[Int.natAbs_tdiv];exact Nat.div_le_self _ _
 have e2:iQuo .i64 x y=some (Int.tdiv x y):=by
  unfold iQuo;rw[if_neg h0]
  congr 1
  apply w64<;>omega
 have sg:(0≤x→0≤Int.tmod x y)∧(x≤0→Int.tmod x y≤0):=by
  refine⟨fun h=>Int.tmod_nonneg y h,fun h=>?_⟩
  have:=Int.tmod_nonneg y (show 0≤-x by omega)
  rw[Int.neg_tmod]at this
  omega
 have ab:(Int.tmod x y).natAbs < y.natAbs:=by
  rw[Int.natAbs_tmod]
  exact Nat.mod_lt _ (by omega)
 rw[surveyorref01_floor.f,e2,bdS,e1,bdS]
 by_cases r0:Int.tmod x y=0
 ·rw[r0,bne_self_eq_false,brF]
  have:=(fdiv_unique (x:=x) (y:=y) (q:=Int.tdiv x y) (r:=0) (by omega) (by omega)).1
  rw[this]
 ·rw[show(Int.tmod x y != 0)=true by simpa using r0,brT]
  by_cases hs:decide (x < 0)=decide (y < 0)
  ·have hs':(x < 0↔y < 0):=by simpa using hs
   rw[show(decide (x < 0) != decide (y < 0))=false by rw[hs,bne_self_eq_false],brF]
   have:=(fdiv_unique (x:=x) (y:=y) (q:=Int.tdiv x y) (r:=Int.tmod x y) (by omega) (by omega)).1
   rw[this]
  ·have hs':¬(x < 0↔y < 0):=by simpa using hs
   rw[show(decide (x < 0) != decide (y < 0))=true by simpa using hs,brT,w64 (by omega) (by omega)]
   have:=(fdiv_unique (x:=x) (y:=y) (q:=Int.tdiv x y-1) (r:=Int.tmod x y+y) (by rw[Int.mul_sub];omega) (by omega)).1
   rw[this]
theorem sz_of_lt{z:Int}{k:Nat}(hk:1≤k)(h:(z.natAbs:Int) < 10 ^ k):sz z≤k:=by
 obtain⟨j,rfl⟩:=Nat.exists_eq_succ_of_ne_zero (show k≠0 by omega)
 rw[←dlen_sz]
 apply dec_len_le
 have:((10 ^ (j+1):Nat):Int)=(10:Int) ^ (j+1):=by norm_cast
 have h':(z.natAbs:Int) < ((10 ^ (j+1):Nat):Int):=by rw[this];exact h
 exact Int.ofNat_lt.1 h'
theorem long_floor(lf:Nat)(h3:200000≤lf){x y:Int}(hx:sz x≤40000)(hy:sz y≤40000)(h0:y≠0):
    (bd (surveyorref01_digits.f lf (bs (Lib.itoa x))) fun r18 =>
 bd (surveyorref01_cut.f lf r18.1) fun r19 =>
 bd (surveyorref01_digits.f lf (bs (Lib.itoa y))) fun r20 =>
 bd (surveyorref01_cut.f lf r20.1) fun r21 =>
 bd (surveyorref01_split.f lf r19.1 r21.1) fun r22 =>
 bd (surveyorref01_Negative.f lf (bs (Lib.itoa x))) fun r23 =>
 bd (surveyorref01_Negative.f lf (bs (Lib.itoa y))) fun r24 =>
 bd (surveyorref01_made.f lf r22.1 (r23.1 != r24.1)) fun r25 =>
 bd (surveyorref01_Negative.f lf (bs (Lib.itoa x))) fun r26 =>
 bd (surveyorref01_Negative.f lf (bs (Lib.itoa y))) fun r27 =>
 br (r26.1 != r27.1) (
 br (decide (((r22.2.1.length:Nat):Int) > 0)) (
 bd (surveyorref01_Diff.f lf r25.1 (⟨#[49]⟩:ByteArray)) fun r28 =>
 some (r28.1,())) (
 some (r25.1,()))) (
 some (r25.1,())))=some (bs (Lib.itoa (x.fdiv y)),()):=by
  have a:=ld_body (z:=x)
  have b:=ld_body (z:=y)
  have lx:=len_sz x
  have ly:=len_sz y
  have tx:=tr_len (ld (body (Lib.itoa x)))
  have ty:=tr_len (ld (body (Lib.itoa y)))
  have hyn:tr (ld (body (Lib.itoa y)))≠[]:=by
    intro e
    have:=lv_tr 10 (ld (body (Lib.itoa y)))
    rw[e,b.2.1]at this
    simp only[lv]at this
    omega
  obtain⟨Q,R,e,dq,lq,dr,tr',val,lt⟩:=split_ref lf h3 (dg_tr a.1) (dg_tr b.1) (tr_tr _) (tr_tr _) hyn (by omega) (by omega)
  rw[lv_tr,lv_tr,a.2.1,b.2.1]at val
  rw[lv_tr,b.2.1]at lt
  have R0:=lv_nonneg (B:=10) (by decide) dr
  have Q0:=lv_nonneg (B:=10) (by decide) dq
  rw[digits_ref lf _ (can_itoa x) (by omega) h3,bdS,cut_f lf (ld (body (Lib.itoa x))) (by omega) h3,bdS,digits_ref lf _ (can_itoa y) (by omega) h3,bdS,cut_f lf (ld (body (Lib.itoa y))) (by omega) h3,bdS]
  simp only
  rw[e,bdS,negative_f lf _ (itoa_ne x),bdS,negative_f lf _ (itoa_ne y),bdS]
  simp only
  rw[made_ref lf h3 dq (by omega),bdS,bdS,bdS]
  simp only[neg_itoa]
  by_cases hs:decide (x < 0)=decide (y < 0)
  · have hs':(x < 0↔y < 0):=by simpa using hs
    rw[hs,bne_self_eq_false,brF,if_neg (by simp)]
    refine congrArg (fun z:Int=>some (bs (Lib.itoa z),())) ?_
    refine(fdiv_unique (x:=x) (y:=y) (q:=lv 10 Q) (r:=if x < 0 then -lv 10 R else lv 10 R) ?_ ?_).1
    · by_cases hx0:x < 0
      · have:=hs'.1 hx0
        rw[if_pos hx0]
        have e1:(y.natAbs:Int)= -y:=by omega
        have e2:(x.natAbs:Int)= -x:=by omega
        rw[e1,e2,Int.neg_mul]at val
        omega
      · have:¬y < 0:=fun e=>hx0 (hs'.2 e)
        rw[if_neg hx0]
        have e1:(y.natAbs:Int)=y:=by omega
        have e2:(x.natAbs:Int)=x:=by omega
        rw[e1,e2]at val
        omega
    · split<;>omega
  · have hs':¬(x < 0↔y < 0):=by simpa using hs
    rw[show(decide (x < 0) != decide (y < 0))=true by simpa using hs,brT,if_pos rfl]
    have val2:x=y*(-lv 10 Q)+(if x < 0 then -lv 10 R else lv 10 R):=by
      by_cases hx0:x < 0
      · have e1:(y.natAbs:Int)=y:=by omega
        have e2:(x.natAbs:Int)= -x:=by omega
        rw[e1,e2]at val
        rw[if_pos hx0,Int.mul_neg]
        omega
      · have e1:(y.natAbs:Int)= -y:=by omega
        have e2:(x.natAbs:Int)=x:=by omega
        rw[e1,e2,Int.neg_mul]at val
        rw[if_neg hx0,Int.mul_neg]
        omega
    by_cases hR:R=[]
    · subst hR
      rw[decide_eq_false (by simp),brF]
      refine congrArg (fun z:Int=>some (bs (Lib.itoa z),())) ?_
      refine(fdiv_unique (x:=x) (y:=y) (q:= -lv 10 Q) (r:=0) ?_ (by omega)).1
      simp only[lv,Int.neg_zero,ite_self,Int.add_zero]at val2
      omega
    · have Rl:0 < R.length:=List.length_pos_iff.2 hR
      have Rp:=lv_pos (B:=10) (by decide) dr tr' hR
      have Qb:sz (-lv 10 Q)≤50000:=by
        have:=sz_of_lt (z:= -lv 10 Q) (k:=Q.length+1) (by omega) (by
          have a1:=lv_lt (B:=10) (by decide) dq
          have a2:=pow_mono' (B:=10) (by decide) (show Q.length≤Q.length+1 by omega)
          omega)
        omega
      have i1:Lib.itoa 1=[49]:=by decide +kernel
      have s1:sz 1≤50000:=by unfold sz;rw[i1];decide
      rw[decide_eq_true (by omega),brT,show(⟨#[49]⟩:ByteArray)=bs [49] from rfl,←i1,diff_ref lf h3 Qb s1,bdS]
      refine congrArg (fun z:Int=>some (bs (Lib.itoa z),())) ?_
      refine(fdiv_unique (x:=x) (y:=y) (q:= -lv 10 Q-1) (r:=(if x < 0 then -lv 10 R else lv 10 R)+y) ?_ ?_).1
      · rw[Int.mul_sub];omega
      · split<;>omega
theorem Floor_ref(lf:Nat)(h3:200000≤lf){x y:Int}(hx:sz x≤40000)(hy:sz y≤40000)(h0:y≠0):surveyorref01_Floor.f lf (bs (Lib.itoa x)) (bs (Lib.itoa y))=some (bs (Lib.itoa (x.fdiv y)),()):=by
 rw[surveyorref01_Floor.f,short_ref lf (by omega),bdS]
 simp only
 by_cases c1:(sz x:Int)≤17
 ·rw[decide_eq_true c1,brT,short_ref lf (by omega),bdS]
  simp only
  by_cases c2:(sz y:Int)≤17
  ·have a:=sz_abs (z:=x) (k:=17) (by omega) (by omega)
   have b:=sz_abs (z:=y) (k:=17) (by omega) (by omega)
   have p:(10:Int) ^ 17=100000000000000000:=by decide
   have fb:(x.fdiv y).natAbs≤200000000000000000:=by
    have m:=Int.mul_fdiv_add_fmod x y
    have h1:(x.fdiv y).natAbs*1≤(x.fdiv y).natAbs*y.natAbs:=Nat.mul_le_mul_left _ (by omega)
    have h2:(y*x.fdiv y).natAbs=y.natAbs*(x.fdiv y).natAbs:=Int.natAbs_mul _ _
    rw[Nat.mul_comm]at h2
    have h3:(x.fmod y).natAbs < y.natAbs:=by
     rcases Int.lt_or_lt_of_ne h0 with z | z
     ·have a:=Int.fmod_nonneg_of_pos (-x) (show 0 < -y by omega)
      have b:=Int.fmod_lt_of_pos (-x) (show 0 < -y by omega)
      rw[Int.neg_fmod_neg]at a b
      omega
     ·have a:=Int.fmod_nonneg_of_pos x z
      have b:=Int.fmod_lt_of_pos x z
      omega
    omega
   rw[decide_eq_true c2,brT,number_ref lf h3 (by omega),bdS,number_ref lf h3 (by omega),bdS]
   simp only
   rw[floor_ref lf (by omega) (by omega) h0,bdS,whole_ref lf h3 (by omega) (by omega),bdS]
  ·rw[decide_eq_false c2,brF]
   exact long_floor lf h3 hx hy h0
 ·rw[decide_eq_false c1,brF]
  exact long_floor lf h3 hx hy h0
theorem fmod_abs{x y:Int}(h0:y≠0):(x.fmod y).natAbs < y.natAbs:=by
 rcases Int.lt_or_lt_of_ne h0 with z | z
 ·have a:=Int.fmod_nonneg_of_pos (-x) (show 0 < -y by omega)
  have b:=Int.fmod_lt_of_pos (-x) (show 0 < -y by omega)
  rw[Int.neg_fmod_neg]at a b
  omega
 ·have a:=Int.fmod_nonneg_of_pos x z
  have b:=Int.fmod_lt_of_pos x z
  omega
theorem fdiv_abs{x y:Int}(h0:y≠0):(x.fdiv y).natAbs≤x.natAbs+1:=by
 by_cases q0:x.fdiv y=0
 ·rw[q0];simp
 have m:=Int.mul_fdiv_add_fmod x y
 have h2:(y*x.fdiv y).natAbs=y.natAbs*(x.fdiv y).natAbs:=Int.natAbs_mul _ _
 have h3:=fmod_abs (x:=x) h0
 obtain⟨k,hk⟩:=Nat.exists_eq_succ_of_ne_zero (show(x.fdiv y).natAbs≠0 by omega)
 rw[hk,Nat.mul_succ]at h2
 have h4:1*k≤y.natAbs*k:=Nat.mul_le_mul_right _ (by omega)
 omega
theorem sz_fdiv{x y:Int}{k:Nat}(hk:1≤k)(h0:y≠0)(h:sz x≤k):sz (x.fdiv y)≤k+1:=by
 apply sz_of_lt (by omega)
 have a:=sz_abs h hk
 have b:=fdiv_abs (x:=x) h0
 have c:(10:Int) ^ (k+1)=10 ^ k*10:=Int.pow_succ ..
 omega
theorem sz_mul{x y:Int}{j k:Nat}(hj:1≤j)(hk:1≤k)(h1:sz x≤j)(h2:sz y≤k):sz (x*y)≤j+k:=by
 apply sz_of_lt (by omega)
 have a:=sz_abs h1 hj
 have b:=sz_abs h2 hk
 rw[Int.natAbs_mul,Int.natCast_mul,Int.pow_add]
 have p:=pow_pos' (B:=10) (by decide) k
 have c:=Int.mul_le_mul_of_nonneg_left (Int.le_of_lt b) (show 0≤(x.natAbs:Int) by omega)
 have d:=Int.mul_lt_mul_of_pos_right a p
 omega
theorem rest_ref(lf:Nat)(h3:200000≤lf){x y:Int}(hx:sz x≤20000)(hy:sz y≤20000)(h0:y≠0):surveyorref01_Rest.f lf (bs (Lib.itoa x)) (bs (Lib.itoa y))=some (bs (Lib.itoa (x.fmod y)),()):=by
 have q:=sz_fdiv (by omega) h0 hx
 have p:=sz_mul (by omega) (by omega) hy q
 rw[surveyorref01_Rest.f,Floor_ref lf h3 (by omega) (by omega) h0,bdS,product_ref lf h3 (by omega) (by omega),bdS,diff_ref lf h3 (by omega) (by omega),bdS]
 have m:=Int.mul_fdiv_add_fmod x y
 refine congrArg (fun z:Int=>some (bs (Lib.itoa z),())) ?_
 omega
end Go.N
namespace Go.N
open Go Go.Q Go.Rx
theorem szK{z:Int}(h: -K < z∧z < K):sz z≤4096:=(sz_K z).2 h
theorem sumI(lf:Nat)(h3:200000≤lf){x y:Int}(hx: -K < x∧x < K)(hy: -K < y∧y < K):surveyorref01_Sum.f lf (bs (Lib.itoa x)) (bs (Lib.itoa y))=some (bs (Lib.itoa (x+y)),()):=by
 have:=szK hx
 have:=szK hy
 exact sum_ref lf h3 (by omega) (by omega)
theorem diffI(lf:Nat)(h3:200000≤lf){x y:Int}(hx: -K < x∧x < K)(hy: -K < y∧y < K):surveyorref01_Diff.f lf (bs (Lib.itoa x)) (bs (Lib.itoa y))=some (bs (Lib.itoa (x-y)),()):=by
 have:=szK hx
 have:=szK hy
 exact diff_ref lf h3 (by omega) (by omega)
theorem productI(lf:Nat)(h3:200000≤lf){x y:Int}(hx: -K < x∧x < K)(hy: -K < y∧y < K):surveyorref01_Product.f lf (bs (Lib.itoa x)) (bs (Lib.itoa y))=some (bs (Lib.itoa (x*y)),()):=by
 have:=szK hx
 have:=szK hy
 exact product_ref lf h3 (by omega) (by omega)
theorem CK{z:Int}(h: -C < z∧z < C): -K < z∧z < K:=by have:=C_lt_K;omega
theorem mkA{s:Sp}(h:oks C s)(p:Pr s):Wf (toA s)∧ofA (toA s)=if emp s=true then non else s:=by
 refine⟨toA_wf h.K p,?_⟩
 by_cases e:emp s=true
 ·rw[if_pos e]
  have:toA s=E0:=by unfold toA;rw[if_pos e];rfl
  rw[this];rfl
 ·rw[if_neg e]
  have p':=p.resolve_left e
  exact ofA_toA h (by simpa using e) p'.1 p'.2
theorem turnA{a:A}(h:Wf a):Wf (toA (turn (ofA a)))∧ofA (toA (turn (ofA a)))=turn (ofA a):=by
 have m:=mkA (turn_ok h.okC) h.pr.turn
 refine⟨m.1,?_⟩
 rw[m.2]
 split
 ·rename_i e
  rw[emp_turn]at e
  unfold turn;rw[if_pos e]
 ·rfl
def negS(s:Sp):Sp:=common s ⟨.ni,.fin (-1)⟩
def zerS(s:Sp):Sp:=common s ⟨.fin 0,.fin 0⟩
theorem hullNE{s t:Sp}(hs:emp s=false)(ht:emp t=false):hull s t=⟨xmin s.lo t.lo,xmax s.hi t.hi⟩:=by
 unfold hull;rw[if_neg (by simp[hs]),if_neg (by simp[ht])]
def Po:X→Prop
 | .fin b=>1≤b
 | .pi=>True
 | .ni=>False
theorem fdiv_mono{a a' b:Int}(hb:1≤b)(h:a≤a'):a.fdiv b≤a'.fdiv b:=by
 rw[Int.fdiv_eq_ediv_of_nonneg _ (by omega),Int.fdiv_eq_ediv_of_nonneg _ (by omega)]
 exact Int.ediv_le_ediv (by omega) h
theorem fdiv_nn{a b:Int}(hb:1≤b)(h:0≤a):0≤a.fdiv b:=by
 have:=fdiv_mono (a:=0) hb h
 rwa [Int.zero_fdiv]at this
theorem fdiv_ng{a b:Int}(hb:1≤b)(h:a < 0):a.fdiv b≤-1:=by
 have m:=Int.mul_fdiv_add_fmod a b
 have r0:=Int.fmod_nonneg_of_pos a (show 0 < b by omega)
 by_cases z:a.fdiv b≤-1
 ·exact z
 ·have:=Int.mul_nonneg (show 0≤b by omega) (show 0≤a.fdiv b by omega);omega
theorem xo_mono{x x' y:X}(hx:okx Dd x)(hx':okx Dd x')(hy:Po y)(h:key x≤key x'):key (xover x y)≤key (xover x' y):=by
 have hK:=Dd_K
 have hC:=Int.lt_trans C_gt C_lt_Dd
 have po:∀ b,y=.fin b→1≤b:=fun b e=>by subst e;exact hy
 have k1:=key_le ((xover_okD hx po).mono (Int.le_of_lt hK))
 have k2:=key_le ((xover_okD hx' po).mono (Int.le_of_lt hK))
 cases x with
 | ni=>exact k2.1
 | pi=>cases x' with
  | pi=>exact Int.le_refl _
  | ni=>simp only[key]at h;omega
  | fin z=>simp only[key,okx]at h hx';omega
 | fin z=>cases x' with
  | pi=>exact k1.2
  | ni=>simp only[key,okx]at h hx;omega
  | fin w =>
   simp only[key]at h
   cases y with
   | ni=>exact hy.elim
   | fin b=>exact fdiv_mono hy h
   | pi=>simp only[xover];split<;>split<;>simp only[key]<;>omega
theorem xo_neg{x y y':X}(hx:okx Dd x)(hy:Po y)(hy':Po y')(oy:okx Dd y)(oy':okx Dd y')(h:key y≤key y')(hn:key x < 0):key (xover x y)≤key (xover x y'):=by
 have hK:=Dd_K
 have hC:=Int.lt_trans C_gt C_lt_Dd
 cases x with
 | ni=>exact Int.le_refl _
 | pi=>simp only[key]at hn;omega
 | fin z =>
  simp only[key]at hn
  cases y with
  | ni=>exact hy.elim
  | pi=>cases y' with
   | ni=>exact hy'.elim
   | pi=>exact Int.le_refl _
   | fin b=>simp only[key,okx]at h oy';omega
  | fin b=>cases y' with
   | ni=>exact hy'.elim
   | pi =>
    simp only[xover];rw[if_pos hn];exact fdiv_ng hy hn
   | fin c =>
    simp only[key]at h
    simp only[xover,key]
    have m:=Int.mul_fdiv_add_fmod z b
    have m':=Int.mul_fdiv_add_fmod z c
    have r0:=Int.fmod_nonneg_of_pos z (show 0 < b by have:1≤b:=hy;omega)
    have r1:=Int.fmod_lt_of_pos z (show 0 < c by have:1≤c:=hy';omega)
    have q:=fdiv_ng (b:=b) hy hn
    by_cases g:z.fdiv b≤z.fdiv c
    ·exact g
    ·have hb:1≤b:=hy
     have e1:=Int.mul_le_mul_of_nonneg_left (show z.fdiv c+1≤z.fdiv b by omega) (show 0≤c by have:1≤c:=hy';omega)
     have e2:=Int.mul_le_mul_of_nonneg_right h (show 0≤-z.fdiv b by omega)
     rw[Int.mul_add]at e1
     rw[Int.mul_neg,Int.mul_neg]at e2
     omega
theorem xo_pos{x y y':X}(hx:okx Dd x)(hy:Po y)(hy':Po y')(oy:okx Dd y)(oy':okx Dd y')(h:key y≤key y')(hn:0≤key x):key (xover x y')≤key (xover x y):=by
 have hK:=Dd_K
 have hC:=Int.lt_trans C_gt C_lt_Dd
 cases x with
 | pi=>exact Int.le_refl _
 | ni=>simp only[key]at hn;omega
 | fin z =>
  simp only[key]at hn
  cases y with
  | ni=>exact hy.elim
  | pi=>cases y' with
   | ni=>exact hy'.elim
   | pi=>exact Int.le_refl _
   | fin b=>simp only[key,okx]at h oy';omega
  | fin b=>cases y' with
   | ni=>exact hy'.elim
   | pi =>
    simp only[xover];rw[if_neg (by omega)];exact fdiv_nn hy hn
   | fin c =>
    simp only[key]at h
    simp only[xover,key]
    have m:=Int.mul_fdiv_add_fmod z b
    have m':=Int.mul_fdiv_add_fmod z c
    have r0:=Int.fmod_nonneg_of_pos z (show 0 < c by have:1≤c:=hy';omega)
    have r1:=Int.fmod_lt_of_pos z (show 0 < b by have:1≤b:=hy;omega)
    have q:=fdiv_nn (b:=c) hy' hn
    by_cases g:z.fdiv c≤z.fdiv b
    ·exact g
    ·have e1:=Int.mul_le_mul_of_nonneg_left (show z.fdiv b+1≤z.fdiv c by omega) (show 0≤b by have:1≤b:=hy;omega)
     have e2:=Int.mul_le_mul_of_nonneg_right h q
     rw[Int.mul_add]at e1
     omega
theorem sgn_lt0(z:Int):decide (sgn z < 0)=decide (z < 0):=by simp only[decide_eq_decide];unfold sgn;(repeat' split)<;>omega
section
variable (lf:Nat)(h3:200000≤lf)
include h3
theorem rng:surveyorref21_Range.f lf (ob none) (ob none)=some (ac (toA ⟨.ni,.pi⟩),()):=range_f lf h3 none none trivial trivial
end
end Go.N
namespace Go.N
open Go Go.Q Go.Rx
theorem gcd_step{x y q r:Int}(h:x=y*q+r)(hy:0 < y)(h0:0≤r)(h1:r < y)(hx:0≤x):Int.gcd y r=Int.gcd x y:=by
 have e:r=x % y:=by rw[h,Int.mul_add_emod_self_left];exact(Int.emod_eq_of_lt h0 h1).symm
 obtain⟨a,rfl⟩:=Int.eq_ofNat_of_zero_le hx
 obtain⟨b,rfl⟩:=Int.eq_ofNat_of_zero_le (Int.le_of_lt hy)
 have e':r=((a % b:Nat):Int):=by rw[e];rfl
 rw[e',Int.gcd_natCast_natCast,Int.gcd_natCast_natCast,Nat.gcd_comm a b,Nat.gcd_rec b a,Nat.gcd_comm]
theorem common_l0(lf:Nat)(hlf:2000000000≤lf):∀ (k n:Nat) (xs ys:List Int),lv G ys≤k→k < n→Dg G xs→Dg G ys→Tr xs→Tr ys→xs.length≤40000→ys.length≤40000→
  ∃ r,bigint_common.l0 lf n xs ys=some ((r,()),())∧Dg G r∧Tr r∧r.length≤max xs.length ys.length∧lv G r=(Int.gcd (lv G xs) (lv G ys):Int):=by
 intro k
 induction k with
 | zero =>
  intro n xs ys hk hn hx hy tx ty lx ly
  obtain⟨m,rfl⟩:=Nat.exists_eq_succ_of_ne_zero (show n≠0 by omega)
  have y0:=lv_nonneg (B:=G) (by decide) hy
  have x0:=lv_nonneg (B:=G) (by decide) hx
  have:ys=[]:=(lv_eq_zero (B:=G) (by decide) hy ty).1 (by omega)
  subst this
  refine⟨xs,?_,hx,tx,by omega,?_⟩
  ·rw[bigint_common.l0,bigint_common.r0,decide_eq_false (by simp),brF]
  ·rw[show lv G []=0 from rfl,Int.gcd_zero_right];omega
 | succ k ih =>
  intro n xs ys hk hn hx hy tx ty lx ly
  obtain⟨m,rfl⟩:=Nat.exists_eq_succ_of_ne_zero (show n≠0 by omega)
  have x0:=lv_nonneg (B:=G) (by decide) hx
  by_cases h:ys=[]
  ·subst h
   refine⟨xs,?_,hx,tx,by omega,?_⟩
   ·rw[bigint_common.l0,bigint_common.r0,decide_eq_false (by simp),brF]
   ·rw[show lv G []=0 from rfl,Int.gcd_zero_right];omega
  ·obtain⟨Q,R,e,dq,tq,dr,tr',val,lt⟩:=divide_f lf xs ys hx hy tx ty h (by omega) (by omega) hlf
   have yp:=lv_pos (B:=G) (by decide) hy ty h
   have R0:=lv_nonneg (B:=G) (by decide) dr
   have lR:R.length≤ys.length:=by
    by_cases z:R.length≤ys.length
    ·exact z
    ·have:=lv_len_lt (B:=G) (by decide) hy dr tr' (by omega);omega
   obtain⟨r,r1,r2,r3,r4,r5⟩:=ih m ys R (by omega) (by omega) hy dr ty tr' ly (by omega)
   refine⟨r,?_,r2,r3,by omega,?_⟩
   ·have:0 < ys.length:=List.length_pos_iff.2 h
    rw[bigint_common.l0,bigint_common.r0,decide_eq_true (by omega),brT,e,bdS]
    exact r1
   ·rw[r5,gcd_step val yp R0 lt x0]
def Big(lf:Nat):Prop:=2000000000≤lf∧K < (lf:Int)
theorem gcd_f(lf:Nat)(hb:Big lf){x y:Int}(hx: -K < x∧x < K)(hy: -K < y∧y < K):bigint_Gcd.f lf (bs (Lib.itoa x)) (bs (Lib.itoa y))=some (bs (Lib.itoa (Int.gcd x y)),0,()):=by
 obtain⟨hlf,hK⟩:=hb
 obtain⟨p,q,e,k1,k2,_⟩:=pair_f lf _ _ (chkK hx) (chkK hy) (by omega)
 rw[iv_itoa]at k1 k2
 have vx:lv G p.2.1=(x.natAbs:Int):=by
  have:=k1.val
  have:=lv_nonneg (B:=G) (by decide) k1.dg
  split at*<;> omega
 have vy:lv G q.2.1=(y.natAbs:Int):=by
  have:=k2.val
  have:=lv_nonneg (B:=G) (by decide) k2.dg
  split at*<;> omega
 obtain⟨r,r1,r2,r3,r4,r5⟩:=common_l0 lf hlf (lf+39) (lf+40) p.2.1 q.2.1 (by omega) (by omega) k1.dg k2.dg k1.tr k2.tr (by have:=k1.len;omega) (by have:=k2.len;omega)
 rw[vx,vy]at r5
 have g:(Int.gcd (x.natAbs:Int) (y.natAbs:Int):Int)=(Int.gcd x y:Int):=by
  rw[Int.gcd_natCast_natCast];rfl
 have rn:RN (false,r,()) (Int.gcd x y) 4096:=⟨r2,r3,by have:=k1.len;have:=k2.len;simp only;omega,by simp only[Bool.false_eq_true,if_false];rw[r5,g]⟩
 rw[bigint_Gcd.f,e,bdS]
 simp only[bne_self_eq_false,brF]
 rw[bigint_common.f,r1,bdS,bdS,ntext_f lf rn (by omega) (by omega),bdS]
theorem magnitude_ref(lf:Nat)(z:Int):surveyorref01_Magnitude.f lf (bs (Lib.itoa z))=some (bs (Lib.itoa (z.natAbs:Int)),()):=by
 rw[surveyorref01_Magnitude.f,negative_f lf _ (itoa_ne z),bdS]
 simp only
 rw[neg_itoa]
 have e':Lib.itoa (z.natAbs:Int)=D z.natAbs:=by unfold Lib.itoa;rw[if_neg (by omega)];rfl
 rw[e']
 by_cases hn:z < 0
 ·have e:Lib.itoa z=45::D z.natAbs:=by unfold Lib.itoa;rw[if_pos hn]
  rw[decide_eq_true hn,brT,e,sCut_from (45::D z.natAbs) 1 1 rfl (by simp),bdS]
  rfl
 ·have e:Lib.itoa z=D z.natAbs:=by unfold Lib.itoa;rw[if_neg hn];congr 1;omega
  rw[decide_eq_false hn,brF,e]
theorem i0':Lib.itoa 0=[48]:=by unfold Lib.itoa;rw[if_neg (by omega)];exact dec_zero
theorem beq0(z:Int):((bs (Lib.itoa z)).toList==(⟨#[48]⟩:ByteArray).toList)=decide (z=0):=by
 rw[show(⟨#[48]⟩:ByteArray)=bs [48] from rfl,beq_bs,←i0']
 simp only[decide_eq_decide]
 exact⟨fun e=>itoa_inj e,fun e=>by rw[e]⟩
end Go.N
namespace Go.N
open Go Go.Q Go.Rx
def ckc(em:Bool)(l h:List UInt8):Int :=
 if em=true then(if l≠[]∨h≠[]then 3 else 0)else if num l≠0 then num l else if num h≠0 then num h else if iv l < 0∨(iv l≠0∧(iv h < 0∨¬iv h < iv l))then 2 else 0
theorem num22(lf:Nat)(l:List UInt8)(hl:l.length≤9223372036854775807)(hf:l.length≤lf):surveyorref22_number.f lf (bs l)=some (num l,()):=by
 rw[surveyorref22_number.f,form_f lf l hl hf,bdS]
 unfold num chk
 cases hc:can l with
 | false=>simp[brT]
 | true =>
  simp only[Bool.not_true,brF,if_true]
  rw[rDigits_f lf l (can_parts hc).2.2 hl,bdS]
  by_cases h:nlen l > 100
  ·rw[decide_eq_true (by omega),brT]
   by_cases h2:nlen l > 4096
   ·rw[if_pos h2];rfl
   ·rw[if_neg h2,if_neg (by simp),if_pos h]
  ·rw[decide_eq_false (by omega),brF,if_neg (show ¬nlen l > 4096 by omega),if_neg (by simp),if_neg h]
theorem long_f(lf:Nat)(l:List UInt8)(hl:l.length≤9223372036854775807):congruence_long.f lf (bs l)=some (decide (nlen l > 100),()):=by
 have:=nlen_le l
 rw[congruence_long.f,trimPrefix_f,bdS,bs_size]
 congr 2
 simp only[decide_eq_decide];unfold nlen;omega
theorem numC(lf:Nat)(l:List UInt8)(hl:l.length≤9223372036854775807):congruence_number.f lf (bs l)=some (num l,()):=by
 rw[congruence_number.f,check_f lf l hl,bdS]
 simp only[long_f lf l hl,bdS]
 unfold num
 by_cases h:chk l=0
 ·rw[h]
  simp only[show((0:Int)==10)=false from rfl,brF,BEq.rfl,brT,bne_self_eq_false,ne_eq,not_true,if_false]
  by_cases h2:nlen l > 100
  ·rw[decide_eq_true h2,brT,if_pos h2]
  ·rw[decide_eq_false h2,brF,if_neg h2]
 ·rw[if_pos h,show(chk l==0)=false from beq_eq_false_iff_ne.2 h,brF,bneT h,brT]
  by_cases h2:chk l=10
  ·rw[h2,BEq.rfl,brT]
  ·rw[show(chk l==10)=false from beq_eq_false_iff_ne.2 h2,brF]
theorem less_c(lf:Nat)(l m:List UInt8)(h1:chk l=0)(h2:chk m=0)(h3:200000≤lf):congruence_less.f lf (bs l) (bs m)=some (decide (iv l < iv m),()):=by
 rw[congruence_less.f,compare_f lf l m h1 h2 h3,bdS]
 simp only
 rw[congruence_sure_int.f,bdS]
 congr 2
 simp only[decide_eq_decide];unfold sgn;(repeat' split)<;>omega
theorem ckc_f(lf:Nat)(h3:200000≤lf)(em:Bool)(l h:List UInt8)(hl:l.length≤9223372036854775807)(hh:h.length≤9223372036854775807):congruence_Check.f lf (em,bs l,bs h,())=some (ckc em l h,()):=by
 rw[congruence_Check.f]
 simp only[e0,beq_bs,numC lf l hl,numC lf h hh,bdS]
 unfold ckc
 cases em with
 | true =>
  rw[brT,if_pos rfl]
  by_cases c1:l=[]<;>by_cases c2:h=[]<;>simp[c1,c2,brT,brF]
 | false =>
  rw[brF,if_neg (by simp)]
  by_cases c1:num l=0
  ·rw[c1,bne_self_eq_false,brF,if_neg (by simp)]
   by_cases c2:num h=0
   ·rw[c2,bne_self_eq_false,brF,if_neg (by simp)]
    have k1:=num_chk c1
    have k2:=num_chk c2
    have z:(⟨#[48]⟩:ByteArray)=bs [48]:=rfl
    rw[z,less_c lf l [48] k1 chk48 h3,bdS,less_c lf h [48] k2 chk48 h3,less_c lf h l k2 k1 h3,iv48]
    simp only[bdS]
    have e:l=[48]↔iv l=0:=(iv_zero (chk_zero.1 k1).1).symm
    by_cases a:iv l < 0
    ·rw[decide_eq_true a,brT,if_pos (.inl a)]
    ·rw[decide_eq_false a,brF]
     by_cases b:iv l=0
     ·rw[decide_eq_true (e.2 b),Bool.not_true,brF,if_neg (by omega)]
     ·rw[decide_eq_false (fun x=>b (e.1 x)),Bool.not_false,brT]
      by_cases c:iv h < 0
      ·rw[decide_eq_true c,brT,if_pos (.inr ⟨b,.inl c⟩)]
      ·rw[decide_eq_false c,brF]
       by_cases d:iv h < iv l
       ·rw[decide_eq_true d,Bool.not_true,brF,if_neg (by omega)]
       ·rw[decide_eq_false d,Bool.not_false,brT,if_pos (.inr ⟨b,.inr d⟩)]
   ·rw[bneT c2,brT,if_pos c2]
  ·rw[bneT c1,brT,if_pos c1]
theorem ckc_ref(lf:Nat)(h3:200000≤lf)(em:Bool)(l h:List UInt8)(hl:l.length≤9223372036854775807)(hh:h.length≤9223372036854775807)(fl:l.length≤lf)(fh:h.length≤lf):surveyorref22_Check.f lf (em,bs l,bs h,())=some (ckc em l h,()):=by
 rw[surveyorref22_Check.f]
 simp only[e0,beq_bs,num22 lf l hl fl,num22 lf h hh fh,bdS]
 unfold ckc
 cases em with
 | true =>
  rw[brT,if_pos rfl]
  by_cases c1:l=[]<;>by_cases c2:h=[]<;>simp[c1,c2,brT,brF]
 | false =>
  rw[brF,if_neg (by simp)]
  by_cases c1:num l=0
  ·rw[c1,bne_self_eq_false,brF,if_neg (by simp)]
   by_cases c2:num h=0
   ·rw[c2,bne_self_eq_false,brF,if_neg (by simp)]
    have k1:=num_chk c1
    have k2:=num_chk c2
    have l1:=num_len c1
    have l2:=num_len c2
    have z:(⟨#[48]⟩:ByteArray)=bs [48]:=rfl
    rw[sign_ref lf l (chk_zero.1 k1).1,bdS,sign_ref lf h (chk_zero.1 k2).1,less_f lf h l (chk_zero.1 k2).1 (chk_zero.1 k1).1 (by omega) (by omega) h3]
    simp only[bdS,sgn_lt0]
    have e:l=[48]↔iv l=0:=(iv_zero (chk_zero.1 k1).1).symm
    by_cases a:iv l < 0
    ·rw[decide_eq_true a,brT,if_pos (.inl a)]
    ·rw[decide_eq_false a,brF]
     by_cases b:iv l=0
     ·rw[decide_eq_true (e.2 b),Bool.not_true,brF,if_neg (by omega)]
     ·rw[decide_eq_false (fun x=>b (e.1 x)),Bool.not_false,brT]
      by_cases c:iv h < 0
      ·rw[decide_eq_true c,brT,if_pos (.inr ⟨b,.inl c⟩)]
      ·rw[decide_eq_false c,brF]
       by_cases d:iv h < iv l
       ·rw[decide_eq_true d,Bool.not_true,brF,if_neg (by omega)]
       ·rw[decide_eq_false d,Bool.not_false,brT,if_pos (.inr ⟨b,.inr d⟩)]
   ·rw[bneT c2,brT,if_pos c2]
  ·rw[bneT c1,brT,if_pos c1]
structure Cg where
 em:Bool
 m:Int
 r:Int
deriving DecidableEq
def cc(c:Cg):IV:=if c.em=true then(true,bs [],bs [],())else(false,bs (Lib.itoa c.m),bs (Lib.itoa c.r),())
structure WfC(c:Cg):Prop where
 m: -C < c.m∧c.m < C
 r: -C < c.r∧c.r < C
 pos:0≤c.m
 rng:c.m≠0→0≤c.r∧c.r < c.m
def Ec:Cg:=⟨true,0,0⟩
def topC:Cg:=⟨false,1,0⟩
theorem ckc_wf{em:Bool}{l h:List UInt8}(hc:ckc em l h=0):∃ c:Cg,((em,bs l,bs h,()):IV)=cc c∧WfC c:=by
 have hC:=C_gt
 unfold ckc at hc
 cases em with
 | true =>
  rw[if_pos rfl]at hc
  have:¬(l≠[]∨h≠[]):=fun x=>by rw[if_pos x]at hc;cases hc
  have l0:l=[]:=by simpa using fun x=>this (.inl x)
  have h0:h=[]:=by simpa using fun x=>this (.inr x)
  subst l0 h0
  exact⟨Ec,rfl,⟨by simp only[Ec];omega,by simp only[Ec];omega,by simp[Ec],fun x=>absurd rfl x⟩⟩
 | false =>
  rw[if_neg (by simp)]at hc
  by_cases c1:num l=0
  ·rw[if_neg (by simp[c1])]at hc
   by_cases c2:num h=0
   ·rw[if_neg (by simp[c2])]at hc
    have n:¬(iv l < 0∨(iv l≠0∧(iv h < 0∨¬iv h < iv l))):=fun x=>by rw[if_pos x]at hc;cases hc
    have i1:=itoa_iv (num_zero.1 c1).1
    have i2:=itoa_iv (num_zero.1 c2).1
    refine⟨⟨false,iv l,iv h⟩,by unfold cc;rw[if_neg (by simp)];simp only;rw[←i1,←i2],?_⟩
    rw[i1,num_itoa]at c1
    rw[i2,num_itoa]at c2
    exact⟨c1,c2,by simp only;omega,fun x=>by simp only at x⊢;omega⟩
   ·rw[if_pos c2]at hc;exact absurd hc c2
  ·rw[if_pos c1]at hc;exact absurd hc c1
def clsF(m r:Int):Cg :=
 if sz (m.natAbs:Int) > 100∨sz (if m=0 then r else r.fmod (m.natAbs:Int)) > 100 then topC else⟨false,(m.natAbs:Int),if m=0 then r else r.fmod (m.natAbs:Int)⟩
theorem longI(lf:Nat){z:Int}(hz: -K < z∧z < K):congruence_long.f lf (bs (Lib.itoa z))=some (decide (sz z > 100),()):=by
 have:=okb_len hz
 rw[long_f lf _ (by omega)];rfl
theorem abs_f(lf:Nat){z:Int}(hz: -K < z∧z < K):bigint_Abs.f lf (bs (Lib.itoa z))=some (bs (Lib.itoa (z.natAbs:Int)),0,()):=by
 have:=okb_len hz
 rw[bigint_Abs.f,check_f lf _ (by omega),bdS]
 simp only[chkK hz,bne_self_eq_false,brF]
 rw[trimPrefix_f,bdS,body_itoa]
 have e':Lib.itoa (z.natAbs:Int)=D z.natAbs:=by unfold Lib.itoa;rw[if_neg (by omega)];rfl
 rw[e']
theorem top_c:((false,(⟨#[49]⟩:ByteArray),(⟨#[48]⟩:ByteArray),()):IV)=cc topC:=by
 unfold cc topC;rw[if_neg (by simp)];simp only;rw[i1,i0]
theorem rest_K{x m:Int}(hx: -K < x∧x < K)(hm: -K < m∧m < K)(h0:m≠0): -K < x.fmod m∧x.fmod m < K:=by
 have:=fmod_abs (x:=x) h0
 omega
theorem class_f(lf:Nat)(hlf:2000000000≤lf){m r:Int}(hm: -K < m∧m < K)(hr: -K < r∧r < K):congruence_class.f lf (bs (Lib.itoa m)) (bs (Lib.itoa r))=some (cc (clsF m r),()):=by
 have ha: -K < (m.natAbs:Int)∧(m.natAbs:Int) < K:=by omega
 rw[congruence_class.f,abs_f lf hm,bdS]
 simp only[api_Int.f,bdS,beq0,longI lf ha,congruence_Top.f,top_c]
 unfold clsF
 by_cases h:m=0
 ·subst h
  simp only[longI lf hr,bdS]
  rw[decide_eq_true (by trivial),Bool.not_true,brF]
  by_cases c1:sz ((0:Int).natAbs:Int) > 100
  ·rw[decide_eq_true c1,brT,if_pos (.inl c1)]
  ·rw[decide_eq_false c1,brF]
   by_cases c2:sz r > 100
   ·rw[decide_eq_true c2,brT,if_pos (.inr (by rw[if_pos trivial];exact c2))]
   ·rw[decide_eq_false c2,brF,if_neg (by rw[if_pos trivial];exact fun x=>x.elim c1 c2),if_pos trivial]
    unfold cc;rw[if_neg (by simp)]
 ·have h':(m.natAbs:Int)≠0:=by omega
  have rk:=rest_K hr ha h'
  simp only[rem_small lf hlf hr ha h',bdS,longI lf rk]
  rw[decide_eq_false h',Bool.not_false,brT]
  by_cases c1:sz (m.natAbs:Int) > 100
  ·rw[decide_eq_true c1,brT,if_pos (.inl c1)]
  ·rw[decide_eq_false c1,brF]
   by_cases c2:sz (r.fmod (m.natAbs:Int)) > 100
   ·rw[decide_eq_true c2,brT,if_pos (.inr (by rw[if_neg h];exact c2))]
   ·rw[decide_eq_false c2,brF,if_neg (by rw[if_neg h];exact fun x=>x.elim c1 c2),if_neg h]
    unfold cc;rw[if_neg (by simp)]
theorem digitsI(lf:Nat){z:Int}(hz: -K < z∧z < K):surveyorref01_Digits.f lf (bs (Lib.itoa z))=some ((sz z:Int),()):=by
 have:=okb_len hz
 exact rDigits_f lf _ (itoa_ne z) (by omega)
theorem gt100(n:Nat):decide (((n:Nat):Int) > 100)=decide (n > 100):=by simp only[decide_eq_decide];omega
theorem class_ref(lf:Nat)(h3:200000≤lf){m r:Int}(hm: -K < m∧m < K)(hr: -K < r∧r < K):surveyorref22_Class.f lf (bs (Lib.itoa m)) (bs (Lib.itoa r))=some (cc (clsF m r),()):=by
 have ha: -K < (m.natAbs:Int)∧(m.natAbs:Int) < K:=by omega
 rw[surveyorref22_Class.f,magnitude_ref,bdS]
 simp only[beq0,digitsI lf ha,bdS,surveyorref22_Top.f,top_c,gt100]
 unfold clsF
 by_cases h:m=0
 ·subst h
  simp only[digitsI lf hr,bdS,gt100]
  rw[decide_eq_true (by trivial),Bool.not_true,brF]
  by_cases c1:sz ((0:Int).natAbs:Int) > 100
  ·rw[decide_eq_true c1,brT,if_pos (.inl c1)]
  ·rw[decide_eq_false c1,brF]
   by_cases c2:sz r > 100
   ·rw[decide_eq_true c2,brT,if_pos (.inr (by rw[if_pos trivial];exact c2))]
   ·rw[decide_eq_false c2,brF,if_neg (by rw[if_pos trivial];exact fun x=>x.elim c1 c2),if_pos trivial]
    unfold cc;rw[if_neg (by simp)]
 ·have h':(m.natAbs:Int)≠0:=by omega
  have rk:=rest_K hr ha h'
  have s1:=szK hr
  have s2:=szK ha
  simp only[rest_ref lf h3 (x:=r) (y:=(m.natAbs:Int)) (by omega) (by omega) h',bdS,digitsI lf rk,gt100]
  rw[decide_eq_false h,Bool.not_false,brT]
  by_cases c1:sz (m.natAbs:Int) > 100
  ·rw[decide_eq_true c1,brT,if_pos (.inl c1)]
  ·rw[decide_eq_false c1,brF]
   by_cases c2:sz (r.fmod (m.natAbs:Int)) > 100
   ·rw[decide_eq_true c2,brT,if_pos (.inr (by rw[if_neg h];exact c2))]
   ·rw[decide_eq_false c2,brF,if_neg (by rw[if_neg h];exact fun x=>x.elim c1 c2),if_neg h]
    unfold cc;rw[if_neg (by simp)]
def dvd'(m a:Int):Bool:=if m=0 then decide (a=0)else decide (a.fmod m=0)
theorem divides_f(lf:Nat)(hlf:2000000000≤lf){m a:Int}(hm: -K < m∧m < K)(ha: -K < a∧a < K):congruence_divides.f lf (bs (Lib.itoa m)) (bs (Lib.itoa a))=some (dvd' m a,()):=by
 rw[congruence_divides.f,beq0]
 unfold dvd'
 by_cases h:m=0
 ·rw[decide_eq_true h,brT,if_pos h,beq0]
 ·rw[decide_eq_false h,brF,if_neg h,rem_small lf hlf ha hm h,bdS,api_Int.f,bdS,beq0]
theorem divides_ref(lf:Nat)(h3:200000≤lf){m a:Int}(hm:sz m≤20000)(ha:sz a≤20000):surveyorref22_Divides.f lf (bs (Lib.itoa m)) (bs (Lib.itoa a))=some (dvd' m a,()):=by
 rw[surveyorref22_Divides.f,beq0]
 unfold dvd'
 by_cases h:m=0
 ·rw[decide_eq_true h,brT,if_pos h,beq0]
 ·rw[decide_eq_false h,brF,if_neg h,rest_ref lf h3 ha hm h,bdS,beq0]
end Go.N
namespace Go.N
open Go Go.Q Go.Rx
theorem gcd_lt{k x y:Int}(hx: -k < x∧x < k)(hy: -k < y∧y < k): -k < (Int.gcd x y:Int)∧(Int.gcd x y:Int) < k:=by
 by_cases h:x=0
 ·subst h;rw[Int.gcd_zero_left];omega
 ·have:=Nat.gcd_le_left y.natAbs (show 0 < x.natAbs by omega)
  have e:Int.gcd x y=Nat.gcd x.natAbs y.natAbs:=rfl
  omega
section
variable (lf:Nat)(hb:Big lf)
include hb
theorem cgcd_f{x y:Int}(hx: -K < x∧x < K)(hy: -K < y∧y < K):congruence_gcd.f lf (bs (Lib.itoa x)) (bs (Lib.itoa y))=some (bs (Lib.itoa (Int.gcd x y)),()):=by
 rw[congruence_gcd.f,gcd_f lf hb hx hy,bdS,api_Int.f,bdS]
theorem csub_f{x y:Int}(hx: -K < x∧x < K)(hy: -K < y∧y < K)(h: -K < x-y∧x-y < K):congruence_sub.f lf (bs (Lib.itoa x)) (bs (Lib.itoa y))=some (bs (Lib.itoa (x-y)),()):=by
 have:=(sz_K (x-y)).2 h
 rw[congruence_sub.f,sub_f lf _ _ (chkK hx) (chkK hy) (by have:=hb.1;omega),iv_itoa,iv_itoa,dlen_sz,if_neg (by omega),bdS,api_Int.f,bdS]
theorem cadd_f{x y:Int}(hx: -K < x∧x < K)(hy: -K < y∧y < K)(h: -K < x+y∧x+y < K):congruence_add.f lf (bs (Lib.itoa x)) (bs (Lib.itoa y))=some (bs (Lib.itoa (x+y)),()):=by
 rw[congruence_add.f,add_small lf (by have:=hb.1;omega) hx hy h,bdS,api_Int.f,bdS]
theorem cmul_f{x y:Int}(hx: -K < x∧x < K)(hy: -K < y∧y < K)(h: -K < x*y∧x*y < K):congruence_mul.f lf (bs (Lib.itoa x)) (bs (Lib.itoa y))=some (bs (Lib.itoa (x*y)),()):=by
 rw[congruence_mul.f,mul_small lf (by have:=hb.1;omega) hx hy h,bdS,api_Int.f,bdS]
end
def joinC(c d:Cg):Cg:=if c.em=true then d else if d.em=true then c else clsF (Int.gcd (Int.gcd c.m d.m) (c.r-d.r)) c.r
def plusC(c d:Cg):Cg:=if c.em=true then Ec else if d.em=true then Ec else clsF (Int.gcd c.m d.m) (c.r+d.r)
def minusC(c d:Cg):Cg:=if c.em=true then Ec else if d.em=true then Ec else clsF (Int.gcd c.m d.m) (c.r-d.r)
def timesC(c d:Cg):Cg:=if c.em=true then Ec else if d.em=true then Ec else clsF (Int.gcd (c.m*d.m) (Int.gcd (c.m*d.r) (d.m*c.r))) (c.r*d.r)
theorem cc_ne{c:Cg}(h:c.em=false):cc c=(false,bs (Lib.itoa c.m),bs (Lib.itoa c.r),()):=by unfold cc;rw[if_neg (by simp[h])]
theorem cc_em{c:Cg}(h:c.em=true):cc c=(true,bs [],bs [],()):=by unfold cc;rw[if_pos h]
theorem wf_ckc{c:Cg}(h:WfC c):∃ (l m:List UInt8),cc c=(c.em,bs l,bs m,())∧ckc c.em l m=0∧l.length≤101∧m.length≤101:=by
 have hK:=C_lt_K
 cases e:c.em with
 | true=>exact⟨[],[],cc_em e,by simp[ckc],by simp,by simp⟩
 | false =>
  have n1:=(num_itoa c.m).2 h.m
  have n2:=(num_itoa c.r).2 h.r
  refine⟨Lib.itoa c.m,Lib.itoa c.r,cc_ne e,?_,num_len n1,num_len n2⟩
  unfold ckc
  rw[if_neg (by simp),n1,n2,iv_itoa,iv_itoa,if_neg (by simp),if_neg (by simp),if_neg]
  have a:=h.pos
  have b:=h.rng
  intro x
  rcases x with x | ⟨x,y⟩
  ·omega
  ·have:=b x;omega
section
variable (lf:Nat)(hb:Big lf){c d:Cg}(hc:WfC c)(hd:WfC d)
include hb hc
theorem ccheck:congruence_Check.f lf (cc c)=some (0,()):=by
 obtain⟨l,m,e,h,a,b⟩:=wf_ckc hc
 rw[e,ckc_f lf (by have:=hb.1;omega) _ _ _ (by omega) (by omega),h]
theorem rcheck:surveyorref22_Check.f lf (cc c)=some (0,()):=by
 obtain⟨l,m,e,h,a,b⟩:=wf_ckc hc
 have:=hb.1
 rw[e,ckc_ref lf (by omega) _ _ _ (by omega) (by omega) (by omega) (by omega),h]
include hd
theorem cboth:congruence_both.f lf (cc c) (cc d)=some (0,()):=by
 rw[congruence_both.f,ccheck lf hb hc,bdS]
 simp only[bne_self_eq_false,brF]
 rw[ccheck lf hb hd,bdS]
theorem bounds:(-K < c.m∧c.m < K)∧(-K < c.r∧c.r < K)∧(-K < d.m∧d.m < K)∧(-K < d.r∧d.r < K)∧(-K < c.r-d.r∧c.r-d.r < K)∧(-K < c.r+d.r∧c.r+d.r < K)∧(-K < c.m*d.m∧c.m*d.m < K)∧(-K < c.m*d.r∧c.m*d.r < K)∧(-K < d.m*c.r∧d.m*c.r < K)∧(-K < c.r*d.r∧c.r*d.r < K):=by
 have hK:=CC_K
 have hC:=C_gt
 have hCK:=C_lt_K
 have h4:0≤C*C:=Int.mul_nonneg (by omega) (by omega)
 have a1:=hc.m
 have a2:=hc.r
 have a3:=hd.m
 have a4:=hd.r
 have m1:=mul_C a1 a3
 have m2:=mul_C a1 a4
 have m3:=mul_C a3 a2
 have m4:=mul_C a2 a4
 refine⟨by omega,by omega,by omega,by omega,by omega,by omega,by omega,by omega,by omega,by omega⟩
theorem join_c:congruence_Join.f lf (cc c) (cc d)=some (cc (joinC c d),0,()):=by
 obtain⟨b1,b2,b3,b4,b5,b6,b7,b8,b9,b10⟩:=bounds lf hb hc hd
 rw[congruence_Join.f,cboth lf hb hc hd,bdS]
 unfold joinC
 cases ec:c.em with
 | true=>rw[cc_em ec];simp only[bne_self_eq_false,brF,brT,if_true]
 | false=>cases ed:d.em with
  | true=>rw[cc_ne ec,cc_em ed];simp only[bne_self_eq_false,brF,brT,if_true,if_false,Bool.false_eq_true];rw[cc_ne ec]
  | false =>
   rw[cc_ne ec,cc_ne ed]
   have g1:=gcd_lt b1 b3
   simp only[bne_self_eq_false,brF,if_false,Bool.false_eq_true,cgcd_f lf hb b1 b3,csub_f lf hb b2 b4 b5,bdS,cgcd_f lf hb g1 b5,class_f lf hb.1 (gcd_lt g1 b5) b2]
theorem add_c:congruence_Add.f lf (cc c) (cc d)=some (cc (plusC c d),0,()):=by
 obtain⟨b1,b2,b3,b4,b5,b6,b7,b8,b9,b10⟩:=bounds lf hb hc hd
 rw[congruence_Add.f,cboth lf hb hc hd,bdS]
 unfold plusC
 cases ec:c.em with
 | true=>rw[cc_em ec];simp only[bne_self_eq_false,brF,brT,if_true,congruence_none.f,bdS];rfl
 | false=>cases ed:d.em with
  | true=>rw[cc_ne ec,cc_em ed];simp only[bne_self_eq_false,brF,brT,if_true,if_false,Bool.false_eq_true,congruence_none.f,bdS];rfl
  | false =>
   rw[cc_ne ec,cc_ne ed]
   simp only[bne_self_eq_false,brF,if_false,Bool.false_eq_true,congruence_Add_1.f,cgcd_f lf hb b1 b3,cadd_f lf hb b2 b4 b6,bdS,class_f lf hb.1 (gcd_lt b1 b3) b6]
theorem sub_c:congruence_Sub.f lf (cc c) (cc d)=some (cc (minusC c d),0,()):=by
 obtain⟨b1,b2,b3,b4,b5,b6,b7,b8,b9,b10⟩:=bounds lf hb hc hd
 rw[congruence_Sub.f,cboth lf hb hc hd,bdS]
 unfold minusC
 cases ec:c.em with
 | true=>rw[cc_em ec];simp only[bne_self_eq_false,brF,brT,if_true,congruence_none.f,bdS];rfl
 | false=>cases ed:d.em with
  | true=>rw[cc_ne ec,cc_em ed];simp only[bne_self_eq_false,brF,brT,if_true,if_false,Bool.false_eq_true,congruence_none.f,bdS];rfl
  | false =>
   rw[cc_ne ec,cc_ne ed]
   simp only[bne_self_eq_false,brF,if_false,Bool.false_eq_true,congruence_Sub_1.f,cgcd_f lf hb b1 b3,csub_f lf hb b2 b4 b5,bdS,class_f lf hb.1 (gcd_lt b1 b3) b5]
theorem mul_c:congruence_Mul.f lf (cc c) (cc d)=some (cc (timesC c d),0,()):=by
 obtain⟨b1,b2,b3,b4,b5,b6,b7,b8,b9,b10⟩:=bounds lf hb hc hd
 rw[congruence_Mul.f,cboth lf hb hc hd,bdS]
 unfold timesC
 cases ec:c.em with
 | true=>rw[cc_em ec];simp only[bne_self_eq_false,brF,brT,if_true,congruence_none.f,bdS];rfl
 | false=>cases ed:d.em with
  | true=>rw[cc_ne ec,cc_em ed];simp only[bne_self_eq_false,brF,brT,if_true,if_false,Bool.false_eq_true,congruence_none.f,bdS];rfl
  | false =>
   rw[cc_ne ec,cc_ne ed]
   have g1:=gcd_lt b8 b9
   simp only[bne_self_eq_false,brF,if_false,Bool.false_eq_true,congruence_Mul_1.f,cmul_f lf hb b1 b3 b7,cmul_f lf hb b1 b4 b8,cmul_f lf hb b3 b2 b9,cmul_f lf hb b2 b4 b10,bdS,cgcd_f lf hb b8 b9,cgcd_f lf hb b7 g1,class_f lf hb.1 (gcd_lt b7 g1) b10]
end
end Go.N
namespace Go.N
open Go Go.Q Go.Rx
def zeroC(c:Cg):Bool:=decide (c.m=0∧c.r=0)
theorem zero_eq{c:Cg}(h:c.em=false):(((cc c).1==false)&&(((cc c).2.1==(⟨#[48]⟩:ByteArray))&&(((cc c).2.2.1==(⟨#[48]⟩:ByteArray))&&true)))=zeroC c:=by
 rw[cc_ne h]
 simp only[ba_beq,i0,BEq.rfl,Bool.true_and,Bool.and_true,zeroC]
 have e:∀ z:Int,decide (bs (Lib.itoa z)=bs (Lib.itoa 0))=decide (z=0):=fun z=>by
  simp only[decide_eq_decide]
  exact⟨fun x=>itoa_inj (bs_inj x),fun x=>by rw[x]⟩
 rw[e,e]
 by_cases h1:c.m=0<;>by_cases h2:c.r=0<;>simp[h1,h2]
def quoC(c d:Cg):Cg:=if c.em=true then Ec else if d.em=true then Ec else if zeroC d=true then Ec else if d.m≠0 then(if zeroC c=true then c else topC)else if dvd' d.r c.m=true then clsF (c.m.fdiv d.r) (c.r.fdiv d.r)else topC
section
variable (lf:Nat)(hb:Big lf){c d:Cg}(hc:WfC c)(hd:WfC d)
include hb hc hd
theorem quo_c:congruence_Quo.f lf (cc c) (cc d)=some (cc (quoC c d),0,()):=by
 obtain⟨b1,b2,b3,b4,b5,b6,b7,b8,b9,b10⟩:=bounds lf hb hc hd
 have hlf:=hb.1
 rw[congruence_Quo.f,cboth lf hb hc hd,bdS]
 unfold quoC
 cases ec:c.em with
 | true=>rw[cc_em ec];simp only[bne_self_eq_false,brF,brT,if_true,congruence_none.f,bdS];rfl
 | false=>cases ed:d.em with
  | true=>rw[cc_ne ec,cc_em ed];simp only[bne_self_eq_false,brF,brT,if_true,if_false,Bool.false_eq_true,congruence_none.f,bdS];rfl
  | false =>
   have z1:=zero_eq ec
   have z2:=zero_eq ed
   have e1:(cc c).1=false:=by rw[cc_ne ec]
   have e2:(cc d).1=false:=by rw[cc_ne ed]
   simp only[bne_self_eq_false,brF,e1,e2,if_false,Bool.false_eq_true]
   rw[congruence_quo.f,congruence_single.f]
   simp only[bdS,z1,z2,congruence_none.f,congruence_Top.f,top_c]
   cases zd:zeroC d with
   | true=>simp only[brT,if_true,bdS];rfl
   | false =>
    have k1:(cc d).2.1=bs (Lib.itoa d.m):=by rw[cc_ne ed]
    have k2:(cc d).2.2.1=bs (Lib.itoa d.r):=by rw[cc_ne ed]
    have k3:(cc c).2.1=bs (Lib.itoa c.m):=by rw[cc_ne ec]
    have k4:(cc c).2.2.1=bs (Lib.itoa c.r):=by rw[cc_ne ec]
    simp only[brF,if_false,Bool.false_eq_true,k1,k2,k3,k4,beq0]
    by_cases h:d.m=0
    ·rw[decide_eq_true h,Bool.not_true,brF,if_neg (by simpa using h),divides_f lf hlf b4 b1,bdS]
     have r0:d.r≠0:=fun x=>by unfold zeroC at zd;simp[h,x]at zd
     simp only
     cases dv:dvd' d.r c.m with
     | true =>
      have q1: -K < c.m.fdiv d.r∧c.m.fdiv d.r < K:=by have:=fdiv_abs (x:=c.m) r0;have:=hc.m;have:=CC_K;have:=C_gt;have:=Int.mul_nonneg (show 0≤C by omega) (show 0≤C by omega);omega
      have q2: -K < c.r.fdiv d.r∧c.r.fdiv d.r < K:=by have:=fdiv_abs (x:=c.r) r0;have:=hc.r;have:=CC_K;have:=C_gt;have:=Int.mul_nonneg (show 0≤C by omega) (show 0≤C by omega);omega
      simp only[brT,if_true,quo_small lf hlf b1 b4 r0,quo_small lf hlf b2 b4 r0,bdS,api_Int.f,class_f lf hlf q1 q2]
     | false=>simp only[brF,if_false,Bool.false_eq_true,bdS]
    ·rw[decide_eq_false h,Bool.not_false,brT,if_pos h]
     cases zc:zeroC c with
     | true=>simp only[brT,if_true,bdS]
     | false=>simp only[brF,if_false,Bool.false_eq_true,bdS]
end
end Go.N
namespace Go.N
open Go Go.Q Go.Rx
def restC(c d:Cg):Cg:=if c.em=true then Ec else if d.em=true then Ec else if zeroC d=true then Ec else if d.m=0∧dvd' d.r c.m=true then clsF 0 (c.r.fmod d.r)else clsF (Int.gcd c.m (Int.gcd d.m d.r)) c.r
section
variable (lf:Nat)(hb:Big lf){c d:Cg}(hc:WfC c)(hd:WfC d)
include hb hc hd
theorem rem_c:congruence_Rem.f lf (cc c) (cc d)=some (cc (restC c d),0,()):=by
 obtain⟨b1,b2,b3,b4,b5,b6,b7,b8,b9,b10⟩:=bounds lf hb hc hd
 have hlf:=hb.1
 have g1:=gcd_lt b3 b4
 have g2:=gcd_lt b1 g1
 rw[congruence_Rem.f,cboth lf hb hc hd,bdS]
 unfold restC
 cases ec:c.em with
 | true=>rw[cc_em ec];simp only[bne_self_eq_false,brF,brT,if_true,congruence_none.f,bdS];rfl
 | false=>cases ed:d.em with
  | true=>rw[cc_ne ec,cc_em ed];simp only[bne_self_eq_false,brF,brT,if_true,if_false,Bool.false_eq_true,congruence_none.f,bdS];rfl
  | false =>
   have z2:=zero_eq ed
   have e1:(cc c).1=false:=by rw[cc_ne ec]
   have e2:(cc d).1=false:=by rw[cc_ne ed]
   simp only[bne_self_eq_false,brF,e1,e2,if_false,Bool.false_eq_true]
   rw[congruence_rest.f,congruence_single.f]
   simp only[bdS,z2,congruence_none.f]
   cases zd:zeroC d with
   | true=>simp only[brT,if_true,bdS];rfl
   | false =>
    have k1:(cc d).2.1=bs (Lib.itoa d.m):=by rw[cc_ne ed]
    have k2:(cc d).2.2.1=bs (Lib.itoa d.r):=by rw[cc_ne ed]
    have k3:(cc c).2.1=bs (Lib.itoa c.m):=by rw[cc_ne ec]
    have k4:(cc c).2.2.1=bs (Lib.itoa c.r):=by rw[cc_ne ec]
    simp only[brF,if_false,Bool.false_eq_true,k1,k2,k3,k4,beq0,cgcd_f lf hb b3 b4,cgcd_f lf hb b1 g1,bdS,class_f lf hlf g2 b2]
    by_cases h:d.m=0
    ·rw[decide_eq_true h,brT,divides_f lf hlf b4 b1,bdS]
     have r0:d.r≠0:=fun x=>by unfold zeroC at zd;simp[h,x]at zd
     have k0: -K < (0:Int)∧(0:Int) < K:=by have:=K_gt;omega
     simp only
     cases dv:dvd' d.r c.m with
     | true =>
      rw[if_pos ⟨h,rfl⟩]
      simp only[brT,rem_small lf hlf b2 b4 r0,bdS,api_Int.f,i0,class_f lf hlf k0 (rest_K b2 b4 r0)]
     | false=>rw[if_neg (by simp)];simp only[brF,bdS]
    ·rw[decide_eq_false h,brF,if_neg (fun x=>h x.1),bdS]
end
end Go.N
namespace Go.N
open Go Go.Q Go.Rx
theorem clsF_wf{m r:Int}:WfC (clsF m r):=by
 have hC:=C_gt
 unfold clsF
 by_cases h:sz (m.natAbs:Int) > 100∨sz (if m=0 then r else r.fmod (m.natAbs:Int)) > 100
 ·rw[if_pos h]
  exact⟨by simp only[topC];omega,by simp only[topC];omega,by simp[topC],fun _=>by simp[topC]⟩
 ·rw[if_neg h]
  have h1:=(sz_C (m.natAbs:Int)).1 (by omega)
  have h2:=(sz_C (if m=0 then r else r.fmod (m.natAbs:Int))).1 (by omega)
  refine⟨h1,h2,by simp only;omega,fun x=>?_⟩
  simp only at x⊢
  have h0:m≠0:=by omega
  rw[if_neg h0]
  exact⟨Int.fmod_nonneg_of_pos r (by omega),Int.fmod_lt_of_pos r (by omega)⟩
theorem Ec_wf:WfC Ec:=by
 have hC:=C_gt
 exact⟨by simp only[Ec];omega,by simp only[Ec];omega,by simp[Ec],fun x=>absurd rfl x⟩
theorem topC_wf:WfC topC:=by
 have hC:=C_gt
 exact⟨by simp only[topC];omega,by simp only[topC];omega,by simp[topC],fun _=>by simp[topC]⟩
theorem joinC_wf{c d:Cg}(hc:WfC c)(hd:WfC d):WfC (joinC c d):=by
 unfold joinC;split
 ·exact hd
 ·split
  ·exact hc
  ·exact clsF_wf
theorem plusC_wf{c d:Cg}:WfC (plusC c d):=by unfold plusC;split;exact Ec_wf;split;exact Ec_wf;exact clsF_wf
theorem minusC_wf{c d:Cg}:WfC (minusC c d):=by unfold minusC;split;exact Ec_wf;split;exact Ec_wf;exact clsF_wf
theorem timesC_wf{c d:Cg}:WfC (timesC c d):=by unfold timesC;split;exact Ec_wf;split;exact Ec_wf;exact clsF_wf
theorem quoC_wf{c d:Cg}(hc:WfC c):WfC (quoC c d):=by
 unfold quoC;split;exact Ec_wf;split;exact Ec_wf;split;exact Ec_wf;split
 ·split;exact hc;exact topC_wf
 ·split;exact clsF_wf;exact topC_wf
theorem restC_wf{c d:Cg}:WfC (restC c d):=by unfold restC;split;exact Ec_wf;split;exact Ec_wf;split;exact Ec_wf;split;exact clsF_wf;exact clsF_wf
def inC(c:Cg)(a:Int):Bool:=!c.em&&dvd' c.m (a-c.r)
section
variable (lf:Nat)(hb:Big lf){c d:Cg}(hc:WfC c)(hd:WfC d)
include hb hc hd
end
theorem in_def{c:Cg}(hc:WfC c)(h:c.em=false)(a:Int):inC c a=if c.m=0 then decide (a=c.r)else decide (a.fmod c.m=c.r):=by
 unfold inC dvd'
 rw[h,Bool.not_false,Bool.true_and]
 by_cases z:c.m=0
 ·rw[if_pos z,if_pos z];simp only[decide_eq_decide];omega
 ·rw[if_neg z,if_neg z]
  have r:=hc.rng z
  have p:0 < c.m:=by have:=hc.pos;omega
  simp only[decide_eq_decide]
  have m1:=Int.mul_fdiv_add_fmod a c.m
  have m2:=Int.mul_fdiv_add_fmod (a-c.r) c.m
  constructor
  ·intro e
   exact((fdiv_unique (x:=a) (y:=c.m) (q:=(a-c.r).fdiv c.m) (r:=c.r) (by omega) (.inl r)).2).symm
  ·intro e
   exact((fdiv_unique (x:=a-c.r) (y:=c.m) (q:=a.fdiv c.m) (r:=0) (by omega) (.inl (by omega))).2).symm
section
variable (lf:Nat)(hb:Big lf){c:Cg}(hc:WfC c)
include hb hc
theorem holds_c{a:Int}(ha: -K < a∧a < K):congruence_Holds.f lf (cc c) (bs (Lib.itoa a))=some (inC c a,0,()):=by
 have hlf:=hb.1
 have hl:=okb_len ha
 have bm:=CK hc.m
 rw[congruence_Holds.f,ccheck lf hb hc,bdS]
 simp only[bne_self_eq_false,brF,check_f lf (Lib.itoa a) (by omega),chkK ha,bdS]
 cases ec:c.em with
 | true=>rw[cc_em ec];simp only[brT,inC,ec,Bool.not_true,Bool.false_and]
 | false =>
  rw[in_def hc ec,cc_ne ec]
  simp only[brF,beq0]
  have bq:∀ x y:Int,((bs (Lib.itoa x)).toList==(bs (Lib.itoa y)).toList)=decide (x=y):=fun x y=>by
   rw[beq_bs];simp only[decide_eq_decide];exact⟨fun e=>itoa_inj e,fun e=>by rw[e]⟩
  by_cases z:c.m=0
  ·rw[decide_eq_true z,brT,if_pos z,bq]
  ·rw[decide_eq_false z,brF,if_neg z,rem_small lf hlf ha bm z,bdS,api_Int.f,bdS,bq]
theorem in_r{a:Int}(ha: -Dd < a∧a < Dd):surveyorref22_In.f lf (cc c) (bs (Lib.itoa a))=some (inC c a,()):=by
 have h3:200000≤lf:=by have:=hb.1;omega
 have hD:=DD_K
 have hC:=C_gt
 have hCD:=C_lt_Dd
 have h4:0≤Dd*Dd:=Int.mul_nonneg (by omega) (by omega)
 have bm:=hc.m
 have br':=hc.r
 rw[surveyorref22_In.f]
 unfold inC
 cases ec:c.em with
 | true=>rw[cc_em ec];simp only[Bool.not_true,brF,Bool.false_and]
 | false =>
  rw[cc_ne ec]
  have s1:=szK (CK bm)
  have s2:=szK (z:=a-c.r) (by omega)
  simp only[Bool.not_false,brT,Bool.true_and,diffI lf h3 (x:=a) (y:=c.r) (by omega) (by omega),bdS,divides_ref lf h3 (m:=c.m) (a:=a-c.r) (by omega) (by omega)]
end
end Go.N
namespace Go.N
open Go Go.Q Go.Rx
def negC(c:Cg):Cg:=if c.em=true then Ec else clsF c.m (-c.r)
theorem clsF_abs(m r:Int):clsF (m.natAbs:Int) r=clsF m r:=by
 unfold clsF
 have e:((m.natAbs:Int)).natAbs=m.natAbs:=by omega
 have z:((m.natAbs:Int)=0)=(m=0):=by simp
 simp only[e,z]
theorem sing_wf:WfC ⟨false,0,0⟩:=by
 have hC:=C_gt
 exact⟨by simp only;omega,by simp only;omega,by simp,fun x=>absurd rfl x⟩
theorem minus_neg(c:Cg):minusC ⟨false,0,0⟩ c=negC c:=by
 unfold minusC negC
 rw[if_neg (by simp)]
 split
 ·rfl
 ·simp only[Int.gcd_zero_left,Int.zero_sub,clsF_abs]
theorem negC_wf{c:Cg}:WfC (negC c):=by unfold negC;split;exact Ec_wf;exact clsF_wf
section
variable (lf:Nat)(hb:Big lf){c:Cg}(hc:WfC c)
include hb hc
theorem neg_c:congruence_Neg.f lf (cc c)=some (cc (negC c),0,()):=by
 have s:=sub_c lf hb sing_wf hc
 rw[minus_neg]at s
 have e:((false,(⟨#[48]⟩:ByteArray),(⟨#[48]⟩:ByteArray),()):IV)=cc ⟨false,0,0⟩:=by rw[cc_ne rfl,i0]
 rw[congruence_Neg.f,congruence_single.f,bdS]
 simp only[e,s,bdS]
theorem negative_c:surveyorref22_Negative.f lf (cc c)=some (cc (negC c),()):=by
 have h3:200000≤lf:=by have:=hb.1;omega
 have bm:=CK hc.m
 have br':=CK hc.r
 rw[surveyorref22_Negative.f]
 unfold negC
 cases ec:c.em with
 | true=>rw[cc_em ec];simp only[brT,if_true];rfl
 | false =>
  rw[cc_ne ec]
  simp only[brF,if_false,Bool.false_eq_true,negated_ref lf br',bdS,class_ref lf h3 bm (r:= -c.r) (by omega)]
end
end Go.N
namespace Go.N
open Go Go.Q Go.Rx
def aboveC(c:Cg)(a:Int):Option Int:=if c.m=0 then(if c.r < a then none else some c.r)else some (a+(c.r-a).fmod c.m)
theorem fmod_sub{x y m:Int}(h:0 < m):(x.fmod m-y.fmod m).fmod m=(x-y).fmod m:=by
 rw[Int.fmod_eq_emod_of_nonneg _ (Int.le_of_lt h),Int.fmod_eq_emod_of_nonneg _ (Int.le_of_lt h),Int.fmod_eq_emod_of_nonneg _ (Int.le_of_lt h),Int.fmod_eq_emod_of_nonneg _ (Int.le_of_lt h),←Int.sub_emod]
section
variable (lf:Nat)(hb:Big lf){c:Cg}(hc:WfC c)(he:c.em=false){a:Int}(ha: -Dd < a∧a < Dd)
include hb hc he ha
theorem least_c:congruence_Least.f lf (cc c) (bs (Lib.itoa a))=some (match aboveC c a with
  | none=>(bs [],6,())
  | some v=>(bs (Lib.itoa v),0,())):=by
 have hlf:=hb.1
 have hD:=DD_K
 have hC:=C_gt
 have hCD:=C_lt_Dd
 have h4:0≤Dd*Dd:=Int.mul_nonneg (by omega) (by omega)
 have ka: -K < a∧a < K:=by omega
 have hl:=okb_len ka
 have m1:=hc.m
 have r1:=hc.r
 have bm:=CK hc.m
 have br':=CK hc.r
 rw[congruence_Least.f,ccheck lf hb hc,bdS]
 simp only[bne_self_eq_false,brF,check_f lf (Lib.itoa a) (by omega),chkK ka,bdS]
 rw[cc_ne he]
 simp only[brF,beq0]
 unfold aboveC
 by_cases z:c.m=0
 ·rw[decide_eq_true z,Bool.not_true,brF,if_pos z,less_c lf _ _ (chkK br') (chkK ka) (by omega),iv_itoa,iv_itoa,bdS]
  simp only
  by_cases h:c.r < a
  ·rw[decide_eq_true h,brT,if_pos h]
  ·rw[decide_eq_false h,brF,if_neg h]
 ·have p:0 < c.m:=by have:=hc.pos;omega
  have k1:=rest_K br' bm z
  have k2:=rest_K ka bm z
  have g1:=Int.fmod_nonneg_of_pos c.r p
  have g2:=Int.fmod_lt_of_pos c.r p
  have g3:=Int.fmod_nonneg_of_pos a p
  have g4:=Int.fmod_lt_of_pos a p
  have k3: -K < c.r.fmod c.m-a.fmod c.m∧c.r.fmod c.m-a.fmod c.m < K:=by omega
  have g5:=Int.fmod_nonneg_of_pos (c.r-a) p
  have g6:=Int.fmod_lt_of_pos (c.r-a) p
  rw[decide_eq_false z,Bool.not_false,brT,if_neg z,congruence_modulo.f,rem_small lf hlf br' bm z,bdS]
  simp only[bne_self_eq_false,brF,rem_small lf hlf ka bm z,bdS,csub_f lf hb k1 k2 k3,rem_small lf hlf k3 bm z,fmod_sub p,add_small lf (by omega) ka (y:=(c.r-a).fmod c.m) (by omega) (by omega)]
theorem above_c:surveyorref22_Above.f lf (cc c) (bs (Lib.itoa a))=some (match aboveC c a with
  | none=>(bs [],false,())
  | some v=>(bs (Lib.itoa v),true,())):=by
 have h3:200000≤lf:=by have:=hb.1;omega
 have hD:=DD_K
 have hC:=C_gt
 have hCD:=C_lt_Dd
 have h4:0≤Dd*Dd:=Int.mul_nonneg (by omega) (by omega)
 have ka: -K < a∧a < K:=by omega
 have m1:=hc.m
 have r1:=hc.r
 have bm:=CK hc.m
 have br':=CK hc.r
 rw[surveyorref22_Above.f,cc_ne he]
 simp only[beq0]
 unfold aboveC
 by_cases z:c.m=0
 ·rw[decide_eq_true z,brT,if_pos z,lessI lf h3 br' ka,bdS]
  simp only
  by_cases h:c.r < a
  ·rw[decide_eq_true h,brT,if_pos h]
  ·rw[decide_eq_false h,brF,if_neg h]
 ·have p:0 < c.m:=by have:=hc.pos;omega
  have g5:=Int.fmod_nonneg_of_pos (c.r-a) p
  have g6:=Int.fmod_lt_of_pos (c.r-a) p
  have kd: -K < c.r-a∧c.r-a < K:=by omega
  have s1:=szK kd
  have s2:=szK bm
  simp only[decide_eq_false z,brF,if_neg z,diffI lf h3 br' ka,bdS,rest_ref lf h3 (x:=c.r-a) (y:=c.m) (by omega) (by omega) z,sumI lf h3 ka (y:=(c.r-a).fmod c.m) (by omega)]
end
end Go.N
namespace Go.N
open Go Go.Q Go.Rx
def belowC(c:Cg)(a:Int):Option Int:=if c.m=0 then(if a < c.r then none else some c.r)else some (a-(a-c.r).fmod c.m)
theorem clsF_in{m r:Int}(h0:0≤m)(hm: -C < m∧m < C)(hr: -C < r∧r < C):clsF m r=⟨false,m,if m=0 then r else r.fmod m⟩:=by
 have e:(m.natAbs:Int)=m:=by omega
 unfold clsF
 rw[e]
 have s1:=(sz_C m).2 hm
 have s2:sz (if m=0 then r else r.fmod m)≤100:=by
  apply (sz_C _).2
  split
  ·exact hr
  ·have a:=Int.fmod_nonneg_of_pos r (show 0 < m by omega)
   have b:=Int.fmod_lt_of_pos r (show 0 < m by omega)
   omega
 rw[if_neg (by omega)]
theorem below_neg{c:Cg}(hc:WfC c)(he:c.em=false)(a:Int):belowC c a=(aboveC (negC c) (-a)).map fun v=> -v:=by
 have e:negC c=⟨false,c.m,if c.m=0 then -c.r else(-c.r).fmod c.m⟩:=by
  unfold negC
  rw[if_neg (by simp[he])]
  exact clsF_in hc.pos hc.m (by have:=hc.r;omega)
 rw[e]
 unfold belowC aboveC
 simp only
 by_cases z:c.m=0
 ·simp only[z,if_true]
  by_cases h:a < c.r
  ·rw[if_pos h,if_pos (by omega)];rfl
  ·rw[if_neg h,if_neg (by omega)];simp
 ·have p:0 < c.m:=by have:=hc.pos;omega
  simp only[if_neg z,Option.map_some]
  have k:((-c.r).fmod c.m - -a).fmod c.m=(a-c.r).fmod c.m:=by
   have h1:=fmod_sub (x:=(-c.r).fmod c.m) (y:= -a) p
   have h2:=fmod_sub (x:= -c.r) (y:= -a) p
   have h3:((-c.r).fmod c.m).fmod c.m=(-c.r).fmod c.m:=by
    rw[Int.fmod_eq_emod_of_nonneg _ (Int.le_of_lt p),Int.fmod_eq_emod_of_nonneg _ (Int.le_of_lt p),Int.emod_emod]
   rw[←h1,h3,h2]
   congr 1;omega
  rw[k]
  congr 1;omega
section
variable (lf:Nat)(hb:Big lf){c:Cg}(hc:WfC c)(he:c.em=false){a:Int}(ha: -Dd < a∧a < Dd)
include hb hc he ha
theorem below_c:surveyorref22_Below.f lf (cc c) (bs (Lib.itoa a))=some (match belowC c a with
  | none=>(bs [],false,())
  | some v=>(bs (Lib.itoa v),true,())):=by
 have hD:=DD_K
 have hC:=C_gt
 have hCD:=C_lt_Dd
 have h4:0≤Dd*Dd:=Int.mul_nonneg (by omega) (by omega)
 have ne:(negC c).em=false:=by
  have:negC c=⟨false,c.m,if c.m=0 then -c.r else(-c.r).fmod c.m⟩:=by
   unfold negC
   rw[if_neg (by simp[he])]
   exact clsF_in hc.pos hc.m (by have:=hc.r;omega)
  rw[this]
 have ab:=above_c lf hb negC_wf ne (a:= -a) (by omega)
 rw[surveyorref22_Below.f,negative_c lf hb hc,bdS,negated_ref lf (z:=a) (by omega),bdS,ab,bdS,below_neg hc he]
 cases h:aboveC (negC c) (-a)with
 | none=>simp only[Bool.not_false,brT,Option.map_none]
 | some v =>
  have kv: -K < v∧v < K:=by
   unfold aboveC at h
   have w:=negC_wf (c:=c)
   have m1:=w.m
   have r1:=w.r
   split at h
   ·split at h
    ·cases h
    ·injection h with h;omega
   ·rename_i z
    have p:0 < (negC c).m:=by have:=w.pos;omega
    have g5:=Int.fmod_nonneg_of_pos ((negC c).r - -a) p
    have g6:=Int.fmod_lt_of_pos ((negC c).r - -a) p
    injection h with h
    omega
  simp only[Bool.not_true,brF,Option.map_some,negated_ref lf kv,bdS]
theorem greatest_c:congruence_Greatest.f lf (cc c) (bs (Lib.itoa a))=some (match belowC c a with
  | none=>(bs [],6,())
  | some v=>(bs (Lib.itoa v),0,())):=by
 have hlf:=hb.1
 have hD:=DD_K
 have hC:=C_gt
 have hCD:=C_lt_Dd
 have h4:0≤Dd*Dd:=Int.mul_nonneg (by omega) (by omega)
 have ka: -K < a∧a < K:=by omega
 have hl:=okb_len ka
 have m1:=hc.m
 have r1:=hc.r
 have bm:=CK hc.m
 have br':=CK hc.r
 rw[congruence_Greatest.f,ccheck lf hb hc,bdS]
 simp only[bne_self_eq_false,brF,check_f lf (Lib.itoa a) (by omega),chkK ka,bdS]
 rw[cc_ne he]
 simp only[brF,beq0]
 unfold belowC
 by_cases z:c.m=0
 ·rw[decide_eq_true z,Bool.not_true,brF,if_pos z,less_c lf _ _ (chkK ka) (chkK br') (by omega),iv_itoa,iv_itoa,bdS]
  simp only
  by_cases h:a < c.r
  ·rw[decide_eq_true h,brT,if_pos h]
  ·rw[decide_eq_false h,brF,if_neg h]
 ·have p:0 < c.m:=by have:=hc.pos;omega
  have k1:=rest_K br' bm z
  have k2:=rest_K ka bm z
  have g1:=Int.fmod_nonneg_of_pos c.r p
  have g2:=Int.fmod_lt_of_pos c.r p
  have g3:=Int.fmod_nonneg_of_pos a p
  have g4:=Int.fmod_lt_of_pos a p
  have k3: -K < a.fmod c.m-c.r.fmod c.m∧a.fmod c.m-c.r.fmod c.m < K:=by omega
  have g5:=Int.fmod_nonneg_of_pos (a-c.r) p
  have g6:=Int.fmod_lt_of_pos (a-c.r) p
  have kf: -K < (a-c.r).fmod c.m∧(a-c.r).fmod c.m < K:=by omega
  have kd: -K < a-(a-c.r).fmod c.m∧a-(a-c.r).fmod c.m < K:=by omega
  have sd:=(sz_K _).2 kd
  have sb:=sub_f lf _ _ (chkK ka) (chkK kf) (by omega)
  rw[iv_itoa,iv_itoa,dlen_sz,if_neg (by omega)]at sb
  rw[decide_eq_false z,Bool.not_false,brT,if_neg z,congruence_modulo.f,rem_small lf hlf ka bm z,bdS]
  simp only[bne_self_eq_false,brF,rem_small lf hlf br' bm z,bdS,csub_f lf hb k2 k1 k3,rem_small lf hlf k3 bm z,fmod_sub p,sb]
end
end Go.N
namespace Go.N
open Go Go.Q Go.Rx
end Go.N
namespace Go.N
open Go Go.Q Go.Rx
structure Bz(a b r s x z:Int):Prop where
 b0:0 < b
 r0:0 < r
 s0:0≤s
 xr:b∣x*a-r
 zs:b∣z*a-s
 sg:(0≤z∧x≤0∧z*r-x*s=b)∨(z≤0∧0≤x∧z*r-x*s= -b)
 xb: -b≤x∧x≤b
theorem Bz.zb{a b r s x z:Int}(h:Bz a b r s x z): -b≤z∧z≤b:=by
 have r0:=h.r0
 have s0:=h.s0
 have b0:=h.b0
 rcases h.sg with⟨h1,h2,h3⟩ | ⟨h1,h2,h3⟩
 ·have a1:z*1≤z*r:=Int.mul_le_mul_of_nonneg_left (by omega) h1
  have a2:0≤-x*s:=Int.mul_nonneg (by omega) s0
  rw[Int.neg_mul]at a2
  omega
 ·have a1: -z*1≤-z*r:=Int.mul_le_mul_of_nonneg_left (by omega) (by omega)
  have a2:0≤x*s:=Int.mul_nonneg h2 s0
  rw[Int.neg_mul,Int.neg_mul]at a1
  omega
theorem Bz.next{a b r s x z q t:Int}(h:Bz a b r s x z)(hs:0 < s)(hq:r=s*q+t)(t0:0≤t)(q0:0≤q):Bz a b s t z (x-q*z):=by
 have zb:=h.zb
 refine⟨h.b0,hs,t0,h.zs,?_,?_,zb⟩
 ·have e:(x-q*z)*a-t=(x*a-r)-q*(z*a-s):=by
   subst hq;rw[Int.sub_mul,Int.mul_sub,Int.mul_assoc,Int.mul_comm q s];omega
  rw[e]
  exact Int.dvd_sub h.xr (Int.dvd_trans h.zs (Int.dvd_mul_left _ _))
 ·have e:(x-q*z)*s-z*t= -(z*r-x*s):=by
   subst hq;rw[Int.sub_mul,Int.mul_add,Int.mul_comm q z,Int.mul_assoc z q s,Int.mul_comm q s];omega
  rw[e]
  rcases h.sg with⟨h1,h2,h3⟩ | ⟨h1,h2,h3⟩
  ·refine .inr ⟨?_,h1,by rw[h3]⟩
   have:=Int.mul_nonneg q0 h1
   omega
  ·refine .inl ⟨?_,h1,by rw[h3];omega⟩
   have:=Int.mul_nonneg q0 (show 0≤-z by omega)
   rw[Int.mul_neg]at this
   omega
end Go.N
namespace Go.N
open Go Go.Q Go.Rx
abbrev Nb:Type:=Bool×(List Int×Unit)
theorem RN.natAbs{p:Nb}{z:Int}{k:Nat}(h:RN p z k):lv G p.2.1=(z.natAbs:Int):=by
 have:=h.val
 have:=lv_nonneg (B:=G) (by decide) h.dg
 split at*<;> omega
theorem RN.nil{p:Nb}{k:Nat}(h:RN p 0 k):p.2.1=[]:=(lv_eq_zero (B:=G) (by decide) h.dg h.tr).1 (by rw[h.natAbs];rfl)
theorem RN.ne{p:Nb}{z:Int}{k:Nat}(h:RN p z k)(h0:z≠0):0 < p.2.1.length:=by
 refine List.length_pos_iff.2 fun e=>h0 ?_
 have:=h.natAbs
 rw[e]at this
 simp only[lv]at this
 omega
section
variable (lf:Nat)(hlf:2000000000≤lf){a b:Int}(hb:b < C)
include hlf hb
end
end Go.N
namespace Go.N
open Go Go.Q Go.Rx
structure Vl where
 a:A
 c:Cg
deriving DecidableEq
abbrev VV:Type:=IV×(IV×Unit)
def vc(v:Vl):VV:=(ac v.a,cc v.c,())
def Ev:Vl:=⟨E0,Ec⟩
def onev(z:Int):Vl:=⟨⟨false,some z,some z⟩,⟨false,0,z⟩⟩
def loC(c:Cg)(a:Int):Int:=a+(c.r-a).fmod c.m
def hiC(c:Cg)(a:Int):Int:=a-(a-c.r).fmod c.m
def fin3(x y:Option Int)(c:Cg):Vl:=match x,y with
 | some x,some y=>if y < x then Ev else if x=y then onev x else⟨⟨false,clip x,clip y⟩,c⟩
 | x,y=>⟨⟨false,x.bind clip,y.bind clip⟩,c⟩
def red(a:A)(c:Cg):Vl:=if a.em=true then Ev else if c.em=true then Ev else if c.m=0 then(if inS (ofA a) c.r=true then onev c.r else Ev)else fin3 (a.lo.map (loC c)) (a.hi.map (hiC c)) c
def inV(v:Vl)(z:Int):Bool:=inS (ofA v.a) z&&inC v.c z
structure WfV(v:Vl):Prop where
 a:Wf v.a
 c:WfC v.c
 red:red v.a v.c=v
theorem lo_m{c:Cg}(p:0 < c.m)(a:Int):a≤loC c a∧loC c a < a+c.m:=by
 have:=Int.fmod_nonneg_of_pos (c.r-a) p
 have:=Int.fmod_lt_of_pos (c.r-a) p
 unfold loC;omega
theorem hi_m{c:Cg}(p:0 < c.m)(a:Int):hiC c a≤a∧a-c.m < hiC c a:=by
 have:=Int.fmod_nonneg_of_pos (a-c.r) p
 have:=Int.fmod_lt_of_pos (a-c.r) p
 unfold hiC;omega
theorem fmod0{m a:Int}(p:0 < m):a.fmod m=0↔m∣a:=by
 rw[Int.fmod_eq_emod_of_nonneg _ (Int.le_of_lt p)]
 exact⟨Int.dvd_of_emod_eq_zero,Int.emod_eq_zero_of_dvd⟩
theorem fmod_dvd{m:Int}(p:0 < m)(a:Int):m∣a-a.fmod m:=by
 rw[Int.fmod_eq_emod_of_nonneg _ (Int.le_of_lt p)]
 exact Int.dvd_self_sub_emod
theorem in_iff{c:Cg}(he:c.em=false)(hp:0≤c.m){z:Int}:inC c z=true↔c.m∣z-c.r:=by
 unfold inC dvd'
 rw[he]
 by_cases h:c.m=0
 ·rw[if_pos h,h];simp
 ·rw[if_neg h]
  simp only[Bool.not_false,Bool.true_and,decide_eq_true_eq]
  exact fmod0 (by omega)
theorem lo_in{c:Cg}(p:0 < c.m)(a:Int):c.m∣loC c a-c.r:=by
 obtain⟨k,hk⟩:=fmod_dvd p (c.r-a)
 exact⟨-k,by unfold loC;rw[Int.mul_neg,←hk];omega⟩
theorem hi_in{c:Cg}(p:0 < c.m)(a:Int):c.m∣hiC c a-c.r:=by
 obtain⟨k,hk⟩:=fmod_dvd p (a-c.r)
 exact⟨k,by unfold hiC;rw[←hk];omega⟩
theorem lo_fix{c:Cg}(p:0 < c.m){a:Int}(h:c.m∣a-c.r):loC c a=a:=by
 have:(c.r-a).fmod c.m=0:=(fmod0 p).2 (by have:=Int.dvd_neg.2 h;rwa [Int.neg_sub]at this)
 unfold loC;omega
theorem hi_fix{c:Cg}(p:0 < c.m){a:Int}(h:c.m∣a-c.r):hiC c a=a:=by
 have:(a-c.r).fmod c.m=0:=(fmod0 p).2 h
 unfold hiC;omega
theorem lo_least{c:Cg}(p:0 < c.m){a z:Int}(h:c.m∣z-c.r)(hz:a≤z):loC c a≤z:=by
 have l:=lo_in p a
 have b:=lo_m p a
 obtain⟨k,hk⟩:=Int.dvd_sub h l
 have: -1 < k:=by
  by_cases q: -1 < k
  ·exact q
  ·have:=Int.mul_le_mul_of_nonneg_left (show k≤-1 by omega) (Int.le_of_lt p)
   omega
 have:=Int.mul_nonneg (Int.le_of_lt p) (show 0≤k by omega)
 omega
theorem hi_most{c:Cg}(p:0 < c.m){a z:Int}(h:c.m∣z-c.r)(hz:z≤a):z≤hiC c a:=by
 have l:=hi_in p a
 have b:=hi_m p a
 obtain⟨k,hk⟩:=Int.dvd_sub h l
 have:k < 1:=by
  by_cases q:k < 1
  ·exact q
  ·have:=Int.mul_le_mul_of_nonneg_left (show 1≤k by omega) (Int.le_of_lt p)
   omega
 have:=Int.mul_nonneg (Int.le_of_lt p) (show 0≤-k by omega)
 rw[Int.mul_neg]at this
 omega
theorem clip_some{z:Int}(h: -C < z∧z < C):clip z=some z:=if_pos h
theorem clip_none{z:Int}(h:¬(-C < z∧z < C)):clip z=none:=if_neg h
theorem Wf.inS{a:A}(h:Wf a)(he:a.em=false){z:Int}(hz: -K < z∧z < K):inS (ofA a) z=true↔(∀ l,a.lo=some l→l≤z)∧∀ u,a.hi=some u→z≤u:=by
 unfold Go.N.inS ofA
 rw[he,if_neg (by simp)]
 simp only[Bool.and_eq_true,decide_eq_true_eq]
 cases a.lo with
 | none=>cases a.hi with
  | none=>simp[lox,hix,key];omega
  | some u=>simp[lox,hix,key];omega
 | some l=>cases a.hi with
  | none=>simp[lox,hix,key];omega
  | some u=>simp[lox,hix,key]
theorem onev_wf{z:Int}(hz: -C < z∧z < C):Wf (onev z).a∧WfC (onev z).c:=by
 have hC:=C_gt
 exact⟨⟨fun h=>by simp[onev]at h,hz,hz,Int.le_refl _⟩,⟨by simp only[onev];omega,hz,by simp[onev],fun h=>absurd rfl h⟩⟩
theorem Ev_wf:Wf Ev.a∧WfC Ev.c:=⟨wf_E0,Ec_wf⟩
theorem onev_red{z:Int}(hz: -C < z∧z < C):red (onev z).a (onev z).c=onev z:=by
 have h:inS (ofA (onev z).a) z=true:=by
  unfold inS ofA onev
  simp[lox,hix,key]
 unfold red
 rw[if_neg (by simp[onev]),if_neg (by simp[onev]),if_pos (by rfl)]
 exact if_pos h
theorem Ev_red:red Ev.a Ev.c=Ev:=if_pos rfl
theorem onev_V{z:Int}(hz: -C < z∧z < C):WfV (onev z):=⟨(onev_wf hz).1,(onev_wf hz).2,onev_red hz⟩
theorem Ev_V:WfV Ev:=⟨Ev_wf.1,Ev_wf.2,Ev_red⟩
theorem fin3_V{c:Cg}(hc:WfC c)(he:c.em=false)(hm:c.m≠0){x y:Option Int}(hx:∀ v,x=some v→c.m∣v-c.r)(hy:∀ v,y=some v→c.m∣v-c.r)(bd:∀ v u,x=some v→y=some u→v=u→-C < v∧v < C):WfV (fin3 x y c):=by
 have p:0 < c.m:=by have:=hc.pos;omega
 have key3:∀ u v:Option Int,(∀ z,u=some z→(-C < z∧z < C)∧c.m∣z-c.r)→(∀ z,v=some z→(-C < z∧z < C)∧c.m∣z-c.r)→(∀ z w,u=some z→v=some w→z < w)→WfV ⟨⟨false,u,v⟩,c⟩:=by
  intro u v hu hv huv
  refine⟨⟨fun h=>by simp at h,?_,?_,?_⟩,hc,?_⟩
  ·cases u with
   | none=>trivial
   | some z=>exact(hu z rfl).1
  ·cases v with
   | none=>trivial
   | some z=>exact(hv z rfl).1
  ·cases u with
   | none=>trivial
   | some z=>cases v with
    | none=>trivial
    | some w=>exact Int.le_of_lt (huv z w rfl rfl)
  ·unfold red
   rw[if_neg (by simp),if_neg (by simp[he]),if_neg hm]
   cases u with
   | none=>cases v with
    | none=>rfl
    | some w =>
     simp only[Option.map,hi_fix p (hv w rfl).2,fin3,Option.bind,clip_some (hv w rfl).1]
   | some z=>cases v with
    | none=>simp only[Option.map,lo_fix p (hu z rfl).2,fin3,Option.bind,clip_some (hu z rfl).1]
    | some w =>
     have:=huv z w rfl rfl
     simp only[Option.map,lo_fix p (hu z rfl).2,hi_fix p (hv w rfl).2,fin3,clip_some (hu z rfl).1,clip_some (hv w rfl).1]
     rw[if_neg (by omega),if_neg (by omega)]
 have cl:∀ z w,clip z=some w→w=z∧-C < z∧z < C:=by
  intro z w h
  unfold clip at h;split at h
  ·cases h;exact⟨rfl,by assumption⟩
  ·cases h
 cases x with
 | none=>cases y with
  | none=>exact key3 none none (fun z h=>by cases h) (fun z h=>by cases h) (fun z w h=>by cases h)
  | some w=>exact key3 none (clip w) (fun z h=>by cases h) (fun z h=>by obtain⟨rfl,h⟩:=cl _ _ h;exact⟨h,hy _ rfl⟩) (fun z w h=>by cases h)
 | some z=>cases y with
  | none=>exact key3 (clip z) none (fun z h=>by obtain⟨rfl,h⟩:=cl _ _ h;exact⟨h,hx _ rfl⟩) (fun z h=>by cases h) (fun z w _ h=>by cases h)
  | some w =>
   unfold fin3
   simp only
   by_cases h1:w < z
   ·rw[if_pos h1];exact Ev_V
   ·rw[if_neg h1]
    by_cases h2:z=w
    ·rw[if_pos h2];exact onev_V (bd z w rfl rfl h2)
    ·rw[if_neg h2]
     exact key3 (clip z) (clip w) (fun z h=>by obtain⟨rfl,h⟩:=cl _ _ h;exact⟨h,hx _ rfl⟩) (fun z h=>by obtain⟨rfl,h⟩:=cl _ _ h;exact⟨h,hy _ rfl⟩) (fun u v hu hv=>by obtain⟨rfl,_⟩:=cl _ _ hu;obtain⟨rfl,_⟩:=cl _ _ hv;omega)
theorem red_V{a:A}{c:Cg}(ha:Wf a)(hc:WfC c):WfV (red a c):=by
 unfold red
 by_cases e1:a.em=true
 ·rw[if_pos e1];exact Ev_V
 ·by_cases e2:c.em=true
  ·rw[if_neg e1,if_pos e2];exact Ev_V
  ·rw[if_neg e1,if_neg e2]
   by_cases z:c.m=0
   ·rw[if_pos z]
    split
    ·exact onev_V hc.r
    ·exact Ev_V
   ·rw[if_neg z]
    have p:0 < c.m:=by have:=hc.pos;omega
    have e2:c.em=false:=by simpa using e2
    refine fin3_V hc e2 z ?_ ?_ ?_
    ·intro v h
     cases hl:a.lo with
     | none=>rw[hl]at h;cases h
     | some l=>rw[hl]at h;cases h;exact lo_in p l
    ·intro v h
     cases hl:a.hi with
     | none=>rw[hl]at h;cases h
     | some l=>rw[hl]at h;cases h;exact hi_in p l
    ·intro v u h1 h2 h3
     have lk:=ha.lo
     have hk:=ha.hi
     cases hl:a.lo with
     | none=>rw[hl]at h1;cases h1
     | some l =>
      cases hh:a.hi with
      | none=>rw[hh]at h2;cases h2
      | some k =>
       rw[hl]at h1 lk;rw[hh]at h2 hk
       cases h1;cases h2
       have:=lo_m p l
       have:=hi_m p k
       simp only[okb]at lk hk
       omega
theorem red_in{a:A}{c:Cg}(ha:Wf a)(hc:WfC c){z:Int}(hz: -K < z∧z < K)(h1:inS (ofA a) z=true)(h2:inC c z=true):inV (red a c) z=true:=by
 have e1:a.em=false:=by rw[←emp_ofA ha];exact emp_of_in h1
 have e2:c.em=false:=by unfold inC at h2;revert h2;cases c.em<;>simp
 have d:=(in_iff e2 hc.pos).1 h2
 unfold red
 rw[if_neg (by simp[e1]),if_neg (by simp[e2])]
 by_cases m0:c.m=0
 ·rw[if_pos m0]
  rw[m0]at d
  have:z=c.r:=by have:=Int.zero_dvd.1 d;omega
  subst this
  rw[if_pos h1]
  unfold inV
  rw[(Wf.inS (onev_wf hc.r).1 rfl hz).2 ⟨fun l h=>by cases h;exact Int.le_refl _,fun l h=>by cases h;exact Int.le_refl _⟩,Bool.true_and]
  exact(in_iff rfl (Int.le_refl _)).2 (by simp[onev])
 ·rw[if_neg m0]
  have p:0 < c.m:=by have:=hc.pos;omega
  obtain⟨k1,k2⟩:=(Wf.inS ha e1 hz).1 h1
  have g1:∀ v,a.lo.map (loC c)=some v→v≤z:=by
   intro v h
   cases hl:a.lo with
   | none=>rw[hl]at h;cases h
   | some l=>rw[hl]at h;cases h;exact lo_least p d (k1 l hl)
  have g2:∀ v,a.hi.map (hiC c)=some v→z≤v:=by
   intro v h
   cases hl:a.hi with
   | none=>rw[hl]at h;cases h
   | some l=>rw[hl]at h;cases h;exact hi_most p d (k2 l hl)
  have V:=red_V ha hc
  unfold red at V
  rw[if_neg (by simp[e1]),if_neg (by simp[e2]),if_neg m0]at V
  revert V g1 g2
  generalize a.lo.map (loC c)=x
  generalize a.hi.map (hiC c)=y
  intro g1 g2 V
  have nb:∀ (z w:Int),clip z=some w→w=z:=by
   intro z w h
   unfold clip at h;split at h
   ·cases h;rfl
   ·cases h
  have fin:∀ u v:Option Int,Wf ⟨false,u,v⟩→(∀ l,u=some l→l≤z)→(∀ l,v=some l→z≤l)→inV ⟨⟨false,u,v⟩,c⟩ z=true:=by
   intro u v hw hu hv
   unfold inV
   rw[(Wf.inS hw rfl hz).2 ⟨hu,hv⟩,h2];rfl
  cases x with
  | none=>cases y with
   | none=>exact fin _ _ V.a (fun l h=>by cases h) (fun l h=>by cases h)
   | some w=>exact fin _ _ V.a (fun l h=>by cases h) (fun l h=>by rw[nb _ _ h];exact g2 _ rfl)
  | some v=>cases y with
   | none=>exact fin _ _ V.a (fun l h=>by rw[nb _ _ h];exact g1 _ rfl) (fun l h=>by cases h)
   | some w =>
    have:=g1 _ rfl
    have:=g2 _ rfl
    unfold fin3 at V⊢
    simp only at V⊢
    rw[if_neg (by omega)]at V⊢
    by_cases h3:v=w
    ·rw[if_pos h3]at V⊢
     obtain rfl:z=v:=by omega
     unfold inV
     rw[(Wf.inS V.a rfl hz).2 ⟨fun l h=>by cases h;exact Int.le_refl _,fun l h=>by cases h;exact Int.le_refl _⟩,Bool.true_and]
     exact(in_iff rfl (Int.le_refl _)).2 (by simp[onev])
    ·rw[if_neg h3]at V⊢
     exact fin _ _ V.a (fun l h=>by rw[nb _ _ h];exact g1 _ rfl) (fun l h=>by rw[nb _ _ h];exact g2 _ rfl)
end Go.N
namespace Go.N
open Go Go.Q Go.Rx
theorem inC_em{c:Cg}{z:Int}(h:inC c z=true):c.em=false:=by unfold inC at h;revert h;cases c.em<;>simp
theorem inC_dvd{c:Cg}(hc:WfC c){z:Int}(h:inC c z=true):c.m∣z-c.r:=(in_iff (inC_em h) hc.pos).1 h
theorem in_top(z:Int):inC topC z=true:=(in_iff rfl (by decide)).2 (Int.one_dvd _)
theorem clsF_or(m r:Int):clsF m r=topC∨clsF m r=⟨false,(m.natAbs:Int),if m=0 then r else r.fmod (m.natAbs:Int)⟩:=by
 unfold clsF
 by_cases h:sz (m.natAbs:Int) > 100∨sz (if m=0 then r else r.fmod (m.natAbs:Int)) > 100
 ·exact .inl (if_pos h)
 ·exact .inr (if_neg h)
theorem in_clsF{m r z:Int}(h:m∣z-r):inC (clsF m r) z=true:=by
 rcases clsF_or m r with e | e
 ·rw[e];exact in_top z
 ·rw[e]
  refine(in_iff rfl (Int.natCast_nonneg _)).2 ?_
  simp only
  by_cases h0:m=0
  ·subst h0
   simpa using h
  ·rw[if_neg h0]
   have d:=fmod_dvd (show 0 < (m.natAbs:Int) by omega) r
   have h':(m.natAbs:Int)∣z-r:=Int.natAbs_dvd.2 h
   have:=Int.dvd_add h' d
   rwa [show z-r+(r-r.fmod (m.natAbs:Int))=z-r.fmod (m.natAbs:Int) by omega]at this
theorem in_joinL{c d:Cg}(hc:WfC c){z:Int}(h:inC c z=true):inC (joinC c d) z=true:=by
 unfold joinC
 rw[if_neg (by simp[inC_em h])]
 split
 ·exact h
 ·refine in_clsF (Int.dvd_trans ?_ (inC_dvd hc h))
  exact Int.dvd_trans (Int.gcd_dvd_left _ _) (Int.gcd_dvd_left _ _)
theorem in_joinR{c d:Cg}(hd:WfC d){z:Int}(h:inC d z=true):inC (joinC c d) z=true:=by
 unfold joinC
 split
 ·exact h
 ·rw[if_neg (by simp[inC_em h])]
  refine in_clsF ?_
  have a:=Int.dvd_trans (Int.dvd_trans (Int.gcd_dvd_left (Int.gcd c.m d.m:Int) (c.r-d.r)) (Int.gcd_dvd_right _ _)) (inC_dvd hd h)
  have b:=Int.gcd_dvd_right (Int.gcd c.m d.m:Int) (c.r-d.r)
  have:=Int.dvd_sub a b
  rwa [show z-d.r-(c.r-d.r)=z-c.r by omega]at this
section
variable {c d:Cg}(hc:WfC c)(hd:WfC d){z w:Int}(hz:inC c z=true)(hw:inC d w=true)
include hc hd hz hw
theorem in_plus:inC (plusC c d) (z+w)=true:=by
 unfold plusC
 rw[if_neg (by simp[inC_em hz]),if_neg (by simp[inC_em hw])]
 refine in_clsF ?_
 have:=Int.dvd_add (Int.dvd_trans (Int.gcd_dvd_left c.m d.m) (inC_dvd hc hz)) (Int.dvd_trans (Int.gcd_dvd_right c.m d.m) (inC_dvd hd hw))
 rwa [show z-c.r+(w-d.r)=z+w-(c.r+d.r) by omega]at this
theorem in_minus:inC (minusC c d) (z-w)=true:=by
 unfold minusC
 rw[if_neg (by simp[inC_em hz]),if_neg (by simp[inC_em hw])]
 refine in_clsF ?_
 have:=Int.dvd_sub (Int.dvd_trans (Int.gcd_dvd_left c.m d.m) (inC_dvd hc hz)) (Int.dvd_trans (Int.gcd_dvd_right c.m d.m) (inC_dvd hd hw))
 rwa [show z-c.r-(w-d.r)=z-w-(c.r-d.r) by omega]at this
theorem in_times:inC (timesC c d) (z*w)=true:=by
 unfold timesC
 rw[if_neg (by simp[inC_em hz]),if_neg (by simp[inC_em hw])]
 refine in_clsF ?_
 obtain⟨k,hk⟩:=inC_dvd hc hz
 obtain⟨l,hl⟩:=inC_dvd hd hw
 have e:z*w-c.r*d.r=(c.m*d.m)*(k*l)+((c.m*d.r)*k+(d.m*c.r)*l):=by
  have e1:z=c.r+c.m*k:=by omega
  have e2:w=d.r+d.m*l:=by omega
  rw[e1,e2];grind
 rw[e]
 have g:=Int.gcd_dvd_right (c.m*d.m) (Int.gcd (c.m*d.r) (d.m*c.r))
 refine Int.dvd_add (Int.dvd_trans (Int.gcd_dvd_left _ _) (Int.dvd_mul_right _ _)) (Int.dvd_add ?_ ?_)
 ·exact Int.dvd_trans (Int.dvd_trans g (Int.gcd_dvd_left _ _)) (Int.dvd_mul_right _ _)
 ·exact Int.dvd_trans (Int.dvd_trans g (Int.gcd_dvd_right _ _)) (Int.dvd_mul_right _ _)
theorem in_quo(h0:w≠0):inC (quoC c d) (z.fdiv w)=true:=by
 have dz:=inC_dvd hc hz
 have dw:=inC_dvd hd hw
 have hz0:zeroC d=false:=by
  unfold zeroC
  simp only[decide_eq_false_iff_not]
  intro ⟨a,b⟩
  rw[a]at dw
  have:=Int.zero_dvd.1 dw
  omega
 unfold quoC
 rw[if_neg (by simp[inC_em hz]),if_neg (by simp[inC_em hw]),if_neg (by simp[hz0])]
 by_cases m0:d.m=0
 ·rw[if_neg (by simpa using m0)]
  rw[m0]at dw
  have:w=d.r:=by have:=Int.zero_dvd.1 dw;omega
  subst this
  split
  ·rename_i dv
   unfold dvd' at dv
   rw[if_neg h0,decide_eq_true_eq]at dv
   have q:=Int.mul_fdiv_add_fmod c.m d.r
   rw[dv,Int.add_zero]at q
   obtain⟨k,hk⟩:=dz
   refine in_clsF ⟨k,?_⟩
   have e:z=c.r+d.r*(c.m.fdiv d.r*k):=by
    rw[←Int.mul_assoc,q];omega
   rw[e,Int.add_mul_fdiv_left _ _ h0];omega
  ·exact in_top _
 ·rw[if_pos m0]
  split
  ·rename_i zc
   unfold zeroC at zc
   simp only[decide_eq_true_eq]at zc
   obtain⟨a,b⟩:=zc
   rw[a,b]at dz
   have:z=0:=by have:=Int.zero_dvd.1 dz;omega
   subst this
   rw[Int.zero_fdiv];exact hz
  ·exact in_top _
theorem in_rest(h0:w≠0):inC (restC c d) (z.fmod w)=true:=by
 have dz:=inC_dvd hc hz
 have dw:=inC_dvd hd hw
 have hz0:zeroC d=false:=by
  unfold zeroC
  simp only[decide_eq_false_iff_not]
  intro ⟨a,b⟩
  rw[a]at dw
  have:=Int.zero_dvd.1 dw
  omega
 unfold restC
 rw[if_neg (by simp[inC_em hz]),if_neg (by simp[inC_em hw]),if_neg (by simp[hz0])]
 split
 ·rename_i h
  obtain⟨m0,dv⟩:=h
  rw[m0]at dw
  have:w=d.r:=by have:=Int.zero_dvd.1 dw;omega
  subst this
  unfold dvd' at dv
  rw[if_neg h0,decide_eq_true_eq]at dv
  have q:=Int.mul_fdiv_add_fmod c.m d.r
  rw[dv,Int.add_zero]at q
  obtain⟨k,hk⟩:=dz
  refine in_clsF ?_
  have e:z=c.r+d.r*(c.m.fdiv d.r*k):=by
   rw[←Int.mul_assoc,q];omega
  rw[e,Int.add_mul_fmod_self_left];simp
 ·refine in_clsF ?_
  have q:=Int.mul_fdiv_add_fmod z w
  have a:=Int.dvd_trans (Int.gcd_dvd_left c.m (Int.gcd d.m d.r)) dz
  have b:=Int.gcd_dvd_right c.m (Int.gcd d.m d.r)
  have b1:=Int.dvd_trans (Int.dvd_trans b (Int.gcd_dvd_left _ _)) dw
  have b2:=Int.dvd_trans b (Int.gcd_dvd_right d.m d.r)
  have bw:=Int.dvd_add b1 b2
  rw[show w-d.r+d.r=w by omega]at bw
  have:=Int.dvd_sub a (Int.dvd_trans bw (Int.dvd_mul_right w (z.fdiv w)))
  rwa [show z-c.r-w*z.fdiv w=z.fmod w-c.r by omega]at this
end
theorem in_neg{c:Cg}(hc:WfC c){z:Int}(h:inC c z=true):inC (negC c) (-z)=true:=by
 unfold negC
 rw[if_neg (by simp[inC_em h])]
 refine in_clsF ?_
 have:=Int.dvd_neg.2 (inC_dvd hc h)
 rwa [show -(z-c.r)= -z - -c.r by omega]at this
theorem cc_inj{c d:Cg}(h:cc c=cc d):c.em=d.em∧(c.em=false→c=d):=by
 unfold cc at h
 cases e1:c.em with
 | true=>cases e2:d.em with
  | true=>exact⟨rfl,nofun⟩
  | false=>rw[if_pos e1,if_neg (by simp[e2])]at h;have:=congrArg Prod.fst h;simp at this
 | false=>cases e2:d.em with
  | true=>rw[if_neg (by simp[e1]),if_pos e2]at h;have:=congrArg Prod.fst h;simp at this
  | false =>
   rw[if_neg (by simp[e1]),if_neg (by simp[e2])]at h
   simp only[Prod.mk.injEq]at h
   refine⟨rfl,fun _=>?_⟩
   have h1:=itoa_inj (bs_inj h.2.1)
   have h2:=itoa_inj (bs_inj h.2.2.1)
   cases c;cases d;simp_all
end Go.N
namespace Go.N
open Go Go.Q Go.Rx
section
variable {c d:Cg}(hc:WfC c)(hd:WfC d)(ec:c.em=false)(ed:d.em=false)
include hc hd ec ed
end
end Go.N
namespace Go.N
open Go Go.Q Go.Rx
section
variable (lf:Nat)(hb:Big lf){a b:Int}(ha:0 < a∧a < C)(hbb:0 < b∧b < C)
include hb ha hbb
end
section
variable (lf:Nat)(hb:Big lf){c d:Cg}(hc:WfC c)(hd:WfC d)
include hb hc hd
end
end Go.N
namespace Go.N
open Go Go.Q Go.Rx
theorem clipV(lf:Nat){o:Option Int}(h:okb K o):value_clip.f lf (ob o)=some (ob (o.bind clip),()):=by
 rw[value_clip.f]
 cases o with
 | none=>rw[show ob none=bs [] from rfl,trimPrefix_f,bdS,bs_size,show body []=[] from rfl,decide_eq_false (by simp),brF];rfl
 | some z =>
  have hl:=okb_len h
  rw[show ob (some z)=bs (Lib.itoa z) from rfl,trimPrefix_f,bdS,bs_size]
  have e:(((body (Lib.itoa z)).length:Nat):Int)=(sz z:Int):=rfl
  simp only[e,Option.bind]
  by_cases c: -C < z∧z < C
  ·have:=(sz_C z).2 c
   rw[decide_eq_false (by omega),brF,clip_some c];rfl
  ·have:¬sz z≤100:=fun x=>c ((sz_C z).1 x)
   rw[decide_eq_true (by omega),brT,clip_none c];rfl
set_option exponentiation.threshold 5000 in
theorem C2_Dd:C+C < Dd:=by
 have e:(10 ^ 100+10 ^ 100:Nat) < 10 ^ 1000:=by
  have:(10:Nat) ^ 1000=10 ^ 100*10 ^ 900:=by rw[←Nat.pow_add]
  rw[this]
  have:(2:Nat) < 10 ^ 900:=Nat.lt_of_lt_of_le (show(2:Nat) < 10 ^ 1 by decide) (Nat.pow_le_pow_right (by decide) (by decide))
  have h:=Nat.mul_lt_mul_of_pos_left this (show 0 < 10 ^ 100 by exact Nat.pow_pos (by decide))
  omega
 unfold C Dd;exact Int.ofNat_lt.2 e
theorem evV:((((true,(⟨#[]⟩:ByteArray),(⟨#[]⟩:ByteArray),()),(true,(⟨#[]⟩:ByteArray),(⟨#[]⟩:ByteArray),()),()):VV))=vc Ev:=rfl
theorem onV(z:Int):(((false,bs (Lib.itoa z),bs (Lib.itoa z),()),(false,(⟨#[48]⟩:ByteArray),bs (Lib.itoa z),()),()):VV)=vc (onev z):=by
 rw[i0];unfold vc onev;rw[cc_ne rfl];rfl
theorem ob_ne(x:Int):((bs (Lib.itoa x)).toList==(⟨#[]⟩:ByteArray).toList)=false:=by
 have:=ob_beq (some x)
 rw[show ob (some x)=bs (Lib.itoa x) from rfl]at this
 rw[this];exact decide_eq_false nofun
theorem ob_e:((ob none).toList==(⟨#[]⟩:ByteArray).toList)=true:=by rw[ob_beq];rfl
theorem sgn_gtd(x y:Int):decide (sgn (x-y) > 0)=decide (y < x):=sgn_gt x y
theorem sgn_z(x y:Int):(sgn (x-y)==0)=decide (x=y):=by
 rw[Bool.eq_iff_iff,beq_iff_eq,decide_eq_true_eq]
 unfold sgn;(repeat' split)<;>omega
section
variable (lf:Nat)(hb:Big lf){a:A}{c:Cg}(ha:Wf a)(hc:WfC c)
include hb ha hc
theorem lo_K{l:Int}(h: -C < l∧l < C)(p:0 < c.m): -K < loC c l∧loC c l < K∧-Dd < loC c l∧loC c l < Dd:=by
 have:=lo_m p l
 have:=hc.m
 have:=C_gt
 have:=CC_K
 have hD:=DD_K
 have hCD:=C_lt_Dd
 have h4:C*2≤C*C:=Int.mul_le_mul_of_nonneg_left (by omega) (by omega)
 have h5:=C2_Dd
 have h6:=Dd_K
 omega
theorem hi_K{l:Int}(h: -C < l∧l < C)(p:0 < c.m): -K < hiC c l∧hiC c l < K∧-Dd < hiC c l∧hiC c l < Dd:=by
 have:=hi_m p l
 have:=hc.m
 have:=C_gt
 have h5:=C2_Dd
 have h6:=Dd_K
 omega
theorem vred_f:value_reduced.f lf (ac a) (cc c)=some (vc (red a c),()):=by
 have hlf:=hb.1
 have h3:200000≤lf:=by omega
 have hCD:=C_lt_Dd
 rw[value_reduced.f]
 simp only[show(ac a).1=a.em from rfl,show(ac a).2.1=ob a.lo from rfl,show(ac a).2.2.1=ob a.hi from rfl,value_empty.f,bdS,evV,value_one.f]
 unfold red
 cases ea:a.em with
 | true=>simp only[brT,if_true]
 | false =>
  cases ec:c.em with
  | true=>rw[cc_em ec];simp only[brT,brF,if_true,if_false,Bool.false_eq_true]
  | false =>
   have e1:(cc c).1=false:=by rw[cc_ne ec]
   have e2:(cc c).2.1=bs (Lib.itoa c.m):=by rw[cc_ne ec]
   have e3:(cc c).2.2.1=bs (Lib.itoa c.r):=by rw[cc_ne ec]
   simp only[brF,if_false,Bool.false_eq_true,e1,e2,e3,beq0]
   by_cases m:c.m=0
   ·rw[decide_eq_true m,brT,if_pos m,holds_wf lf h3 ha (CK hc.r),bdS]
    simp only
    cases hi:inS (ofA a) c.r with
    | true=>simp only[Bool.not_true,brF,if_true,onV]
    | false=>simp only[Bool.not_false,brT,if_false,Bool.false_eq_true]
   ·have p:0 < c.m:=by have:=hc.pos;omega
    rw[decide_eq_false m,brF,if_neg m]
    have kl:=ha.lo
    have kh:=ha.hi
    have L:=fun {l:Int} (h: -C < l∧l < C)=>least_c lf hb hc ec (a:=l) (by omega)
    have G':=fun {l:Int} (h: -C < l∧l < C)=>greatest_c lf hb hc ec (a:=l) (by omega)
    have ab:∀ l,aboveC c l=some (loC c l):=fun l=>if_neg m
    have be:∀ l,belowC c l=some (hiC c l):=fun l=>if_neg m
    have cN:=clipV lf (o:=none) trivial
    cases hl:a.lo with
    | none=>cases hh:a.hi with
     | none=>simp only[ob_e,Bool.not_true,brF,cN,bdS,Option.map,fin3];rfl
     | some u =>
      rw[hh]at kh
      have g:=G' kh
      rw[be]at g
      have kk:=hi_K lf hb ha hc kh p
      have cU:=clipV lf (o:=some (hiC c u)) ⟨kk.1,kk.2.1⟩
      simp only[show ob (some u)=bs (Lib.itoa u) from rfl,show ob (some (hiC c u))=bs (Lib.itoa (hiC c u)) from rfl]at *
      simp only[ob_e,ob_ne,Bool.not_true,Bool.not_false,brF,brT,g,cN,cU,bdS,Option.map,fin3];rfl
    | some l =>
     rw[hl]at kl
     have g:=L kl
     rw[ab]at g
     have kk:=lo_K lf hb ha hc kl p
     have cL:=clipV lf (o:=some (loC c l)) ⟨kk.1,kk.2.1⟩
     cases hh:a.hi with
     | none =>
      simp only[show ob (some l)=bs (Lib.itoa l) from rfl,show ob (some (loC c l))=bs (Lib.itoa (loC c l)) from rfl]at *
      simp only[ob_e,ob_ne,Bool.not_true,Bool.not_false,brF,brT,g,cN,cL,bdS,Option.map,fin3];rfl
     | some u =>
      rw[hh]at kh
      have g2:=G' kh
      rw[be]at g2
      have kk2:=hi_K lf hb ha hc kh p
      have cU:=clipV lf (o:=some (hiC c u)) ⟨kk2.1,kk2.2.1⟩
      have cm:=compare_f lf _ _ (chkK ⟨kk.1,kk.2.1⟩) (chkK ⟨kk2.1,kk2.2.1⟩) h3
      rw[iv_itoa,iv_itoa]at cm
      simp only[show ob (some l)=bs (Lib.itoa l) from rfl,show ob (some (loC c l))=bs (Lib.itoa (loC c l)) from rfl,show ob (some u)=bs (Lib.itoa u) from rfl,show ob (some (hiC c u))=bs (Lib.itoa (hiC c u)) from rfl]at *
      simp only[ob_e,ob_ne,Bool.not_true,Bool.not_false,brF,brT,g,g2,cm,bdS,sgn_gtd,sgn_z,Option.map,fin3]
      by_cases h1:hiC c u < loC c l
      ·rw[decide_eq_true h1,brT,if_pos h1]
      ·rw[decide_eq_false h1,brF,if_neg h1]
       by_cases h2:loC c l=hiC c u
       ·rw[decide_eq_true h2,brT,if_pos h2,onV]
       ·rw[decide_eq_false h2,brF,if_neg h2,cL,bdS,cU,bdS];rfl
theorem rred_f:surveyorref23_Reduced.f lf (ac a) (cc c)=some (vc (red a c),()):=by
 have hlf:=hb.1
 have h3:200000≤lf:=by omega
 have hCD:=C_lt_Dd
 rw[surveyorref23_Reduced.f]
 simp only[show(ac a).1=a.em from rfl,show(ac a).2.1=ob a.lo from rfl,show(ac a).2.2.1=ob a.hi from rfl,surveyorref23_Empty.f,surveyorref21_None.f,surveyorref22_Empty.f,bdS,evV]
 unfold red
 cases ea:a.em with
 | true=>simp only[brT,if_true]
 | false =>
  cases ec:c.em with
  | true=>rw[cc_em ec];simp only[brT,brF,if_true,if_false,Bool.false_eq_true]
  | false =>
   have e1:(cc c).1=false:=by rw[cc_ne ec]
   have e2:(cc c).2.1=bs (Lib.itoa c.m):=by rw[cc_ne ec]
   have e3:(cc c).2.2.1=bs (Lib.itoa c.r):=by rw[cc_ne ec]
   simp only[brF,if_false,Bool.false_eq_true,e1,e2,e3,beq0]
   by_cases m:c.m=0
   ·rw[decide_eq_true m,brT,if_pos m,in_ref lf h3 ha (CK hc.r),bdS]
    simp only
    cases hi:inS (ofA a) c.r with
    | true =>
     simp only[Bool.not_true,brF,if_true,←onV]
     rw[cc_ne ec,m,i0]
    | false=>simp only[Bool.not_false,brT,if_false,Bool.false_eq_true]
   ·have p:0 < c.m:=by have:=hc.pos;omega
    rw[decide_eq_false m,brF,if_neg m]
    have kl:=ha.lo
    have kh:=ha.hi
    have L:=fun {l:Int} (h: -C < l∧l < C)=>above_c lf hb hc ec (a:=l) (by omega)
    have G':=fun {l:Int} (h: -C < l∧l < C)=>below_c lf hb hc ec (a:=l) (by omega)
    have ab:∀ l,aboveC c l=some (loC c l):=fun l=>if_neg m
    have be:∀ l,belowC c l=some (hiC c l):=fun l=>if_neg m
    have toL:∀ x y:Option Int,okb K x→okb K y→gt? x y=false→toA ⟨lox x,hix y⟩=⟨false,x.bind clip,y.bind clip⟩:=by
     intro x y hx hy h
     unfold toA;rw[emp_lh hx hy,h,if_neg (by simp),tx_lox,tx_hix]
    cases hl:a.lo with
    | none=>cases hh:a.hi with
     | none =>
      simp only[ob_e,Bool.not_true,brF,range_f lf h3 none none trivial trivial,toL none none trivial trivial rfl,bdS,Option.map,fin3];rfl
     | some u =>
      rw[hh]at kh
      have g:=G' kh
      rw[be]at g
      have kk:=hi_K lf hb ha hc kh p
      have rg:=range_f lf h3 none (some (hiC c u)) trivial ⟨kk.1,kk.2.1⟩
      rw[toL none (some (hiC c u)) trivial ⟨kk.1,kk.2.1⟩ rfl]at rg
      simp only[show ob (some u)=bs (Lib.itoa u) from rfl,show ob (some (hiC c u))=bs (Lib.itoa (hiC c u)) from rfl]at *
      simp only[ob_e,ob_ne,Bool.not_true,Bool.not_false,brF,brT,g,rg,bdS,Option.map,fin3];rfl
    | some l =>
     rw[hl]at kl
     have g:=L kl
     rw[ab]at g
     have kk:=lo_K lf hb ha hc kl p
     cases hh:a.hi with
     | none =>
      have rg:=range_f lf h3 (some (loC c l)) none ⟨kk.1,kk.2.1⟩ trivial
      rw[toL (some (loC c l)) none ⟨kk.1,kk.2.1⟩ trivial rfl]at rg
      simp only[show ob (some l)=bs (Lib.itoa l) from rfl,show ob (some (loC c l))=bs (Lib.itoa (loC c l)) from rfl]at *
      simp only[ob_e,ob_ne,Bool.not_true,Bool.not_false,brF,brT,g,rg,bdS,Option.map,fin3];rfl
     | some u =>
      rw[hh]at kh
      have g2:=G' kh
      rw[be]at g2
      have kk2:=hi_K lf hb ha hc kh p
      have ls:=lessI lf h3 (x:=hiC c u) (y:=loC c l) ⟨kk2.1,kk2.2.1⟩ ⟨kk.1,kk.2.1⟩
      have rg:=range_f lf h3 (some (loC c l)) (some (hiC c u)) ⟨kk.1,kk.2.1⟩ ⟨kk2.1,kk2.2.1⟩
      have T:=toL (some (loC c l)) (some (hiC c u)) ⟨kk.1,kk.2.1⟩ ⟨kk2.1,kk2.2.1⟩
      simp only[show ob (some l)=bs (Lib.itoa l) from rfl,show ob (some (loC c l))=bs (Lib.itoa (loC c l)) from rfl,show ob (some u)=bs (Lib.itoa u) from rfl,show ob (some (hiC c u))=bs (Lib.itoa (hiC c u)) from rfl]at *
      have eqt:((bs (Lib.itoa (loC c l))).toList==(bs (Lib.itoa (hiC c u))).toList)=decide (loC c l=hiC c u):=by
       rw[beq_bs];simp only[decide_eq_decide];exact⟨itoa_inj,fun e=>by rw[e]⟩
      simp only[ob_e,ob_ne,Bool.not_true,Bool.not_false,brF,brT,g,g2,ls,bdS,eqt,Option.map,fin3]
      by_cases h1:hiC c u < loC c l
      ·rw[decide_eq_true h1,brT,if_pos h1]
      ·rw[decide_eq_false h1,brF,if_neg h1]
       by_cases h2:loC c l=hiC c u
       ·have kC: -C < loC c l∧loC c l < C:=by
         have:=lo_m p l
         have:=hi_m p u
         simp only[okb]at kl kh
         omega
        have hC:=C_gt
        have hCK:=C_lt_K
        rw[decide_eq_true h2,brT,if_pos h2,surveyorref23_One.f,surveyorref22_Single.f,i0,class_ref lf h3 (m:=0) (by omega) (CK kC),bdS,bdS]
        simp only
        rw[clsF_in (Int.le_refl 0) (by omega) kC,if_pos rfl,cc_ne rfl]
        simp only[←i0,BEq.rfl,Bool.not_true,brF,bdS]
        rw[onV]
       ·rw[decide_eq_false h2,brF,if_neg h2,rg,T (by unfold gt?;simp;omega),bdS];rfl
end
end Go.N
namespace Go.N
open Go Go.Q Go.Rx
theorem rest_bounds(x:Int){c:Int}(h:1≤c):0≤x.fmod c∧x.fmod c < c:=⟨Int.fmod_nonneg_of_pos x (by omega),Int.fmod_lt_of_pos x (by omega)⟩
theorem res_same{l h c:Int}(hc:1≤c)(hl:l≤h):(if h-l≥c-1 then allS c else if l.fmod c > h.fmod c then allS c else⟨.fin (l.fmod c),.fin (h.fmod c)⟩)=if l.fdiv c=h.fdiv c then(⟨.fin (l.fmod c),.fin (h.fmod c)⟩:Sp)else allS c:=by
 have m1:=Int.mul_fdiv_add_fmod l c
 have m2:=Int.mul_fdiv_add_fmod h c
 have b1:=rest_bounds l hc
 have b2:=rest_bounds h hc
 by_cases e:l.fdiv c=h.fdiv c
 ·rw[if_pos e]
  rw[e]at m1
  by_cases c1:h-l≥c-1
  ·rw[if_pos c1]
   unfold allS
   congr 2<;>omega
  ·rw[if_neg c1,if_neg (by omega)]
 ·rw[if_neg e]
  by_cases c1:h-l≥c-1
  ·rw[if_pos c1]
  ·rw[if_neg c1,if_pos ?_]
   have mono:=fdiv_mono hc hl
   have:=Int.mul_le_mul_of_nonneg_left (show 1≤h.fdiv c-l.fdiv c by omega) (show 0≤c by omega)
   rw[Int.mul_sub]at this
   omega
section
variable (lf:Nat)(h3:200000≤lf)
include h3
end
theorem posS_Po{s:Sp}(he:emp (posS s)=false)(hs:oks C s)(hp:Pr s):∃ l,(posS s).lo=.fin l∧1≤l∧Po (posS s).hi:=by
 obtain⟨l,e1,e2,e3,e4,e5,e6⟩:=posS_lo he hs hp
 refine⟨l,e1,e2,?_⟩
 cases h:(posS s).hi with
 | ni=>rw[e5]at h;exact absurd h e6
 | pi=>trivial
 | fin z=>have:=e4 z h;simp only[Po];omega
theorem negS_ok{s:Sp}(h:oks C s):oks C (negS s):=common_ok h ⟨trivial,one_okx (by decide) (by decide)⟩
theorem zerS_ok{s:Sp}(h:oks C s):oks C (zerS s):=common_ok h ⟨one_okx (by decide) (by decide),one_okx (by decide) (by decide)⟩
section
variable (lf:Nat)(h3:200000≤lf)
include h3
end
end Go.N
namespace Go.N
open Go Go.Q Go.Rx
theorem sg_neg(x:X):sg (xneg x)= -sg x:=by
 cases x with
 | ni=>rfl
 | pi=>rfl
 | fin z=>simp only[xneg,sg,sgn];(repeat' split)<;>omega
theorem xmul_comm(x y:X):xmul x y=xmul y x:=by
 unfold xmul
 rw[Int.mul_comm (sg y) (sg x)]
 split
 ·rfl
 ·cases x<;>cases y<;>simp only[Int.mul_comm]
theorem xmul_neg(x y:X):xmul (xneg x) y=xneg (xmul x y):=by
 unfold xmul
 rw[sg_neg,Int.neg_mul]
 have a:=sg3 x
 have b:=sg3 y
 by_cases h:sg x*sg y=0
 ·rw[h,if_pos (by decide),if_pos rfl];rfl
 ·rw[if_neg (by omega),if_neg h]
  have one:sg x*sg y=1∨sg x*sg y= -1:=by
   rcases a with a | a | a<;>rcases b with b | b | b<;>rw[a,b]at h⊢<;>simp at h⊢
  cases x<;>cases y<;>simp only[xneg,Int.neg_mul]<;>rcases one with o | o<;>rw[o]<;>rfl
theorem xmul_neg'(x y:X):xmul x (xneg y)=xneg (xmul x y):=by rw[xmul_comm,xmul_neg,xmul_comm]
theorem key_mul_sg{x y:X}:(key (xmul x y) < 0↔sg x*sg y < 0)∧(key (xmul x y)=0↔sg x*sg y=0):=by
 have hK:=K_gt
 have a:=sg3 x
 have b:=sg3 y
 unfold xmul
 by_cases h:sg x*sg y=0
 ·rw[if_pos h,h];simp[key]
 ·rw[if_neg h]
  have one:sg x*sg y=1∨sg x*sg y= -1:=by
   rcases a with a | a | a<;>rcases b with b | b | b<;>rw[a,b]at h⊢<;>simp at h⊢
  have inf:(key (if sg x*sg y=1 then X.pi else X.ni) < 0↔sg x*sg y < 0)∧(key (if sg x*sg y=1 then X.pi else X.ni)=0↔sg x*sg y=0):=by
   rcases one with o | o<;>rw[o]
   ·rw[if_pos rfl,show key X.pi=K from rfl];omega
   ·rw[if_neg (by decide),show key X.ni= -K from rfl];omega
  cases x with
  | fin u=>cases y with
   | fin v =>
    simp only[key]
    have ku:=sg_key (.fin u)
    have kv:=sg_key (.fin v)
    simp only[key]at ku kv
    rcases a with a | a | a<;>rcases b with b | b | b<;>rw[a,b]at h⊢<;>simp at h⊢
    ·have:=Int.mul_pos_of_neg_of_neg (show u < 0 by omega) (show v < 0 by omega);omega
    ·have:=Int.mul_neg_of_neg_of_pos (show u < 0 by omega) (show 0 < v by omega);omega
    ·have:=Int.mul_neg_of_pos_of_neg (show 0 < u by omega) (show v < 0 by omega);omega
    ·have:=Int.mul_pos (show 0 < u by omega) (show 0 < v by omega);omega
   | ni=>exact inf
   | pi=>exact inf
  | ni=>exact inf
  | pi=>exact inf
theorem xmul_ff{a b:Int}:xmul (.fin a) (.fin b)=.fin (a*b):=by
 unfold xmul
 split
 ·rename_i h
  have:=(key_mul_sg (x:=.fin a) (y:=.fin b)).2
  have ka:=sg_key (.fin a)
  have kb:=sg_key (.fin b)
  simp only[key]at ka kb
  rcases Int.mul_eq_zero.1 h with z | z
  ·rw[ka.2.1.1 z,Int.zero_mul]
  ·rw[kb.2.1.1 z,Int.mul_zero]
 ·rfl
theorem xmul_mono{x x' y:X}(hx:okx Dd x)(hx':okx Dd x')(hy:okx Dd y)(h:key x≤key x')(h0:0≤key y):key (xmul x y)≤key (xmul x' y):=by
 have hK:=K_gt
 have hC:=Dd_K
 have k1:=key_le (xmul_okD hx hy)
 have k2:=key_le (xmul_okD hx' hy)
 have s1:=key_mul_sg (x:=x) (y:=y)
 have s2:=key_mul_sg (x:=x') (y:=y)
 have gx:=sg_key x
 have gx':=sg_key x'
 have gy:=sg_key y
 have a:=sg3 x
 have a':=sg3 x'
 have b:=sg3 y
 have inf:∀ {u v:X},(u=.ni∨u=.pi∨v=.ni∨v=.pi)→key (xmul u v)=sg u*sg v*K:=by
  intro u v hu
  have c:=sg3 u
  have d:=sg3 v
  unfold xmul
  by_cases hz:sg u*sg v=0
  ·rw[if_pos hz,hz];simp[key]
  ·rw[if_neg hz]
   have one:sg u*sg v=1∨sg u*sg v= -1:=by
    rcases c with c | c | c<;>rcases d with d | d | d<;>rw[c,d]at hz⊢<;>simp at hz⊢
   have f:key (if sg u*sg v=1 then X.pi else X.ni)=sg u*sg v*K:=by
    rcases one with o | o<;>rw[o]
    ·rw[if_pos rfl,show key X.pi=K from rfl];omega
    ·rw[if_neg (by decide),show key X.ni= -K from rfl];omega
   rcases hu with rfl | rfl | rfl | rfl
   ·exact f
   ·exact f
   ·cases u<;>exact f
   ·cases u<;>exact f
 by_cases y0:key y=0
 ·have:sg y=0:=by omega
  have e1:key (xmul x y)=0:=s1.2.2 (by rw[this,Int.mul_zero])
  have e2:key (xmul x' y)=0:=s2.2.2 (by rw[this,Int.mul_zero])
  omega
 have y1:sg y=1:=by omega
 rw[y1,Int.mul_one]at s1 s2
 cases y with
 | ni=>simp only[key]at h0;omega
 | pi =>
  rw[inf (.inr (.inr (.inr rfl))),inf (.inr (.inr (.inr rfl))),y1,Int.mul_one,Int.mul_one]
  exact Int.mul_le_mul_of_nonneg_right (by omega) (by omega)
 | fin v =>
  cases x with
  | ni =>
   rw[inf (.inl rfl),y1,Int.mul_one,show sg X.ni= -1 from rfl];omega
  | pi =>
   cases x' with
   | pi=>exact Int.le_refl _
   | ni=>simp only[key]at h;omega
   | fin w=>simp only[key,okx]at h hx';omega
  | fin u=>cases x' with
   | pi =>
    rw[inf (u:=X.pi) (.inr (.inl rfl)),y1,Int.mul_one,show sg X.pi=1 from rfl];omega
   | ni=>simp only[key,okx]at h hx;omega
   | fin w =>
    rw[xmul_ff,xmul_ff]
    simp only[key]at h h0⊢
    exact Int.mul_le_mul_of_nonneg_right h h0
theorem xmul_anti{x x' y:X}(hx:okx Dd x)(hx':okx Dd x')(hy:okx Dd y)(h:key x≤key x')(h0:key y≤0):key (xmul x' y)≤key (xmul x y):=by
 have:=xmul_mono hx hx' (xneg_ok hy) h (by rw[key_xneg];omega)
 rw[xmul_neg',xmul_neg',key_xneg,key_xneg]at this
 omega
def El(s:Sp)(x:X):Prop:=okx Dd x∧key s.lo≤key x∧key x≤key s.hi
theorem El_lo{s:Sp}(hs:oks C s)(he:emp s=false):El s s.lo:=⟨hs.1.D,Int.le_refl _,by have:=of_decide_eq_false he;omega⟩
theorem El_hi{s:Sp}(hs:oks C s)(he:emp s=false):El s s.hi:=⟨hs.2.D,by have:=of_decide_eq_false he;omega,Int.le_refl _⟩
theorem corner{s t:Sp}(hs:oks C s)(ht:oks C t){x y:X}(hx:El s x)(hy:El t y):
  (∃ cx cy,(cx=s.lo∨cx=s.hi)∧(cy=t.lo∨cy=t.hi)∧key (xmul cx cy)≤key (xmul x y))∧(∃ cx cy,(cx=s.lo∨cx=s.hi)∧(cy=t.lo∨cy=t.hi)∧key (xmul x y)≤key (xmul cx cy)):=by
 have one:∀ {s:Sp} {x y:X},oks C s→El s x→okx Dd y→(∃ cx,(cx=s.lo∨cx=s.hi)∧key (xmul cx y)≤key (xmul x y))∧(∃ cx,(cx=s.lo∨cx=s.hi)∧key (xmul x y)≤key (xmul cx y)):=by
  intro s x y hs hx hy
  by_cases h:0≤key y
  ·exact⟨⟨_,.inl rfl,xmul_mono hs.1.D hx.1 hy hx.2.1 h⟩,⟨_,.inr rfl,xmul_mono hx.1 hs.2.D hy hx.2.2 h⟩⟩
  ·exact⟨⟨_,.inr rfl,xmul_anti hx.1 hs.2.D hy hx.2.2 (by omega)⟩,⟨_,.inl rfl,xmul_anti hs.1.D hx.1 hy hx.2.1 (by omega)⟩⟩
 obtain⟨⟨cx,c1,c2⟩,⟨dx,d1,d2⟩⟩:=one hs hx hy.1
 have okc:∀ {c:X},(c=s.lo∨c=s.hi)→okx Dd c:=fun h=>by rcases h with rfl | rfl;exact hs.1.D;exact hs.2.D
 obtain⟨⟨cy,e1,e2⟩,_⟩:=one ht hy (okc c1)
 obtain⟨_,⟨dy,f1,f2⟩⟩:=one ht hy (okc d1)
 rw[xmul_comm cy,xmul_comm y]at e2
 rw[xmul_comm dy,xmul_comm y]at f2
 exact⟨⟨cx,cy,c1,e1,by omega⟩,⟨dx,dy,d1,f1,by omega⟩⟩
theorem xmin_or(x y:X):xmin x y=x∨xmin x y=y:=by unfold xmin;split;exact .inr rfl;exact .inl rfl
theorem xmax_or(x y:X):xmax x y=x∨xmax x y=y:=by unfold xmax;split;exact .inr rfl;exact .inl rfl
theorem apS_ends{o:X→X→X}{s t:Sp}(hs:emp s=false)(ht:emp t=false):
  ((∃ x y,(x=s.lo∨x=s.hi)∧(y=t.lo∨y=t.hi)∧(apS o s t).lo=o x y)∧(∀ x y,(x=s.lo∨x=s.hi)→(y=t.lo∨y=t.hi)→key (apS o s t).lo≤key (o x y)))∧
  ((∃ x y,(x=s.lo∨x=s.hi)∧(y=t.lo∨y=t.hi)∧(apS o s t).hi=o x y)∧(∀ x y,(x=s.lo∨x=s.hi)→(y=t.lo∨y=t.hi)→key (o x y)≤key (apS o s t).hi)):=by
 have e:apS o s t=⟨xmin (xmin (xmin (o s.lo t.lo) (o s.lo t.hi)) (o s.hi t.lo)) (o s.hi t.hi),xmax (xmax (xmax (o s.lo t.lo) (o s.lo t.hi)) (o s.hi t.lo)) (o s.hi t.hi)⟩:=by
  unfold apS
  rw[if_neg (by simp[hs]),if_neg (by simp[ht]),non_hull,hullNE (emp_one _) (emp_one _)]
  have e1:=emp_one (o s.lo t.lo)
  have e2:=emp_one (o s.lo t.hi)
  have e3:=emp_one (o s.hi t.lo)
  have e4:=emp_one (o s.hi t.hi)
  have n1:=hull_emp e1 e2
  rw[hullNE e1 e2]at n1
  rw[hullNE n1 e3]
  have n2:=hull_emp n1 e3
  rw[hullNE n1 e3]at n2
  rw[hullNE n2 e4]
  rfl
 rw[e]
 refine⟨⟨?_,?_⟩,⟨?_,?_⟩⟩
 ·simp only
  rcases xmin_or (xmin (xmin (o s.lo t.lo) (o s.lo t.hi)) (o s.hi t.lo)) (o s.hi t.hi)with h | h<;>rw[h]
  ·rcases xmin_or (xmin (o s.lo t.lo) (o s.lo t.hi)) (o s.hi t.lo)with h | h<;>rw[h]
   ·rcases xmin_or (o s.lo t.lo) (o s.lo t.hi)with h | h<;>rw[h]
    ·exact⟨_,_,.inl rfl,.inl rfl,rfl⟩
    ·exact⟨_,_,.inl rfl,.inr rfl,rfl⟩
   ·exact⟨_,_,.inr rfl,.inl rfl,rfl⟩
  ·exact⟨_,_,.inr rfl,.inr rfl,rfl⟩
 ·intro x y hx hy
  simp only[key_min]
  rcases hx with rfl | rfl<;>rcases hy with rfl | rfl<;>omega
 ·simp only
  rcases xmax_or (xmax (xmax (o s.lo t.lo) (o s.lo t.hi)) (o s.hi t.lo)) (o s.hi t.hi)with h | h<;>rw[h]
  ·rcases xmax_or (xmax (o s.lo t.lo) (o s.lo t.hi)) (o s.hi t.lo)with h | h<;>rw[h]
   ·rcases xmax_or (o s.lo t.lo) (o s.lo t.hi)with h | h<;>rw[h]
    ·exact⟨_,_,.inl rfl,.inl rfl,rfl⟩
    ·exact⟨_,_,.inl rfl,.inr rfl,rfl⟩
   ·exact⟨_,_,.inr rfl,.inl rfl,rfl⟩
  ·exact⟨_,_,.inr rfl,.inr rfl,rfl⟩
 ·intro x y hx hy
  simp only[key_max]
  rcases hx with rfl | rfl<;>rcases hy with rfl | rfl<;>omega
end Go.N
namespace Go.N
open Go Go.Q Go.Rx
def pt(i:Nat)(s:Sp):Sp:=if i=0 then negS s else if i=1 then zerS s else posS s
def Qp(i k:Nat)(p q:Sp):Sp:=if i=1∨k=1 then⟨.fin 0,.fin 0⟩else if i=0 then(if k=0 then⟨xmul p.hi q.hi,xmul p.lo q.lo⟩else⟨xmul p.lo q.hi,xmul p.hi q.lo⟩)else(if k=0 then⟨xmul p.hi q.lo,xmul p.lo q.hi⟩else⟨xmul p.lo q.lo,xmul p.hi q.hi⟩)
theorem pt_ok{s:Sp}(h:oks C s)(i:Nat):oks C (pt i s):=by
 unfold pt;split
 ·exact negS_ok h
 ·split
  ·exact zerS_ok h
  ·exact posS_ok h
theorem i3{i:Nat}(h:i < 3):i=0∨i=1∨i=2:=by omega
theorem pt_keys{s:Sp}(h:oks C s):(key (negS s).lo=key s.lo∧key (negS s).hi=min (key s.hi) (-1))∧(key (zerS s).lo=max (key s.lo) 0∧key (zerS s).hi=min (key s.hi) 0)∧(key (posS s).lo=max (key s.lo) 1∧key (posS s).hi=key s.hi):=by
 have a:=key_le h.K.1
 have b:=key_le h.K.2
 have h1:key (negS s).lo=max (key s.lo) (-K):=key_max s.lo .ni
 have h2:key (negS s).hi=min (key s.hi) (-1):=key_min s.hi (.fin (-1))
 have h3:key (zerS s).lo=max (key s.lo) 0:=key_max s.lo (.fin 0)
 have h4:key (zerS s).hi=min (key s.hi) 0:=key_min s.hi (.fin 0)
 have h5:key (posS s).lo=max (key s.lo) 1:=key_max s.lo (.fin 1)
 have h6:key (posS s).hi=min (key s.hi) K:=key_min s.hi .pi
 omega
theorem El_sub{s:Sp}(hs:oks C s){i:Nat}{x:X}(h:El (pt i s) x):El s x:=by
 have k:=pt_keys hs
 obtain⟨h1,h2,h3⟩:=h
 refine⟨h1,?_,?_⟩<;>unfold pt at h2 h3<;>split at h2<;>(try split at h2)<;>simp_all<;>omega
theorem El_ne{s:Sp}{x:X}(h:El s x):emp s=false:=decide_eq_false (by have:=h.2;omega)
theorem El_sign{s:Sp}(hs:oks C s){x:X}:(El (pt 0 s) x→key x≤-1)∧(El (pt 1 s) x→key x=0)∧(El (pt 2 s) x→1≤key x):=by
 have k:=pt_keys hs
 refine⟨fun h=>?_,fun h=>?_,fun h=>?_⟩
 ·have:=h.2.2;simp only[pt,if_true]at this;omega
 ·have a:=h.2.1
  have b:=h.2.2
  simp only[pt,Nat.one_ne_zero,if_true,if_false]at a b;omega
 ·have:=h.2.1
  simp only[pt,show ¬(2=0) by omega,show ¬(2=1) by omega,if_false]at this;omega
theorem cls{s:Sp}(hs:oks C s){x:X}(h:El s x):∃ i,i < 3∧El (pt i s) x:=by
 have k:=pt_keys hs
 obtain⟨h1,h2,h3⟩:=h
 rcases Int.lt_trichotomy (key x) 0 with z | z | z
 ·exact⟨0,by omega,h1,by simp only[pt,if_true];omega,by simp only[pt,if_true];omega⟩
 ·exact⟨1,by omega,h1,by simp only[pt,Nat.one_ne_zero,if_true,if_false];omega,by simp only[pt,Nat.one_ne_zero,if_true,if_false];omega⟩
 ·exact⟨2,by omega,h1,by simp only[pt,show ¬(2=0) by omega,show ¬(2=1) by omega,if_false];omega,by simp only[pt,show ¬(2=0) by omega,show ¬(2=1) by omega,if_false];omega⟩
theorem sg0{x:X}(h:key x=0):sg x=0:=(sg_key x).2.1.2 h
theorem key_mul0{x y:X}(h:key x=0∨key y=0):xmul x y=.fin 0:=by
 unfold xmul
 rw[if_pos]
 rcases h with h | h
 ·rw[sg0 h,Int.zero_mul]
 ·rw[sg0 h,Int.mul_zero]
theorem upr{x y y':X}(hx:okx Dd x)(hy:okx Dd y)(hy':okx Dd y')(h:key y≤key y')(h0:0≤key x):key (xmul x y)≤key (xmul x y'):=by rw[xmul_comm x y,xmul_comm x y'];exact xmul_mono hy hy' hx h h0
theorem dnr{x y y':X}(hx:okx Dd x)(hy:okx Dd y)(hy':okx Dd y')(h:key y≤key y')(h0:key x≤0):key (xmul x y')≤key (xmul x y):=by rw[xmul_comm x y,xmul_comm x y'];exact xmul_anti hy hy' hx h h0
theorem Qp_in{s t:Sp}(hs:oks C s)(ht:oks C t){i k:Nat}(hi:i < 3)(hk:k < 3){x y:X}(hx:El (pt i s) x)(hy:El (pt k t) y):
  key (Qp i k (pt i s) (pt k t)).lo≤key (xmul x y)∧key (xmul x y)≤key (Qp i k (pt i s) (pt k t)).hi:=by
 have ps:=pt_ok hs i
 have qs:=pt_ok ht k
 have pe:=El_ne hx
 have qe:=El_ne hy
 have a:=El_lo ps pe
 have b:=El_hi ps pe
 have c:=El_lo qs qe
 have d:=El_hi qs qe
 have S:=@El_sign s hs
 have T:=@El_sign t ht
 rcases i3 hi with rfl | rfl | rfl
 ·have sx:=S.1 hx
  have sa:=S.1 a
  have sb:=S.1 b
  rcases i3 hk with rfl | rfl | rfl
  ·have sy:=T.1 hy
   have sc:=T.1 c
   have sd:=T.1 d
   simp only[Qp,Nat.zero_ne_one,or_self,if_false,if_true]
   exact⟨Int.le_trans (xmul_anti hx.1 b.1 d.1 hx.2.2 (by omega)) (dnr hx.1 hy.1 d.1 hy.2.2 (by omega)),Int.le_trans (xmul_anti a.1 hx.1 hy.1 hx.2.1 (by omega)) (dnr a.1 c.1 hy.1 hy.2.1 (by omega))⟩
  ·have sy:=T.2.1 hy
   simp only[Qp,or_true,if_true]
   rw[key_mul0 (.inr sy)];exact⟨Int.le_refl _,Int.le_refl _⟩
  ·have sy:=T.2.2 hy
   have sc:=T.2.2 c
   have sd:=T.2.2 d
   simp only[Qp,Nat.zero_ne_one,show ¬(2=1) by omega,show ¬(2=0) by omega,or_self,if_false,if_true]
   exact⟨Int.le_trans (dnr a.1 hy.1 d.1 hy.2.2 (by omega)) (xmul_mono a.1 hx.1 hy.1 hx.2.1 (by omega)),Int.le_trans (xmul_mono hx.1 b.1 hy.1 hx.2.2 (by omega)) (dnr b.1 c.1 hy.1 hy.2.1 (by omega))⟩
 ·have sx:=S.2.1 hx
  simp only[Qp,true_or,if_true]
  rw[key_mul0 (.inl sx)];exact⟨Int.le_refl _,Int.le_refl _⟩
 ·have sx:=S.2.2 hx
  have sa:=S.2.2 a
  have sb:=S.2.2 b
  rcases i3 hk with rfl | rfl | rfl
  ·have sy:=T.1 hy
   have sc:=T.1 c
   have sd:=T.1 d
   simp only[Qp,Nat.zero_ne_one,show ¬(2=1) by omega,show ¬(2=0) by omega,or_self,if_false,if_true]
   exact⟨Int.le_trans (xmul_anti hx.1 b.1 c.1 hx.2.2 (by omega)) (upr hx.1 c.1 hy.1 hy.2.1 (by omega)),Int.le_trans (xmul_anti a.1 hx.1 hy.1 hx.2.1 (by omega)) (upr a.1 hy.1 d.1 hy.2.2 (by omega))⟩
  ·have sy:=T.2.1 hy
   simp only[Qp,or_true,if_true]
   rw[key_mul0 (.inr sy)];exact⟨Int.le_refl _,Int.le_refl _⟩
  ·have sy:=T.2.2 hy
   have sc:=T.2.2 c
   have sd:=T.2.2 d
   simp only[Qp,show ¬(2=1) by omega,show ¬(2=0) by omega,or_self,if_false]
   exact⟨Int.le_trans (xmul_mono a.1 hx.1 c.1 hx.2.1 (by omega)) (upr hx.1 c.1 hy.1 hy.2.1 (by omega)),Int.le_trans (xmul_mono hx.1 b.1 hy.1 hx.2.2 (by omega)) (upr b.1 hy.1 d.1 hy.2.2 (by omega))⟩
theorem Qp_ends{s t:Sp}(hs:oks C s)(ht:oks C t){i k:Nat}(hi:i < 3)(hk:k < 3)(ei:emp (pt i s)=false)(ek:emp (pt k t)=false):
  (∃ x y,El (pt i s) x∧El (pt k t) y∧(Qp i k (pt i s) (pt k t)).lo=xmul x y)∧(∃ x y,El (pt i s) x∧El (pt k t) y∧(Qp i k (pt i s) (pt k t)).hi=xmul x y):=by
 have a:=El_lo (pt_ok hs i) ei
 have b:=El_hi (pt_ok hs i) ei
 have c:=El_lo (pt_ok ht k) ek
 have d:=El_hi (pt_ok ht k) ek
 by_cases z:i=1∨k=1
 ·have e:xmul (pt i s).lo (pt k t).lo=.fin 0:=by
   apply key_mul0
   rcases z with rfl | rfl
   ·exact .inl ((El_sign hs).2.1 a)
   ·exact .inr ((El_sign ht).2.1 c)
  simp only[Qp,if_pos z]
  exact⟨⟨_,_,a,c,e.symm⟩,⟨_,_,a,c,e.symm⟩⟩
 ·unfold Qp
  rw[if_neg z]
  split<;>split
  ·exact⟨⟨_,_,b,d,rfl⟩,⟨_,_,a,c,rfl⟩⟩
  ·exact⟨⟨_,_,a,d,rfl⟩,⟨_,_,b,c,rfl⟩⟩
  ·exact⟨⟨_,_,b,c,rfl⟩,⟨_,_,a,d,rfl⟩⟩
  ·exact⟨⟨_,_,a,c,rfl⟩,⟨_,_,b,d,rfl⟩⟩
theorem Qp_ok{s t:Sp}(hs:oks C s)(ht:oks C t)(i k:Nat):oks K (Qp i k (pt i s) (pt k t)):=by
 have hK:=K_gt
 have p:=pt_ok hs i
 have q:=pt_ok ht k
 have z:okx K (.fin 0):=by simp only[okx];omega
 unfold Qp
 split
 ·exact⟨z,z⟩
 ·split<;>split
  ·exact⟨xmul_ok p.2 q.2,xmul_ok p.1 q.1⟩
  ·exact⟨xmul_ok p.1 q.2,xmul_ok p.2 q.1⟩
  ·exact⟨xmul_ok p.2 q.1,xmul_ok p.1 q.2⟩
  ·exact⟨xmul_ok p.1 q.1,xmul_ok p.2 q.2⟩
section
variable {s t:Sp}(hs:oks C s)(ht:oks C t)(es:emp s=false)(et:emp t=false)(ps:Pr s)(pt':Pr t)
include hs ht es et
theorem corner_ok{x y:X}(hx:x=s.lo∨x=s.hi)(hy:y=t.lo∨y=t.hi):El s x∧El t y:=by
 constructor
 ·rcases hx with rfl | rfl
  ·exact El_lo hs es
  ·exact El_hi hs es
 ·rcases hy with rfl | rfl
  ·exact El_lo ht et
  ·exact El_hi ht et
theorem F1{i k:Nat}(hi:i < 3)(hk:k < 3)(ei:emp (pt i s)=false)(ek:emp (pt k t)=false):
  key (apS xmul s t).lo≤key (Qp i k (pt i s) (pt k t)).lo∧key (Qp i k (pt i s) (pt k t)).hi≤key (apS xmul s t).hi:=by
 obtain⟨⟨x,y,hx,hy,e⟩,⟨x',y',hx',hy',e'⟩⟩:=Qp_ends hs ht hi hk ei ek
 have en:=apS_ends (o:=xmul) es et
 obtain⟨⟨cx,cy,c1,c2,c3⟩,_⟩:=corner hs ht (El_sub hs hx) (El_sub ht hy)
 obtain⟨_,⟨dx,dy,d1,d2,d3⟩⟩:=corner hs ht (El_sub hs hx') (El_sub ht hy')
 have a:=en.1.2 cx cy c1 c2
 have b:=en.2.2 dx dy d1 d2
 rw[e,e']
 omega
theorem F2:(∃ i k,i < 3∧k < 3∧emp (pt i s)=false∧emp (pt k t)=false∧(Qp i k (pt i s) (pt k t)).lo=(apS xmul s t).lo)∧
  (∃ i k,i < 3∧k < 3∧emp (pt i s)=false∧emp (pt k t)=false∧(Qp i k (pt i s) (pt k t)).hi=(apS xmul s t).hi):=by
 have en:=apS_ends (o:=xmul) es et
 have ok:=mulS_ok hs ht
 constructor
 ·obtain⟨cx,cy,c1,c2,c3⟩:=en.1.1
  have co:=corner_ok hs ht es et c1 c2
  obtain⟨i,hi,xi⟩:=cls hs co.1
  obtain⟨k,hk,yk⟩:=cls ht co.2
  have ei:=El_ne xi
  have ek:=El_ne yk
  have q:=Qp_in hs ht hi hk xi yk
  have f:=F1 hs ht es et hi hk ei ek
  refine⟨i,k,hi,hk,ei,ek,key_inj (Qp_ok hs ht i k).1 ok.1 ?_⟩
  rw[←c3]at q
  omega
 ·obtain⟨cx,cy,c1,c2,c3⟩:=en.2.1
  have co:=corner_ok hs ht es et c1 c2
  obtain⟨i,hi,xi⟩:=cls hs co.1
  obtain⟨k,hk,yk⟩:=cls ht co.2
  have ei:=El_ne xi
  have ek:=El_ne yk
  have q:=Qp_in hs ht hi hk xi yk
  have f:=F1 hs ht es et hi hk ei ek
  refine⟨i,k,hi,hk,ei,ek,key_inj (Qp_ok hs ht i k).2 ok.2 ?_⟩
  rw[←c3]at q
  omega
end
section
variable {s t:Sp}(hs:oks C s)(ht:oks C t)(es:emp s=false)(et:emp t=false)(ps:Pr s)(pt':Pr t)
include hs ht es et ps pt'
end
section
variable {s t:Sp}(hs:oks C s)(ht:oks C t)(es:emp s=false)(et:emp t=false)(ps:Pr s)(pt':Pr t)
include hs ht es et ps pt'
end
end Go.N
namespace Go.N
open Go Go.Q Go.Rx
def pp(i:Nat)(s:Sp):Sp:=if i=0 then⟨xneg (negS s).hi,xneg (negS s).lo⟩else posS s
section
variable (lf:Nat)(h3:200000≤lf){s t:Sp}(hs:oks C s)(ht:oks C t)(ps:Pr s)(pt':Pr t)
include h3 hs ht ps pt'
def sv(s:Sp):List IV:=[ac (toA (negS s)),ac (toA (zerS s)),ac (toA (posS s))]
end
def opS(op:Int)(s t:Sp):Sp:=if op=3 then addS s t else if op=4 then addS s (turn t)else if op=5 then apS xmul s t else if op=6 then quoS s t else remS s t
theorem op3{op:Int}(h:3≤op∧op≤7):op=3∨op=4∨op=5∨op=6∨op=7:=by omega
end Go.N
namespace Go.N
open Go Go.Q Go.Rx
theorem inS_iff{s:Sp}{z:Int}:inS s z=true↔key s.lo≤z∧z≤key s.hi:=by unfold inS;simp
theorem in_ne{s:Sp}{z:Int}(h:inS s z=true):emp s=false:=emp_of_in h
theorem in_turn{s:Sp}{z:Int}(h:inS s z=true):inS (turn s) (-z)=true:=by
 have e:=in_ne h
 rw[inS_iff]at h⊢
 unfold turn
 rw[if_neg (by simp[e])]
 simp only[key_xneg];omega
theorem in_hullL{s t:Sp}{z:Int}(h:inS s z=true):inS (hull s t) z=true:=by
 have e:=in_ne h
 rw[inS_iff]at h⊢
 unfold hull
 rw[if_neg (by simp[e])]
 split
 ·exact h
 ·simp only[key_min,key_max];omega
theorem in_hullR{s t:Sp}{z:Int}(h:inS t z=true):inS (hull s t) z=true:=by
 have e:=in_ne h
 rw[inS_iff]at h⊢
 unfold hull
 split
 ·exact h
 ·rw[if_neg (by simp[e])]
  simp only[key_min,key_max];omega
theorem in_pos{s:Sp}(hs:oks C s){z:Int}(h:inS s z=true)(h1:1≤z):inS (posS s) z=true:=by
 have k:=pt_keys hs
 rw[inS_iff]at h⊢
 omega
section
variable {s t:Sp}(hs:oks C s)(ht:oks C t){x y:Int}(bx: -Dd < x∧x < Dd)(by': -Dd < y∧y < Dd)(hx:inS s x=true)(hy:inS t y=true)
include hs ht bx by' hx hy
theorem in_add:inS (addS s t) (x+y)=true:=by
 have hK:=DD_K
 have hC:=C_gt
 have hD:=C_lt_Dd
 have h4:0≤Dd*Dd:=Int.mul_nonneg (by omega) (by omega)
 have e1:=in_ne hx
 have e2:=in_ne hy
 rw[inS_iff]at hx hy⊢
 unfold addS
 rw[if_neg (by simp[e1]),if_neg (by simp[e2])]
 obtain⟨sl,sh⟩:=s
 obtain⟨tl,th⟩:=t
 simp only at hx hy⊢
 have pl:=hx.1
 have ph:=hx.2
 have ql:=hy.1
 have qh:=hy.2
 constructor
 ·cases sl<;>cases tl<;>simp only[xadd,key]at pl ql⊢<;>omega
 ·cases sh<;>cases th<;>simp only[xadd,key]at ph qh⊢<;>omega
theorem in_mul:inS (apS xmul s t) (x*y)=true:=by
 have e1:=in_ne hx
 have e2:=in_ne hy
 rw[inS_iff]at hx hy⊢
 have en:=apS_ends (o:=xmul) e1 e2
 obtain⟨⟨cx,cy,c1,c2,c3⟩,⟨dx,dy,d1,d2,d3⟩⟩:=corner hs ht (x:=.fin x) (y:=.fin y) ⟨bx,hx⟩ ⟨by',hy⟩
 have a:=en.1.2 cx cy c1 c2
 have b:=en.2.2 dx dy d1 d2
 rw[xmul_ff,show key (X.fin (x*y))=x*y from rfl]at c3 d3
 omega
theorem in_over(h1:1≤y)(p1:Po t.lo)(p2:Po t.hi):inS (apS xover s t) (x.fdiv y)=true:=by
 have e1:=in_ne hx
 have e2:=in_ne hy
 rw[inS_iff]at hx hy⊢
 have en:=apS_ends (o:=xover) e1 e2
 have py:Po (.fin y):=h1
 have oy:okx Dd (.fin y):=by'
 have ox:okx Dd (.fin x):=bx
 have kx:key (X.fin x)=x:=rfl
 have ky:key (X.fin y)=y:=rfl
 have kq:key (xover (.fin x) (.fin y))=x.fdiv y:=rfl
 have lo:=xo_mono hs.1.D ox py (by rw[kx];exact hx.1)
 have hi:=xo_mono ox hs.2.D py (by rw[kx];exact hx.2)
 rw[kq]at lo hi
 constructor
 ·by_cases n:key s.lo < 0
  ·have:=xo_neg hs.1.D p1 py ht.1.D oy (by rw[ky];exact hy.1) n
   have:=en.1.2 s.lo t.lo (.inl rfl) (.inl rfl)
   omega
  ·have:=xo_pos hs.1.D py p2 oy ht.2.D (by rw[ky];exact hy.2) (by omega)
   have:=en.1.2 s.lo t.hi (.inl rfl) (.inr rfl)
   omega
 ·by_cases n:key s.hi < 0
  ·have:=xo_neg hs.2.D py p2 oy ht.2.D (by rw[ky];exact hy.2) n
   have:=en.2.2 s.hi t.hi (.inr rfl) (.inr rfl)
   omega
  ·have:=xo_pos hs.2.D p1 py ht.1.D oy (by rw[ky];exact hy.1) (by omega)
   have:=en.2.2 s.hi t.lo (.inr rfl) (.inl rfl)
   omega
theorem in_rem(h1:1≤y):inS (remI s t) (x.fmod y)=true:=by
 have hK:=Dd_K
 have hC:=C_gt
 have hD:=C_lt_Dd
 have m:=Int.mul_fdiv_add_fmod x y
 have b:=rest_bounds x h1
 have le_x:0≤x→x.fmod y≤x:=fun h0=>by
  have:=fdiv_nn h1 h0
  have:=Int.mul_nonneg (show 0≤y by omega) this
  omega
 have e1:=in_ne hx
 have e2:=in_ne hy
 rw[inS_iff]at hx hy
 rw[inS_iff]
 unfold remI
 split
 ·rename_i sg
  obtain⟨tl,th⟩:=t
  have ex:∃ c,tl=.fin c∧th=.fin c:=by
   cases tl<;>cases th<;>simp[single]at sg
   exact⟨_,rfl,by rw[sg]⟩
  obtain⟨c,rfl,rfl⟩:=ex
  simp only[key]at hy
  obtain rfl:y=c:=by omega
  simp only[valX]
  have all:key (allS y).lo≤x.fmod y∧x.fmod y≤key (allS y).hi:=by simp only[allS,key];omega
  obtain⟨sl,sh⟩:=s
  cases sl with
  | ni=>simp only[resS];exact all
  | pi=>simp only[resS];exact all
  | fin l=>cases sh with
   | ni=>simp only[resS];exact all
   | pi=>simp only[resS];exact all
   | fin h =>
    simp only[key]at hx
    simp only[resS]
    rw[res_same h1 (by omega)]
    split
    ·rename_i q
     have m1:=Int.mul_fdiv_add_fmod l y
     have m2:=Int.mul_fdiv_add_fmod h y
     have g1:=fdiv_mono h1 hx.1
     have g2:=fdiv_mono h1 hx.2
     have e:x.fdiv y=l.fdiv y:=by omega
     rw[e]at m
     rw[←q]at m2
     simp only[key];omega
    ·exact all
 ·split
  ·rename_i c1 c2
   have:x.fmod y=x:=by
    have:=(fdiv_unique (x:=x) (y:=y) (q:=0) (r:=x) (by rw[Int.mul_zero];omega) (.inl (by omega))).2
    omega
   rw[this];exact hx
  ·rename_i c1 c2
   refine⟨b.1,?_⟩
   have kx:x.fmod y≤key (xsh t.hi (-1)):=by
    have hh:=hy.2
    cases e:t.hi with
    | ni=>rw[e]at hh;simp only[key]at hh;omega
    | pi=>simp only[xsh,key];omega
    | fin v=>rw[e]at hh;simp only[xsh,key]at hh⊢;omega
   simp only
   split
   ·rename_i c3
    rw[key_min]
    have:=le_x (by omega)
    omega
   ·exact kx
end
section
variable {s t:Sp}(hs:oks C s)(ht:oks C t)(ps:Pr s)(pt':Pr t){x y:Int}(bx: -Dd < x∧x < Dd)(by': -Dd < y∧y < Dd)(hx:inS s x=true)(hy:inS t y=true)
include hs ht ps pt' bx by' hx hy
theorem in_quoS(h0:y≠0):inS (quoS s t) (x.fdiv y)=true:=by
 have e1:=in_ne hx
 unfold quoS
 rw[if_neg (by simp[e1])]
 rcases Int.lt_or_lt_of_ne h0 with z | z
 ·have hy':=in_pos (turn_ok ht) (in_turn hy) (show 1≤-y by omega)
  have e:=in_ne hy'
  obtain⟨l,l1,l2,l3⟩:=posS_Po e (turn_ok ht) pt'.turn
  rw[if_neg (show ¬emp (posS (turn t))=true by simp[e])]
  apply in_hullR
  have:=in_over (turn_ok hs) (posS_ok (turn_ok ht)) (x:= -x) (y:= -y) (by omega) (by omega) (in_turn hx) hy' (by omega) (by rw[l1];exact l2) l3
  have q:(-x).fdiv (-y)=x.fdiv y:=by
   have m:=Int.mul_fdiv_add_fmod x y
   have a:=Int.fmod_nonneg_of_pos (-x) (show 0 < -y by omega)
   have b:=Int.fmod_lt_of_pos (-x) (show 0 < -y by omega)
   rw[Int.neg_fmod_neg]at a b
   exact((fdiv_unique (x:= -x) (y:= -y) (q:=x.fdiv y) (r:= -x.fmod y) (by rw[Int.neg_mul];omega) (.inl (by omega))).1).symm
  rw[q]at this
  exact this
 ·have hy':=in_pos ht hy (show 1≤y by omega)
  have e:=in_ne hy'
  obtain⟨l,l1,l2,l3⟩:=posS_Po e ht pt'
  rw[if_neg (show ¬emp (posS t)=true by simp[e])]
  apply in_hullL
  exact in_over hs (posS_ok ht) bx by' hx hy' (by omega) (by rw[l1];exact l2) l3
theorem in_remS(h0:y≠0):inS (remS s t) (x.fmod y)=true:=by
 have e1:=in_ne hx
 unfold remS
 rw[if_neg (by simp[e1])]
 rcases Int.lt_or_lt_of_ne h0 with z | z
 ·have hy':=in_pos (turn_ok ht) (in_turn hy) (show 1≤-y by omega)
  have e:=in_ne hy'
  have:=in_turn (in_rem (turn_ok hs) (posS_ok (turn_ok ht)) (x:= -x) (y:= -y) (by omega) (by omega) (in_turn hx) hy' (by omega))
  rw[Int.neg_fmod_neg,Int.neg_neg]at this
  split
  ·rw[if_neg (show ¬emp (posS (turn t))=true by simp[e])];exact this
  ·rw[if_neg (show ¬emp (posS (turn t))=true by simp[e])];exact in_hullR this
 ·have hy':=in_pos ht hy (show 1≤y by omega)
  have e:=in_ne hy'
  have:=in_rem hs (posS_ok ht) bx by' hx hy' (by omega)
  rw[if_neg (show ¬emp (posS t)=true by simp[e])]
  split
  ·exact this
  ·exact in_hullL this
end
def valO(op x y:Int):Int:=if op=3 then x+y else if op=4 then x-y else if op=5 then x*y else if op=6 then x.fdiv y else x.fmod y
theorem in_op{s t:Sp}(hs:oks C s)(ht:oks C t)(ps:Pr s)(pt':Pr t){x y:Int}(bx: -Dd < x∧x < Dd)(by': -Dd < y∧y < Dd)(hx:inS s x=true)(hy:inS t y=true){op:Int}(ho:3≤op∧op≤7)(h0:op≤5∨y≠0):inS (opS op s t) (valO op x y)=true:=by
 rcases op3 ho with rfl | rfl | rfl | rfl | rfl
 ·exact in_add hs ht bx by' hx hy
 ·have:=in_add hs (turn_ok ht) bx (y:= -y) (by omega) hx (in_turn hy)
  rw[←Int.sub_eq_add_neg]at this
  exact this
 ·exact in_mul hs ht bx by' hx hy
 ·exact in_quoS hs ht ps pt' bx by' hx hy (h0.resolve_left (by decide))
 ·exact in_remS hs ht ps pt' bx by' hx hy (h0.resolve_left (by decide))
theorem remS_ok{s t:Sp}(hs:oks C s)(ht:oks C t)(ps:Pr s)(pt':Pr t):oks K (remS s t):=by
 unfold remS
 split
 ·exact non_ok
 ·split
  ·split
   ·exact non_ok
   ·rename_i e
    exact(turn_ok (remI_ok (turn_ok hs) (posS_ok (turn_ok ht)) (posS_ends (by simpa using e) (turn_ok ht) pt'.turn))).K
  ·rename_i e
   have a:=remI_ok hs (posS_ok ht) (posS_ends (by simpa using e) ht pt')
   split
   ·exact a.K
   ·rename_i e2
    exact hull_ok a.K (turn_ok (remI_ok (turn_ok hs) (posS_ok (turn_ok ht)) (posS_ends (by simpa using e2) (turn_ok ht) pt'.turn))).K
theorem quoS_ok{s t:Sp}(hs:oks C s)(ht:oks C t)(ps:Pr s)(pt':Pr t):oks K (quoS s t):=by
 unfold quoS
 split
 ·exact non_ok
 ·apply hull_ok
  ·split
   ·exact non_ok
   ·rename_i e
    exact ap_over_ok hs (posS_ends (by simpa using e) ht pt')
  ·split
   ·exact non_ok
   ·rename_i e
    exact ap_over_ok (turn_ok hs) (posS_ends (by simpa using e) (turn_ok ht) pt'.turn)
theorem opS_ok{s t:Sp}(hs:oks C s)(ht:oks C t)(ps:Pr s)(pt':Pr t){op:Int}:oks K (opS op s t):=by
 unfold opS
 split
 ·exact addS_ok hs ht
 ·split
  ·exact addS_ok hs (turn_ok ht)
  ·split
   ·exact mulS_ok hs ht
   ·split
    ·exact quoS_ok hs ht ps pt'
    ·exact remS_ok hs ht ps pt'
end Go.N
namespace Go.N
open Go Go.Q Go.Rx
theorem some_in{a:A}(ha:Wf a)(he:a.em=false):∃ z,(-C < z∧z < C)∧inS (ofA a) z=true:=by
 have hC:=C_gt
 have hK:=C_lt_K
 have l:=ha.lo
 have u:=ha.hi
 have le:=ha.le
 cases hl:a.lo with
 | some z =>
  rw[hl]at l le
  refine⟨z,l,(Wf.inS ha he (CK l)).2 ⟨fun v h=>(by rw[hl]at h;cases h;exact Int.le_refl _),fun v h=>?_⟩⟩
  rw[h]at le;exact le
 | none=>cases hh:a.hi with
  | some z =>
   rw[hh]at u
   exact⟨z,u,(Wf.inS ha he (CK u)).2 ⟨fun v h=>(by rw[hl]at h;cases h),fun v h=>(by rw[hh]at h;cases h;exact Int.le_refl _)⟩⟩
  | none=>exact⟨0,by omega,(Wf.inS ha he (by omega)).2 ⟨fun v h=>(by rw[hl]at h;cases h),fun v h=>(by rw[hh]at h;cases h)⟩⟩
theorem wf_of_in{s:Sp}(h:oks K s){z:Int}(hz: -K < z∧z < K)(hi:inS s z=true):Wf (toA s):=by
 refine toA_wf h (.inr ⟨fun e=>?_,fun e=>?_⟩)
 ·have:=inS_iff.1 hi;rw[e]at this;simp only[key]at this;omega
 ·have:=inS_iff.1 hi;rw[e]at this;simp only[key]at this;omega
theorem wf_non:Wf (toA non):=toA_wf non_ok (.inl emp_non)
theorem ofA_em{a:A}(h:a.em=true):ofA a=non:=by unfold ofA;rw[if_pos h]
theorem posS_non:emp (posS non)=true:=by
 have hK:=K_gt
 refine decide_eq_true ?_
 show key (xmax non.lo (.fin 1)) > key (xmin non.hi .pi)
 rw[key_max,key_min]
 simp only[non,key];omega
theorem posS_zero:emp (posS (⟨.fin 0,.fin 0⟩:Sp))=true:=by
 have hK:=K_gt
 refine decide_eq_true ?_
 show key (xmax (.fin 0) (.fin 1)) > key (xmin (.fin 0) .pi)
 rw[key_max,key_min]
 simp only[key];omega
theorem valO_K'{x y op:Int}(bx: -Dd < x∧x < Dd)(by': -Dd < y∧y < Dd)(ho:3≤op∧op≤7)(h0:op≤5∨y≠0): -K < valO op x y∧valO op x y < K:=by
 have hK:=DD_K
 have hC:=C_gt
 have hD:=C_lt_Dd
 have h4:0≤Dd*Dd:=Int.mul_nonneg (by omega) (by omega)
 rcases op3 ho with rfl | rfl | rfl | rfl | rfl
 ·show -K < x+y∧x+y < K;omega
 ·show -K < x-y∧x-y < K;omega
 ·have:=mul_Dd bx by';show -K < x*y∧x*y < K;omega
 ·have:=fdiv_abs (x:=x) (h0.resolve_left (by decide));show -K < x.fdiv y∧x.fdiv y < K;omega
 ·have:=fmod_abs (x:=x) (h0.resolve_left (by decide));show -K < x.fmod y∧x.fmod y < K;omega
section
variable {a b:A}(ha:Wf a)(hb:Wf b)
include ha hb
theorem hull_w:Wf (toA (hull (ofA a) (ofA b))):=by
 have hK:=K_gt
 have kh:=key_hull (ofA a) (ofA b)
 have ka:=ha.ks.keys
 have kb:=hb.ks.keys
 exact toA_wf' (hull_ok ha.okK hb.okK) (by intro h;rw[kh.1,kh.2]at *;split at*<;>(try split at *)<;>omega)
theorem non0(eb:b.em=false):(∃ z,(-C < z∧z < C)∧z≠0∧inS (ofA b) z=true)∨ofA b=⟨.fin 0,.fin 0⟩:=by
 have hC:=C_gt
 have hK:=C_lt_K
 have l:=hb.lo
 have u:=hb.hi
 have le:=hb.le
 have I:=fun z (hz: -C < z∧z < C)=>Wf.inS hb eb (CK hz)
 cases hl:b.lo with
 | some z =>
  rw[hl]at l le
  by_cases h0:z=0
  ·subst h0
   cases hh:b.hi with
   | some w =>
    rw[hh]at u le
    by_cases h1:w=0
    ·subst h1
     right
     unfold ofA;rw[eb,if_neg (by simp),hl,hh];rfl
    ·exact .inl ⟨w,u,h1,(I w u).2 ⟨fun v h=>(by rw[hl]at h;cases h;exact le),fun v h=>(by rw[hh]at h;cases h;exact Int.le_refl _)⟩⟩
   | none=>exact .inl ⟨1,by omega,by omega,(I 1 (by omega)).2 ⟨fun v h=>(by rw[hl]at h;cases h;omega),fun v h=>(by rw[hh]at h;cases h)⟩⟩
  ·exact .inl ⟨z,l,h0,(I z l).2 ⟨fun v h=>(by rw[hl]at h;cases h;exact Int.le_refl _),fun v h=>(by rw[h]at le;exact le)⟩⟩
 | none=>cases hh:b.hi with
  | some w =>
   rw[hh]at u
   by_cases h1:w=0
   ·subst h1
    exact .inl ⟨-1,by omega,by omega,(I (-1) (by omega)).2 ⟨fun v h=>(by rw[hl]at h;cases h),fun v h=>(by rw[hh]at h;cases h;omega)⟩⟩
   ·exact .inl ⟨w,u,h1,(I w u).2 ⟨fun v h=>(by rw[hl]at h;cases h),fun v h=>(by rw[hh]at h;cases h;exact Int.le_refl _)⟩⟩
  | none=>exact .inl ⟨1,by omega,by omega,(I 1 (by omega)).2 ⟨fun v h=>(by rw[hl]at h;cases h),fun v h=>(by rw[hh]at h;cases h)⟩⟩
theorem opS_non{op:Int}(h:a.em=true):opS op (ofA a) (ofA b)=non:=by
 rw[ofA_em h]
 unfold opS addS apS quoS remS
 simp[emp_non]
theorem opS_non'{op:Int}(ho:3≤op∧op≤7)(e:a.em=false)(h:b.em=true):opS op (ofA a) (ofA b)=non:=by
 rw[ofA_em h]
 have t:turn non=non:=by unfold turn;rw[if_pos emp_non]
 have p:=posS_non
 have ea:=emp_ofA ha
 rw[e]at ea
 rcases op3 ho with rfl | rfl | rfl | rfl | rfl
 ·simp[opS,addS,ea,emp_non]
 ·simp[opS,addS,ea,emp_non,t]
 ·simp[opS,apS,ea,emp_non]
 ·simp[opS,quoS,ea,t,p,hull,emp_non]
 ·simp[opS,remS,ea,t,p]
theorem opS_w{op:Int}(ho:3≤op∧op≤7):Wf (toA (opS op (ofA a) (ofA b))):=by
 have hD:=C_lt_Dd
 cases ea:a.em with
 | true=>rw[opS_non ha hb ea];exact wf_non
 | false=>cases eb:b.em with
  | true=>rw[opS_non' ha hb ho ea eb];exact wf_non
  | false =>
   obtain⟨x,hx,ix⟩:=some_in ha ea
   have ok:=opS_ok (op:=op) ha.okC hb.okC ha.pr hb.pr
   have fin:∀ y,(-C < y∧y < C)→inS (ofA b) y=true→(op≤5∨y≠0)→Wf (toA (opS op (ofA a) (ofA b))):=fun y hy iy h0 =>
    wf_of_in ok (valO_K' (x:=x) (y:=y) (by omega) (by omega) ho h0) (in_op ha.okC hb.okC ha.pr hb.pr (by omega) (by omega) ix iy ho h0)
   rcases non0 ha hb eb with⟨y,hy,y0,iy⟩ | e
   ·exact fin y hy iy (.inr y0)
   ·by_cases h5:op≤5
    ·obtain⟨y,hy,iy⟩:=some_in hb eb
     exact fin y hy iy (.inl h5)
    ·rw[e]
     have t:turn (⟨.fin 0,.fin 0⟩:Sp)=⟨.fin 0,.fin 0⟩:=by decide
     have p:=posS_zero
     have ea':=emp_ofA ha
     rw[ea]at ea'
     have:op=6∨op=7:=by omega
     rcases this with rfl | rfl
     ·simp[opS,quoS,ea',t,p,hull,emp_non];exact wf_non
     ·simp[opS,remS,ea',t,p];exact wf_non
end
theorem leqA_rf(s:Sp):leqA s s=true:=by rw[leqA_iff];apply decide_eq_true;omega
theorem widen_w{a b:A}(ha:Wf a)(hb:Wf b){zs:List Int}(hz:Th zs):
  Wf (toA (widen (ofA a) (ofA b) zs))∧leqA (ofA a) (ofA (toA (widen (ofA a) (ofA b) zs)))=true∧leqA (ofA b) (ofA (toA (widen (ofA a) (ofA b) zs)))=true:=by
 have hK:=K_gt
 cases ea:a.em with
 | true =>
  have e:toA (widen (ofA a) (ofA b) zs)=b:=by
   unfold widen hull
   rw[emp_ofA ha,ea,if_pos (.inl rfl),if_pos rfl,toA_ofA hb]
  rw[e]
  refine⟨hb,?_,leqA_rf _⟩
  unfold leqA;rw[emp_ofA ha,ea];rfl
 | false=>cases eb:b.em with
  | true =>
   have e:toA (widen (ofA a) (ofA b) zs)=a:=by
    unfold widen hull
    rw[emp_ofA ha,emp_ofA hb,ea,eb,if_pos (.inr rfl),if_neg (by simp),if_pos rfl,toA_ofA ha]
   rw[e]
   refine⟨ha,leqA_rf _,?_⟩
   unfold leqA;rw[emp_ofA hb,eb];rfl
  | false =>
   have ka:=ha.ks.e2 ea
   have kb:=hb.ks.e2 eb
   obtain⟨he,hp,hn⟩:=hull_keys ha hb ea eb
   have hCo:=hull_ok ha.okC hb.okC
   have hKo:=hull_ok ha.okK hb.okK
   have kh:=key_hull (ofA a) (ofA b)
   rw[if_neg (by omega),if_neg (by omega),if_neg (by omega),if_neg (by omega)]at kh
   have hW:widen (ofA a) (ofA b) zs=⟨if key (hull (ofA a) (ofA b)).lo≠key (ofA a).lo then below zs (hull (ofA a) (ofA b)).lo else(hull (ofA a) (ofA b)).lo,if key (hull (ofA a) (ofA b)).hi≠key (ofA a).hi then above zs (hull (ofA a) (ofA b)).hi else(hull (ofA a) (ofA b)).hi⟩:=by
    unfold widen;rw[emp_ofA ha,emp_ofA hb,ea,eb,if_neg (by simp)]
   generalize hull (ofA a) (ofA b)=H at *
   have le1:=below_le zs hKo.1
   have le2:=above_ge zs hKo.2
   have o1:=below_ok hz H.lo
   have o2:=above_ok hz H.hi
   rw[hW]
   obtain⟨lo,hlo⟩:∃ lo,lo=(if key H.lo≠key (ofA a).lo then below zs H.lo else H.lo):=⟨_,rfl⟩
   obtain⟨hi,hhi⟩:∃ hi,hi=(if key H.hi≠key (ofA a).hi then above zs H.hi else H.hi):=⟨_,rfl⟩
   rw[←hlo,←hhi]
   have olo:okx C lo:=by rw[hlo];split;exact o1;exact hCo.1
   have ohi:okx C hi:=by rw[hhi];split;exact o2;exact hCo.2
   have klo:key lo≤key H.lo:=by rw[hlo];split;exact le1;exact Int.le_refl _
   have khi:key H.hi≤key hi:=by rw[hhi];split;exact le2;exact Int.le_refl _
   have kk:=keys_toA (s:=⟨lo,hi⟩) ⟨olo,ohi⟩ (fun _=>by simp only;omega)
   have wf:=toA_wf' (s:=⟨lo,hi⟩) ⟨olo.mono (Int.le_of_lt C_lt_K),ohi.mono (Int.le_of_lt C_lt_K)⟩ (fun _=>by simp only;omega)
   simp only at kk
   rw[if_neg (by omega),if_neg (by omega)]at kk
   refine⟨wf,?_,?_⟩
   ·rw[leqA_iff,kk.1,kk.2];apply decide_eq_true;omega
   ·rw[leqA_iff,kk.1,kk.2];apply decide_eq_true;omega
end Go.N
namespace Go.N
open Go Go.Q Go.Rx
theorem leqA_in{s t:Sp}(h:leqA s t=true){z:Int}(hz:inS s z=true):inS t z=true:=by
 have e:=in_ne hz
 rw[leqA_iff,decide_eq_true_eq]at h
 have:=of_decide_eq_false e
 have:=inS_iff.1 hz
 exact inS_iff.2 (by omega)
namespace WfV
variable {v:Vl}(h:WfV v)
include h
theorem em:v.a.em=v.c.em:=by
 have r:=h.red
 unfold Go.N.red at r
 cases e1:v.a.em with
 | true =>
  rw[if_pos e1]at r
  rw[←r];rfl
 | false=>cases e2:v.c.em with
  | false=>rfl
  | true =>
   rw[if_neg (by simp[e1]),if_pos e2]at r
   rw[←r]at e1;simp[Ev,E0]at e1
theorem ev(e:v.a.em=true):v=Ev:=by
 have r:=h.red
 unfold Go.N.red at r
 rw[if_pos e]at r
 exact r.symm
theorem one(e:v.a.em=false)(m:v.c.m=0):v=onev v.c.r∧inS (ofA v.a) v.c.r=true:=by
 have r:=h.red
 have e2:v.c.em=false:=by rw[←h.em,e]
 unfold Go.N.red at r
 rw[if_neg (by simp[e]),if_neg (by simp[e2]),if_pos m]at r
 split at r
 ·exact⟨r.symm,by assumption⟩
 ·rw[←r]at e;simp[Ev,E0]at e
theorem fin(e:v.a.em=false)(m:v.c.m≠0):fin3 (v.a.lo.map (loC v.c)) (v.a.hi.map (hiC v.c)) v.c=v:=by
 have r:=h.red
 have e2:v.c.em=false:=by rw[←h.em,e]
 unfold Go.N.red at r
 rwa [if_neg (by simp[e]),if_neg (by simp[e2]),if_neg m]at r
theorem bnd(e:v.a.em=false):(∀ l,v.a.lo=some l→inC v.c l=true)∧∀ l,v.a.hi=some l→inC v.c l=true:=by
 have e2:v.c.em=false:=by rw[←h.em,e]
 by_cases m:v.c.m=0
 ·obtain⟨o,i⟩:=h.one e m
  have hs:inC v.c v.c.r=true:=(in_iff e2 h.c.pos).2 (by simp)
  constructor
  ·intro l hl
   rw[o]at hl;cases hl;exact hs
  ·intro l hl
   rw[o]at hl;cases hl;exact hs
 ·have p:0 < v.c.m:=by have:=h.c.pos;omega
  have f:=h.fin e m
  have ck:=h.a
  have lo:=ck.lo
  have hi:=ck.hi
  revert f lo hi
  cases hl:v.a.lo with
  | none=>cases hh:v.a.hi with
   | none=>intro _ _ _;exact⟨nofun,nofun⟩
   | some u =>
    intro f lo hi
    have f2:=congrArg (fun x=>x.a.hi) f
    simp only[Option.map,fin3,Option.bind,hh]at f2
    have hu:hiC v.c u=u:=by
     unfold clip at f2;split at f2
     ·exact Option.some.inj f2
     ·cases f2
    exact⟨nofun,fun l x=>by cases x;exact(in_iff e2 h.c.pos).2 (by have:=hi_in p u;rwa [hu]at this)⟩
  | some l=>cases hh:v.a.hi with
   | none =>
    intro f lo hi
    have f2:=congrArg (fun x=>x.a.lo) f
    simp only[Option.map,fin3,Option.bind,hl]at f2
    have hu:loC v.c l=l:=by
     unfold clip at f2;split at f2
     ·exact Option.some.inj f2
     ·cases f2
    exact⟨fun l x=>(by cases x;exact(in_iff e2 h.c.pos).2 (by have:=lo_in p l;rwa [hu]at this)),nofun⟩
   | some u =>
    intro f lo hi
    simp only[Option.map,fin3]at f
    split at f
    ·rw[←f]at e;simp[Ev,E0]at e
    ·split at f
     ·rw[←f]at m;simp[onev]at m
     ·have f1:=congrArg (fun x=>x.a.lo) f
      have f2:=congrArg (fun x=>x.a.hi) f
      simp only[hl,hh]at f1 f2
      have h1:loC v.c l=l:=by
       unfold clip at f1;split at f1
       ·exact Option.some.inj f1
       ·cases f1
      have h2:hiC v.c u=u:=by
       unfold clip at f2;split at f2
       ·exact Option.some.inj f2
       ·cases f2
      exact⟨fun k x=>(by cases x;exact(in_iff e2 h.c.pos).2 (by have:=lo_in p l;rwa [h1]at this)),fun k x=>(by cases x;exact(in_iff e2 h.c.pos).2 (by have:=hi_in p u;rwa [h2]at this))⟩
end WfV
end Go.N
namespace Go.N
open Go Go.Q Go.Rx
def joinV(a b:Vl):Vl:=red (toA (hull (ofA a.a) (ofA b.a))) (joinC a.c b.c)
def opC(op:Int)(c d:Cg):Cg:=if op=3 then plusC c d else if op=4 then minusC c d else if op=5 then timesC c d else if op=6 then quoC c d else restC c d
def opV(op:Int)(a b:Vl):Vl:=red (toA (opS op (ofA a.a) (ofA b.a))) (opC op a.c b.c)
def negV(a:Vl):Vl:=red (toA (turn (ofA a.a))) (negC a.c)
def widV(zs:List Int)(a b:Vl):Vl:=red (toA (widen (ofA a.a) (ofA b.a) zs)) (joinC a.c b.c)
theorem opC_wf{op:Int}{c d:Cg}(hc:WfC c):WfC (opC op c d):=by
 unfold opC;split;exact plusC_wf;split;exact minusC_wf;split;exact timesC_wf;split;exact quoC_wf hc;exact restC_wf
section
variable {a b:Vl}(ha:WfV a)(hb:WfV b)
include ha hb
theorem joinV_V:WfV (joinV a b):=red_V (hull_w ha.a hb.a) (joinC_wf ha.c hb.c)
theorem opV_V{op:Int}(ho:3≤op∧op≤7):WfV (opV op a b):=red_V (opS_w ha.a hb.a ho) (opC_wf ha.c)
theorem widV_V{zs:List Int}(hz:Th zs):WfV (widV zs a b):=red_V (widen_w ha.a hb.a hz).1 (joinC_wf ha.c hb.c)
end
theorem negV_V{a:Vl}(ha:WfV a):WfV (negV a):=red_V (turnA ha.a).1 negC_wf
theorem inV_2{v:Vl}{z:Int}(h:inV v z=true):inS (ofA v.a) z=true∧inC v.c z=true:=by
 unfold inV at h;rwa [Bool.and_eq_true]at h
section
variable {a b:Vl}(ha:WfV a)(hb:WfV b)
include ha hb
theorem in_joinVL{z:Int}(hz: -K < z∧z < K)(h:inV a z=true):inV (joinV a b) z=true:=by
 obtain⟨h1,h2⟩:=inV_2 h
 exact red_in (hull_w ha.a hb.a) (joinC_wf ha.c hb.c) hz (inS_toA (hull_ok ha.a.okK hb.a.okK) hz (in_hullL h1)) (in_joinL ha.c h2)
theorem in_joinVR{z:Int}(hz: -K < z∧z < K)(h:inV b z=true):inV (joinV a b) z=true:=by
 obtain⟨h1,h2⟩:=inV_2 h
 exact red_in (hull_w ha.a hb.a) (joinC_wf ha.c hb.c) hz (inS_toA (hull_ok ha.a.okK hb.a.okK) hz (in_hullR h1)) (in_joinR hb.c h2)
theorem in_opV{op x y:Int}(ho:3≤op∧op≤7)(bx: -Dd < x∧x < Dd)(by': -Dd < y∧y < Dd)(h1:inV a x=true)(h2:inV b y=true)(h0:op≤5∨y≠0):inV (opV op a b) (valO op x y)=true:=by
 obtain⟨h1,h3⟩:=inV_2 h1
 obtain⟨h2,h4⟩:=inV_2 h2
 have hk:=valO_K' bx by' ho h0
 refine red_in (opS_w ha.a hb.a ho) (opC_wf ha.c) hk (inS_toA (opS_ok ha.a.okC hb.a.okC ha.a.pr hb.a.pr) hk (in_op ha.a.okC hb.a.okC ha.a.pr hb.a.pr bx by' h1 h2 ho h0)) ?_
 rcases op3 ho with rfl | rfl | rfl | rfl | rfl
 ·exact in_plus ha.c hb.c h3 h4
 ·exact in_minus ha.c hb.c h3 h4
 ·exact in_times ha.c hb.c h3 h4
 ·exact in_quo ha.c hb.c h3 h4 (h0.resolve_left (by decide))
 ·exact in_rest ha.c hb.c h3 h4 (h0.resolve_left (by decide))
theorem in_widVR{zs:List Int}(hz:Th zs){z:Int}(bz: -K < z∧z < K)(h:inV b z=true):inV (widV zs a b) z=true:=by
 obtain⟨h1,h2⟩:=inV_2 h
 obtain⟨w,l1,l2⟩:=widen_w ha.a hb.a hz
 exact red_in w (joinC_wf ha.c hb.c) bz (leqA_in l2 h1) (in_joinR hb.c h2)
end
theorem in_negV{a:Vl}(ha:WfV a){z:Int}(hz: -K < z∧z < K)(h:inV a z=true):inV (negV a) (-z)=true:=by
 obtain⟨h1,h2⟩:=inV_2 h
 have ok:=turn_ok ha.a.okC
 exact red_in (turnA ha.a).1 negC_wf (by omega) (inS_toA ok.K (by omega) (in_turn h1)) (in_neg ha.c h2)
end Go.N
namespace Go.N
open Go Go.Q Go.Rx
abbrev tb(b:ByteArray):Nat:=b.data.toList.length
def SmV(x:VV):Prop:=tb x.1.2.1≤100000∧tb x.1.2.2.1≤100000∧tb x.2.1.2.1≤100000∧tb x.2.1.2.2.1≤100000
theorem vv_beq(x y:VV):(((x.1.1==y.1.1)&&((x.1.2.1==y.1.2.1)&&((x.1.2.2.1==y.1.2.2.1)&&true)))&&(((x.2.1.1==y.2.1.1)&&((x.2.1.2.1==y.2.1.2.1)&&((x.2.1.2.2.1==y.2.1.2.2.1)&&true)))&&true))=decide (x=y):=by
 obtain⟨⟨e1,l1,m1,⟨⟩⟩,⟨e2,l2,m2,⟨⟩⟩,⟨⟩⟩:=x
 obtain⟨⟨f1,p1,q1,⟨⟩⟩,⟨f2,p2,q2,⟨⟩⟩,⟨⟩⟩:=y
 rw[Bool.eq_iff_iff]
 simp only[ba_beq,Bool.and_eq_true,beq_iff_eq,decide_eq_true_eq,Bool.and_true,Prod.mk.injEq,and_true]
theorem vc_wf{a:A}{c:Cg}(ha:Wf a)(hc:WfC c)(h:vc (red a c)=vc ⟨a,c⟩):∃ v,vc ⟨a,c⟩=vc v∧WfV v:=by
 simp only[vc,Prod.mk.injEq]at h
 have e1:=ac_inj h.1
 obtain⟨e2,e3⟩:=cc_inj h.2.1
 cases ec:c.em with
 | true =>
  have hE:red a c=Ev:=by
   unfold red
   by_cases e:a.em=true
   ·rw[if_pos e]
   ·rw[if_neg e,if_pos ec]
  refine⟨Ev,?_,Ev_V⟩
  rw[hE]at e1
  simp only[vc,←e1]
  rw[cc_em ec];rfl
 | false =>
  rw[ec]at e2
  refine⟨⟨a,c⟩,rfl,ha,hc,?_⟩
  have e4:=e3 e2
  show red a c=⟨a,c⟩
  generalize red a c=r at *
  cases r;simp_all
section
variable (lf:Nat)(hb:Big lf)
include hb
theorem chkV{x:VV}(hx:SmV x):∃ n:Int,value_Check.f lf x=some (n,())∧surveyorref23_Check.f lf x=some (n,())∧(n=0→∃ v,x=vc v∧WfV v):=by
 have hlf:=hb.1
 have h3:200000≤lf:=by omega
 obtain⟨⟨e1,l1,m1,⟨⟩⟩,⟨e2,l2,m2,⟨⟩⟩,⟨⟩⟩:=x
 obtain⟨x1,x2,x3,x4⟩:=hx
 rw[←bs_eta l1,←bs_eta m1,←bs_eta l2,←bs_eta m2]
 simp only[tb]at x1 x2 x3 x4
 revert x1 x2 x3 x4
 generalize l1.data.toList=l1
 generalize m1.data.toList=m1
 generalize l2.data.toList=l2
 generalize m2.data.toList=m2
 intro x1 x2 x3 x4
 have p1:=check_iv lf h3 e1 l1 m1 (by omega) (by omega)
 have p2:=check_ref lf h3 e1 l1 m1 (by omega) (by omega) (by omega) (by omega)
 have q1:=ckc_f lf h3 e2 l2 m2 (by omega) (by omega)
 have q2:=ckc_ref lf h3 e2 l2 m2 (by omega) (by omega) (by omega) (by omega)
 rw[value_Check.f,value_parts.f,surveyorref23_Check.f]
 simp only[p1,p2,bdS]
 by_cases k1:ck e1 l1 m1=0
 ·rw[k1]
  simp only[bne_self_eq_false,brF,q1,q2,bdS]
  by_cases k2:ckc e2 l2 m2=0
  ·obtain⟨a,ea,ha⟩:=ck_wf k1
   obtain⟨c,ec,hc⟩:=ckc_wf k2
   rw[k2]
   have r1:=vred_f lf hb ha hc
   have r2:=rred_f lf hb ha hc
   rw[←ea,←ec]at r1 r2
   simp only[bne_self_eq_false,brF,r1,r2,bdS]
   have bq:=vv_beq (vc (red a c)) ((e1,bs l1,bs m1,()),(e2,bs l2,bs m2,()),())
   simp only at bq
   rw[bq,ea,ec]
   by_cases h:vc (red a c)=(ac a,cc c,())
   ·rw[decide_eq_true h,Bool.not_true,brF]
    exact⟨0,rfl,rfl,fun _=>vc_wf ha hc h⟩
   ·rw[decide_eq_false h,Bool.not_false,brT]
    exact⟨3,rfl,rfl,nofun⟩
  ·simp only[bneT k2,brT]
   exact⟨_,rfl,rfl,fun h=>absurd h k2⟩
 ·simp only[bneT k1,brT,bdS]
  exact⟨_,rfl,rfl,fun h=>absurd h k1⟩
theorem chk2V{x y:VV}(hx:SmV x)(hy:SmV y):∃ n:Int,value_checks.f lf x y=some (n,())∧surveyorref23_Checks.f lf x y=some (n,())∧(n=0→∃ v w,x=vc v∧y=vc w∧WfV v∧WfV w):=by
 obtain⟨n,a1,a2,a3⟩:=chkV lf hb hx
 obtain⟨m,b1,b2,b3⟩:=chkV lf hb hy
 rw[value_checks.f,surveyorref23_Checks.f,a1,a2,bdS,bdS]
 by_cases h:n=0
 ·subst h
  simp only[bne_self_eq_false,brF,b1,b2,bdS]
  refine⟨m,rfl,rfl,fun h=>?_⟩
  obtain⟨v,e1,w1⟩:=a3 rfl
  obtain⟨w,e2,w2⟩:=b3 h
  exact⟨v,w,e1,e2,w1,w2⟩
 ·simp only[bneT h,brT]
  exact⟨n,rfl,rfl,fun e=>absurd e h⟩
theorem chk_wf{v:Vl}(h:WfV v):value_Check.f lf (vc v)=some (0,())∧surveyorref23_Check.f lf (vc v)=some (0,()):=by
 have hlf:=hb.1
 have h3:200000≤lf:=by omega
 have p1:=check_wf lf h3 h.a
 have p2:=check_wf_ref lf h3 h.a
 have q1:=ccheck lf hb h.c
 have q2:=rcheck lf hb h.c
 have r1:=vred_f lf hb h.a h.c
 have r2:=rred_f lf hb h.a h.c
 rw[h.red]at r1 r2
 have bq:=vv_beq (vc v) (vc v)
 rw[decide_eq_true rfl]at bq
 constructor
 ·rw[value_Check.f,value_parts.f]
  simp only[show(vc v).1=ac v.a from rfl,show(vc v).2.1=cc v.c from rfl]at bq⊢
  simp only[p1,q1,r1,bdS,bne_self_eq_false,brF]
  simp only[show(vc v).1=ac v.a from rfl,show(vc v).2.1=cc v.c from rfl,bq,Bool.not_true,brF]
 ·rw[surveyorref23_Check.f]
  simp only[show(vc v).1=ac v.a from rfl,show(vc v).2.1=cc v.c from rfl]at bq⊢
  simp only[p2,q2,r2,bdS,bne_self_eq_false,brF]
  simp only[show(vc v).1=ac v.a from rfl,show(vc v).2.1=cc v.c from rfl,bq,Bool.not_true,brF]
theorem chk2_f{v w:Vl}(h:WfV v)(k:WfV w):value_checks.f lf (vc v) (vc w)=some (0,()):=by
 rw[value_checks.f,(chk_wf lf hb h).1,bdS]
 simp only[bne_self_eq_false,brF,(chk_wf lf hb k).1,bdS]
end
end Go.N
namespace Go.N
open Go Go.Q Go.Rx
section
variable (lf:Nat)(hb:Big lf){v w:Vl}(hv:WfV v)(hw:WfV w)
include hb hv hw
theorem joinV_f:value_Join.f lf (vc v) (vc w)=some (vc (joinV v w),0,()):=by
 have h3:200000≤lf:=by have:=hb.1;omega
 rw[value_Join.f,chk2_f lf hb hv hw,bdS]
 simp only[bne_self_eq_false,brF]
 simp only[show(vc v).1=ac v.a from rfl,show(vc v).2.1=cc v.c from rfl,show(vc w).1=ac w.a from rfl,show(vc w).2.1=cc w.c from rfl,join_f lf h3 hv.a hw.a,join_c lf hb hv.c hw.c,bdS,bne_self_eq_false,brF,vred_f lf hb (hull_w hv.a hw.a) (joinC_wf hv.c hw.c)]
 rfl
end
section
variable (lf:Nat)(hb:Big lf){v:Vl}(hv:WfV v)
include hb hv
theorem negV_f:value_Neg.f lf (vc v)=some (vc (negV v),0,()):=by
 have h3:200000≤lf:=by have:=hb.1;omega
 rw[value_Neg.f,(chk_wf lf hb hv).1,bdS]
 simp only[bne_self_eq_false,brF]
 simp only[show(vc v).1=ac v.a from rfl,show(vc v).2.1=cc v.c from rfl,neg_f lf h3 hv.a,neg_c lf hb hv.c,bdS,vred_f lf hb (turnA hv.a).1 negC_wf]
 rfl
end
section
variable (lf:Nat)(hb:Big lf){x y:VV}(hx:SmV x)(hy:SmV y)
include hb hx hy
end
end Go.N
namespace Go.N
open Go Go.Q Go.Rx
section
variable (lf:Nat)(hb:Big lf)
include hb
theorem inV_r{v:Vl}(hv:WfV v){z:Int}(hz: -Dd < z∧z < Dd):surveyorref23_In.f lf (vc v) (bs (Lib.itoa z))=some (inV v z,()):=by
 have h3:200000≤lf:=by have:=hb.1;omega
 have hk: -K < z∧z < K:=by have:=Dd_K;omega
 rw[surveyorref23_In.f]
 simp only[show(vc v).1=ac v.a from rfl,show(vc v).2.1=cc v.c from rfl,in_ref lf h3 hv.a hk,in_r lf hb hv.c hz,bdS]
 unfold inV
 cases inS (ofA v.a) z<;>simp only[brT,brF,Bool.true_and,Bool.false_and]
theorem num_Dd{l:List UInt8}(h:chk l=0)(hl:l.length≤1000):∃ z:Int,l=Lib.itoa z∧-Dd < z∧z < Dd:=by
 have e:=itoa_iv (chk_zero.1 h).1
 refine⟨iv l,e,(sz_Dd _).1 ?_⟩
 have:=nlen_le l
 unfold sz
 rw[←e];omega
end
end Go.N
namespace Go.N
open Go Go.Q Go.Rx
theorem ev_join{v w:Vl}(hv:WfV v)(hw:WfV w)(zs:List Int)(e:v.a.em=true):widV zs v w=w:=by
 have e1:toA (widen (ofA v.a) (ofA w.a) zs)=w.a:=by
  unfold widen hull
  rw[emp_ofA hv.a,e,if_pos (.inl rfl),if_pos rfl,toA_ofA hw.a]
 have e2:joinC v.c w.c=w.c:=by unfold joinC;rw[if_pos (by rw[←hv.em];exact e)]
 unfold widV
 rw[e1,e2,hw.red]
theorem ev_join'{v w:Vl}(hv:WfV v)(hw:WfV w)(zs:List Int)(e:v.a.em=false)(e':w.a.em=true):widV zs v w=v:=by
 have e1:toA (widen (ofA v.a) (ofA w.a) zs)=v.a:=by
  unfold widen hull
  rw[emp_ofA hv.a,emp_ofA hw.a,e,e',if_pos (.inr rfl),if_neg (by simp),if_pos rfl,toA_ofA hv.a]
 have e2:joinC v.c w.c=v.c:=by unfold joinC;rw[if_neg (by rw[←hv.em,e];simp),if_pos (by rw[←hw.em];exact e')]
 unfold widV
 rw[e1,e2,hv.red]
section
variable (lf:Nat)(hb:Big lf){v w:Vl}(hv:WfV v)(hw:WfV w)
include hb hv hw
theorem widV_f{zs:List Int}(hz:Th zs)(hl:zs.length≤1024)(hasc:interval_ascending.f lf (zs.map bz)=some (0,())):value_Widen.f lf (vc v) (vc w) (zs.map bz)=some (vc (widV zs v w),0,()):=by
 have h3:200000≤lf:=by have:=hb.1;omega
 rw[value_Widen.f,chk2_f lf hb hv hw,bdS]
 simp only[bne_self_eq_false,brF]
 simp only[show(vc v).1=ac v.a from rfl,show(vc v).2.1=cc v.c from rfl,show(vc w).1=ac w.a from rfl,show(vc w).2.1=cc w.c from rfl,show(ac v.a).1=v.a.em from rfl,show(ac w.a).1=w.a.em from rfl,widen_f lf h3 hv.a hw.a hz hl hasc,bdS,bne_self_eq_false,brF]
 cases e:v.a.em with
 | true=>simp only[brT];rw[ev_join hv hw zs e]
 | false=>cases e':w.a.em with
  | true=>simp only[brT,brF];rw[ev_join' hv hw zs e e']
  | false =>
   simp only[brF,join_c lf hb hv.c hw.c,bdS,bne_self_eq_false,vred_f lf hb (widen_w hv.a hw.a hz).1 (joinC_wf hv.c hw.c)]
   rfl
end
section
variable (lf:Nat)(hb:Big lf){x y:VV}(hx:SmV x)(hy:SmV y)
include hb hx hy
end
section
variable (lf:Nat)(hb:Big lf){x:VV}(hx:SmV x)
include hb hx
end
end Go.N
namespace Go.N
open Go Go.Q Go.Rx
theorem few22_f(lf:Nat)(x:IV):∃ b,surveyorref22_Few.f lf x=some (b,())∧(b=true→tb x.2.1≤100000∧tb x.2.2.1≤100000):=by
 rw[surveyorref22_Few.f]
 simp only[surveyorref01_Few.f,bdS]
 by_cases h:((x.2.1.size:Nat):Int)≤250
 ·rw[decide_eq_true h,brT]
  refine⟨_,rfl,fun k=>?_⟩
  have k:=of_decide_eq_true k
  rw[Lib.size_eq]at h k
  exact⟨by simp only[tb];omega,by simp only[tb];omega⟩
 ·rw[decide_eq_false h,brF]
  exact⟨_,rfl,nofun⟩
theorem few21_f(lf:Nat)(x y:IV):∃ b,surveyorref21_Few.f lf x y=some (b,())∧(b=true→(tb x.2.1≤100000∧tb x.2.2.1≤100000)∧(tb y.2.1≤100000∧tb y.2.2.1≤100000)):=by
 rw[surveyorref21_Few.f]
 by_cases h1:((x.2.1.size:Nat):Int)≤450
 ·rw[decide_eq_true h1,brT]
  by_cases h2:((x.2.2.1.size:Nat):Int)≤450
  ·rw[decide_eq_true h2,brT]
   by_cases h3:((y.2.1.size:Nat):Int)≤450
   ·rw[decide_eq_true h3,brT]
    refine⟨_,rfl,fun k=>?_⟩
    have k:=of_decide_eq_true k
    rw[Lib.size_eq]at h1 h2 h3 k
    exact⟨⟨by simp only[tb];omega,by simp only[tb];omega⟩,by simp only[tb];omega,by simp only[tb];omega⟩
   ·rw[decide_eq_false h3,brF];exact⟨_,rfl,nofun⟩
  ·rw[decide_eq_false h2,brF];exact⟨_,rfl,nofun⟩
 ·rw[decide_eq_false h1,brF];exact⟨_,rfl,nofun⟩
theorem fewV_f(lf:Nat)(x y:VV):∃ b,surveyorref23_Few.f lf x y=some (b,())∧(b=true→SmV x∧SmV y):=by
 obtain⟨a,a1,a2⟩:=few21_f lf x.1 y.1
 obtain⟨b,b1,b2⟩:=few22_f lf x.2.1
 obtain⟨c,c1,c2⟩:=few22_f lf y.2.1
 rw[surveyorref23_Few.f,a1,bdS]
 cases a with
 | false=>simp only[brF];exact⟨_,rfl,nofun⟩
 | true =>
  simp only[brT,b1,bdS]
  cases b with
  | false=>simp only[brF];exact⟨_,rfl,nofun⟩
  | true =>
   simp only[brT,c1,bdS]
   refine⟨_,rfl,fun k=>?_⟩
   obtain⟨q1,q2⟩:=a2 rfl
   have q3:=b2 rfl
   have q4:=c2 k
   exact⟨⟨q1.1,q1.2,q3.1,q3.2⟩,q2.1,q2.2,q4.1,q4.2⟩
theorem bigN(n:Nat):∃ lf,Big lf∧n≤lf:=⟨2000000000+K.toNat+n,⟨by omega,by omega⟩,by omega⟩
theorem bigE:∃ lf,Big lf:=⟨_,(bigN 0).choose_spec.1⟩
end Go.N
namespace Go.N
open Go Go.Q
theorem awakeV(lf:Nat):surveyorlaw23_awake.f lf=some (true,()):=by kernel_rfl
end Go.N
namespace Go.Q
open Go Go.RowKit Go.ChangeShapes Go.WideShapes
def flat:Ty→Bool
 | .sl _=>false
 | .pair a b=>flat a&&flat b
 | _=>true
def partsOf(P:Program)(t:TypeId):List (TypeId×Nat):=match P.underlying t with
 | some (.struct fs)=>fs.toList.map fun f=>(f.type,f.offset)
 | some (.array n e)=>(List.range n).map fun i=>(e,i*P.cellsOf e)
 | _=>[]
mutual
def fitT(P:Program):Ty→TypeId→Bool
 | .int k,t=>match P.underlying t with
  | some (.int k')=>decide (k'=k)
  | _=>false
 | .bool,t=>match P.underlying t with
  | some .bool=>true
  | _=>false
 | .str,t=>match P.underlying t with
  | some .string=>true
  | _=>false
 | .unit,_=>false
 | .nul,_=>false
 | .pair a b,t=>match partsOf P t with
  | p::r=>p.2==0&&(fitT P a p.1&&(P.cellsOf p.1==a.n&&(fitL P b r a.n&&P.cellsOf t==a.n+b.n)))
  | []=>false
 | .sl e,t=>match P.underlying t with
  | some (.slice e')=>fitT P e e'&&(flat e&&P.cellsOf e'==e.n)
  | _=>false
def fitL(P:Program):Ty→List (TypeId×Nat)→Nat→Bool
 | .unit,l,_=>match l with
  | []=>true
  | _=>false
 | .pair a b,l,k=>match l with
  | p::r=>p.2==k&&(fitT P a p.1&&(P.cellsOf p.1==a.n&&fitL P b r (k+a.n)))
  | []=>false
 | _,_,_=>false
end
def Bnd:(T:Ty)→T.α→Prop
 | .int k,x=>k.min≤x∧x≤k.max
 | .str,x=>x.size≤9223372036854775807
 | .pair a b,x=>Bnd a x.1∧Bnd b x.2
 | .sl e,l=>l.length≤9223372036854775807∧∀ y∈l,Bnd e y
 | _,_=>True
def Bnds:(ps:List Ty)→Tys ps→Prop
 | [],_=>True
 | t::ts,x=>Bnd t x.1∧Bnds ts x.2
section
variable {H:Type}{enc:TypeId×Value→H}{P:Program}{w:World}{F:Nat→Prop}{sp:Nat→Bool}{held:Bool}
theorem trod_parts{t:TypeId}{fuel:Nat}{cs:List Value}{x:DataW H×List MemPlace}(hp:partsOf P t≠[])(h:DataW.trod enc P w 0 sp held fuel t cs=some x):
  cs.length=P.cellsOf t∧∃ n,∀ p∈partsOf P t,∃ y,DataW.trod enc P w 0 sp held n p.1 ((cs.drop p.2).take (P.cellsOf p.1))=some y:=by
 unfold partsOf at hp⊢
 split at hp
 ·rename_i fs hu
  obtain⟨xs,n,_,_,hl,hxl,hf⟩:=DataW.trod_struct hu h
  refine⟨hl,n,fun p hm=>?_⟩
  simp only[List.mem_map]at hm
  obtain⟨f,hfm,rfl⟩:=hm
  obtain⟨i,hi,he⟩:=List.mem_iff_getElem.1 hfm
  have h1:fs[i]? = some f:=by
   have:fs.toList[i]? = some f:=by rw[List.getElem?_eq_getElem hi,he]
   simpa using this
  have h2:i < xs.length:=by
   rw[hxl];simpa using hi
  exact⟨xs[i],by rw[hf i f h1,List.getElem?_eq_getElem h2]⟩
 ·rename_i n e hu
  obtain⟨xs,m,_,_,hl,hxl,hf⟩:=DataW.trod_array hu h
  refine⟨hl,m,fun p hm=>?_⟩
  simp only[List.mem_map,List.mem_range]at hm
  obtain⟨i,hi,rfl⟩:=hm
  exact⟨xs[i],by rw[hf i hi,List.getElem?_eq_getElem (by omega)]⟩
 ·exact absurd rfl hp
mutual
theorem dr_flat:∀ (T:Ty) (t:TypeId) (cs:List Value) (x:DataW H×List MemPlace) (fuel:Nat),flat T=true→fitT P T t=true→DataW.trod enc P w 0 sp held fuel t cs=some x→∃ y:T.α,DR F w T y cs∧Bnd T y
 | .int k,t,cs,x,fuel,_,hf,h=>by
  unfold fitT at hf
  split at hf
  ·rename_i k' hu
   obtain rfl:k'=k:=by simpa using hf
   obtain⟨n,rfl,_,hw⟩:=DataW.trod_int hu h
   exact⟨n,rfl,by simpa [Lit.wf,Bnd]using hw⟩
  ·cases hf
 | .bool,t,cs,x,fuel,_,hf,h=>by
  unfold fitT at hf
  split at hf
  ·rename_i hu
   obtain⟨b,rfl,_⟩:=DataW.trod_bool hu h
   exact⟨b,rfl,trivial⟩
  ·cases hf
 | .str,t,cs,x,fuel,_,hf,h=>by
  unfold fitT at hf
  split at hf
  ·rename_i hu
   obtain⟨s,rfl,_,hs⟩:=DataW.trod_string hu h
   exact⟨s,rfl,by simpa [maxLen,Bnd]using hs⟩
  ·cases hf
 | .unit,t,cs,x,fuel,_,hf,h=>by simp[fitT]at hf
 | .nul,t,cs,x,fuel,_,hf,h=>by simp[fitT]at hf
 | .sl e,t,cs,x,fuel,hfl,_,_=>by simp[flat]at hfl
 | .pair a b,t,cs,x,fuel,hfl,hf,h=>by
  unfold fitT at hf
  split at hf
  ·rename_i p r hp
   simp only[Bool.and_eq_true,beq_iff_eq]at hf
   obtain⟨h0,h1,h2,h3,h4⟩:=hf
   simp only[flat,Bool.and_eq_true]at hfl
   obtain⟨hl,n,hm⟩:=trod_parts (by rw[hp];simp) h
   rw[hp]at hm
   obtain⟨y0,hy0⟩:=hm p (by simp)
   rw[h0,h2]at hy0
   obtain⟨u,d1,b1⟩:=dr_flat a p.1 _ _ n hfl.1 h1 hy0
   obtain⟨v,d2,b2⟩:=dr_flatL b r a.n cs n hfl.2 h3 (fun q hq=>hm q (by simp[hq])) (by omega)
   refine⟨(u,v),⟨_,_,?_,d1,d2⟩,b1,b2⟩
   have e:(cs.drop a.n).take b.n=cs.drop a.n:=List.take_of_length_le (by rw[List.length_drop];omega)
   rw[e];simp
  ·cases hf
theorem dr_flatL:∀ (T:Ty) (l:List (TypeId×Nat)) (k:Nat) (cs:List Value) (n:Nat),flat T=true→fitL P T l k=true→(∀ p∈l,∃ y,DataW.trod enc P w 0 sp held n p.1 ((cs.drop p.2).take (P.cellsOf p.1))=some y)→k+T.n≤cs.length→∃ y:T.α,DR F w T y ((cs.drop k).take T.n)∧Bnd T y
 | .int k',l,k,cs,n,_,hf,_,_=>by simp[fitL]at hf
 | .bool,l,k,cs,n,_,hf,_,_=>by simp[fitL]at hf
 | .str,l,k,cs,n,_,hf,_,_=>by simp[fitL]at hf
 | .nul,l,k,cs,n,_,hf,_,_=>by simp[fitL]at hf
 | .sl _,l,k,cs,n,_,hf,_,_=>by simp[fitL]at hf
 | .unit,l,k,cs,n,_,hf,_,_=>⟨(),by simp[DR,Ty.n],trivial⟩
 | .pair a b,l,k,cs,n,hfl,hf,hm,hk=>by
  unfold fitL at hf
  split at hf
  ·rename_i p r
   simp only[Bool.and_eq_true,beq_iff_eq]at hf
   obtain⟨h0,h1,h2,h3⟩:=hf
   simp only[flat,Bool.and_eq_true]at hfl
   simp only[Ty.n]at hk
   obtain⟨y0,hy0⟩:=hm p (by simp)
   rw[h0,h2]at hy0
   obtain⟨u,d1,b1⟩:=dr_flat a p.1 _ _ n hfl.1 h1 hy0
   obtain⟨v,d2,b2⟩:=dr_flatL b r (k+a.n) cs n hfl.2 h3 (fun q hq=>hm q (by simp[hq])) (by omega)
   refine⟨(u,v),⟨_,_,?_,d1,d2⟩,b1,b2⟩
   simp only[Ty.n]
   rw[List.take_add,List.drop_drop]
  ·cases hf
end
theorem list_of{α:Type}{R:Nat→α→Prop}:∀ (n:Nat),(∀ i,i < n→∃ y,R i y)→∃ l:List α,l.length=n∧∀ (i:Nat) (y:α),l[i]? = some y→R i y
 | 0,_=>⟨[],rfl,fun i y h=>by simp at h⟩
 | n+1,h=>by
  obtain⟨l,hl,hr⟩:=list_of n fun i hi=>h i (by omega)
  obtain⟨y,hy⟩:=h n (by omega)
  refine⟨l++[y],by simp[hl],fun i z hz=>?_⟩
  by_cases hi:i < l.length
  ·rw[List.getElem?_append_left hi]at hz;exact hr i z hz
  ·rw[List.getElem?_append_right (by omega)]at hz
   have:i=l.length:=by
    by_cases e:i-l.length=0
    ·omega
    ·obtain⟨q,hq⟩:=Nat.exists_eq_succ_of_ne_zero e
     rw[hq]at hz;simp at hz
   subst this
   simp only[Nat.sub_self,List.getElem?_cons_zero,Option.some.injEq]at hz
   subst hz;rw[hl];exact hy
def topOK:Ty→Bool
 | .sl e=>flat e
 | T=>flat T
theorem add_none(b o n:Nat):(Addr.add ⟨b,o,none⟩ n)=⟨b,o+n,none⟩:=by
 unfold Addr.add;split
 ·rename_i h;rw[h];rfl
 ·rfl
theorem isC_shape{i:Nat}{q:TypeId×Nat}(h:w.shape? i=some q):IsC w i:=by
 unfold World.shape? at h
 unfold IsC
 cases hb:w.heap[i]? with
 | none=>rw[hb]at h;simp at h
 | some o=>cases o<;>rw[hb]at h<;>simp_all
theorem valR_of_trod{T:Ty}{t:TypeId}{v:Value}{d:DataW H}{p:List MemPlace}{base:Nat}(ht:topOK T=true)(hf:fitT P T t=true)(hv:Value.okWide P w .any base t v)(h:DataW.Trod enc P w 0 sp held t v d p):∃ y:T.α,ValR (IsC w) w T y v∧Bnd T y:=by
 obtain⟨fuel,h⟩:=h
 unfold ValR
 cases T with
 | int k =>
  obtain⟨y,h1,h2⟩:=dr_flat (F:=IsC w) (.int k) t _ _ fuel rfl hf h
  unfold fitT at hf
  split at hf
  ·rename_i k' hu
   obtain⟨n,rfl⟩:=okWide_int hu hv
   exact⟨y,by rw[if_neg (by simp[isSt])];simpa [Value.cells]using h1,h2⟩
  ·cases hf
 | bool =>
  obtain⟨y,h1,h2⟩:=dr_flat (F:=IsC w) .bool t _ _ fuel rfl hf h
  unfold fitT at hf
  split at hf
  ·rename_i hu
   obtain⟨n,rfl⟩:=okWide_bool hu hv
   exact⟨y,by rw[if_neg (by simp[isSt])];simpa [Value.cells]using h1,h2⟩
  ·cases hf
 | str =>
  obtain⟨y,h1,h2⟩:=dr_flat (F:=IsC w) .str t _ _ fuel rfl hf h
  unfold fitT at hf
  split at hf
  ·rename_i hu
   obtain⟨n,rfl⟩:=okWide_string hu hv
   exact⟨y,by rw[if_neg (by simp[isSt])];simpa [Value.cells]using h1,h2⟩
  ·cases hf
 | unit=>simp[fitT]at hf
 | nul=>simp[fitT]at hf
 | pair a b =>
  obtain⟨y,h1,h2⟩:=dr_flat (F:=IsC w) (.pair a b) t _ _ fuel ht hf h
  obtain⟨cs,rfl⟩:∃ cs,v=.agg cs:=by
   unfold fitT at hf
   split at hf
   ·rename_i q r hp
    unfold partsOf at hp
    unfold Value.okWide at hv
    split at hp
    ·rename_i fs hu
     rw[hu]at hv
     obtain⟨cs,e,_⟩:=hv
     exact⟨cs,e⟩
    ·rename_i n e hu
     rw[hu]at hv
     obtain⟨cs,e,_⟩:=hv
     exact⟨cs,e⟩
    ·cases hp
   ·cases hf
  exact⟨y,by rw[if_pos (show isSt (.pair a b)=true from rfl)];exact⟨cs.toList,by simp,h1⟩,h2⟩
 | sl e =>
  unfold fitT at hf
  split at hf
  ·rename_i e' hu
   simp only[Bool.and_eq_true,beq_iff_eq]at hf
   obtain⟨h1,h2,h3⟩:=hf
   obtain⟨a,len,cap,rfl⟩:=okWide_slice hu hv
   rcases DataW.trod_slice hu h with⟨hc,_⟩ | ⟨a',len',cap',elems,rest,n,_,hc,_,_,hle,hcm,hel,hread,_⟩
   ·simp only[Value.cells,List.cons.injEq,Value.slice.injEq,and_true]at hc
    obtain⟨rfl,rfl,rfl⟩:=hc
    exact⟨[],by rw[if_neg (by simp[isSt])];exact⟨_,rfl,.inl ⟨rfl,rfl⟩⟩,by simp[Bnd]⟩
   ·simp only[Value.cells,List.cons.injEq,Value.slice.injEq,and_true]at hc
    obtain⟨rfl,rfl,rfl⟩:=hc
    have hhas:w.has P .any base a' e' cap:=by
     unfold Value.okWide Cell.okWide Cell.ok at hv
     rw[hu]at hv
     exact hv.2.2
    obtain⟨_,hspot,row,cells,hsh,_⟩:=hhas
    obtain⟨b,o,s⟩:=a'
    simp only at hspot;subst hspot
    have hisc:IsC w b:=isC_shape hsh
    obtain⟨l,hl,hr⟩:=list_of (α:=e.α) (R:=fun i y=>(∃ ds:List Value,DR (IsC w) w e y ds∧∀ (j:Nat) (d:Value),ds[j]? = some d→w.cell? ⟨b,o+(i*e.n+j),none⟩=some d)∧Bnd e y) len fun i hi=>by
     have hq:=hread i hi
     rw[List.getElem?_eq_getElem (by omega),Option.bind_eq_some_iff]at hq
     obtain⟨cs,c1,c2⟩:=hq
     obtain⟨y,k1,k2⟩:=dr_flat (F:=IsC w) e e' cs _ n h2 h1 c2
     refine⟨y,⟨cs,k1,fun j d' hd=>?_⟩,k2⟩
     obtain⟨_,m1,m2⟩:=World.cells?_some c1
     have hj:j < cs.length:=(List.getElem?_eq_some_iff.1 hd).1
     have:=m2 j (by omega)
     rw[add_none,add_none,h3]at this
     rw[←Nat.add_assoc,this];exact hd
    refine⟨l,?_,?_,?_⟩
    ·rw[if_neg (by simp[isSt])]
     refine⟨_,rfl,.inr ⟨b,o,cap,by rw[hl],hisc,by omega,fun i x hx=>(hr i x hx).1⟩⟩
    ·rw[hl];simp only[maxLen]at hcm;omega
    ·intro y hy
     obtain⟨i,hi,he⟩:=List.mem_iff_getElem.1 hy
     exact(hr i y (by rw[List.getElem?_eq_getElem hi,he])).2
  ·cases hf
def fitAll(P:Program):List Ty→List TypeId→Bool
 | [],[]=>true
 | T::Ts,t::ts=>(topOK T&&fitT P T t)&&fitAll P Ts ts
 | _,_=>false
theorem argsR_of_trod:∀ {Ts:List Ty} {ts:List TypeId} {vs:List Value} {ds:List (DataW H)} {p:List MemPlace} {base:Nat},fitAll P Ts ts=true→(∀ (j:Nat) t v,ts[j]? = some t→vs[j]? = some v→Value.okWide P w .any base t v)→
  DataW.TrodAll enc P w 0 sp held ts vs ds p→∃ x:Tys Ts,ArgsR (IsC w) w Ts x vs∧Bnds Ts x
 | [],[],vs,ds,p,base,_,_,h=>by
  cases vs with
  | nil=>exact⟨(),rfl,trivial⟩
  | cons _ _=>cases ds<;>exact absurd h (by simp[DataW.TrodAll])
 | [],_::_,vs,ds,p,base,hf,_,h=>by simp[fitAll]at hf
 | _::_,[],vs,ds,p,base,hf,_,h=>by simp[fitAll]at hf
 | T::Ts,t::ts,vs,ds,p,base,hf,hv,h=>by
  simp only[fitAll,Bool.and_eq_true]at hf
  cases vs with
  | nil=>cases ds<;>exact absurd h (by simp[DataW.TrodAll])
  | cons v vs =>
   cases ds with
   | nil=>exact absurd h (by simp[DataW.TrodAll])
   | cons d ds =>
    obtain⟨p1,p2,h1,h2,_⟩:=h
    obtain⟨y,k1,k2⟩:=valR_of_trod hf.1.1 hf.1.2 (hv 0 t v rfl rfl) h1
    obtain⟨x,m1,m2⟩:=argsR_of_trod hf.2 (fun j t' v' a b=>hv (j+1) t' v' (by simpa using a) (by simpa using b)) h2
    exact⟨(y,x),⟨v,vs,rfl,k1,m1⟩,k2,m2⟩
theorem trodAll_below{W W':World}(hl:laidOutB P=true)(hb:Below W.heap.size W W'):∀ {ts:List TypeId} {vs:List Value} {ds:List (DataW H)} {p:List MemPlace},(ts.all fun t=>P.readableRec t&&decide (t < P.types.size))=true→
  DataW.TrodAll enc P W 0 (fun _=>true) true ts vs ds p→DataW.TrodAll enc P W' 0 (fun b=>decide (b < W.heap.size)) true ts vs ds p
 | [],vs,ds,p,_,h=>by cases vs<;>cases ds<;>simp_all [DataW.TrodAll]
 | t::ts,vs,ds,p,ha,h=>by
  cases vs with
  | nil=>cases ds<;>exact absurd h (by simp[DataW.TrodAll])
  | cons v vs =>
   cases ds with
   | nil=>exact absurd h (by simp[DataW.TrodAll])
   | cons d ds =>
    simp only[List.all_cons,Bool.and_eq_true,decide_eq_true_eq]at ha
    obtain⟨p1,p2,h1,h2,rfl⟩:=h
    have hlt:∀ x∈p1,x.block < W.heap.size:=by
     obtain⟨m,hm⟩:=h1
     exact DataW.trod_lt m _ _ _ hm
    exact⟨p1,p2,Below.trod hl ha.1.1 ha.1.2 h1 hb hlt,trodAll_below hl hb ha.2 h2,rfl⟩
theorem trodAll_len{ts:List TypeId}:∀ {vs:List Value} {ds:List (DataW H)} {p:List MemPlace},DataW.TrodAll enc P w 0 sp held ts vs ds p→ds.length=ts.length:=by
 induction ts with
 | nil=>intro vs ds p h;cases vs<;>cases ds<;>simp_all [DataW.TrodAll]
 | cons t ts ih =>
  intro vs ds p h
  cases vs with
  | nil=>cases ds<;>exact absurd h (by simp[DataW.TrodAll])
  | cons v vs =>
   cases ds with
   | nil=>exact absurd h (by simp[DataW.TrodAll])
   | cons d ds=>obtain⟨_,_,_,h2,_⟩:=h;simp[ih h2]
end
section
variable {H:Type}{enc:TypeId×Value→H}
theorem law_post(hl:laidOutB Proofs.Tryz.prog=true){n:FuncId}{fn:Func}{s:ChangeSpec}{Ts:List Ty}{f:Nat→Tys Ts→Option (Bool×Unit)}(hE:∀ lf,EntryOK Proofs.Tryz.prog TabG n ⟨Ts,[.bool],f lf⟩)
  (hf:fitAll Proofs.Tryz.prog Ts fn.params.toList=true) (hrd:(fn.params.toList.all fun t=>Proofs.Tryz.prog.readableRec t&&decide (t < Proofs.Tryz.prog.types.size))=true)
  {rt:TypeId} (hrt:fn.resultTypes=#[rt]) (hub:Proofs.Tryz.prog.underlying rt=some .bool) (hsv:s.vars=[])
  (hs:∀ ds:List (DataW H),ds.length=fn.params.toList.length→s.fn H ds={ results:=[.lit (.bool true)],args:=ds })
  (hpure:∀ x:Tys Ts,Bnds Ts x→∃ lf,f lf x=some (true,()))
  {W:World} {base:Nat} {args:Array Value} {ds gs:List (DataW H)} {before:List MemPlace} {apart fresh handsOn:Bool}
  (hval:∀ (j:Nat) t v,fn.params[j]? = some t→args[j]? = some v→Value.okWide Proofs.Tryz.prog W .any base t v)
  (hW:DataW.Whole enc Proofs.Tryz.prog fn.params.toList s.vars apart W args.toList ds gs before) (hG:TabG W) :
  Calls Proofs.Tryz.prog n args W fun e W'=>∃ v,e=.returned v∧s.post enc Proofs.Tryz.prog fn apart fresh handsOn false W args v W':=by
 have hW':=hW
 obtain⟨p,q,hA,hV,rfl,_,_⟩:=hW
 rw[hsv]at hV
 obtain⟨rfl,rfl⟩:=trodVars_none hV
 have hv':∀ (j:Nat) (t:TypeId) (v:Value),fn.params.toList[j]? = some t→args.toList[j]? = some v→Value.okWide Proofs.Tryz.prog W .any base t v:=by
  intro j t v a b
  rw[Array.getElem?_toList]at a b
  exact hval j t v a b
 obtain⟨x,k1,k2⟩:=argsR_of_trod hf hv' hA
 obtain⟨lf,hlf⟩:=hpure x k2
 have hlen:=trodAll_len hA
 have h:=hE lf x (true,()) hlf (IsC W) W args.toList hG (fun i hi=>hi) k1
 rw[Array.toArray_toList]at h
 refine h.mono ?_
 rintro e W' ⟨v,rfl,hb,hr⟩
 obtain⟨vs,⟨u,r,rfl,h1,h2⟩,rfl⟩:=hr
 obtain rfl:r=[]:=h2
 have hu:u=.bool true:=by
  unfold ValR at h1
  rw[if_neg (by simp[isSt])]at h1
  simpa [DR]using h1
 subst hu
 refine⟨_,rfl,ds,[],p++[],[],p,[],hW',?_,?_,?_,hb.frame _,fun h=>by cases h⟩
 ·rw[List.append_nil,hs ds hlen,hrt]
  exact trodAll_mk1 (shut_bool hub true)
 ·rw[List.append_nil,hs ds hlen]
  exact trodAll_below hl hb hrd hA
 ·rw[List.append_nil,hs ds hlen,hsv]
  rfl
end
theorem tabG_of_laid{laid:List (String×DataW Unit)}{W:World}(hp:(laid.all fun x=>x.2.handleName?.isNone)=true){g:Nat}{t e:TypeId}{n:Nat}{rest:List (String×DataW Unit)}
  (hg:Proofs.Tryz.prog.globalNamed "internal/strconv.uint64pow10" = some g) (hty:(Proofs.Tryz.prog.globals[g]?).map (·.type)=some t) (ht:Proofs.Tryz.prog.underlying t=some (.array n e)) (he:Proofs.Tryz.prog.underlying e=some (.int .u64))
  (hce:Proofs.Tryz.prog.cellsOf e=1) (hct:Proofs.Tryz.prog.cellsOf t=n)
  (hh:(laid.filter fun x=>x.1 == "internal/strconv.uint64pow10")=("internal/strconv.uint64pow10",Lib.tabData .u64 Lib.pow10Tab)::rest)
  (h:laidMetH Proofs.Tryz.prog laid W):TabG W:=by
 rw[MakeChecks.laidMetH_plain _ _ _ hp]at h
 have h':=laidMet.filter (fun x=>x.1 == "internal/strconv.uint64pow10") h
 rw[hh]at h'
 exact Lib.tabIs_of_head hg hty ht he hce hct h'
theorem goes_no{P:Program}{c:OpenClaim}(h:P.funcs.any Func.goes=false)(hs:c.start=.entering):false=c.goesBy P:=by
 have key:∀ (g:Nat) (fn:Func),P.funcs[g]? = some fn→fn.goes=false:=by
  intro g fn hg
  have:=Array.any_eq_false.1 h
  obtain⟨hlt,e⟩:=Array.getElem?_eq_some_iff.1 hg
  have:=this g hlt
  rw[e]at this
  simpa using this
 have k2:∀ g:Nat,(P.funcs[g]?).any Func.goes=false:=by
  intro g
  cases hg:P.funcs[g]? with
  | none=>rfl
  | some fn=>simp[key g fn hg]
 unfold OpenClaim.goesBy Program.goesAt Program.goesFrom
 rw[hs]
 have k3:∀ f,P.goes f=false:=by
  intro f
  unfold Program.goes
  rw[h,Bool.and_false,Bool.or_false]
  simp only[k2]
  simp
 cases P.funcNamed c.func with
 | none=>rfl
 | some f=>simp[k3]
end Go.Q
namespace Go.N
open Go.IntKind (i64)
open Go Go.Q Go.Rx
theorem few01s(lf:Nat)(b:ByteArray):∃ c,surveyorref01_Few.f lf b=some (c,())∧(c=true→b.data.toList.length≤1000):=by
 refine⟨_,rfl,fun h=>?_⟩
 have h:=of_decide_eq_true h
 rw[Lib.size_eq]at h;omega
theorem rightV_g(lf:Nat)(hb:Big lf)(x y:VV)(p:ByteArray×(ByteArray×Unit)):∃ c,surveyorlaw23_right.f lf x y p=some (c,())∧
  (c=true→∃ (v w:Vl) (a b:Int),x=vc v∧y=vc w∧WfV v∧WfV w∧p=(bs (Lib.itoa a),bs (Lib.itoa b),())∧(-Dd < a∧a < Dd)∧(-Dd < b∧b < Dd)∧inV v a=true∧inV w b=true):=by
 have hlf:=hb.1
 obtain⟨l,m,⟨⟩⟩:=p
 obtain⟨b1,f1,f2⟩:=fewV_f lf x y
 obtain⟨b2,f3,f4⟩:=few01s lf l
 obtain⟨b3,f5,f6⟩:=few01s lf m
 rw[surveyorlaw23_right.f,f1,bdS]
 cases b1 with
 | false=>simp only[brF];exact⟨_,rfl,nofun⟩
 | true =>
  obtain⟨hx,hy⟩:=f2 rfl
  obtain⟨n,n1,n2,n3⟩:=chk2V lf hb hx hy
  simp only[brT,n2,bdS]
  by_cases h:n=0
  ·subst h
   obtain⟨v,w,rfl,rfl,hv,hw⟩:=n3 rfl
   simp only[BEq.rfl,brT,f3,bdS]
   cases b2 with
   | false=>simp only[brF];exact⟨_,rfl,nofun⟩
   | true =>
    simp only[brT,f5,bdS]
    cases b3 with
    | false=>simp only[brF];exact⟨_,rfl,nofun⟩
    | true =>
     have g1:=f4 rfl
     have g2:=f6 rfl
     rw[←bs_eta l,←bs_eta m]
     revert g1 g2
     generalize l.data.toList=l
     generalize m.data.toList=m
     intro g1 g2
     simp only[brT,rCheck_f lf l (by omega) (by omega),rCheck_f lf m (by omega) (by omega),bdS]
     by_cases k1:chk l=0
     ·obtain⟨a,rfl,ha⟩:=num_Dd lf hb k1 g1
      simp only[k1,BEq.rfl,brT]
      by_cases k2:chk m=0
      ·obtain⟨b,rfl,hb'⟩:=num_Dd lf hb k2 g2
       simp only[k2,BEq.rfl,brT,inV_r lf hb hv ha,inV_r lf hb hw hb',bdS]
       cases i1:inV v a with
       | false=>simp only[brF];exact⟨_,rfl,nofun⟩
       | true =>
        simp only[brT]
        exact⟨_,rfl,fun i2=>⟨v,w,a,b,rfl,rfl,hv,hw,rfl,ha,hb',i1,i2⟩⟩
      ·have:(chk m==0)=false:=by simpa using k2
       simp only[this,brF];exact⟨_,rfl,nofun⟩
     ·have:(chk l==0)=false:=by simpa using k1
      simp only[this,brF];exact⟨_,rfl,nofun⟩
  ·have:(n==0)=false:=by simpa using h
   simp only[this,brF];exact⟨_,rfl,nofun⟩
theorem holdsV_K(lf:Nat)(hb:Big lf){v:Vl}(hv:WfV v){z:Int}(hk: -K < z∧z < K):value_Holds.f lf (vc v) (bs (Lib.itoa z))=some (inV v z,0,()):=by
 have h3:200000≤lf:=by have:=hb.1;omega
 rw[value_Holds.f,(chk_wf lf hb hv).1,bdS]
 simp only[bne_self_eq_false,brF]
 simp only[show(vc v).1=ac v.a from rfl,show(vc v).2.1=cc v.c from rfl,holds_wf lf h3 hv.a hk,holds_c lf hb hv.c hk,bdS,bne_self_eq_false,brF]
 unfold inV
 cases inS (ofA v.a) z with
 | false=>simp only[brF,Bool.false_and]
 | true =>
  cases inC v.c z with
  | false=>simp only[brT,brF,Bool.true_and]
  | true=>simp only[brT,BEq.rfl,Bool.true_and]
section
variable (lf:Nat)(hb:Big lf){v w:Vl}(hv:WfV v)(hw:WfV w)
include hb hv hw
theorem opV_g{op:Int}(ho:3≤op∧op≤7):value_Apply.f lf op (vc v) (vc w)=some (vc (opV op v w),0,()):=by
 have hlf:=hb.1
 have h3:200000≤lf:=by omega
 have wO:=opS_w hv.a hw.a ho
 have wC:=opC_wf (op:=op) (d:=w.c) hv.c
 have rd:=vred_f lf hb wO wC
 have p1:(vc v).1=ac v.a:=rfl
 have p2:(vc v).2.1=cc v.c:=rfl
 have p3:(vc w).1=ac w.a:=rfl
 have p4:(vc w).2.1=cc w.c:=rfl
 rw[value_Apply.f]
 simp only[chk2_f lf hb hv hw,bdS,bne_self_eq_false,brF,p1,p2,p3,p4]
 rcases op3 ho with rfl | rfl | rfl | rfl | rfl
 ·rw[show((3:Int)==3)=true from rfl,brT]
  simp only[iAdd_f lf h3 hv.a hw.a,add_c lf hb hv.c hw.c,bdS,bne_self_eq_false,brF]
  rw[show opS 3 (ofA v.a) (ofA w.a)=addS (ofA v.a) (ofA w.a) from rfl,show opC 3 v.c w.c=plusC v.c w.c from rfl]at rd
  rw[rd,bdS];rfl
 ·rw[show((4:Int)==3)=false from rfl,brF,show((4:Int)==4)=true from rfl,brT]
  simp only[iSub_f lf h3 hv.a hw.a,sub_c lf hb hv.c hw.c,bdS,bne_self_eq_false,brF]
  rw[show opS 4 (ofA v.a) (ofA w.a)=addS (ofA v.a) (turn (ofA w.a)) from rfl,show opC 4 v.c w.c=minusC v.c w.c from rfl]at rd
  rw[rd,bdS];rfl
 ·rw[show((5:Int)==3)=false from rfl,brF,show((5:Int)==4)=false from rfl,brF,show((5:Int)==5)=true from rfl,brT]
  simp only[iMul_f lf h3 hv.a hw.a,mul_c lf hb hv.c hw.c,bdS,bne_self_eq_false,brF]
  rw[show opS 5 (ofA v.a) (ofA w.a)=apS xmul (ofA v.a) (ofA w.a) from rfl,show opC 5 v.c w.c=timesC v.c w.c from rfl]at rd
  rw[rd,bdS];rfl
 ·rw[show((6:Int)==3)=false from rfl,brF,show((6:Int)==4)=false from rfl,brF,show((6:Int)==5)=false from rfl,brF,show((6:Int)==6)=true from rfl,brT]
  simp only[iQuo_f lf hlf hv.a hw.a,quo_c lf hb hv.c hw.c,bdS,bne_self_eq_false,brF]
  rw[show opS 6 (ofA v.a) (ofA w.a)=quoS (ofA v.a) (ofA w.a) from rfl,show opC 6 v.c w.c=quoC v.c w.c from rfl]at rd
  rw[rd,bdS];rfl
 ·rw[show((7:Int)==3)=false from rfl,brF,show((7:Int)==4)=false from rfl,brF,show((7:Int)==5)=false from rfl,brF,show((7:Int)==6)=false from rfl,brF,show((7:Int)==7)=true from rfl,brT]
  simp only[iRem_f lf hlf hv.a hw.a,rem_c lf hb hv.c hw.c,bdS,bne_self_eq_false,brF]
  rw[show opS 7 (ofA v.a) (ofA w.a)=remS (ofA v.a) (ofA w.a) from rfl,show opC 7 v.c w.c=restC v.c w.c from rfl]at rd
  rw[rd,bdS];rfl
end
theorem valO_K{op a b:Int}(ho:3≤op∧op≤7)(ba: -Dd < a∧a < Dd)(bb: -Dd < b∧b < Dd)(h0:op≤5∨b≠0): -K < valO op a b∧valO op a b < K:=by
 have hD:=DD_K
 have h1:=C_gt
 have h2:=C_lt_Dd
 have h4:Dd*3≤Dd*Dd:=Int.mul_le_mul_of_nonneg_left (by omega) (by omega)
 unfold valO
 split
 ·omega
 ·split
  ·omega
  ·split
   ·have hm:a.natAbs*b.natAbs≤Dd.natAbs*Dd.natAbs:=Nat.mul_le_mul (by omega) (by omega)
    rw[←Int.natAbs_mul,←Int.natAbs_mul]at hm
    omega
   ·have hb0:b≠0:=by omega
    split
    ·have:=fdiv_abs (x:=a) hb0
     omega
    ·exact rest_K (by omega) (by omega) hb0
theorem sound_way{β:Type}(lf:Nat)(hb:Big lf){v w:Vl}(hv:WfV v)(hw:WfV w){a b:Int}(ba: -Dd < a∧a < Dd)(bb: -Dd < b∧b < Dd)(i1:inV v a=true)(i2:inV w b=true)
  {op:Int} (ho:3≤op∧op≤7) (h0:op≤5∨b≠0) (F R:Option β) :
  (bd (value_Apply.f lf op (vc v) (vc w)) fun r8=>bd (value_Holds.f lf r8.1 (bs (Lib.itoa (valO op a b)))) fun r9 =>
   br (r8.2.1 != 0) F (br (r9.2.1 != 0) F (br (!r9.1) (bd (surveyorlaw23_short.f lf (bs (Lib.itoa (valO op a b)))) fun r10=>br r10.1 F R) R)))=R:=by
 have wo:=opV_V hv hw ho
 have io:=in_opV hv hw ho ba bb i1 i2 h0
 simp only[opV_g lf hb hv hw ho,bdS,holdsV_K lf hb wo (valO_K ho ba bb h0),io,bne_self_eq_false,brF,Bool.not_true]
def unsN(N:Nat)(sn:List Nat):Nat:=((List.range N).filter fun i=>!sn.contains i).length
theorem unsN_lt{N:Nat}{sn:List Nat}{i:Nat}(hi:i < N)(h:(!sn.contains i)=true):unsN N (i::sn) < unsN N sn:=by
 unfold unsN
 refine filter_lt (fun j=>!sn.contains j) (fun j=>!(i::sn).contains j) (fun x hx=>?_) i h (by simp) _ (List.mem_range.2 hi)
 simp only[List.contains_cons,Bool.not_or,Bool.and_eq_true]at hx
 exact hx.2
theorem unsN_le(N:Nat)(sn:List Nat):unsN N sn≤N:=by
 unfold unsN
 have:=List.length_filter_le (fun i=>!sn.contains i) (List.range N)
 simpa using this
theorem sound_l0(lf:Nat)(hb:Big lf){v w:Vl}(hv:WfV v)(hw:WfV w){a b:Int}(ba: -Dd < a∧a < Dd)(bb: -Dd < b∧b < Dd)(i1:inV v a=true)(i2:inV w b=true)(h0:b≠0):
  ∀ (m n:Nat) (sn:List Nat),unsN 5 sn≤m→m < n→
   surveyorlaw23_ValueSound.l0 lf (vc v).1.1 (vc v).1.2.1 (vc v).1.2.2.1 (vc v).2.1.1 (vc v).2.1.2.1 (vc v).2.1.2.2.1 (vc w).1.1 (vc w).1.2.1 (vc w).1.2.2.1 (vc w).2.1.1 (vc w).2.1.2.1 (vc w).2.1.2.2.1 (bs (Lib.itoa a)) (bs (Lib.itoa b)) (bs (Lib.itoa (a+b))) (bs (Lib.itoa (a-b))) (bs (Lib.itoa (a*b))) (bs (Lib.itoa (a.fdiv b))) (bs (Lib.itoa (a.fmod b))) n sn=some (true,(),(),()):=by
 intro m
 induction m with
 | zero =>
  intro n sn hm hn
  obtain⟨k,rfl⟩:=Nat.exists_eq_succ_of_ne_zero (show n≠0 by omega)
  rw[surveyorlaw23_ValueSound.l0,surveyorlaw23_ValueSound.r0,chsF_over]
  have key:∀ i,i < 5→(!sn.contains i)=false:=by
   intro i hi
   cases hb:(!sn.contains i)with
   | false=>rfl
   | true=>have:=unsN_lt hi hb;omega
  intro p hp
  simp only[List.mem_cons,List.not_mem_nil,or_false]at hp
  rcases hp with rfl | rfl | rfl | rfl | rfl
  ·exact key 0 (by omega)
  ·exact key 1 (by omega)
  ·exact key 2 (by omega)
  ·exact key 3 (by omega)
  ·exact key 4 (by omega)
 | succ m ih =>
  intro n sn hm hn
  obtain⟨k,rfl⟩:=Nat.exists_eq_succ_of_ne_zero (show n≠0 by omega)
  have e1:(((vc v).1.1,(vc v).1.2.1,(vc v).1.2.2.1,()),((vc v).2.1.1,(vc v).2.1.2.1,(vc v).2.1.2.2.1,()),())=vc v:=rfl
  have e2:(((vc w).1.1,(vc w).1.2.1,(vc w).1.2.2.1,()),((vc w).2.1.1,(vc w).2.1.2.1,(vc w).2.1.2.2.1,()),())=vc w:=rfl
  rw[surveyorlaw23_ValueSound.l0,surveyorlaw23_ValueSound.r0]
  have y3:=@sound_way (Bool×Unit×Unit×Unit) lf hb v w hv hw a b ba bb i1 i2 3 (by omega) (.inl (by omega))
  rw[show valO 3 a b=a+b from rfl]at y3
  have y4:=@sound_way (Bool×Unit×Unit×Unit) lf hb v w hv hw a b ba bb i1 i2 4 (by omega) (.inl (by omega))
  rw[show valO 4 a b=a-b from rfl]at y4
  have y5:=@sound_way (Bool×Unit×Unit×Unit) lf hb v w hv hw a b ba bb i1 i2 5 (by omega) (.inl (by omega))
  rw[show valO 5 a b=a*b from rfl]at y5
  have y6:=@sound_way (Bool×Unit×Unit×Unit) lf hb v w hv hw a b ba bb i1 i2 6 (by omega) (.inr h0)
  rw[show valO 6 a b=a.fdiv b from rfl]at y6
  have y7:=@sound_way (Bool×Unit×Unit×Unit) lf hb v w hv hw a b ba bb i1 i2 7 (by omega) (.inr h0)
  rw[show valO 7 a b=a.fmod b from rfl]at y7
  simp only[e1,e2,y3,y4,y5,y6,y7]
  have next:=fun(i:Nat) (hi:i < 5) (h:(!sn.contains i)=true)=>ih k (i::sn) (by have:=unsN_lt hi h;omega) (by omega)
  by_cases hall:∃ i,i < 5∧(!sn.contains i)=true
  ·refine chsF_of ?_ ?_
   ·obtain⟨i,hi,h⟩:=hall
    have:i=0∨i=1∨i=2∨i=3∨i=4:=by omega
    rcases this with rfl | rfl | rfl | rfl | rfl
    ·exact⟨_,(List.mem_cons_self ..),h⟩
    ·exact⟨_,(List.mem_cons_of_mem _ (List.mem_cons_self ..)),h⟩
    ·exact⟨_,(List.mem_cons_of_mem _ (List.mem_cons_of_mem _ (List.mem_cons_self ..))),h⟩
    ·exact⟨_,(List.mem_cons_of_mem _ (List.mem_cons_of_mem _ (List.mem_cons_of_mem _ (List.mem_cons_self ..)))),h⟩
    ·exact⟨_,(List.mem_cons_of_mem _ (List.mem_cons_of_mem _ (List.mem_cons_of_mem _ (List.mem_cons_of_mem _ (List.mem_cons_self ..))))),h⟩
   ·intro p hp h
    simp only[List.mem_cons,List.not_mem_nil,or_false]at hp
    rcases hp with rfl | rfl | rfl | rfl | rfl
    ·exact next 0 (by omega) h
    ·exact next 1 (by omega) h
    ·exact next 2 (by omega) h
    ·exact next 3 (by omega) h
    ·exact next 4 (by omega) h
  ·rw[chsF_over]
   intro p hp
   have key:∀ i,i < 5→(!sn.contains i)=false:=by
    intro i hi
    cases hb:(!sn.contains i)with
    | false=>rfl
    | true=>exact absurd ⟨i,hi,hb⟩ hall
   simp only[List.mem_cons,List.not_mem_nil,or_false]at hp
   rcases hp with rfl | rfl | rfl | rfl | rfl
   ·exact key 0 (by omega)
   ·exact key 1 (by omega)
   ·exact key 2 (by omega)
   ·exact key 3 (by omega)
   ·exact key 4 (by omega)
theorem sound_l1(lf:Nat)(hb:Big lf){v w:Vl}(hv:WfV v)(hw:WfV w){a b:Int}(ba: -Dd < a∧a < Dd)(bb: -Dd < b∧b < Dd)(i1:inV v a=true)(i2:inV w b=true):
  ∀ (m n:Nat) (sn:List Nat),unsN 3 sn≤m→m < n→
   surveyorlaw23_ValueSound.l1 lf (vc v).1.1 (vc v).1.2.1 (vc v).1.2.2.1 (vc v).2.1.1 (vc v).2.1.2.1 (vc v).2.1.2.2.1 (vc w).1.1 (vc w).1.2.1 (vc w).1.2.2.1 (vc w).2.1.1 (vc w).2.1.2.1 (vc w).2.1.2.2.1 (bs (Lib.itoa a)) (bs (Lib.itoa b)) (bs (Lib.itoa (a+b))) (bs (Lib.itoa (a-b))) (bs (Lib.itoa (a*b))) n sn=some (true,(),(),()):=by
 intro m
 induction m with
 | zero =>
  intro n sn hm hn
  obtain⟨k,rfl⟩:=Nat.exists_eq_succ_of_ne_zero (show n≠0 by omega)
  rw[surveyorlaw23_ValueSound.l1,surveyorlaw23_ValueSound.r1,chsF_over]
  have key:∀ i,i < 3→(!sn.contains i)=false:=by
   intro i hi
   cases hb:(!sn.contains i)with
   | false=>rfl
   | true=>have:=unsN_lt hi hb;omega
  intro p hp
  simp only[List.mem_cons,List.not_mem_nil,or_false]at hp
  rcases hp with rfl | rfl | rfl
  ·exact key 0 (by omega)
  ·exact key 1 (by omega)
  ·exact key 2 (by omega)
 | succ m ih =>
  intro n sn hm hn
  obtain⟨k,rfl⟩:=Nat.exists_eq_succ_of_ne_zero (show n≠0 by omega)
  have e1:(((vc v).1.1,(vc v).1.2.1,(vc v).1.2.2.1,()),((vc v).2.1.1,(vc v).2.1.2.1,(vc v).2.1.2.2.1,()),())=vc v:=rfl
  have e2:(((vc w).1.1,(vc w).1.2.1,(vc w).1.2.2.1,()),((vc w).2.1.1,(vc w).2.1.2.1,(vc w).2.1.2.2.1,()),())=vc w:=rfl
  rw[surveyorlaw23_ValueSound.l1,surveyorlaw23_ValueSound.r1]
  have y3:=@sound_way (Bool×Unit×Unit×Unit) lf hb v w hv hw a b ba bb i1 i2 3 (by omega) (.inl (by omega))
  rw[show valO 3 a b=a+b from rfl]at y3
  have y4:=@sound_way (Bool×Unit×Unit×Unit) lf hb v w hv hw a b ba bb i1 i2 4 (by omega) (.inl (by omega))
  rw[show valO 4 a b=a-b from rfl]at y4
  have y5:=@sound_way (Bool×Unit×Unit×Unit) lf hb v w hv hw a b ba bb i1 i2 5 (by omega) (.inl (by omega))
  rw[show valO 5 a b=a*b from rfl]at y5
  simp only[e1,e2,y3,y4,y5]
  have next:=fun(i:Nat) (hi:i < 3) (h:(!sn.contains i)=true)=>ih k (i::sn) (by have:=unsN_lt hi h;omega) (by omega)
  by_cases hall:∃ i,i < 3∧(!sn.contains i)=true
  ·refine chsF_of ?_ ?_
   ·obtain⟨i,hi,h⟩:=hall
    have:i=0∨i=1∨i=2:=by omega
    rcases this with rfl | rfl | rfl
    ·exact⟨_,(List.mem_cons_self ..),h⟩
    ·exact⟨_,(List.mem_cons_of_mem _ (List.mem_cons_self ..)),h⟩
    ·exact⟨_,(List.mem_cons_of_mem _ (List.mem_cons_of_mem _ (List.mem_cons_self ..))),h⟩
   ·intro p hp h
    simp only[List.mem_cons,List.not_mem_nil,or_false]at hp
    rcases hp with rfl | rfl | rfl
    ·exact next 0 (by omega) h
    ·exact next 1 (by omega) h
    ·exact next 2 (by omega) h
  ·rw[chsF_over]
   intro p hp
   have key:∀ i,i < 3→(!sn.contains i)=false:=by
    intro i hi
    cases hb:(!sn.contains i)with
    | false=>rfl
    | true=>exact absurd ⟨i,hi,hb⟩ hall
   simp only[List.mem_cons,List.not_mem_nil,or_false]at hp
   rcases hp with rfl | rfl | rfl
   ·exact key 0 (by omega)
   ·exact key 1 (by omega)
   ·exact key 2 (by omega)
theorem asc_nil2(lf:Nat):interval_ascending.f lf ([]:List ByteArray)=some (0,()):=by kernel_rfl
theorem zero7:(i64.wrap (i64.wrap (i64.wrap (i64.wrap (i64.wrap (i64.wrap (0+0)+0)+0)+0)+0)+0)==0)=true:=by decide
end Go.N
namespace Go.Q
open Go.IntKind (i64)
open Go Go.N
theorem Pure.ValueSound(x:Tys (surveyorlaw23_ValueSound.E 0).ps)(h:Bnds (surveyorlaw23_ValueSound.E 0).ps x):∃ lf,surveyorlaw23_ValueSound.f lf x.1 x.2.1 x.2.2.1=some (true,()):=by
 obtain⟨x,y,p,⟨⟩⟩:=x
 clear h
 obtain⟨lf,hb⟩:=bigE
 have hlf:=hb.1
 have h3:200000≤lf:=by omega
 refine⟨lf,?_⟩
 obtain⟨c,c1,c2⟩:=rightV_g lf hb x y p
 rw[surveyorlaw23_ValueSound.f,c1,bdS]
 simp only[awakeV,bdS]
 cases c with
 | false=>simp only[Bool.not_false,Go.N.brT]
 | true =>
  obtain⟨v,w,a,b,rfl,rfl,hv,hw,rfl,ha,hb',i1,i2⟩:=c2 rfl
  have hD:=Dd_K
  have ka: -K < a∧a < K:=by omega
  have kb: -K < b∧b < K:=by omega
  have tz:Th ([]:List Int):=fun z hz=>by cases hz
  have wi:=widV_f lf hb hv hw tz (by simp) (asc_nil2 lf)
  rw[show([]:List Int).map bz=[] from rfl]at wi
  have n1:=in_negV hv ka i1
  have n2:=in_joinVL hv hw ka i1
  have n3:=in_joinVR hv hw kb i2
  have n4:=in_widVR hv hw tz kb i2
  have kn: -K < -a∧-a < K:=by omega
  have q1:=holdsV_K lf hb (negV_V hv) kn
  have q2:=holdsV_K lf hb (joinV_V hv hw) ka
  have q3:=holdsV_K lf hb (joinV_V hv hw) kb
  have q4:=holdsV_K lf hb (widV_V hv hw tz) kb
  rw[n1]at q1
  rw[n2]at q2
  rw[n3]at q3
  rw[n4]at q4
  simp only[Bool.not_true,Go.N.brF,sumI lf h3 ka kb,diffI lf h3 ka kb,productI lf h3 ka kb,bdS,beq0,negV_f lf hb hv,joinV_f lf hb hv hw,wi,negated_ref lf ka,q1,q2,q3,q4,zero7,Go.N.brT]
  by_cases b0:b=0
  ·rw[decide_eq_true b0,Bool.not_true,Go.N.brF,sound_l1 lf hb hv hw ha hb' i1 i2 3 (lf+40) [] (unsN_le _ _) (by omega),bdS]
   simp only[Go.N.brT]
  ·have sa:=(sz_Dd a).2 ha
   have sb:=(sz_Dd b).2 hb'
   rw[decide_eq_false b0,Bool.not_false,Go.N.brT,Floor_ref lf h3 (by omega) (by omega) b0,bdS,rest_ref lf h3 (by omega) (by omega) b0,bdS]
   simp only
   rw[sound_l0 lf hb hv hw ha hb' i1 i2 b0 5 (lf+40) [] (unsN_le _ _) (by omega),bdS]
   simp only[Go.N.brT]
end Go.Q
