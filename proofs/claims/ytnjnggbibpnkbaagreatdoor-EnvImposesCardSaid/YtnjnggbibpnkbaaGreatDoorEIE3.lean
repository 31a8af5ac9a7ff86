import Derived.Test.YtnjnggbibpnkbaaGreatDoorProg
import Derived.Lib.ItoaMem
import Derived.Lib.Strings
import Derived.Lib.Walk
import Derived.Lib.Builder
import Derived.Lib.UnsafeStr
import Derived.WalkKit
import Derived.Laws.Externs
import Derived.RegionTactic
import Derived.Deep.RegionLaw
import Derived.Lib.ItoaNum
import Derived.Lib.Atoi
import Derived.Shelf.Strconv.Atoi
import Derived.Shelf.LaysM
import Derived.Shelf.Strconv.Itoa3
import Derived.Shelf.Strings.Repeat
import Derived.Shelf.Strings.SlTrimAscii
import Derived.Lib.SlTrimSet
import Derived.Test.YtnjnggbibpnkbaaGreatDoorEIE2
set_option linter.all false
set_option maxRecDepth 100000
open Array renaming getElem?_eq_getElem→xy,getElem?_eq_some_iff→uE,replicate→sE,getD_eq_getD_getElem?→sP,getElem?_modify→oS
open Bool renaming and_eq_true→zm,or_eq_true→se,and_eq_false_iff→oF,or_eq_false_iff→iz
open Go.Lib renaming itoa→z7
open Go.Proofs.Tryz renaming prog→y5
open Int renaming le_of_lt→zR,mul_nonneg→yf,mul_le_mul_of_nonneg_left→xF,mul_comm→wk,pow_succ→wy,toNat_natCast→vm,mul_add→vL,emod_nonneg→tO,emod_lt_of_pos→tP,emod_add_mul_ediv→sI,mul_assoc→nq
open List renaming getElem?_eq_getElem→zP,getElem?_eq_some_iff→y6,getElem?_set→yd,all_eq_true→ym,getElem?_eq_none→yn,length_append→yo,mem_map→yy,getElem?_map→yz,getElem?_append_left→xm,range→xx,mem_append→xz,replicate→xS,length_eq_zero_iff→wc,getElem?_append_right→wi,mem_cons→ww,getD→vf,length_cons→vh,getElem?_set_ne→vq,length_drop→vu,nil_append→vv,ext_getElem?→vE,length_map→vQ,length_singleton→uA,range'→uB,mem_cons_self→uL,take_of_length_le→uW,mem_range→tG,mem_cons_of_mem→s9,mem_singleton→sj,getElem?_replicate→sw,mem_filter→rK,map_congr_left→rR,all_cons→qT,getD_eq_getElem?_getD→pE,length_range→nk,all_append→nB,range'_succ→mA,dropLast_concat_getLast→mC,head?_cons→mI,reverse_append→j8,flatMap_def→iB,length_dropLast→iN,mem_reverse→iS,dropWhile_sublist→iX,tail_cons→hU
open Nat renaming le_refl→za,blt→y9,ble→yb,add_assoc→xo,le_trans→xL,zero_le→wD,ble_eq→ux,le_of_lt→tI,lt_of_not_le→rx,lt_of_lt_of_le→ry,pow_succ→q5,strongRecOn→pN,lt_or_ge→nh,beq→nA,le_of_not_lt→mH,lt_trichotomy→iA
open Option renaming some→y8,map_some→wj,bind_some→wT,map_eq_some_iff→tF,getD_some→sX,isSome_iff_exists→kI
namespace Go.Q
open Go Go.RowKit
open Go.Rx (br bd br_eq bd_eq bd_some entB enters_of_entB predsOf maskOf masks testBit_maskOf Closed)
def lw(W S:Nat→Bool):Nat→Option Nat
 | 0=>none
 | n+1=>if W n=true∧S n=true then some n else lw W S n
def lw_congr{W S S':Nat→Bool}:∀ {n:Nat},(∀ i,i < n→W i=true→S i=S' i)→lw W S n=lw W S' n
 | 0,_=>rfl
 | n+1,h=>by
  simp only[lw];rw[lw_congr (n:=n) fun i b a=>h i ω a];by_cases a:W n=true
  ·rw[h n ω a]
  ·simp[a]
def lw_last{W S:Nat→Bool}{i:Nat}(b:W i=true)(a:S i=true):∀ {n:Nat},i < n→(∀ j,j < n→W j=true→S j=true→j≤i)→lw W S n=some i
 | 0,h,_=>ω
 | n+1,h,hle=>by
  simp only[lw];by_cases e:n=i
  ·subst e;simp[b,a]
  ·rw[gR (fun c=>by have:=hle n ω c.1 c.2;omega)];exact lw_last b a ω fun j d=>hle j ω
def lw_none{W S:Nat→Bool}:∀ {n:Nat},(∀ i,i < n→W i=true→S i=false)→lw W S n=none
 | 0,_=>rfl
 | n+1,h=>by
  simp only[lw];rw[gR (fun a=>by have:=h n ω a.1;rw[a.2]at this;cases this)];exact lw_none fun i b=>h i ω
section
variable {P:Program}{G:World→Prop}{tab:Tab}{m ne:Nat}{w0:World}{cl:Nat→OracleP}{M:List Nat}
def wantB(ops:Array Oper)(ts:List SV)(o:Oper):Option Bool:=match o.guard with
 | none=>some true
 | some (j,u)=>match yl ops ts j with
  | some q=>some (q==some u)
  | none=>none
def wantB_spec[HasP]{e:St}{B:Loc}{F:Nat→Prop}{a:Act}{w:World}(h:R w0 m ne e B F a w){ops:Array Oper}{o:Oper}{b:Bool}(c:wantB ops e.1 o=some b):Region.wanted o (yielded ops a.tmps)=b:=by
 unfold wantB at c;unfold Region.wanted;cases f:o.guard with
 | none=>rw[f]at c;cases c;rfl
 | some g =>
  obtain⟨j,u⟩:=g;rw[f]at c;simp only at c⊢;cases d:yl ops e.1 j with
  | none=>rw[d]at c;cases c
  | some q=>rw[d]at c;cases c;rw[yl_spec h d]
def Ac.writes:Ac→List Nat
 | .no=>[]
 | .blk b x=>bif x then [b]else []
 | .grow n k=>(xx k).map (n+·)
 | .app b n k=>(match b with | some c=>[c] | none=>[])++(xx k).filter (yb n ·)
 | .ins b=>[b]
def mem_writes{a:Ac}{b:Nat}(h:a.wr b=true):b∈a.writes:=by
 cases a with
 | no=>cases h
 | blk c y=>simp only[Ac.wr,zm,beq_iff_eq]at h;obtain⟨rfl,rfl⟩:=h;simp[Ac.writes]
 | grow n k =>
  simp only[Ac.wr,zm,ux]at h;have d:b < n+k:=by simpa using h.2
  simp only[Ac.writes,yy,tG];exact⟨b-n,ω,ω⟩
 | ins c=>simp only[Ac.wr,beq_iff_eq]at h;subst h;simp[Ac.writes]
 | app c n k =>
  simp only[Ac.wr,se,zm,beq_iff_eq,ux]at h;simp only[Ac.writes,xz,rK,tG,ux];rcases h with rfl | ⟨e,d⟩
  ·exact .inl ψ
  ·exact .inr ⟨by simpa using d,e⟩
def badOf(M:List Nat)(ac:Nat→Ac)(i:Nat):List Nat:=(xx i).flatMap fun j=>bif (M.getD i 0).testBit j then []else(ac j).writes
structure Seq(P:Program)(tab:Tab)(m:Nat)(cl:Nat→OracleP)(M:List Nat)(ops:Array Oper)(seq:Nat→St)(val:Nat→SV)(ac:Nat→Ac):Prop where
 step:∀ i o,ops[i]? = some o→(seq (i+1)).1=putL (seq i).1 o.dst (val i)∧
  ((wantB ops (seq i).1 o=some false∧val i=.v undef∧(seq (i+1)).2=(seq i).2∧ac i=.no)∨
   (wantB ops (seq i).1 o=some true∧isDefer o.op=false∧OpA P tab m cl (badOf M ac i) (seq i).1 (seq i).2 o (val i) (seq (i+1)).2 (ac i)))
def dstB(ops:Array Oper)(t i:Nat):Bool:=match ops[i]? with
 | some o=>o.dst==some t
 | none=>false
def tS(ops:Array Oper)(val:Nat→SV)(a:List SV)(S:Nat→Bool)(t:Nat):SV:=match lw (dstB ops t) S ops.size with
 | some i=>val i
 | none=>a.getD t .any
def mF(seq:Nat→St)(ac:Nat→Ac)(S:Nat→Bool)(b:Nat):Nat→Option Blk
 | 0=>get2 (seq 0).2 b
 | n+1=>if(ac n).wr b=true∧S n=true then(if(ac n).isIns b=true then addL (mF seq ac S b n) (get2 (seq (n+1)).2 b)else get2 (seq (n+1)).2 b)else mF seq ac S b n
def mS(ops:Array Oper)(seq:Nat→St)(ac:Nat→Ac)(S:Nat→Bool)(b:Nat):Option Blk:=mF seq ac S b ops.size
def mF_congr{seq:Nat→St}{ac:Nat→Ac}{S S':Nat→Bool}{b:Nat}:∀ {n:Nat},(∀ i,i < n→(ac i).wr b=true→S i=S' i)→mF seq ac S b n=mF seq ac S' b n
 | 0,_=>rfl
 | n+1,h=>by
  simp only[mF];rw[mF_congr (n:=n) fun i c a=>h i ω a];by_cases a:(ac n).wr b=true
  ·rw[h n ω a]
  ·simp[a]
def mF_last{seq:Nat→St}{ac:Nat→Ac}{S:Nat→Bool}{b i:Nat}(d:(ac i).wr b=true)(a:(ac i).isIns b=false)(c:S i=true):∀ {n:Nat},i < n→(∀ j,j < n→(ac j).wr b=true→S j=true→j≤i)→mF seq ac S b n=get2 (seq (i+1)).2 b
 | 0,h,_=>ω
 | n+1,h,hle=>by
  simp only[mF];by_cases e:n=i
  ·subst e;simp[d,c,a]
  ·rw[gR (fun f=>by have:=hle n ω f.1 f.2;omega)];exact mF_last d a c ω fun j g=>hle j ω
def mF_none{seq:Nat→St}{ac:Nat→Ac}{S:Nat→Bool}{b:Nat}:∀ {n:Nat},(∀ i,i < n→(ac i).wr b=true→S i=false)→mF seq ac S b n=get2 (seq 0).2 b
 | 0,_=>rfl
 | n+1,h=>by
  simp only[mF];rw[gR (fun a=>by have:=h n ω a.1;rw[a.2]at this;cases this)];exact mF_none fun i c=>h i ω
def lt_mF{seq:Nat→St}{ac:Nat→Ac}{b:Nat}:∀ {n i:Nat},i≤n→mF seq ac (fun j=>decide (j < i)) b n=mF seq ac (fun _=>true) b i:=by
  intro n
  induction n with
  | zero=>
   intro i a;obtain rfl:i=0:=ω;rfl
  | succ n d =>
    intro i a;by_cases e:i=n+1
    · subst e
      exact mF_congr fun j c _=>by simp[c]
    · simp only[mF]
      rw[gR (by simp;omega)];exact d ω
def stS(ops:Array Oper)(seq:Nat→St)(val:Nat→SV)(ac:Nat→Ac)(S:Nat→Bool):St :=
 ((xx (seq 0).1.length).map (tS ops val (seq 0).1 S),(xx (seq ops.size).2.length).map (mS ops seq ac S))
def frzs_len{ss:List SV}{mem:Mem}{b:Nat}(h:∀ c∈rowsAll ss,c=b)(a:liveB mem b=true):(frzs m ss mem).2.length=mem.length:=by
 obtain⟨_,d,_⟩:=frzs_local (m:=m) (mem:=mem) (mem2:=mem) h rfl (liveB_lt rfl a);rw[d];simp
def app_frame{t u:TypeId}{mem d:Mem}{s x o:SV}{q:Res}(h:appE P m mem t u s x=some q)(n:q.Out o d):
  (∀ c,ptrB s≠some c→c < mem.length→get2 d c=get2 mem c)∧∀ c,ptrB s=some c→mem.length≤d.length→c < d.length:=by
 unfold appE at h;split at h
 ·split at h
  ·rename_i e _ _ _ i D p a;split at h
   ·split at h
    ·split at h
     ·cases h;obtain⟨y,_,k⟩:=n;simp only[Prod.mk.injEq]at k;obtain⟨_,rfl⟩:=k;have key:(D.mem=mem∧ptrB s=none)∨∃ b,ptrB s=some b∧b < mem.length∧D.mem=mem.set b (some .gone):=by
       unfold dstE at a;split at a
       ·left;cases j:tyOf P 8 e with
        | none=>rw[j]at a;cases a
        | some T=>rw[j]at a;cases a;exact⟨rfl,rfl⟩
       ·split at a
        ·rename_i b _ _ _ _ g;split at a
         ·cases a;exact .inr ⟨b,rfl,(y6.1 g).1,rfl⟩
         ·cases a
        ·cases a
       ·split at a
        ·rename_i b _ _ _ _ _ _ g;split at a
         ·cases a;exact .inr ⟨b,rfl,(y6.1 g).1,rfl⟩
         ·cases a
        ·cases a
       ·cases a
      rcases key with⟨k1,k2⟩ | ⟨b,k1,k2,k3⟩
      ·refine⟨fun c _ f=>?_,fun c f=>by rw[k2]at f;cases f⟩;rw[k1];unfold get2;rw[xm f]
      ·refine⟨fun c l f=>?_,fun c f r=>?_⟩
       ·rw[k3];unfold get2;rw[xm (by simpa using f),vq fun e=>l (by rw[k1,e])]
       ·rw[k1]at f;cases f;omega
     ·cases h
    ·cases h
   ·cases h
  ·cases h
 ·cases h
def ins_frame{t:TypeId}{mem a:Mem}{s x y o:SV}{q:Res}(h:insertE P m mem t s x y=some q)(d:q.Out o a):∃ b z,ptrB s=some b∧b < mem.length∧a=mem.set b z:=by
 unfold insertE at h;split at h
 ·split at h
  ·rename_i c;split at h
   ·split at h
    ·cases h;exact⟨_,_,rfl,(y6.1 c).1,d.2⟩
    ·cases h
   ·cases h
  ·cases h
 ·cases h
def ent_frame{t:TypeId}{mem a:Mem}{s x o:SV}{q:Res}(h:entryE P m mem t s x=some q)(d:q.Out o a):∃ b z,ptrB s=some b∧b < mem.length∧a=mem.set b z:=by
 unfold entryE at h;split at h
 ·split at h
  ·rename_i c _;split at h
   ·split at h
    ·cases h;exact⟨_,_,rfl,(y6.1 c).1,d.2⟩
    ·cases h
   ·cases h
  ·cases h
 ·cases h
def stp_frame{mem a:Mem}{s x y o:SV}{q:Res}(h:stampE m mem s x y=some q)(d:q.Out o a):∃ b z,ptrB s=some b∧b < mem.length∧a=mem.set b z:=by
 unfold stampE at h;split at h
 ·split at h
  ·rename_i c;split at h
   ·cases h;exact⟨_,_,rfl,(y6.1 c).1,d.2⟩
   ·cases h
  ·cases h
 ·cases h
def cpy_frame{t u:TypeId}{mem a:Mem}{s x o:SV}{q:Res}(h:copyE P m mem t u s x=some q)(e:q.Out o a):∃ b z,ptrB s=some b∧b < mem.length∧a=mem.set b z:=by
 unfold copyE at h;split at h
 ·split at h
  ·split at h
   ·rename_i c;split at h
    ·split at h
     ·cases h;obtain⟨y,_,d⟩:=e;exact⟨_,_,rfl,(y6.1 c).1,(Prod.mk.inj d).2.symm⟩
     ·cases h
    ·cases h
   ·cases h
  ·split at h
   ·rename_i c;split at h
    ·split at h
     ·cases h;obtain⟨y,_,d⟩:=e;exact⟨_,_,rfl,(y6.1 c).1,(Prod.mk.inj d).2.symm⟩
     ·cases h
    ·cases h
   ·cases h
  ·cases h
 ·cases h
def bar_both{ts:List SV}{mem h:Mem}{o:Oper}{s:SV}{q:Res}(j:isBar o.op=true)(g:opS P m ts mem o=some q)(k:q.Out s h):
  (∀ c,barB ts o≠some c→c < mem.length→get2 h c=get2 mem c)∧∀ c,barB ts o=some c→mem.length≤h.length→c < h.length:=by
 have f:∀ {a:SV},(∃ b z,ptrB a=some b∧b < mem.length∧h=mem.set b z)→(∀ c,ptrB a≠some c→c < mem.length→get2 h c=get2 mem c)∧∀ c,ptrB a=some c→mem.length≤h.length→c < h.length:=by
  rintro a ⟨b,z,l,n,rfl⟩;refine⟨fun c p i=>?_,fun c i r=>by rw[l]at i;cases i;simpa using n⟩;unfold get2;rw[vq fun e=>p (by rw[l,e])]
 unfold isBar at j;split at j
 ·rename_i t d;simp only[opS,d]at g;simp only[barB,d];split at g
  ·cases g;obtain⟨rfl,rfl⟩:=k;refine⟨fun c _ i=>?_,fun c i=>by cases i⟩;unfold get2;rw[xm i]
  ·cases g
 ·rename_i t x y z d;simp only[opS,d]at g;simp only[barB,d];split at g
  ·exact f (ins_frame g k)
  ·cases g
 ·rename_i t x y z d;simp only[opS,d]at g;simp only[barB,d];split at g
  ·exact f (ins_frame g k)
  ·cases g
 ·rename_i t x y d;simp only[opS,d]at g;simp only[barB,d];split at g
  ·exact f (ent_frame g k)
  ·cases g
 ·rename_i t x y z d;simp only[opS,d]at g;simp only[barB,d];split at g
  ·exact f (stp_frame g k)
  ·cases g
 ·rename_i x y t u d;simp only[opS,d]at g;simp only[barB,d];split at g
  ·exact app_frame g k
  ·cases g
 ·rename_i x y t u d;simp only[opS,d]at g;simp only[barB,d];split at g
  ·exact f (cpy_frame g k)
  ·cases g
 ·cases j
def bar_frame{ts:List SV}{mem a:Mem}{o:Oper}{s:SV}{q:Res}(b:isBar o.op=true)(g:opS P m ts mem o=some q)(f:q.Out s a){c:Nat}(d:barB ts o≠some c)(e:c < mem.length):get2 a c=get2 mem c:=(bar_both b g f).1 c d e
def opA_frame{F:List Nat}{ts:List SV}{mem a:Mem}{o:Oper}{s:SV}{ac:Ac}(h:OpA P tab m cl F ts mem o s a ac):
  mem.length≤a.length∧(∀ b,ac.wr b=false→get2 a b=get2 mem b):=by
 cases h with
 | tab1 b g u E x y t C R v B hx Z =>
  obtain⟨_,_,k3⟩:=frzs_local (m:=m) (mem:=mem) (mem2:=mem) v rfl (liveB_lt rfl B);cases I:E.rs.all flatT with
  | true=>exact⟨za _,fun _ _=>rfl⟩
  | false =>
  refine⟨Nat.le_of_eq (frzs_len v B).symm,fun c t=>?_⟩;exact k3 c fun e=>(by subst e;simp[Ac.wr,I]at t)
 | new N y t L Q f Z =>
  refine⟨ψ,fun b f=>?_⟩;have Y:b≠mem.length:=fun e=>(by subst e;simp[Ac.wr]at f)
  by_cases l:b < mem.length
  ·unfold get2;rw[xm l]
  ·unfold get2;rw[yn (by simp;omega),yn ω]
 | yl i u s a t A X H =>
  refine⟨A,fun b f=>?_⟩;have J:¬b < a.length:=fun q=>by
   simp only[Ac.wr,iz,oF]at f;rcases f.2 with h | h
   ·rw[show yb 0 b=true from by rw[ux];exact wD b]at h;cases h
   ·rw[show y9 b a.length=true from by simpa using q]at h;cases h
  unfold get2;rw[yn ω,yn ω]
 | bar q s a t L K A X D p =>
  refine⟨A,fun b f=>?_⟩;simp only[Ac.wr,iz,beq_eq_false_iff_ne,oF]at f;by_cases l:b < mem.length
  ·exact bar_frame K D p f.1 l
  ·have J:¬b < a.length:=fun q=>by
    rcases f.2 with h | h
    ·rw[show yb mem.length b=true from by simpa using l]at h;cases h
    ·rw[show y9 b a.length=true from by simpa using q]at h;cases h
   unfold get2;rw[yn ω,yn ω]
 | ins b a t L W =>
  obtain⟨_,_,_,_,_,_,_,_,_,_,_,_,_,_,f,_,_,rfl⟩:=insB_some W;refine⟨ψ,fun c t=>?_⟩;unfold get2;rw[yd,gR fun e=>(by subst e;simp[Ac.wr]at t)]
 | op q s a t L Q r D p =>
  have j:=opS_local (P:=P) (m:=m) (ts:=ts) (ts2:=ts) (mem:=mem) (mem2:=mem) (o:=o) (fun _ _=>rfl) Q (fun _ _ _=>rfl);rw[D]at j;simp only[wj,y8.injEq]at j;have:∃ d,a=upM mem d (acOf ts o):=by
   rw[j]at p;clear j D
   induction q with
   | det s0 m0=>exact⟨m0,p.2⟩
   | part α x out =>
    obtain⟨y,_,C⟩:=p;simp only[Prod.mk.injEq]at C;exact⟨(out y).2,C.2.symm⟩
   | alt c x y M O =>
    rcases p with⟨_,p⟩ | ⟨_,p⟩
    ·exact M p
    ·exact O p
   | bnd α x out ih =>
    obtain⟨y,_,p⟩:=p;exact ih y p
  obtain⟨d,rfl⟩:=this;cases z:acOf ts o with
  | no=>exact⟨za _,fun _ _=>rfl⟩
  | grow n k=>rw[z]at r;cases r
  | app _ _ _=>rw[z]at r;cases r
  | ins _=>rw[z]at r;cases r
  | blk b w =>
   cases w with
   | false=>exact⟨za _,fun _ _=>rfl⟩
   | true =>
    refine⟨by simp[upM],fun c t=>?_⟩;simp only[upM];unfold get2;rw[yd,gR fun e=>(by subst e;simp[Ac.wr]at t)]
 | inl g u s d t C V G H hs =>
  refine⟨ψ,fun b f=>?_⟩;by_cases l:b < mem.length
  ·unfold get2;rw[xm l]
  ·have T:¬b < d.length:=fun T=>by
    have S:mem.length≤b:=ω;have U:b < mem.length+(d.length-mem.length):=ω;simp[Ac.wr,S]at f;rw[show y9 b (mem.length+(d.length-mem.length))=true from by simpa using U]at f;cases f
   unfold get2;rw[yn (by simp;omega),yn ω]
 | _=>exact⟨za _,fun _ _=>rfl⟩
def opA_new_lt{c:List Nat}{ts:List SV}{mem a:Mem}{o:Oper}{s:SV}{b:Nat}{x:Bool}(h:OpA P tab m cl c ts mem o s a (.blk b x))(e:b=mem.length):b < a.length:=by
 have p:∀ {i:Nat},liveB mem i=true→i < mem.length:=fun {i} h=>by
  unfold liveB get2 at h;cases k:mem[i]? with
  | none=>rw[k]at h;cases h
  | some q=>exact(y6.1 k).1
 have key:∀ {ac:Ac},OpA P tab m cl c ts mem o s a ac→ac=.blk b x→b < a.length:=by
  intro ac h f;cases h with
  | tab1 b' g l E x y n A t r j C w=>cases f;have:=p j;omega
  | new N y n v u z w=>cases f;simp
  | op q s a n v u d k B=>rw[f]at d;have:=p (i:=b) d;omega
  | _=>cases f
 exact key h rfl
def opA_grow{c:List Nat}{ts:List SV}{mem a:Mem}{o:Oper}{s:SV}{ac:Ac}(h:OpA P tab m cl c ts mem o s a ac){n k:Nat}(e:ac=.grow n k):n=mem.length∧n+k≤a.length:=by
 cases h with
 | inl g i s f j r l d p x=>cases e;exact⟨rfl,ψ⟩
 | op q s a j v t b w u=>rw[e]at b;cases b
 | _=>cases e
def opA_all{c:List Nat}{ts:List SV}{mem a:Mem}{o:Oper}{s:SV}{ac:Ac}(h:OpA P tab m cl c ts mem o s a ac){b':Option Nat}{n k:Nat}(e:ac=.app b' n k):k=a.length:=by
 cases h with
 | bar q s a g t l d p u r=>cases e;rfl
 | yl i f s a g d p j=>cases e;rfl
 | op q s a g t v b u r=>rw[e]at b;cases b
 | _=>cases e
def opA_wr_lt{v:List Nat}{ts:List SV}{mem d:Mem}{o:Oper}{s:SV}{ac:Ac}(h:OpA P tab m cl v ts mem o s d ac){b:Nat}(e:ac.wr b=true):b < d.length:=by
 have p:=(opA_frame h).1;cases h with
 | tab1 b' g j E x y u I G F r R M =>
  simp only[Ac.wr,zm,beq_iff_eq]at e;have:b < mem.length:=by
   rw[←e.1];unfold liveB get2 at r;cases l:mem[b']? with
   | none=>rw[l]at r;cases r
   | some q=>exact(y6.1 l).1
  omega
 | new N y u B L C M=>simp only[Ac.wr,zm,beq_iff_eq]at e;rw[←e.1];simp
 | inl g j s t u I H w z Q =>
  simp only[Ac.wr,zm,ux]at e;have O:b < mem.length+(t.length-mem.length):=by simpa using e.2
  simp;omega
 | yl i j s d u p K z =>
  simp only[Ac.wr,se,zm]at e;rcases e with e | ⟨_,e⟩
  ·exact absurd (show false=true from e) δ
  ·simpa using e
 | bar q s d u B A p K l D =>
  simp only[Ac.wr,se,zm,beq_iff_eq]at e;rcases e with e | ⟨_,e⟩
  ·exact(bar_both A l D).2 _ e p
  ·simpa using e
 | ins b' d u B J =>
  obtain⟨_,_,_,_,_,_,_,_,_,_,_,_,_,_,C,_,_,rfl⟩:=insB_some J;simp only[Ac.wr,beq_iff_eq]at e;subst e;simpa using(y6.1 C).1
 | op q s d u B L a l D =>
  cases f:acOf ts o with
  | no=>rw[f]at e;cases e
  | grow n k=>rw[f]at a;cases a
  | app _ _ _=>rw[f]at a;cases a
  | ins _=>rw[f]at a;cases a
  | blk c x =>
   rw[f]at e a;simp only[Ac.wr,zm,beq_iff_eq]at e;have:b < mem.length:=by
    rw[←e.1];simp only[acOK,liveB,get2]at a;cases l:mem[c]? with
    | none=>rw[l]at a;cases a
    | some q=>exact(y6.1 l).1
   omega
 | _=>cases e
variable {ops:Array Oper}{seq:Nat→St}{val:Nat→SV}{ac:Nat→Ac}
def Seq.frame(h:Seq P tab m cl M ops seq val ac){i:Nat}{o:Oper}(c:ops[i]? = some o):
  (seq i).2.length≤(seq (i+1)).2.length∧(∀ b,(ac i).wr b=false→get2 (seq (i+1)).2 b=get2 (seq i).2 b):=by
 obtain⟨_,a⟩:=h.step i o c;rcases a with⟨_,_,e,e2⟩ | ⟨_,_,hA⟩
 ·rw[e];exact⟨za _,fun _ _=>rfl⟩
 ·exact opA_frame hA
def ins_of{a:Ac}{b:Nat}(h:a.isIns b=true):a=.ins b:=by
 cases a with
 | ins c=>simp only[Ac.isIns,beq_iff_eq]at h;rw[h]
 | _=>cases h
def opA_ins{f:List Nat}{ts:List SV}{mem c:Mem}{o:Oper}{s:SV}{a:Ac}(h:OpA P tab m cl f ts mem o s c a){b:Nat}(e:a=.ins b):insB P m ts mem o=some (b,c):=by
 cases h with
 | ins b' c g j i=>cases e;exact i
 | op q s c g j k d n l=>rw[e]at d;cases d
 | _=>cases e
def Seq.ins(h:Seq P tab m cl M ops seq val ac){i b:Nat}{o:Oper}(n:ops[i]? = some o)(d:(ac i).isIns b=true):
  ∃ k a p x,get2 (seq i).2 b=some (.map k a p)∧get2 (seq (i+1)).2 b=some (.map k (a++[x]) (a.length+1))∧(∀ e∈a,(x.1==e.1)=false):=by
 have d:=ins_of d;obtain⟨_,g⟩:=h.step i o n;rcases g with⟨_,_,_,e2⟩ | ⟨_,_,hA⟩
 ·rw[d]at e2;cases e2
 ·obtain⟨t,x,y,z,k,r,q,a,p,_,_,_,_,_,f,_,c,l⟩:=insB_some (opA_ins hA d);refine⟨k,a,p,(q,ev (seq i).1 z),get2_some.2 f,?_,fun e j=>?_⟩
  ·rw[l,get2_set (y6.1 f).1]
  ·have:=ym.1 c e j;simpa using this
def Seq.len(h:Seq P tab m cl M ops seq val ac):∀ {i j:Nat},i≤j→j≤ops.size→(seq i).2.length≤(seq j).2.length∧(seq j).1.length=(seq 0).1.length:=by
  intro i j l n
  induction j with
  | zero=>
   obtain rfl:i=0:=ω;exact⟨za _,rfl⟩
  | succ j o =>
    have a:j < ops.size:=ω;have d:ops[j]? = some ops[j]:=xy a;obtain⟨c,_⟩:=h.step j _ d;have f:(seq (j+1)).1.length=(seq j).1.length:=by
      rw[c];cases ops[j].dst<;>simp[putL]
    by_cases e:i=j+1
    · subst e
      refine⟨za _,?_⟩;have:∀ q,q≤ops.size→(seq q).1.length=(seq 0).1.length:=by
        intro q
        induction q with
        | zero=>intro _;rfl
        | succ q b =>
          intro p;have a:q < ops.size:=ω;obtain⟨c,_⟩:=h.step q _ (xy a);rw[c,←b ω];cases ops[q].dst<;>simp[putL]
      exact this _ n
    · obtain⟨g,k⟩:=o ω ω
      exact⟨xL g (h.frame d).1,f.trans k⟩
def lt_lw{W:Nat→Bool}:∀ {n i:Nat},i≤n→lw W (fun j=>decide (j < i)) n=lw W (fun _=>true) i:=by
  intro n
  induction n with
  | zero=>
   intro i a;obtain rfl:i=0:=ω;rfl
  | succ n c =>
    intro i a;by_cases e:i=n+1
    · subst e
      exact lw_congr fun j b _=>by simp[b]
    · simp only[lw]
      rw[gR (by simp;omega)];exact c ω
def Seq.tmp(h:Seq P tab m cl M ops seq val ac):∀ {i:Nat},i≤ops.size→∀ t,t < (seq 0).1.length→(seq i).1[t]? = some (tS ops val (seq 0).1 (fun j=>decide (j < i)) t):=by
 intro i k t g;unfold tS;rw[lt_lw k]
 induction i with
 | zero=>simp[lw,vf,zP g]
 | succ i n =>
  have c:i < ops.size:=ω;have f:ops[i]? = some ops[i]:=xy c;obtain⟨o,_⟩:=h.step i _ f;have a:=(h.len (wD i) ω).2;simp only[lw,and_true];rw[o];by_cases b:ops[i].dst=some t
  ·have:dstB ops t i=true:=by simp[dstB,f,b]
   rw[gT this,b];simp[putL,a,g]
  ·have:¬dstB ops t i=true:=by simp[dstB,f,b]
   rw[gR this,←n ω];cases l:ops[i].dst with
   | none=>rfl
   | some d =>
    simp only[putL];rw[vq (fun e=>b (by rw[l,e]))]
def Seq.memv(h:Seq P tab m cl M ops seq val ac):∀ {i:Nat},i≤ops.size→∀ b,get2 (seq i).2 b=mS ops seq ac (fun j=>decide (j < i)) b:=by
 intro i a b;unfold mS;rw[lt_mF a]
 induction i with
 | zero=>rfl
 | succ i f =>
  have d:i < ops.size:=ω;have e:ops[i]? = some ops[i]:=xy d;simp only[mF,and_true];by_cases c:(ac i).wr b=true
  ·rw[gT c];by_cases a:(ac i).isIns b=true
   ·rw[gT a,←f ω];obtain⟨k,n,p,x,g,l,_⟩:=h.ins e a;rw[g,l];simp[addL]
   ·rw[gR a]
  ·rw[gR c,←f ω];exact(h.frame e).2 b (by simpa using c)
structure Inv[HasP](P:Program)(w0:World)(m ne:Nat)(ops:Array Oper)(seq:Nat→St)(val:Nat→SV)(ac:Nat→Ac)(B0:Loc)(F0:Nat→Prop)(wb:World)(ds:List Deferred)(listed:Array Bool)(B:Loc)(F:Nat→Prop)(a:Act)(w:World):Prop where
 size:listed.size=ops.size
 closed:Closed ops (fun i=>listed.getD i false=true)
 r:R w0 m ne (stS ops seq val ac (fun i=>listed.getD i false)) B F a w
 old:∀ i,Live (seq 0).2 i→B i=B0 i∧Live (stS ops seq val ac (fun i=>listed.getD i false)).2 i
 fs:∀ i,F0 i→F i
 keep:KeepsF F0 wb w
 fn:∀ i,F i→F0 i∨w0.heap.size≤i
 rnd:∀ (i:Nat) (q:Rnd),(stS ops seq val ac (fun i=>listed.getD i false)).2[i]? = some (some (.rnd q))→∃ q',(seq 0).2[i]? = some (some (.rnd q'))
 df:a.defers=ds
def stS_tmp{S:Nat→Bool}{t:Nat}:(stS ops seq val ac S).1[t]? = if t < (seq 0).1.length then some (tS ops val (seq 0).1 S t)else none:=by
 simp only[stS,yz];by_cases h:t < (seq 0).1.length
 ·simp[h]
 ·rw[gR h,yn (by simpa using h)];rfl
def stS_mem{S:Nat→Bool}{b:Nat}:(stS ops seq val ac S).2[b]? = if b < (seq ops.size).2.length then some (mS ops seq ac S b)else none:=by
 simp only[stS,yz];by_cases h:b < (seq ops.size).2.length
 ·simp[h]
 ·rw[gR h,yn (by simpa using h)];rfl
def looks_op{o:Oper}{t:Nat}(h:.tmp t∈o.op.operands):t∈o.looksAt ops:=by
 unfold Oper.looksAt;refine xz.2 (.inl (List.mem_filterMap.2 ⟨.tmp t,by simpa using h,rfl⟩))
def looks_guard{o a:Oper}{g:Nat}{u:Bool}{t:Nat}(h:o.guard=some (g,u))(c:ops[g]? = some a)(b:a.dst=some t):t∈o.looksAt ops:=by
 unfold Oper.looksAt;refine xz.2 (.inr ?_);simp[h,c,b]
def wantB_congr{ts ts2:List SV}{o:Oper}(h:∀ t,t∈o.looksAt ops→ts2[t]? = ts[t]?):wantB ops ts2 o=wantB ops ts o:=by
 unfold wantB;cases b:o.guard with
 | none=>rfl
 | some d =>
  obtain⟨j,u⟩:=d;simp only;have:yl ops ts2 j=yl ops ts j:=by
   unfold yl;cases c:ops[j]? with
   | none=>rfl
   | some e =>
    simp only[wT];cases a:e.dst with
    | none=>rfl
    | some t=>simp only[h t (looks_guard b c a)]
  rw[this]
def mem_badOf{i b j:Nat}(d:j < i)(a:(ac j).wr b=true)(c:b∉badOf M ac i):(M.getD i 0).testBit j=true:=by
 cases h:(M.getD i 0).testBit j with
 | true=>rfl
 | false =>
  refine absurd ?_ c;unfold badOf;rw[List.mem_flatMap];exact⟨j,tG.2 d,by rw[h];exact mem_writes a⟩
def itOK(n:Nat)(mem:Mem):Bool:=mem.all fun x=>match x with
 | some (.iter mb _ _ _)=>y9 mb n
 | _=>true
def itOK_spec{n:Nat}{mem:Mem}(h:itOK n mem=true){c mb k:Nat}{s:List Nat}{l:Option Nat}(a:get2 mem c=some (.iter mb k s l)):mb < n:=by
 have:=ym.1 h _ (List.mem_of_getElem? (get2_some.1 a));simpa using this
def addL_iter{a b:Option Blk}{mb k:Nat}{s:List Nat}{l:Option Nat}(h:addL a b=some (.iter mb k s l)):a=some (.iter mb k s l):=by
 unfold addL at h;split at h
 ·split at h
  ·cases h
  ·exact h
 ·exact h
def iter_state{b:Nat}(a:∀ q,q≤ops.size→itOK b (seq q).2=true){S:Nat→Bool}{c mb k:Nat}{s:List Nat}{l:Option Nat}:∀ n,n≤ops.size→mF seq ac S c n=some (.iter mb k s l)→mb < b
 | 0,h0,h=>itOK_spec (a 0 h0) h
 | n+1,h0,h=>by
  simp only[mF]at h;split at h
  ·split at h
   ·exact iter_state a n ω (addL_iter h)
   ·exact itOK_spec (a (n+1) h0) h
  ·exact iter_state a n ω h
def clash_i{ops:Array Oper}{e f:Oper}{a:Ac}{b:Nat}(h:a.wr b=true)(d:a.isIns b=false):clash ops f e a (.ins b)=true:=by
 unfold clash;cases a with
 | no=>cases h
 | blk c y=>simp only[Ac.wr,zm,beq_iff_eq]at h;simp[h.1]
 | grow n k=>simp only[Ac.wr,zm]at h;simp only[h.2,Bool.or_true]
 | app b' n k=>simp
 | ins c=>simp only[Ac.wr]at h;simp only[Ac.isIns]at d;rw[h]at d;cases d
def ins_state(H:Seq P tab m cl M ops seq val ac){i b:Nat}{o:Oper}(Z:ops[i]? = some o)(T:ac i=.ins b){S S':Nat→Bool}(R:S i=false)(z:∀ j,S' j=if j=i then true else S j)
  (r:∀ j,j < ops.size→(ac j).wr b=true→(ac j).isIns b=false→j < i∧S j=true) :
  ∃ k v p x c a p2,get2 (seq i).2 b=some (.map k v p)∧get2 (seq (i+1)).2 b=some (.map k (v++[x]) (v.length+1))∧mS ops seq ac S b=some (.map k (c++a) p2)∧(∀ e∈c++a,(x.1==e.1)=false)∧
   mS ops seq ac S' b=some (.map k (c++x::a) (c.length+a.length+1)):=by
 have hlt:i < ops.size:=(uE.1 Z).1;have f:∀ j,j < ops.size→ops[j]? = some ops[j]! := fun j U=>by rw[getElem!_pos ops j U];exact xy U
 obtain⟨k,v,p,x,X,Q,g3⟩:=H.ins (b:=b) Z (by rw[T];simp[Ac.isIns]);have A:∀ n,n≤i→∀ k esT u,get2 (seq n).2 b=some (.map k esT u)→∃ v p,mF seq ac S b n=some (.map k v p)∧∀ e∈v,e∈esT:=by
  intro n
  induction n with
  | zero=>intro _ k esT u h;exact⟨esT,u,h,fun e h=>h⟩
  | succ n N =>
   intro hn k esT u h;have t:n < ops.size:=ω;simp only[mF];by_cases l:(ac n).wr b=true
   ·by_cases s:(ac n).isIns b=true
    ·obtain⟨k',O,p',y,J,w,_⟩:=H.ins (f n t) s;rw[w]at h;cases h;obtain⟨q,W,C,I⟩:=N ω _ _ _ J;by_cases g:S n=true
     ·refine⟨q++[y],q.length+1,?_,fun e d=>?_⟩
      ·rw[gT ⟨l,g⟩,gT s,C,w];simp[addL]
      ·rcases xz.1 d with d | d
       ·exact xz.2 (.inl (I e d))
       ·exact xz.2 (.inr d)
     ·refine⟨q,W,?_,fun e d=>xz.2 (.inl (I e d))⟩;rw[gR fun h=>g h.2];exact C
    ·obtain⟨_,g⟩:=r n t l (by simpa using s);rw[gT ⟨l,g⟩,gR s];exact⟨esT,u,h,fun e h=>h⟩
   ·rw[gR fun h=>l h.1];rw[(H.frame (f n t)).2 b (by simpa using l)]at h;exact N ω _ _ _ h
 obtain⟨c,p1,C,I⟩:=A i (za _) _ _ _ X;have B:∀ n,i+1≤n→n≤ops.size→∃ a p2,mF seq ac S b n=some (.map k (c++a) p2)∧mF seq ac S' b n=some (.map k (c++x::a) (c.length+a.length+1))∧(∀ e∈a,(x.1==e.1)=false)∧
   ∃ esT u,get2 (seq n).2 b=some (.map k esT u)∧x∈esT:=by
  intro n
  induction n with
  | zero=>intro h;omega
  | succ n N =>
   intro hn t;by_cases G:n=i
   ·subst G;refine⟨[],p1,?_,?_,fun e h=>(by cases h),_,_,Q,ψ⟩
    ·simp only[mF];rw[gR fun h=>by rw[R]at h;cases h.2];simpa using C
    ·simp only[mF];rw[gT ⟨by rw[T];simp[Ac.wr],by rw[z];simp⟩,gT (by rw[T];simp[Ac.isIns]),mF_congr (S':=S) fun j U _=>by rw[z,gR ω],C,Q];simp[addL]
   ·obtain⟨a,p2,D,E,F,esT,u,Y,K⟩:=N ω ω;simp only[mF];have g:S' n=S n:=by rw[z,gR G]
    rw[g];by_cases l:(ac n).wr b=true
    ·by_cases s:(ac n).isIns b=true
     ·obtain⟨k',O,p',y,J,w,f3⟩:=H.ins (f n ω) s;rw[Y]at J;cases J;have V:(x.1==y.1)=false:=by
       have:=f3 x K;rw[beq_eq_false_iff_ne]at this⊢;exact fun e=>this e.symm
      by_cases L:S n=true
      ·refine⟨a++[y],(c++a).length+1,?_,?_,fun e d=>?_,_,_,w,xz.2 (.inl K)⟩
       ·rw[gT ⟨l,L⟩,gT s,D,w];simp[addL]
       ·rw[gT ⟨l,L⟩,gT s,E,w];simp[addL,xo]
       ·rcases xz.1 d with d | d
        ·exact F e d
        ·rw[sj]at d;subst d;exact V
      ·refine⟨a,p2,?_,?_,F,_,_,w,xz.2 (.inl K)⟩
       ·rw[gR fun h=>L h.2];exact D
       ·rw[gR fun h=>L h.2];exact E
     ·have:=r n ω l (by simpa using s);omega
    ·rw[gR fun h=>l h.1,gR fun h=>l h.1];refine⟨a,p2,D,E,F,esT,u,?_,K⟩;rw[(H.frame (f n ω)).2 b (by simpa using l)];exact Y
 obtain⟨a,p2,D,E,F,_⟩:=B ops.size ω (za _);refine⟨k,v,p,x,c,a,p2,X,Q,D,fun e d=>?_,E⟩;rcases xz.1 d with d | d
 ·exact g3 e (I e d)
 ·exact F e d
def turnS(a c q:Nat):Nat:=if q < a then q else if q=a then a+c else if q≤a+c then q-1 else q
def turnT(a c r:Nat):Nat:=if r < a then r else if r < a+c then r+1 else if r=a+c then a else r
def turn_l(a c q:Nat):turnT a c (turnS a c q)=q:=by
 unfold turnT turnS;repeat' split
 all_goals omega
def turn_r(a c q:Nat):turnS a c (turnT a c q)=q:=by
 unfold turnT turnS;repeat' split
 all_goals omega
def turn_get{α:Type}(l1 l2:List α)(x:α)(q:Nat):(l1++x::l2)[q]? =((l1++l2)++[x])[turnS l1.length l2.length q]? := by
 unfold turnS;split
 ·rename_i h;rw[xm h,xm (by simp;omega),xm h]
 ·split
  ·rename_i h;subst h;rw[wi (za _),wi ψ];simp
  ·split
   ·rw[wi ω,xm (by simp;omega),wi ω];obtain⟨d,rfl⟩:∃ d,q=l1.length+1+d:=⟨q-(l1.length+1),ω⟩
    rw[show l1.length+1+d-l1.length=d+1 from ω,show l1.length+1+d-1-l1.length=d from ω,List.getElem?_cons_succ]
   ·rw[yn (by simp;omega),yn (by simp;omega)]
def drawn_step[HasP](hG:∀ w w',G w→Below w.heap.size w w'→G w')(ht:TabOK P G tab)(hcl:∀ n ρ,CallK P G n (cl n ρ))(hg:G w0)(O:Seq P tab m cl M ops seq val ac){acs:List Ac}(hacs:∀ i,i < ops.size→acs[i]? = some (ac i))(hO:Ord ops acs M)(hm0:m≤(seq 0).2.length)
  (hok:∀ j b,j < ops.size→ac j=.ins b→(seq 0).2.length≤b∧∀ q,j < q→q < ops.size→(ac q).wr b=true→(ac q).isIns b=true) (hit:∀ j b,j < ops.size→ac j=.ins b→∀ q,q≤ops.size→itOK (seq 0).2.length (seq q).2=true)
  {B0:Loc} {F0:Nat→Prop} {wb:World} {ds:List Deferred} {f:Array Bool} {B:Loc} {F:Nat→Prop} {a:Act} {w:World} (H:Inv P w0 m ne ops seq val ac B0 F0 wb ds f B F a w) {i:Nat} (hr:i∈Region.ready .any ops f) {l:Option Nat}
  {K:Act→World→Prop} {Q:Exit→Act→World→Prop} (hK:∀ B' F' a' w',Inv P w0 m ne ops seq val ac B0 F0 wb ds (f.setIfInBounds i true) B' F' a' w'→K a' w'):wpOpIn (fen l) 0 P ops Q i K a w:=by
 rw[mem_ready]at hr;obtain⟨hi0,o,ho,hpre⟩:=hr;have C:i < ops.size:=(uE.1 ho).1;have hlt':i < f.size:=by rw[H.size];exact C
 have hSi:f.getD i false=false:=by
  simp only[sP,xy hlt']at hi0⊢;exact hi0
 have X:∀ p∈predsOf o,f.getD p false=true:=by
  intro p hp;obtain⟨e,he,rfl⟩:=yy.1 hp;obtain⟨he1,he2⟩:=rK.1 he;exact hpre e (by simpa using he1) he2
 have sepL:∀ j Z,j < i→ops[j]? = some Z→clash ops Z o (ac j) (ac i)=true→f.getD j false=true:=fun j Z u g hc =>
  hO.closed H.closed i i o (za _) ho X j (hO.sep j i Z o _ _ u g ho (hacs j ω) (hacs i C) hc)
 have S:∀ j Z,i < j→ops[j]? = some Z→clash ops o Z (ac i) (ac j)=true→f.getD j false=false:=fun j Z u g hc=>by
  cases I:f.getD j false with
  | false=>rfl
  | true =>
   have hjl:j < ops.size:=(uE.1 g).1;have:=hO.closed H.closed j j Z (za _) g (H.closed j Z g I) i (hO.sep i j o Z _ _ u ho g (hacs i C) (hacs j hjl) hc);simp only[hSi]at this;cases this
 have hwr:∀ t:Nat,t∈o.looksAt ops→tS ops val (seq 0).1 (fun i=>f.getD i false) t=tS ops val (seq 0).1 (fun j=>decide (j < i)) t:=by
  intro t htl;unfold tS;rw[lw_congr (S':=fun j=>decide (j < i))];intro j u J;unfold dstB at J;cases g:ops[j]? with
  | none=>rw[g]at J;cases J
  | some Z =>
   rw[g]at J;have hd':Z.dst=some t:=by simpa using J
   by_cases U:j < i
   ·rw[sepL j Z U g (by unfold clash;rw[hd'];simp[htl])];simp[U]
   ·by_cases e2:j=i
    ·subst e2;rw[hSi];simp
    ·rw[S j Z ω g (by unfold clash;rw[hd'];simp[htl])];simp[U]
 have hmr:∀ b x,ac i=.blk b x→mS ops seq ac (fun i=>f.getD i false) b=mS ops seq ac (fun j=>decide (j < i)) b:=by
  intro b x E;unfold mS;rw[mF_congr (S':=fun j=>decide (j < i))];intro j u J;have g:ops[j]? = some ops[j]:=xy u;by_cases U:j < i
  ·rw[sepL j _ U g (by rw[E];exact clash_l J)];simp[U]
  ·by_cases e2:j=i
   ·subst e2;rw[hSi];simp
   ·rw[S j _ ω g (by rw[E];exact clash_r J)];simp[U]
 have hma:∀ b' n k b,ac i=.app b' n k→mS ops seq ac (fun i=>f.getD i false) b=mS ops seq ac (fun j=>decide (j < i)) b:=by
  intro b' n k b E;unfold mS;rw[mF_congr (S':=fun j=>decide (j < i))];intro j u J;have g:ops[j]? = some ops[j]:=xy u;by_cases U:j < i
  ·rw[sepL j _ U g (by rw[E];exact clash_al J)];simp[U]
  ·by_cases e2:j=i
   ·subst e2;rw[hSi];simp
   ·rw[S j _ ω g (by rw[E];exact clash_ar J)];simp[U]
 have hmd:∀ n k b,ac i=.grow n k→b < n→b∉badOf M ac i→mS ops seq ac (fun i=>f.getD i false) b=mS ops seq ac (fun j=>decide (j < i)) b:=by
  intro n k b W hbn hbad;unfold mS;rw[mF_congr (S':=fun j=>decide (j < i))];intro j u J;have g:ops[j]? = some ops[j]:=xy u;by_cases U:j < i
  ·have:=hO.closed H.closed i i o (za _) ho X j (mem_badOf U J hbad);rw[this];simp[U]
  ·by_cases e2:j=i
   ·subst e2;rw[hSi];simp
   ·rw[S j _ ω g (by rw[W];exact clash_g J ω)];simp[U]
 have hts:∀ t:Nat,t∈o.looksAt ops→(stS ops seq val ac (fun i=>f.getD i false)).1[t]? =(seq i).1[t]? := by
  intro t htl;rw[stS_tmp];by_cases h:t < (seq 0).1.length
  ·rw[gT h,O.tmp (tI C) t h,hwr t htl]
  ·have hln:=(O.len (wD i) (tI C)).2;have hnone:(seq i).1[t]? = none:=yn ω;rw[gR h,hnone]
 have hops:∀ x∈o.op.operands,ev (stS ops seq val ac (fun i=>f.getD i false)).1 x=ev (seq i).1 x:=by
  intro x hx;cases x with
  | tmp t=>simp only[ev,vf,hts t (looks_op hx)]
  | _=>rfl
 have L:∀ j,(f.setIfInBounds i true).getD j false=if j=i then true else f.getD j false:=by
  intro j;by_cases e:j=i
  ·subst e;simp[hlt']
  ·rw[gR e,getD_set_ne false (Ne.symm e)]
 have N:Closed ops (fun j=>(f.setIfInBounds i true).getD j false=true):=by
  intro j Z g I p hp;rw[L]at I⊢;by_cases e:p=i
  ·simp[e]
  ·rw[gR e];by_cases e2:j=i
   ·subst e2;rw[ho]at g;cases g;exact X p hp
   ·rw[gR e2]at I;exact H.closed j Z g I p hp
 obtain⟨hst1,hst2⟩:=O.step i o ho;have hT:putL (stS ops seq val ac (fun i=>f.getD i false)).1 o.dst (val i)=(stS ops seq val ac (fun j=>(f.setIfInBounds i true).getD j false)).1:=by
  apply vE;intro t;rw[stS_tmp];have hl:(stS ops seq val ac (fun i=>f.getD i false)).1.length=(seq 0).1.length:=by simp[stS]
  by_cases h:t < (seq 0).1.length
  ·rw[gT h];by_cases J:o.dst=some t
   ·rw[J];simp only[putL];rw[yd];simp only[hl,h,if_true];unfold tS;rw[lw_last (i:=i) (by simp[dstB,ho,J]) (by rw[L];simp) C];intro j u V I;rw[L]at I;by_cases e:j=i
    ·omega
    ·rw[gR e]at I;rcases nh i j with hij | hij
     ·unfold dstB at V;have g:ops[j]? = some ops[j]:=xy u;rw[g]at V;have hd':ops[j].dst=some t:=by simpa using V
      have:=S j _ hij g (by unfold clash;rw[J,hd'];simp);rw[this]at I;cases I
     ·exact hij
   ·have U:(putL (stS ops seq val ac (fun i=>f.getD i false)).1 o.dst (val i))[t]? =(stS ops seq val ac (fun i=>f.getD i false)).1[t]? := by
     cases hq:o.dst with
     | none=>rfl
     | some d=>simp only[putL];rw[vq (fun e=>J (by rw[hq,e]))]
    rw[U,stS_tmp,gT h];unfold tS;rw[lw_congr (S':=fun j=>(f.setIfInBounds i true).getD j false)];intro j u V;rw[L];by_cases e:j=i
    ·subst e;simp[dstB,ho,J]at V
    ·rw[gR e]
  ·have hln:(putL (stS ops seq val ac (fun i=>f.getD i false)).1 o.dst (val i)).length=(seq 0).1.length:=by cases o.dst<;>simp[putL,stS]
   rw[gR h];exact yn ω
 have hN:(stS ops seq val ac (fun i=>f.getD i false)).2.length=(seq ops.size).2.length:=by simp[stS]
 have other0:∀ b,(ac i).wr b=false→(stS ops seq val ac (fun i=>f.getD i false)).2[b]? =(stS ops seq val ac (fun j=>(f.setIfInBounds i true).getD j false)).2[b]? := by
  intro b hne;rw[stS_mem,stS_mem];congr 2;unfold mS;rw[mF_congr (S':=fun j=>(f.setIfInBounds i true).getD j false)];intro j u J;rw[L];by_cases e:j=i
  ·subst e;rw[hne]at J;cases J
  ·rw[gR e]
 have hM:(∀ b,ac i≠.ins b)→upM (stS ops seq val ac (fun i=>f.getD i false)).2 (seq (i+1)).2 (ac i)=(stS ops seq val ac (fun j=>(f.setIfInBounds i true).getD j false)).2:=by
  intro hni;have T:∀ b,(ac i).isIns b=false:=fun b=>by
   cases h:(ac i).isIns b with
   | false=>rfl
   | true=>exact absurd (ins_of h) (hni b)
  apply vE;intro b;rw[stS_mem];have R:(ac i).wr b=false→(stS ops seq val ac (fun i=>f.getD i false)).2[b]? = if b < (seq ops.size).2.length then some (mS ops seq ac (fun j=>(f.setIfInBounds i true).getD j false) b)else none:=by
   intro hne;rw[stS_mem];congr 2;unfold mS;rw[mF_congr (S':=fun j=>(f.setIfInBounds i true).getD j false)];intro j u J;rw[L];by_cases e:j=i
   ·subst e;rw[hne]at J;cases J
   ·rw[gR e]
  have last:(ac i).wr b=true→(ac i).isIns b=false→b < (seq ops.size).2.length→mS ops seq ac (fun j=>(f.setIfInBounds i true).getD j false) b=get2 (seq (i+1)).2 b:=by
   intro D T h;unfold mS;rw[mF_last (i:=i) D T (by rw[L];simp) C];intro j u V I;rw[L]at I;by_cases e:j=i
   ·omega
   ·rw[gR e]at I;rcases nh i j with hij | hij
    ·have hcl:clash ops o ops[j] (ac i) (ac j)=true:=by
      cases A:ac i with
      | no=>rw[A]at D;cases D
      | blk c x =>
       rw[A]at D;simp only[Ac.wr,zm,beq_iff_eq]at D;rw[D.1];exact clash_r V
      | grow n k =>
       rw[A]at D;simp only[Ac.wr,zm]at D;exact clash_g V (by simpa using D.2)
      | app _ _ _=>exact clash_ar V
      | ins c=>exact absurd A (hni c)
     have:=S j _ hij (xy u) hcl;rw[this]at I;cases I
    ·exact hij
  cases A:ac i with
  | ins c=>exact absurd A (hni c)
  | no=>exact R (by rw[A];rfl)
  | blk c x =>
   cases x with
   | false=>exact R (by rw[A];simp[Ac.wr])
   | true =>
    simp only[upM];by_cases e:c=b
    ·subst e;rw[yd];by_cases h:c < (seq ops.size).2.length
     ·simp only[hN,h,if_true];rw[last (by rw[A];simp[Ac.wr]) (T _) h]
     ·rw[gT rfl,gR (by rw[hN];exact h),gR h]
    ·rw[vq e];exact R (by rw[A];simp[Ac.wr,e])
  | app b' n k =>
   have hle1:=(O.len (i:=i+1) (j:=ops.size) ω (za _)).1;have hfr:=(O.frame ho).2 b;have hval:b < (seq ops.size).2.length→mS ops seq ac (fun j=>(f.setIfInBounds i true).getD j false) b=get2 (seq (i+1)).2 b:=by
    intro h;cases D:(ac i).wr b with
    | true=>exact last D (T _) h
    | false =>
     have:=R D;rw[stS_mem,gT h,gT h,y8.injEq]at this;rw[←this,hma b' n k b A,←O.memv (tI C) b,hfr D]
   simp only[upM,hN];by_cases E:b < (seq (i+1)).2.length
   ·rw[xm E,gT ω,hval ω];unfold get2;rw[zP E];rfl
   ·rw[wi ω,sw];by_cases h:b < (seq ops.size).2.length
    ·rw[gT ω,gT h,hval h];unfold get2;rw[yn (show(seq (i+1)).2.length≤b by omega)];rfl
    ·rw[gR ω,gR h]
  | grow n k =>
   simp only[upM];rw[yz];by_cases h:b < (seq ops.size).2.length
   ·rw[List.getElem?_range (by rw[hN];exact h),gT h];simp only[wj];cases D:(yb n b&&y9 b (n+k))with
    | true =>
     rw[cond_true,last (by rw[A];exact D) (T _) h]
    | false =>
     have:=R (by rw[A];exact D);rw[gT h]at this;rw[cond_false];congr 1;unfold get2;rw[this];rfl
   ·rw[yn (by rw[nk,hN];omega),gR h];rfl
 have hsz':(f.setIfInBounds i true).size=ops.size:=by simp[H.size]
 have insSt:∀ b,ac i=.ins b→∃ k es p x v z p2,get2 (seq i).2 b=some (.map k es p)∧get2 (seq (i+1)).2 b=some (.map k (es++[x]) (es.length+1))∧mS ops seq ac (fun i=>f.getD i false) b=some (.map k (v++z) p2)∧(∀ e∈v++z,(x.1==e.1)=false)∧
   mS ops seq ac (fun j=>(f.setIfInBounds i true).getD j false) b=some (.map k (v++x::z) (v.length+z.length+1)):=fun b E =>
  ins_state O ho E (by simpa using hSi) L fun j u hw T=>by
   have g:ops[j]? = some ops[j]:=xy u;rcases iA j i with hji | hji | hji
   ·exact⟨hji,sepL j _ hji g (by rw[E];exact clash_i hw T)⟩
   ·subst hji;rw[E]at T;simp[Ac.isIns]at T
   ·have:=(hok i b C E).2 j hji u hw;rw[T]at this;cases this
 have hbN:∀ b,ac i=.ins b→b < (seq ops.size).2.length:=fun b E=>by
  obtain⟨_,_,_,_,_,g2,_⟩:=O.ins (b:=b) ho (by rw[E];simp[Ac.isIns]);have h1:=(y6.1 (get2_some.1 g2)).1;exact ry h1 (O.len (i:=i+1) (j:=ops.size) ω (za _)).1
 unfold wpOpIn;simp only[ho];have hw:=wantB_congr (ops:=ops) (o:=o) hts;rcases hst2 with⟨hwn,hv,hmm,hacn⟩ | ⟨hwn,hdef,hA⟩
 ·have hwd:=wantB_spec H.r (hw.trans hwn);rw[gR (by rw[hwd];simp)];refine⟨wide_about,?_⟩;have hR:=H.r.skip o.dst;rw[hv]at hT;rw[hT]at hR;have hM':=hM fun b=>by rw[hacn];intro e;cases e
  rw[hacn]at hM';simp only[upM]at hM';rw[hM']at hR;refine hK B F _ _ ⟨hsz',N,hR,fun j u=>?_,H.fs,H.keep,H.fn,fun j q hq=>?_,by rw[put_defers];exact H.df⟩
  ·obtain⟨k1,k2⟩:=H.old j u;exact⟨k1,hM'▸k2⟩
  ·rw[←hM']at hq;exact H.rnd j q hq
 ·have hwd:=wantB_spec H.r (hw.trans hwn);rw[gT hwd];refine opA_run (ts2:=(stS ops seq val ac (fun i=>f.getD i false)).1) (mem2:=(stS ops seq val ac (fun i=>f.getD i false)).2) hG ht hcl hg hA hdef hops ?_ ?_ H.r fun B' F' x w' W hR=>?_
  ·have hNi:=(O.len (i:=i) (j:=ops.size) ω (za _)).1;have hget:∀ b,mS ops seq ac (fun i=>f.getD i false) b=mS ops seq ac (fun j=>decide (j < i)) b→get2 (stS ops seq val ac (fun i=>f.getD i false)).2 b=get2 (seq i).2 b:=by
    intro b E;by_cases hlt2:b < (seq ops.size).2.length
    ·rw[O.memv (tI C) b,←E];unfold get2;rw[stS_mem,gT hlt2];rfl
    ·unfold get2;rw[stS_mem,gR hlt2,yn ω]
   cases A:ac i with
   | no=>trivial
   | blk b x =>
    refine⟨?_,hget b (hmr b x A),fun e=>?_⟩
    ·simp only[stS,vQ,nk];exact xL hm0 (O.len (wD _) (za _)).1
    ·simp only[stS,vQ,nk];refine⟨by rw[e];exact xL hm0 (O.len (wD _) (tI C)).1,?_⟩;have hlen1:=(O.len (i:=i+1) (j:=ops.size) ω (za _)).1;have hgrow:(seq i).2.length < (seq (i+1)).2.length∨get2 (seq i).2 b=none:=.inr (by
      unfold get2;rw[yn ω];rfl)
     rw[A]at hA;exact ry (opA_new_lt hA e) hlen1
   | ins b=>trivial
   | app b' n k =>
    rw[A]at hA;have W:=opA_all hA rfl;have hlen1:=(O.len (i:=i+1) (j:=ops.size) ω (za _)).1;have h0len:=(O.len (wD i) (tI C)).1;have hsz2:(stS ops seq val ac (fun i=>f.getD i false)).2.length=(seq ops.size).2.length:=by simp[stS]
    refine⟨?_,ω,ω,ω⟩;apply vE;intro b;have hm1:=O.memv (tI C) b;rw[←hma b' n k b A]at hm1;by_cases E:b < (seq ops.size).2.length
    ·rw[stS_mem,gT E,←hm1];by_cases hb2:b < (seq i).2.length
     ·rw[xm hb2];unfold get2;rw[zP hb2];rfl
     ·rw[wi ω,sw,gT ω];unfold get2;rw[yn (show(seq i).2.length≤b by omega)];rfl
    ·rw[stS_mem,gR E,wi ω,sw,gR ω]
   | grow n k =>
    rw[A]at hA;obtain⟨W,hnk⟩:=opA_grow hA rfl;have hlen1:=(O.len (i:=i+1) (j:=ops.size) ω (za _)).1;refine⟨fun b x E=>?_,?_,?_,fun b hb1 hb2=>?_⟩
    ·obtain⟨h1,h2⟩:=maskM_get _ _ _ _ E;rw[hget b (hmd n k b A (by rw[W];exact(y6.1 h1).1) h2)];exact get2_some.2 h1
    ·rw[W];exact xL hm0 (O.len (wD _) (tI C)).1
    ·simp only[stS,vQ,nk];omega
    ·have hb3:b < (seq ops.size).2.length:=ω;unfold get2;rw[stS_mem,gT hb3];have h0len:=(O.len (wD i) (tI C)).1;have hnone:mF seq ac (fun i=>f.getD i false) b ops.size=get2 (seq 0).2 b:=mF_none fun j u J=>by
      have g:ops[j]? = some ops[j]:=xy u;rcases iA j i with hji | hji | hji
      ·exfalso;obtain⟨_,h2⟩:=O.step j _ g;rcases h2 with⟨_,_,_,e2⟩ | ⟨_,_,hA'⟩
       ·rw[e2]at J;cases J
       ·have h1:=opA_wr_lt hA' J;have h2:=(O.len (i:=j+1) (j:=i) ω (tI C)).1;omega
      ·subst hji;exact hSi
      ·exact S j _ hji g (by rw[A];exact clash_g J hb2)
     unfold mS;rw[hnone];show(some (get2 (seq 0).2 b)).join=none;unfold get2;rw[yn ω];rfl
  ·intro b E;obtain⟨k,es,p,x,v,z,p2,g1,g2,g3,g4,_⟩:=insSt b E;refine⟨k,es,p,x,v++z,p2,g1,g2,?_,g4⟩;rw[get2_some,stS_mem,gT (hbN b E),g3]
  by_cases hni:∀ b,ac i≠.ins b
  case neg =>
   obtain⟨b,E⟩:∃ b,ac i=.ins b:=Classical.byContradiction fun h=>hni fun b e=>h ⟨b,e⟩;obtain⟨k,es,p,y,v,z,p2,g1,g2,g3,g4,g5⟩:=insSt b E;have hbl:=hbN b E;have hb0:=(hok i b C E).1;rw[hT]at hR;have hup:upM (stS ops seq val ac (fun i=>f.getD i false)).2 (seq (i+1)).2 (ac i)=(stS ops seq val ac (fun i=>f.getD i false)).2.set b (some (.map k ((v++z)++[y]) ((v++z).length+1))):=by
    rw[E];simp only[upM];have U:get2 (stS ops seq val ac (fun i=>f.getD i false)).2 b=some (.map k (v++z) p2):=by rw[get2_some,stS_mem,gT hbl,g3]
    rw[U,g2];simp only[addL,List.getLast?_append,List.getLast?_singleton,Option.some_or]
   have Y:(stS ops seq val ac (fun j=>(f.setIfInBounds i true).getD j false)).2=(upM (stS ops seq val ac (fun i=>f.getD i false)).2 (seq (i+1)).2 (ac i)).set b (some (.map k (v++y::z) (v++y::z).length)):=by
    rw[hup,List.set_set];apply vE;intro c;rw[yd];by_cases e:b=c
    ·subst e;rw[gT rfl,gT (by rw[hN];exact hbl),stS_mem,gT hbl,g5];simp;omega
    ·rw[gR e];exact(other0 c (by rw[E];simp[Ac.wr,e])).symm
   have hup2:(upM (stS ops seq val ac (fun i=>f.getD i false)).2 (seq (i+1)).2 (ac i))[b]? = some (some (.map k ((v++z)++[y]) ((v++z).length+1))):=by
    rw[hup,yd,gT rfl,gT (by rw[hN];exact hbl)]
   have hperm:=hR.mem.perm hup2 (fun j mb n s l u e=>by
     rw[hup,yd]at u;by_cases e2:b=j
     ·subst e2;rw[gT rfl,gT (by rw[hN];exact hbl)]at u;cases u
     ·rw[gR e2,stS_mem]at u;split at u
      ·simp only[y8.injEq]at u;have:=iter_state (hit i b C E) ops.size (za _) u;omega
      ·cases u) (turnS v.length z.length) (turnT v.length z.length) (turn_l _ _) (turn_r _ _) (L':=v++y::z) (by simp[xo]) (turn_get v z y) (fun q hq=>by
     simp only[yo,uA]at hq;unfold turnS;rw[gR ω,gR ω,gR ω])
   rw[←Y]at hperm;have hsame:∀ j,SameP (upd B' b { B' b with ord:=fun q=>(B' b).ord (turnS v.length z.length q) } j) (B' j):=fun j=>by
    by_cases e:j=b
    ·subst e;rw[upd_new];exact⟨rfl,rfl,rfl,rfl,rfl⟩
    ·rw[upd_old B' e];exact⟨rfl,rfl,rfl,rfl,rfl⟩
   have hlv:∀ j,Live (upM (stS ops seq val ac (fun i=>f.getD i false)).2 (seq (i+1)).2 (ac i)) j→Live (stS ops seq val ac (fun j=>(f.setIfInBounds i true).getD j false)).2 j:=fun j u=>by
    rw[Y];exact(ext_set (y:=.map k (v++y::z) (v++y::z).length) hup2 (fun r h=>by cases h)).live j u
   refine hK _ F' _ _ ⟨hsz',N,⟨hR.tmps.same hsame,hR.defers,hperm,fun s O=>(hR.bd s O).mono hlv,by rw[Y];simpa using hR.le,hR.ne⟩,fun j u=>?_,fun j u=>W.fs j (H.fs j u),H.keep.trans (W.keep.less H.fs),fun j u=>?_,fun j q hq=>?_,by rw[put_defers];exact H.df⟩
   ·obtain⟨k1,k2⟩:=H.old j u;have hjl:=u.lt;refine⟨?_,hlv j (W.ext.live j k2)⟩;rw[upd_old B' ω];exact(W.loc j k2).trans k1
   ·rcases W.fn j u with u | u
    ·exact H.fn j u
    ·exact .inr u
   ·rw[Y,yd]at hq;by_cases e:b=j
    ·subst e;rw[gT rfl]at hq;split at hq<;>cases hq
    ·rw[gR e]at hq;obtain⟨q',hq'⟩:=W.ext.old j q hq;exact H.rnd j q' hq'
  case pos =>
   rw[hT,hM hni]at hR;rw[hM hni]at W;refine hK B' F' _ _ ⟨hsz',N,hR,fun j u=>?_,fun j u=>W.fs j (H.fs j u),H.keep.trans (W.keep.less H.fs),fun j u=>?_,fun j q hq=>?_,by rw[put_defers];exact H.df⟩
   ·obtain⟨k1,k2⟩:=H.old j u;exact⟨(W.loc j k2).trans k1,W.ext.live j k2⟩
   ·rcases W.fn j u with u | u
    ·exact H.fn j u
    ·exact .inr u
   ·obtain⟨q',hq'⟩:=W.ext.old j q hq;exact H.rnd j q' hq'
def drawn_all[HasP](hG:∀ w z,G w→Below w.heap.size w z→G z)(ht:TabOK P G tab)(T:∀ n ρ,CallK P G n (cl n ρ))(hg:G w0)(K:Seq P tab m cl M ops seq val ac){E:List Ac}(I:∀ i,i < ops.size→E[i]? = some (ac i))(O:Ord ops E M)(Y:m≤(seq 0).2.length)
  (Z:∀ j b,j < ops.size→ac j=.ins b→(seq 0).2.length≤b∧∀ q,j < q→q < ops.size→(ac q).wr b=true→(ac q).isIns b=true) (X:∀ j b,j < ops.size→ac j=.ins b→∀ q,q≤ops.size→itOK (seq 0).2.length (seq q).2=true) {l:Option Nat}
  {B0:Loc} {F0:Nat→Prop} {wb:World} {ds:List Deferred} {Q:Exit→Act→World→Prop} (hQ:∀ B' F' D z,Nx w0 (seq 0).2 B0 F0 wb (seq ops.size).2 B' F' z→R w0 m ne (seq ops.size) B' F' D z→D.defers=ds→Q .normal D z) :
  ∀ (f:Nat) (listed:Array Bool) (B:Loc) (F:Nat→Prop) (a:Act) (w:World),Inv P w0 m ne ops seq val ac B0 F0 wb ds listed B F a w→((xx ops.size).filter fun i=>!listed.getD i false).length≤f→wpAnyIn (fen l) 0 P .any ops Q f listed a w:=by
 have fin:∀ (listed:Array Bool) (B:Loc) (F:Nat→Prop) (a:Act) (w:World),Inv P w0 m ne ops seq val ac B0 F0 wb ds listed B F a w→(∀ i,i < ops.size→listed.getD i false=true)→Q .normal a w:=by
  intro listed B F a w k g;have e:stS ops seq val ac (fun i=>listed.getD i false)=seq ops.size:=by
   have hS:∀ (W:Nat→Bool),lw W (fun i=>listed.getD i false) ops.size=lw W (fun j=>decide (j < ops.size)) ops.size:=fun W=>lw_congr fun j J _=>by rw[g j J];simp[J]
   refine Prod.ext ?_ ?_
   ·apply vE;intro t;rw[stS_tmp];by_cases h:t < (seq 0).1.length
    ·rw[gT h,K.tmp (za _) t h];unfold tS;rw[hS]
    ·have hln:=(K.len (wD ops.size) (za _)).2;have A:(seq ops.size).1[t]? = none:=yn ω;rw[gR h,A]
   ·apply vE;intro b;rw[stS_mem];by_cases h:b < (seq ops.size).2.length
    ·rw[gT h];have:=K.memv (za ops.size) b;unfold mS at this⊢;rw[mF_congr (S':=fun j=>decide (j < ops.size)) fun j J _=>by rw[g j J];simp[J],←this];unfold get2;rw[zP h];rfl
    ·rw[gR h,yn ω]
  have hR:=k.r;rw[e]at hR;have s:=k.old;have y:=k.rnd;rw[e]at s y;exact hQ B F a w ⟨fun i d=>(s i d).1,k.fs,k.keep,⟨(K.len (wD _) (za _)).1,fun i d=>(s i d).2,y⟩,k.fn⟩ hR k.df
 intro f
 induction f with
 | zero =>
  intro listed B F a w k hf;have g:∀ i,i < ops.size→listed.getD i false=true:=by
   intro i d;cases C:listed.getD i false with
   | true=>rfl
   | false =>
    have v:i∈(xx ops.size).filter fun i=>!listed.getD i false:=rK.2 ⟨tG.2 d,by rw[C];rfl⟩;rw[wc.1 (Nat.le_zero.1 hf)]at v;cases v
  refine⟨?_,fin listed B F a w k g⟩;rw[List.eq_nil_iff_forall_not_mem];intro i d;rw[mem_ready]at d;obtain⟨H,o,u,_⟩:=d;have p:i < ops.size:=(uE.1 u).1;have c:i < listed.size:=by rw[k.size];exact p
  have:=g i p;simp only[sP,xy c,sX]at H this;rw[H]at this;cases this
 | succ f ih =>
  intro listed B F a w k hf;refine⟨fun x=>fin listed B F a w k fun i d=>?_,fun i d=>?_⟩
  ·have:∀ n i,i≤n→i < ops.size→listed.getD i false=true:=by
    intro n
    induction n with
    | zero =>
     intro i V d;cases C:listed.getD i false with
     | true=>rfl
     | false =>
      have u:ops[i]? = some ops[i]:=xy d;have c:i < listed.size:=by rw[k.size];exact d
      have:i∈Region.ready .any ops listed:=mem_ready.2 ⟨by
       simp only[sP,xy c,sX]at C⊢;exact C,_,u,fun e U S=>by
       have:=O.lt i _ u e.on (yy.2 ⟨e,rK.2 ⟨by simpa using U,S⟩,rfl⟩);omega⟩
      rw[x]at this;cases this
    | succ n ihn =>
     intro i V d;cases C:listed.getD i false with
     | true=>rfl
     | false =>
      have u:ops[i]? = some ops[i]:=xy d;have c:i < listed.size:=by rw[k.size];exact d
      have:i∈Region.ready .any ops listed:=mem_ready.2 ⟨by
       simp only[sP,xy c,sX]at C⊢;exact C,_,u,fun e U S=>by
       have:=O.lt i _ u e.on (yy.2 ⟨e,rK.2 ⟨by simpa using U,S⟩,rfl⟩);exact ihn e.on ω ω⟩
      rw[x]at this;cases this
   exact this i i (za _) d
  ·refine drawn_step hG ht T hg K I O Y Z X k d fun B' F' D z N=>ih _ B' F' D z N ?_;rw[mem_ready]at d;obtain⟨H,o,u,_⟩:=d;have p:i < ops.size:=(uE.1 u).1;have c:i < listed.size:=by rw[k.size];exact p
   have L:listed.getD i false=false:=by
    simp only[sP,xy c,sX]at H⊢;exact H
   have key:((xx ops.size).filter fun j=>!(listed.setIfInBounds i true).getD j false).length < ((xx ops.size).filter fun j=>!listed.getD j false).length:=by
    have e1:((xx ops.size).filter fun j=>!(listed.setIfInBounds i true).getD j false)=((xx ops.size).filter fun j=>!listed.getD j false).filter fun j=>decide (j≠i):=by
     rw[List.filter_filter];apply List.filter_congr;intro j _;by_cases e:j=i
     ·subst e;simp[c]
     ·rw[getD_set_ne false (Ne.symm e)];simp[e]
    rw[e1];refine List.length_filter_lt_length_iff_exists.2 ⟨i,rK.2 ⟨tG.2 p,by rw[L];rfl⟩,ψ⟩
   omega
end
def badL(M:List Nat)(a:List Ac)(i:Nat):List Nat:=badOf M (fun j=>a.reverse.getD j .no) i
section
variable {ρ:Type}
def evalIdxA(P:Program)(tab:Tab)(m:Nat)(cl:Nat→Oracle ρ)(c:Mem→Bool)(M:List Nat)(ops:Array Oper):List Nat→St→List Ac→(St→List Ac→Option ρ)→Option ρ
 | [],a,acc,k=>k a acc.reverse
 | i::rest,a,acc,k =>
  match ops[i]? with
  | none=>none
  | some o=>wantK ops a o (fun a=>bif isDefer o.op then none else opA P tab m cl (badL M acc i) a.1 a.2 o fun s b ac=>bif c b then evalIdxA P tab m cl c M ops rest (putL a.1 o.dst s,b) (ac::acc) k else none)
    (fun a=>evalIdxA P tab m cl c M ops rest (putL a.1 o.dst (.v undef),a.2) (.no::acc) k)
def insOK(n:Nat)(c:List Ac):Bool:=(xx c.length).all fun j=>match c[j]? with
 | some (.ins b)=>yb n b&&(xx c.length).all fun q=>yb q j||(match c[q]? with
  | some a=>!a.wr b||a.isIns b
  | none=>true)
 | _=>true
def insOK_spec{n:Nat}{c:List Ac}(h:insOK n c=true){j b:Nat}(e:c[j]? = some (.ins b)):n≤b∧∀ q a,j < q→c[q]? = some a→a.wr b=true→a.isIns b=true:=by
 unfold insOK at h;have:=ym.1 h j (tG.2 (y6.1 e).1);rw[e]at this;simp only[zm,ux,ym,tG]at this;refine⟨this.1,fun q a g d f=>?_⟩;have:=this.2 q (y6.1 d).1;rw[d]at this;simp only[se,ux,Bool.not_eq_true']at this;rcases this with h | h | h
 ·omega
 ·rw[f]at h;cases h
 ·exact h
def drawA(P:Program)(tab:Tab)(m:Nat)(cl:Nat→Oracle ρ):Draws ρ:=fun ops c k =>
 bif ops.toList.any fun o=>isIns o.op then
  evalIdxA P tab m cl (itOK c.2.length) (masks ops.toList []) ops (xx ops.size) c [] fun b a=>bif chkOrd ops a (masks ops.toList [])&&(insOK c.2.length a&&itOK c.2.length c.2)then k b else none
 else evalIdxA P tab m cl (fun _=>true) (masks ops.toList []) ops (xx ops.size) c [] fun b a=>bif chkOrd ops a (masks ops.toList [])then k b else none
end
section
variable {P:Program}{G:World→Prop}{tab:Tab}{m ne:Nat}{w0:World}{cl:Nat→OracleP}{M:List Nat}{ρ:Type}{r:ρ}
def wantK_specS{ops:Array Oper}{st:St}{o:Oper}{x y:KS ρ}(a:wantK ops st o x y=some r):
  (wantB ops st.1 o=some true∧x st=some r)∨(wantB ops st.1 o=some false∧y st=some r):=by
 unfold wantK at a;unfold wantB;cases g:o.guard with
 | none=>rw[g]at a;exact .inl ⟨rfl,a⟩
 | some h =>
  obtain⟨j,c⟩:=h;rw[g]at a;simp only at a⊢;unfold yl;cases f:(ops[j]?).bind (·.dst)with
  | none =>
   rw[f]at a;exact .inr ⟨rfl,a⟩
  | some t =>
   rw[f]at a;simp only at a⊢;cases d:st.1[t]? with
   | none=>rw[d]at a;exact .inr ⟨rfl,a⟩
   | some s =>
    rw[d]at a;cases s with
    | v u =>
     cases u with
     | bool b =>
      simp only at a⊢;simp only[br_eq]at a;have e:(st.1.set t (.v (.bool b)),st.2)=st:=by rw[set_self d]
      cases b<;>cases c<;>simp only[cond_true,cond_false,e]at a<;>first | exact .inl ⟨rfl,a⟩ | exact .inr ⟨rfl,a⟩
     | _=>exact .inr ⟨rfl,a⟩
    | _=>cases a
def badOf_congr{ac a:Nat→Ac}{i:Nat}(h:∀ j,j < i→ac j=a j):badOf M ac i=badOf M a i:=by
 unfold badOf;rw[iB,iB];congr 1;exact rR fun j b=>by rw[h j (tG.1 b)]
def evalIdxA_spec(A:∀ n,NatO (cl n)){w:Mem→Bool}{ops:Array Oper}:∀ (n i:Nat) (f:St) (b:List Ac) (k:St→List Ac→Option ρ),
  i+n=ops.size→b.length=i→evalIdxA P tab m (fun n=>cl n ρ) w M ops (uB i n) f b k=some r→
  ∃ (seq:Nat→St) (val:Nat→SV) (ac:Nat→Ac),seq i=f∧k (seq (i+n)) (b.reverse++(uB i n).map ac)=some r∧(∀ j,j < i→ac j=b.reverse.getD j .no)∧
   ∀ j,i≤j→j < i+n→∃ o,ops[j]? = some o∧(seq (j+1)).1=putL (seq j).1 o.dst (val j)∧
    ((wantB ops (seq j).1 o=some false∧val j=.v undef∧(seq (j+1)).2=(seq j).2∧ac j=.no)∨
     (wantB ops (seq j).1 o=some true∧isDefer o.op=false∧OpA P tab m cl (badOf M ac j) (seq j).1 (seq j).2 o (val j) (seq (j+1)).2 (ac j)∧w (seq (j+1)).2=true)):=by
 intro n
 induction n with
 | zero =>
  intro i f b k L d h;exact⟨fun _=>f,fun _=>.any,fun j=>b.reverse.getD j .no,rfl,by simpa [evalIdxA]using h,fun _ _=>rfl,fun j E F=>ω⟩
 | succ n S =>
  intro i f b k L d h;rw[mA]at h;simp only[evalIdxA]at h;have C:i < ops.size:=ω;have G:ops[i]? = some ops[i]:=xy C;rw[G]at h;simp only at h;have g:∀ (v:SV) (c:Mem) (a:Ac),((wantB ops f.1 ops[i]=some false∧v=.v undef∧c=f.2∧a=.no)∨(wantB ops f.1 ops[i]=some true∧isDefer ops[i].op=false∧OpA P tab m cl (badL M b i) f.1 f.2 ops[i] v c a∧w c=true))→
    evalIdxA P tab m (fun n=>cl n ρ) w M ops (uB (i+1) n) (putL f.1 ops[i].dst v,c) (a::b) k=some r→∃ (seq:Nat→St) (val:Nat→SV) (ac:Nat→Ac),seq i=f∧k (seq (i+(n+1))) (b.reverse++(uB i (n+1)).map ac)=some r∧(∀ j,j < i→ac j=b.reverse.getD j .no)∧
   ∀ j,i≤j→j < i+(n+1)→∃ o,ops[j]? = some o∧(seq (j+1)).1=putL (seq j).1 o.dst (val j)∧
    ((wantB ops (seq j).1 o=some false∧val j=.v undef∧(seq (j+1)).2=(seq j).2∧ac j=.no)∨
     (wantB ops (seq j).1 o=some true∧isDefer o.op=false∧OpA P tab m cl (badOf M ac j) (seq j).1 (seq j).2 o (val j) (seq (j+1)).2 (ac j)∧w (seq (j+1)).2=true)):=by
   intro v c a u t;obtain⟨seq,val,ac,E,F,D,H⟩:=S (i+1) _ (a::b) _ ω (by simp[d]) t;have x:ac i=a:=by
    rw[D i ω];simp[vf,d]
   have l:∀ j,j < i→ac j=b.reverse.getD j .no:=by
    intro j N;rw[D j ω];simp only[List.reverse_cons,vf];rw[xm (by simp[d];exact N)]
   refine⟨fun j=>if j=i then f else seq j,fun j=>if j=i then v else val j,ac,ψ,?_,l,?_⟩
   ·rw[mA,List.map_cons,x];have z:i+(n+1)≠i:=ω;simp only[gR z];rw[show i+(n+1)=i+1+n from ω];simpa using F
   ·intro j O Q;by_cases e:j=i
    ·subst e;refine⟨_,G,?_⟩;have y:¬j+1=j:=ω;simp only[if_true,gR y,E];refine⟨trivial,?_⟩;rw[x];have K:badL M b j=badOf M ac j:=badOf_congr fun q R=>(l q R).symm;rw[←K];exact u
    ·obtain⟨o,z,I⟩:=H j ω ω;refine⟨o,z,?_⟩;have y:¬j+1=i:=ω;simp only[gR e,gR y];exact I
  rcases wantK_specS h with⟨hw,h⟩ | ⟨hw,h⟩
  ·cases B:isDefer ops[i].op with
   | true=>rw[B]at h;cases h
   | false =>
    rw[B]at h;simp only[cond_false]at h;obtain⟨s,c,a,J,h⟩:=opA_spec A h;cases p:w c with
    | false=>rw[p]at h;cases h
    | true =>
     rw[p]at h;exact g s c a (.inr ⟨hw,B,J,p⟩) h
  ·exact g (.v undef) f.2 .no (.inl ⟨hw,rfl,rfl,rfl⟩) h
def drawA_ok[HasP](S:P.follows .mixedOrders=true)(hG:∀ w w',G w→Below w.heap.size w w'→G w')(ht:TabOK P G tab)(hcl:∀ n ρ,CallK P G n (cl n ρ))(T:∀ n,NatO (cl n))(m:Nat):DrawsOK ρ P G m (drawA P tab m fun n=>cl n ρ):=by
 intro w0 ne r l id ops Q z B F a w k hg h E hQ;have key:∃ Y:Mem→Bool,evalIdxA P tab m (fun n=>cl n ρ) Y (masks ops.toList []) ops (uB 0 ops.size) z [] (fun st' N=>bif chkOrd ops N (masks ops.toList [])&&((ops.toList.any fun o=>isIns o.op)==false||(insOK z.2.length N&&itOK z.2.length z.2))then k st' else none)=some r∧
   ((ops.toList.any fun o=>isIns o.op)=true→Y=itOK z.2.length):=by
  unfold drawA at h;rw[List.range_eq_range']at h;cases C:(ops.toList.any fun o=>isIns o.op)with
  | true=>rw[C,cond_true]at h;exact⟨_,by simpa using h,fun _=>rfl⟩
  | false=>rw[C,cond_false]at h;exact⟨_,by simpa using h,fun h=>by cases h⟩
 obtain⟨Y,h,hgd⟩:=key;obtain⟨seq,val,ac,Z,I,_,h3⟩:=evalIdxA_spec T ops.size 0 z [] _ ω rfl h;simp only[Nat.zero_add,List.reverse_nil,vv]at I;cases c:(chkOrd ops ((uB 0 ops.size).map ac) (masks ops.toList [])&&((ops.toList.any fun o=>isIns o.op)==false||(insOK z.2.length ((uB 0 ops.size).map ac)&&itOK z.2.length z.2)))with
 | false=>rw[c]at I;cases I
 | true =>
  rw[c]at I;simp only[cond_true]at I;rw[zm,se,beq_iff_eq,zm]at c;obtain⟨c,u⟩:=c;have hO:=ord_of_chk c;have hs:Seq P tab m cl (masks ops.toList []) ops seq val ac:=⟨fun i o U=>by
   obtain⟨o',V,X⟩:=h3 i (wD _) (by have:=(uE.1 U).1;omega);rw[U]at V;cases V;exact⟨X.1,X.2.imp (fun h=>h) fun h=>⟨h.1,h.2.1,h.2.2.1⟩⟩⟩
  have A:∀ i,i < ops.size→((uB 0 ops.size).map ac)[i]? = some (ac i):=by
   intro i C;rw[yz,List.getElem?_range' C];simp
  have O:∀ j b,j < ops.size→ac j=.ins b→(ops.toList.any fun o=>isIns o.op)=true:=fun j b K v=>by
   have U:ops[j]? = some ops[j]:=xy K;obtain⟨_,I⟩:=hs.step j _ U;rcases I with⟨_,_,_,M⟩ | ⟨_,_,hA⟩
   ·rw[v]at M;cases M
   ·obtain⟨_,_,_,_,_,_,_,_,_,hop,_⟩:=insB_some (opA_ins hA v);rw[List.any_eq_true];exact⟨ops[j],ψ,by rw[hop];rfl⟩
  have u:∀ j b,j < ops.size→ac j=.ins b→insOK z.2.length ((uB 0 ops.size).map ac)=true∧itOK z.2.length z.2=true∧Y=itOK z.2.length:=fun j b K v=>by
   have ha:=O j b K v;rcases u with h | h
   ·rw[ha]at h;cases h
   ·exact⟨h.1,h.2,hgd ha⟩
  have hok:∀ j b,j < ops.size→ac j=.ins b→(seq 0).2.length≤b∧∀ q,j < q→q < ops.size→(ac q).wr b=true→(ac q).isIns b=true:=fun j b K v=>by
   obtain⟨e1,M⟩:=insOK_spec (u j b K v).1 (j:=j) (b:=b) (by rw[A j K,v]);rw[Z];exact⟨e1,fun q hq hq2 hw=>M q _ hq (A q hq2) hw⟩
  have hit:∀ j b,j < ops.size→ac j=.ins b→∀ q,q≤ops.size→itOK (seq 0).2.length (seq q).2=true:=fun j b K v q=>by
   obtain⟨_,e1,M⟩:=u j b K v
   induction q with
   | zero=>intro _;rw[Z];exact e1
   | succ q ih =>
    intro hq;obtain⟨o,_,_,h4⟩:=h3 q (wD _) ω;rcases h4 with⟨_,_,e,_⟩ | ⟨_,_,_,e⟩
    ·rw[e];exact ih ω
    ·rw[Z,←M];exact e
  subst Z;have g:Below w.heap.size w w.drew:=(Below.refl _ w).drew;refine wpIn_region_any S (drawn_all (ne:=ne) (F0:=F) (wb:=w) (ds:=a.defers) (B0:=B) hG ht hcl hg hs A hO E.le hok hit (fun B' F' a' w' hn hR' hd=>hQ _ B' F' a' w' I hn hR' hd) ops.size (sE ops.size false) B F a w.drew ?_ ?_)
  ·have hS:∀ i,(sE ops.size false).getD i false=false:=by
    intro i;simp only[sP,Array.getElem?_replicate];split<;>rfl
   have hlw:∀ W:Nat→Bool,lw W (fun i=>(sE ops.size false).getD i false) ops.size=none:=fun W=>lw_none fun i _ _=>hS i;have hmf:∀ b,mF seq ac (fun i=>(sE ops.size false).getD i false) b ops.size=get2 (seq 0).2 b:=fun b=>mF_none fun i _ _=>hS i;have hT:(stS ops seq val ac (fun i=>(sE ops.size false).getD i false)).1=(seq 0).1:=by
    apply vE;intro t;rw[stS_tmp];unfold tS;rw[hlw];by_cases h:t < (seq 0).1.length
    ·simp[h,vf]
    ·rw[gR h,yn ω]
   have R:=(hs.len (wD ops.size) (za _)).1;have D:∀ (b:Nat) (x:Blk),(stS ops seq val ac (fun i=>(sE ops.size false).getD i false)).2[b]? = some (some x)↔(seq 0).2[b]? = some (some x):=by
    intro b x;rw[stS_mem];unfold mS;rw[hmf];by_cases h:b < (seq ops.size).2.length
    ·rw[gT h,y8.injEq];exact get2_some
    ·rw[gR h,yn ω]
   have L:∀ b,Live (stS ops seq val ac (fun i=>(sE ops.size false).getD i false)).2 b↔Live (seq 0).2 b:=fun b=>⟨fun⟨x,p⟩=>⟨x,(D b x).1 p⟩,fun⟨x,p⟩=>⟨x,(D b x).2 p⟩⟩
   have J:=E.mem.later' g;refine⟨ψ,fun i o U C=>?_,⟨?_,?_,⟨?_,?_,?_,?_,?_,?_,J.fc,J.below⟩,?_,?_,E.ne⟩,fun i C=>⟨rfl,(L i).2 C⟩,fun _ h=>h,keepsF_below E.mem.lt g,fun _ h=>.inl h,fun i q hq=>⟨q,(D i _).1 hq⟩,rfl⟩
   ·simp only[hS]at C;cases C
   ·rw[hT];exact E.tmps.mono (fun _ h=>h) (keepsF_below E.mem.lt g).f
   ·exact E.defers.mono (keepsF_below E.mem.lt g).d
   ·intro i b p;exact J.blk i b ((D i _).1 p)
   ·intro i b C p;exact J.own i b C ((D i _).1 p)
   ·intro i j x y p hy;exact J.inj i j x y ((D i _).1 p) ((D j _).1 hy)
   ·intro i b p s H;exact(J.bd i b ((D i _).1 p) s H).mono fun b v=>(L b).2 v
   ·intro i b p;exact J.fr i b ((D i _).1 p)
   ·intro i b p;exact J.fz i b ((D i _).1 p)
   ·intro s H;rw[hT]at H;exact(E.bd s H).mono fun b v=>(L b).2 v
   ·simp only[stS,vQ,nk];exact xL E.le R
  ·exact xL (List.length_filter_le _ _) ψ
end
section
variable {P:Program}{G:World→Prop}{tab:Tab}{m ne:Nat}{w0:World}{cl:Nat→OracleP}{M:List Nat}{ρ:Type}
def opA_nat(h:∀ n,NatO (cl n)){α:Type}(d:List Nat)(ts:List SV)(mem:Mem)(o:Oper)(i:SV→Mem→Ac→Option α)(f:α→Option ρ):
  opA P tab m (fun n=>cl n ρ) d ts mem o (fun s m a=>(i s m a).bind f)=(opA P tab m (fun n=>cl n α) d ts mem o i).bind f:=by
 unfold opA;split
 ·rename_i g e _;cases entB P g with
  | false=>rfl
  | true =>
   simp only[cond_true];split
   ·rename_i E _;split
    ·split
     ·rw[bd_nat]
     ·rfl
    ·rename_i b j _;cases (liveB mem b&&j.all (·==b))with
     | false=>rfl
     | true =>
      simp only[cond_true];split
      ·rw[bd_nat]
      ·rfl
   ·cases (closedB (maskM d mem)&&e.all (bdM (maskM d mem) 5))with
    | false=>rfl
    | true =>
     simp only[cond_true];rw[←natO_use (h mem.length)];congr 1
     funext s c
     cases grownB mem.length (maskM d mem) c s<;>rfl
 ·rw[←natO_use (h m)];congr 1
  funext s c
  cases (yb mem.length c.length&&yb m mem.length)<;>rfl
 ·rfl
 ·rfl
 ·split
  ·rw[br_nat]
  ·cases isNew o.op with
   | true =>
    simp only[cond_true];split
    ·rw[bd_nat]
    ·split
     ·rfl
     cases isBar o.op with
     | false=>rfl
     | true =>
      simp only[cond_true];split
      ·rename_i q _;rw[←resK_nat q (fun s c=>bif yb mem.length c.length&&yb m mem.length then i s c (.app (barB ts o) mem.length c.length)else none) f];congr 1
       funext s c
       cases (yb mem.length c.length&&yb m mem.length)<;>rfl
      ·rfl
   | false =>
    simp only[cond_false];cases acOK mem (acOf ts o)with
    | false=>rfl
    | true =>
     simp only[cond_true];split
     ·rename_i q _;exact resK_nat q (fun s c=>i s c (acOf ts o)) f
     ·rfl
def evalIdxA_nat(c:∀ n,NatO (cl n)){h:Mem→Bool}{α:Type}(ops:Array Oper)(f:α→Option ρ):∀ (k:List Nat) (g:St) (b:List Ac) (d:St→List Ac→Option α),
  evalIdxA P tab m (fun n=>cl n ρ) h M ops k g b (fun s a=>(d s a).bind f)=(evalIdxA P tab m (fun n=>cl n α) h M ops k g b d).bind f
 | [],g,b,d=>rfl
 | i::rest,g,b,d=>by
  simp only[evalIdxA];split
  ·rfl
  ·rename_i o _;rw[←wantK_nat];congr 1
   ·funext j
    cases isDefer o.op with
    | true=>rfl
    | false =>
     simp only[cond_false];rw[←opA_nat c];congr 1
     funext s e a
     cases h e with
     | false=>rfl
     | true=>exact evalIdxA_nat c ops f rest _ _ d
   ·funext j
    exact evalIdxA_nat c ops f rest _ _ d
def drawA_nat(b:∀ n,NatO (cl n)):NatD (fun ρ=>drawA P tab m fun n=>cl n ρ):=fun ρ ops c k=>by
 simp only[drawA];cases ops.toList.any fun o=>isIns o.op with
 | true =>
  simp only[cond_true];rw[←evalIdxA_nat b];congr 1
  funext d a
  cases chkOrd ops a (masks ops.toList [])&&(insOK c.2.length a&&itOK c.2.length c.2)<;>rfl
 | false =>
  simp only[cond_false];rw[←evalIdxA_nat b];congr 1
  funext d a
  cases chkOrd ops a (masks ops.toList [])<;>rfl
def noLs:Nat→FuncId→Sums:=fun _ _ _ _=>none
noncomputable def clQ (P:Program) (anns:FuncId→FA) (tab:Tab) (lf N:Nat):Nat→Nat→OracleP
 | 0,_,_=>fun _ _ _ _=>none
 | d+1,m,ρ=>goK false P anns noLs (drawA P tab m fun n=>clQ P anns tab lf N d n ρ) tab m lf N
def rgOK_fn[HasP](d:HasP.P=P){g:FuncId}{b:Func}{c:Code}(a:P.funcs[g]? = some b)(e:b.body=some c):RgOK g 0 c:=by
 have:=rgOK_body g;rw[d]at this;unfold bodyP at this;rw[a]at this;simp only[e]at this;exact this
def clQ_ok[HasP](i:HasP.P=P){anns:FuncId→FA}{lf N:Nat}(a:P.follows .mixedOrders=true)(f:∀ w o,G w→Below w.heap.size w o→G o)(e:AnnsOK P G anns)(l:TabOK P G tab):
  ∀ d,(∀ n,NatO (clQ P anns tab lf N d n))∧∀ n ρ,CallK P G n (clQ P anns tab lf N d n ρ)
 | 0=>⟨fun n ρ s b mem k=>rfl,fun n ρ s b mem k r h=>by cases h⟩
 | d+1=>by
  obtain⟨m,p⟩:=clQ_ok i a f e l d;refine⟨fun n=>goK_nat (drawA_nat m) N,fun n ρ=>goK_sound i (drawA_ok a f l p m n) f e l lf ?_ N⟩;intro u g t c j q;exact lsOK_none c 0 (rgOK_fn i j q)
def resOf(rs:List Ty)(s:SV):Option (Tys rs):=match rs with
 | [t]=>match oneOf t s with
  | some x=>some (x,())
  | none=>none
 | rs=>match s with
  | .tup ss=>argsOf rs ss
  | _=>none
def argsR_len{F:Nat→Prop}{w:World}:∀ {rs:List Ty} {x:Tys rs} {a:List Value},ArgsR F w rs x a→a.length=rs.length
 | [],x,a,h=>by rw[show a=[] from h];rfl
 | t::ts,x,a,h=>by
  obtain⟨v,r,rfl,_,b⟩:=h;simp[argsR_len b]
def resR_of[HasP]{B:Loc}{F:Nat→Prop}{w:World}{rs:List Ty}{s:SV}{y:Tys rs}{v:Value}(h:resOf rs s=some y)(c:VR B F w s v):ResR F w rs y v:=by
 unfold resOf at h;split at h
 ·split at h
  ·rename_i x d;cases h;exact⟨[v],⟨v,[],rfl,valR_of d c,rfl⟩,rfl⟩
  ·cases h
 ·rename_i a;split at h
  ·obtain⟨ds,rfl,k⟩:=VRs.of_vr_tup c;have b:=argsR_of h k;refine⟨ds,b,?_⟩;split
   ·rename_i u;have:=argsR_len b;obtain⟨t,e⟩:=List.length_eq_one_iff.1 this.symm;exact absurd e (a t)
   ·rfl
  ·cases h
def ValR.mono{F F':Nat→Prop}{w d:World}(b:∀ i,F i→F' i)(c:KeepsC F w d){t:Ty}{x:t.α}{v:Value}(h:ValR F w t x v):ValR F' d t x v:=by
 unfold ValR at *
 split
 ·rename_i a;rw[gT a]at h;obtain⟨f,e,h⟩:=h;exact⟨f,e,h.mono b c⟩
 ·rename_i a;rw[gR a]at h;exact h.mono b c
def ArgsR.mono{F F':Nat→Prop}{w d:World}(b:∀ i,F i→F' i)(c:KeepsC F w d):∀ {rs:List Ty} {x:Tys rs} {a:List Value},ArgsR F w rs x a→ArgsR F' d rs x a
 | [],x,a,h=>h
 | t::ts,x,a,h=>by
  obtain⟨v,r,e,f,g⟩:=h;exact⟨v,r,e,f.mono b c,ArgsR.mono b c g⟩
def ResR.mono{F F':Nat→Prop}{w a:World}(b:∀ i,F i→F' i)(c:KeepsC F w a){rs:List Ty}{x:Tys rs}{v:Value}(h:ResR F w rs x v):ResR F' a rs x v:=by
 obtain⟨d,h,e⟩:=h;exact⟨d,h.mono b c,e⟩
noncomputable def runQ (P:Program) (anns:FuncId→FA) (ls:Nat→FuncId→Sums) (tab:Tab) (lf N D:Nat) (g:FuncId) (ps rs:List Ty) (x:Tys ps):Option (Tys rs) :=
 goK true P anns ls (drawA P tab 0 fun n=>clQ P anns tab lf N D n (Tys rs)) tab 0 lf N (.fn g) (svsOf ps x) [] fun s mem=>resOf rs (frzR 0 mem s).1
def entry_ok{anns:FuncId→FA}{ls:Nat→FuncId→Sums}{lf N D:Nat}(c:P.follows .mixedOrders=true)(m:∀ w r,G w→Below w.heap.size w r→G r)(l:@AnnsOK ⟨P⟩ P G anns)(q:TabOK P G tab){g:FuncId}{E:Entry}
  (p:@SumsOK ⟨P⟩ true (Tys E.rs) P anns ls (drawA P tab 0 fun n=>clQ P anns tab lf N D n (Tys E.rs)) tab 0 lf) (h:∀ x,E.f x=runQ P anns ls tab lf N D g E.ps E.rs x):EntryOK P G g E:=by
 letI:HasP:=⟨P⟩
 intro x y u F w vals I C d;rw[h x]at u;obtain⟨A,B⟩:=clQ_ok (P:=P) rfl (anns:=anns) (lf:=lf) (N:=N) c m l q D;have o:RM w 0 (fun _=>⟨0,0,0,0,false,id⟩) F [] w:=⟨fun i b a=>by simp at a,fun i b _ a=>by simp at a,fun i j x y M=>by simp at M,fun i b a=>by simp at a,fun i b a=>by simp at a,fun i b a=>by simp at a,C,Below.refl _ _⟩
 have:=goK_sound (P:=P) rfl (drawA_ok c m q B A 0) m l q lf p N (.fn g) (svsOf E.ps x) [] _ y u w w (fun _=>⟨0,0,0,0,false,id⟩) F vals I (za _) o (bd_svsOf (rs:=E.ps) (x:=x)) (vrs_of_argsR d);refine this.mono ?_;rintro e r ⟨s,z,B',F',v,J,rfl,L,k,K,H⟩;obtain⟨F2,O,S,T,Q,U,R⟩:=frzR_sound k L H;refine⟨v,rfl,k.below,(resR_of J Q).mono (fun i a=>?_) (fun _ _=>rfl)⟩;have t:=O.fc i a;rcases R i a with a | a
 ·rcases K.fn i a with a | a
  ·exact .inl a
  ·exact .inr ⟨a,t⟩
 ·exact .inr ⟨a,t⟩
end
def bd_none{α β:Type}(f:α→Option β):bd none f=none:=by rw[bd_eq];rfl
def bd_some'{α β:Type}(x:α)(f:α→Option β):bd (some x) f=f x:=by rw[bd_eq];rfl
def bd_bd{α β γ:Type}(x:Option α)(f:α→Option β)(g:β→Option γ):bd (bd x f) g=bd x fun y=>bd (f y) g:=by
 simp only[bd_eq];cases x<;>rfl
def bd_br{α β:Type}(b:Bool)(x y:Option α)(g:α→Option β):bd (br b x y) g=br b (bd x g) (bd y g):=by
 simp only[bd_eq,br_eq];cases b<;>rfl
def LeO{ρ:Type}(a b:Option ρ):Prop:=∀ r,a=some r→b=some r
def loopP(P:Program)(g:FuncId)(i:Nat):Code:=(nthLoop (bodyP P g) i).getD .skip
def lsOf:List (Nat×FuncId×Sums)→Nat→FuncId→Sums
 | [],_,_=>fun _ _=>none
 | p::l,n,g=>bif n==p.1&&g==p.2.1 then p.2.2 else lsOf l n g
def lsOf_cases:∀ (l:List (Nat×FuncId×Sums)) (n:Nat) (g:FuncId),(lsOf l n g=fun _ _=>none)∨∃ p∈l,p.1=n∧p.2.1=g∧lsOf l n g=p.2.2
 | [],n,g=>.inl rfl
 | p::l,n,g=>by
  simp only[lsOf];cases a:(n==p.1&&g==p.2.1)with
  | true =>
   simp only[zm,beq_iff_eq]at a;exact .inr ⟨p,uL ..,a.1.symm,a.2.symm,ψ⟩
  | false =>
   rcases lsOf_cases l n g with h | ⟨q,b,c,d,e⟩
   ·exact .inl (by simpa using h)
   ·exact .inr ⟨q,s9 _ b,c,d,by simpa using e⟩
def sumsOK_of[HasP]{ρ:Type}{P:Program}(j:HasP.P=P){anns:FuncId→FA}{d:Draws ρ}{tab:Tab}{m lf:Nat}{l:List (Nat×FuncId×Sums)}
  (h:∀ p∈l,∀ i,LsAt ρ P p.2.1 (anns p.2.1).ann p.2.2 d (goK true P anns (lsOf l) d tab m lf p.1) m lf none i (loopP P p.2.1 i)):SumsOK true ρ P anns (lsOf l) d tab m lf:=by
 intro n g q c a f;rcases lsOf_cases l n g with e | ⟨p,k,rfl,rfl,e⟩
 ·rw[e];exact lsOK_none c 0 (rgOK_fn j a f)
 ·rw[e];refine lsOK_of c 0 (rgOK_fn j a f) fun i b o=>?_;have:=h p k i;have e:loopP P p.2.1 i=b:=by
   unfold loopP bodyP;rw[a];simp only[f,o,sX]
  rw[e]at this;simpa using this
def lookT:List (FuncId×Entry)→Tab
 | [],_=>none
 | p::l,g=>bif p.1==g then some p.2 else lookT l g
def afD{P:Program}{G:World→Prop}:TabOK P G (lookT []):=fun g E h=>by cases h
def ad7{P:Program}{G:World→Prop}{g:FuncId}{E:Entry}{l:List (FuncId×Entry)}(h:EntryOK P G g E)(e:TabOK P G (lookT l)):TabOK P G (lookT ((g,E)::l)):=by
 intro b d a;simp only[lookT]at a;by_cases c:g=b
 ·subst c;simp only[BEq.rfl,cond_true,y8.injEq]at a;subst a;exact h
 ·have:(g==b)=false:=by simpa using c
  rw[this]at a;exact e b d a
def br_t{α:Type}(x y:Option α):Go.Rx.br true x y=x:=by rw[Go.Rx.br_eq];rfl
def br_f{α:Type}(x y:Option α):Go.Rx.br false x y=y:=by rw[Go.Rx.br_eq];rfl
def TabG(w:World):Prop:=Lib.TabIs y5 w "internal/strconv.uint64pow10" .u64 Lib.pow10Tab
def ug(w w':World)(h:TabG w)(c:Below w.heap.size w w'):TabG w':=by
 unfold TabG Lib.TabIs World.var? at *
 cases b:Proofs.Tryz.prog.globalNamed "internal/strconv.uint64pow10" with
 | none=>rw[b]at h;cases h
 | some g =>
  rw[b]at h;simp only[wT]at h⊢;cases a:w.heap[g]? with
  | none=>rw[a]at h;cases h
  | some o=>rw[c.block g (lt_of_some a),a];rw[a]at h;exact h
def mixed:Proofs.Tryz.prog.follows .mixedOrders=true:=θ
noncomputable instance prg:HasP:=⟨y5⟩
def entryT{l:List (FuncId×Entry)}(e:TabOK y5 TabG (lookT l)){anns:FuncId→FA}(b:AnnsOK y5 TabG anns){lf N D:Nat}{g:FuncId}{E:Entry}
  (h:∀ x,E.f x=runQ y5 anns noLs (lookT l) lf N D g E.ps E.rs x):EntryOK y5 TabG g E :=
 entry_ok mixed ug b e (fun n g i c a d=>lsOK_none c 0 (rgOK_fn rfl a d)) h
def entryL{l:List (FuncId×Entry)}(c:TabOK y5 TabG (lookT l)){anns:FuncId→FA}(b:AnnsOK y5 TabG anns){ls:Nat→FuncId→Sums}{lf N D:Nat}{g:FuncId}{E:Entry}
  (a:SumsOK true (Tys E.rs) y5 anns ls (drawA y5 (lookT l) 0 fun n=>clQ y5 anns (lookT l) lf N D n (Tys E.rs)) (lookT l) 0 lf)
  (h:∀ x,E.f x=runQ y5 anns ls (lookT l) lf N D g E.ps E.rs x):EntryOK y5 TabG g E :=
 entry_ok mixed ug b c a h
open Go.IntKind (i64)
section
variable {P:Program}(w:World)
def yM:∀ (l:List Int) (a:Addr) (b:ByteArray),(∀ (j:Nat) (x:Int),l[j]? = some x→w.cell? (a.add j)=some (.int .u8 x))→
  (loadBytes a b l.length).run P w=.ok ⟨b.data++(l.map fun n=>UInt8.ofNat n.toNat).toArray⟩ w
 | [],a,b,_=>by simp[loadBytes]
 | x::l,a,b,h=>by
  have d:w.cell? a=some (.int .u8 x):=by
   have:=h 0 x rfl;simpa [Addr.add]using this
  have i:=yM l (a.add 1) (b.push (UInt8.ofNat x.toNat)) (fun j y g=>by
   have:=h (j+1) y (by simpa using g);have e:(a.add 1).add j=a.add (j+1):=by
    unfold Addr.add;by_cases c:j=0
    ·subst c;simp
    ·simp[c];omega
   rw[e];exact this)
  have f:(x.toNat).toUInt8=UInt8.ofNat x.toNat:=rfl;simp only[vh,loadBytes,Sem.run_bind,run_load,d,Result.andThen,f];rw[i];congr 1;apply ByteArray.ext;simp[ByteArray.push]
def aan(pt o p e:TypeId)(y:P.underlying pt=some (.pointer e))(m:P.cellsOf e=1)(g cells:Nat)(k:w.shape? g=some (e,cells))(l:List Int)(r:l≠[])(v:l.length≤cells)(t:l.length≤9223372036854775807)
  (a:∀ (j:Nat) (x:Int),l[j]? = some x→w.cell? ((⟨g,0,none⟩:Addr).add j)=some (.int .u8 x)) :
  (Builtin.unsafeString_ #[pt,o] p #[.pointer (some ⟨g,0,none⟩),.int .i64 l.length]).run P w=.ok (.string (bytesS l)) (w.freeze ⟨g,0,none⟩ l.length):=by
 have u:l.length≠0:=by simpa using r
 have f:=yM (P:=P) w l ⟨g,0,none⟩ .empty a;have b:=Lib.liesAt_bytes (P:=P) m (cells / P.cellsOf e) l.length (by rw[m];simpa using v);have c:¬(9223372036854775807:Int) < (l.length:Int):=ω;have d:Builtin.unsafeString_ #[pt,o] p #[.pointer (some ⟨g,0,none⟩),.int .i64 l.length] =
   (do
    let n←asInt (.int .i64 l.length)
    if n < 0 then runtimePanic (.error "unsafe.String: len out of range")
    if n > i64.max then unsupported (.unsafePointer "String: a length above the largest int")
    if n=0 then pure (.string .empty)
    else if←variablesAt ⟨g,0,none⟩ (←elemOf pt) n.toNat then do
     let s←loadBytes ⟨g,0,none⟩ .empty n.toNat
     freeze ⟨g,0,none⟩ n.toNat
     pure (.string s)
    else unsupported (.unsafePointer "String: not so many bytes at ptr")):=rfl
 rw[d];have h:i64.max=9223372036854775807:=rfl;have i:¬(l.length:Int) < 0:=ω;have q:(ByteArray.empty.data++(l.map fun n=>UInt8.ofNat n.toNat).toArray)=(l.map fun n=>UInt8.ofNat n.toNat).toArray:=ψ;rw[q]at f;simp[asInt,asIntOf,h,c,i,u,variablesAt,k,elemOf,run_underlying y,b,f,bytesS]
end
set_option maxHeartbeats 1000000 in
set_option maxRecDepth 100000 in
def aa3(b:Nat)(w:World)(f:w.cell? ⟨b,0,none⟩=some (.pointer (some ⟨b,0,none⟩))):
  Calls y5 349 #[.pointer (some ⟨b,0,none⟩)] w fun e d=>e=.returned (.tuple #[])∧d=w:=by
 have c:Proofs.Tryz.prog.underlying 270=some (.pointer 272):=θ;obtain⟨j,a⟩:∃ j,Proofs.Tryz.prog.info? 272=some j:=kI.1 θ
 go_enter Proofs.Tryz.func349,Proofs.Tryz.ntmps349
 go_wp2
 rw[Lib.run_neq_ptr_same w _ c a]
 go_wp2
 go_end0
 exact⟨rfl,rfl⟩
set_option maxHeartbeats 1000000 in
set_option maxRecDepth 100000 in
def aay(b:Nat)(w:World)(l:w.cell? ⟨b,0,none⟩=some (.pointer none))(a:w.shape? b=some (272,2))(i:w.frozen? ⟨b,0,none⟩=false):
  Calls y5 349 #[.pointer (some ⟨b,0,none⟩)] w fun e k=>e=.returned (.tuple #[])∧k=w.setCell ⟨b,0,none⟩ (.pointer (some ⟨b,0,none⟩)):=by
 have g:Proofs.Tryz.prog.underlying 270=some (.pointer 272):=θ;have h:Proofs.Tryz.prog.underlying 311=some .unsafePointer:=θ;have d:(Proofs.Tryz.prog.info? 272).map (·.size)=some 2:=θ;obtain⟨j,f,c⟩:=tF.1 d
 go_enter Proofs.Tryz.func349,Proofs.Tryz.ntmps349
 go_wp2
 rw[Lib.run_to_unsafe w ⟨b,0,none⟩ g h f (by rw[c];decide) a (Nat.zero_lt_succ 1)];simp only[Result.andThen];rw[Oper.upon_value]
 go_wp2
 rw[run_callFunc_extern Proofs.Tryz.func364 θ θ θ (e:=Extern.AbiNoEscape.same) θ];rw[Lib.run_noEscape];simp only[Result.andThen];rw[Oper.upon_value]
 go_wp2
 rw[Lib.run_from_unsafe w ⟨b,0,none⟩ h g f a θ];simp only[Result.andThen];rw[Oper.upon_value]
 go_wp2
 go_end0
 exact⟨rfl,rfl⟩
set_option maxHeartbeats 1000000 in
set_option maxRecDepth 100000 in
def ac9(b g n cap sz:Nat)(p:Value)(a:Array Value)(l:List Int)(w:World)(h:w.heap[b]? = some (.cells #[p,.slice (some ⟨g,0,none⟩) n cap] 272 (0,0)))(k:w.heap[g]? = some (.cells a 5 (0,0)))
  (s:n=l.length) (m:l≠[]) (i:cap≠0) (t:a.size=sz) (r:l.length≤sz) (f:l.length≤9223372036854775807) (c:∀ (j:Nat) (x:Int),l[j]? = some x→a[j]? = some (.int .u8 x)) :
  Calls y5 328 #[.pointer (some ⟨b,0,none⟩)] w fun e v=>e=.returned (.string (bytesS l))∧v=w.drew.freeze ⟨g,0,none⟩ l.length:=by
 subst s;have c1:w.drew.cell? ⟨b,1,none⟩=some (.slice (some ⟨g,0,none⟩) l.length cap):=by
  have:w.drew.heap[b]? = some (.cells #[p,.slice (some ⟨g,0,none⟩) l.length cap] 272 (0,0)):=h;rw[Lib.cell_of_heap this];rfl
 have o:(Builtin.unsafeSliceData_ #[266] 303 #[.slice (some ⟨g,0,none⟩) l.length cap]).run y5 w.drew=.ok (.pointer (some ⟨g,0,none⟩)) w.drew :=
  Lib.run_unsafeSliceData_row _ _ _ _ _ _ i
 have q:(Builtin.unsafeString_ #[303,3] 9 #[.pointer (some ⟨g,0,none⟩),.int .i64 l.length]).run y5 w.drew=.ok (.string (bytesS l)) (w.drew.freeze ⟨g,0,none⟩ l.length):=by
  refine aan w.drew 303 3 9 5 θ θ g a.size (by have d:w.drew.heap[g]? = some (.cells a 5 (0,0)):=k;simp[World.shape?,d]) l m ω f ?_;intro j x u;have e:(⟨g,0,none⟩:Addr).add j=⟨g,j,none⟩:=by unfold Addr.add;split<;>simp_all
  rw[e];have d:w.drew.heap[g]? = some (.cells a 5 (0,0)):=k;rw[Lib.cell_of_heap d];exact c j x u
 go_enter Proofs.Tryz.func328,Proofs.Tryz.ntmps328
 go_wp2
 go_region
 all_goals (go_wp2;go_ret;exact⟨rfl,rfl⟩)
def acD{mem:Mem}{i:Nat}{x:Blk}(h:mem[i]? = some (some x)):mem.set i (some x)=mem:=by
 apply vE;intro j;rw[yd];by_cases e:i=j
 ·subst e;rw[gT rfl,gT (y6.1 h).1,h]
 ·rw[gR e]
def acg:SpkOK y5 TabG (.copyCheck 272) 349:=by
 intro w0 m B F mem w L vals q o N h Y hg hm y W Z;unfold spcE at h;split at h
 ·rename_i tB b a;cases a;split at h
  ·rename_i p v t j;split at h
   ·rename_i X;obtain⟨K,rfl,g⟩:=X;cases h;obtain⟨rfl,rfl⟩:=Y;obtain⟨H,D,ds,i,V⟩:=y.blk b _ j;obtain⟨d0,P,rfl,M,Q⟩:=V.head;obtain⟨O,G,rfl,R,S⟩:=Q.head;have:G=[]:=wc.1 S.1.symm;subst this;obtain⟨a0,E,rfl,T,U⟩:=VRs.head Z;have:E=[]:=wc.1 U.1.symm;subst this;cases T;rw[D];have n:Live mem b:=⟨_,j⟩
    have x:∀ C:World,VR B F C (.ptr b 0) (.pointer (some ⟨(B b).blk,0,none⟩)):=fun C=>by
     have:=VR.ptr (B:=B) (F:=F) (w:=C) b 0
     rwa [D]at this
    have z:∀ s∈([.ptr b 0,v]:List SV),Bd (Live mem) s:=by
     intro s a;simp at a;rcases a with rfl | rfl
     ·exact .ptr n
     ·exact y.bd b _ j _ (by simp[Blk.refs])
    unfold freshB at g;split at g
    ·cases M;refine(aay (B b).blk w (by simp[World.cell?,i]) (by simp[World.shape?,i]) (by simp[World.frozen?,i])).mono ?_;rintro e C ⟨rfl,rfl⟩;have l:(w.setCell ⟨(B b).blk,0,none⟩ (.pointer (some ⟨(B b).blk,0,none⟩))).heap[(B b).blk]? = some (.cells #[.pointer (some ⟨(B b).blk,0,none⟩),O] 272 (0,0)):=by
      simp[World.setCell,oS,i]
     have u:∀ k,k≠(B b).blk→(w.setCell ⟨(B b).blk,0,none⟩ (.pointer (some ⟨(B b).blk,0,none⟩))).heap[k]? = w.heap[k]? := fun k J=>by
      simp[World.setCell,oS,Ne.symm J]
     have A:KeepsF F w (w.setCell ⟨(B b).blk,0,none⟩ (.pointer (some ⟨(B b).blk,0,none⟩))) :=
      ⟨fun k J=>u k fun e=>y.fr b _ j rfl H rfl (e▸J),fun d I=>by rw[u d fun e=>by rw[e,i]at I;cases I];exact I,by simp[World.setCell]⟩
     refine⟨B,F,_,rfl,VR.tup' (ds:=[]) .nil,?_,⟨fun _ _=>rfl,fun _ h=>h,A,ext_set j (fun r h=>by cases h),fun _ h=>.inl h⟩,.tup (fun s a=>by cases a)⟩;refine y.turn K j rfl rfl rfl (by simp[World.setCell]) ⟨rfl,rfl,rfl⟩ H u (by rw[i];simp) ⟨H,D,_,l,?_⟩ z;exact .cons (x _) (.cons (R.mono (fun _ h=>h) A.f) .nil)
    ·rename_i c;have:c=b:=by simpa using g
     subst this;cases M;refine(aa3 (B c).blk w (by simp[World.cell?,i,D])).mono ?_;rintro e C ⟨rfl,rfl⟩;rw[acD j];exact⟨B,F,_,rfl,VR.tup' (ds:=[]) .nil,y,Nx.refl,.tup (fun s a=>by cases a)⟩
    ·cases g
   ·cases h
  ·cases h
 ·rename_i a;cases a
 ·rename_i a;cases a
 ·rename_i a;cases a
 ·cases h
def adP:SpkOK y5 TabG (.bString 272 5) 328:=by
 intro w0 m B F mem w M vals q o O h ho hg hm i hbd hv;unfold spcE at h;split at h
 ·rename_i a;cases a
 ·rename_i tB tE b a;cases a;split at h
  ·rename_i p r t hb;split at h
   ·rename_i T l e z;split at h
    ·rename_i hc;obtain⟨hmb,u,rfl,rfl⟩:=hc;split at h
     ·rename_i c K;obtain⟨rfl,e⟩:=castL_some K;subst e;cases h;obtain⟨s,a,he⟩:=ho;cases he;split at a
      ·rename_i f;cases a;obtain⟨h0,Y,ds,N,Z⟩:=i.blk b _ hb;obtain⟨Q,R,rfl,e1,S⟩:=Z.head;obtain⟨d1,E,rfl,U,V⟩:=S.head;have:E=[]:=wc.1 V.1.symm;subst this;obtain⟨a0,D,rfl,W,X⟩:=VRs.head hv;have:D=[]:=wc.1 X.1.symm;subst this;cases W;cases U;rw[Y];rcases i.blk r _ z with⟨_,rfl⟩ | ⟨k0,k1,k2,k3,es,k4,k5,k7,k6⟩
       ·simp at f
       ·obtain⟨g1,g2⟩:=i.give u z;have C:(B r).val=.slice (some ⟨(B r).blk,0,none⟩) c.length (B r).cap:=by simp[Place.val,k0,k1,k2]
        rw[C]at N;refine(ac9 (B b).blk (B r).blk c.length (B r).cap es.length Q es.toArray c w (by simpa using N) k4 rfl (fun e=>by simp[e]at f) ω ψ (by simp only[Ty.n]at k5;omega) (by simp only[maxLen]at k7;omega) ?_).mono ?_
        ·intro j x hx;obtain⟨P,c1,c2⟩:=k6 j x hx;rw[show P=_ from c1]at c2;have:=c2 0 _ rfl;simpa [Ty.n]using this
        ·rintro e w' ⟨rfl,rfl⟩;have g:∀ k,k≠(B r).blk→(w.drew.freeze ⟨(B r).blk,0,none⟩ c.length).heap[k]? = w.heap[k]? := fun k I=>by
          unfold World.freeze;split
          ·rfl
          ·simp[oS,Ne.symm I];try rfl
         have A:(w.drew.freeze ⟨(B r).blk,0,none⟩ c.length).heap.size=w.heap.size:=by
          unfold World.freeze;split<;>simp
         have L:(w.drew.freeze ⟨(B r).blk,0,none⟩ c.length).os=w.os∧(w.drew.freeze ⟨(B r).blk,0,none⟩ c.length).tape=w.tape∧(w.drew.freeze ⟨(B r).blk,0,none⟩ c.length).output=w.output:=by
          unfold World.freeze;split<;>exact⟨rfl,rfl,rfl⟩
         have J:KeepsF F w (w.drew.freeze ⟨(B r).blk,0,none⟩ c.length) :=
          ⟨fun k I=>g k fun e=>i.fr r _ z rfl k0 rfl (e▸I),fun d H=>by rw[g d fun e=>by rw[e,k4]at H;cases H];exact H,by rw[A];exact za _⟩
         have G:RM w0 m B F (mem.set r (some .gone)) (w.drew.freeze ⟨(B r).blk,0,none⟩ c.length) :=
          i.turn (b':=.gone) u z rfl rfl rfl A L k0 g (by rw[k4];simp) trivial (fun s a=>by cases a)
         exact⟨B,F,_,rfl,.v _,G,⟨fun _ _=>rfl,fun _ h=>h,J,ext_set (y:=.gone) z (fun r h=>by cases h),fun _ h=>.inl h⟩,.v _⟩
      ·cases a
     ·cases h
    ·cases h
   ·cases h
  ·cases h
 ·rename_i a;cases a
 ·rename_i a;cases a
 ·cases h
end Go.Q
namespace Go.N
open Go.IntKind (i64)
open Go Go.Q Go.Rx
def fa{α β:Type}(x:α)(f:α→Option β):bd (some x) f=f x:=by rw[bd_eq];rfl
def ff{β:Type}(x y:Option β):br true x y=x:=by rw[br_eq];rfl
def fe{β:Type}(x y:Option β):br false x y=y:=by rw[br_eq];rfl
def brI{β:Type}(b:Bool)(x y:Option β):br b x y=if b=true then x else y:=by rw[br_eq];cases b<;>rfl
def w64{n:Int}(d: -9223372036854775808≤n)(e:n≤9223372036854775807):i64.wrap n=n:=by
 unfold IntKind.wrap;have a:(2:Int) ^ i64.bits=18446744073709551616:=δ;have b:(2:Int) ^ (i64.bits-1)=9223372036854775808:=δ;have c:i64.signed=true:=rfl;simp only[a,b,c,Bool.true_and,decide_eq_true_eq];split<;>omega
def w8{n:Int}(c:0≤n)(d:n≤255):IntKind.u8.wrap n=n:=by
 unfold IntKind.wrap;have a:(2:Int) ^ IntKind.u8.bits=256:=δ;have b:IntKind.u8.signed=false:=rfl;simp only[a,b,Bool.false_and,gR (by simp:¬(false=true))];omega
def iE{α:Type}(l:List α)(i:Nat)(h:i < l.length):idxL l (i:Int)=some l[i]:=by
 unfold idxL;rw[gT ω,vm,zP h]
def xI{α:Type}(l:List α)(j:Int)(i:Nat)(e:j=i)(h:i < l.length):idxL l j=some l[i]:=by subst e;exact iE l i h
def fV(n i:Nat)(h:i < n):idxB n (i:Int)=some i:=by
 unfold idxB;rw[gT ⟨ω,ω⟩,vm]
def pK{α:Type}(l:List α)(i:Nat)(z:α)(h:i < l.length):upE l i (fun _=>some z)=some (l.set i z):=by
 unfold upE;rw[zP h]
def uU{α:Type}(n c:Int)(z:α)(k:Nat)(h:n=k)(a:c=k)(b:k≤1099511627776):mkL n c 8 z=some (xS k z):=by
 subst h;subst a;unfold mkL;rw[gT ⟨rfl,ω,ω,ω,by rw[vm];simp only[maxLen];omega⟩,vm]
def pY{α:Type}(b:Nat)(l a:List α)(c:b≤8)(h:l.length+a.length≤1099511627776):apL true b l a=some (l++a):=by
 unfold apL;have:(l.length+a.length)*b≤1099511627776*8:=Nat.mul_le_mul h c;rw[gT ⟨rfl,by simp only[maxLen];omega,ω⟩]
def aez{α:Type}(l:List α)(h:Int)(k:Nat)(e:h=k)(a:k≤l.length):cutL l none (some h)=some (l.take k):=by
 subst e;unfold cutL Rx.bnd;simp only[wT,vm];rw[gT ⟨ω,ω⟩];simp
def afv{α:Type}(l:List α)(h:Int)(k:Nat)(e:h=k)(a:k≤l.length):cutL l (some h) none=some (l.drop k):=by
 subst e;unfold cutL Rx.bnd;simp only[wT,vm];rw[gT ⟨ω,ω⟩];simp
def uT{a b:Int}(c:0≤a)(d:b≠0):iRem a b=some (a % b):=by
 unfold iRem;rw[gR d,Int.tmod_eq_emod_of_nonneg c]
def rW{a b:Int}(c:0≤a)(f:0 < b)(h:a≤9223372036854775807):iQuo .i64 a b=some (a / b):=by
 unfold iQuo;rw[gR ω,Int.tdiv_eq_ediv_of_nonneg c];have d:0≤a / b:=Int.ediv_nonneg c ω;have e:a / b≤a:=Int.ediv_le_self b c;rw[w64 ω ω]
abbrev bs(l:List UInt8):ByteArray:=⟨l.toArray⟩
def toList_eq(s:ByteArray):s.toList=s.data.toList:=by
 have h:=Lib.extract_toList s 0 s.size;have e:s.extract 0 s.size=s:=by
  obtain⟨⟨l⟩⟩:=s;rw[ByteArray.extract_mk];simp[ByteArray.size]
 rw[e]at h;rw[h,Nat.sub_zero,List.drop_zero,uW (by rw[←Lib.size_eq];exact za _)]
def xY(l:List UInt8):(bs l).toList=l:=by rw[toList_eq]
def jI(l:List UInt8):(bs l).size=l.length:=by rw[Lib.size_eq]
def aa1(s:ByteArray):bs s.data.toList=s:=by obtain⟨⟨l⟩⟩:=s;rfl
def yP{l m:List UInt8}(h:bs l=bs m):l=m:=by
 have:=congrArg ByteArray.toList h
 rwa [xY,xY]at this
def lS(l m:List UInt8):((bs l).toList==(bs m).toList)=decide (l=m):=by
 rw[xY,xY];by_cases h:l=m
 ·rw[gP h];exact beq_iff_eq.2 h
 ·rw[gO h];exact beq_eq_false_iff_ne.2 h
def uy(l:List UInt8)(j:Int)(i:Nat)(e:j=i)(h:i < l.length):sIdx (bs l) j=some l[i]:=by
 subst e;unfold sIdx;rw[gT ω,vm];have:i < (bs l).size:=by rw[jI];exact h
 rw[getElem?_pos (bs l) i this];rfl
def yO(l:List UInt8)(a b:Nat):(bs l).extract a b=bs ((l.drop a).take (b-a)):=by
 rw[←aa1 ((bs l).extract a b)];congr 1;rw[←toList_eq,Lib.extract_toList]
def afi(l:List UInt8)(i j:Int)(a b:Nat)(c:i=a)(d:j=b)(e:a≤b)(f:b≤l.length):sCut (bs l) (some i) (some j)=some (bs ((l.drop a).take (b-a))):=by
 subst c;subst d;unfold sCut bnd;simp only[vm,jI];rw[gT ⟨ω,ω⟩];simp only[wT];rw[gT ⟨ω,ω⟩];simp only[wT];rw[yO]
def wJ(l:List UInt8)(i:Int)(a:Nat)(b:i=a)(c:a≤l.length):sCut (bs l) (some i) none=some (bs (l.drop a)):=by
 subst b;unfold sCut bnd;simp only[vm,jI,wT];rw[gT ⟨ω,ω⟩];simp only[wT];rw[yO,uW (by rw[vu];omega)]
def ait(l:List UInt8)(j:Int)(b:Nat)(a:j=b)(c:b≤l.length):sCut (bs l) none (some j)=some (bs (l.take b)):=by
 subst a;unfold sCut bnd;simp only[vm,jI,wT];rw[gT ⟨ω,ω⟩];simp only[wT];rw[yO];simp
def aaR(l m:List UInt8)(h:l.length+m.length≤9223372036854775807):sCat (bs l) (bs m)=some (bs (l++m)):=by
 unfold sCat;have e:i64.max=9223372036854775807:=δ;rw[e,jI,jI,gR ω];congr 1
def ab2(l:List UInt8):sBytes (bs l)=l.map fun b=>(b.toNat:Int):=rfl
def wM(l:List UInt8):bytesS (l.map fun b=>(b.toNat:Int))=bs l:=by
 unfold bytesS bs;congr 1;rw[List.map_map];congr 1
 conv=>rhs;rw[←List.map_id l]
 apply rR;intro b _;simp
def lv(B:Int):List Int→Int
 | []=>0
 | x::l=>x+B*lv B l
def Dg(B:Int)(l:List Int):Prop:=∀ x∈l,0≤x∧x < B
def Dg.tail{B:Int}{x:Int}{l:List Int}(h:Dg B (x::l)):Dg B l:=fun y a=>h y (by simp[a])
def Dg.head{B:Int}{x:Int}{l:List Int}(h:Dg B (x::l)):0≤x∧x < B:=h x ψ
def Dg.nil{B:Int}:Dg B []:=fun y a=>by simp at a
def Dg.cons{B x:Int}{l:List Int}(b:0≤x∧x < B)(h:Dg B l):Dg B (x::l):=by
 intro y a;rcases ww.1 a with rfl | a
 ·exact b
 ·exact h y a
def Dg.take{B:Int}{l:List Int}(h:Dg B l)(n:Nat):Dg B (l.take n):=fun y a=>h y (List.mem_of_mem_take a)
def Dg.drop{B:Int}{l:List Int}(h:Dg B l)(n:Nat):Dg B (l.drop n):=fun y a=>h y (List.mem_of_mem_drop a)
def Dg.app{B:Int}{l m:List Int}(h:Dg B l)(k:Dg B m):Dg B (l++m):=fun y a=>by
 rcases xz.1 a with a | a
 ·exact h y a
 ·exact k y a
def Dg.at{B:Int}{l:List Int}(h:Dg B l)(i:Nat)(a:i < l.length):0≤l[i]∧l[i] < B:=h _ (List.getElem_mem a)
def Dg.getD{B:Int}(b:0 < B){l:List Int}(h:Dg B l)(i:Nat):0≤l.getD i 0∧l.getD i 0 < B:=by
 by_cases a:i < l.length
 ·rw[pE,zP a];exact h.at i a
 ·rw[pE,yn ω];exact⟨ψ,by simpa using b⟩
def Dg.zeros{B:Int}(a:0 < B)(n:Nat):Dg B (xS n 0):=fun y b=>by
 rw[(List.mem_replicate.1 b).2];exact⟨ω,a⟩
def wW(B:Int):∀ l m:List Int,lv B (l++m)=lv B l+B ^ l.length*lv B m
 | [],m=>by simp[lv]
 | x::l,m=>by
  rw[List.cons_append,lv,lv,wW B l m,vh,wy,vL,wk (B ^ l.length) B,nq];omega
def uK(B:Int):∀ n:Nat,lv B (xS n 0)=0
 | 0=>rfl
 | n+1=>by rw[List.replicate_succ,lv,uK B n];simp
def dw{B:Int}(a:0 < B):∀ {l:List Int},Dg B l→0≤lv B l
 | [],_=>by simp[lv]
 | x::l,h=>by
  have c:=h.head;have b:=dw a h.tail;have d:=yf (zR a) b;rw[lv];omega
def rH{B:Int}(a:0 < B):∀ {l:List Int},Dg B l→lv B l < B ^ l.length
 | [],_=>by simp[lv]
 | x::l,h=>by
  have c:=h.head;have d:=rH a h.tail;have b:B*(lv B l+1)≤B*B ^ l.length:=xF ω (zR a);rw[lv,vh,wy,wk (B ^ l.length) B];rw[vL]at b;omega
def mX{B:Int}(a:0 < B)(n:Nat):0 < B ^ n:=Int.pow_pos a
def Tr(l:List Int):Prop:=l.getLast?≠some 0
def Tr.nil:Tr []:=by simp[Tr]
def aaj{B:Int}(a:0 < B){l:List Int}(h:Dg B l)(d:Tr l)(b:l≠[]):B ^ (l.length-1)≤lv B l:=by
 obtain⟨m,x,rfl⟩:∃ m x,l=m++[x]:=⟨l.dropLast,l.getLast b,(mC b).symm⟩
 have j:x≠0:=by
  intro e;subst e;simp[Tr]at d
 have f:=h x ψ;have c:Dg B m:=fun y g=>h y (by simp[g]);have i:=dw a c;rw[wW,yo,uA,Nat.add_sub_cancel];simp only[lv,Int.mul_zero,Int.add_zero];have:B ^ m.length*1≤B ^ m.length*x:=xF ω (zR (mX a _));omega
def vF{B:Int}(a:0 < B){l:List Int}(h:Dg B l)(c:Tr l)(b:l≠[]):0 < lv B l:=by
 have:=aaj a h c b;have:=mX a (l.length-1);omega
def yU{B:Int}(b:0 < B){l:List Int}(h:Dg B l)(c:Tr l):lv B l=0↔l=[]:=by
 constructor
 ·intro e;by_cases a:l=[]
  ·exact a
  ·have:=vF b h c a;omega
 ·rintro rfl;rfl
def nH{B:Int}(e:1≤B){a b:Nat}(h:a≤b):B ^ a≤B ^ b:=by
 obtain⟨k,rfl⟩:=Nat.exists_eq_add_of_le h;rw[Int.pow_add];have c:0 < B ^ a:=mX ω a;have d:0 < B ^ k:=mX ω k;have:B ^ a*1≤B ^ a*B ^ k:=xF ω ω;omega
def oJ{B:Int}(i:1 < B){l m:List Int}(d:Dg B l)(f:Dg B m)(g:Tr m)(h:l.length < m.length):lv B l < lv B m:=by
 have a:=rH ω d;have b:=aaj ω f g (by intro e;subst e;simp at h);have c:=nH (B:=B) ω (show l.length≤m.length-1 from ω);omega
def tr(l:List Int):List Int:=(l.reverse.dropWhile (·==0)).reverse
def sW(l:List Int):tr (l++[0])=tr l:=by unfold tr;rw[j8];simp
def vS(l:List Int)(x:Int)(h:x≠0):tr (l++[x])=l++[x]:=by
 unfold tr;rw[j8];simp[h]
def acV:tr []=[]:=rfl
def abr{p:List Int→Prop}(l:List Int)(b:p [])(d:∀ l,p l→p (l++[0]))(c:∀ l x,x≠0→p (l++[x])):p l:=by
 induction h:l.length generalizing l with
 | zero=>rw[wc.1 h];exact b
 | succ n f =>
  have a:l≠[]:=by intro e;subst e;simp at h
  rw[←mC a];by_cases e:l.getLast a=0
  ·rw[e];exact d _ (f _ (by rw[iN];omega))
  ·exact c _ _ e
def tH(l:List Int):Tr (tr l):=by
 refine abr (p:=fun l=>Tr (tr l)) l Tr.nil (fun l h=>by rw[sW];exact h) fun l x h=>?_;rw[vS _ _ h];simp[Tr,h]
def oU(B:Int)(l:List Int):lv B (tr l)=lv B l:=by
 refine abr (p:=fun l=>lv B (tr l)=lv B l) l rfl (fun l h=>by rw[sW,h,wW];simp[lv]) fun l x h=>by rw[vS _ _ h]
def qB{B:Int}{l:List Int}(h:Dg B l):Dg B (tr l):=by
 intro y a;apply h;unfold tr at a;have:=iS.1 a;exact iS.1 ((iX _).subset this)
def ahF{l:List Int}(h:Tr l):tr l=l:=by
 revert h;refine abr (p:=fun l=>Tr l→tr l=l) l (fun _=>rfl) (fun l _ h=>by simp[Tr]at h) fun l x a _=>vS _ _ a
def nS(l:List Int):(tr l).length≤l.length:=by
 unfold tr;have:=(iX (fun x:Int=>x==0) (l:=l.reverse)).length_le;simpa using this
def addL(B:Int):List Int→List Int→Int→Nat→List Int
 | _,_,_,0=>[]
 | xs,ys,c,n+1=>(c+xs.headD 0+ys.headD 0) % B::addL B xs.tail ys.tail ((c+xs.headD 0+ys.headD 0) / B) n
def subL(B:Int):List Int→List Int→Int→Nat→List Int
 | _,_,_,0=>[]
 | xs,ys,c,n+1=>(xs.headD 0-c-ys.headD 0) % B::subL B xs.tail ys.tail (-((xs.headD 0-c-ys.headD 0) / B)) n
def vY(B:Int):∀ (n:Nat) (xs a:List Int) (c:Int),(addL B xs a c n).length=n
 | 0,_,_,_=>rfl
 | n+1,xs,a,c=>by rw[addL,vh,vY B n]
def wK(B:Int):∀ (n:Nat) (xs a:List Int) (c:Int),(subL B xs a c n).length=n
 | 0,_,_,_=>rfl
 | n+1,xs,a,c=>by rw[subL,vh,wK B n]
def xM(B:Int)(l:List Int):lv B l=l.headD 0+B*lv B l.tail:=by
 cases l with
 | nil=>simp[lv]
 | cons x l=>rfl
def abV{B:Int}(f:0 < B)(s q:Int)(n:Nat):s % B+B*((s / B+q) % B ^ n)=(s+B*q) % B ^ (n+1):=by
 have h:0 < B ^ n:=mX f n;have i:0≤s % B:=tO s ω;have j:s % B < B:=tP s f;have g:0≤(s / B+q) % B ^ n:=tO _ ω;have k:(s / B+q) % B ^ n < B ^ n:=tP _ h;have e:s+B*q=(s % B+B*((s / B+q) % B ^ n))+B ^ (n+1)*((s / B+q) / B ^ n):=by
  have a:=sI s B;have b:=sI (s / B+q) (B ^ n);have c:B ^ (n+1)*((s / B+q) / B ^ n)=B*(B ^ n*((s / B+q) / B ^ n)):=by rw[wy,wk (B ^ n) B,nq]
  have d:B*(s / B+q)=B*((s / B+q) % B ^ n)+B*(B ^ n*((s / B+q) / B ^ n)):=by rw[←vL,b]
  rw[vL]at d;rw[c];omega
 rw[e,Int.add_mul_emod_self_left]
 symm
 apply Int.emod_eq_of_lt
 ·have:=yf (zR f) g;omega
 ·have:B*((s / B+q) % B ^ n+1)≤B*B ^ n:=xF ω (zR f);rw[vL]at this;rw[wy,wk (B ^ n) B];omega
def acA{B:Int}(b:0 < B):∀ (n:Nat) (xs a:List Int) (c:Int),lv B (addL B xs a c n)=(c+lv B xs+lv B a) % B ^ n
 | 0,xs,a,c=>by simp[addL,lv,Int.emod_one]
 | n+1,xs,a,c=>by
  rw[addL,lv,acA b n,xM B xs,xM B a];rw[show c+(xs.headD 0+B*lv B xs.tail)+(a.headD 0+B*lv B a.tail)=(c+xs.headD 0+a.headD 0)+B*(lv B xs.tail+lv B a.tail) by rw[vL];omega];rw[←abV b,←Int.add_assoc ((c+xs.headD 0+a.headD 0) / B)]
def acC{B:Int}(b:0 < B):∀ (n:Nat) (xs a:List Int) (c:Int),lv B (subL B xs a c n)=(lv B xs-c-lv B a) % B ^ n
 | 0,xs,a,c=>by simp[subL,lv,Int.emod_one]
 | n+1,xs,a,c=>by
  rw[subL,lv,acC b n,xM B xs,xM B a];rw[show xs.headD 0+B*lv B xs.tail-c-(a.headD 0+B*lv B a.tail)=(xs.headD 0-c-a.headD 0)+B*(lv B xs.tail-lv B a.tail) by rw[Int.mul_sub];omega];rw[←abV b];congr 3;omega
def ach{B:Int}(b:0 < B):∀ (n:Nat) (xs a:List Int) (c:Int),Dg B (addL B xs a c n)
 | 0,xs,a,c=>Dg.nil
 | n+1,xs,a,c=>Dg.cons ⟨tO _ ω,tP _ b⟩ (ach b n _ _ _)
def aci{B:Int}(b:0 < B):∀ (n:Nat) (xs a:List Int) (c:Int),Dg B (subL B xs a c n)
 | 0,xs,a,c=>Dg.nil
 | n+1,xs,a,c=>Dg.cons ⟨tO _ ω,tP _ b⟩ (aci b n _ _ _)
def take_set{α:Type}(l:List α)(i:Nat)(z:α)(h:i < l.length):(l.set i z).take (i+1)=l.take i++[z]:=by
 rw[List.take_add_one];simp[yd,h,List.take_set_of_le]
def pG(l:List Int)(i:Nat):(l.drop i).headD 0=l.getD i 0:=by
 simp[List.headD_eq_head?_getD,List.head?_drop,pE]
def pJ(l:List Int)(i:Nat):(l.drop i).tail=l.drop (i+1):=by simp[List.tail_drop]
def getD_lt(l:List Int)(i:Nat)(h:i < l.length):l.getD i 0=l[i]:=by simp[pE,h]
def wU(l:List Int)(i:Nat)(h:¬i < l.length):l.getD i 0=0:=by simp[pE,h]
end Go.N
namespace Go.Q
open Go Go.RowKit
open Go.Rx (br bd br_eq bd_eq bd_some)
noncomputable section
inductive Sh where
 | any
 | int (k:IntKind)
 | bool
 | str
 | sl (T:Ty)
 | ep (T:Ty) (o:Nat)
 | rp (b n o:Nat)
 | p0 (b k:Nat)
 | p1 (b k:Nat)
 | q1 (b k:Nat)
 | ptr (b o:Nat)
 | row (b:Nat)
 | mp (b:Nat)
 | csl (b n k:Nat)
 | yld (i:Nat)
 | nil
 | nilp
 | nilf
 | nilm
 | nili
 | agg (l:List Sh)
 | tup (l:List Sh)
 | fn (g:FuncId) (f c:List Sh)
@[reducible] def Sh.L (s : Sh) (R : Type) (rc : List Sh → Type → Type) : Type := match s with
 | .int _=>Int×R
 | .bool=>Bool×R
 | .str=>ByteArray×R
 | .sl T=>List T.α×R
 | .ep T _=>T.α×R
 | .rp _ _ _=>Nat×R
 | .p0 _ _=>Nat×R
 | .p1 _ _=>Nat×Nat×R
 | .q1 _ _=>Nat×Nat×R
 | .agg l=>rc l R
 | .tup l=>rc l R
 | .fn _ f c=>rc f (rc c R)
 | _=>R
@[reducible] def DF (f : Sh → Type → Type) : List Sh → Type → Type
 | [],R=>R
 | s::l,R=>f s (DF f l R)
@[reducible] def recD : Nat → List Sh → Type → Type
 | 0,_,R=>R
 | d+1,l,R=>DF (fun s R=>s.L R (recD d)) l R
@[reducible] def Sh.D (d : Nat) (s : Sh) (R : Type) : Type := s.L R (recD d)
abbrev BL(rc:List Sh→Type→Type):=(l:List Sh)→(R:Type)→rc l R→(γ:Type)→(List SV→R→γ)→γ
def bldS(rc:List Sh→Type→Type)(b:BL rc)(s:Sh)(R:Type)(x:s.L R rc)(γ:Type)(k:SV→R→γ):γ:=match s,x with
 | .int i,x=>x.rec fun a r=>k (.v (.int i a)) r
 | .bool,x=>x.rec fun a r=>k (.v (.bool a)) r
 | .str,x=>x.rec fun a r=>k (.v (.string a)) r
 | .sl T,x=>x.rec fun a r=>k (.sl T a) r
 | .ep T o,x=>x.rec fun a r=>k (.ep T a o) r
 | .rp b n o,x=>x.rec fun a r=>k (.rp b a n o) r
 | .p0 b i,x=>x.rec fun a r=>k (.part b 0 a i) r
 | .p1 b i,x=>x.rec fun a r=>r.rec fun c r=>k (.part b a c i) r
 | .q1 b i,x=>x.rec fun a r=>r.rec fun c r=>k (.ptc b a c i) r
 | .agg l,x=>b l R x γ fun d r=>k (.agg d) r
 | .tup l,x=>b l R x γ fun d r=>k (.tup d) r
 | .fn g f c,x=>b f _ x γ fun h r=>b c R r γ fun e r=>k (.fn g h e) r
 | .ptr b o,x=>k (.ptr b o) x
 | .row b,x=>k (.row b) x
 | .mp b,x=>k (.mp b) x
 | .csl b n i,x=>k (.csl b n i) x
 | .yld i,x=>k (.yld i) x
 | .nil,x=>k (.v (.slice none 0 0)) x
 | .nilp,x=>k (.v (.pointer none)) x
 | .nilf,x=>k (.v .nilFunc) x
 | .nilm,x=>k (.v (.map none)) x
 | .nili,x=>k (.v .nilIface) x
 | .any,x=>k .any x
def BF{f:Sh→Type→Type}(b:(s:Sh)→(R:Type)→f s R→(γ:Type)→(SV→R→γ)→γ):(l:List Sh)→(R:Type)→DF f l R→(γ:Type)→(List SV→R→γ)→γ
 | [],R,x,γ,k=>k [] x
 | s::l,R,x,γ,k=>b s (DF f l R) x γ fun v r=>BF b l R r γ fun a r=>k (v::a) r
def recB:(d:Nat)→BL (recD d)
 | 0=>fun _ R x γ k=>k [] x
 | d+1=>BF (f:=fun s R=>s.L R (recD d)) (bldS (recD d) (recB d))
def bld(d:Nat)(s:Sh)(R:Type)(x:s.D d R)(γ:Type)(k:SV→R→γ):γ:=bldS (recD d) (recB d) s R x γ k
abbrev ML(rc:List Sh→Type→Type):=(l:List Sh)→List SV→Option ((R:Type)→R→rc l R)
def matS(rc:List Sh→Type→Type)(m:ML rc)(s:Sh)(v:SV):Option ((R:Type)→R→s.L R rc):=match s with
 | .int k=>match v with
  | .v (.int d x)=>if d=k then some fun _ r=>(x,r)else none
  | _=>none
 | .bool=>match v with
  | .v (.bool x)=>some fun _ r=>(x,r)
  | _=>none
 | .str=>match v with
  | .v (.string x)=>some fun _ r=>(x,r)
  | _=>none
 | .sl T=>match v with
  | .sl p l=>if h:p=T then some fun _ r=>(h▸l,r)else none
  | _=>none
 | .ep T o=>match v with
  | .ep p x j=>if h:p=T then(if j=o then some fun _ r=>(h▸x,r)else none)else none
  | _=>none
 | .rp b n o=>match v with
  | .rp b' i t j=>if b'=b∧t=n∧j=o then some fun _ r=>(i,r)else none
  | _=>none
 | .p0 b k=>match v with
  | .part b' 0 n d=>if b'=b∧d=k then some fun _ r=>(n,r)else none
  | _=>none
 | .p1 b k=>match v with
  | .part b' q n d=>if b'=b∧d=k then some fun _ r=>(q,n,r)else none
  | _=>none
 | .q1 b k=>match v with
  | .ptc b' q n d=>if b'=b∧d=k then some fun _ r=>(q,n,r)else none
  | _=>none
 | .agg l=>match v with
  | .agg e=>m l e
  | _=>none
 | .tup l=>match v with
  | .tup e=>m l e
  | _=>none
 | .fn g f c=>match v with
  | .fn w u e=>if w=g then(match m f u with
   | some a=>match m c e with
    | some b=>some fun R r=>a _ (b R r)
    | none=>none
   | none=>none)else none
  | _=>none
 | .ptr b o=>match v with
  | .ptr b' j=>if b'=b∧j=o then some fun _ r=>r else none
  | _=>none
 | .row b=>match v with
  | .row b'=>if b'=b then some fun _ r=>r else none
  | _=>none
 | .mp b=>match v with
  | .mp b'=>if b'=b then some fun _ r=>r else none
  | _=>none
 | .csl b n k=>match v with
  | .csl b' t d=>if b'=b∧t=n∧d=k then some fun _ r=>r else none
  | _=>none
 | .yld i=>match v with
  | .yld y=>if y=i then some fun _ r=>r else none
  | _=>none
 | .nil=>match v with
  | .v (.slice none 0 0)=>some fun _ r=>r
  | _=>none
 | .nilp=>match v with
  | .v (.pointer none)=>some fun _ r=>r
  | _=>none
 | .nilf=>match v with
  | .v .nilFunc=>some fun _ r=>r
  | _=>none
 | .nilm=>match v with
  | .v (.map none)=>some fun _ r=>r
  | _=>none
 | .nili=>match v with
  | .v .nilIface=>some fun _ r=>r
  | _=>none
 | .any=>match v with
  | .any=>some fun _ r=>r
  | _=>none
def MF{f:Sh→Type→Type}(m:(s:Sh)→SV→Option ((R:Type)→R→f s R)):(l:List Sh)→List SV→Option ((R:Type)→R→DF f l R)
 | [],ss=>match ss with
  | []=>some fun _ r=>r
  | _::_=>none
 | s::l,ss=>match ss with
  | []=>none
  | v::vs=>match m s v with
   | some a=>match MF m l vs with
    | some g=>some fun R r=>a _ (g R r)
    | none=>none
   | none=>none
def recM:(d:Nat)→ML (recD d)
 | 0=>fun _ _=>none
 | d+1=>MF (f:=fun s R=>s.L R (recD d)) (matS (recD d) (recM d))
def mat(d:Nat)(s:Sh)(v:SV):Option ((R:Type)→R→s.D d R):=matS (recD d) (recM d) s v
def LOK{rc:List Sh→Type→Type}(m:ML rc)(b:BL rc):Prop:=∀ l a f,m l a=some f→∀ (R:Type) (r:R) (γ:Type) (k:List SV→R→γ),b l R (f R r) γ k=k a r
def matS_bldS{rc:List Sh→Type→Type}{m:ML rc}{b:BL rc}(d:LOK m b)(s:Sh)(v:SV)(f:(R:Type)→R→s.L R rc)(h:matS rc m s v=some f)(R:Type)(r:R)(γ:Type)(k:SV→R→γ):bldS rc b s R (f R r) γ k=k v r:=by
 cases s with
 | agg l =>
  simp only[matS]at h;split at h
  ·rename_i c;simp only[bldS];rw[d l c f h R r]
  ·cases h
 | tup l =>
  simp only[matS]at h;split at h
  ·rename_i c;simp only[bldS];rw[d l c f h R r]
  ·cases h
 | fn g i cl =>
  simp only[matS]at h;split at h
  ·rename_i u j c;split at h
   ·rename_i q;split at h
    ·rename_i a n;split at h
     ·rename_i b' p;cases h;simp only[bldS];rw[d i j a n _ (b' R r),d cl c b' p R r,q]
     ·cases h
    ·cases h
   ·cases h
  ·cases h
 | sl T =>
  simp only[matS]at h;split at h
  ·split at h
   ·rename_i e;subst e;cases h;rfl
   ·cases h
  ·cases h
 | ep T o =>
  simp only[matS]at h;split at h
  ·split at h
   ·rename_i e;subst e;split at h
    ·rename_i t;cases h;simp only[bldS];rw[t]
    ·cases h
   ·cases h
  ·cases h
 | nil =>
  simp only[matS]at h;split at h
  ·cases h;rfl
  ·cases h
 | nilp =>
  simp only[matS]at h;split at h
  ·cases h;rfl
  ·cases h
 | nilf =>
  simp only[matS]at h;split at h
  ·cases h;rfl
  ·cases h
 | nilm =>
  simp only[matS]at h;split at h
  ·cases h;rfl
  ·cases h
 | nili =>
  simp only[matS]at h;split at h
  ·cases h;rfl
  ·cases h
 | any =>
  simp only[matS]at h;split at h
  ·cases h;rfl
  ·cases h
 | bool =>
  simp only[matS]at h;split at h
  ·cases h;rfl
  ·cases h
 | str =>
  simp only[matS]at h;split at h
  ·cases h;rfl
  ·cases h
 | _ =>
  simp only[matS]at h;split at h
  ·split at h
   ·rename_i w;cases h;simp_all [bldS]
   ·cases h
  ·cases h
def MF_BF{f:Sh→Type→Type}{m:(s:Sh)→SV→Option ((R:Type)→R→f s R)}{b:(s:Sh)→(R:Type)→f s R→(γ:Type)→(SV→R→γ)→γ}(h:∀ s v a,m s v=some a→∀ (R:Type) (r:R) (γ:Type) (k:SV→R→γ),b s R (a R r) γ k=k v r):
  ∀ (l:List Sh) (c:List SV) (g:(R:Type)→R→DF f l R),MF m l c=some g→∀ (R:Type) (r:R) (γ:Type) (k:List SV→R→γ),BF b l R (g R r) γ k=k c r
 | [],c,f,hf,R,r,γ,k=>by
  simp only[MF]at hf;split at hf
  ·cases hf;rfl
  ·cases hf
 | s::l,c,f,hf,R,r,γ,k=>by
  simp only[MF]at hf;split at hf
  ·cases hf
  ·rename_i v d;split at hf
   ·rename_i e i;split at hf
    ·rename_i g j;cases hf;simp only[BF];rw[h s v e i _ (g R r),MF_BF h l d g j R r]
    ·cases hf
   ·cases hf
def recM_ok:∀ d,LOK (recM d) (recB d)
 | 0=>fun l b f h=>by cases h
 | d+1=>fun l b f h R r γ k=>MF_BF (f:=fun s R=>s.L R (recD d)) (fun s v a c R r γ k=>matS_bldS (recM_ok d) s v a c R r γ k) l b f h R r γ k
def mat_bld(d:Nat)(s:Sh)(v:SV)(f:(R:Type)→R→s.D d R)(h:mat d s v=some f)(R:Type)(r:R)(γ:Type)(k:SV→R→γ):bld d s R (f R r) γ k=k v r:=matS_bldS (recM_ok d) s v f h R r γ k
inductive ShT where
 | a (n:Nat)
 | s (x:Sh)
def anyN:Nat→List SV→List SV
 | 0,l=>l
 | n+1,l=>.any::anyN n l
def dropAny:Nat→List SV→Option (List SV)
 | 0,l=>some l
 | n+1,l=>match l with
  | .any::l=>dropAny n l
  | _=>none
def dropAny_spec:∀ (n:Nat) (l m:List SV),dropAny n l=some m→l=anyN n m
 | 0,l,m,h=>by simp only[dropAny,y8.injEq]at h;exact h
 | n+1,l,m,h=>by
  simp only[dropAny]at h;split at h
  ·rw[anyN,←dropAny_spec n _ _ h]
  ·cases h
@[reducible] def DT : List ShT → Type → Type
 | [],R=>R
 | .a _::l,R=>DT l R
 | .s x::l,R=>Sh.D 5 x (DT l R)
def bldT:(l:List ShT)→(R:Type)→DT l R→(γ:Type)→(List SV→R→γ)→γ
 | [],R,x,γ,k=>k [] x
 | .a n::l,R,x,γ,k=>bldT l R x γ fun b r=>k (anyN n b) r
 | .s h::l,R,x,γ,k=>bld 5 h (DT l R) x γ fun v r=>bldT l R r γ fun b r=>k (v::b) r
def matT:(l:List ShT)→List SV→Option ((R:Type)→R→DT l R)
 | [],ss=>match ss with
  | []=>some fun _ r=>r
  | _::_=>none
 | .a n::l,ss=>match dropAny n ss with
  | some ss=>matT l ss
  | none=>none
 | .s h::l,ss=>match ss with
  | []=>none
  | v::vs=>match mat 5 h v with
   | some f=>match matT l vs with
    | some g=>some fun R r=>f _ (g R r)
    | none=>none
   | none=>none
def matT_bldT:∀ (l:List ShT) (b:List SV) (f:(R:Type)→R→DT l R),matT l b=some f→∀ (R:Type) (r:R) (γ:Type) (k:List SV→R→γ),bldT l R (f R r) γ k=k b r
 | [],b,f,hf,R,r,γ,k=>by
  simp only[matT]at hf;split at hf
  ·cases hf;rfl
  ·cases hf
 | .a n::l,b,f,hf,R,r,γ,k=>by
  simp only[matT]at hf;split at hf
  ·rename_i ss h;simp only[bldT];rw[matT_bldT l ss f hf R r,dropAny_spec _ _ _ h]
  ·cases hf
 | .s h::l,b,f,hf,R,r,γ,k=>by
  simp only[matT]at hf;split at hf
  ·cases hf
  ·rename_i v c;split at hf
   ·rename_i d e;split at hf
    ·rename_i g i;cases hf;simp only[bldT];rw[mat_bld 5 h v d e (DT l R) (g R r),matT_bldT l c g i R r]
    ·cases hf
   ·cases hf
inductive ShK where
 | no
 | cells (l:List ShT) (t:TypeId)
 | row (T:Ty) (t:TypeId) (fz:Bool)
 | rnd (l:List ShT) (g:FuncId) (li:Nat) (st:LoopState) (pd:Option Code)
 | dead
 | gone
 | map (k:IntKind) (is:List Int) (l:List ShT) (p:Nat)
 | iter (mb n:Nat)
@[reducible] def DK : ShK → Type → Type
 | .cells l _,R=>DT l R
 | .row T _ _,R=>List T.α×R
 | .rnd l _ _ _ _,R=>DT l R
 | .map _ _ l _,R=>DT l R
 | .iter _ _,R=>List Nat×R
 | _,R=>R
def bldK(b:ShK)(R:Type)(x:DK b R)(γ:Type)(k:Option Blk→R→γ):γ:=match b,x with
 | .no,x=>k none x
 | .cells l t,x=>bldT l R x γ fun a r=>k (some (.cells a t)) r
 | .row T t fz,x=>x.rec fun l r=>k (some (.row T l t fz)) r
 | .rnd l g li st pd,x=>bldT l R x γ fun a r=>k (some (.rnd ⟨a,g,li,st,pd⟩)) r
 | .dead,x=>k (some .dead) x
 | .gone,x=>k (some .gone) x
 | .map kd is l p,x=>bldT l R x γ fun a r=>k (some (.map kd (is.zip a) p)) r
 | .iter mb n,x=>x.rec fun l r=>k (some (.iter mb n l none)) r
def keysI:List Int→List (Int×SV)→Option (List SV)
 | [],es=>match es with
  | []=>some []
  | _::_=>none
 | i::is,es=>match es with
  | []=>none
  | e::es=>if e.1=i then(keysI is es).map (e.2::·)else none
def keysI_spec:∀ (b:List Int) (a:List (Int×SV)) (l:List SV),keysI b a=some l→a=b.zip l
 | [],a,l,h=>by
  simp only[keysI]at h;split at h
  ·cases h;rfl
  ·cases h
 | i::b,a,l,h=>by
  simp only[keysI]at h;split at h
  ·cases h
  ·rename_i e c;split at h
   ·rename_i f;obtain⟨g,d,rfl⟩:=tF.1 h;rw[List.zip_cons_cons,←keysI_spec b c g d,←f]
   ·cases h
def matK:(b:ShK)→Option Blk→Option ((R:Type)→R→DK b R)
 | .no,o=>match o with
  | none=>some fun _ r=>r
  | some _=>none
 | .cells l t,o=>match o with
  | some (.cells cs t')=>if t'=t then matT l cs else none
  | _=>none
 | .row T t fz,o=>match o with
  | some (.row T' l t' fz')=>if h:T'=T then(if t'=t∧fz'=fz then some fun _ r=>(h▸l,r)else none)else none
  | _=>none
 | .rnd l g li st pd,o=>match st,pd with
  | .ready,none=>match o with
   | some (.rnd r)=>match r with
    | ⟨ts,g',li',.ready,none⟩=>if g'=g∧li'=li then matT l ts else none
    | _=>none
   | _=>none
  | _,_=>none
 | .dead,o=>match o with
  | some .dead=>some fun _ r=>r
  | _=>none
 | .gone,o=>match o with
  | some .gone=>some fun _ r=>r
  | _=>none
 | .map k is l p,o=>match o with
  | some (.map k' es p')=>if k'=k∧p'=p then(match keysI is es with
   | some a=>matT l a
   | none=>none)else none
  | _=>none
 | .iter mb n,o=>match o with
  | some (.iter mb' n' sn none)=>if mb'=mb∧n'=n then some fun _ r=>(sn,r)else none
  | _=>none
def matK_bldK:∀ (b:ShK) (o:Option Blk) (f:(R:Type)→R→DK b R),matK b o=some f→∀ (R:Type) (r:R) (γ:Type) (k:Option Blk→R→γ),bldK b R (f R r) γ k=k o r:=by
 intro b o f h R r γ k;cases b with
 | cells l t =>
  simp only[matK]at h;split at h
  ·rename_i i w;split at h
   ·rename_i a;simp only[bldK];rw[matT_bldT l i f h R r,a]
   ·cases h
  ·cases h
 | row T t fz =>
  simp only[matK]at h;split at h
  ·rename_i y l w j;split at h
   ·rename_i m;subst m;split at h
    ·rename_i a;cases h;simp only[bldK];rw[a.1,a.2]
    ·cases h
   ·cases h
  ·cases h
 | rnd l g D H F =>
  simp only[matK]at h;split at h
  ·split at h
   ·rename_i q;split at h
    ·rename_i ts A u;split at h
     ·rename_i d;simp only[bldK];rw[matT_bldT l ts f h R r,d.1,d.2]
     ·cases h
    ·cases h
   ·cases h
  ·cases h
 | map k B l p =>
  simp only[matK]at h;split at h
  ·rename_i C z p';split at h
   ·rename_i e;split at h
    ·rename_i x s;simp only[bldK];rw[matT_bldT l x f h R r,e.1,e.2,keysI_spec _ _ _ s]
    ·cases h
   ·cases h
  ·cases h
 | iter mb n =>
  simp only[matK]at h;split at h
  ·rename_i v E G;split at h
   ·rename_i c;cases h;simp only[bldK];rw[c.1,c.2]
   ·cases h
  ·cases h
 | _=>simp only[matK]at h<;>split at h<;>first | (cases h;rfl) | cases h
@[reducible] def DM : List ShK → Type → Type
 | [],R=>R
 | b::l,R=>DK b (DM l R)
def bldM:(l:List ShK)→(R:Type)→DM l R→(γ:Type)→(Mem→R→γ)→γ
 | [],R,x,γ,k=>k [] x
 | b::l,R,x,γ,k=>bldK b (DM l R) x γ fun v r=>bldM l R r γ fun a r=>k (v::a) r
def matM:(l:List ShK)→Mem→Option ((R:Type)→R→DM l R)
 | [],ss=>match ss with
  | []=>some fun _ r=>r
  | _::_=>none
 | b::l,ss=>match ss with
  | []=>none
  | v::vs=>match matK b v with
   | some f=>match matM l vs with
    | some g=>some fun R r=>f _ (g R r)
    | none=>none
   | none=>none
def matM_bldM:∀ (l:List ShK) (a:Mem) (f:(R:Type)→R→DM l R),matM l a=some f→∀ (R:Type) (r:R) (γ:Type) (k:Mem→R→γ),bldM l R (f R r) γ k=k a r
 | [],a,f,hf,R,r,γ,k=>by
  simp only[matM]at hf;split at hf
  ·cases hf;rfl
  ·cases hf
 | b::l,a,f,hf,R,r,γ,k=>by
  simp only[matM]at hf;split at hf
  ·cases hf
  ·rename_i v c;split at hf
   ·rename_i d e;split at hf
    ·rename_i g h;cases hf;simp only[bldM];rw[matK_bldK b v d e (DM l R) (g R r),matM_bldM l c g h R r]
    ·cases hf
   ·cases hf
structure ShS where
 t:List ShT
 m:List ShK
@[reducible] def ShS.D (s : ShS) : Type := DT s.t (DM s.m Unit)
def ShS.b(s:ShS)(x:s.D):St:=bldT s.t (DM s.m Unit) x St fun ts r=>bldM s.m Unit r St fun mem _=>(ts,mem)
def ShS.m?(s:ShS)(a:St):Option s.D:=match matT s.t a.1 with
 | some f=>match matM s.m a.2 with
  | some g=>some (f _ (g Unit ()))
  | none=>none
 | none=>none
def ShS.m?_spec{s:ShS}{a:St}{x:s.D}(h:s.m? a=some x):a=s.b x:=by
 unfold ShS.m? at h;split at h
 ·rename_i f c;split at h
  ·rename_i g d;cases h;unfold ShS.b;rw[matT_bldT _ _ f c,matM_bldM _ _ g d]
  ·cases h
 ·cases h
end
abbrev Ok(g:FuncId)(E:Entry):Prop:=EntryOK y5 TabG g E
def kxF:Nat→Nat→List Nat→List Nat
 | 0,_,_=>[]
 | f+1,i,ks=>match ks with
  | []=>i::kxF f (i+1) []
  | k::ks=>bif nA i k then kxF f (i+1) ks else i::kxF f (i+1) (k::ks)
def kx(n:Nat)(l:List Nat):List Nat:=kxF n 0 l
def annOf:List (Nat×Nr×Nr)→Nat→Nr×Nr
 | [],_=>(⟨[],[],[]⟩,⟨[],[],[]⟩)
 | p::l,li=>bif li==p.1 then p.2 else annOf l li
def annsL:List (FuncId×FA)→FuncId→FA
 | [],_=>FA.none
 | p::l,g=>bif g==p.1 then p.2 else annsL l g
def aoN:AnnsOK y5 TabG (annsL []):=fun g s h=>by cases h
def aoS{g:FuncId}{a:FA}{l:List (FuncId×FA)}(h:∀ s,a.spc=some s→SpkOK y5 TabG s g)(d:AnnsOK y5 TabG (annsL l)):AnnsOK y5 TabG (annsL ((g,a)::l)):=by
 intro c s b;simp only[annsL]at b;by_cases e:c=g
 ·subst e;simp only[BEq.rfl,cond_true]at b;exact h s b
 ·rw[show(c==g)=false from by simpa using e,cond_false]at b;exact d c s b
def aoC{g:FuncId}{n:List (Nat×Nr×Nr)}{i:List Nat}{l:List (FuncId×FA)}(a:AnnsOK y5 TabG (annsL l)):AnnsOK y5 TabG (annsL ((g,⟨annOf n,none,i⟩)::l)) :=
 aoS (fun s h=>by cases h) a
def aoP{g:FuncId}{n:List (Nat×Nr×Nr)}{i:List Nat}{s:Spk}{l:List (FuncId×FA)}(h:SpkOK y5 TabG s g)(b:AnnsOK y5 TabG (annsL l)):AnnsOK y5 TabG (annsL ((g,⟨annOf n,some s,i⟩)::l)) :=
 aoS (fun c a=>by cases a;exact h) b
section
variable (an:FuncId→FA)(ls:List (Nat×FuncId×Sums))(tb:List (FuncId×Entry))(lf:Nat)
noncomputable def drG (ρ:Type):Draws ρ:=drawA y5 (lookT tb) 0 fun n=>clQ y5 an (lookT tb) (lf+40) 14 6 n ρ
noncomputable def itG {ρ:Type} (b g a j:Nat) (sg:Sums) (n:Nat) (c:St) (k:KE ρ):Option ρ :=
 iterK (nrmS 0 ((an g).ann a).1 j) (nrmS 0 ((an g).ann a).2 j) (codeK y5 g (an g).ann sg (drG an tb lf ρ) (goK true y5 an (lsOf ls) (drG an tb lf ρ) (lookT tb) 0 (lf+40) b) 0 (lf+40) none (a+1) (loopP y5 g a)) n c k
def sumE(a:ShS)(f:a.D→LTE):St→Option LTE:=fun b=>(a.m? b).map f
def sumsL:List (Nat×(St→Option LTE))→Nat→St→Option LTE
 | [],_,_=>none
 | p::l,li,st=>bif li==p.1 then(match p.2 st with
  | some T=>some T
  | none=>sumsL l li st)else sumsL l li st
def LA(b g:Nat)(sg:Sums)(l:List (Nat×(St→Option LTE))):Prop :=
 ∀ p∈l,∀ (ρ:Type) (a:St) (T:LTE),p.2 a=some T→∀ (k:KE ρ) (r:ρ),bd T.x (fun y=>altK k (T.out y))=some r→itG an ls tb lf b g p.1 (a.2.length-((an g).ann p.1).1.acc.length) sg (lf+40) a k=some r
def SL(q:List (Nat×FuncId×Sums)):Prop:=∀ p∈q,∃ l,p.2.2=sumsL l∧LA an ls tb lf p.1 p.2.1 p.2.2 l
variable {an ls tb lf}
def laN{b g:Nat}{sg:Sums}:LA an ls tb lf b g sg []:=fun p a=>by cases a
def laC{m g i j:Nat}{sg:Sums}{a:ShS}{f:a.D→LTE}{l:List (Nat×(St→Option LTE))}(o:∀ x:a.D,(a.b x).2.length-((an g).ann i).1.acc.length=j)
  (h:∀ (ρ:Type) (x:a.D) (k:KE ρ),LeO (bd (f x).x fun y=>altK k ((f x).out y)) (itG an ls tb lf m g i j sg (lf+40) (a.b x) k)) (q:LA an ls tb lf m g sg l):LA an ls tb lf m g sg ((i,sumE a f)::l):=by
 intro p d ρ t T c k r n;rcases ww.1 d with rfl | d
 ·simp only[sumE]at c;obtain⟨x,s,rfl⟩:=tF.1 c;have e:=ShS.m?_spec s;subst e;rw[o];exact h ρ x k r n
 ·exact q p d ρ t T c k r n
def slN:SL an ls tb lf []:=fun p a=>by cases a
def slC{b g:Nat}{l:List (Nat×(St→Option LTE))}{q:List (Nat×FuncId×Sums)}(h:LA an ls tb lf b g (sumsL l) l)(c:SL an ls tb lf q):SL an ls tb lf ((b,g,sumsL l)::q):=by
 intro p a;rcases ww.1 a with rfl | a
 ·exact⟨l,rfl,h⟩
 ·exact c p a
def zf:∀ {l:List (Nat×(St→Option LTE))} {a:Nat} {e:St} {T:LTE},sumsL l a e=some T→∃ p∈l,p.1=a∧p.2 e=some T
 | p::l,a,e,T,h=>by
  simp only[sumsL]at h;cases d:a==p.1 with
  | true =>
   rw[d,cond_true]at h;split at h
   ·rename_i g f;cases h;exact⟨p,uL ..,(by simpa using d:a=p.1).symm,f⟩
   ·obtain⟨q,b,c⟩:=zf h;exact⟨q,s9 _ b,c⟩
  | false =>
   rw[d,cond_false]at h;obtain⟨q,b,c⟩:=zf h;exact⟨q,s9 _ b,c⟩
def sumsG(h:SL an ls tb lf ls)(ρ:Type):SumsOK true ρ y5 an (lsOf ls) (drG an tb lf ρ) (lookT tb) 0 (lf+40):=by
 refine sumsOK_of rfl fun p g i j T a k r d=>?_;obtain⟨l,e,f⟩:=h p g;rw[e]at a;obtain⟨q,b,rfl,c⟩:=zf a;exact f q b ρ j T c k r d
def okL(b:TabOK y5 TabG (lookT tb))(a:AnnsOK y5 TabG an)(c:SL an ls tb lf ls){g:FuncId}{E:Entry}
  (h:∀ x,E.f x=runQ y5 an (lsOf ls) (lookT tb) (lf+40) 14 6 g E.ps E.rs x):Ok g E:=entryL b a (sumsG c _) h
def okT(b:TabOK y5 TabG (lookT tb))(a:AnnsOK y5 TabG an){g:FuncId}{E:Entry}
  (h:∀ x,E.f x=runQ y5 an noLs (lookT tb) (lf+40) 14 6 g E.ps E.rs x):Ok g E:=entryT b a h
def fo(lf:Nat){tb:List (FuncId×Entry)}(a:TabOK y5 TabG (lookT tb)){g:FuncId}{E:Entry}(h:∀ x,E.f x=runQ y5 (annsL []) noLs (lookT tb) (lf+40) 14 6 g E.ps E.rs x):Ok g E:=okT (an:=annsL []) (lf:=lf) a aoN h
def okZ{g:FuncId}{E:Entry}(h:∀ x,E.f x=none):Ok g E:=fun x y a=>by rw[h x]at a;cases a
def tN:TabOK y5 TabG (lookT []):=afD
def tC{g:FuncId}{E:Entry}{l:List (FuncId×Entry)}(h:Ok g E)(a:TabOK y5 TabG (lookT l)):TabOK y5 TabG (lookT ((g,E)::l)):=ad7 h a
def dJ{ρ:Type}{a b:Option ρ}(h:b=a):LeO a b:=fun r c=>h.trans c
end
end Go.Q
/-
 DERIVED: THE SHELF's CONTRACTS AT THIS DUMP, IN PLAIN WORDS (tools/lay-plain.mjs out of 'TryzShelf.lean', which tools/lay-shelf.mjs wrote): THE SAME DECLARATIONS UNDER THE SAME NAMES: 'import', 'namespace', 'open', 'def', 'theorem' AND NOTHING ELSE: no command of the shelf's: FOR A HAND-IN. Each laying: the table of numbers ('.._ren') and one theorem, a field a fact of the dump's own or the kernel's comparison; each contract: ONE APPLICATION.
-/
namespace Go.Proofs
open Go.Shelf
def Tryz.adt:Go.Shelf.Ren:=⟨fun | 172=>363 | 244=>372 | 245=>373 | 247=>383 | 279=>384 | 280=>385 | 281=>386 | 282=>387 | 287=>394 | 316=>395 | 171=>325 | 205=>396 | 321=>400 | 322=>401 | 243=>351 | 246=>365 | 283=>374 | 284=>375 | 285=>376 | 286=>377 | 129=>389 | 317=>388 | 318=>390 | 319=>391 | 320=>392 | 337=>397 | 338=>398 | n=>n,fun | 9=>9 | 3=>3 | 75=>274 | 76=>280 | 4=>4 | 5=>5 | 167=>336 | 37=>266 | 0=>0 | 85=>337 | 2=>2 | 168=>339 | 53=>317 | 175=>346 | 46=>299 | 210=>350 | 127=>303 | 145=>356 | 143=>354 | 21=>21 | 171=>322 | 173=>325 | 212=>343 | 51=>314 | 20=>20 | 213=>344 | 232=>357 | 233=>358 | 80=>283 | n=>n,fun | 15=>5 | 16=>6 | 17=>3 | 18=>7 | 19=>8 | n=>n⟩
def Tryz.lays172:Go.Proofs.Lays.n172 Tryz.prog Tryz.adt:={
 mixed:=θ
 f129:=Tryz.func389.trans (congrArg some θ)
 f171:=Tryz.func325.trans (congrArg some θ)
 f172:=Tryz.func363.trans (congrArg some θ)
 f205:=Tryz.func396.trans (congrArg some θ)
 f243:=Tryz.func351.trans (congrArg some θ)
 f244:=Tryz.func372.trans (congrArg some θ)
 f245:=Tryz.func373.trans (congrArg some θ)
 f246:=Tryz.func365.trans (congrArg some θ)
 f247:=Tryz.func383.trans (congrArg some θ)
 f279:=Tryz.func384.trans (congrArg some θ)
 f280:=Tryz.func385.trans (congrArg some θ)
 f281:=Tryz.func386.trans (congrArg some θ)
 f282:=Tryz.func387.trans (congrArg some θ)
 f283:=Tryz.func374.trans (congrArg some θ)
 f284:=Tryz.func375.trans (congrArg some θ)
 f285:=Tryz.func376.trans (congrArg some θ)
 f286:=Tryz.func377.trans (congrArg some θ)
 f287:=Tryz.func394.trans (congrArg some θ)
 f316:=Tryz.func395.trans (congrArg some θ)
 f317:=Tryz.func388.trans (congrArg some θ)
 f318:=Tryz.func390.trans (congrArg some θ)
 f319:=Tryz.func391.trans (congrArg some θ)
 f320:=Tryz.func392.trans (congrArg some θ)
 f321:=Tryz.func400.trans (congrArg some θ)
 f322:=Tryz.func401.trans (congrArg some θ)
 f337:=Tryz.func397.trans (congrArg some θ)
 f338:=Tryz.func398.trans (congrArg some θ)
 t0:=Tryz.underlying0
 a0:=Tryz.isAgg0
 z0:=Tryz.sizeOf0
 v0:=Tryz.zeroValue0
 t2:=Tryz.underlying2
 a2:=Tryz.isAgg2
 z2:=Tryz.sizeOf2
 v2:=Tryz.zeroValue2
 t3:=Tryz.underlying3
 a3:=Tryz.isAgg3
 z3:=Tryz.sizeOf3
 v3:=Tryz.zeroValue3
 t4:=Tryz.underlying4
 a4:=Tryz.isAgg4
 z4:=Tryz.sizeOf4
 v4:=Tryz.zeroValue4
 t5:=Tryz.underlying5
 a5:=Tryz.isAgg5
 z5:=Tryz.sizeOf5
 v5:=Tryz.zeroValue5
 t9:=Tryz.underlying9
 a9:=Tryz.isAgg9
 z9:=Tryz.sizeOf9
 v9:=Tryz.zeroValue9
 t20:=Tryz.underlying20
 a20:=Tryz.isAgg20
 z20:=Tryz.sizeOf20
 v20:=Tryz.zeroValue20
 t21:=Tryz.underlying21
 a21:=Tryz.isAgg21
 z21:=Tryz.sizeOf21
 v21:=Tryz.zeroValue21
 t37:=Tryz.underlying266
 a37:=Tryz.isAgg266
 z37:=Tryz.sizeOf266
 v37:=Tryz.zeroValue266
 t46:=Tryz.underlying299
 a46:=Tryz.isAgg299
 z46:=Tryz.sizeOf299
 v46:=Tryz.zeroValue299
 t51:=Tryz.underlying314
 a51:=Tryz.isAgg314
 z51:=Tryz.sizeOf314
 v51:=Tryz.zeroValue314
 t53:=Tryz.underlying317
 a53:=Tryz.isAgg317
 z53:=Tryz.sizeOf317
 v53:=Tryz.zeroValue317
 t75:=Tryz.underlying274
 a75:=Tryz.isAgg274
 z75:=Tryz.sizeOf274
 v75:=Tryz.zeroValue274
 t76:=Tryz.underlying280
 a76:=Tryz.isAgg280
 z76:=Tryz.sizeOf280
 v76:=Tryz.zeroValue280
 t85:=Tryz.underlying337
 a85:=Tryz.isAgg337
 z85:=Tryz.sizeOf337
 v85:=Tryz.zeroValue337
 t127:=Tryz.underlying303
 a127:=Tryz.isAgg303
 z127:=Tryz.sizeOf303
 v127:=Tryz.zeroValue303
 t143:=Tryz.underlying354
 a143:=Tryz.isAgg354
 z143:=Tryz.sizeOf354
 v143:=Tryz.zeroValue354
 t145:=Tryz.underlying356
 a145:=Tryz.isAgg356
 z145:=Tryz.sizeOf356
 v145:=Tryz.zeroValue356
 t167:=Tryz.underlying336
 a167:=Tryz.isAgg336
 z167:=Tryz.sizeOf336
 v167:=Tryz.zeroValue336
 t168:=Tryz.underlying339
 a168:=Tryz.isAgg339
 z168:=Tryz.sizeOf339
 v168:=Tryz.zeroValue339
 t171:=Tryz.underlying322
 a171:=Tryz.isAgg322
 z171:=Tryz.sizeOf322
 v171:=Tryz.zeroValue322
 t173:=Tryz.underlying325
 a173:=Tryz.isAgg325
 z173:=Tryz.sizeOf325
 v173:=Tryz.zeroValue325
 t175:=Tryz.underlying346
 a175:=Tryz.isAgg346
 z175:=Tryz.sizeOf346
 v175:=Tryz.zeroValue346
 t210:=Tryz.underlying350
 a210:=Tryz.isAgg350
 z210:=Tryz.sizeOf350
 v210:=Tryz.zeroValue350
 t212:=Tryz.underlying343
 a212:=Tryz.isAgg343
 z212:=Tryz.sizeOf343
 v212:=Tryz.zeroValue343
 t213:=Tryz.underlying344
 a213:=Tryz.isAgg344
 z213:=Tryz.sizeOf344
 t232:=Tryz.underlying357
 a232:=Tryz.isAgg357
 z232:=Tryz.sizeOf357
 v232:=Tryz.zeroValue357
 t233:=Tryz.underlying358
 a233:=Tryz.isAgg358
 z233:=Tryz.sizeOf358
 v233:=Tryz.zeroValue358
 g15:=θ
 g16:=θ
 g17:=θ
 g18:=θ
 g19:=by kernel_rfl }
open Go.RowKit in
def Tryz.strconv_Atoi(s:ByteArray)(n:Int)(a:s.size≤18)(h:Lib.atoi s.data.toList=some n)(w:World):
  Calls Tryz.prog 363 #[.string s] w fun e b=>e=.returned (.tuple #[.int .i64 n,.nilIface])∧∃ t,b=Lib.bytesWorld w 5 t:=Any.strconv_Atoi Tryz.lays172 s n a h w
def Tryz.acw:Go.Shelf.Ren:=⟨fun | 171=>325 | 243=>351 | 246=>365 | 283=>374 | 284=>375 | 285=>376 | 286=>377 | 129=>389 | 317=>388 | 318=>390 | 319=>391 | 320=>392 | 337=>397 | 338=>398 | n=>n,fun | 3=>3 | 9=>9 | 2=>2 | 4=>4 | 171=>322 | 0=>0 | 53=>317 | 37=>266 | 5=>5 | 173=>325 | 212=>343 | 51=>314 | 20=>20 | 213=>344 | 46=>299 | 232=>357 | 233=>358 | n=>n,fun | 17=>3 | 18=>7 | 19=>8 | n=>n⟩
def Tryz.laysM171:Go.Proofs.LaysM.n171 Tryz.prog Tryz.acw:={
 mixed:=θ
 f129:=Tryz.func389.trans (congrArg some θ)
 f171:=Tryz.func325.trans (congrArg some θ)
 f243:=Tryz.func351.trans (congrArg some θ)
 f246:=Tryz.func365.trans (congrArg some θ)
 f283:=Tryz.func374.trans (congrArg some θ)
 f284:=Tryz.func375.trans (congrArg some θ)
 f285:=Tryz.func376.trans (congrArg some θ)
 f286:=Tryz.func377.trans (congrArg some θ)
 f317:=Tryz.func388.trans (congrArg some θ)
 f318:=Tryz.func390.trans (congrArg some θ)
 f319:=Tryz.func391.trans (congrArg some θ)
 f320:=Tryz.func392.trans (congrArg some θ)
 f337:=Tryz.func397.trans (congrArg some θ)
 f338:=Tryz.func398.trans (congrArg some θ)
 t0:=Tryz.underlying0
 a0:=Tryz.isAgg0
 z0:=Tryz.sizeOf0
 v0:=Tryz.zeroValue0
 t2:=Tryz.underlying2
 a2:=Tryz.isAgg2
 z2:=Tryz.sizeOf2
 v2:=Tryz.zeroValue2
 t3:=Tryz.underlying3
 a3:=Tryz.isAgg3
 z3:=Tryz.sizeOf3
 v3:=Tryz.zeroValue3
 t4:=Tryz.underlying4
 a4:=Tryz.isAgg4
 z4:=Tryz.sizeOf4
 v4:=Tryz.zeroValue4
 t5:=Tryz.underlying5
 a5:=Tryz.isAgg5
 z5:=Tryz.sizeOf5
 v5:=Tryz.zeroValue5
 t9:=Tryz.underlying9
 a9:=Tryz.isAgg9
 z9:=Tryz.sizeOf9
 v9:=Tryz.zeroValue9
 t20:=Tryz.underlying20
 a20:=Tryz.isAgg20
 z20:=Tryz.sizeOf20
 v20:=Tryz.zeroValue20
 t37:=Tryz.underlying266
 a37:=Tryz.isAgg266
 z37:=Tryz.sizeOf266
 v37:=Tryz.zeroValue266
 t46:=Tryz.underlying299
 a46:=Tryz.isAgg299
 z46:=Tryz.sizeOf299
 v46:=Tryz.zeroValue299
 t51:=Tryz.underlying314
 a51:=Tryz.isAgg314
 z51:=Tryz.sizeOf314
 v51:=Tryz.zeroValue314
 t53:=Tryz.underlying317
 a53:=Tryz.isAgg317
 z53:=Tryz.sizeOf317
 v53:=Tryz.zeroValue317
 t171:=Tryz.underlying322
 a171:=Tryz.isAgg322
 z171:=Tryz.sizeOf322
 v171:=Tryz.zeroValue322
 t173:=Tryz.underlying325
 a173:=Tryz.isAgg325
 z173:=Tryz.sizeOf325
 v173:=Tryz.zeroValue325
 t212:=Tryz.underlying343
 a212:=Tryz.isAgg343
 z212:=Tryz.sizeOf343
 v212:=Tryz.zeroValue343
 t213:=Tryz.underlying344
 a213:=Tryz.isAgg344
 z213:=Tryz.sizeOf344
 t232:=Tryz.underlying357
 a232:=Tryz.isAgg357
 z232:=Tryz.sizeOf357
 v232:=Tryz.zeroValue357
 t233:=Tryz.underlying358
 a233:=Tryz.isAgg358
 z233:=Tryz.sizeOf358
 v233:=Tryz.zeroValue358
 g17:=θ
 g18:=θ
 g19:=θ
 i0:=θ
 i2:=θ
 i3:=θ
 i4:=θ
 i5:=θ
 i9:=θ
 i20:=θ
 i37:=θ
 i46:=θ
 i51:=θ
 i53:=θ
 i171:=θ
 i173:=θ
 i212:=θ
 i232:=θ
 i233:=θ
 m17:=θ
 m18:=θ
 m19:=by kernel_rfl }
open Go.RowKit Go.Sort Go.Lib in
def Tryz.strconv_Itoa(n:Int)(b: -9223372036854775808≤n)(c:n≤9223372036854775807)(w:World)(a:Lib.TabIs Tryz.prog w "internal/strconv.uint64pow10" .u64 Lib.pow10Tab) :
  Calls Tryz.prog 325 #[.int .i64 n] w fun e d=>e=.returned (.string ⟨(z7 n).toArray⟩)∧∃ k os,d=grow (w.drewN k) os:=Any.strconv_Itoa Tryz.laysM171 n b c w a
def Tryz.lays105_ren:Go.Shelf.Ren:=⟨fun | 105=>327 | 212=>352 | 99=>353 | 165=>354 | 166=>326 | 170=>355 | 169=>328 | 263=>366 | 264=>367 | 206=>343 | 240=>349 | 241=>368 | 276=>364 | 277=>378 | n=>n,fun | 9=>9 | 3=>3 | 4=>4 | 20=>20 | 0=>0 | 46=>299 | 109=>300 | 5=>5 | 72=>272 | 76=>280 | 51=>314 | 146=>315 | 53=>317 | 148=>318 | 70=>270 | 37=>266 | 75=>274 | 127=>303 | 164=>311 | 80=>283 | n=>n,fun | n=>n⟩
def Tryz.lays105:Go.Proofs.Lays.n105 Tryz.prog Tryz.lays105_ren:={
 mixed:=θ
 f99:=Tryz.func353.trans (congrArg some θ)
 f105:=Tryz.func327.trans (congrArg some θ)
 f165:=Tryz.func354.trans (congrArg some θ)
 f166:=Tryz.func326.trans (congrArg some θ)
 f169:=Tryz.func328.trans (congrArg some θ)
 f170:=Tryz.func355.trans (congrArg some θ)
 f206:=Tryz.func343.trans (congrArg some θ)
 f212:=Tryz.func352.trans (congrArg some θ)
 f240:=Tryz.func349.trans (congrArg some θ)
 f241:=Tryz.func368.trans (congrArg some θ)
 f263:=Tryz.func366.trans (congrArg some θ)
 f264:=Tryz.func367.trans (congrArg some θ)
 f276:=Tryz.func364.trans (congrArg some θ)
 f277:=Tryz.func378.trans (congrArg some θ)
 t0:=Tryz.underlying0
 a0:=Tryz.isAgg0
 z0:=Tryz.sizeOf0
 v0:=Tryz.zeroValue0
 t3:=Tryz.underlying3
 a3:=Tryz.isAgg3
 z3:=Tryz.sizeOf3
 v3:=Tryz.zeroValue3
 t4:=Tryz.underlying4
 a4:=Tryz.isAgg4
 z4:=Tryz.sizeOf4
 v4:=Tryz.zeroValue4
 t5:=Tryz.underlying5
 a5:=Tryz.isAgg5
 z5:=Tryz.sizeOf5
 v5:=Tryz.zeroValue5
 t9:=Tryz.underlying9
 a9:=Tryz.isAgg9
 z9:=Tryz.sizeOf9
 v9:=Tryz.zeroValue9
 t20:=Tryz.underlying20
 a20:=Tryz.isAgg20
 z20:=Tryz.sizeOf20
 v20:=Tryz.zeroValue20
 t37:=Tryz.underlying266
 a37:=Tryz.isAgg266
 z37:=Tryz.sizeOf266
 v37:=Tryz.zeroValue266
 t46:=Tryz.underlying299
 a46:=Tryz.isAgg299
 z46:=Tryz.sizeOf299
 v46:=Tryz.zeroValue299
 t51:=Tryz.underlying314
 a51:=Tryz.isAgg314
 z51:=Tryz.sizeOf314
 v51:=Tryz.zeroValue314
 t53:=Tryz.underlying317
 a53:=Tryz.isAgg317
 z53:=Tryz.sizeOf317
 v53:=Tryz.zeroValue317
 t70:=Tryz.underlying270
 a70:=Tryz.isAgg270
 z70:=Tryz.sizeOf270
 v70:=Tryz.zeroValue270
 t72:=Tryz.underlying272
 a72:=Tryz.isAgg272
 z72:=Tryz.sizeOf272
 v72:=Tryz.zeroValue272
 t75:=Tryz.underlying274
 a75:=Tryz.isAgg274
 z75:=Tryz.sizeOf274
 v75:=Tryz.zeroValue274
 t76:=Tryz.underlying280
 a76:=Tryz.isAgg280
 z76:=Tryz.sizeOf280
 v76:=Tryz.zeroValue280
 t109:=Tryz.underlying300
 a109:=Tryz.isAgg300
 z109:=Tryz.sizeOf300
 v109:=Tryz.zeroValue300
 t127:=Tryz.underlying303
 a127:=Tryz.isAgg303
 z127:=Tryz.sizeOf303
 v127:=Tryz.zeroValue303
 t146:=Tryz.underlying315
 a146:=Tryz.isAgg315
 z146:=Tryz.sizeOf315
 v146:=Tryz.zeroValue315
 t148:=Tryz.underlying318
 a148:=Tryz.isAgg318
 z148:=Tryz.sizeOf318
 v148:=Tryz.zeroValue318
 t164:=Tryz.underlying311
 a164:=Tryz.isAgg311
 z164:=Tryz.sizeOf311
 v164:=Tryz.zeroValue311 }
def Tryz.Builder_Extra_105:Builder.Extra Tryz.prog Tryz.lays105_ren:={
 sizeBuilder:=θ
 liesBuilder:=θ
 t5:=Tryz.underlying5
 a5:=Tryz.isAgg5
 z5:=Tryz.sizeOf5
 v5:=Tryz.zeroValue5
 infoByte:=θ
 cellsByte:=θ
 sizeByte:=θ
 neB5:=by decide }
open Go.RowKit Go.Lib in
def Tryz.strings_Repeat(s:ByteArray)(c:Nat)(w:World)(b:c≤9223372036854775807)(a:s.size*c≤140737488355328):
  Calls Tryz.prog 327 #[.string s,.int .i64 c] w fun e w'=>e=.returned (.string ⟨(Lib.repeatL s.data.toList c).toArray⟩)∧Below w.heap.size w w':=Any.strings_Repeat Tryz.lays105 Tryz.Builder_Extra_105 s c w b a
def Tryz.ads:Go.Shelf.Ren:=⟨fun | 160=>315 | 232=>337 | 231=>336 | 227=>338 | 234=>340 | 233=>339 | 236=>342 | 235=>341 | 228=>357 | 271=>360 | 151=>359 | 197=>358 | 120=>371 | 152=>370 | 260=>369 | 137=>379 | 119=>380 | 224=>381 | 225=>382 | 217=>393 | 266=>399 | n=>n,fun | 9=>9 | 4=>4 | 3=>3 | 5=>5 | 117=>289 | 116=>288 | 0=>0 | 124=>292 | 21=>21 | 105=>306 | 46=>299 | 119=>328 | 139=>331 | 138=>330 | n=>n,fun | 3=>1 | 4=>2 | n=>n⟩
def Tryz.lays160:Go.Proofs.Lays.n160 Tryz.prog Tryz.ads:={
 mixed:=θ
 f119:=Tryz.func380.trans (congrArg some θ)
 f120:=Tryz.func371.trans (congrArg some θ)
 f137:=Tryz.func379.trans (congrArg some θ)
 f151:=Tryz.func359.trans (congrArg some θ)
 f152:=Tryz.func370.trans (congrArg some θ)
 f160:=Tryz.func315.trans (congrArg some θ)
 f197:=Tryz.func358.trans (congrArg some θ)
 f217:=Tryz.func393.trans (congrArg some θ)
 f224:=Tryz.func381.trans (congrArg some θ)
 f225:=Tryz.func382.trans (congrArg some θ)
 f227:=Tryz.func338.trans (congrArg some θ)
 f228:=Tryz.func357.trans (congrArg some θ)
 f231:=Tryz.func336.trans (congrArg some θ)
 f232:=Tryz.func337.trans (congrArg some θ)
 f233:=Tryz.func339.trans (congrArg some θ)
 f234:=Tryz.func340.trans (congrArg some θ)
 f235:=Tryz.func341.trans (congrArg some θ)
 f236:=Tryz.func342.trans (congrArg some θ)
 f260:=Tryz.func369.trans (congrArg some θ)
 f266:=Tryz.func399.trans (congrArg some θ)
 f271:=Tryz.func360.trans (congrArg some θ)
 t0:=Tryz.underlying0
 a0:=Tryz.isAgg0
 z0:=Tryz.sizeOf0
 v0:=Tryz.zeroValue0
 t3:=Tryz.underlying3
 a3:=Tryz.isAgg3
 z3:=Tryz.sizeOf3
 v3:=Tryz.zeroValue3
 t4:=Tryz.underlying4
 a4:=Tryz.isAgg4
 z4:=Tryz.sizeOf4
 v4:=Tryz.zeroValue4
 t5:=Tryz.underlying5
 a5:=Tryz.isAgg5
 z5:=Tryz.sizeOf5
 v5:=Tryz.zeroValue5
 t9:=Tryz.underlying9
 a9:=Tryz.isAgg9
 z9:=Tryz.sizeOf9
 v9:=Tryz.zeroValue9
 t21:=Tryz.underlying21
 a21:=Tryz.isAgg21
 z21:=Tryz.sizeOf21
 v21:=Tryz.zeroValue21
 t46:=Tryz.underlying299
 a46:=Tryz.isAgg299
 z46:=Tryz.sizeOf299
 v46:=Tryz.zeroValue299
 t105:=Tryz.underlying306
 a105:=Tryz.isAgg306
 z105:=Tryz.sizeOf306
 v105:=Tryz.zeroValue306
 t116:=Tryz.underlying288
 a116:=Tryz.isAgg288
 z116:=Tryz.sizeOf288
 t117:=Tryz.underlying289
 a117:=Tryz.isAgg289
 z117:=Tryz.sizeOf289
 v117:=Tryz.zeroValue289
 t119:=Tryz.underlying328
 a119:=Tryz.isAgg328
 z119:=Tryz.sizeOf328
 t124:=Tryz.underlying292
 a124:=Tryz.isAgg292
 z124:=Tryz.sizeOf292
 v124:=Tryz.zeroValue292
 t138:=Tryz.underlying330
 a138:=Tryz.isAgg330
 z138:=Tryz.sizeOf330
 v138:=Tryz.zeroValue330
 t139:=Tryz.underlying331
 a139:=Tryz.isAgg331
 z139:=Tryz.sizeOf331
 v139:=Tryz.zeroValue331
 g3:=θ
 g4:=by kernel_rfl }
open Go.RowKit in
def Tryz.strings_Trim_laid(s a:ByteArray)(w:World)(f:s.size≤9223372036854775807)(d:a.size < 4294967281)(c:∀ (j:Nat) b,a.data.toList[j]? = some b→b.toNat < 128):
  Calls Tryz.prog 315 #[.string s,.string a] w fun e w'=>e=.returned (.string ⟨(Lib.trimS s.data.toList a.data.toList).toArray⟩)∧Below w.heap.size w w':=Any.strings_Trim_laid Tryz.lays160 θ s a w f d c
end Go.Proofs
namespace Go.Q
open Go Go.RowKit
open Go.Rx (br bd sIdx sCat sCut iQuo iRem)
noncomputable section
def res1{F:Nat→Prop}{w:World}{t:Ty}{x:t.α}{v:Value}(h:ValR F w t x v):ResR F w [t] (x,()) v:=⟨[v],⟨v,[],rfl,h,rfl⟩,rfl⟩
def res2{F:Nat→Prop}{w:World}{t u:Ty}{x:t.α}{y:u.α}{v a:Value}(h:ValR F w t x v)(k:ValR F w u y a):ResR F w [t,u] (x,y,()) (.tuple #[v,a]):=⟨[v,a],⟨v,[a],rfl,h,a,[],rfl,k,rfl⟩,rfl⟩
def abv{F:Nat→Prop}{w:World}(s:ByteArray):ValR F w .str s (.string s):=by unfold ValR;rw[gR δ];rfl
def ahJ{F:Nat→Prop}{w:World}(k:IntKind)(n:Int):ValR F w (.int k) n (.int k n):=by unfold ValR;rw[gR (by simp[isSt])];rfl
def ahK{F:Nat→Prop}{w:World}:ValR F w .nul () .nilIface:=by unfold ValR;rw[gR δ];rfl
def vO{F:Nat→Prop}{w:World}{s:ByteArray}{v:Value}(h:ValR F w .str s v):v=.string s:=by
 unfold ValR at h;rw[gR δ]at h;simpa using(show [v]=_ from h)
def aav{F:Nat→Prop}{w:World}{k:IntKind}{n:Int}{v:Value}(h:ValR F w (.int k) n v):v=.int k n:=by
 unfold ValR at h;rw[gR (by simp[isSt])]at h;simpa using(show [v]=_ from h)
def B.Trim.f(lf:Nat)(c:ByteArray)(a:ByteArray):Option (ByteArray×Unit) :=
 if c.size≤9223372036854775807∧a.size < 4294967281∧a.data.toList.all (fun b=>decide (b.toNat < 128))=true then some (⟨(Lib.trimS c.data.toList a.data.toList).toArray⟩,())else none
def B.Trim.E(lf:Nat):Entry:=⟨[.str,.str],[.str],fun x=>B.Trim.f lf x.1 x.2.1⟩
def B.Trim.ok(lf:Nat):EntryOK y5 TabG 315 (B.Trim.E lf):=by
 rintro ⟨s,c,⟨⟩⟩ y a F w vals k j ⟨v,r,rfl,d,l,r2,rfl,g,h⟩;cases h;rw[vO d,vO g];simp only[B.Trim.E,B.Trim.f]at a;split at a
 ·rename_i b;cases a;refine(Proofs.Tryz.strings_Trim_laid s c w b.1 b.2.1 (Proofs.ascii_of_all b.2.2)).mono ?_;rintro e m ⟨rfl,i⟩;exact⟨_,rfl,i,res1 (abv _)⟩
 ·cases a
def B.Atoi.f(lf:Nat)(a:ByteArray):Option (Int×Unit×Unit):=if a.size≤18 then(Lib.atoi a.data.toList).map fun n=>(n,(),())else none
def B.Atoi.E(lf:Nat):Entry:=⟨[.str],[.int .i64,.nul],fun x=>B.Atoi.f lf x.1⟩
def B.Atoi.ok(lf:Nat):EntryOK y5 TabG 363 (B.Atoi.E lf):=by
 rintro ⟨s,⟨⟩⟩ y a F w vals i h ⟨v,r,rfl,b,c⟩;cases c;rw[vO b];simp only[B.Atoi.E,B.Atoi.f]at a;split at a
 ·rename_i d;obtain⟨n,g,rfl⟩:=tF.1 a;refine(Proofs.Tryz.strconv_Atoi s n d g w).mono ?_;rintro e j ⟨rfl,t,rfl⟩;refine⟨_,rfl,?_,res2 (ahJ _ _) ahK⟩;unfold Lib.bytesWorld;exact Lib.below_freeze ((Below.drew (Below.refl _ w)).alloc (za _) _) (za _) _
 ·cases a
def B.Itoa.f(lf:Nat)(a:Int):Option (ByteArray×Unit):=if -9223372036854775808≤a∧a≤9223372036854775807 then some (⟨(z7 a).toArray⟩,())else none
def B.Itoa.E(lf:Nat):Entry:=⟨[.int .i64],[.str],fun x=>B.Itoa.f lf x.1⟩
def B.Itoa.ok(lf:Nat):EntryOK y5 TabG 325 (B.Itoa.E lf):=by
 rintro ⟨n,⟨⟩⟩ y a F w vals g j ⟨v,r,rfl,c,d⟩;cases d;rw[aav c];simp only[B.Itoa.E,B.Itoa.f]at a;split at a
 ·rename_i b;cases a;refine(Proofs.Tryz.strconv_Itoa n b.1 b.2 w g).mono ?_;rintro e l ⟨rfl,k,os,rfl⟩;refine⟨_,rfl,?_,res1 (abv _)⟩;refine⟨rfl,rfl,rfl,?_,fun i h=>?_⟩
  ·simp[Go.Sort.grow,World.drewN]
  ·simp only[Go.Sort.grow,World.drewN];rw[Array.getElem?_append_left h]
 ·cases a
def B.Repeat.f(lf:Nat)(b:ByteArray)(a:Int):Option (ByteArray×Unit) :=
 if 0≤a∧a≤9223372036854775807∧b.size*a.toNat≤140737488355328 then some (⟨(Lib.repeatL b.data.toList a.toNat).toArray⟩,())else none
def B.Repeat.E(lf:Nat):Entry:=⟨[.str,.int .i64],[.str],fun x=>B.Repeat.f lf x.1 x.2.1⟩
def B.Repeat.ok(lf:Nat):EntryOK y5 TabG 327 (B.Repeat.E lf):=by
 rintro ⟨s,c,⟨⟩⟩ y a F w vals k j ⟨v,r,rfl,d,l,r2,rfl,g,h⟩;cases h;rw[vO d,aav g];simp only[B.Repeat.E,B.Repeat.f]at a;split at a
 ·rename_i b;cases a;have e:(c.toNat:Int)=c:=Int.toNat_of_nonneg b.1;have:=Proofs.Tryz.strings_Repeat s c.toNat w ω b.2.2;rw[e]at this;refine this.mono ?_;rintro e m ⟨rfl,i⟩;exact⟨_,rfl,i,res1 (abv _)⟩
 ·cases a
end
def eqL{α:Type}(f:α→α→Bool):List α→List α→Bool
 | [],[]=>true
 | x::l,y::m=>f x y&&eqL f l m
 | _,_=>false
def eqX:Nat→EX→EX→Bool
 | 0,_,_=>false
 | n+1,x,y=>decide (x.i=y.i)&&(x.s.data.toList==y.s.data.toList&&(decide (x.j=y.j)&&eqL (eqX n) x.l y.l))
def eqY:Nat→CX→CX→Bool
 | 0,_,_=>false
 | n+1,x,y=>decide (x.i=y.i)&&(eqL (eqX 40) x.l y.l&&eqL (eqY n) x.m y.m)
def eqT:(T:Ty)→T.α→T.α→Bool
 | .int _,x,y=>decide ((show Int from x)=y)
 | .bool,x,y=>(show Bool from x)==y
 | .str,x,y=>(show ByteArray from x).data.toList==(show ByteArray from y).data.toList
 | .unit,_,_=>true
 | .nul,_,_=>true
 | .pair a b,x,y=>eqT a x.1 y.1&&eqT b x.2 y.2
 | .sl e,x,y=>eqL (eqT e) x y
 | .rc false,x,y=>eqX 40 x y
 | .rc true,x,y=>eqY 40 x y
def abb{α:Type}{f:α→α→Bool}(h:∀ x y,f x y=true→x=y):∀ {l m:List α},eqL f l m=true→l=m
 | [],[],_=>rfl
 | x::l,y::m,e=>by
  simp only[eqL,zm]at e;rw[h x y e.1,abb h e.2]
def ad1:∀ {n:Nat} {x y:EX},eqX n x y=true→x=y
 | n+1,.mk i ⟨⟨s⟩⟩ j l,.mk i' ⟨⟨s'⟩⟩ j' l',h=>by
  simp only[eqX,zm,decide_eq_true_eq,EX.i,EX.s,EX.j,EX.l,beq_iff_eq]at h;rw[of_decide_eq_true h.1,h.2.1,of_decide_eq_true h.2.2.1,abb (fun _ _=>ad1) h.2.2.2]
def agn:∀ {n:Nat} {x y:CX},eqY n x y=true→x=y
 | n+1,.mk i l m,.mk i' l' m',h=>by
  simp only[eqY,zm,decide_eq_true_eq,CX.i,CX.l,CX.m]at h;rw[of_decide_eq_true h.1,abb (fun _ _=>ad1) h.2.1,abb (fun _ _=>agn) h.2.2]
def acp:∀ {T:Ty} {x y:T.α},eqT T x y=true→x=y
 | .int _,x,y,h=>of_decide_eq_true h
 | .bool,x,y,h=>by simpa [eqT]using h
 | .str,x,y,h=>by
  have c:x.data.toList=y.data.toList:=by simpa [eqT]using h
  obtain⟨⟨x⟩⟩:=x;obtain⟨⟨y⟩⟩:=y;simp only at c;rw[c]
 | .unit,_,_,_=>rfl
 | .nul,_,_,_=>rfl
 | .pair a b,x,y,h=>by
  simp only[eqT,zm]at h;exact Prod.ext (acp h.1) (acp h.2)
 | .sl e,x,y,h=>abb (fun _ _=>acp) h
 | .rc false,x,y,h=>ad1 (n:=40) h
 | .rc true,x,y,h=>agn (n:=40) h
def eqTs:(ps:List Ty)→Tys ps→Tys ps→Bool
 | [],_,_=>true
 | t::ts,x,y=>eqT t x.1 y.1&&eqTs ts x.2 y.2
def aeE:∀ {ps:List Ty} {x y:Tys ps},eqTs ps x y=true→x=y
 | [],_,_,_=>rfl
 | t::ts,x,y,h=>by
  simp only[eqTs,zm]at h;exact Prod.ext (acp h.1) (aeE h.2)
def pick{β:Type}(ps:List Ty):List (Tys ps×β)→Tys ps→Option β
 | [],_=>none
 | p::l,x=>bif eqTs ps p.1 x then some p.2 else pick ps l x
def AllL{α:Type}(P:α→Prop):List α→Prop
 | []=>True
 | p::l=>P p∧AllL P l
def abZ{β:Type}{ps:List Ty}{P:Tys ps×β→Prop}:∀ {l:List (Tys ps×β)} {x:Tys ps} {y:β},AllL P l→pick ps l x=some y→P (x,y)
 | p::l,x,y,h,e=>by
  unfold pick at e;cases a:eqTs ps p.1 x with
  | true=>rw[a]at e;cases e;rw[←aeE a];exact h.1
  | false=>rw[a]at e;exact abZ h.2 e
def AllE{α β:Type}(R:α→Option β):List (α×β)→Prop
 | []=>True
 | p::l=>R p.1=some p.2∧AllE R l
def aes{α β:Type}{R:α→Option β}:∀ {l:List (α×β)},AllE R l→AllL (fun p=>R p.1=some p.2) l
 | [],_=>trivial
 | _::_,h=>⟨h.1,aes h.2⟩
def adZ{P:Program}{G:World→Prop}{g:FuncId}{ps rs:List Ty}{f a:Tys ps→Option (Tys rs)}(h:EntryOK P G g ⟨ps,rs,a⟩)(b:∀ x y,f x=some y→a x=some y):EntryOK P G g ⟨ps,rs,f⟩:=fun x y c=>h x y (b x y c)
def okP{an:FuncId→FA}{tb:List (FuncId×Entry)}{lf:Nat}(d:TabOK y5 TabG (lookT tb))(a:AnnsOK y5 TabG an){g:FuncId}{ps rs:List Ty}{f:Tys ps→Option (Tys rs)}{l:List (Tys ps×Tys rs)}(c:∀ x,f x=pick ps l x)
  {R:Tys ps→Option (Tys rs)} (b:∀ x,R x=runQ y5 an noLs (lookT tb) (lf+40) 14 6 g ps rs x) (h:AllE R l):Ok g ⟨ps,rs,f⟩ :=
 adZ (okT (E:=⟨ps,rs,R⟩) d a b) fun x y e=>abZ (P:=fun p=>R p.1=some p.2) (aes h) ((c x).symm.trans e)
open Go.Rx (br bd br_eq bd_eq bd_some)
def aeZ{ρ:Type}{k:KO ρ}:∀ {q:Res} {o:SV} {mem:Mem},q.Out o mem→resK q k=k o mem
 | .det s m,o,mem,h=>by obtain⟨rfl,rfl⟩:=h;rfl
 | .part α x out,o,mem,h=>by
  obtain⟨y,rfl,e⟩:=h;simp only[resK,bd_eq,wT,e]
 | .alt c x y,o,mem,h=>by
  simp only[resK,br_eq];rcases h with⟨rfl,h⟩ | ⟨rfl,h⟩
  ·exact aeZ h
  ·exact aeZ h
 | .bnd α x out,o,mem,h=>by
  obtain⟨y,rfl,h⟩:=h;simp only[resK,bd_eq,wT];exact aeZ h
def genE(a:ShS)(f:a.D→Res)(rest:Nat→List SV→Mem→Option Res):Nat→List SV→Mem→Option Res:=fun m xs mem=>bif nA m 0 then(match a.m? (xs,mem)with
 | some x=>some (f x)
 | none=>rest m xs mem)else none
def genN:Nat→List SV→Mem→Option Res:=fun _ _ _=>none
section
variable {an:FuncId→FA}{ls:List (Nat×FuncId×Sums)}{tb:List (FuncId×Entry)}{lf:Nat}
noncomputable def bodyG (an:FuncId→FA) (ls:List (Nat×FuncId×Sums)) (tb:List (FuncId×Entry)) (lf N:Nat) (g:FuncId) {ρ:Type} (a:St) (k:KO ρ):Option ρ :=
 bodyK y5 g (an g).ann (lsOf ls N g) (drG an tb lf ρ) (goK true y5 an (lsOf ls) (drG an tb lf ρ) (lookT tb) 0 (lf+40) N) 0 (lf+40) a.1 a.2 k
def cutM(j:Nat)(mem:Mem):Mem:=(mem.take j).map fun b=>b.map (Blk.cut j)
def yu{j i:Nat}{mem:Mem}(h:Live mem i)(c:i < j):Live (cutM j mem) i:=by
 obtain⟨b,a⟩:=h;exact⟨b.cut j,by unfold cutM;rw[yz,List.getElem?_take,gT c,a];rfl⟩
def wz{j:Nat}{mem:Mem}(h:j≤mem.length):(cutM j mem).length=j:=by simp[cutM];omega
def cutK{ρ:Type}(j:Nat)(k:KO ρ):KO ρ:=fun s mem=>k (cutR j 5 s) (cutM j mem)
def GenAt(an:FuncId→FA)(ls:List (Nat×FuncId×Sums))(tb:List (FuncId×Entry))(lf N:Nat)(g:FuncId)(j:Nat)(f:Nat→List SV→Mem→Option Res):Prop :=
 (∀ m xs mem q,f m xs mem=some q→m=0)∧∀ xs mem q,f 0 xs mem=some q→mem.length≤j∧∀ (ρ:Type) (k:KO ρ),LeO (resK q k) (bodyG an ls tb lf N g (xs,mem) (cutK j k))
def aeM{N:Nat}{g:FuncId}{j:Nat}:GenAt an ls tb lf N g j genN:=⟨fun _ _ _ _ h=>(by cases h),fun _ _ _ h=>(by cases h)⟩
def aeL{N:Nat}{g:FuncId}{j:Nat}{c:ShS}{f:c.D→Res}{rest:Nat→List SV→Mem→Option Res}(i:∀ x:c.D,(c.b x).2.length=j)(h:∀ (ρ:Type) (x:c.D) (k:KO ρ),LeO (resK (f x) k) (bodyG an ls tb lf N g (c.b x) (cutK j k)))(l:GenAt an ls tb lf N g j rest):
  GenAt an ls tb lf N g j (genE c f rest):=by
 constructor
 ·intro m xs mem q a;unfold genE at a;cases d:nA m 0 with
  | true=>exact Nat.eq_of_beq_eq_true d
  | false=>rw[d]at a;cases a
 ·intro xs mem q a;unfold genE at a;simp only[nA,cond_true]at a;split at a
  ·rename_i x n;cases a;have e:=ShS.m?_spec n;refine⟨?_,fun ρ k=>?_⟩
   ·have:=congrArg (fun o:St=>o.2.length) e;rw[i x]at this;exact Nat.le_of_eq this
   ·rw[e];exact h ρ x k
  ·exact l.2 xs mem q a
def genOK(z:TabOK y5 TabG (lookT tb))(v:AnnsOK y5 TabG an)(C:SL an ls tb lf ls){N:Nat}{g:FuncId}{j:Nat}{f:Nat→List SV→Mem→Option Res}(h:GenAt an ls tb lf N g j f):SpkOK y5 TabG (.gen f) g:=by
 intro w0 m B F mem w k vals q o l A Q L O J E T;have A:f m k mem=some q:=A;obtain rfl:=h.1 m k mem q A;obtain⟨u,I⟩:=h.2 k mem q A;have M:bodyG an ls tb lf N g (k,mem) (cutK j fun s m=>some (s,m))=some (o,l):=I _ (fun s m=>some (s,m)) _ (aeZ Q);obtain⟨c1,c2⟩:=clQ_ok (P:=y5) rfl (anns:=an) (lf:=lf+40) (N:=14) mixed ug v z 6;refine(bodyK_sound (P:=y5) (drawA_ok mixed ug z c2 c1 0) (goK_sound (P:=y5) rfl (drawA_ok mixed ug z c2 c1 0) ug v z (lf+40) (sumsG C _) N) (sumsG C _ N g) M L O J E T).mono ?_;rintro e w' ⟨s,mem2,B',F',x,t,rfl,V,W,p,X⟩;have t:some (cutR j 5 s,cutM j mem2)=some (o,l):=t;cases t;have D:R w0 0 0 ([s],mem2) B' F' { tmps:=#[x],defers:=[] } w':=⟨.cons V .nil,trivial,W,fun Y C=>by rw[sj.1 C];exact X,wD _,wD _⟩
 have n:=D.nrm0 [] (wD j);have U:VRs B' F' w' [cutR j 5 s] [x]:=n.tmps;obtain⟨d,ds,t,H,_⟩:=U.head;cases t;have G:∀ i,Live mem i→i < j:=fun i y=>ry y.lt u;refine⟨B',F',x,rfl,H,n.mem,⟨p.loc,p.fs,p.keep,⟨?_,fun i y=>yu (p.ext.live i y) (G i y),fun i r S=>?_⟩,p.fn⟩,n.bd _ (sj.2 rfl)⟩
 ·have:mem.length≤mem2.length:=p.ext.len;simp only[cutM,vQ,List.length_take];omega
 ·obtain⟨b,K,_,e⟩:=cut_get S;have:∃ r',b=.rnd r':=by
   cases b with
   | rnd r'=>exact⟨r',rfl⟩
   | iter a b c d=>rcases cut_iter j a b c d with⟨h,_⟩ | h<;>rw[h]at e<;>cases e
   | _=>cases e
  obtain⟨r',rfl⟩:=this;exact p.ext.old i r' K
def tailM(j:Nat)(mem a:Mem):Mem:=cutM j a++(mem.drop j).map fun b=>b.map fun _=>Blk.gone
def Res.mapO(f:SV→Mem→SV×Mem):Res→Res
 | .det s mem=>.det (f s mem).1 (f s mem).2
 | .part α x out=>.part α x fun y=>f (out y).1 (out y).2
 | .alt c x y=>.alt c (x.mapO f) (y.mapO f)
 | .bnd α x out=>.bnd α x fun y=>(out y).mapO f
def zF{f:SV→Mem→SV×Mem}:∀ {q:Res} {o:SV} {mem:Mem},(q.mapO f).Out o mem→∃ b a,q.Out b a∧f b a=(o,mem)
 | .det s m,o,mem,h=>by obtain⟨rfl,rfl⟩:=h;exact⟨s,m,⟨rfl,rfl⟩,rfl⟩
 | .part α x out,o,mem,h=>by
  obtain⟨y,i,e⟩:=h;exact⟨_,_,⟨y,i,rfl⟩,e⟩
 | .alt c x y,o,mem,h=>by
  rcases h with⟨hc,h⟩ | ⟨hc,h⟩
  ·obtain⟨b,a,d,g⟩:=zF h;exact⟨b,a,.inl ⟨hc,d⟩,g⟩
  ·obtain⟨b,a,d,g⟩:=zF h;exact⟨b,a,.inr ⟨hc,d⟩,g⟩
 | .bnd α x out,o,mem,h=>by
  obtain⟨y,i,h⟩:=h;obtain⟨b,a,d,g⟩:=zF h;exact⟨b,a,⟨y,i,d⟩,g⟩
def genT(j:Nat)(f:Nat→List SV→Mem→Option Res):Nat→List SV→Mem→Option Res:=fun m xs mem=>bif yb j mem.length&&yb m j then(match f m (xs.map (cutR j 5)) (cutM j mem)with
 | some q=>some (q.mapO fun o a=>(cutR j 5 o,tailM j mem a))
 | none=>none)else none
def sU{j i:Nat}{mem a:Mem}(h:j≤a.length)(b:i < j):(tailM j mem a)[i]? =(cutM j a)[i]? := xm (by rw[wz h];exact b)
def adJ{j i:Nat}{mem a:Mem}(h:j≤a.length)(c:j≤i):(tailM j mem a)[i]? = mem[i]?.map fun b=>b.map fun _=>Blk.gone:=by
 unfold tailM;rw[wi (by rw[wz h];exact c),wz h,yz,List.getElem?_drop,show j+(i-j)=i by omega]
def aaH{j:Nat}{g:FuncId}{f:Nat→List SV→Mem→Option Res}(h:SpkOK y5 TabG (.gen f) g):SpkOK y5 TabG (.gen (genT j f)) g:=by
 intro w0 m B F mem w A vals q o mem' D P hg hm hR hbd S;have D:genT j f m A mem=some q:=D;unfold genT at D;cases U:(yb j mem.length&&yb m j)with
 | false=>rw[U]at D;cases D
 | true =>
 rw[U]at D;simp only[zm,ux]at U;obtain⟨hjl,G⟩:=U;simp only[cond_true]at D;split at D
 ·rename_i q1 hq1;cases D;obtain⟨o1,n,ho1,e⟩:=zF P;simp only[Prod.mk.injEq]at e;obtain⟨rfl,rfl⟩:=e;have X:R w0 m 0 (A,mem) B F { tmps:=vals.toArray,defers:=[] } w:=⟨S,trivial,hR,hbd,hm,wD _⟩
  have H:=X.nrm0 [] G;have L:(cutM j mem).length=j:=wz hjl;refine(h w0 m B F (cutM j mem) w (A.map (cutR j 5)) vals q1 o1 n hq1 ho1 hg (by rw[L];exact G) H.mem H.bd H.tmps).mono ?_;rintro e w' ⟨B',F',x,rfl,k1,k2,K,k4⟩;have p:j≤n.length:=by have:=K.ext.len;rw[L]at this;exact this
  have Y:R w0 m 0 ([o1],n) B' F' { tmps:=#[x],defers:=[] } w':=⟨.cons k1 .nil,trivial,k2,fun s Q=>by rw[sj.1 Q];exact k4,xL G p,wD _⟩
  have I:=Y.nrm0 [] G;have E:RM w0 m B' F' (cutM j n) w':=I.mem;have M:∀ i,Live (cutM j n) i→i < j:=fun i k=>by have:=k.lt;rwa [wz p]at this
  have hB:∀ i,Live (cutM j n) i→(fun i=>if i < j then B' i else B i) i=B' i:=fun i k=>gT (M i k);have J:∀ i,Live (cutM j n) i→Live (tailM j mem n) i:=fun i ⟨b,l⟩=>⟨b,by rw[sU p (M i ⟨b,l⟩)];exact l⟩
  have z:∀ {i:Nat} {b:Blk},j≤i→(tailM j mem n)[i]? = some (some b)→b=.gone∧∃ b',mem[i]? = some (some b'):=by
   intro i b k l;rw[adJ p k]at l;cases V:mem[i]? with
   | none=>rw[V]at l;cases l
   | some y =>
    rw[V]at l;cases y with
    | none=>cases l
    | some b'=>simp only[wj,y8.injEq]at l;exact⟨l.symm,b',rfl⟩
  have V:VRs B' F' w' [cutR j 5 o1] [x]:=I.tmps;have T:Bd (Live (cutM j n)) (cutR j 5 o1):=I.bd _ (sj.2 rfl);obtain⟨d,ds,e1,hx1,_⟩:=V.head;cases e1;refine⟨fun i=>if i < j then B' i else B i,F',x,rfl,hx1.loc hB T,?_,⟨fun i k=>?_,K.fs,K.keep,⟨?_,fun i k=>?_,fun i r hr=>?_⟩,K.fn⟩,T.mono J⟩
  ·refine⟨fun i b l=>?_,fun i b O l C=>?_,fun i i' u v hu S ou ov nu nv e=>?_,fun i b l s Q=>?_,fun i b l P C N=>?_,fun i b l C N=>?_,E.fc,E.below⟩
   ·by_cases k:i < j
    ·rw[sU p k]at l;simp only[gT k];exact(E.blk i b l).loc hB (E.bd i b l)
    ·rw[(z (mH k) l).1];trivial
   ·by_cases k:i < j
    ·rw[sU p k]at l;simp only[gT k]at C⊢;exact E.own i b O l C
    ·obtain⟨_,b',Z⟩:=z (mH k) l;simp only[gR k]at C⊢;exact hR.own i b' O Z C
   ·have k:i < j:=by
     refine rx fun k=>?_;rw[(z k hu).1]at ou;cases ou
    have t:i' < j:=by
     refine rx fun k=>?_;rw[(z k S).1]at ov;cases ov
    rw[sU p k]at hu;rw[sU p t]at S;simp only[gT k,gT t]at nu nv e;exact E.inj i i' u v hu S ou ov nu nv e
   ·by_cases k:i < j
    ·rw[sU p k]at l;exact(E.bd i b l s Q).mono J
    ·rw[(z (mH k) l).1]at Q;cases Q
   ·have k:i < j:=by
     refine rx fun k=>?_;rw[(z k l).1]at P;cases P
    rw[sU p k]at l;simp only[gT k]at C⊢;exact E.fr i b l P C N
   ·have k:i < j:=by
     refine rx fun k=>?_;rw[(z k l).1]at N;cases N
    rw[sU p k]at l;simp only[gT k]at C⊢;exact E.fz i b l C N
  ·by_cases t:i < j
   ·simp only[gT t];exact K.loc i (yu k t)
   ·simp only[gR t]
  ·unfold tailM;rw[yo,wz p,vQ,vu];omega
  ·by_cases t:i < j
   ·exact J i (yu (K.ext.live i (yu k t)) t)
   ·obtain⟨b,l⟩:=k;exact⟨.gone,by rw[adJ p (mH t),l];rfl⟩
  ·have k:i < j:=by
    refine rx fun k=>?_;have:=(z k hr).1;cases this
   rw[sU p k]at hr;obtain⟨b,l,_,e⟩:=cut_get hr;have:∃ r',b=.rnd r':=by
    cases b with
    | rnd r'=>exact⟨r',rfl⟩
    | iter a b c d=>rcases cut_iter j a b c d with⟨h,_⟩ | h<;>rw[h]at e<;>cases e
    | _=>cases e
   obtain⟨r',rfl⟩:=this;obtain⟨r2,h2⟩:=K.ext.old i r' l;obtain⟨b2,hb2,_,W⟩:=cut_get h2;cases b2 with
   | rnd r'=>exact⟨r',hb2⟩
   | iter a b c d=>rcases cut_iter j a b c d with⟨h,_⟩ | h<;>rw[h]at W<;>cases W
   | _=>cases W
 ·cases D
def Gen0(f:Nat→List SV→Mem→Option Res):Prop:=∀ m xs mem q,f m xs mem=some q→∀ o a,¬q.Out o a
def agt:Gen0 genN:=fun _ _ _ _ h=>(by cases h)
def ags{c:ShS}{R:Type}{F:c.D→Option R}{O:c.D→R→Res}{rest:Nat→List SV→Mem→Option Res}(h:∀ x,F x=none)(g:Gen0 rest):Gen0 (genE c (fun x=>.bnd R (F x) (O x)) rest):=by
 intro m xs mem q a o b e;unfold genE at a;cases d:nA m 0 with
 | false=>rw[d]at a;cases a
 | true =>
  rw[d]at a;simp only[cond_true]at a;split at a
  ·rename_i x _;cases a;obtain⟨y,f,_⟩:=e;rw[h x]at f;cases f
  ·exact g m xs mem q a o b e
def detG(a:St):Res:=.det (a.1.headD .any) a.2
def kG{ρ:Type}(k:KO ρ)(a:St):Option ρ:=k (a.1.headD .any) a.2
def agf{ρ:Type}(k:KO ρ)(st:St):resK (detG st) k=kG k st:=rfl
def aeN{g:FuncId}{f:Nat→List SV→Mem→Option Res}(h:Gen0 f):SpkOK y5 TabG (.gen f) g:=fun w0 m B F mem w a vals q o b d c _ _ _ _ _=>absurd c (h m a mem q d o b)
end
end Go.Q
namespace Go.N
open Go Go.Q Go.Rx
def isDig(b:UInt8):Bool:=decide (48≤b.toNat∧b.toNat≤57)
def dig(b:UInt8):Nat:=b.toNat-48
def dch(d:Nat):UInt8:=UInt8.ofNat (48+d)
def zl{d:Nat}(h:d < 10):(dch d).toNat=48+d:=by
 unfold dch;rw[UInt8.toNat_ofNat'];omega
def aag{d:Nat}(h:d < 10):isDig (dch d)=true:=by
 unfold isDig;rw[zl h];simp;omega
def acj{d:Nat}(h:d < 10):dig (dch d)=d:=by unfold dig;rw[zl h];omega
def aeA{b:UInt8}(h:isDig b=true):dch (dig b)=b:=by
 unfold isDig at h;simp only[decide_eq_true_eq]at h;apply UInt8.toNat_inj.1;unfold dch dig;rw[UInt8.toNat_ofNat'];omega
def ack{b:UInt8}(h:isDig b=true):dig b < 10:=by
 unfold isDig at h;simp only[decide_eq_true_eq]at h;unfold dig;omega
def dv(l:List UInt8):Nat:=l.foldl (fun a b=>a*10+dig b) 0
def agl:dv []=0:=rfl
def wR(l:List UInt8)(b:UInt8):dv (l++[b])=dv l*10+dig b:=by simp[dv]
def zU{p:List UInt8→Prop}(l:List UInt8)(a:p [])(d:∀ l b,p l→p (l++[b])):p l:=by
 induction h:l.length generalizing l with
 | zero=>rw[wc.1 h];exact a
 | succ n f =>
  have c:l≠[]:=by intro e;subst e;simp at h
  rw[←mC c];exact d _ _ (f _ (by rw[iN];omega))
def adY(l:List UInt8):∀ m:List UInt8,dv (l++m)=dv l*10 ^ m.length+dv m:=by
 intro m;refine zU (p:=fun m=>dv (l++m)=dv l*10 ^ m.length+dv m) m (by simp[agl]) fun m b a=>?_;rw[←List.append_assoc,wR,wR,a,yo,uA,q5,Nat.add_mul,Nat.mul_assoc];omega
def agk:∀ l:List UInt8,l.all isDig=true→dv l < 10 ^ l.length:=by
 intro l;refine zU (p:=fun l=>l.all isDig=true→dv l < 10 ^ l.length) l (by simp[agl]) fun l b a h=>?_;rw[nB,zm]at h;have c:=a h.1;have d:=ack (b:=b) (by simpa using h.2);rw[wR,yo,uA,q5];omega
def nG{n:Nat}(h:n < 10):Lib.decDigits n=[dch n]:=by rw[Lib.decDigits,dif_pos h];rfl
def wQ{n:Nat}(h:¬n < 10):Lib.decDigits n=Lib.decDigits (n / 10)++[dch (n % 10)]:=by rw[Lib.decDigits,dif_neg h];rfl
def ajh(n:Nat):Lib.decDigits n≠[]:=by
 by_cases h:n < 10
 ·rw[nG h];simp
 ·rw[wQ h];simp
def yc(n:Nat):(Lib.decDigits n).all isDig=true:=by
 induction n using pN with
 | _ n a =>
  by_cases h:n < 10
  ·rw[nG h];simp[aag h]
  ·rw[wQ h,nB,a (n / 10) ω];simp[aag (show n % 10 < 10 from ω)]
def aa6(n:Nat):dv (Lib.decDigits n)=n:=by
 induction n using pN with
 | _ n a =>
  by_cases h:n < 10
  ·rw[nG h];simp[dv,acj h]
  ·rw[wQ h,wR,a (n / 10) ω,acj ω];omega
def aa5{n:Nat}(h:n≠0):∃ b r,Lib.decDigits n=b::r∧b≠48:=by
 induction n using pN with
 | _ n f =>
  by_cases a:n < 10
  ·refine⟨dch n,[],nG a,?_⟩;intro e;have:=congrArg UInt8.toNat e;rw[zl a]at this;have c:(48:UInt8).toNat=48:=rfl;omega
  ·obtain⟨b,r,e,d⟩:=f (n / 10) ω ω;exact⟨b,r++[dch (n % 10)],by rw[wQ a,e];rfl,d⟩
def adU{l:List UInt8}(h:l.all isDig=true)(j:l≠[])(a:l.head?≠some 48∨l.length=1):l=Lib.decDigits (dv l):=by
 revert h j a;refine zU (p:=fun l=>l.all isDig=true→l≠[]→(l.head?≠some 48∨l.length=1)→l=Lib.decDigits (dv l)) l (fun _ h=>absurd rfl h) fun l b k h _ a=>?_;rw[nB,zm]at h;have f:isDig b=true:=by simpa using h.2
 have i:=ack f;by_cases d:l=[]
 ·subst d;rw[vv,show dv [b]=dig b by simp[dv],nG i,aeA f]
 ·have c:l.head?≠some 48:=by
   rcases a with a | a
   ·cases l with
    | nil=>exact absurd rfl d
    | cons x r=>exact a
   ·rw[yo,uA]at a;exact absurd (wc.1 ω) d
  have e:=k h.1 d (.inl c);have g:dv l≠0:=by
   intro e0;rw[e0,nG ω]at e;rw[e]at c;exact c rfl
  rw[wR,wQ ω,show(dv l*10+dig b) / 10=dv l by omega,show(dv l*10+dig b) % 10=dig b by omega,←e,aeA f]
def oW:∀ (k n:Nat),n < 10 ^ (k+1)→(Lib.decDigits n).length≤k+1
 | 0,n,h=>by rw[nG (by simpa using h)];simp
 | k+1,n,h=>by
  by_cases a:n < 10
  ·rw[nG a];simp
  ·rw[wQ a,yo,uA];have:n / 10 < 10 ^ (k+1):=by rw[q5]at h;omega
   have:=oW k (n / 10) this;omega
def qA:Lib.decDigits 0=[48]:=nG ω
def wB(n:Nat):(Lib.decDigits n).head?≠some 45:=by
 have h:=yc n;cases e:Lib.decDigits n with
 | nil=>simp
 | cons b r =>
  rw[e,qT,zm]at h;intro a;simp only[mI,y8.injEq]at a;subst a;have:isDig 45=false:=rfl;rw[this]at h;cases h.1
def body(l:List UInt8):List UInt8:=if l.head? = some 45 then l.tail else l
def neg(l:List UInt8):Bool:=decide (l.head? = some 45)
def can(l:List UInt8):Bool:=decide (l=[48])||(decide (body l≠[])&&(decide ((body l).head?≠some 48)&&(body l).all isDig))
def iv(l:List UInt8):Int:=if neg l=true then -(dv (body l):Int)else(dv (body l):Int)
def kL(z:Int):can (z7 z)=true:=by
 unfold can z7 body;by_cases h:z < 0
 ·rw[gT h];obtain⟨b,r,e,c⟩:=aa5 (show z.natAbs≠0 from ω);have a:=yc z.natAbs;rw[e]at a⊢;simp only[mI,if_true,hU];simp[c,a]
 ·rw[gR h];by_cases d:z=0
  ·subst d;rw[show(0:Int).toNat=0 from rfl,qA];simp
  ·rw[gR (wB _)];obtain⟨b,r,e,c⟩:=aa5 (show z.toNat≠0 from ω);have a:=yc z.toNat;rw[e]at a⊢;simp[c,a]
def dR(z:Int):iv (z7 z)=z:=by
 unfold iv neg body z7;by_cases h:z < 0
 ·rw[gT h];simp only[mI,if_true,hU,decide_true,aa6];omega
 ·rw[gR h,gR (wB _),gO (wB _),gR ψ,aa6];omega
def yj{l:List UInt8}(h:can l=true):l=z7 (iv l):=by
 unfold can at h;rw[se]at h;rcases h with h | h
 ·have e:l=[48]:=by simpa using h
  subst e;have:iv [48]=0:=δ;rw[this];unfold z7;rw[gR ω];exact qA.symm
 ·simp only[zm,decide_eq_true_eq]at h;obtain⟨g,d,i⟩:=h;have e:=adU i g (.inl d);have f:dv (body l)≠0:=by
   intro e0;rw[e0,qA]at e;rw[e]at d;exact d rfl
  unfold iv z7;by_cases c:l.head? = some 45
  ·have a:neg l=true:=by unfold neg;exact gP c
   rw[gT a,gT ω,show(-(dv (body l):Int)).natAbs=dv (body l) by omega,←e];unfold body;rw[gT c];cases l with
   | nil=>simp at c
   | cons b r=>simp at c;subst c;rfl
  ·have a:¬neg l=true:=by unfold neg;rw[gO c];simp
   rw[gR a,gR ω,show((dv (body l):Int)).toNat=dv (body l) by omega,←e];unfold body;rw[gR c]
def ajr{l m:List UInt8}(a:can l=true)(b:can m=true)(h:iv l=iv m):l=m:=by rw[yj a,yj b,h]
def mM{l:List UInt8}(h:can l=true):(body l).all isDig=true∧body l≠[]∧l≠[]:=by
 unfold can at h;rw[se]at h;rcases h with h | h
 ·have e:l=[48]:=by simpa using h
  subst e;exact⟨δ,δ,ψ⟩
 ·simp only[zm,decide_eq_true_eq]at h;refine⟨h.2.2,h.1,?_⟩;rintro rfl;exact h.1 rfl
def nlen(l:List UInt8):Nat:=(body l).length
def aaM(l:List UInt8):nlen l≤l.length:=by unfold nlen body;split<;>simp
def wG(l:List UInt8):l.length≤nlen l+1:=by unfold nlen body;split<;>simp<;>omega
def chk(l:List UInt8):Int:=if can l=true then(if nlen l > 4096 then 10 else 0)else 3
def num(l:List UInt8):Int:=if chk l≠0 then chk l else if nlen l > 100 then 10 else 0
def nI{l:List UInt8}:chk l=0↔can l=true∧nlen l≤4096:=by
 unfold chk;split
 ·split
  ·simp;omega
  ·simp_all
 ·simp_all
def sN{l:List UInt8}:num l=0↔can l=true∧nlen l≤100:=by
 unfold num;split
 ·rename_i h;constructor
  ·intro e;exact absurd e h
  ·intro e;exact absurd (nI.2 ⟨e.1,ω⟩) h
 ·rename_i h;have:=nI.1 (Classical.not_not.1 h);split
  ·simp;intro;omega
  ·simp;exact⟨this.1,ω⟩
def aft{l:List UInt8}(h:l.all isDig=true)(i:l≠[]):Lib.atoi l=some (dv l:Int):=by
 have key:∀ (m:List UInt8) (c:Nat),m.all isDig=true→Lib.decFrom c m=some (m.foldl (fun a b=>a*10+dig b) c):=by
  intro m
  induction m with
  | nil=>intro c _;rfl
  | cons b r j =>
   intro c e;rw[qT,zm]at e;have d:=e.1;unfold isDig at d;simp only[decide_eq_true_eq]at d;rw[Lib.decFrom,Lib.digitVal,gT d,List.foldl_cons];exact j _ e.2
 cases l with
 | nil=>exact absurd rfl i
 | cons b r =>
  have e:=h;rw[qT,zm]at e;have d:=e.1;have g:(b==45)=false:=by
   rw[beq_eq_false_iff_ne];rintro rfl;have:isDig 45=false:=rfl;rw[this]at d;cases d
  have f:(b==43)=false:=by
   rw[beq_eq_false_iff_ne];rintro rfl;have:isDig 43=false:=rfl;rw[this]at d;cases d
  rw[Lib.atoi,g,f];simp only[Bool.false_eq_true,if_false];rw[Lib.decNat,gR ψ,key _ 0 h];rfl
def dropWhile_nil{α:Type}{p:α→Bool}:∀ {l:List α},l.dropWhile p=[]↔∀ x∈l,p x=true
 | []=>ψ
 | x::l=>by
  rw[List.dropWhile_cons];by_cases h:p x=true
  ·rw[gT h,dropWhile_nil (l:=l)];simp[h]
  ·rw[gR h];simp[h]
def ab6(l a:List UInt8):Lib.trimS l a=[]↔l.all (a.contains ·)=true:=by
 unfold Lib.trimS Lib.trimLeftS Lib.trimRightS;constructor
 ·intro h;rw[dropWhile_nil]at h;have d:(l.reverse.dropWhile (a.contains ·))=[]:=by
   cases e:l.reverse.dropWhile (a.contains ·)with
   | nil=>rfl
   | cons b r =>
    have c:=h b (by rw[e];simp);have:=List.head?_dropWhile_not (a.contains ·) l.reverse;rw[e]at this;simp at this c;exact absurd c this
  rw[dropWhile_nil]at d;exact ym.2 fun b c=>d b (by simpa using c)
 ·intro h;have d:(l.reverse.dropWhile (a.contains ·))=[]:=by
   rw[dropWhile_nil];intro b c;exact ym.1 h b (by simpa using c)
  rw[d];rfl
def agi:∀ n:Fin 256,([48,49,50,51,52,53,54,55,56,57]:List UInt8).contains (UInt8.ofNat n.val)=isDig (UInt8.ofNat n.val):=by decide +kernel
def abz(b:UInt8):([48,49,50,51,52,53,54,55,56,57]:List UInt8).contains b=isDig b:=by
 have:=agi ⟨b.toNat,b.toNat_lt⟩;simpa using this
end Go.N
namespace Go.Q
open Go
abbrev yI:Ty:=.pair .bool (.pair .str (.pair .str .unit))
abbrev yV:Ty:=.pair yI (.pair yI .unit)
abbrev yB:Ty:=.pair .bool (.pair (.sl (.int .i64)) .unit)
abbrev yX:Ty:=.pair (.int .i64) (.pair .str .unit)
abbrev yS:Ty:=.pair yX (.pair yX .unit)
abbrev TI:Type:=Bool×(ByteArray×(ByteArray×Unit))
abbrev TV:Type:=TI×(TI×Unit)
abbrev TB:Type:=Bool×((List Int)×Unit)
abbrev TX:Type:=Int×(ByteArray×Unit)
abbrev TS:Type:=TX×(TX×Unit)
end Go.Q
abbrev Go.fg:=ByteArray
abbrev Go.fi:=List Int
abbrev Go.fm(a:Type):=Option (a×Unit)
