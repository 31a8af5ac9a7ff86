import Derived.Test.YtioemjeplgnccaaGreatDoorProg
import Derived.KernelRfl
import Derived.Lib.ItoaMem
import Derived.Lib.Strings
import Derived.Lib.Walk
import Derived.Lib.Builder
import Derived.Lib.UnsafeStr
import Derived.WalkKit
import Derived.Laws.Externs
import Derived.RegionTactic
import Derived.Deep.RegionLaw
import Derived.Shelf.Strconv.Atoi
import Derived.Shelf.LaysM
import Derived.Shelf.Strconv.Itoa3
import Derived.Shelf.Strings.Repeat
import Derived.Shelf.Strings.SlTrimAscii
import Derived.Lib.ItoaNum
import Derived.Lib.Atoi
import Derived.Lib.SlTrimSet
import Derived.Test.YtioemjeplgnccaaGreatDoorTDE2
set_option linter.unusedVariables false
set_option linter.unusedSimpArgs false
set_option linter.unusedSectionVars false
set_option maxRecDepth 100000
namespace Go.Q
open Go Go.RowKit
open Go.Rx (br bd br_eq bd_eq bd_some entB enters_of_entB predsOf maskOf masks testBit_maskOf Closed)
def lw(W S:Nat→Bool):Nat→Option Nat
 | 0=>none
 | n+1=>if W n=true∧S n=true then some n else lw W S n
theorem lw_congr{W S S':Nat→Bool}:∀ {n:Nat},(∀ i,i < n→W i=true→S i=S' i)→lw W S n=lw W S' n
 | 0,_=>rfl
 | n+1,h=>by
  simp only[lw]
  rw[lw_congr (n:=n) fun i hi hw=>h i (by omega) hw]
  by_cases hw:W n=true
  ·rw[h n (by omega) hw]
  ·simp[hw]
theorem lw_last{W S:Nat→Bool}{i:Nat}(hW:W i=true)(hS:S i=true):∀ {n:Nat},i < n→(∀ j,j < n→W j=true→S j=true→j≤i)→lw W S n=some i
 | 0,h,_=>by omega
 | n+1,h,hle=>by
  simp only[lw]
  by_cases e:n=i
  ·subst e;simp[hW,hS]
  ·rw[if_neg (fun hn=>by have:=hle n (by omega) hn.1 hn.2;omega)]
   exact lw_last hW hS (by omega) fun j hj=>hle j (by omega)
theorem lw_none{W S:Nat→Bool}:∀ {n:Nat},(∀ i,i < n→W i=true→S i=false)→lw W S n=none
 | 0,_=>rfl
 | n+1,h=>by
  simp only[lw]
  rw[if_neg (fun hn=>by have:=h n (by omega) hn.1;rw[hn.2]at this;cases this)]
  exact lw_none fun i hi=>h i (by omega)
section
variable {P:Program}{G:World→Prop}{tab:Tab}{m ne:Nat}{w0:World}{cl:Nat→OracleP}{M:List Nat}
def wantB(ops:Array Oper)(ts:List SV)(o:Oper):Option Bool:=match o.guard with
 | none=>some true
 | some (j,u)=>match yl ops ts j with
  | some q=>some (q==some u)
  | none=>none
theorem wantB_spec[HasP]{st:St}{B:Loc}{F:Nat→Prop}{a:Act}{w:World}(h:R w0 m ne st B F a w){ops:Array Oper}{o:Oper}{b:Bool}(hb:wantB ops st.1 o=some b):Region.wanted o (yielded ops a.tmps)=b:=by
 unfold wantB at hb
 unfold Region.wanted
 cases hg:o.guard with
 | none=>rw[hg]at hb;cases hb;rfl
 | some ju =>
  obtain⟨j,u⟩:=ju
  rw[hg]at hb
  simp only at hb⊢
  cases hy:yl ops st.1 j with
  | none=>rw[hy]at hb;cases hb
  | some q=>rw[hy]at hb;cases hb;rw[yl_spec h hy]
def Ac.writes:Ac→List Nat
 | .no=>[]
 | .blk b x=>bif x then [b]else []
 | .grow n k=>(List.range k).map (n+·)
 | .app b n k=>(match b with | some c=>[c] | none=>[])++(List.range k).filter (Nat.ble n ·)
 | .ins b=>[b]
theorem mem_writes{a:Ac}{b:Nat}(h:a.wr b=true):b∈a.writes:=by
 cases a with
 | no=>cases h
 | blk c y=>simp only[Ac.wr,Bool.and_eq_true,beq_iff_eq]at h;obtain⟨rfl,rfl⟩:=h;simp[Ac.writes]
 | grow n k =>
  simp only[Ac.wr,Bool.and_eq_true,Nat.ble_eq]at h
  have h2:b < n+k:=by simpa using h.2
  simp only[Ac.writes,List.mem_map,List.mem_range]
  exact⟨b-n,by omega,by omega⟩
 | ins c=>simp only[Ac.wr,beq_iff_eq]at h;subst h;simp[Ac.writes]
 | app c n k =>
  simp only[Ac.wr,Bool.or_eq_true,Bool.and_eq_true,beq_iff_eq,Nat.ble_eq]at h
  simp only[Ac.writes,List.mem_append,List.mem_filter,List.mem_range,Nat.ble_eq]
  rcases h with rfl | ⟨h1,h2⟩
  ·exact .inl (by simp)
  ·exact .inr ⟨by simpa using h2,h1⟩
def badOf(M:List Nat)(ac:Nat→Ac)(i:Nat):List Nat:=(List.range i).flatMap fun j=>bif (M.getD i 0).testBit j then []else(ac j).writes
structure Seq(P:Program)(tab:Tab)(m:Nat)(cl:Nat→OracleP)(M:List Nat)(ops:Array Oper)(seq:Nat→St)(val:Nat→SV)(ac:Nat→Ac):Prop where
 step:∀ i o,ops[i]? = some o→(seq (i+1)).1=putL (seq i).1 o.dst (val i)∧
  ((wantB ops (seq i).1 o=some false∧val i=.v undef∧(seq (i+1)).2=(seq i).2∧ac i=.no)∨
   (wantB ops (seq i).1 o=some true∧isDefer o.op=false∧OpA P tab m cl (badOf M ac i) (seq i).1 (seq i).2 o (val i) (seq (i+1)).2 (ac i)))
def dstB(ops:Array Oper)(t i:Nat):Bool:=match ops[i]? with
 | some o=>o.dst==some t
 | none=>false
def tS(ops:Array Oper)(val:Nat→SV)(ts0:List SV)(S:Nat→Bool)(t:Nat):SV:=match lw (dstB ops t) S ops.size with
 | some i=>val i
 | none=>ts0.getD t .any
def mF(seq:Nat→St)(ac:Nat→Ac)(S:Nat→Bool)(b:Nat):Nat→Option Blk
 | 0=>get2 (seq 0).2 b
 | n+1=>if(ac n).wr b=true∧S n=true then(if(ac n).isIns b=true then addL (mF seq ac S b n) (get2 (seq (n+1)).2 b)else get2 (seq (n+1)).2 b)else mF seq ac S b n
def mS(ops:Array Oper)(seq:Nat→St)(ac:Nat→Ac)(S:Nat→Bool)(b:Nat):Option Blk:=mF seq ac S b ops.size
theorem mF_congr{seq:Nat→St}{ac:Nat→Ac}{S S':Nat→Bool}{b:Nat}:∀ {n:Nat},(∀ i,i < n→(ac i).wr b=true→S i=S' i)→mF seq ac S b n=mF seq ac S' b n
 | 0,_=>rfl
 | n+1,h=>by
  simp only[mF]
  rw[mF_congr (n:=n) fun i hi hw=>h i (by omega) hw]
  by_cases hw:(ac n).wr b=true
  ·rw[h n (by omega) hw]
  ·simp[hw]
theorem mF_last{seq:Nat→St}{ac:Nat→Ac}{S:Nat→Bool}{b i:Nat}(hW:(ac i).wr b=true)(hI:(ac i).isIns b=false)(hS:S i=true):∀ {n:Nat},i < n→(∀ j,j < n→(ac j).wr b=true→S j=true→j≤i)→mF seq ac S b n=get2 (seq (i+1)).2 b
 | 0,h,_=>by omega
 | n+1,h,hle=>by
  simp only[mF]
  by_cases e:n=i
  ·subst e;simp[hW,hS,hI]
  ·rw[if_neg (fun hn=>by have:=hle n (by omega) hn.1 hn.2;omega)]
   exact mF_last hW hI hS (by omega) fun j hj=>hle j (by omega)
theorem mF_none{seq:Nat→St}{ac:Nat→Ac}{S:Nat→Bool}{b:Nat}:∀ {n:Nat},(∀ i,i < n→(ac i).wr b=true→S i=false)→mF seq ac S b n=get2 (seq 0).2 b
 | 0,_=>rfl
 | n+1,h=>by
  simp only[mF]
  rw[if_neg (fun hn=>by have:=h n (by omega) hn.1;rw[hn.2]at this;cases this)]
  exact mF_none fun i hi=>h i (by omega)
theorem lt_mF{seq:Nat→St}{ac:Nat→Ac}{b:Nat}:∀ {n i:Nat},i≤n→mF seq ac (fun j=>decide (j < i)) b n=mF seq ac (fun _=>true) b i:=by
  intro n
  induction n with
  | zero=>intro i hi;obtain rfl:i=0:=by omega
          rfl
  | succ n ih =>
    intro i hi
    by_cases e:i=n+1
    · subst e
      exact mF_congr fun j hj _=>by simp[hj]
    · simp only[mF]
      rw[if_neg (by simp;omega)]
      exact ih (by omega)
def stS(ops:Array Oper)(seq:Nat→St)(val:Nat→SV)(ac:Nat→Ac)(S:Nat→Bool):St :=
 ((List.range (seq 0).1.length).map (tS ops val (seq 0).1 S),(List.range (seq ops.size).2.length).map (mS ops seq ac S))
theorem frzs_len{ss:List SV}{mem:Mem}{b:Nat}(h:∀ c∈rowsAll ss,c=b)(hl:liveB mem b=true):(frzs m ss mem).2.length=mem.length:=by
 obtain⟨_,k2,_⟩:=frzs_local (m:=m) (mem:=mem) (mem2:=mem) h rfl (liveB_lt rfl hl)
 rw[k2];simp
theorem app_frame{t u:TypeId}{mem mem':Mem}{s x o:SV}{q:Res}(h:appE P m mem t u s x=some q)(ho:q.Out o mem'):
  (∀ c,ptrB s≠some c→c < mem.length→get2 mem' c=get2 mem c)∧∀ c,ptrB s=some c→mem.length≤mem'.length→c < mem'.length:=by
 unfold appE at h
 split at h
 ·split at h
  ·rename_i e _ _ _ i D hi hD
   split at h
   ·split at h
    ·split at h
     ·cases h
      obtain⟨y,_,he⟩:=ho
      simp only[Prod.mk.injEq]at he
      obtain⟨_,rfl⟩:=he
      have key:(D.mem=mem∧ptrB s=none)∨∃ b,ptrB s=some b∧b < mem.length∧D.mem=mem.set b (some .gone):=by
       unfold dstE at hD
       split at hD
       ·left
        cases hT:tyOf P 8 e with
        | none=>rw[hT]at hD;cases hD
        | some T=>rw[hT]at hD;cases hD;exact⟨rfl,rfl⟩
       ·split at hD
        ·rename_i b _ _ _ _ hb
         split at hD
         ·cases hD;exact .inr ⟨b,rfl,(List.getElem?_eq_some_iff.1 hb).1,rfl⟩
         ·cases hD
        ·cases hD
       ·split at hD
        ·rename_i b _ _ _ _ _ _ hb
         split at hD
         ·cases hD;exact .inr ⟨b,rfl,(List.getElem?_eq_some_iff.1 hb).1,rfl⟩
         ·cases hD
        ·cases hD
       ·cases hD
      rcases key with⟨k1,k2⟩ | ⟨b,k1,k2,k3⟩
      ·refine⟨fun c _ hc=>?_,fun c hc=>by rw[k2]at hc;cases hc⟩
       rw[k1];unfold get2;rw[List.getElem?_append_left hc]
      ·refine⟨fun c hn hc=>?_,fun c hc hl=>?_⟩
       ·rw[k3]
        unfold get2
        rw[List.getElem?_append_left (by simpa using hc),List.getElem?_set_ne fun e=>hn (by rw[k1,e])]
       ·rw[k1]at hc;cases hc;omega
     ·cases h
    ·cases h
   ·cases h
  ·cases h
 ·cases h
theorem ins_frame{t:TypeId}{mem mem':Mem}{s x y o:SV}{q:Res}(h:insertE P m mem t s x y=some q)(ho:q.Out o mem'):∃ b z,ptrB s=some b∧b < mem.length∧mem'=mem.set b z:=by
 unfold insertE at h
 split at h
 ·split at h
  ·rename_i hb
   split at h
   ·split at h
    ·cases h;exact⟨_,_,rfl,(List.getElem?_eq_some_iff.1 hb).1,ho.2⟩
    ·cases h
   ·cases h
  ·cases h
 ·cases h
theorem ent_frame{t:TypeId}{mem mem':Mem}{s x o:SV}{q:Res}(h:entryE P m mem t s x=some q)(ho:q.Out o mem'):∃ b z,ptrB s=some b∧b < mem.length∧mem'=mem.set b z:=by
 unfold entryE at h
 split at h
 ·split at h
  ·rename_i hb _
   split at h
   ·split at h
    ·cases h;exact⟨_,_,rfl,(List.getElem?_eq_some_iff.1 hb).1,ho.2⟩
    ·cases h
   ·cases h
  ·cases h
 ·cases h
theorem stp_frame{mem mem':Mem}{s x y o:SV}{q:Res}(h:stampE m mem s x y=some q)(ho:q.Out o mem'):∃ b z,ptrB s=some b∧b < mem.length∧mem'=mem.set b z:=by
 unfold stampE at h
 split at h
 ·split at h
  ·rename_i hb
   split at h
   ·cases h;exact⟨_,_,rfl,(List.getElem?_eq_some_iff.1 hb).1,ho.2⟩
   ·cases h
  ·cases h
 ·cases h
theorem cpy_frame{t u:TypeId}{mem mem':Mem}{s x o:SV}{q:Res}(h:copyE P m mem t u s x=some q)(ho:q.Out o mem'):∃ b z,ptrB s=some b∧b < mem.length∧mem'=mem.set b z:=by
 unfold copyE at h
 split at h
 ·split at h
  ·split at h
   ·rename_i hb
    split at h
    ·split at h
     ·cases h
      obtain⟨y,_,he⟩:=ho
      exact⟨_,_,rfl,(List.getElem?_eq_some_iff.1 hb).1,(Prod.mk.inj he).2.symm⟩
     ·cases h
    ·cases h
   ·cases h
  ·split at h
   ·rename_i hb
    split at h
    ·split at h
     ·cases h
      obtain⟨y,_,he⟩:=ho
      exact⟨_,_,rfl,(List.getElem?_eq_some_iff.1 hb).1,(Prod.mk.inj he).2.symm⟩
     ·cases h
    ·cases h
   ·cases h
  ·cases h
 ·cases h
theorem bar_both{ts:List SV}{mem mem':Mem}{o:Oper}{s:SV}{q:Res}(hib:isBar o.op=true)(hq:opS P m ts mem o=some q)(ho:q.Out s mem'):
  (∀ c,barB ts o≠some c→c < mem.length→get2 mem' c=get2 mem c)∧∀ c,barB ts o=some c→mem.length≤mem'.length→c < mem'.length:=by
 have of_set:∀ {a:SV},(∃ b z,ptrB a=some b∧b < mem.length∧mem'=mem.set b z)→(∀ c,ptrB a≠some c→c < mem.length→get2 mem' c=get2 mem c)∧∀ c,ptrB a=some c→mem.length≤mem'.length→c < mem'.length:=by
  rintro a ⟨b,z,h1,h2,rfl⟩
  refine⟨fun c hn hc=>?_,fun c hc hl=>by rw[h1]at hc;cases hc;simpa using h2⟩
  unfold get2
  rw[List.getElem?_set_ne fun e=>hn (by rw[h1,e])]
 unfold isBar at hib
 split at hib
 ·rename_i t hop
  simp only[opS,hop]at hq
  simp only[barB,hop]
  split at hq
  ·cases hq
   obtain⟨rfl,rfl⟩:=ho
   refine⟨fun c _ hc=>?_,fun c hc=>by cases hc⟩
   unfold get2;rw[List.getElem?_append_left hc]
  ·cases hq
 ·rename_i t x y z hop
  simp only[opS,hop]at hq
  simp only[barB,hop]
  split at hq
  ·exact of_set (ins_frame hq ho)
  ·cases hq
 ·rename_i t x y z hop
  simp only[opS,hop]at hq
  simp only[barB,hop]
  split at hq
  ·exact of_set (ins_frame hq ho)
  ·cases hq
 ·rename_i t x y hop
  simp only[opS,hop]at hq
  simp only[barB,hop]
  split at hq
  ·exact of_set (ent_frame hq ho)
  ·cases hq
 ·rename_i t x y z hop
  simp only[opS,hop]at hq
  simp only[barB,hop]
  split at hq
  ·exact of_set (stp_frame hq ho)
  ·cases hq
 ·rename_i x y t u hop
  simp only[opS,hop]at hq
  simp only[barB,hop]
  split at hq
  ·exact app_frame hq ho
  ·cases hq
 ·rename_i x y t u hop
  simp only[opS,hop]at hq
  simp only[barB,hop]
  split at hq
  ·exact of_set (cpy_frame hq ho)
  ·cases hq
 ·cases hib
theorem bar_frame{ts:List SV}{mem mem':Mem}{o:Oper}{s:SV}{q:Res}(hib:isBar o.op=true)(hq:opS P m ts mem o=some q)(ho:q.Out s mem'){c:Nat}(hc:barB ts o≠some c)(hl:c < mem.length):get2 mem' c=get2 mem c:=(bar_both hib hq ho).1 c hc hl
theorem opA_frame{bad:List Nat}{ts:List SV}{mem mem':Mem}{o:Oper}{s:SV}{ac:Ac}(h:OpA P tab m cl bad ts mem o s mem' ac):
  mem.length≤mem'.length∧(∀ b,ac.wr b=false→get2 mem' b=get2 mem b):=by
 cases h with
 | tab1 b g args E x y hc he htab hrow hlv hx hy =>
  obtain⟨_,_,k3⟩:=frzs_local (m:=m) (mem:=mem) (mem2:=mem) hrow rfl (liveB_lt rfl hlv)
  cases hfl:E.rs.all flatT with
  | true=>exact⟨Nat.le_refl _,fun _ _=>rfl⟩
  | false =>
  refine⟨Nat.le_of_eq (frzs_len hrow hlv).symm,fun c hc=>?_⟩
  exact k3 c fun e=>(by subst e;simp[Ac.wr,hfl]at hc)
 | new N y hc hp hn hb hy =>
  refine⟨by simp,fun b hb=>?_⟩
  have hne:b≠mem.length:=fun e=>(by subst e;simp[Ac.wr]at hb)
  by_cases hlt:b < mem.length
  ·unfold get2;rw[List.getElem?_append_left hlt]
  ·unfold get2
   rw[List.getElem?_eq_none (by simp;omega),List.getElem?_eq_none (by omega)]
 | yl i args s mem' hc hle hm hev =>
  refine⟨hle,fun b hb=>?_⟩
  have hge:¬b < mem'.length:=fun q=>by
   simp only[Ac.wr,Bool.or_eq_false_iff,Bool.and_eq_false_iff]at hb
   rcases hb.2 with h | h
   ·rw[show Nat.ble 0 b=true from by rw[Nat.ble_eq];exact Nat.zero_le b]at h;cases h
   ·rw[show Nat.blt b mem'.length=true from by simpa using q]at h;cases h
  unfold get2
  rw[List.getElem?_eq_none (by omega),List.getElem?_eq_none (by omega)]
 | bar q s mem' hc hp hib hle hm hq ho =>
  refine⟨hle,fun b hb=>?_⟩
  simp only[Ac.wr,Bool.or_eq_false_iff,beq_eq_false_iff_ne,Bool.and_eq_false_iff]at hb
  by_cases hlt:b < mem.length
  ·exact bar_frame hib hq ho hb.1 hlt
  ·have hge:¬b < mem'.length:=fun q=>by
    rcases hb.2 with h | h
    ·rw[show Nat.ble mem.length b=true from by simpa using hlt]at h;cases h
    ·rw[show Nat.blt b mem'.length=true from by simpa using q]at h;cases h
   unfold get2
   rw[List.getElem?_eq_none (by omega),List.getElem?_eq_none (by omega)]
 | ins b mem' hc hp hi =>
  obtain⟨_,_,_,_,_,_,_,_,_,_,_,_,_,_,hb,_,_,rfl⟩:=insB_some hi
  refine⟨by simp,fun c hc=>?_⟩
  unfold get2
  rw[List.getElem?_set,if_neg fun e=>(by subst e;simp[Ac.wr]at hc)]
 | op q s mem' hc hp hn hok hq ho =>
  have hloc:=opS_local (P:=P) (m:=m) (ts:=ts) (ts2:=ts) (mem:=mem) (mem2:=mem) (o:=o) (fun _ _=>rfl) hn (fun _ _ _=>rfl)
  rw[hq]at hloc
  simp only[Option.map_some,Option.some.injEq]at hloc
  have:∃ mem'',mem'=upM mem mem'' (acOf ts o):=by
   rw[hloc]at ho
   clear hloc hq
   induction q with
   | det s0 m0=>exact⟨m0,ho.2⟩
   | part α x out =>
    obtain⟨y,_,he⟩:=ho
    simp only[Prod.mk.injEq]at he
    exact⟨(out y).2,he.2.symm⟩
   | alt c x y ihx ihy =>
    rcases ho with⟨_,ho⟩ | ⟨_,ho⟩
    ·exact ihx ho
    ·exact ihy ho
  obtain⟨mem'',rfl⟩:=this
  cases hac:acOf ts o with
  | no=>exact⟨Nat.le_refl _,fun _ _=>rfl⟩
  | grow n k=>rw[hac]at hok;cases hok
  | app _ _ _=>rw[hac]at hok;cases hok
  | ins _=>rw[hac]at hok;cases hok
  | blk b w =>
   cases w with
   | false=>exact⟨Nat.le_refl _,fun _ _=>rfl⟩
   | true =>
    refine⟨by simp[upM],fun c hc=>?_⟩
    simp only[upM]
    unfold get2
    rw[List.getElem?_set,if_neg fun e=>(by subst e;simp[Ac.wr]at hc)]
 | inl g args s mem'' hc he hcb hargs hev hs =>
  refine⟨by simp,fun b hb=>?_⟩
  by_cases hlt:b < mem.length
  ·unfold get2;rw[List.getElem?_append_left hlt]
  ·have h2:¬b < mem''.length:=fun h2=>by
    have h1:mem.length≤b:=by omega
    have h3:b < mem.length+(mem''.length-mem.length):=by omega
    simp[Ac.wr,h1]at hb
    rw[show Nat.blt b (mem.length+(mem''.length-mem.length))=true from by simpa using h3]at hb
    cases hb
   unfold get2
   rw[List.getElem?_eq_none (by simp;omega),List.getElem?_eq_none (by omega)]
 | _=>exact⟨Nat.le_refl _,fun _ _=>rfl⟩
theorem opA_new_lt{bad:List Nat}{ts:List SV}{mem mem':Mem}{o:Oper}{s:SV}{b:Nat}{x:Bool}(h:OpA P tab m cl bad ts mem o s mem' (.blk b x))(e:b=mem.length):b < mem'.length:=by
 have hl:∀ {i:Nat},liveB mem i=true→i < mem.length:=fun {i} h=>by
  unfold liveB get2 at h
  cases hq:mem[i]? with
  | none=>rw[hq]at h;cases h
  | some q=>exact(List.getElem?_eq_some_iff.1 hq).1
 have key:∀ {ac:Ac},OpA P tab m cl bad ts mem o s mem' ac→ac=.blk b x→b < mem'.length:=by
  intro ac h ea
  cases h with
  | tab1 b' g args E x y hc he htab hrow hlv hx hy=>cases ea;have:=hl hlv;omega
  | new N y hc hp hn hb hy=>cases ea;simp
  | op q s mem' hc hp hn hok hq ho=>rw[ea]at hok;have:=hl (i:=b) hok;omega
  | _=>cases ea
 exact key h rfl
theorem opA_grow{bad:List Nat}{ts:List SV}{mem mem':Mem}{o:Oper}{s:SV}{ac:Ac}(h:OpA P tab m cl bad ts mem o s mem' ac){n k:Nat}(e:ac=.grow n k):n=mem.length∧n+k≤mem'.length:=by
 cases h with
 | inl g args s mem'' hc he hcb hargs hev hs=>cases e;exact⟨rfl,by simp⟩
 | op q s mem' hc hp hn hok hq ho=>rw[e]at hok;cases hok
 | _=>cases e
theorem opA_all{bad:List Nat}{ts:List SV}{mem mem':Mem}{o:Oper}{s:SV}{ac:Ac}(h:OpA P tab m cl bad ts mem o s mem' ac){b':Option Nat}{n k:Nat}(e:ac=.app b' n k):k=mem'.length:=by
 cases h with
 | bar q s mem' hc hp hib hle hm hq ho=>cases e;rfl
 | yl i args s mem' hc hle hm hev=>cases e;rfl
 | op q s mem' hc hp hn hok hq ho=>rw[e]at hok;cases hok
 | _=>cases e
theorem opA_wr_lt{bad:List Nat}{ts:List SV}{mem mem':Mem}{o:Oper}{s:SV}{ac:Ac}(h:OpA P tab m cl bad ts mem o s mem' ac){b:Nat}(e:ac.wr b=true):b < mem'.length:=by
 have hle:=(opA_frame h).1
 cases h with
 | tab1 b' g args E x y hc he htab hrow hlv hx hy =>
  simp only[Ac.wr,Bool.and_eq_true,beq_iff_eq]at e
  have:b < mem.length:=by
   rw[←e.1]
   unfold liveB get2 at hlv
   cases hq:mem[b']? with
   | none=>rw[hq]at hlv;cases hlv
   | some q=>exact(List.getElem?_eq_some_iff.1 hq).1
  omega
 | new N y hc hp hn hb hy=>simp only[Ac.wr,Bool.and_eq_true,beq_iff_eq]at e;rw[←e.1];simp
 | inl g args s mem'' hc he hcb hargs hev hs =>
  simp only[Ac.wr,Bool.and_eq_true,Nat.ble_eq]at e
  have h2:b < mem.length+(mem''.length-mem.length):=by simpa using e.2
  simp;omega
 | yl i args s mem' hc hle hm hev =>
  simp only[Ac.wr,Bool.or_eq_true,Bool.and_eq_true]at e
  rcases e with e | ⟨_,e⟩
  ·exact absurd (show false=true from e) (by decide)
  ·simpa using e
 | bar q s mem' hc hp hib hle hm hq ho =>
  simp only[Ac.wr,Bool.or_eq_true,Bool.and_eq_true,beq_iff_eq]at e
  rcases e with e | ⟨_,e⟩
  ·exact(bar_both hib hq ho).2 _ e hle
  ·simpa using e
 | ins b' mem' hc hp hi =>
  obtain⟨_,_,_,_,_,_,_,_,_,_,_,_,_,_,hb,_,_,rfl⟩:=insB_some hi
  simp only[Ac.wr,beq_iff_eq]at e
  subst e
  simpa using(List.getElem?_eq_some_iff.1 hb).1
 | op q s mem' hc hp hn hok hq ho =>
  cases hac:acOf ts o with
  | no=>rw[hac]at e;cases e
  | grow n k=>rw[hac]at hok;cases hok
  | app _ _ _=>rw[hac]at hok;cases hok
  | ins _=>rw[hac]at hok;cases hok
  | blk c x =>
   rw[hac]at e hok
   simp only[Ac.wr,Bool.and_eq_true,beq_iff_eq]at e
   have:b < mem.length:=by
    rw[←e.1]
    simp only[acOK,liveB,get2]at hok
    cases hq:mem[c]? with
    | none=>rw[hq]at hok;cases hok
    | some q=>exact(List.getElem?_eq_some_iff.1 hq).1
   omega
 | _=>cases e
variable {ops:Array Oper}{seq:Nat→St}{val:Nat→SV}{ac:Nat→Ac}
theorem Seq.frame(h:Seq P tab m cl M ops seq val ac){i:Nat}{o:Oper}(ho:ops[i]? = some o):
  (seq i).2.length≤(seq (i+1)).2.length∧(∀ b,(ac i).wr b=false→get2 (seq (i+1)).2 b=get2 (seq i).2 b):=by
 obtain⟨_,h2⟩:=h.step i o ho
 rcases h2 with⟨_,_,e,e2⟩ | ⟨_,_,hA⟩
 ·rw[e];exact⟨Nat.le_refl _,fun _ _=>rfl⟩
 ·exact opA_frame hA
theorem ins_of{a:Ac}{b:Nat}(h:a.isIns b=true):a=.ins b:=by
 cases a with
 | ins c=>simp only[Ac.isIns,beq_iff_eq]at h;rw[h]
 | _=>cases h
theorem opA_ins{bad:List Nat}{ts:List SV}{mem mem':Mem}{o:Oper}{s:SV}{a:Ac}(h:OpA P tab m cl bad ts mem o s mem' a){b:Nat}(e:a=.ins b):insB P m ts mem o=some (b,mem'):=by
 cases h with
 | ins b' mem' hc hp hi=>cases e;exact hi
 | op q s mem' hc hp hn hok hq ho=>rw[e]at hok;cases hok
 | _=>cases e
theorem Seq.ins(h:Seq P tab m cl M ops seq val ac){i b:Nat}{o:Oper}(ho:ops[i]? = some o)(hi:(ac i).isIns b=true):
  ∃ k es p x,get2 (seq i).2 b=some (.map k es p)∧get2 (seq (i+1)).2 b=some (.map k (es++[x]) (es.length+1))∧(∀ e∈es,(x.1==e.1)=false):=by
 have hi:=ins_of hi
 obtain⟨_,h2⟩:=h.step i o ho
 rcases h2 with⟨_,_,_,e2⟩ | ⟨_,_,hA⟩
 ·rw[hi]at e2;cases e2
 ·obtain⟨t,x,y,z,k,et,q,es,p,_,_,_,_,_,hb,_,hall,hm⟩:=insB_some (opA_ins hA hi)
  refine⟨k,es,p,(q,ev (seq i).1 z),get2_some.2 hb,?_,fun e he=>?_⟩
  ·rw[hm,get2_set (List.getElem?_eq_some_iff.1 hb).1]
  ·have:=List.all_eq_true.1 hall e he
   simpa using this
theorem Seq.len(h:Seq P tab m cl M ops seq val ac):∀ {i j:Nat},i≤j→j≤ops.size→(seq i).2.length≤(seq j).2.length∧(seq j).1.length=(seq 0).1.length:=by
  intro i j hij hj
  induction j with
  | zero=>obtain rfl:i=0:=by omega
          exact⟨Nat.le_refl _,rfl⟩
  | succ j ih =>
    have hlt:j < ops.size:=by omega
    have ho:ops[j]? = some ops[j]:=Array.getElem?_eq_getElem hlt
    obtain⟨k1,_⟩:=h.step j _ ho
    have e1:(seq (j+1)).1.length=(seq j).1.length:=by
      rw[k1];cases ops[j].dst<;>simp[putL]
    by_cases e:i=j+1
    · subst e
      refine⟨Nat.le_refl _,?_⟩
      have:∀ q,q≤ops.size→(seq q).1.length=(seq 0).1.length:=by
        intro q
        induction q with
        | zero=>intro _;rfl
        | succ q ihq =>
          intro hq
          have hlt:q < ops.size:=by omega
          obtain⟨k1,_⟩:=h.step q _ (Array.getElem?_eq_getElem hlt)
          rw[k1,←ihq (by omega)]
          cases ops[q].dst<;>simp[putL]
      exact this _ hj
    · obtain⟨h1,h2⟩:=ih (by omega) (by omega)
      exact⟨Nat.le_trans h1 (h.frame ho).1,e1.trans h2⟩
theorem lt_lw{W:Nat→Bool}:∀ {n i:Nat},i≤n→lw W (fun j=>decide (j < i)) n=lw W (fun _=>true) i:=by
  intro n
  induction n with
  | zero=>intro i hi;obtain rfl:i=0:=by omega
          rfl
  | succ n ih =>
    intro i hi
    by_cases e:i=n+1
    · subst e
      exact lw_congr fun j hj _=>by simp[hj]
    · simp only[lw]
      rw[if_neg (by simp;omega)]
      exact ih (by omega)
theorem Seq.tmp(h:Seq P tab m cl M ops seq val ac):∀ {i:Nat},i≤ops.size→∀ t,t < (seq 0).1.length→(seq i).1[t]? = some (tS ops val (seq 0).1 (fun j=>decide (j < i)) t):=by
 intro i hi t ht
 unfold tS
 rw[lt_lw hi]
 induction i with
 | zero=>simp[lw,List.getD,List.getElem?_eq_getElem ht]
 | succ i ih =>
  have hlt:i < ops.size:=by omega
  have ho:ops[i]? = some ops[i]:=Array.getElem?_eq_getElem hlt
  obtain⟨k1,_⟩:=h.step i _ ho
  have hlen:=(h.len (Nat.zero_le i) (by omega)).2
  simp only[lw,and_true]
  rw[k1]
  by_cases hd:ops[i].dst=some t
  ·have:dstB ops t i=true:=by simp[dstB,ho,hd]
   rw[if_pos this,hd]
   simp[putL,hlen,ht]
  ·have:¬dstB ops t i=true:=by simp[dstB,ho,hd]
   rw[if_neg this,←ih (by omega)]
   cases hq:ops[i].dst with
   | none=>rfl
   | some d =>
    simp only[putL]
    rw[List.getElem?_set_ne (fun e=>hd (by rw[hq,e]))]
theorem Seq.memv(h:Seq P tab m cl M ops seq val ac):∀ {i:Nat},i≤ops.size→∀ b,get2 (seq i).2 b=mS ops seq ac (fun j=>decide (j < i)) b:=by
 intro i hi b
 unfold mS
 rw[lt_mF hi]
 induction i with
 | zero=>rfl
 | succ i ih =>
  have hlt:i < ops.size:=by omega
  have ho:ops[i]? = some ops[i]:=Array.getElem?_eq_getElem hlt
  simp only[mF,and_true]
  by_cases hd:(ac i).wr b=true
  ·rw[if_pos hd]
   by_cases hi:(ac i).isIns b=true
   ·rw[if_pos hi,←ih (by omega)]
    obtain⟨k,es,p,x,g1,g2,_⟩:=h.ins ho hi
    rw[g1,g2]
    simp[addL]
   ·rw[if_neg hi]
  ·rw[if_neg hd,←ih (by omega)]
   exact(h.frame ho).2 b (by simpa using hd)
structure Inv[HasP](P:Program)(w0:World)(m ne:Nat)(ops:Array Oper)(seq:Nat→St)(val:Nat→SV)(ac:Nat→Ac)(B0:Loc)(F0:Nat→Prop)(wb:World)(ds:List Deferred)(listed:Array Bool)(B:Loc)(F:Nat→Prop)(a:Act)(w:World):Prop where
 size:listed.size=ops.size
 closed:Closed ops (fun i=>listed.getD i false=true)
 r:R w0 m ne (stS ops seq val ac (fun i=>listed.getD i false)) B F a w
 old:∀ i,Live (seq 0).2 i→B i=B0 i∧Live (stS ops seq val ac (fun i=>listed.getD i false)).2 i
 fs:∀ i,F0 i→F i
 keep:KeepsF F0 wb w
 fn:∀ i,F i→F0 i∨w0.heap.size≤i
 rnd:∀ (i:Nat) (q:Rnd),(stS ops seq val ac (fun i=>listed.getD i false)).2[i]? = some (some (.rnd q))→∃ q',(seq 0).2[i]? = some (some (.rnd q'))
 df:a.defers=ds
theorem stS_tmp{S:Nat→Bool}{t:Nat}:(stS ops seq val ac S).1[t]? = if t < (seq 0).1.length then some (tS ops val (seq 0).1 S t)else none:=by
 simp only[stS,List.getElem?_map]
 by_cases h:t < (seq 0).1.length
 ·simp[h]
 ·rw[if_neg h,List.getElem?_eq_none (by simpa using h)];rfl
theorem stS_mem{S:Nat→Bool}{b:Nat}:(stS ops seq val ac S).2[b]? = if b < (seq ops.size).2.length then some (mS ops seq ac S b)else none:=by
 simp only[stS,List.getElem?_map]
 by_cases h:b < (seq ops.size).2.length
 ·simp[h]
 ·rw[if_neg h,List.getElem?_eq_none (by simpa using h)];rfl
theorem looks_op{o:Oper}{t:Nat}(h:.tmp t∈o.op.operands):t∈o.looksAt ops:=by
 unfold Oper.looksAt
 refine List.mem_append.2 (.inl (List.mem_filterMap.2 ⟨.tmp t,by simpa using h,rfl⟩))
theorem looks_guard{o og:Oper}{g:Nat}{u:Bool}{t:Nat}(h:o.guard=some (g,u))(hg:ops[g]? = some og)(hd:og.dst=some t):t∈o.looksAt ops:=by
 unfold Oper.looksAt
 refine List.mem_append.2 (.inr ?_)
 simp[h,hg,hd]
theorem wantB_congr{ts ts2:List SV}{o:Oper}(h:∀ t,t∈o.looksAt ops→ts2[t]? = ts[t]?):wantB ops ts2 o=wantB ops ts o:=by
 unfold wantB
 cases hg:o.guard with
 | none=>rfl
 | some ju =>
  obtain⟨j,u⟩:=ju
  simp only
  have:yl ops ts2 j=yl ops ts j:=by
   unfold yl
   cases hj:ops[j]? with
   | none=>rfl
   | some oj =>
    simp only[Option.bind_some]
    cases hd:oj.dst with
    | none=>rfl
    | some t=>simp only[h t (looks_guard hg hj hd)]
  rw[this]
theorem mem_badOf{i b j:Nat}(hj:j < i)(ha:(ac j).wr b=true)(hb:b∉badOf M ac i):(M.getD i 0).testBit j=true:=by
 cases h:(M.getD i 0).testBit j with
 | true=>rfl
 | false =>
  refine absurd ?_ hb
  unfold badOf
  rw[List.mem_flatMap]
  exact⟨j,List.mem_range.2 hj,by rw[h];exact mem_writes ha⟩
def itOK(n:Nat)(mem:Mem):Bool:=mem.all fun x=>match x with
 | some (.iter mb _ _ _)=>Nat.blt mb n
 | _=>true
theorem itOK_spec{n:Nat}{mem:Mem}(h:itOK n mem=true){c mb k:Nat}{s:List Nat}{l:Option Nat}(hc:get2 mem c=some (.iter mb k s l)):mb < n:=by
 have:=List.all_eq_true.1 h _ (List.mem_of_getElem? (get2_some.1 hc))
 simpa using this
theorem addL_iter{cur nw:Option Blk}{mb k:Nat}{s:List Nat}{l:Option Nat}(h:addL cur nw=some (.iter mb k s l)):cur=some (.iter mb k s l):=by
 unfold addL at h
 split at h
 ·split at h
  ·cases h
  ·exact h
 ·exact h
theorem iter_state{n0:Nat}(hit:∀ q,q≤ops.size→itOK n0 (seq q).2=true){S:Nat→Bool}{c mb k:Nat}{s:List Nat}{l:Option Nat}:∀ n,n≤ops.size→mF seq ac S c n=some (.iter mb k s l)→mb < n0
 | 0,h0,h=>itOK_spec (hit 0 h0) h
 | n+1,h0,h=>by
  simp only[mF]at h
  split at h
  ·split at h
   ·exact iter_state hit n (by omega) (addL_iter h)
   ·exact itOK_spec (hit (n+1) h0) h
  ·exact iter_state hit n (by omega) h
theorem clash_i{ops:Array Oper}{oi oj:Oper}{a:Ac}{b:Nat}(h:a.wr b=true)(hn:a.isIns b=false):clash ops oj oi a (.ins b)=true:=by
 unfold clash
 cases a with
 | no=>cases h
 | blk c y=>simp only[Ac.wr,Bool.and_eq_true,beq_iff_eq]at h;simp[h.1]
 | grow n k=>simp only[Ac.wr,Bool.and_eq_true]at h;simp only[h.2,Bool.or_true]
 | app b' n k=>simp
 | ins c=>simp only[Ac.wr]at h;simp only[Ac.isIns]at hn;rw[h]at hn;cases hn
theorem ins_state(hs:Seq P tab m cl M ops seq val ac){i b:Nat}{o:Oper}(ho:ops[i]? = some o)(hb:ac i=.ins b){S S':Nat→Bool}(hSi:S i=false)(hS':∀ j,S' j=if j=i then true else S j)
  (hfull:∀ j,j < ops.size→(ac j).wr b=true→(ac j).isIns b=false→j < i∧S j=true) :
  ∃ k es p x es1 es2 p2,get2 (seq i).2 b=some (.map k es p)∧get2 (seq (i+1)).2 b=some (.map k (es++[x]) (es.length+1))∧mS ops seq ac S b=some (.map k (es1++es2) p2)∧(∀ e∈es1++es2,(x.1==e.1)=false)∧
   mS ops seq ac S' b=some (.map k (es1++x::es2) (es1.length+es2.length+1)):=by
 have hlt:i < ops.size:=(Array.getElem?_eq_some_iff.1 ho).1
 have hget:∀ j,j < ops.size→ops[j]? = some ops[j]! := fun j hj=>by rw[getElem!_pos ops j hj];exact Array.getElem?_eq_getElem hj
 obtain⟨k,es,p,x,g1,g2,g3⟩:=hs.ins (b:=b) ho (by rw[hb];simp[Ac.isIns])
 have stepA:∀ n,n≤i→∀ k esT pT,get2 (seq n).2 b=some (.map k esT pT)→∃ es p,mF seq ac S b n=some (.map k es p)∧∀ e∈es,e∈esT:=by
  intro n
  induction n with
  | zero=>intro _ k esT pT h;exact⟨esT,pT,h,fun e h=>h⟩
  | succ n ih =>
   intro hn k esT pT h
   have hln:n < ops.size:=by omega
   simp only[mF]
   by_cases hw:(ac n).wr b=true
   ·by_cases hi:(ac n).isIns b=true
    ·obtain⟨k',es',p',y,f1,f2,_⟩:=hs.ins (hget n hln) hi
     rw[f2]at h;cases h
     obtain⟨es'',p'',e1,e2⟩:=ih (by omega) _ _ _ f1
     by_cases hSn:S n=true
     ·refine⟨es''++[y],es''.length+1,?_,fun e he=>?_⟩
      ·rw[if_pos ⟨hw,hSn⟩,if_pos hi,e1,f2];simp[addL]
      ·rcases List.mem_append.1 he with he | he
       ·exact List.mem_append.2 (.inl (e2 e he))
       ·exact List.mem_append.2 (.inr he)
     ·refine⟨es'',p'',?_,fun e he=>List.mem_append.2 (.inl (e2 e he))⟩
      rw[if_neg fun h=>hSn h.2];exact e1
    ·obtain⟨_,hSn⟩:=hfull n hln hw (by simpa using hi)
     rw[if_pos ⟨hw,hSn⟩,if_neg hi]
     exact⟨esT,pT,h,fun e h=>h⟩
   ·rw[if_neg fun h=>hw h.1]
    rw[(hs.frame (hget n hln)).2 b (by simpa using hw)]at h
    exact ih (by omega) _ _ _ h
 obtain⟨es1,p1,e1,e2⟩:=stepA i (Nat.le_refl _) _ _ _ g1
 have stepB:∀ n,i+1≤n→n≤ops.size→∃ es2 p2,mF seq ac S b n=some (.map k (es1++es2) p2)∧mF seq ac S' b n=some (.map k (es1++x::es2) (es1.length+es2.length+1))∧(∀ e∈es2,(x.1==e.1)=false)∧
   ∃ esT pT,get2 (seq n).2 b=some (.map k esT pT)∧x∈esT:=by
  intro n
  induction n with
  | zero=>intro h;omega
  | succ n ih =>
   intro hn hln
   by_cases hni:n=i
   ·subst hni
    refine⟨[],p1,?_,?_,fun e h=>(by cases h),_,_,g2,by simp⟩
    ·simp only[mF]
     rw[if_neg fun h=>by rw[hSi]at h;cases h.2]
     simpa using e1
    ·simp only[mF]
     rw[if_pos ⟨by rw[hb];simp[Ac.wr],by rw[hS'];simp⟩,if_pos (by rw[hb];simp[Ac.isIns]),mF_congr (S':=S) fun j hj _=>by rw[hS',if_neg (by omega)],e1,g2]
     simp[addL]
   ·obtain⟨es2,p2,h1,h2,h3,esT,pT,h4,h5⟩:=ih (by omega) (by omega)
    simp only[mF]
    have hSn:S' n=S n:=by rw[hS',if_neg hni]
    rw[hSn]
    by_cases hw:(ac n).wr b=true
    ·by_cases hi:(ac n).isIns b=true
     ·obtain⟨k',es',p',y,f1,f2,f3⟩:=hs.ins (hget n (by omega)) hi
      rw[h4]at f1;cases f1
      have hxy:(x.1==y.1)=false:=by
       have:=f3 x h5
       rw[beq_eq_false_iff_ne]at this⊢
       exact fun e=>this e.symm
      by_cases hS:S n=true
      ·refine⟨es2++[y],(es1++es2).length+1,?_,?_,fun e he=>?_,_,_,f2,List.mem_append.2 (.inl h5)⟩
       ·rw[if_pos ⟨hw,hS⟩,if_pos hi,h1,f2];simp[addL]
       ·rw[if_pos ⟨hw,hS⟩,if_pos hi,h2,f2];simp[addL,Nat.add_assoc]
       ·rcases List.mem_append.1 he with he | he
        ·exact h3 e he
        ·rw[List.mem_singleton]at he;subst he;exact hxy
      ·refine⟨es2,p2,?_,?_,h3,_,_,f2,List.mem_append.2 (.inl h5)⟩
       ·rw[if_neg fun h=>hS h.2];exact h1
       ·rw[if_neg fun h=>hS h.2];exact h2
     ·have:=hfull n (by omega) hw (by simpa using hi)
      omega
    ·rw[if_neg fun h=>hw h.1,if_neg fun h=>hw h.1]
     refine⟨es2,p2,h1,h2,h3,esT,pT,?_,h5⟩
     rw[(hs.frame (hget n (by omega))).2 b (by simpa using hw)];exact h4
 obtain⟨es2,p2,h1,h2,h3,_⟩:=stepB ops.size (by omega) (Nat.le_refl _)
 refine⟨k,es,p,x,es1,es2,p2,g1,g2,h1,fun e he=>?_,h2⟩
 rcases List.mem_append.1 he with he | he
 ·exact g3 e (e2 e he)
 ·exact h3 e he
def turnS(a c q:Nat):Nat:=if q < a then q else if q=a then a+c else if q≤a+c then q-1 else q
def turnT(a c r:Nat):Nat:=if r < a then r else if r < a+c then r+1 else if r=a+c then a else r
theorem turn_l(a c q:Nat):turnT a c (turnS a c q)=q:=by
 unfold turnT turnS;repeat' split
 all_goals omega
theorem turn_r(a c q:Nat):turnS a c (turnT a c q)=q:=by
 unfold turnT turnS;repeat' split
 all_goals omega
theorem turn_get{α:Type}(l1 l2:List α)(x:α)(q:Nat):(l1++x::l2)[q]? =((l1++l2)++[x])[turnS l1.length l2.length q]? := by
 unfold turnS
 split
 ·rename_i h
  rw[List.getElem?_append_left h,List.getElem?_append_left (by simp;omega),List.getElem?_append_left h]
 ·split
  ·rename_i h
   subst h
   rw[List.getElem?_append_right (Nat.le_refl _),List.getElem?_append_right (by simp)]
   simp
  ·split
   ·rw[List.getElem?_append_right (by omega),List.getElem?_append_left (by simp;omega),List.getElem?_append_right (by omega)]
    obtain⟨d,rfl⟩:∃ d,q=l1.length+1+d:=⟨q-(l1.length+1),by omega⟩
    rw[show l1.length+1+d-l1.length=d+1 from by omega,show l1.length+1+d-1-l1.length=d from by omega,List.getElem?_cons_succ]
   ·rw[List.getElem?_eq_none (by simp;omega),List.getElem?_eq_none (by simp;omega)]
theorem drawn_step[HasP](hG:∀ w w',G w→Below w.heap.size w w'→G w')(ht:TabOK P G tab)(hcl:∀ n ρ,CallK P G n (cl n ρ))(hg:G w0)(hs:Seq P tab m cl M ops seq val ac){acs:List Ac}(hacs:∀ i,i < ops.size→acs[i]? = some (ac i))(hO:Ord ops acs M)(hm0:m≤(seq 0).2.length)
  (hok:∀ j b,j < ops.size→ac j=.ins b→(seq 0).2.length≤b∧∀ q,j < q→q < ops.size→(ac q).wr b=true→(ac q).isIns b=true) (hit:∀ j b,j < ops.size→ac j=.ins b→∀ q,q≤ops.size→itOK (seq 0).2.length (seq q).2=true)
  {B0:Loc} {F0:Nat→Prop} {wb:World} {ds:List Deferred} {listed:Array Bool} {B:Loc} {F:Nat→Prop} {a:Act} {w:World} (hI:Inv P w0 m ne ops seq val ac B0 F0 wb ds listed B F a w) {i:Nat} (hr:i∈Region.ready .any ops listed) {l:Option Nat}
  {K:Act→World→Prop} {Q:Exit→Act→World→Prop} (hK:∀ B' F' a' w',Inv P w0 m ne ops seq val ac B0 F0 wb ds (listed.setIfInBounds i true) B' F' a' w'→K a' w'):wpOpIn (fen l) 0 P ops Q i K a w:=by
 rw[mem_ready]at hr
 obtain⟨hi0,o,ho,hpre⟩:=hr
 have hlt:i < ops.size:=(Array.getElem?_eq_some_iff.1 ho).1
 have hlt':i < listed.size:=by rw[hI.size];exact hlt
 have hSi:listed.getD i false=false:=by
  simp only[Array.getD_eq_getD_getElem?,Array.getElem?_eq_getElem hlt']at hi0⊢;exact hi0
 have hpreds:∀ p∈predsOf o,listed.getD p false=true:=by
  intro p hp
  obtain⟨e,he,rfl⟩:=List.mem_map.1 hp
  obtain⟨he1,he2⟩:=List.mem_filter.1 he
  exact hpre e (by simpa using he1) he2
 have sepL:∀ j oj,j < i→ops[j]? = some oj→clash ops oj o (ac j) (ac i)=true→listed.getD j false=true:=fun j oj hj hoj hc =>
  hO.closed hI.closed i i o (Nat.le_refl _) ho hpreds j (hO.sep j i oj o _ _ hj hoj ho (hacs j (by omega)) (hacs i hlt) hc)
 have sepR:∀ j oj,i < j→ops[j]? = some oj→clash ops o oj (ac i) (ac j)=true→listed.getD j false=false:=fun j oj hj hoj hc=>by
  cases hSj:listed.getD j false with
  | false=>rfl
  | true =>
   have hjl:j < ops.size:=(Array.getElem?_eq_some_iff.1 hoj).1
   have:=hO.closed hI.closed j j oj (Nat.le_refl _) hoj (hI.closed j oj hoj hSj) i (hO.sep i j o oj _ _ hj ho hoj (hacs i hlt) (hacs j hjl) hc)
   simp only[hSi]at this;cases this
 have hwr:∀ t:Nat,t∈o.looksAt ops→tS ops val (seq 0).1 (fun i=>listed.getD i false) t=tS ops val (seq 0).1 (fun j=>decide (j < i)) t:=by
  intro t htl
  unfold tS
  rw[lw_congr (S':=fun j=>decide (j < i))]
  intro j hj hd
  unfold dstB at hd
  cases hoj:ops[j]? with
  | none=>rw[hoj]at hd;cases hd
  | some oj =>
   rw[hoj]at hd
   have hd':oj.dst=some t:=by simpa using hd
   by_cases e1:j < i
   ·rw[sepL j oj e1 hoj (by unfold clash;rw[hd'];simp[htl])];simp[e1]
   ·by_cases e2:j=i
    ·subst e2;rw[hSi];simp
    ·rw[sepR j oj (by omega) hoj (by unfold clash;rw[hd'];simp[htl])];simp[e1]
 have hmr:∀ b x,ac i=.blk b x→mS ops seq ac (fun i=>listed.getD i false) b=mS ops seq ac (fun j=>decide (j < i)) b:=by
  intro b x hb
  unfold mS
  rw[mF_congr (S':=fun j=>decide (j < i))]
  intro j hj hd
  have hoj:ops[j]? = some ops[j]:=Array.getElem?_eq_getElem hj
  by_cases e1:j < i
  ·rw[sepL j _ e1 hoj (by rw[hb];exact clash_l hd)];simp[e1]
  ·by_cases e2:j=i
   ·subst e2;rw[hSi];simp
   ·rw[sepR j _ (by omega) hoj (by rw[hb];exact clash_r hd)];simp[e1]
 have hma:∀ b' n k b,ac i=.app b' n k→mS ops seq ac (fun i=>listed.getD i false) b=mS ops seq ac (fun j=>decide (j < i)) b:=by
  intro b' n k b hb
  unfold mS
  rw[mF_congr (S':=fun j=>decide (j < i))]
  intro j hj hd
  have hoj:ops[j]? = some ops[j]:=Array.getElem?_eq_getElem hj
  by_cases e1:j < i
  ·rw[sepL j _ e1 hoj (by rw[hb];exact clash_al hd)];simp[e1]
  ·by_cases e2:j=i
   ·subst e2;rw[hSi];simp
   ·rw[sepR j _ (by omega) hoj (by rw[hb];exact clash_ar hd)];simp[e1]
 have hmd:∀ n k b,ac i=.grow n k→b < n→b∉badOf M ac i→mS ops seq ac (fun i=>listed.getD i false) b=mS ops seq ac (fun j=>decide (j < i)) b:=by
  intro n k b hn hbn hbad
  unfold mS
  rw[mF_congr (S':=fun j=>decide (j < i))]
  intro j hj hd
  have hoj:ops[j]? = some ops[j]:=Array.getElem?_eq_getElem hj
  by_cases e1:j < i
  ·have:=hO.closed hI.closed i i o (Nat.le_refl _) ho hpreds j (mem_badOf e1 hd hbad)
   rw[this];simp[e1]
  ·by_cases e2:j=i
   ·subst e2;rw[hSi];simp
   ·rw[sepR j _ (by omega) hoj (by rw[hn];exact clash_g hd (by omega))];simp[e1]
 have hts:∀ t:Nat,t∈o.looksAt ops→(stS ops seq val ac (fun i=>listed.getD i false)).1[t]? =(seq i).1[t]? := by
  intro t htl
  rw[stS_tmp]
  by_cases h:t < (seq 0).1.length
  ·rw[if_pos h,hs.tmp (Nat.le_of_lt hlt) t h,hwr t htl]
  ·have hln:=(hs.len (Nat.zero_le i) (Nat.le_of_lt hlt)).2
   have hnone:(seq i).1[t]? = none:=List.getElem?_eq_none (by omega)
   rw[if_neg h,hnone]
 have hops:∀ x∈o.op.operands,ev (stS ops seq val ac (fun i=>listed.getD i false)).1 x=ev (seq i).1 x:=by
  intro x hx
  cases x with
  | tmp t=>simp only[ev,List.getD,hts t (looks_op hx)]
  | _=>rfl
 have hset:∀ j,(listed.setIfInBounds i true).getD j false=if j=i then true else listed.getD j false:=by
  intro j
  by_cases e:j=i
  ·subst e;simp[hlt']
  ·rw[if_neg e,getD_set_ne false (Ne.symm e)]
 have hclosed':Closed ops (fun j=>(listed.setIfInBounds i true).getD j false=true):=by
  intro j oj hoj hSj p hp
  rw[hset]at hSj⊢
  by_cases e:p=i
  ·simp[e]
  ·rw[if_neg e]
   by_cases e2:j=i
   ·subst e2;rw[ho]at hoj;cases hoj;exact hpreds p hp
   ·rw[if_neg e2]at hSj;exact hI.closed j oj hoj hSj p hp
 obtain⟨hst1,hst2⟩:=hs.step i o ho
 have hT:putL (stS ops seq val ac (fun i=>listed.getD i false)).1 o.dst (val i)=(stS ops seq val ac (fun j=>(listed.setIfInBounds i true).getD j false)).1:=by
  apply List.ext_getElem?
  intro t
  rw[stS_tmp]
  have hl:(stS ops seq val ac (fun i=>listed.getD i false)).1.length=(seq 0).1.length:=by simp[stS]
  by_cases h:t < (seq 0).1.length
  ·rw[if_pos h]
   by_cases hd:o.dst=some t
   ·rw[hd]
    simp only[putL]
    rw[List.getElem?_set]
    simp only[hl,h,if_true]
    unfold tS
    rw[lw_last (i:=i) (by simp[dstB,ho,hd]) (by rw[hset];simp) hlt]
    intro j hj hdj hSj
    rw[hset]at hSj
    by_cases e:j=i
    ·omega
    ·rw[if_neg e]at hSj
     rcases Nat.lt_or_ge i j with hij | hij
     ·unfold dstB at hdj
      have hoj:ops[j]? = some ops[j]:=Array.getElem?_eq_getElem hj
      rw[hoj]at hdj
      have hd':ops[j].dst=some t:=by simpa using hdj
      have:=sepR j _ hij hoj (by unfold clash;rw[hd,hd'];simp)
      rw[this]at hSj;cases hSj
     ·exact hij
   ·have e1:(putL (stS ops seq val ac (fun i=>listed.getD i false)).1 o.dst (val i))[t]? =(stS ops seq val ac (fun i=>listed.getD i false)).1[t]? := by
     cases hq:o.dst with
     | none=>rfl
     | some d=>simp only[putL];rw[List.getElem?_set_ne (fun e=>hd (by rw[hq,e]))]
    rw[e1,stS_tmp,if_pos h]
    unfold tS
    rw[lw_congr (S':=fun j=>(listed.setIfInBounds i true).getD j false)]
    intro j hj hdj
    rw[hset]
    by_cases e:j=i
    ·subst e;simp[dstB,ho,hd]at hdj
    ·rw[if_neg e]
  ·have hln:(putL (stS ops seq val ac (fun i=>listed.getD i false)).1 o.dst (val i)).length=(seq 0).1.length:=by cases o.dst<;>simp[putL,stS]
   rw[if_neg h]
   exact List.getElem?_eq_none (by omega)
 have hN:(stS ops seq val ac (fun i=>listed.getD i false)).2.length=(seq ops.size).2.length:=by simp[stS]
 have other0:∀ b,(ac i).wr b=false→(stS ops seq val ac (fun i=>listed.getD i false)).2[b]? =(stS ops seq val ac (fun j=>(listed.setIfInBounds i true).getD j false)).2[b]? := by
  intro b hne
  rw[stS_mem,stS_mem]
  congr 2
  unfold mS
  rw[mF_congr (S':=fun j=>(listed.setIfInBounds i true).getD j false)]
  intro j hj hd
  rw[hset]
  by_cases e:j=i
  ·subst e;rw[hne]at hd;cases hd
  ·rw[if_neg e]
 have hM:(∀ b,ac i≠.ins b)→upM (stS ops seq val ac (fun i=>listed.getD i false)).2 (seq (i+1)).2 (ac i)=(stS ops seq val ac (fun j=>(listed.setIfInBounds i true).getD j false)).2:=by
  intro hni
  have hib:∀ b,(ac i).isIns b=false:=fun b=>by
   cases h:(ac i).isIns b with
   | false=>rfl
   | true=>exact absurd (ins_of h) (hni b)
  apply List.ext_getElem?
  intro b
  rw[stS_mem]
  have other:(ac i).wr b=false→(stS ops seq val ac (fun i=>listed.getD i false)).2[b]? = if b < (seq ops.size).2.length then some (mS ops seq ac (fun j=>(listed.setIfInBounds i true).getD j false) b)else none:=by
   intro hne
   rw[stS_mem]
   congr 2
   unfold mS
   rw[mF_congr (S':=fun j=>(listed.setIfInBounds i true).getD j false)]
   intro j hj hd
   rw[hset]
   by_cases e:j=i
   ·subst e;rw[hne]at hd;cases hd
   ·rw[if_neg e]
  have last:(ac i).wr b=true→(ac i).isIns b=false→b < (seq ops.size).2.length→mS ops seq ac (fun j=>(listed.setIfInBounds i true).getD j false) b=get2 (seq (i+1)).2 b:=by
   intro hwb hib h
   unfold mS
   rw[mF_last (i:=i) hwb hib (by rw[hset];simp) hlt]
   intro j hj hdj hSj
   rw[hset]at hSj
   by_cases e:j=i
   ·omega
   ·rw[if_neg e]at hSj
    rcases Nat.lt_or_ge i j with hij | hij
    ·have hcl:clash ops o ops[j] (ac i) (ac j)=true:=by
      cases hac:ac i with
      | no=>rw[hac]at hwb;cases hwb
      | blk c x =>
       rw[hac]at hwb
       simp only[Ac.wr,Bool.and_eq_true,beq_iff_eq]at hwb
       rw[hwb.1];exact clash_r hdj
      | grow n k =>
       rw[hac]at hwb
       simp only[Ac.wr,Bool.and_eq_true]at hwb
       exact clash_g hdj (by simpa using hwb.2)
      | app _ _ _=>exact clash_ar hdj
      | ins c=>exact absurd hac (hni c)
     have:=sepR j _ hij (Array.getElem?_eq_getElem hj) hcl
     rw[this]at hSj;cases hSj
    ·exact hij
  cases hac:ac i with
  | ins c=>exact absurd hac (hni c)
  | no=>exact other (by rw[hac];rfl)
  | blk c x =>
   cases x with
   | false=>exact other (by rw[hac];simp[Ac.wr])
   | true =>
    simp only[upM]
    by_cases e:c=b
    ·subst e
     rw[List.getElem?_set]
     by_cases h:c < (seq ops.size).2.length
     ·simp only[hN,h,if_true]
      rw[last (by rw[hac];simp[Ac.wr]) (hib _) h]
     ·rw[if_pos rfl,if_neg (by rw[hN];exact h),if_neg h]
    ·rw[List.getElem?_set_ne e]
     exact other (by rw[hac];simp[Ac.wr,e])
  | app b' n k =>
   have hle1:=(hs.len (i:=i+1) (j:=ops.size) (by omega) (Nat.le_refl _)).1
   have hfr:=(hs.frame ho).2 b
   have hval:b < (seq ops.size).2.length→mS ops seq ac (fun j=>(listed.setIfInBounds i true).getD j false) b=get2 (seq (i+1)).2 b:=by
    intro h
    cases hwb:(ac i).wr b with
    | true=>exact last hwb (hib _) h
    | false =>
     have:=other hwb
     rw[stS_mem,if_pos h,if_pos h,Option.some.injEq]at this
     rw[←this,hma b' n k b hac,←hs.memv (Nat.le_of_lt hlt) b,hfr hwb]
   simp only[upM,hN]
   by_cases hb:b < (seq (i+1)).2.length
   ·rw[List.getElem?_append_left hb,if_pos (by omega),hval (by omega)]
    unfold get2
    rw[List.getElem?_eq_getElem hb];rfl
   ·rw[List.getElem?_append_right (by omega),List.getElem?_replicate]
    by_cases h:b < (seq ops.size).2.length
    ·rw[if_pos (by omega),if_pos h,hval h]
     unfold get2
     rw[List.getElem?_eq_none (show(seq (i+1)).2.length≤b by omega)]
     rfl
    ·rw[if_neg (by omega),if_neg h]
  | grow n k =>
   simp only[upM]
   rw[List.getElem?_map]
   by_cases h:b < (seq ops.size).2.length
   ·rw[List.getElem?_range (by rw[hN];exact h),if_pos h]
    simp only[Option.map_some]
    cases hwb:(Nat.ble n b&&Nat.blt b (n+k))with
    | true =>
     rw[cond_true,last (by rw[hac];exact hwb) (hib _) h]
    | false =>
     have:=other (by rw[hac];exact hwb)
     rw[if_pos h]at this
     rw[cond_false]
     congr 1
     unfold get2
     rw[this]
     rfl
   ·rw[List.getElem?_eq_none (by rw[List.length_range,hN];omega),if_neg h]
    rfl
 have hsz':(listed.setIfInBounds i true).size=ops.size:=by simp[hI.size]
 have insSt:∀ b,ac i=.ins b→∃ k es p x es1 es2 p2,get2 (seq i).2 b=some (.map k es p)∧get2 (seq (i+1)).2 b=some (.map k (es++[x]) (es.length+1))∧mS ops seq ac (fun i=>listed.getD i false) b=some (.map k (es1++es2) p2)∧(∀ e∈es1++es2,(x.1==e.1)=false)∧
   mS ops seq ac (fun j=>(listed.setIfInBounds i true).getD j false) b=some (.map k (es1++x::es2) (es1.length+es2.length+1)):=fun b hb =>
  ins_state hs ho hb (by simpa using hSi) hset fun j hj hw hib=>by
   have hoj:ops[j]? = some ops[j]:=Array.getElem?_eq_getElem hj
   rcases Nat.lt_trichotomy j i with hji | hji | hji
   ·exact⟨hji,sepL j _ hji hoj (by rw[hb];exact clash_i hw hib)⟩
   ·subst hji;rw[hb]at hib;simp[Ac.isIns]at hib
   ·have:=(hok i b hlt hb).2 j hji hj hw
    rw[hib]at this;cases this
 have hbN:∀ b,ac i=.ins b→b < (seq ops.size).2.length:=fun b hb=>by
  obtain⟨_,_,_,_,_,g2,_⟩:=hs.ins (b:=b) ho (by rw[hb];simp[Ac.isIns])
  have h1:=(List.getElem?_eq_some_iff.1 (get2_some.1 g2)).1
  exact Nat.lt_of_lt_of_le h1 (hs.len (i:=i+1) (j:=ops.size) (by omega) (Nat.le_refl _)).1
 unfold wpOpIn
 simp only[ho]
 have hw:=wantB_congr (ops:=ops) (o:=o) hts
 rcases hst2 with⟨hwn,hv,hmm,hacn⟩ | ⟨hwn,hdef,hA⟩
 ·have hwd:=wantB_spec hI.r (hw.trans hwn)
  rw[if_neg (by rw[hwd];simp)]
  refine⟨wide_about,?_⟩
  have hR:=hI.r.skip o.dst
  rw[hv]at hT
  rw[hT]at hR
  have hM':=hM fun b=>by rw[hacn];intro e;cases e
  rw[hacn]at hM'
  simp only[upM]at hM'
  rw[hM']at hR
  refine hK B F _ _ ⟨hsz',hclosed',hR,fun j hj=>?_,hI.fs,hI.keep,hI.fn,fun j q hq=>?_,by rw[put_defers];exact hI.df⟩
  ·obtain⟨k1,k2⟩:=hI.old j hj
   exact⟨k1,hM'▸k2⟩
  ·rw[←hM']at hq;exact hI.rnd j q hq
 ·have hwd:=wantB_spec hI.r (hw.trans hwn)
  rw[if_pos hwd]
  refine opA_run (ts2:=(stS ops seq val ac (fun i=>listed.getD i false)).1) (mem2:=(stS ops seq val ac (fun i=>listed.getD i false)).2) hG ht hcl hg hA hdef hops ?_ ?_ hI.r fun B' F' x w' hn hR=>?_
  ·have hNi:=(hs.len (i:=i) (j:=ops.size) (by omega) (Nat.le_refl _)).1
   have hget:∀ b,mS ops seq ac (fun i=>listed.getD i false) b=mS ops seq ac (fun j=>decide (j < i)) b→get2 (stS ops seq val ac (fun i=>listed.getD i false)).2 b=get2 (seq i).2 b:=by
    intro b hb
    by_cases hlt2:b < (seq ops.size).2.length
    ·rw[hs.memv (Nat.le_of_lt hlt) b,←hb]
     unfold get2
     rw[stS_mem,if_pos hlt2]
     rfl
    ·unfold get2
     rw[stS_mem,if_neg hlt2,List.getElem?_eq_none (by omega)]
   cases hac:ac i with
   | no=>trivial
   | blk b x =>
    refine⟨?_,hget b (hmr b x hac),fun e=>?_⟩
    ·simp only[stS,List.length_map,List.length_range];exact Nat.le_trans hm0 (hs.len (Nat.zero_le _) (Nat.le_refl _)).1
    ·simp only[stS,List.length_map,List.length_range]
     refine⟨by rw[e];exact Nat.le_trans hm0 (hs.len (Nat.zero_le _) (Nat.le_of_lt hlt)).1,?_⟩
     have hlen1:=(hs.len (i:=i+1) (j:=ops.size) (by omega) (Nat.le_refl _)).1
     have hgrow:(seq i).2.length < (seq (i+1)).2.length∨get2 (seq i).2 b=none:=.inr (by
      unfold get2;rw[List.getElem?_eq_none (by omega)];rfl)
     rw[hac]at hA
     exact Nat.lt_of_lt_of_le (opA_new_lt hA e) hlen1
   | ins b=>trivial
   | app b' n k =>
    rw[hac]at hA
    have hn:=opA_all hA rfl
    have hlen1:=(hs.len (i:=i+1) (j:=ops.size) (by omega) (Nat.le_refl _)).1
    have h0len:=(hs.len (Nat.zero_le i) (Nat.le_of_lt hlt)).1
    have hsz2:(stS ops seq val ac (fun i=>listed.getD i false)).2.length=(seq ops.size).2.length:=by simp[stS]
    refine⟨?_,by omega,by omega,by omega⟩
    apply List.ext_getElem?
    intro b
    have hm1:=hs.memv (Nat.le_of_lt hlt) b
    rw[←hma b' n k b hac]at hm1
    by_cases hb:b < (seq ops.size).2.length
    ·rw[stS_mem,if_pos hb,←hm1]
     by_cases hb2:b < (seq i).2.length
     ·rw[List.getElem?_append_left hb2]
      unfold get2
      rw[List.getElem?_eq_getElem hb2];rfl
     ·rw[List.getElem?_append_right (by omega),List.getElem?_replicate,if_pos (by omega)]
      unfold get2
      rw[List.getElem?_eq_none (show(seq i).2.length≤b by omega)];rfl
    ·rw[stS_mem,if_neg hb,List.getElem?_append_right (by omega),List.getElem?_replicate,if_neg (by omega)]
   | grow n k =>
    rw[hac]at hA
    obtain⟨hn,hnk⟩:=opA_grow hA rfl
    have hlen1:=(hs.len (i:=i+1) (j:=ops.size) (by omega) (Nat.le_refl _)).1
    refine⟨fun b x hb=>?_,?_,?_,fun b hb1 hb2=>?_⟩
    ·obtain⟨h1,h2⟩:=maskM_get _ _ _ _ hb
     rw[hget b (hmd n k b hac (by rw[hn];exact(List.getElem?_eq_some_iff.1 h1).1) h2)]
     exact get2_some.2 h1
    ·rw[hn];exact Nat.le_trans hm0 (hs.len (Nat.zero_le _) (Nat.le_of_lt hlt)).1
    ·simp only[stS,List.length_map,List.length_range];omega
    ·have hb3:b < (seq ops.size).2.length:=by omega
     unfold get2
     rw[stS_mem,if_pos hb3]
     have h0len:=(hs.len (Nat.zero_le i) (Nat.le_of_lt hlt)).1
     have hnone:mF seq ac (fun i=>listed.getD i false) b ops.size=get2 (seq 0).2 b:=mF_none fun j hj hd=>by
      have hoj:ops[j]? = some ops[j]:=Array.getElem?_eq_getElem hj
      rcases Nat.lt_trichotomy j i with hji | hji | hji
      ·exfalso
       obtain⟨_,h2⟩:=hs.step j _ hoj
       rcases h2 with⟨_,_,_,e2⟩ | ⟨_,_,hA'⟩
       ·rw[e2]at hd;cases hd
       ·have h1:=opA_wr_lt hA' hd
        have h2:=(hs.len (i:=j+1) (j:=i) (by omega) (Nat.le_of_lt hlt)).1
        omega
      ·subst hji;exact hSi
      ·exact sepR j _ hji hoj (by rw[hac];exact clash_g hd hb2)
     unfold mS
     rw[hnone]
     show(some (get2 (seq 0).2 b)).join=none
     unfold get2
     rw[List.getElem?_eq_none (by omega)]
     rfl
  ·intro b hb
   obtain⟨k,es,p,x,es1,es2,p2,g1,g2,g3,g4,_⟩:=insSt b hb
   refine⟨k,es,p,x,es1++es2,p2,g1,g2,?_,g4⟩
   rw[get2_some,stS_mem,if_pos (hbN b hb),g3]
  by_cases hni:∀ b,ac i≠.ins b
  case neg =>
   obtain⟨b,hb⟩:∃ b,ac i=.ins b:=Classical.byContradiction fun h=>hni fun b e=>h ⟨b,e⟩
   obtain⟨k,es,p,y,es1,es2,p2,g1,g2,g3,g4,g5⟩:=insSt b hb
   have hbl:=hbN b hb
   have hb0:=(hok i b hlt hb).1
   rw[hT]at hR
   have hup:upM (stS ops seq val ac (fun i=>listed.getD i false)).2 (seq (i+1)).2 (ac i)=(stS ops seq val ac (fun i=>listed.getD i false)).2.set b (some (.map k ((es1++es2)++[y]) ((es1++es2).length+1))):=by
    rw[hb]
    simp only[upM]
    have e1:get2 (stS ops seq val ac (fun i=>listed.getD i false)).2 b=some (.map k (es1++es2) p2):=by rw[get2_some,stS_mem,if_pos hbl,g3]
    rw[e1,g2]
    simp only[addL,List.getLast?_append,List.getLast?_singleton,Option.some_or]
   have hset2:(stS ops seq val ac (fun j=>(listed.setIfInBounds i true).getD j false)).2=(upM (stS ops seq val ac (fun i=>listed.getD i false)).2 (seq (i+1)).2 (ac i)).set b (some (.map k (es1++y::es2) (es1++y::es2).length)):=by
    rw[hup,List.set_set]
    apply List.ext_getElem?
    intro c
    rw[List.getElem?_set]
    by_cases e:b=c
    ·subst e
     rw[if_pos rfl,if_pos (by rw[hN];exact hbl),stS_mem,if_pos hbl,g5]
     simp;omega
    ·rw[if_neg e]
     exact(other0 c (by rw[hb];simp[Ac.wr,e])).symm
   have hup2:(upM (stS ops seq val ac (fun i=>listed.getD i false)).2 (seq (i+1)).2 (ac i))[b]? = some (some (.map k ((es1++es2)++[y]) ((es1++es2).length+1))):=by
    rw[hup,List.getElem?_set,if_pos rfl,if_pos (by rw[hN];exact hbl)]
   have hperm:=hR.mem.perm hup2 (fun j mb n s l hj e=>by
     rw[hup,List.getElem?_set]at hj
     by_cases e2:b=j
     ·subst e2;rw[if_pos rfl,if_pos (by rw[hN];exact hbl)]at hj;cases hj
     ·rw[if_neg e2,stS_mem]at hj
      split at hj
      ·simp only[Option.some.injEq]at hj
       have:=iter_state (hit i b hlt hb) ops.size (Nat.le_refl _) hj
       omega
      ·cases hj) (turnS es1.length es2.length) (turnT es1.length es2.length) (turn_l _ _) (turn_r _ _) (L':=es1++y::es2) (by simp[Nat.add_assoc]) (turn_get es1 es2 y) (fun q hq=>by
     simp only[List.length_append,List.length_singleton]at hq
     unfold turnS
     rw[if_neg (by omega),if_neg (by omega),if_neg (by omega)])
   rw[←hset2]at hperm
   have hsame:∀ j,SameP (upd B' b { B' b with ord:=fun q=>(B' b).ord (turnS es1.length es2.length q) } j) (B' j):=fun j=>by
    by_cases e:j=b
    ·subst e;rw[upd_new];exact⟨rfl,rfl,rfl,rfl,rfl⟩
    ·rw[upd_old B' e];exact⟨rfl,rfl,rfl,rfl,rfl⟩
   have hlv:∀ j,Live (upM (stS ops seq val ac (fun i=>listed.getD i false)).2 (seq (i+1)).2 (ac i)) j→Live (stS ops seq val ac (fun j=>(listed.setIfInBounds i true).getD j false)).2 j:=fun j hj=>by
    rw[hset2]
    exact(ext_set (y:=.map k (es1++y::es2) (es1++y::es2).length) hup2 (fun r h=>by cases h)).live j hj
   refine hK _ F' _ _ ⟨hsz',hclosed',⟨hR.tmps.same hsame,hR.defers,hperm,fun s hs=>(hR.bd s hs).mono hlv,by rw[hset2];simpa using hR.le,hR.ne⟩,fun j hj=>?_,fun j hj=>hn.fs j (hI.fs j hj),hI.keep.trans (hn.keep.less hI.fs),fun j hj=>?_,fun j q hq=>?_,by rw[put_defers];exact hI.df⟩
   ·obtain⟨k1,k2⟩:=hI.old j hj
    have hjl:=hj.lt
    refine⟨?_,hlv j (hn.ext.live j k2)⟩
    rw[upd_old B' (by omega)]
    exact(hn.loc j k2).trans k1
   ·rcases hn.fn j hj with hj | hj
    ·exact hI.fn j hj
    ·exact .inr hj
   ·rw[hset2,List.getElem?_set]at hq
    by_cases e:b=j
    ·subst e
     rw[if_pos rfl]at hq
     split at hq<;>cases hq
    ·rw[if_neg e]at hq
     obtain⟨q',hq'⟩:=hn.ext.old j q hq
     exact hI.rnd j q' hq'
  case pos =>
   rw[hT,hM hni]at hR
   rw[hM hni]at hn
   refine hK B' F' _ _ ⟨hsz',hclosed',hR,fun j hj=>?_,fun j hj=>hn.fs j (hI.fs j hj),hI.keep.trans (hn.keep.less hI.fs),fun j hj=>?_,fun j q hq=>?_,by rw[put_defers];exact hI.df⟩
   ·obtain⟨k1,k2⟩:=hI.old j hj
    exact⟨(hn.loc j k2).trans k1,hn.ext.live j k2⟩
   ·rcases hn.fn j hj with hj | hj
    ·exact hI.fn j hj
    ·exact .inr hj
   ·obtain⟨q',hq'⟩:=hn.ext.old j q hq
    exact hI.rnd j q' hq'
theorem drawn_all[HasP](hG:∀ w w',G w→Below w.heap.size w w'→G w')(ht:TabOK P G tab)(hcl:∀ n ρ,CallK P G n (cl n ρ))(hg:G w0)(hs:Seq P tab m cl M ops seq val ac){acs:List Ac}(hacs:∀ i,i < ops.size→acs[i]? = some (ac i))(hO:Ord ops acs M)(hm0:m≤(seq 0).2.length)
  (hok:∀ j b,j < ops.size→ac j=.ins b→(seq 0).2.length≤b∧∀ q,j < q→q < ops.size→(ac q).wr b=true→(ac q).isIns b=true) (hit:∀ j b,j < ops.size→ac j=.ins b→∀ q,q≤ops.size→itOK (seq 0).2.length (seq q).2=true) {l:Option Nat}
  {B0:Loc} {F0:Nat→Prop} {wb:World} {ds:List Deferred} {Q:Exit→Act→World→Prop} (hQ:∀ B' F' a' w',Nx w0 (seq 0).2 B0 F0 wb (seq ops.size).2 B' F' w'→R w0 m ne (seq ops.size) B' F' a' w'→a'.defers=ds→Q .normal a' w') :
  ∀ (fuel:Nat) (listed:Array Bool) (B:Loc) (F:Nat→Prop) (a:Act) (w:World),Inv P w0 m ne ops seq val ac B0 F0 wb ds listed B F a w→((List.range ops.size).filter fun i=>!listed.getD i false).length≤fuel→wpAnyIn (fen l) 0 P .any ops Q fuel listed a w:=by
 have fin:∀ (listed:Array Bool) (B:Loc) (F:Nat→Prop) (a:Act) (w:World),Inv P w0 m ne ops seq val ac B0 F0 wb ds listed B F a w→(∀ i,i < ops.size→listed.getD i false=true)→Q .normal a w:=by
  intro listed B F a w hI hall
  have e:stS ops seq val ac (fun i=>listed.getD i false)=seq ops.size:=by
   have hS:∀ (W:Nat→Bool),lw W (fun i=>listed.getD i false) ops.size=lw W (fun j=>decide (j < ops.size)) ops.size:=fun W=>lw_congr fun j hj _=>by rw[hall j hj];simp[hj]
   refine Prod.ext ?_ ?_
   ·apply List.ext_getElem?
    intro t
    rw[stS_tmp]
    by_cases h:t < (seq 0).1.length
    ·rw[if_pos h,hs.tmp (Nat.le_refl _) t h]
     unfold tS
     rw[hS]
    ·have hln:=(hs.len (Nat.zero_le ops.size) (Nat.le_refl _)).2
     have hnone:(seq ops.size).1[t]? = none:=List.getElem?_eq_none (by omega)
     rw[if_neg h,hnone]
   ·apply List.ext_getElem?
    intro b
    rw[stS_mem]
    by_cases h:b < (seq ops.size).2.length
    ·rw[if_pos h]
     have:=hs.memv (Nat.le_refl ops.size) b
     unfold mS at this⊢
     rw[mF_congr (S':=fun j=>decide (j < ops.size)) fun j hj _=>by rw[hall j hj];simp[hj],←this]
     unfold get2
     rw[List.getElem?_eq_getElem h]
     rfl
    ·rw[if_neg h,List.getElem?_eq_none (by omega)]
  have hR:=hI.r
  rw[e]at hR
  have hold:=hI.old
  have hrnd:=hI.rnd
  rw[e]at hold hrnd
  exact hQ B F a w ⟨fun i hi=>(hold i hi).1,hI.fs,hI.keep,⟨(hs.len (Nat.zero_le _) (Nat.le_refl _)).1,fun i hi=>(hold i hi).2,hrnd⟩,hI.fn⟩ hR hI.df
 intro fuel
 induction fuel with
 | zero =>
  intro listed B F a w hI hf
  have hall:∀ i,i < ops.size→listed.getD i false=true:=by
   intro i hi
   cases hq:listed.getD i false with
   | true=>rfl
   | false =>
    have hmem:i∈(List.range ops.size).filter fun i=>!listed.getD i false:=List.mem_filter.2 ⟨List.mem_range.2 hi,by rw[hq];rfl⟩
    rw[List.length_eq_zero_iff.1 (Nat.le_zero.1 hf)]at hmem
    cases hmem
  refine⟨?_,fin listed B F a w hI hall⟩
  rw[List.eq_nil_iff_forall_not_mem]
  intro i hi
  rw[mem_ready]at hi
  obtain⟨h0,o,ho,_⟩:=hi
  have hlt:i < ops.size:=(Array.getElem?_eq_some_iff.1 ho).1
  have hlt':i < listed.size:=by rw[hI.size];exact hlt
  have:=hall i hlt
  simp only[Array.getD_eq_getD_getElem?,Array.getElem?_eq_getElem hlt',Option.getD_some]at h0 this
  rw[h0]at this;cases this
 | succ fuel ih =>
  intro listed B F a w hI hf
  refine⟨fun hnil=>fin listed B F a w hI fun i hi=>?_,fun i hi=>?_⟩
  ·have:∀ n i,i≤n→i < ops.size→listed.getD i false=true:=by
    intro n
    induction n with
    | zero =>
     intro i hin hi
     cases hq:listed.getD i false with
     | true=>rfl
     | false =>
      have ho:ops[i]? = some ops[i]:=Array.getElem?_eq_getElem hi
      have hlt':i < listed.size:=by rw[hI.size];exact hi
      have:i∈Region.ready .any ops listed:=mem_ready.2 ⟨by
       simp only[Array.getD_eq_getD_getElem?,Array.getElem?_eq_getElem hlt',Option.getD_some]at hq⊢;exact hq,_,ho,fun e he hb=>by
       have:=hO.lt i _ ho e.on (List.mem_map.2 ⟨e,List.mem_filter.2 ⟨by simpa using he,hb⟩,rfl⟩)
       omega⟩
      rw[hnil]at this;cases this
    | succ n ihn =>
     intro i hin hi
     cases hq:listed.getD i false with
     | true=>rfl
     | false =>
      have ho:ops[i]? = some ops[i]:=Array.getElem?_eq_getElem hi
      have hlt':i < listed.size:=by rw[hI.size];exact hi
      have:i∈Region.ready .any ops listed:=mem_ready.2 ⟨by
       simp only[Array.getD_eq_getD_getElem?,Array.getElem?_eq_getElem hlt',Option.getD_some]at hq⊢;exact hq,_,ho,fun e he hb=>by
       have:=hO.lt i _ ho e.on (List.mem_map.2 ⟨e,List.mem_filter.2 ⟨by simpa using he,hb⟩,rfl⟩)
       exact ihn e.on (by omega) (by omega)⟩
      rw[hnil]at this;cases this
   exact this i i (Nat.le_refl _) hi
  ·refine drawn_step hG ht hcl hg hs hacs hO hm0 hok hit hI hi fun B' F' a' w' hI'=>ih _ B' F' a' w' hI' ?_
   rw[mem_ready]at hi
   obtain⟨h0,o,ho,_⟩:=hi
   have hlt:i < ops.size:=(Array.getElem?_eq_some_iff.1 ho).1
   have hlt':i < listed.size:=by rw[hI.size];exact hlt
   have h0':listed.getD i false=false:=by
    simp only[Array.getD_eq_getD_getElem?,Array.getElem?_eq_getElem hlt',Option.getD_some]at h0⊢;exact h0
   have key:((List.range ops.size).filter fun j=>!(listed.setIfInBounds i true).getD j false).length < ((List.range ops.size).filter fun j=>!listed.getD j false).length:=by
    have e1:((List.range ops.size).filter fun j=>!(listed.setIfInBounds i true).getD j false)=((List.range ops.size).filter fun j=>!listed.getD j false).filter fun j=>decide (j≠i):=by
     rw[List.filter_filter]
     apply List.filter_congr
     intro j _
     by_cases e:j=i
     ·subst e;simp[hlt']
     ·rw[getD_set_ne false (Ne.symm e)];simp[e]
    rw[e1]
    refine List.length_filter_lt_length_iff_exists.2 ⟨i,List.mem_filter.2 ⟨List.mem_range.2 hlt,by rw[h0'];rfl⟩,by simp⟩
   omega
end
end Go.Q
namespace Go.Q
open Go Go.RowKit
open Go.Rx (br bd br_eq bd_eq bd_some entB enters_of_entB predsOf maskOf masks testBit_maskOf Closed)
def badL(M:List Nat)(acc:List Ac)(i:Nat):List Nat:=badOf M (fun j=>acc.reverse.getD j .no) i
section
variable {ρ:Type}
def evalIdxA(P:Program)(tab:Tab)(m:Nat)(cl:Nat→Oracle ρ)(gd:Mem→Bool)(M:List Nat)(ops:Array Oper):List Nat→St→List Ac→(St→List Ac→Option ρ)→Option ρ
 | [],st,acc,k=>k st acc.reverse
 | i::rest,st,acc,k =>
  match ops[i]? with
  | none=>none
  | some o=>wantK ops st o (fun st=>bif isDefer o.op then none else opA P tab m cl (badL M acc i) st.1 st.2 o fun s mem' ac=>bif gd mem' then evalIdxA P tab m cl gd M ops rest (putL st.1 o.dst s,mem') (ac::acc) k else none)
    (fun st=>evalIdxA P tab m cl gd M ops rest (putL st.1 o.dst (.v undef),st.2) (.no::acc) k)
def insOK(n:Nat)(acs:List Ac):Bool:=(List.range acs.length).all fun j=>match acs[j]? with
 | some (.ins b)=>Nat.ble n b&&(List.range acs.length).all fun q=>Nat.ble q j||(match acs[q]? with
  | some a=>!a.wr b||a.isIns b
  | none=>true)
 | _=>true
theorem insOK_spec{n:Nat}{acs:List Ac}(h:insOK n acs=true){j b:Nat}(hj:acs[j]? = some (.ins b)):n≤b∧∀ q a,j < q→acs[q]? = some a→a.wr b=true→a.isIns b=true:=by
 unfold insOK at h
 have:=List.all_eq_true.1 h j (List.mem_range.2 (List.getElem?_eq_some_iff.1 hj).1)
 rw[hj]at this
 simp only[Bool.and_eq_true,Nat.ble_eq,List.all_eq_true,List.mem_range]at this
 refine⟨this.1,fun q a hq ha hw=>?_⟩
 have:=this.2 q (List.getElem?_eq_some_iff.1 ha).1
 rw[ha]at this
 simp only[Bool.or_eq_true,Nat.ble_eq,Bool.not_eq_true']at this
 rcases this with h | h | h
 ·omega
 ·rw[hw]at h;cases h
 ·exact h
def drawA(P:Program)(tab:Tab)(m:Nat)(cl:Nat→Oracle ρ):Draws ρ:=fun ops st k =>
 bif ops.toList.any fun o=>isIns o.op then
  evalIdxA P tab m cl (itOK st.2.length) (masks ops.toList []) ops (List.range ops.size) st [] fun st' acs=>bif chkOrd ops acs (masks ops.toList [])&&(insOK st.2.length acs&&itOK st.2.length st.2)then k st' else none
 else evalIdxA P tab m cl (fun _=>true) (masks ops.toList []) ops (List.range ops.size) st [] fun st' acs=>bif chkOrd ops acs (masks ops.toList [])then k st' else none
end
section
variable {P:Program}{G:World→Prop}{tab:Tab}{m ne:Nat}{w0:World}{cl:Nat→OracleP}{M:List Nat}{ρ:Type}{r:ρ}
theorem wantK_specS{ops:Array Oper}{st:St}{o:Oper}{x y:KS ρ}(he:wantK ops st o x y=some r):
  (wantB ops st.1 o=some true∧x st=some r)∨(wantB ops st.1 o=some false∧y st=some r):=by
 unfold wantK at he
 unfold wantB
 cases hg:o.guard with
 | none=>rw[hg]at he;exact .inl ⟨rfl,he⟩
 | some jw =>
  obtain⟨j,want⟩:=jw
  rw[hg]at he
  simp only at he⊢
  unfold yl
  cases hd:(ops[j]?).bind (·.dst)with
  | none =>
   rw[hd]at he
   exact .inr ⟨rfl,he⟩
  | some t =>
   rw[hd]at he
   simp only at he⊢
   cases ht:st.1[t]? with
   | none=>rw[ht]at he;exact .inr ⟨rfl,he⟩
   | some s =>
    rw[ht]at he
    cases s with
    | v u =>
     cases u with
     | bool b =>
      simp only at he⊢
      simp only[br_eq]at he
      have e:(st.1.set t (.v (.bool b)),st.2)=st:=by rw[set_self ht]
      cases b<;>cases want<;>simp only[cond_true,cond_false,e]at he<;>first | exact .inl ⟨rfl,he⟩ | exact .inr ⟨rfl,he⟩
     | _=>exact .inr ⟨rfl,he⟩
    | _=>cases he
theorem badOf_congr{ac ac':Nat→Ac}{i:Nat}(h:∀ j,j < i→ac j=ac' j):badOf M ac i=badOf M ac' i:=by
 unfold badOf
 rw[List.flatMap_def,List.flatMap_def]
 congr 1
 exact List.map_congr_left fun j hj=>by rw[h j (List.mem_range.1 hj)]
theorem evalIdxA_spec(hcl:∀ n,NatO (cl n)){gd:Mem→Bool}{ops:Array Oper}:∀ (n i:Nat) (st:St) (acc:List Ac) (k:St→List Ac→Option ρ),
  i+n=ops.size→acc.length=i→evalIdxA P tab m (fun n=>cl n ρ) gd M ops (List.range' i n) st acc k=some r→
  ∃ (seq:Nat→St) (val:Nat→SV) (ac:Nat→Ac),seq i=st∧k (seq (i+n)) (acc.reverse++(List.range' i n).map ac)=some r∧(∀ j,j < i→ac j=acc.reverse.getD j .no)∧
   ∀ j,i≤j→j < i+n→∃ o,ops[j]? = some o∧(seq (j+1)).1=putL (seq j).1 o.dst (val j)∧
    ((wantB ops (seq j).1 o=some false∧val j=.v undef∧(seq (j+1)).2=(seq j).2∧ac j=.no)∨
     (wantB ops (seq j).1 o=some true∧isDefer o.op=false∧OpA P tab m cl (badOf M ac j) (seq j).1 (seq j).2 o (val j) (seq (j+1)).2 (ac j)∧gd (seq (j+1)).2=true)):=by
 intro n
 induction n with
 | zero =>
  intro i st acc k hi hacc h
  exact⟨fun _=>st,fun _=>.any,fun j=>acc.reverse.getD j .no,rfl,by simpa [evalIdxA]using h,fun _ _=>rfl,fun j h1 h2=>by omega⟩
 | succ n ih =>
  intro i st acc k hi hacc h
  rw[List.range'_succ]at h
  simp only[evalIdxA]at h
  have hlt:i < ops.size:=by omega
  have ho:ops[i]? = some ops[i]:=Array.getElem?_eq_getElem hlt
  rw[ho]at h
  simp only at h
  have glue:∀ (v:SV) (mem':Mem) (a:Ac),((wantB ops st.1 ops[i]=some false∧v=.v undef∧mem'=st.2∧a=.no)∨(wantB ops st.1 ops[i]=some true∧isDefer ops[i].op=false∧OpA P tab m cl (badL M acc i) st.1 st.2 ops[i] v mem' a∧gd mem'=true))→
    evalIdxA P tab m (fun n=>cl n ρ) gd M ops (List.range' (i+1) n) (putL st.1 ops[i].dst v,mem') (a::acc) k=some r→∃ (seq:Nat→St) (val:Nat→SV) (ac:Nat→Ac),seq i=st∧k (seq (i+(n+1))) (acc.reverse++(List.range' i (n+1)).map ac)=some r∧(∀ j,j < i→ac j=acc.reverse.getD j .no)∧
   ∀ j,i≤j→j < i+(n+1)→∃ o,ops[j]? = some o∧(seq (j+1)).1=putL (seq j).1 o.dst (val j)∧
    ((wantB ops (seq j).1 o=some false∧val j=.v undef∧(seq (j+1)).2=(seq j).2∧ac j=.no)∨
     (wantB ops (seq j).1 o=some true∧isDefer o.op=false∧OpA P tab m cl (badOf M ac j) (seq j).1 (seq j).2 o (val j) (seq (j+1)).2 (ac j)∧gd (seq (j+1)).2=true)):=by
   intro v mem' a hstep hrest
   obtain⟨seq,val,ac,h1,h2,h0,h3⟩:=ih (i+1) _ (a::acc) _ (by omega) (by simp[hacc]) hrest
   have hai:ac i=a:=by
    rw[h0 i (by omega)]
    simp[List.getD,hacc]
   have hlow:∀ j,j < i→ac j=acc.reverse.getD j .no:=by
    intro j hj
    rw[h0 j (by omega)]
    simp only[List.reverse_cons,List.getD]
    rw[List.getElem?_append_left (by simp[hacc];exact hj)]
   refine⟨fun j=>if j=i then st else seq j,fun j=>if j=i then v else val j,ac,by simp,?_,hlow,?_⟩
   ·rw[List.range'_succ,List.map_cons,hai]
    have h4:i+(n+1)≠i:=by omega
    simp only[if_neg h4]
    rw[show i+(n+1)=i+1+n from by omega]
    simpa using h2
   ·intro j hj1 hj2
    by_cases e:j=i
    ·subst e
     refine⟨_,ho,?_⟩
     have e2:¬j+1=j:=by omega
     simp only[if_true,if_neg e2,h1]
     refine⟨trivial,?_⟩
     rw[hai]
     have hb:badL M acc j=badOf M ac j:=badOf_congr fun q hq=>(hlow q hq).symm
     rw[←hb]
     exact hstep
    ·obtain⟨o,h4,h5⟩:=h3 j (by omega) (by omega)
     refine⟨o,h4,?_⟩
     have e2:¬j+1=i:=by omega
     simp only[if_neg e,if_neg e2]
     exact h5
  rcases wantK_specS h with⟨hw,h⟩ | ⟨hw,h⟩
  ·cases hd:isDefer ops[i].op with
   | true=>rw[hd]at h;cases h
   | false =>
    rw[hd]at h
    simp only[cond_false]at h
    obtain⟨s,mem',a,hA,h⟩:=opA_spec hcl h
    cases hgd:gd mem' with
    | false=>rw[hgd]at h;cases h
    | true =>
     rw[hgd]at h
     exact glue s mem' a (.inr ⟨hw,hd,hA,hgd⟩) h
  ·exact glue (.v undef) st.2 .no (.inl ⟨hw,rfl,rfl,rfl⟩) h
theorem drawA_ok[HasP](hmix:P.follows .mixedOrders=true)(hG:∀ w w',G w→Below w.heap.size w w'→G w')(ht:TabOK P G tab)(hcl:∀ n ρ,CallK P G n (cl n ρ))(hnat:∀ n,NatO (cl n))(m:Nat):DrawsOK ρ P G m (drawA P tab m fun n=>cl n ρ):=by
 intro w0 ne r l id ops Q st B F a w k hg h hR hQ
 have key:∃ gd:Mem→Bool,evalIdxA P tab m (fun n=>cl n ρ) gd (masks ops.toList []) ops (List.range' 0 ops.size) st [] (fun st' acs=>bif chkOrd ops acs (masks ops.toList [])&&((ops.toList.any fun o=>isIns o.op)==false||(insOK st.2.length acs&&itOK st.2.length st.2))then k st' else none)=some r∧
   ((ops.toList.any fun o=>isIns o.op)=true→gd=itOK st.2.length):=by
  unfold drawA at h
  rw[List.range_eq_range']at h
  cases hi:(ops.toList.any fun o=>isIns o.op)with
  | true=>rw[hi,cond_true]at h;exact⟨_,by simpa using h,fun _=>rfl⟩
  | false=>rw[hi,cond_false]at h;exact⟨_,by simpa using h,fun h=>by cases h⟩
 obtain⟨gd,h,hgd⟩:=key
 obtain⟨seq,val,ac,h1,h2,_,h3⟩:=evalIdxA_spec hnat ops.size 0 st [] _ (by omega) rfl h
 simp only[Nat.zero_add,List.reverse_nil,List.nil_append]at h2
 cases hchk:(chkOrd ops ((List.range' 0 ops.size).map ac) (masks ops.toList [])&&((ops.toList.any fun o=>isIns o.op)==false||(insOK st.2.length ((List.range' 0 ops.size).map ac)&&itOK st.2.length st.2)))with
 | false=>rw[hchk]at h2;cases h2
 | true =>
  rw[hchk]at h2
  simp only[cond_true]at h2
  rw[Bool.and_eq_true,Bool.or_eq_true,beq_iff_eq,Bool.and_eq_true]at hchk
  obtain⟨hchk,hins⟩:=hchk
  have hO:=ord_of_chk hchk
  have hs:Seq P tab m cl (masks ops.toList []) ops seq val ac:=⟨fun i o ho=>by
   obtain⟨o',ho',hst⟩:=h3 i (Nat.zero_le _) (by have:=(Array.getElem?_eq_some_iff.1 ho).1;omega)
   rw[ho]at ho';cases ho'
   exact⟨hst.1,hst.2.imp (fun h=>h) fun h=>⟨h.1,h.2.1,h.2.2.1⟩⟩⟩
  have hacs:∀ i,i < ops.size→((List.range' 0 ops.size).map ac)[i]? = some (ac i):=by
   intro i hi
   rw[List.getElem?_map,List.getElem?_range' hi]
   simp
  have hany:∀ j b,j < ops.size→ac j=.ins b→(ops.toList.any fun o=>isIns o.op)=true:=fun j b hj hb=>by
   have ho:ops[j]? = some ops[j]:=Array.getElem?_eq_getElem hj
   obtain⟨_,h2⟩:=hs.step j _ ho
   rcases h2 with⟨_,_,_,e2⟩ | ⟨_,_,hA⟩
   ·rw[hb]at e2;cases e2
   ·obtain⟨_,_,_,_,_,_,_,_,_,hop,_⟩:=insB_some (opA_ins hA hb)
    rw[List.any_eq_true]
    exact⟨ops[j],by simp,by rw[hop];rfl⟩
  have hins:∀ j b,j < ops.size→ac j=.ins b→insOK st.2.length ((List.range' 0 ops.size).map ac)=true∧itOK st.2.length st.2=true∧gd=itOK st.2.length:=fun j b hj hb=>by
   have ha:=hany j b hj hb
   rcases hins with h | h
   ·rw[ha]at h;cases h
   ·exact⟨h.1,h.2,hgd ha⟩
  have hok:∀ j b,j < ops.size→ac j=.ins b→(seq 0).2.length≤b∧∀ q,j < q→q < ops.size→(ac q).wr b=true→(ac q).isIns b=true:=fun j b hj hb=>by
   obtain⟨e1,e2⟩:=insOK_spec (hins j b hj hb).1 (j:=j) (b:=b) (by rw[hacs j hj,hb])
   rw[h1]
   exact⟨e1,fun q hq hq2 hw=>e2 q _ hq (hacs q hq2) hw⟩
  have hit:∀ j b,j < ops.size→ac j=.ins b→∀ q,q≤ops.size→itOK (seq 0).2.length (seq q).2=true:=fun j b hj hb q=>by
   obtain⟨_,e1,e2⟩:=hins j b hj hb
   induction q with
   | zero=>intro _;rw[h1];exact e1
   | succ q ih =>
    intro hq
    obtain⟨o,_,_,h4⟩:=h3 q (Nat.zero_le _) (by omega)
    rcases h4 with⟨_,_,e,_⟩ | ⟨_,_,_,e⟩
    ·rw[e];exact ih (by omega)
    ·rw[h1,←e2];exact e
  subst h1
  have hdrew:Below w.heap.size w w.drew:=(Below.refl _ w).drew
  refine wpIn_region_any hmix (drawn_all (ne:=ne) (F0:=F) (wb:=w) (ds:=a.defers) (B0:=B) hG ht hcl hg hs hacs hO hR.le hok hit (fun B' F' a' w' hn hR' hd=>hQ _ B' F' a' w' h2 hn hR' hd) ops.size (Array.replicate ops.size false) B F a w.drew ?_ ?_)
  ·have hS:∀ i,(Array.replicate ops.size false).getD i false=false:=by
    intro i
    simp only[Array.getD_eq_getD_getElem?,Array.getElem?_replicate]
    split<;>rfl
   have hlw:∀ W:Nat→Bool,lw W (fun i=>(Array.replicate ops.size false).getD i false) ops.size=none:=fun W=>lw_none fun i _ _=>hS i
   have hmf:∀ b,mF seq ac (fun i=>(Array.replicate ops.size false).getD i false) b ops.size=get2 (seq 0).2 b:=fun b=>mF_none fun i _ _=>hS i
   have hT:(stS ops seq val ac (fun i=>(Array.replicate ops.size false).getD i false)).1=(seq 0).1:=by
    apply List.ext_getElem?
    intro t
    rw[stS_tmp]
    unfold tS
    rw[hlw]
    by_cases h:t < (seq 0).1.length
    ·simp[h,List.getD]
    ·rw[if_neg h,List.getElem?_eq_none (by omega)]
   have hlen:=(hs.len (Nat.zero_le ops.size) (Nat.le_refl _)).1
   have hM:∀ (b:Nat) (x:Blk),(stS ops seq val ac (fun i=>(Array.replicate ops.size false).getD i false)).2[b]? = some (some x)↔(seq 0).2[b]? = some (some x):=by
    intro b x
    rw[stS_mem]
    unfold mS
    rw[hmf]
    by_cases h:b < (seq ops.size).2.length
    ·rw[if_pos h,Option.some.injEq]
     exact get2_some
    ·rw[if_neg h,List.getElem?_eq_none (by omega)]
   have hLv:∀ b,Live (stS ops seq val ac (fun i=>(Array.replicate ops.size false).getD i false)).2 b↔Live (seq 0).2 b:=fun b=>⟨fun⟨x,hx⟩=>⟨x,(hM b x).1 hx⟩,fun⟨x,hx⟩=>⟨x,(hM b x).2 hx⟩⟩
   have hL:=hR.mem.later' hdrew
   refine⟨by simp,fun i o ho hi=>?_,⟨?_,?_,⟨?_,?_,?_,?_,?_,?_,hL.fc,hL.below⟩,?_,?_,hR.ne⟩,fun i hi=>⟨rfl,(hLv i).2 hi⟩,fun _ h=>h,keepsF_below hR.mem.lt hdrew,fun _ h=>.inl h,fun i q hq=>⟨q,(hM i _).1 hq⟩,rfl⟩
   ·simp only[hS]at hi;cases hi
   ·rw[hT];exact hR.tmps.mono (fun _ h=>h) (keepsF_below hR.mem.lt hdrew).f
   ·exact hR.defers.mono (keepsF_below hR.mem.lt hdrew).d
   ·intro i b hx
    exact hL.blk i b ((hM i _).1 hx)
   ·intro i b hi hx
    exact hL.own i b hi ((hM i _).1 hx)
   ·intro i j x y hx hy
    exact hL.inj i j x y ((hM i _).1 hx) ((hM j _).1 hy)
   ·intro i b hx s hs'
    exact(hL.bd i b ((hM i _).1 hx) s hs').mono fun b hb=>(hLv b).2 hb
   ·intro i b hx
    exact hL.fr i b ((hM i _).1 hx)
   ·intro i b hx
    exact hL.fz i b ((hM i _).1 hx)
   ·intro s hs'
    rw[hT]at hs'
    exact(hR.bd s hs').mono fun b hb=>(hLv b).2 hb
   ·simp only[stS,List.length_map,List.length_range]
    exact Nat.le_trans hR.le hlen
  ·exact Nat.le_trans (List.length_filter_le _ _) (by simp)
end
end Go.Q
namespace Go.Q
open Go Go.RowKit
open Go.Rx (br bd br_eq bd_eq bd_some entB enters_of_entB predsOf maskOf masks testBit_maskOf Closed)
section
variable {P:Program}{G:World→Prop}{tab:Tab}{m ne:Nat}{w0:World}{cl:Nat→OracleP}{M:List Nat}{ρ:Type}
theorem opA_nat(hcl:∀ n,NatO (cl n)){α:Type}(bad:List Nat)(ts:List SV)(mem:Mem)(o:Oper)(k1:SV→Mem→Ac→Option α)(f:α→Option ρ):
  opA P tab m (fun n=>cl n ρ) bad ts mem o (fun s m a=>(k1 s m a).bind f)=(opA P tab m (fun n=>cl n α) bad ts mem o k1).bind f:=by
 unfold opA
 split
 ·rename_i g args _
  cases entB P g with
  | false=>rfl
  | true =>
   simp only[cond_true]
   split
   ·rename_i E _
    split
    ·split
     ·rw[bd_nat]
     ·rfl
    ·rename_i b rr _
     cases (liveB mem b&&rr.all (·==b))with
     | false=>rfl
     | true =>
      simp only[cond_true]
      split
      ·rw[bd_nat]
      ·rfl
   ·cases (closedB (maskM bad mem)&&args.all (bdM (maskM bad mem) 5))with
    | false=>rfl
    | true =>
     simp only[cond_true]
     rw[←natO_use (hcl mem.length)]
     congr 1
     funext s mem'
     cases grownB mem.length (maskM bad mem) mem' s<;>rfl
 ·rw[←natO_use (hcl m)]
  congr 1
  funext s mem'
  cases (Nat.ble mem.length mem'.length&&Nat.ble m mem.length)<;>rfl
 ·rfl
 ·split
  ·rw[br_nat]
  ·cases isNew o.op with
   | true =>
    simp only[cond_true]
    split
    ·rw[bd_nat]
    ·split
     ·rfl
     cases isBar o.op with
     | false=>rfl
     | true =>
      simp only[cond_true]
      split
      ·rename_i q _
       rw[←resK_nat q (fun s mem'=>bif Nat.ble mem.length mem'.length&&Nat.ble m mem.length then k1 s mem' (.app (barB ts o) mem.length mem'.length)else none) f]
       congr 1
       funext s mem'
       cases (Nat.ble mem.length mem'.length&&Nat.ble m mem.length)<;>rfl
      ·rfl
   | false =>
    simp only[cond_false]
    cases acOK mem (acOf ts o)with
    | false=>rfl
    | true =>
     simp only[cond_true]
     split
     ·rename_i q _
      exact resK_nat q (fun s mem'=>k1 s mem' (acOf ts o)) f
     ·rfl
theorem evalIdxA_nat(hcl:∀ n,NatO (cl n)){gd:Mem→Bool}{α:Type}(ops:Array Oper)(f:α→Option ρ):∀ (is:List Nat) (st:St) (acc:List Ac) (k1:St→List Ac→Option α),
  evalIdxA P tab m (fun n=>cl n ρ) gd M ops is st acc (fun s a=>(k1 s a).bind f)=(evalIdxA P tab m (fun n=>cl n α) gd M ops is st acc k1).bind f
 | [],st,acc,k1=>rfl
 | i::rest,st,acc,k1=>by
  simp only[evalIdxA]
  split
  ·rfl
  ·rename_i o _
   rw[←wantK_nat]
   congr 1
   ·funext st1
    cases isDefer o.op with
    | true=>rfl
    | false =>
     simp only[cond_false]
     rw[←opA_nat hcl]
     congr 1
     funext s mem' a
     cases gd mem' with
     | false=>rfl
     | true=>exact evalIdxA_nat hcl ops f rest _ _ k1
   ·funext st1
    exact evalIdxA_nat hcl ops f rest _ _ k1
theorem drawA_nat(hcl:∀ n,NatO (cl n)):NatD (fun ρ=>drawA P tab m fun n=>cl n ρ):=fun ρ ops st k=>by
 simp only[drawA]
 cases ops.toList.any fun o=>isIns o.op with
 | true =>
  simp only[cond_true]
  rw[←evalIdxA_nat hcl]
  congr 1
  funext st' acs
  cases chkOrd ops acs (masks ops.toList [])&&(insOK st.2.length acs&&itOK st.2.length st.2)<;>rfl
 | false =>
  simp only[cond_false]
  rw[←evalIdxA_nat hcl]
  congr 1
  funext st' acs
  cases chkOrd ops acs (masks ops.toList [])<;>rfl
def noLs:Nat→FuncId→Sums:=fun _ _ _ _=>none
noncomputable def clQ (P:Program) (anns:FuncId→FA) (tab:Tab) (lf N:Nat):Nat→Nat→OracleP
 | 0,_,_=>fun _ _ _ _=>none
 | d+1,m,ρ=>goK false P anns noLs (drawA P tab m fun n=>clQ P anns tab lf N d n ρ) tab m lf N
theorem rgOK_fn[HasP](hP:HasP.P=P){g:FuncId}{fn:Func}{c:Code}(hfn:P.funcs[g]? = some fn)(hc:fn.body=some c):RgOK g 0 c:=by
 have:=rgOK_body g
 rw[hP]at this
 unfold bodyP at this
 rw[hfn]at this
 simp only[hc]at this
 exact this
theorem clQ_ok[HasP](hP:HasP.P=P){anns:FuncId→FA}{lf N:Nat}(hmix:P.follows .mixedOrders=true)(hG:∀ w w',G w→Below w.heap.size w w'→G w')(hsp:AnnsOK P anns)(ht:TabOK P G tab):
  ∀ d,(∀ n,NatO (clQ P anns tab lf N d n))∧∀ n ρ,CallK P G n (clQ P anns tab lf N d n ρ)
 | 0=>⟨fun n ρ tg args mem k=>rfl,fun n ρ tg args mem k r h=>by cases h⟩
 | d+1=>by
  obtain⟨h1,h2⟩:=clQ_ok hP hmix hG hsp ht d
  refine⟨fun n=>goK_nat (drawA_nat h1) N,fun n ρ=>goK_sound hP (drawA_ok hmix hG ht h2 h1 n) hG hsp ht lf ?_ N⟩
  intro n' g fn c hfn hc
  exact lsOK_none c 0 (rgOK_fn hP hfn hc)
def resOf(rs:List Ty)(s:SV):Option (Tys rs):=match rs with
 | [t]=>match oneOf t s with
  | some x=>some (x,())
  | none=>none
 | rs=>match s with
  | .tup ss=>argsOf rs ss
  | _=>none
theorem argsR_len{F:Nat→Prop}{w:World}:∀ {rs:List Ty} {x:Tys rs} {vs:List Value},ArgsR F w rs x vs→vs.length=rs.length
 | [],x,vs,h=>by rw[show vs=[] from h];rfl
 | t::ts,x,vs,h=>by
  obtain⟨v,r,rfl,_,h2⟩:=h
  simp[argsR_len h2]
theorem resR_of[HasP]{B:Loc}{F:Nat→Prop}{w:World}{rs:List Ty}{s:SV}{y:Tys rs}{v:Value}(h:resOf rs s=some y)(hv:VR B F w s v):ResR F w rs y v:=by
 unfold resOf at h
 split at h
 ·split at h
  ·rename_i x hx
   cases h
   exact⟨[v],⟨v,[],rfl,valR_of hx hv,rfl⟩,rfl⟩
  ·cases h
 ·rename_i hne
  split at h
  ·obtain⟨ds,rfl,k⟩:=VRs.of_vr_tup hv
   have ha:=argsR_of h k
   refine⟨ds,ha,?_⟩
   split
   ·rename_i u
    have:=argsR_len ha
    obtain⟨t,e⟩:=List.length_eq_one_iff.1 this.symm
    exact absurd e (hne t)
   ·rfl
  ·cases h
theorem ValR.mono{F F':Nat→Prop}{w w':World}(hF:∀ i,F i→F' i)(hk:KeepsC F w w'){t:Ty}{x:t.α}{v:Value}(h:ValR F w t x v):ValR F' w' t x v:=by
 unfold ValR at *
 split
 ·rename_i ht
  rw[if_pos ht]at h
  obtain⟨cs,e,h⟩:=h
  exact⟨cs,e,h.mono hF hk⟩
 ·rename_i ht
  rw[if_neg ht]at h
  exact h.mono hF hk
theorem ArgsR.mono{F F':Nat→Prop}{w w':World}(hF:∀ i,F i→F' i)(hk:KeepsC F w w'):∀ {rs:List Ty} {x:Tys rs} {vs:List Value},ArgsR F w rs x vs→ArgsR F' w' rs x vs
 | [],x,vs,h=>h
 | t::ts,x,vs,h=>by
  obtain⟨v,r,e,h1,h2⟩:=h
  exact⟨v,r,e,h1.mono hF hk,ArgsR.mono hF hk h2⟩
theorem ResR.mono{F F':Nat→Prop}{w w':World}(hF:∀ i,F i→F' i)(hk:KeepsC F w w'){rs:List Ty}{x:Tys rs}{v:Value}(h:ResR F w rs x v):ResR F' w' rs x v:=by
 obtain⟨vs,h,e⟩:=h
 exact⟨vs,h.mono hF hk,e⟩
noncomputable def runQ (P:Program) (anns:FuncId→FA) (ls:Nat→FuncId→Sums) (tab:Tab) (lf N D:Nat) (g:FuncId) (ps rs:List Ty) (x:Tys ps):Option (Tys rs) :=
 goK true P anns ls (drawA P tab 0 fun n=>clQ P anns tab lf N D n (Tys rs)) tab 0 lf N (.fn g) (svsOf ps x) [] fun s mem=>resOf rs (frzR 0 mem s).1
theorem entry_ok{anns:FuncId→FA}{ls:Nat→FuncId→Sums}{lf N D:Nat}(hmix:P.follows .mixedOrders=true)(hG:∀ w w',G w→Below w.heap.size w w'→G w')(hsp:@AnnsOK ⟨P⟩ P anns)(ht:TabOK P G tab){g:FuncId}{E:Entry}
  (hls:@SumsOK ⟨P⟩ true (Tys E.rs) P anns ls (drawA P tab 0 fun n=>clQ P anns tab lf N D n (Tys E.rs)) tab 0 lf) (h:∀ x,E.f x=runQ P anns ls tab lf N D g E.ps E.rs x):EntryOK P G g E:=by
 letI:HasP:=⟨P⟩
 intro x y hy F w vals hg hF hargs
 rw[h x]at hy
 obtain⟨h1,h2⟩:=clQ_ok (P:=P) rfl (anns:=anns) (lf:=lf) (N:=N) hmix hG hsp ht D
 have hRM:RM w 0 (fun _=>⟨0,0,0,0,false,id⟩) F [] w:=⟨fun i b hi=>by simp at hi,fun i b _ hi=>by simp at hi,fun i j x y hx=>by simp at hx,fun i b hi=>by simp at hi,fun i b hi=>by simp at hi,fun i b hi=>by simp at hi,hF,Below.refl _ _⟩
 have:=goK_sound (P:=P) rfl (drawA_ok hmix hG ht h2 h1 0) hG hsp ht lf hls N (.fn g) (svsOf E.ps x) [] _ y hy w w (fun _=>⟨0,0,0,0,false,id⟩) F vals hg (Nat.le_refl _) hRM (bd_svsOf (rs:=E.ps) (x:=x)) (vrs_of_argsR hargs)
 refine this.mono ?_
 rintro e w' ⟨s,mem',B',F',v,hk,rfl,hv,hR',hn,hb⟩
 obtain⟨F2,k1,k2,k3,k4,k5,k6⟩:=frzR_sound hR' hv hb
 refine⟨v,rfl,hR'.below,(resR_of hk k4).mono (fun i hi=>?_) (fun _ _=>rfl)⟩
 have hc:=k1.fc i hi
 rcases k6 i hi with hi | hi
 ·rcases hn.fn i hi with hi | hi
  ·exact .inl hi
  ·exact .inr ⟨hi,hc⟩
 ·exact .inr ⟨hi,hc⟩
end
end Go.Q
namespace Go.Q
open Go Go.RowKit
open Go.Rx (br bd br_eq bd_eq bd_some entB enters_of_entB predsOf maskOf masks testBit_maskOf Closed)
theorem bd_none{α β:Type}(f:α→Option β):bd none f=none:=by rw[bd_eq];rfl
theorem bd_some'{α β:Type}(x:α)(f:α→Option β):bd (some x) f=f x:=by rw[bd_eq];rfl
theorem bd_bd{α β γ:Type}(x:Option α)(f:α→Option β)(g:β→Option γ):bd (bd x f) g=bd x fun y=>bd (f y) g:=by
 simp only[bd_eq];cases x<;>rfl
theorem bd_br{α β:Type}(b:Bool)(x y:Option α)(g:α→Option β):bd (br b x y) g=br b (bd x g) (bd y g):=by
 simp only[bd_eq,br_eq];cases b<;>rfl
def LeO{ρ:Type}(a b:Option ρ):Prop:=∀ r,a=some r→b=some r
theorem LeO.refl{ρ:Type}(a:Option ρ):LeO a a:=fun _ h=>h
theorem LeO.none{ρ:Type}(b:Option ρ):LeO (none:Option ρ) b:=fun _ h=>by cases h
theorem LeO.br{ρ:Type}{c:Bool}{a b a' b':Option ρ}(h:LeO a a')(k:LeO b b'):LeO (Go.Rx.br c a b) (Go.Rx.br c a' b'):=by
 simp only[br_eq];cases c<;>assumption
theorem LeO.bd{α ρ:Type}{x:Option α}{f g:α→Option ρ}(h:∀ y,LeO (f y) (g y)):LeO (Go.Rx.bd x f) (Go.Rx.bd x g):=fun r hr=>by
 obtain⟨y,hy,e⟩:=bd_some hr
 rw[bd_eq,hy];exact h y r e
inductive LeL{α ρ:Type}(f:α→Option ρ):List (Bool×Option α)→List (Bool×Option ρ)→Prop
 | nil:LeL f [] []
 | cons (b:Bool) (x:Option α) (y:Option ρ) (l:List (Bool×Option α)) (l':List (Bool×Option ρ)):LeO (Go.Rx.bd x f) y→LeL f l l'→LeL f ((b,x)::l) ((b,y)::l')
theorem LeL.mem{α ρ:Type}{f:α→Option ρ}{l:List (Bool×Option α)}{l':List (Bool×Option ρ)}(h:LeL f l l'):∀ q∈l',∃ p∈l,p.1=q.1∧LeO (Go.Rx.bd p.2 f) q.2:=by
 induction h with
 | nil=>intro q hq;cases hq
 | cons b x y l l' h1 _ ih =>
  intro q hq
  rcases List.mem_cons.1 hq with rfl | hq
  ·exact⟨_,List.mem_cons_self ..,rfl,h1⟩
  ·obtain⟨p,h1,h2⟩:=ih q hq
   exact⟨p,List.mem_cons_of_mem _ h1,h2⟩
theorem LeL.mem'{α ρ:Type}{f:α→Option ρ}{l:List (Bool×Option α)}{l':List (Bool×Option ρ)}(h:LeL f l l'):∀ p∈l,∃ q∈l',q.1=p.1:=by
 induction h with
 | nil=>intro q hq;cases hq
 | cons b x y l l' h1 _ ih =>
  intro q hq
  rcases List.mem_cons.1 hq with rfl | hq
  ·exact⟨_,List.mem_cons_self ..,rfl⟩
  ·obtain⟨p,h1,h2⟩:=ih q hq
   exact⟨p,List.mem_cons_of_mem _ h1,h2⟩
theorem LeO.chsF{α ρ:Type}{f:α→Option ρ}{a:Option α}{b:Option ρ}{l:List (Bool×Option α)}{l':List (Bool×Option ρ)}(h0:LeO (Go.Rx.bd a f) b)(h:LeL f l l'):LeO (Go.Rx.bd (chsF a l) f) (chsF b l'):=fun r hr=>by
 obtain⟨y,hy,e⟩:=bd_some hr
 obtain⟨k1,k2⟩:=chsF_some hy
 by_cases ho:∃ q∈l',q.1=true
 ·refine chsF_of ho fun q hq hqt=>?_
  obtain⟨p,hp,e1,e2⟩:=h.mem q hq
  refine e2 r ?_
  rw[k2 p hp (e1.trans hqt),bd_eq];exact e
 ·have hall:∀ q∈l',q.1=false:=fun q hq=>by
   cases hb:q.1 with
   | false=>rfl
   | true=>exact absurd ⟨q,hq,hb⟩ ho
  rw[chsF_over hall]
  refine h0 r ?_
  rw[k1 fun p hp=>by obtain⟨q,hq,e1⟩:=h.mem' p hp;rw[←e1];exact hall q hq,bd_eq];exact e
def loopP(P:Program)(g:FuncId)(i:Nat):Code:=(nthLoop (bodyP P g) i).getD .skip
def lsOf:List (Nat×FuncId×Sums)→Nat→FuncId→Sums
 | [],_,_=>fun _ _=>none
 | p::l,n,g=>bif n==p.1&&g==p.2.1 then p.2.2 else lsOf l n g
theorem lsOf_cases:∀ (l:List (Nat×FuncId×Sums)) (n:Nat) (g:FuncId),(lsOf l n g=fun _ _=>none)∨∃ p∈l,p.1=n∧p.2.1=g∧lsOf l n g=p.2.2
 | [],n,g=>.inl rfl
 | p::l,n,g=>by
  simp only[lsOf]
  cases hq:(n==p.1&&g==p.2.1)with
  | true =>
   simp only[Bool.and_eq_true,beq_iff_eq]at hq
   exact .inr ⟨p,List.mem_cons_self ..,hq.1.symm,hq.2.symm,by simp⟩
  | false =>
   rcases lsOf_cases l n g with h | ⟨q,h1,h2,h3,h4⟩
   ·exact .inl (by simpa using h)
   ·exact .inr ⟨q,List.mem_cons_of_mem _ h1,h2,h3,by simpa using h4⟩
theorem sumsOK_of[HasP]{ρ:Type}{P:Program}(hP:HasP.P=P){anns:FuncId→FA}{dr:Draws ρ}{tab:Tab}{m lf:Nat}{l:List (Nat×FuncId×Sums)}
  (h:∀ p∈l,∀ i,LsAt ρ P p.2.1 (anns p.2.1).ann p.2.2 dr (goK true P anns (lsOf l) dr tab m lf p.1) m lf none i (loopP P p.2.1 i)):SumsOK true ρ P anns (lsOf l) dr tab m lf:=by
 intro n g fn c hfn hc
 rcases lsOf_cases l n g with e | ⟨p,h1,rfl,rfl,e⟩
 ·rw[e];exact lsOK_none c 0 (rgOK_fn hP hfn hc)
 ·rw[e]
  refine lsOK_of c 0 (rgOK_fn hP hfn hc) fun i b hb=>?_
  have:=h p h1 i
  have e:loopP P p.2.1 i=b:=by
   unfold loopP bodyP
   rw[hfn]
   simp only[hc,hb,Option.getD_some]
  rw[e]at this
  simpa using this
end Go.Q
namespace Go.Q
open Go Go.RowKit
def lookT:List (FuncId×Entry)→Tab
 | [],_=>none
 | p::l,g=>bif p.1==g then some p.2 else lookT l g
theorem abT{P:Program}{G:World→Prop}:TabOK P G (lookT []):=fun g E h=>by cases h
theorem aaw{P:Program}{G:World→Prop}{g:FuncId}{E:Entry}{l:List (FuncId×Entry)}(h:EntryOK P G g E)(hl:TabOK P G (lookT l)):TabOK P G (lookT ((g,E)::l)):=by
 intro g' E' hE
 simp only[lookT]at hE
 by_cases e1:g=g'
 ·subst e1
  simp only[BEq.rfl,cond_true,Option.some.injEq]at hE
  subst hE
  exact h
 ·have:(g==g')=false:=by simpa using e1
  rw[this]at hE
  exact hl g' E' hE
theorem br_t{α:Type}(x y:Option α):Go.Rx.br true x y=x:=by rw[Go.Rx.br_eq];rfl
theorem br_f{α:Type}(x y:Option α):Go.Rx.br false x y=y:=by rw[Go.Rx.br_eq];rfl
def TabG(w:World):Prop:=Lib.TabIs Proofs.Tryz.prog w "internal/strconv.uint64pow10" .u64 Lib.pow10Tab
theorem wK(w w':World)(h:TabG w)(hb:Below w.heap.size w w'):TabG w':=by
 unfold TabG Lib.TabIs World.var? at *
 cases hg:Proofs.Tryz.prog.globalNamed "internal/strconv.uint64pow10" with
 | none=>rw[hg]at h;cases h
 | some g =>
  rw[hg]at h
  simp only[Option.bind_some]at h⊢
  cases hq:w.heap[g]? with
  | none=>rw[hq]at h;cases h
  | some o=>rw[hb.block g (lt_of_some hq),hq];rw[hq]at h;exact h
theorem mixed:Proofs.Tryz.prog.follows .mixedOrders=true:=by kernel_rfl
noncomputable instance prg:HasP:=⟨Proofs.Tryz.prog⟩
theorem entryT{l:List (FuncId×Entry)}(hl:TabOK Proofs.Tryz.prog TabG (lookT l)){anns:FuncId→FA}(hsp:AnnsOK Proofs.Tryz.prog anns){lf N D:Nat}{g:FuncId}{E:Entry}
  (h:∀ x,E.f x=runQ Proofs.Tryz.prog anns noLs (lookT l) lf N D g E.ps E.rs x):EntryOK Proofs.Tryz.prog TabG g E :=
 entry_ok mixed wK hsp hl (fun n g fn c hfn hc=>lsOK_none c 0 (rgOK_fn rfl hfn hc)) h
theorem entryL{l:List (FuncId×Entry)}(hl:TabOK Proofs.Tryz.prog TabG (lookT l)){anns:FuncId→FA}(hsp:AnnsOK Proofs.Tryz.prog anns){ls:Nat→FuncId→Sums}{lf N D:Nat}{g:FuncId}{E:Entry}
  (hls:SumsOK true (Tys E.rs) Proofs.Tryz.prog anns ls (drawA Proofs.Tryz.prog (lookT l) 0 fun n=>clQ Proofs.Tryz.prog anns (lookT l) lf N D n (Tys E.rs)) (lookT l) 0 lf)
  (h:∀ x,E.f x=runQ Proofs.Tryz.prog anns ls (lookT l) lf N D g E.ps E.rs x):EntryOK Proofs.Tryz.prog TabG g E :=
 entry_ok mixed wK hsp hl hls h
end Go.Q
namespace Go.Q
open Go Go.RowKit
open Go.Rx (br bd br_eq bd_eq bd_some)
noncomputable section
inductive Sh where
 | any
 | int (k:IntKind)
 | bool
 | str
 | sl (T:Ty)
 | ep (T:Ty) (o:Nat)
 | rp (b n o:Nat)
 | p0 (b k:Nat)
 | p1 (b k:Nat)
 | q1 (b k:Nat)
 | ptr (b o:Nat)
 | row (b:Nat)
 | mp (b:Nat)
 | csl (b n k:Nat)
 | yld (i:Nat)
 | nil
 | nilp
 | nilf
 | nilm
 | nili
 | agg (l:List Sh)
 | tup (l:List Sh)
 | fn (g:FuncId) (f c:List Sh)
@[reducible] def Sh.L (s : Sh) (R : Type) (rc : List Sh → Type → Type) : Type := match s with
 | .int _=>Int×R
 | .bool=>Bool×R
 | .str=>ByteArray×R
 | .sl T=>List T.α×R
 | .ep T _=>T.α×R
 | .rp _ _ _=>Nat×R
 | .p0 _ _=>Nat×R
 | .p1 _ _=>Nat×Nat×R
 | .q1 _ _=>Nat×Nat×R
 | .agg l=>rc l R
 | .tup l=>rc l R
 | .fn _ f c=>rc f (rc c R)
 | _=>R
@[reducible] def DF (f : Sh → Type → Type) : List Sh → Type → Type
 | [],R=>R
 | s::l,R=>f s (DF f l R)
@[reducible] def recD : Nat → List Sh → Type → Type
 | 0,_,R=>R
 | d+1,l,R=>DF (fun s R=>s.L R (recD d)) l R
@[reducible] def Sh.D (d : Nat) (s : Sh) (R : Type) : Type := s.L R (recD d)
abbrev BL(rc:List Sh→Type→Type):=(l:List Sh)→(R:Type)→rc l R→(γ:Type)→(List SV→R→γ)→γ
def bldS(rc:List Sh→Type→Type)(b:BL rc)(s:Sh)(R:Type)(x:s.L R rc)(γ:Type)(k:SV→R→γ):γ:=match s,x with
 | .int i,x=>x.rec fun a r=>k (.v (.int i a)) r
 | .bool,x=>x.rec fun a r=>k (.v (.bool a)) r
 | .str,x=>x.rec fun a r=>k (.v (.string a)) r
 | .sl T,x=>x.rec fun a r=>k (.sl T a) r
 | .ep T o,x=>x.rec fun a r=>k (.ep T a o) r
 | .rp b n o,x=>x.rec fun a r=>k (.rp b a n o) r
 | .p0 b i,x=>x.rec fun a r=>k (.part b 0 a i) r
 | .p1 b i,x=>x.rec fun a r=>r.rec fun c r=>k (.part b a c i) r
 | .q1 b i,x=>x.rec fun a r=>r.rec fun c r=>k (.ptc b a c i) r
 | .agg l,x=>b l R x γ fun vs r=>k (.agg vs) r
 | .tup l,x=>b l R x γ fun vs r=>k (.tup vs) r
 | .fn g f c,x=>b f _ x γ fun fs r=>b c R r γ fun cs r=>k (.fn g fs cs) r
 | .ptr b o,x=>k (.ptr b o) x
 | .row b,x=>k (.row b) x
 | .mp b,x=>k (.mp b) x
 | .csl b n i,x=>k (.csl b n i) x
 | .yld i,x=>k (.yld i) x
 | .nil,x=>k (.v (.slice none 0 0)) x
 | .nilp,x=>k (.v (.pointer none)) x
 | .nilf,x=>k (.v .nilFunc) x
 | .nilm,x=>k (.v (.map none)) x
 | .nili,x=>k (.v .nilIface) x
 | .any,x=>k .any x
def BF{f:Sh→Type→Type}(b:(s:Sh)→(R:Type)→f s R→(γ:Type)→(SV→R→γ)→γ):(l:List Sh)→(R:Type)→DF f l R→(γ:Type)→(List SV→R→γ)→γ
 | [],R,x,γ,k=>k [] x
 | s::l,R,x,γ,k=>b s (DF f l R) x γ fun v r=>BF b l R r γ fun vs r=>k (v::vs) r
def recB:(d:Nat)→BL (recD d)
 | 0=>fun _ R x γ k=>k [] x
 | d+1=>BF (f:=fun s R=>s.L R (recD d)) (bldS (recD d) (recB d))
def bld(d:Nat)(s:Sh)(R:Type)(x:s.D d R)(γ:Type)(k:SV→R→γ):γ:=bldS (recD d) (recB d) s R x γ k
abbrev ML(rc:List Sh→Type→Type):=(l:List Sh)→List SV→Option ((R:Type)→R→rc l R)
def matS(rc:List Sh→Type→Type)(m:ML rc)(s:Sh)(v:SV):Option ((R:Type)→R→s.L R rc):=match s with
 | .int k=>match v with
  | .v (.int k' x)=>if k'=k then some fun _ r=>(x,r)else none
  | _=>none
 | .bool=>match v with
  | .v (.bool x)=>some fun _ r=>(x,r)
  | _=>none
 | .str=>match v with
  | .v (.string x)=>some fun _ r=>(x,r)
  | _=>none
 | .sl T=>match v with
  | .sl T' l=>if h:T'=T then some fun _ r=>(h▸l,r)else none
  | _=>none
 | .ep T o=>match v with
  | .ep T' x o'=>if h:T'=T then(if o'=o then some fun _ r=>(h▸x,r)else none)else none
  | _=>none
 | .rp b n o=>match v with
  | .rp b' i n' o'=>if b'=b∧n'=n∧o'=o then some fun _ r=>(i,r)else none
  | _=>none
 | .p0 b k=>match v with
  | .part b' 0 n k'=>if b'=b∧k'=k then some fun _ r=>(n,r)else none
  | _=>none
 | .p1 b k=>match v with
  | .part b' lo n k'=>if b'=b∧k'=k then some fun _ r=>(lo,n,r)else none
  | _=>none
 | .q1 b k=>match v with
  | .ptc b' lo n k'=>if b'=b∧k'=k then some fun _ r=>(lo,n,r)else none
  | _=>none
 | .agg l=>match v with
  | .agg cs=>m l cs
  | _=>none
 | .tup l=>match v with
  | .tup cs=>m l cs
  | _=>none
 | .fn g f c=>match v with
  | .fn g' fs cs=>if g'=g then(match m f fs with
   | some a=>match m c cs with
    | some b=>some fun R r=>a _ (b R r)
    | none=>none
   | none=>none)else none
  | _=>none
 | .ptr b o=>match v with
  | .ptr b' o'=>if b'=b∧o'=o then some fun _ r=>r else none
  | _=>none
 | .row b=>match v with
  | .row b'=>if b'=b then some fun _ r=>r else none
  | _=>none
 | .mp b=>match v with
  | .mp b'=>if b'=b then some fun _ r=>r else none
  | _=>none
 | .csl b n k=>match v with
  | .csl b' n' k'=>if b'=b∧n'=n∧k'=k then some fun _ r=>r else none
  | _=>none
 | .yld i=>match v with
  | .yld i'=>if i'=i then some fun _ r=>r else none
  | _=>none
 | .nil=>match v with
  | .v (.slice none 0 0)=>some fun _ r=>r
  | _=>none
 | .nilp=>match v with
  | .v (.pointer none)=>some fun _ r=>r
  | _=>none
 | .nilf=>match v with
  | .v .nilFunc=>some fun _ r=>r
  | _=>none
 | .nilm=>match v with
  | .v (.map none)=>some fun _ r=>r
  | _=>none
 | .nili=>match v with
  | .v .nilIface=>some fun _ r=>r
  | _=>none
 | .any=>match v with
  | .any=>some fun _ r=>r
  | _=>none
def MF{f:Sh→Type→Type}(m:(s:Sh)→SV→Option ((R:Type)→R→f s R)):(l:List Sh)→List SV→Option ((R:Type)→R→DF f l R)
 | [],ss=>match ss with
  | []=>some fun _ r=>r
  | _::_=>none
 | s::l,ss=>match ss with
  | []=>none
  | v::vs=>match m s v with
   | some a=>match MF m l vs with
    | some g=>some fun R r=>a _ (g R r)
    | none=>none
   | none=>none
def recM:(d:Nat)→ML (recD d)
 | 0=>fun _ _=>none
 | d+1=>MF (f:=fun s R=>s.L R (recD d)) (matS (recD d) (recM d))
def mat(d:Nat)(s:Sh)(v:SV):Option ((R:Type)→R→s.D d R):=matS (recD d) (recM d) s v
def LOK{rc:List Sh→Type→Type}(m:ML rc)(b:BL rc):Prop:=∀ l vs f,m l vs=some f→∀ (R:Type) (r:R) (γ:Type) (k:List SV→R→γ),b l R (f R r) γ k=k vs r
theorem matS_bldS{rc:List Sh→Type→Type}{m:ML rc}{b:BL rc}(hh:LOK m b)(s:Sh)(v:SV)(f:(R:Type)→R→s.L R rc)(h:matS rc m s v=some f)(R:Type)(r:R)(γ:Type)(k:SV→R→γ):bldS rc b s R (f R r) γ k=k v r:=by
 cases s with
 | agg l =>
  simp only[matS]at h
  split at h
  ·rename_i cs
   simp only[bldS];rw[hh l cs f h R r]
  ·cases h
 | tup l =>
  simp only[matS]at h
  split at h
  ·rename_i cs
   simp only[bldS];rw[hh l cs f h R r]
  ·cases h
 | fn g fl cl =>
  simp only[matS]at h
  split at h
  ·rename_i g' fs cs
   split at h
   ·rename_i hg
    split at h
    ·rename_i a ha
     split at h
     ·rename_i b' hb
      cases h
      simp only[bldS];rw[hh fl fs a ha _ (b' R r),hh cl cs b' hb R r,hg]
     ·cases h
    ·cases h
   ·cases h
  ·cases h
 | sl T =>
  simp only[matS]at h
  split at h
  ·split at h
   ·rename_i hT;subst hT;cases h;rfl
   ·cases h
  ·cases h
 | ep T o =>
  simp only[matS]at h
  split at h
  ·split at h
   ·rename_i hT;subst hT
    split at h
    ·rename_i ho;cases h;simp only[bldS];rw[ho]
    ·cases h
   ·cases h
  ·cases h
 | nil =>
  simp only[matS]at h
  split at h
  ·cases h;rfl
  ·cases h
 | nilp =>
  simp only[matS]at h
  split at h
  ·cases h;rfl
  ·cases h
 | nilf =>
  simp only[matS]at h
  split at h
  ·cases h;rfl
  ·cases h
 | nilm =>
  simp only[matS]at h
  split at h
  ·cases h;rfl
  ·cases h
 | nili =>
  simp only[matS]at h
  split at h
  ·cases h;rfl
  ·cases h
 | any =>
  simp only[matS]at h
  split at h
  ·cases h;rfl
  ·cases h
 | bool =>
  simp only[matS]at h
  split at h
  ·cases h;rfl
  ·cases h
 | str =>
  simp only[matS]at h
  split at h
  ·cases h;rfl
  ·cases h
 | _ =>
  simp only[matS]at h
  split at h
  ·split at h
   ·rename_i hc;cases h;simp_all [bldS]
   ·cases h
  ·cases h
theorem MF_BF{f:Sh→Type→Type}{m:(s:Sh)→SV→Option ((R:Type)→R→f s R)}{b:(s:Sh)→(R:Type)→f s R→(γ:Type)→(SV→R→γ)→γ}(h:∀ s v a,m s v=some a→∀ (R:Type) (r:R) (γ:Type) (k:SV→R→γ),b s R (a R r) γ k=k v r):
  ∀ (l:List Sh) (vs:List SV) (g:(R:Type)→R→DF f l R),MF m l vs=some g→∀ (R:Type) (r:R) (γ:Type) (k:List SV→R→γ),BF b l R (g R r) γ k=k vs r
 | [],vs,f,hf,R,r,γ,k=>by
  simp only[MF]at hf
  split at hf
  ·cases hf;rfl
  ·cases hf
 | s::l,vs,f,hf,R,r,γ,k=>by
  simp only[MF]at hf
  split at hf
  ·cases hf
  ·rename_i v vs'
   split at hf
   ·rename_i f1 h1
    split at hf
    ·rename_i g h2
     cases hf
     simp only[BF]
     rw[h s v f1 h1 _ (g R r),MF_BF h l vs' g h2 R r]
    ·cases hf
   ·cases hf
theorem recM_ok:∀ d,LOK (recM d) (recB d)
 | 0=>fun l vs f h=>by cases h
 | d+1=>fun l vs f h R r γ k=>MF_BF (f:=fun s R=>s.L R (recD d)) (fun s v a hs R r γ k=>matS_bldS (recM_ok d) s v a hs R r γ k) l vs f h R r γ k
theorem mat_bld(d:Nat)(s:Sh)(v:SV)(f:(R:Type)→R→s.D d R)(h:mat d s v=some f)(R:Type)(r:R)(γ:Type)(k:SV→R→γ):bld d s R (f R r) γ k=k v r:=matS_bldS (recM_ok d) s v f h R r γ k
inductive ShT where
 | a (n:Nat)
 | s (x:Sh)
def anyN:Nat→List SV→List SV
 | 0,l=>l
 | n+1,l=>.any::anyN n l
def dropAny:Nat→List SV→Option (List SV)
 | 0,l=>some l
 | n+1,l=>match l with
  | .any::l=>dropAny n l
  | _=>none
theorem dropAny_spec:∀ (n:Nat) (l m:List SV),dropAny n l=some m→l=anyN n m
 | 0,l,m,h=>by simp only[dropAny,Option.some.injEq]at h;exact h
 | n+1,l,m,h=>by
  simp only[dropAny]at h
  split at h
  ·rw[anyN,←dropAny_spec n _ _ h]
  ·cases h
@[reducible] def DT : List ShT → Type → Type
 | [],R=>R
 | .a _::l,R=>DT l R
 | .s x::l,R=>Sh.D 5 x (DT l R)
def bldT:(l:List ShT)→(R:Type)→DT l R→(γ:Type)→(List SV→R→γ)→γ
 | [],R,x,γ,k=>k [] x
 | .a n::l,R,x,γ,k=>bldT l R x γ fun vs r=>k (anyN n vs) r
 | .s h::l,R,x,γ,k=>bld 5 h (DT l R) x γ fun v r=>bldT l R r γ fun vs r=>k (v::vs) r
def matT:(l:List ShT)→List SV→Option ((R:Type)→R→DT l R)
 | [],ss=>match ss with
  | []=>some fun _ r=>r
  | _::_=>none
 | .a n::l,ss=>match dropAny n ss with
  | some ss=>matT l ss
  | none=>none
 | .s h::l,ss=>match ss with
  | []=>none
  | v::vs=>match mat 5 h v with
   | some f=>match matT l vs with
    | some g=>some fun R r=>f _ (g R r)
    | none=>none
   | none=>none
theorem matT_bldT:∀ (l:List ShT) (vs:List SV) (f:(R:Type)→R→DT l R),matT l vs=some f→∀ (R:Type) (r:R) (γ:Type) (k:List SV→R→γ),bldT l R (f R r) γ k=k vs r
 | [],vs,f,hf,R,r,γ,k=>by
  simp only[matT]at hf
  split at hf
  ·cases hf;rfl
  ·cases hf
 | .a n::l,vs,f,hf,R,r,γ,k=>by
  simp only[matT]at hf
  split at hf
  ·rename_i ss h
   simp only[bldT]
   rw[matT_bldT l ss f hf R r,dropAny_spec _ _ _ h]
  ·cases hf
 | .s h::l,vs,f,hf,R,r,γ,k=>by
  simp only[matT]at hf
  split at hf
  ·cases hf
  ·rename_i v vs'
   split at hf
   ·rename_i f1 h1
    split at hf
    ·rename_i g h2
     cases hf
     simp only[bldT]
     rw[mat_bld 5 h v f1 h1 (DT l R) (g R r),matT_bldT l vs' g h2 R r]
    ·cases hf
   ·cases hf
inductive ShK where
 | no
 | cells (l:List ShT) (t:TypeId)
 | row (T:Ty) (t:TypeId) (fz:Bool)
 | rnd (l:List ShT) (g:FuncId) (li:Nat) (st:LoopState) (pd:Option Code)
 | dead
 | gone
 | map (k:IntKind) (is:List Int) (l:List ShT) (p:Nat)
 | iter (mb n:Nat)
@[reducible] def DK : ShK → Type → Type
 | .cells l _,R=>DT l R
 | .row T _ _,R=>List T.α×R
 | .rnd l _ _ _ _,R=>DT l R
 | .map _ _ l _,R=>DT l R
 | .iter _ _,R=>List Nat×R
 | _,R=>R
def bldK(b:ShK)(R:Type)(x:DK b R)(γ:Type)(k:Option Blk→R→γ):γ:=match b,x with
 | .no,x=>k none x
 | .cells l t,x=>bldT l R x γ fun vs r=>k (some (.cells vs t)) r
 | .row T t fz,x=>x.rec fun l r=>k (some (.row T l t fz)) r
 | .rnd l g li st pd,x=>bldT l R x γ fun vs r=>k (some (.rnd ⟨vs,g,li,st,pd⟩)) r
 | .dead,x=>k (some .dead) x
 | .gone,x=>k (some .gone) x
 | .map kd is l p,x=>bldT l R x γ fun vs r=>k (some (.map kd (is.zip vs) p)) r
 | .iter mb n,x=>x.rec fun l r=>k (some (.iter mb n l none)) r
def keysI:List Int→List (Int×SV)→Option (List SV)
 | [],es=>match es with
  | []=>some []
  | _::_=>none
 | i::is,es=>match es with
  | []=>none
  | e::es=>if e.1=i then(keysI is es).map (e.2::·)else none
theorem keysI_spec:∀ (is:List Int) (es:List (Int×SV)) (l:List SV),keysI is es=some l→es=is.zip l
 | [],es,l,h=>by
  simp only[keysI]at h
  split at h
  ·cases h;rfl
  ·cases h
 | i::is,es,l,h=>by
  simp only[keysI]at h
  split at h
  ·cases h
  ·rename_i e es'
   split at h
   ·rename_i he
    obtain⟨l',h1,rfl⟩:=Option.map_eq_some_iff.1 h
    rw[List.zip_cons_cons,←keysI_spec is es' l' h1,←he]
   ·cases h
def matK:(b:ShK)→Option Blk→Option ((R:Type)→R→DK b R)
 | .no,o=>match o with
  | none=>some fun _ r=>r
  | some _=>none
 | .cells l t,o=>match o with
  | some (.cells cs t')=>if t'=t then matT l cs else none
  | _=>none
 | .row T t fz,o=>match o with
  | some (.row T' l t' fz')=>if h:T'=T then(if t'=t∧fz'=fz then some fun _ r=>(h▸l,r)else none)else none
  | _=>none
 | .rnd l g li st pd,o=>match st,pd with
  | .ready,none=>match o with
   | some (.rnd r)=>match r with
    | ⟨ts,g',li',.ready,none⟩=>if g'=g∧li'=li then matT l ts else none
    | _=>none
   | _=>none
  | _,_=>none
 | .dead,o=>match o with
  | some .dead=>some fun _ r=>r
  | _=>none
 | .gone,o=>match o with
  | some .gone=>some fun _ r=>r
  | _=>none
 | .map k is l p,o=>match o with
  | some (.map k' es p')=>if k'=k∧p'=p then(match keysI is es with
   | some vs=>matT l vs
   | none=>none)else none
  | _=>none
 | .iter mb n,o=>match o with
  | some (.iter mb' n' sn none)=>if mb'=mb∧n'=n then some fun _ r=>(sn,r)else none
  | _=>none
theorem matK_bldK:∀ (b:ShK) (o:Option Blk) (f:(R:Type)→R→DK b R),matK b o=some f→∀ (R:Type) (r:R) (γ:Type) (k:Option Blk→R→γ),bldK b R (f R r) γ k=k o r:=by
 intro b o f h R r γ k
 cases b with
 | cells l t =>
  simp only[matK]at h
  split at h
  ·rename_i cs t'
   split at h
   ·rename_i ht
    simp only[bldK];rw[matT_bldT l cs f h R r,ht]
   ·cases h
  ·cases h
 | row T t fz =>
  simp only[matK]at h
  split at h
  ·rename_i T' l t' fz'
   split at h
   ·rename_i hT
    subst hT
    split at h
    ·rename_i ht
     cases h
     simp only[bldK];rw[ht.1,ht.2]
    ·cases h
   ·cases h
  ·cases h
 | rnd l g li st pd =>
  simp only[matK]at h
  split at h
  ·split at h
   ·rename_i q
    split at h
    ·rename_i ts g' li'
     split at h
     ·rename_i hg
      simp only[bldK];rw[matT_bldT l ts f h R r,hg.1,hg.2]
     ·cases h
    ·cases h
   ·cases h
  ·cases h
 | map k is l p =>
  simp only[matK]at h
  split at h
  ·rename_i k' es p'
   split at h
   ·rename_i hk
    split at h
    ·rename_i vs hv
     simp only[bldK];rw[matT_bldT l vs f h R r,hk.1,hk.2,keysI_spec _ _ _ hv]
    ·cases h
   ·cases h
  ·cases h
 | iter mb n =>
  simp only[matK]at h
  split at h
  ·rename_i mb' n' sn
   split at h
   ·rename_i hc
    cases h
    simp only[bldK];rw[hc.1,hc.2]
   ·cases h
  ·cases h
 | _=>simp only[matK]at h<;>split at h<;>first | (cases h;rfl) | cases h
@[reducible] def DM : List ShK → Type → Type
 | [],R=>R
 | b::l,R=>DK b (DM l R)
def bldM:(l:List ShK)→(R:Type)→DM l R→(γ:Type)→(Mem→R→γ)→γ
 | [],R,x,γ,k=>k [] x
 | b::l,R,x,γ,k=>bldK b (DM l R) x γ fun v r=>bldM l R r γ fun vs r=>k (v::vs) r
def matM:(l:List ShK)→Mem→Option ((R:Type)→R→DM l R)
 | [],ss=>match ss with
  | []=>some fun _ r=>r
  | _::_=>none
 | b::l,ss=>match ss with
  | []=>none
  | v::vs=>match matK b v with
   | some f=>match matM l vs with
    | some g=>some fun R r=>f _ (g R r)
    | none=>none
   | none=>none
theorem matM_bldM:∀ (l:List ShK) (vs:Mem) (f:(R:Type)→R→DM l R),matM l vs=some f→∀ (R:Type) (r:R) (γ:Type) (k:Mem→R→γ),bldM l R (f R r) γ k=k vs r
 | [],vs,f,hf,R,r,γ,k=>by
  simp only[matM]at hf
  split at hf
  ·cases hf;rfl
  ·cases hf
 | b::l,vs,f,hf,R,r,γ,k=>by
  simp only[matM]at hf
  split at hf
  ·cases hf
  ·rename_i v vs'
   split at hf
   ·rename_i f1 h1
    split at hf
    ·rename_i g h2
     cases hf
     simp only[bldM]
     rw[matK_bldK b v f1 h1 (DM l R) (g R r),matM_bldM l vs' g h2 R r]
    ·cases hf
   ·cases hf
structure ShS where
 t:List ShT
 m:List ShK
@[reducible] def ShS.D (s : ShS) : Type := DT s.t (DM s.m Unit)
def ShS.b(s:ShS)(x:s.D):St:=bldT s.t (DM s.m Unit) x St fun ts r=>bldM s.m Unit r St fun mem _=>(ts,mem)
def ShS.m?(s:ShS)(st:St):Option s.D:=match matT s.t st.1 with
 | some f=>match matM s.m st.2 with
  | some g=>some (f _ (g Unit ()))
  | none=>none
 | none=>none
theorem ShS.m?_spec{s:ShS}{st:St}{x:s.D}(h:s.m? st=some x):st=s.b x:=by
 unfold ShS.m? at h
 split at h
 ·rename_i f hf
  split at h
  ·rename_i g hg
   cases h
   unfold ShS.b
   rw[matT_bldT _ _ f hf,matM_bldM _ _ g hg]
  ·cases h
 ·cases h
end
end Go.Q
namespace Go.Q
open Go Go.RowKit
open Go.Rx (br bd br_eq bd_eq bd_some)
abbrev Ok(g:FuncId)(E:Entry):Prop:=EntryOK Proofs.Tryz.prog TabG g E
def kxF:Nat→Nat→List Nat→List Nat
 | 0,_,_=>[]
 | f+1,i,ks=>match ks with
  | []=>i::kxF f (i+1) []
  | k::ks=>bif Nat.beq i k then kxF f (i+1) ks else i::kxF f (i+1) (k::ks)
def kx(n:Nat)(l:List Nat):List Nat:=kxF n 0 l
def annOf:List (Nat×Nr×Nr)→Nat→Nr×Nr
 | [],_=>(⟨[],[],[]⟩,⟨[],[],[]⟩)
 | p::l,li=>bif li==p.1 then p.2 else annOf l li
def annsL:List (FuncId×FA)→FuncId→FA
 | [],_=>FA.none
 | p::l,g=>bif g==p.1 then p.2 else annsL l g
theorem aoN:AnnsOK Proofs.Tryz.prog (annsL []):=fun g s h=>by cases h
theorem aoS{g:FuncId}{a:FA}{l:List (FuncId×FA)}(h:∀ s,a.spc=some s→SpkOK Proofs.Tryz.prog s g)(hl:AnnsOK Proofs.Tryz.prog (annsL l)):AnnsOK Proofs.Tryz.prog (annsL ((g,a)::l)):=by
 intro g' s hs
 simp only[annsL]at hs
 by_cases e:g'=g
 ·subst e
  simp only[BEq.rfl,cond_true]at hs
  exact h s hs
 ·rw[show(g'==g)=false from by simpa using e,cond_false]at hs
  exact hl g' s hs
theorem aoC{g:FuncId}{n:List (Nat×Nr×Nr)}{i:List Nat}{l:List (FuncId×FA)}(hl:AnnsOK Proofs.Tryz.prog (annsL l)):AnnsOK Proofs.Tryz.prog (annsL ((g,⟨annOf n,none,i⟩)::l)) :=
 aoS (fun s h=>by cases h) hl
theorem aoP{g:FuncId}{n:List (Nat×Nr×Nr)}{i:List Nat}{s:Spk}{l:List (FuncId×FA)}(h:SpkOK Proofs.Tryz.prog s g)(hl:AnnsOK Proofs.Tryz.prog (annsL l)):AnnsOK Proofs.Tryz.prog (annsL ((g,⟨annOf n,some s,i⟩)::l)) :=
 aoS (fun s' h'=>by cases h';exact h) hl
section
variable (an:FuncId→FA)(ls:List (Nat×FuncId×Sums))(tb:List (FuncId×Entry))(lf:Nat)
noncomputable def drG (ρ:Type):Draws ρ:=drawA Proofs.Tryz.prog (lookT tb) 0 fun n=>clQ Proofs.Tryz.prog an (lookT tb) (lf+40) 14 6 n ρ
noncomputable def itG {ρ:Type} (n0 g li j:Nat) (sg:Sums) (n:Nat) (st:St) (k:KE ρ):Option ρ :=
 iterK (nrmS 0 ((an g).ann li).1 j) (nrmS 0 ((an g).ann li).2 j) (codeK Proofs.Tryz.prog g (an g).ann sg (drG an tb lf ρ) (goK true Proofs.Tryz.prog an (lsOf ls) (drG an tb lf ρ) (lookT tb) 0 (lf+40) n0) 0 (lf+40) none (li+1) (loopP Proofs.Tryz.prog g li)) n st k
def sumE(sh:ShS)(f:sh.D→LTE):St→Option LTE:=fun st=>(sh.m? st).map f
def sumsL:List (Nat×(St→Option LTE))→Nat→St→Option LTE
 | [],_,_=>none
 | p::l,li,st=>bif li==p.1 then(match p.2 st with
  | some T=>some T
  | none=>sumsL l li st)else sumsL l li st
def LA(n0 g:Nat)(sg:Sums)(l:List (Nat×(St→Option LTE))):Prop :=
 ∀ p∈l,∀ (ρ:Type) (st:St) (T:LTE),p.2 st=some T→∀ (k:KE ρ) (r:ρ),bd T.x (fun y=>altK k (T.out y))=some r→itG an ls tb lf n0 g p.1 (st.2.length-((an g).ann p.1).1.acc.length) sg (lf+40) st k=some r
def SL(q:List (Nat×FuncId×Sums)):Prop:=∀ p∈q,∃ l,p.2.2=sumsL l∧LA an ls tb lf p.1 p.2.1 p.2.2 l
variable {an ls tb lf}
theorem laN{n0 g:Nat}{sg:Sums}:LA an ls tb lf n0 g sg []:=fun p hp=>by cases hp
theorem laC{n0 g li j:Nat}{sg:Sums}{sh:ShS}{f:sh.D→LTE}{l:List (Nat×(St→Option LTE))}(hj:∀ x:sh.D,(sh.b x).2.length-((an g).ann li).1.acc.length=j)
  (h:∀ (ρ:Type) (x:sh.D) (k:KE ρ),LeO (bd (f x).x fun y=>altK k ((f x).out y)) (itG an ls tb lf n0 g li j sg (lf+40) (sh.b x) k)) (hl:LA an ls tb lf n0 g sg l):LA an ls tb lf n0 g sg ((li,sumE sh f)::l):=by
 intro p hp ρ st T hT k r he
 rcases List.mem_cons.1 hp with rfl | hp
 ·simp only[sumE]at hT
  obtain⟨x,hx,rfl⟩:=Option.map_eq_some_iff.1 hT
  have e:=ShS.m?_spec hx
  subst e
  rw[hj]
  exact h ρ x k r he
 ·exact hl p hp ρ st T hT k r he
theorem slN:SL an ls tb lf []:=fun p hp=>by cases hp
theorem slC{n0 g:Nat}{l:List (Nat×(St→Option LTE))}{q:List (Nat×FuncId×Sums)}(h:LA an ls tb lf n0 g (sumsL l) l)(hq:SL an ls tb lf q):SL an ls tb lf ((n0,g,sumsL l)::q):=by
 intro p hp
 rcases List.mem_cons.1 hp with rfl | hp
 ·exact⟨l,rfl,h⟩
 ·exact hq p hp
theorem sU:∀ {l:List (Nat×(St→Option LTE))} {li:Nat} {st:St} {T:LTE},sumsL l li st=some T→∃ p∈l,p.1=li∧p.2 st=some T
 | p::l,li,st,T,h=>by
  simp only[sumsL]at h
  cases hb:li==p.1 with
  | true =>
   rw[hb,cond_true]at h
   split at h
   ·rename_i T' hT
    cases h
    exact⟨p,List.mem_cons_self ..,(by simpa using hb:li=p.1).symm,hT⟩
   ·obtain⟨q,h1,h2⟩:=sU h
    exact⟨q,List.mem_cons_of_mem _ h1,h2⟩
  | false =>
   rw[hb,cond_false]at h
   obtain⟨q,h1,h2⟩:=sU h
   exact⟨q,List.mem_cons_of_mem _ h1,h2⟩
theorem sumsG(h:SL an ls tb lf ls)(ρ:Type):SumsOK true ρ Proofs.Tryz.prog an (lsOf ls) (drG an tb lf ρ) (lookT tb) 0 (lf+40):=by
 refine sumsOK_of rfl fun p hp i st T hT k r he=>?_
 obtain⟨l,e,hl⟩:=h p hp
 rw[e]at hT
 obtain⟨q,h1,rfl,h3⟩:=sU hT
 exact hl q h1 ρ st T h3 k r he
theorem okL(hl:TabOK Proofs.Tryz.prog TabG (lookT tb))(hsp:AnnsOK Proofs.Tryz.prog an)(hs:SL an ls tb lf ls){g:FuncId}{E:Entry}
  (h:∀ x,E.f x=runQ Proofs.Tryz.prog an (lsOf ls) (lookT tb) (lf+40) 14 6 g E.ps E.rs x):Ok g E:=entryL hl hsp (sumsG hs _) h
theorem okT(hl:TabOK Proofs.Tryz.prog TabG (lookT tb))(hsp:AnnsOK Proofs.Tryz.prog an){g:FuncId}{E:Entry}
  (h:∀ x,E.f x=runQ Proofs.Tryz.prog an noLs (lookT tb) (lf+40) 14 6 g E.ps E.rs x):Ok g E:=entryT hl hsp h
theorem okZ{g:FuncId}{E:Entry}(h:∀ x,E.f x=none):Ok g E:=fun x y hy=>by rw[h x]at hy;cases hy
theorem tN:TabOK Proofs.Tryz.prog TabG (lookT []):=abT
theorem tC{g:FuncId}{E:Entry}{l:List (FuncId×Entry)}(h:Ok g E)(hl:TabOK Proofs.Tryz.prog TabG (lookT l)):TabOK Proofs.Tryz.prog TabG (lookT ((g,E)::l)):=aaw h hl
theorem dK{ρ:Type}{a b:Option ρ}(h:b=a):LeO a b:=fun r hr=>h.trans hr
end
end Go.Q
namespace Go.Q
open Go.IntKind (i64)
open Go Go.RowKit
section
variable {P:Program}(w:World)
theorem sG:∀ (l:List Int) (a:Addr) (acc:ByteArray),(∀ (j:Nat) (x:Int),l[j]? = some x→w.cell? (a.add j)=some (.int .u8 x))→
  (loadBytes a acc l.length).run P w=.ok ⟨acc.data++(l.map fun n=>UInt8.ofNat n.toNat).toArray⟩ w
 | [],a,acc,_=>by simp[loadBytes]
 | x::l,a,acc,h=>by
  have h0:w.cell? a=some (.int .u8 x):=by
   have:=h 0 x rfl
   simpa [Addr.add]using this
  have ih:=sG l (a.add 1) (acc.push (UInt8.ofNat x.toNat)) (fun j y hy=>by
   have:=h (j+1) y (by simpa using hy)
   have e:(a.add 1).add j=a.add (j+1):=by
    unfold Addr.add
    by_cases hj:j=0
    ·subst hj;simp
    ·simp[hj];omega
   rw[e];exact this)
  have hx:(x.toNat).toUInt8=UInt8.ofNat x.toNat:=rfl
  simp only[List.length_cons,loadBytes,Sem.run_bind,run_load,h0,Result.andThen,hx]
  rw[ih]
  congr 1
  apply ByteArray.ext
  simp[ByteArray.push]
theorem uN(pt it ty e:TypeId)(hp:P.underlying pt=some (.pointer e))(hc:P.cellsOf e=1)(g cells:Nat)(hsh:w.shape? g=some (e,cells))(l:List Int)(h0:l≠[])(hn:l.length≤cells)(h63:l.length≤9223372036854775807)
  (hcell:∀ (j:Nat) (x:Int),l[j]? = some x→w.cell? ((⟨g,0,none⟩:Addr).add j)=some (.int .u8 x)) :
  (Builtin.unsafeString_ #[pt,it] ty #[.pointer (some ⟨g,0,none⟩),.int .i64 l.length]).run P w=.ok (.string (bytesS l)) (w.freeze ⟨g,0,none⟩ l.length):=by
 have hl:l.length≠0:=by simpa using h0
 have hlb:=sG (P:=P) w l ⟨g,0,none⟩ .empty hcell
 have hlies:=Lib.liesAt_bytes (P:=P) hc (cells / P.cellsOf e) l.length (by rw[hc];simpa using hn)
 have h63':¬(9223372036854775807:Int) < (l.length:Int):=by omega
 have hdef:Builtin.unsafeString_ #[pt,it] ty #[.pointer (some ⟨g,0,none⟩),.int .i64 l.length] =
   (do
    let n←asInt (.int .i64 l.length)
    if n < 0 then runtimePanic (.error "unsafe.String: len out of range")
    if n > i64.max then unsupported (.unsafePointer "String: a length above the largest int")
    if n=0 then pure (.string .empty)
    else if←variablesAt ⟨g,0,none⟩ (←elemOf pt) n.toNat then do
     let s←loadBytes ⟨g,0,none⟩ .empty n.toNat
     freeze ⟨g,0,none⟩ n.toNat
     pure (.string s)
    else unsupported (.unsafePointer "String: not so many bytes at ptr")):=rfl
 rw[hdef]
 have hmax:i64.max=9223372036854775807:=rfl
 have hneg:¬(l.length:Int) < 0:=by omega
 have e1:(ByteArray.empty.data++(l.map fun n=>UInt8.ofNat n.toNat).toArray)=(l.map fun n=>UInt8.ofNat n.toNat).toArray:=by simp
 rw[e1]at hlb
 simp[asInt,asIntOf,hmax,h63',hneg,hl,variablesAt,hsh,elemOf,run_underlying hp,hlies,hlb,bytesS]
end
set_option maxHeartbeats 1000000 in
set_option maxRecDepth 100000 in
theorem vO(b:Nat)(w:World)(h0:w.cell? ⟨b,0,none⟩=some (.pointer (some ⟨b,0,none⟩))):
  Calls Proofs.Tryz.prog 255 #[.pointer (some ⟨b,0,none⟩)] w fun e w'=>e=.returned (.tuple #[])∧w'=w:=by
 have hp:Proofs.Tryz.prog.underlying 202=some (.pointer 205):=by kernel_rfl
 obtain⟨j,hj⟩:∃ j,Proofs.Tryz.prog.info? 205=some j:=Option.isSome_iff_exists.1 (by kernel_rfl)
 go_enter Proofs.Tryz.func255,Proofs.Tryz.ntmps255
 go_wp2
 rw[Lib.run_neq_ptr_same w _ hp hj]
 go_wp2
 go_end0
 exact⟨rfl,rfl⟩
set_option maxHeartbeats 1000000 in
set_option maxRecDepth 100000 in
theorem uZ(b:Nat)(w:World)(h0:w.cell? ⟨b,0,none⟩=some (.pointer none))(hsh:w.shape? b=some (205,2))(hfz:w.frozen? ⟨b,0,none⟩=false):
  Calls Proofs.Tryz.prog 255 #[.pointer (some ⟨b,0,none⟩)] w fun e w'=>e=.returned (.tuple #[])∧w'=w.setCell ⟨b,0,none⟩ (.pointer (some ⟨b,0,none⟩)):=by
 have hp:Proofs.Tryz.prog.underlying 202=some (.pointer 205):=by kernel_rfl
 have hu:Proofs.Tryz.prog.underlying 247=some .unsafePointer:=by kernel_rfl
 have hsz:(Proofs.Tryz.prog.info? 205).map (·.size)=some 2:=by kernel_rfl
 obtain⟨j,hj,hjs⟩:=Option.map_eq_some_iff.1 hsz
 go_enter Proofs.Tryz.func255,Proofs.Tryz.ntmps255
 go_wp2
 rw[Lib.run_to_unsafe w ⟨b,0,none⟩ hp hu hj (by rw[hjs];decide) hsh (Nat.zero_lt_succ 1)]
 simp only[Result.andThen]
 rw[Oper.upon_value]
 go_wp2
 rw[run_callFunc_extern Proofs.Tryz.func271 (by kernel_rfl) (by kernel_rfl) (by kernel_rfl) (e:=Extern.AbiNoEscape.same) (by kernel_rfl)]
 rw[Lib.run_noEscape]
 simp only[Result.andThen]
 rw[Oper.upon_value]
 go_wp2
 rw[Lib.run_from_unsafe w ⟨b,0,none⟩ hu hp hj hsh (by kernel_rfl)]
 simp only[Result.andThen]
 rw[Oper.upon_value]
 go_wp2
 go_end0
 exact⟨rfl,rfl⟩
set_option maxHeartbeats 1000000 in
set_option maxRecDepth 100000 in
theorem zA(b g n cap sz:Nat)(p:Value)(cur:Array Value)(l:List Int)(w:World)(hbk:w.heap[b]? = some (.cells #[p,.slice (some ⟨g,0,none⟩) n cap] 205 (0,0)))(hg:w.heap[g]? = some (.cells cur 5 (0,0)))
  (hn:n=l.length) (h0:l≠[]) (hc0:cap≠0) (hsz:cur.size=sz) (hle:l.length≤sz) (h63:l.length≤9223372036854775807) (hcell:∀ (j:Nat) (x:Int),l[j]? = some x→cur[j]? = some (.int .u8 x)) :
  Calls Proofs.Tryz.prog 217 #[.pointer (some ⟨b,0,none⟩)] w fun e w'=>e=.returned (.string (bytesS l))∧w'=w.drew.freeze ⟨g,0,none⟩ l.length:=by
 subst hn
 have c1:w.drew.cell? ⟨b,1,none⟩=some (.slice (some ⟨g,0,none⟩) l.length cap):=by
  have:w.drew.heap[b]? = some (.cells #[p,.slice (some ⟨g,0,none⟩) l.length cap] 205 (0,0)):=hbk
  rw[Lib.cell_of_heap this];rfl
 have hSD:(Builtin.unsafeSliceData_ #[203] 238 #[.slice (some ⟨g,0,none⟩) l.length cap]).run Proofs.Tryz.prog w.drew=.ok (.pointer (some ⟨g,0,none⟩)) w.drew :=
  Lib.run_unsafeSliceData_row _ _ _ _ _ _ hc0
 have hUS:(Builtin.unsafeString_ #[238,3] 9 #[.pointer (some ⟨g,0,none⟩),.int .i64 l.length]).run Proofs.Tryz.prog w.drew=.ok (.string (bytesS l)) (w.drew.freeze ⟨g,0,none⟩ l.length):=by
  refine uN w.drew 238 3 9 5 (by kernel_rfl) (by kernel_rfl) g cur.size (by have hg':w.drew.heap[g]? = some (.cells cur 5 (0,0)):=hg;simp[World.shape?,hg']) l h0 (by omega) h63 ?_
  intro j x hx
  have e:(⟨g,0,none⟩:Addr).add j=⟨g,j,none⟩:=by unfold Addr.add;split<;>simp_all
  rw[e]
  have hg':w.drew.heap[g]? = some (.cells cur 5 (0,0)):=hg
  rw[Lib.cell_of_heap hg']
  exact hcell j x hx
 go_enter Proofs.Tryz.func217,Proofs.Tryz.ntmps217
 go_wp2
 go_region
 all_goals (go_wp2;go_ret;exact⟨rfl,rfl⟩)
end Go.Q
namespace Go.Q
open Go Go.RowKit
theorem yP{mem:Mem}{i:Nat}{x:Blk}(h:mem[i]? = some (some x)):mem.set i (some x)=mem:=by
 apply List.ext_getElem?
 intro j
 rw[List.getElem?_set]
 by_cases e:i=j
 ·subst e;rw[if_pos rfl,if_pos (List.getElem?_eq_some_iff.1 h).1,h]
 ·rw[if_neg e]
theorem yu:SpkOK Proofs.Tryz.prog (.copyCheck 205) 255:=by
 intro w0 m B F mem w args vals q o mem' h ho hm hR hbd hv
 unfold spcE at h
 split at h
 ·rename_i tB b hs
  cases hs
  split at h
  ·rename_i p v t hb
   split at h
   ·rename_i hc
    obtain⟨hmb,rfl,hfr⟩:=hc
    cases h
    obtain⟨rfl,rfl⟩:=ho
    obtain⟨h0,h1,ds,h2,h3⟩:=hR.blk b _ hb
    obtain⟨d0,ds1,rfl,e1,e2⟩:=h3.head
    obtain⟨d1,ds2,rfl,e3,e4⟩:=e2.head
    have:ds2=[]:=List.length_eq_zero_iff.1 e4.1.symm
    subst this
    obtain⟨a0,as1,rfl,f1,f2⟩:=VRs.head hv
    have:as1=[]:=List.length_eq_zero_iff.1 f2.1.symm
    subst this
    cases f1
    rw[h1]
    have hlive:Live mem b:=⟨_,hb⟩
    have hself:∀ w':World,VR B F w' (.ptr b 0) (.pointer (some ⟨(B b).blk,0,none⟩)):=fun w'=>by
     have:=VR.ptr (B:=B) (F:=F) (w:=w') b 0
     rwa [h1]at this
    have hbdv:∀ s∈([.ptr b 0,v]:List SV),Bd (Live mem) s:=by
     intro s hs
     simp at hs
     rcases hs with rfl | rfl
     ·exact .ptr hlive
     ·exact hR.bd b _ hb _ (by simp[Blk.refs])
    unfold freshB at hfr
    split at hfr
    ·cases e1
     refine(uZ (B b).blk w (by simp[World.cell?,h2]) (by simp[World.shape?,h2]) (by simp[World.frozen?,h2])).mono ?_
     rintro e w' ⟨rfl,rfl⟩
     have hheap:(w.setCell ⟨(B b).blk,0,none⟩ (.pointer (some ⟨(B b).blk,0,none⟩))).heap[(B b).blk]? = some (.cells #[.pointer (some ⟨(B b).blk,0,none⟩),d1] 205 (0,0)):=by
      simp[World.setCell,Array.getElem?_modify,h2]
     have hne:∀ k,k≠(B b).blk→(w.setCell ⟨(B b).blk,0,none⟩ (.pointer (some ⟨(B b).blk,0,none⟩))).heap[k]? = w.heap[k]? := fun k hk=>by
      simp[World.setCell,Array.getElem?_modify,Ne.symm hk]
     have hkf:KeepsF F w (w.setCell ⟨(B b).blk,0,none⟩ (.pointer (some ⟨(B b).blk,0,none⟩))) :=
      ⟨fun k hk=>hne k fun e=>hR.fr b _ hb rfl h0 rfl (e▸hk),fun d hd=>by rw[hne d fun e=>by rw[e,h2]at hd;cases hd];exact hd,by simp[World.setCell]⟩
     refine⟨B,F,_,rfl,VR.tup' (ds:=[]) .nil,?_,⟨fun _ _=>rfl,fun _ h=>h,hkf,ext_set hb (fun r h=>by cases h),fun _ h=>.inl h⟩,.tup (fun s hs=>by cases hs)⟩
     refine hR.turn hmb hb rfl rfl rfl (by simp[World.setCell]) ⟨rfl,rfl,rfl⟩ h0 hne (by rw[h2];simp) ⟨h0,h1,_,hheap,?_⟩ hbdv
     exact .cons (hself _) (.cons (e3.mono (fun _ h=>h) hkf.f) .nil)
    ·rename_i c
     have:c=b:=by simpa using hfr
     subst this
     cases e1
     refine(vO (B c).blk w (by simp[World.cell?,h2,h1])).mono ?_
     rintro e w' ⟨rfl,rfl⟩
     rw[yP hb]
     exact⟨B,F,_,rfl,VR.tup' (ds:=[]) .nil,hR,Nx.refl,.tup (fun s hs=>by cases hs)⟩
    ·cases hfr
   ·cases h
  ·cases h
 ·rename_i hs;cases hs
 ·rename_i hs;cases hs
 ·cases h
theorem aai:SpkOK Proofs.Tryz.prog (.bString 205 5) 217:=by
 intro w0 m B F mem w args vals q o mem' h ho hm hR hbd hv
 unfold spcE at h
 split at h
 ·rename_i hs;cases hs
 ·rename_i tB tE b hs
  cases hs
  split at h
  ·rename_i p r t hb
   split at h
   ·rename_i T l e hr
    split at h
    ·rename_i hc
     obtain⟨hmb,hmr,rfl,rfl⟩:=hc
     split at h
     ·rename_i l' hl'
      obtain⟨rfl,e⟩:=castL_some hl'
      subst e
      cases h
      obtain⟨s,hs,he⟩:=ho
      cases he
      split at hs
      ·rename_i hpos
       cases hs
       obtain⟨h0,h1,ds,h2,h3⟩:=hR.blk b _ hb
       obtain⟨d0,ds1,rfl,e1,e2⟩:=h3.head
       obtain⟨d1,ds2,rfl,e3,e4⟩:=e2.head
       have:ds2=[]:=List.length_eq_zero_iff.1 e4.1.symm
       subst this
       obtain⟨a0,as1,rfl,f1,f2⟩:=VRs.head hv
       have:as1=[]:=List.length_eq_zero_iff.1 f2.1.symm
       subst this
       cases f1
       cases e3
       rw[h1]
       rcases hR.blk r _ hr with⟨_,rfl⟩ | ⟨k0,k1,k2,k3,es,k4,k5,k7,k6⟩
       ·simp at hpos
       ·obtain⟨g1,g2⟩:=hR.give hmr hr
        have hval:(B r).val=.slice (some ⟨(B r).blk,0,none⟩) l'.length (B r).cap:=by simp[Place.val,k0,k1,k2]
        rw[hval]at h2
        refine(zA (B b).blk (B r).blk l'.length (B r).cap es.length d0 es.toArray l' w (by simpa using h2) k4 rfl (fun e=>by simp[e]at hpos) (by omega) (by simp) (by simp only[Ty.n]at k5;omega) (by simp only[maxLen]at k7;omega) ?_).mono ?_
        ·intro j x hx
         obtain⟨cs,c1,c2⟩:=k6 j x hx
         rw[show cs=_ from c1]at c2
         have:=c2 0 _ rfl
         simpa [Ty.n]using this
        ·rintro e w' ⟨rfl,rfl⟩
         have hne:∀ k,k≠(B r).blk→(w.drew.freeze ⟨(B r).blk,0,none⟩ l'.length).heap[k]? = w.heap[k]? := fun k hk=>by
          unfold World.freeze
          split
          ·rfl
          ·simp[Array.getElem?_modify,Ne.symm hk];try rfl
         have hsz:(w.drew.freeze ⟨(B r).blk,0,none⟩ l'.length).heap.size=w.heap.size:=by
          unfold World.freeze;split<;>simp
         have hos:(w.drew.freeze ⟨(B r).blk,0,none⟩ l'.length).os=w.os∧(w.drew.freeze ⟨(B r).blk,0,none⟩ l'.length).tape=w.tape∧(w.drew.freeze ⟨(B r).blk,0,none⟩ l'.length).output=w.output:=by
          unfold World.freeze;split<;>exact⟨rfl,rfl,rfl⟩
         have hkf:KeepsF F w (w.drew.freeze ⟨(B r).blk,0,none⟩ l'.length) :=
          ⟨fun k hk=>hne k fun e=>hR.fr r _ hr rfl k0 rfl (e▸hk),fun d hd=>by rw[hne d fun e=>by rw[e,k4]at hd;cases hd];exact hd,by rw[hsz];exact Nat.le_refl _⟩
         have hRM:RM w0 m B F (mem.set r (some .gone)) (w.drew.freeze ⟨(B r).blk,0,none⟩ l'.length) :=
          hR.turn (b':=.gone) hmr hr rfl rfl rfl hsz hos k0 hne (by rw[k4];simp) trivial (fun s hs=>by cases hs)
         exact⟨B,F,_,rfl,.v _,hRM,⟨fun _ _=>rfl,fun _ h=>h,hkf,ext_set (y:=.gone) hr (fun r h=>by cases h),fun _ h=>.inl h⟩,.v _⟩
      ·cases hs
     ·cases h
    ·cases h
   ·cases h
  ·cases h
 ·rename_i hs;cases hs
 ·cases h
end Go.Q
/-
 DERIVED: THE SHELF's CONTRACTS AT THIS DUMP, IN PLAIN WORDS (tools/lay-plain.mjs out of 'TryzShelf.lean', which tools/lay-shelf.mjs wrote): THE SAME DECLARATIONS UNDER THE SAME NAMES: 'import', 'namespace', 'open', 'def', 'theorem' AND NOTHING ELSE: no command of the shelf's: FOR A HAND-IN. Each laying: the table of numbers ('.._ren') and one theorem, a field a fact of the dump's own or the kernel's comparison; each contract: ONE APPLICATION.
-/
namespace Go.Proofs
open Go.Shelf
def Tryz.zU:Go.Shelf.Ren:=⟨fun | 172=>253 | 244=>268 | 245=>269 | 247=>279 | 279=>280 | 280=>281 | 281=>282 | 282=>283 | 287=>293 | 316=>294 | 171=>212 | 205=>295 | 321=>302 | 322=>303 | 243=>254 | 246=>270 | 283=>284 | 284=>285 | 285=>286 | 286=>287 | 129=>297 | 317=>296 | 318=>298 | 319=>299 | 320=>300 | 337=>304 | 338=>305 | n=>n,fun | 9=>9 | 3=>3 | 75=>207 | 76=>212 | 4=>4 | 5=>5 | 167=>257 | 37=>203 | 0=>0 | 85=>258 | 2=>2 | 168=>260 | 53=>252 | 175=>276 | 46=>177 | 210=>280 | 127=>238 | 145=>289 | 143=>287 | 21=>21 | 171=>263 | 173=>266 | 212=>283 | 51=>249 | 20=>20 | 213=>284 | 232=>291 | 233=>292 | 80=>215 | n=>n,fun | 15=>2 | 16=>3 | 17=>4 | 18=>6 | 19=>7 | n=>n⟩
theorem Tryz.lays172:Go.Proofs.Lays.n172 Tryz.prog Tryz.zU:={
 mixed:=by kernel_rfl
 f129:=Tryz.func297.trans (congrArg some (by kernel_rfl))
 f171:=Tryz.func212.trans (congrArg some (by kernel_rfl))
 f172:=Tryz.func253.trans (congrArg some (by kernel_rfl))
 f205:=Tryz.func295.trans (congrArg some (by kernel_rfl))
 f243:=Tryz.func254.trans (congrArg some (by kernel_rfl))
 f244:=Tryz.func268.trans (congrArg some (by kernel_rfl))
 f245:=Tryz.func269.trans (congrArg some (by kernel_rfl))
 f246:=Tryz.func270.trans (congrArg some (by kernel_rfl))
 f247:=Tryz.func279.trans (congrArg some (by kernel_rfl))
 f279:=Tryz.func280.trans (congrArg some (by kernel_rfl))
 f280:=Tryz.func281.trans (congrArg some (by kernel_rfl))
 f281:=Tryz.func282.trans (congrArg some (by kernel_rfl))
 f282:=Tryz.func283.trans (congrArg some (by kernel_rfl))
 f283:=Tryz.func284.trans (congrArg some (by kernel_rfl))
 f284:=Tryz.func285.trans (congrArg some (by kernel_rfl))
 f285:=Tryz.func286.trans (congrArg some (by kernel_rfl))
 f286:=Tryz.func287.trans (congrArg some (by kernel_rfl))
 f287:=Tryz.func293.trans (congrArg some (by kernel_rfl))
 f316:=Tryz.func294.trans (congrArg some (by kernel_rfl))
 f317:=Tryz.func296.trans (congrArg some (by kernel_rfl))
 f318:=Tryz.func298.trans (congrArg some (by kernel_rfl))
 f319:=Tryz.func299.trans (congrArg some (by kernel_rfl))
 f320:=Tryz.func300.trans (congrArg some (by kernel_rfl))
 f321:=Tryz.func302.trans (congrArg some (by kernel_rfl))
 f322:=Tryz.func303.trans (congrArg some (by kernel_rfl))
 f337:=Tryz.func304.trans (congrArg some (by kernel_rfl))
 f338:=Tryz.func305.trans (congrArg some (by kernel_rfl))
 t0:=Tryz.underlying0
 a0:=Tryz.isAgg0
 z0:=Tryz.sizeOf0
 v0:=Tryz.zeroValue0
 t2:=Tryz.underlying2
 a2:=Tryz.isAgg2
 z2:=Tryz.sizeOf2
 v2:=Tryz.zeroValue2
 t3:=Tryz.underlying3
 a3:=Tryz.isAgg3
 z3:=Tryz.sizeOf3
 v3:=Tryz.zeroValue3
 t4:=Tryz.underlying4
 a4:=Tryz.isAgg4
 z4:=Tryz.sizeOf4
 v4:=Tryz.zeroValue4
 t5:=Tryz.underlying5
 a5:=Tryz.isAgg5
 z5:=Tryz.sizeOf5
 v5:=Tryz.zeroValue5
 t9:=Tryz.underlying9
 a9:=Tryz.isAgg9
 z9:=Tryz.sizeOf9
 v9:=Tryz.zeroValue9
 t20:=Tryz.underlying20
 a20:=Tryz.isAgg20
 z20:=Tryz.sizeOf20
 v20:=Tryz.zeroValue20
 t21:=Tryz.underlying21
 a21:=Tryz.isAgg21
 z21:=Tryz.sizeOf21
 v21:=Tryz.zeroValue21
 t37:=Tryz.underlying203
 a37:=Tryz.isAgg203
 z37:=Tryz.sizeOf203
 v37:=Tryz.zeroValue203
 t46:=Tryz.underlying177
 a46:=Tryz.isAgg177
 z46:=Tryz.sizeOf177
 v46:=Tryz.zeroValue177
 t51:=Tryz.underlying249
 a51:=Tryz.isAgg249
 z51:=Tryz.sizeOf249
 v51:=Tryz.zeroValue249
 t53:=Tryz.underlying252
 a53:=Tryz.isAgg252
 z53:=Tryz.sizeOf252
 v53:=Tryz.zeroValue252
 t75:=Tryz.underlying207
 a75:=Tryz.isAgg207
 z75:=Tryz.sizeOf207
 v75:=Tryz.zeroValue207
 t76:=Tryz.underlying212
 a76:=Tryz.isAgg212
 z76:=Tryz.sizeOf212
 v76:=Tryz.zeroValue212
 t85:=Tryz.underlying258
 a85:=Tryz.isAgg258
 z85:=Tryz.sizeOf258
 v85:=Tryz.zeroValue258
 t127:=Tryz.underlying238
 a127:=Tryz.isAgg238
 z127:=Tryz.sizeOf238
 v127:=Tryz.zeroValue238
 t143:=Tryz.underlying287
 a143:=Tryz.isAgg287
 z143:=Tryz.sizeOf287
 v143:=Tryz.zeroValue287
 t145:=Tryz.underlying289
 a145:=Tryz.isAgg289
 z145:=Tryz.sizeOf289
 v145:=Tryz.zeroValue289
 t167:=Tryz.underlying257
 a167:=Tryz.isAgg257
 z167:=Tryz.sizeOf257
 v167:=Tryz.zeroValue257
 t168:=Tryz.underlying260
 a168:=Tryz.isAgg260
 z168:=Tryz.sizeOf260
 v168:=Tryz.zeroValue260
 t171:=Tryz.underlying263
 a171:=Tryz.isAgg263
 z171:=Tryz.sizeOf263
 v171:=Tryz.zeroValue263
 t173:=Tryz.underlying266
 a173:=Tryz.isAgg266
 z173:=Tryz.sizeOf266
 v173:=Tryz.zeroValue266
 t175:=Tryz.underlying276
 a175:=Tryz.isAgg276
 z175:=Tryz.sizeOf276
 v175:=Tryz.zeroValue276
 t210:=Tryz.underlying280
 a210:=Tryz.isAgg280
 z210:=Tryz.sizeOf280
 v210:=Tryz.zeroValue280
 t212:=Tryz.underlying283
 a212:=Tryz.isAgg283
 z212:=Tryz.sizeOf283
 v212:=Tryz.zeroValue283
 t213:=Tryz.underlying284
 a213:=Tryz.isAgg284
 z213:=Tryz.sizeOf284
 t232:=Tryz.underlying291
 a232:=Tryz.isAgg291
 z232:=Tryz.sizeOf291
 v232:=Tryz.zeroValue291
 t233:=Tryz.underlying292
 a233:=Tryz.isAgg292
 z233:=Tryz.sizeOf292
 v233:=Tryz.zeroValue292
 g15:=by kernel_rfl
 g16:=by kernel_rfl
 g17:=by kernel_rfl
 g18:=by kernel_rfl
 g19:=by kernel_rfl }
open Go.RowKit in
theorem Tryz.strconv_Atoi(s:ByteArray)(n:Int)(hl:s.size≤18)(h:Lib.atoi s.data.toList=some n)(w:World):
  Calls Tryz.prog 253 #[.string s] w fun e w'=>e=.returned (.tuple #[.int .i64 n,.nilIface])∧∃ t,w'=Lib.bytesWorld w 5 t:=Any.strconv_Atoi Tryz.lays172 s n hl h w
def Tryz.yH:Go.Shelf.Ren:=⟨fun | 171=>212 | 243=>254 | 246=>270 | 283=>284 | 284=>285 | 285=>286 | 286=>287 | 129=>297 | 317=>296 | 318=>298 | 319=>299 | 320=>300 | 337=>304 | 338=>305 | n=>n,fun | 3=>3 | 9=>9 | 2=>2 | 4=>4 | 171=>263 | 0=>0 | 53=>252 | 37=>203 | 5=>5 | 173=>266 | 212=>283 | 51=>249 | 20=>20 | 213=>284 | 46=>177 | 232=>291 | 233=>292 | n=>n,fun | 17=>4 | 18=>6 | 19=>7 | n=>n⟩
theorem Tryz.laysM171:Go.Proofs.LaysM.n171 Tryz.prog Tryz.yH:={
 mixed:=by kernel_rfl
 f129:=Tryz.func297.trans (congrArg some (by kernel_rfl))
 f171:=Tryz.func212.trans (congrArg some (by kernel_rfl))
 f243:=Tryz.func254.trans (congrArg some (by kernel_rfl))
 f246:=Tryz.func270.trans (congrArg some (by kernel_rfl))
 f283:=Tryz.func284.trans (congrArg some (by kernel_rfl))
 f284:=Tryz.func285.trans (congrArg some (by kernel_rfl))
 f285:=Tryz.func286.trans (congrArg some (by kernel_rfl))
 f286:=Tryz.func287.trans (congrArg some (by kernel_rfl))
 f317:=Tryz.func296.trans (congrArg some (by kernel_rfl))
 f318:=Tryz.func298.trans (congrArg some (by kernel_rfl))
 f319:=Tryz.func299.trans (congrArg some (by kernel_rfl))
 f320:=Tryz.func300.trans (congrArg some (by kernel_rfl))
 f337:=Tryz.func304.trans (congrArg some (by kernel_rfl))
 f338:=Tryz.func305.trans (congrArg some (by kernel_rfl))
 t0:=Tryz.underlying0
 a0:=Tryz.isAgg0
 z0:=Tryz.sizeOf0
 v0:=Tryz.zeroValue0
 t2:=Tryz.underlying2
 a2:=Tryz.isAgg2
 z2:=Tryz.sizeOf2
 v2:=Tryz.zeroValue2
 t3:=Tryz.underlying3
 a3:=Tryz.isAgg3
 z3:=Tryz.sizeOf3
 v3:=Tryz.zeroValue3
 t4:=Tryz.underlying4
 a4:=Tryz.isAgg4
 z4:=Tryz.sizeOf4
 v4:=Tryz.zeroValue4
 t5:=Tryz.underlying5
 a5:=Tryz.isAgg5
 z5:=Tryz.sizeOf5
 v5:=Tryz.zeroValue5
 t9:=Tryz.underlying9
 a9:=Tryz.isAgg9
 z9:=Tryz.sizeOf9
 v9:=Tryz.zeroValue9
 t20:=Tryz.underlying20
 a20:=Tryz.isAgg20
 z20:=Tryz.sizeOf20
 v20:=Tryz.zeroValue20
 t37:=Tryz.underlying203
 a37:=Tryz.isAgg203
 z37:=Tryz.sizeOf203
 v37:=Tryz.zeroValue203
 t46:=Tryz.underlying177
 a46:=Tryz.isAgg177
 z46:=Tryz.sizeOf177
 v46:=Tryz.zeroValue177
 t51:=Tryz.underlying249
 a51:=Tryz.isAgg249
 z51:=Tryz.sizeOf249
 v51:=Tryz.zeroValue249
 t53:=Tryz.underlying252
 a53:=Tryz.isAgg252
 z53:=Tryz.sizeOf252
 v53:=Tryz.zeroValue252
 t171:=Tryz.underlying263
 a171:=Tryz.isAgg263
 z171:=Tryz.sizeOf263
 v171:=Tryz.zeroValue263
 t173:=Tryz.underlying266
 a173:=Tryz.isAgg266
 z173:=Tryz.sizeOf266
 v173:=Tryz.zeroValue266
 t212:=Tryz.underlying283
 a212:=Tryz.isAgg283
 z212:=Tryz.sizeOf283
 v212:=Tryz.zeroValue283
 t213:=Tryz.underlying284
 a213:=Tryz.isAgg284
 z213:=Tryz.sizeOf284
 t232:=Tryz.underlying291
 a232:=Tryz.isAgg291
 z232:=Tryz.sizeOf291
 v232:=Tryz.zeroValue291
 t233:=Tryz.underlying292
 a233:=Tryz.isAgg292
 z233:=Tryz.sizeOf292
 v233:=Tryz.zeroValue292
 g17:=by kernel_rfl
 g18:=by kernel_rfl
 g19:=by kernel_rfl
 i0:=by kernel_rfl
 i2:=by kernel_rfl
 i3:=by kernel_rfl
 i4:=by kernel_rfl
 i5:=by kernel_rfl
 i9:=by kernel_rfl
 i20:=by kernel_rfl
 i37:=by kernel_rfl
 i46:=by kernel_rfl
 i51:=by kernel_rfl
 i53:=by kernel_rfl
 i171:=by kernel_rfl
 i173:=by kernel_rfl
 i212:=by kernel_rfl
 i232:=by kernel_rfl
 i233:=by kernel_rfl
 m17:=by kernel_rfl
 m18:=by kernel_rfl
 m19:=by kernel_rfl }
open Go.RowKit Go.Sort Go.Lib in
theorem Tryz.strconv_Itoa(n:Int)(h0: -9223372036854775808≤n)(h1:n≤9223372036854775807)(w:World)(htab:Lib.TabIs Tryz.prog w "internal/strconv.uint64pow10" .u64 Lib.pow10Tab) :
  Calls Tryz.prog 212 #[.int .i64 n] w fun e w'=>e=.returned (.string ⟨(Lib.itoa n).toArray⟩)∧∃ k os,w'=grow (w.drewN k) os:=Any.strconv_Itoa Tryz.laysM171 n h0 h1 w htab
def Tryz.lays105_ren:Go.Shelf.Ren:=⟨fun | 105=>216 | 212=>257 | 99=>258 | 165=>259 | 166=>215 | 170=>260 | 169=>217 | 263=>272 | 264=>273 | 206=>250 | 240=>255 | 241=>274 | 276=>271 | 277=>288 | n=>n,fun | 9=>9 | 3=>3 | 4=>4 | 20=>20 | 0=>0 | 46=>177 | 109=>235 | 5=>5 | 72=>205 | 76=>212 | 51=>249 | 146=>250 | 53=>252 | 148=>253 | 70=>202 | 37=>203 | 75=>207 | 127=>238 | 164=>247 | 80=>215 | n=>n,fun | n=>n⟩
theorem Tryz.lays105:Go.Proofs.Lays.n105 Tryz.prog Tryz.lays105_ren:={
 mixed:=by kernel_rfl
 f99:=Tryz.func258.trans (congrArg some (by kernel_rfl))
 f105:=Tryz.func216.trans (congrArg some (by kernel_rfl))
 f165:=Tryz.func259.trans (congrArg some (by kernel_rfl))
 f166:=Tryz.func215.trans (congrArg some (by kernel_rfl))
 f169:=Tryz.func217.trans (congrArg some (by kernel_rfl))
 f170:=Tryz.func260.trans (congrArg some (by kernel_rfl))
 f206:=Tryz.func250.trans (congrArg some (by kernel_rfl))
 f212:=Tryz.func257.trans (congrArg some (by kernel_rfl))
 f240:=Tryz.func255.trans (congrArg some (by kernel_rfl))
 f241:=Tryz.func274.trans (congrArg some (by kernel_rfl))
 f263:=Tryz.func272.trans (congrArg some (by kernel_rfl))
 f264:=Tryz.func273.trans (congrArg some (by kernel_rfl))
 f276:=Tryz.func271.trans (congrArg some (by kernel_rfl))
 f277:=Tryz.func288.trans (congrArg some (by kernel_rfl))
 t0:=Tryz.underlying0
 a0:=Tryz.isAgg0
 z0:=Tryz.sizeOf0
 v0:=Tryz.zeroValue0
 t3:=Tryz.underlying3
 a3:=Tryz.isAgg3
 z3:=Tryz.sizeOf3
 v3:=Tryz.zeroValue3
 t4:=Tryz.underlying4
 a4:=Tryz.isAgg4
 z4:=Tryz.sizeOf4
 v4:=Tryz.zeroValue4
 t5:=Tryz.underlying5
 a5:=Tryz.isAgg5
 z5:=Tryz.sizeOf5
 v5:=Tryz.zeroValue5
 t9:=Tryz.underlying9
 a9:=Tryz.isAgg9
 z9:=Tryz.sizeOf9
 v9:=Tryz.zeroValue9
 t20:=Tryz.underlying20
 a20:=Tryz.isAgg20
 z20:=Tryz.sizeOf20
 v20:=Tryz.zeroValue20
 t37:=Tryz.underlying203
 a37:=Tryz.isAgg203
 z37:=Tryz.sizeOf203
 v37:=Tryz.zeroValue203
 t46:=Tryz.underlying177
 a46:=Tryz.isAgg177
 z46:=Tryz.sizeOf177
 v46:=Tryz.zeroValue177
 t51:=Tryz.underlying249
 a51:=Tryz.isAgg249
 z51:=Tryz.sizeOf249
 v51:=Tryz.zeroValue249
 t53:=Tryz.underlying252
 a53:=Tryz.isAgg252
 z53:=Tryz.sizeOf252
 v53:=Tryz.zeroValue252
 t70:=Tryz.underlying202
 a70:=Tryz.isAgg202
 z70:=Tryz.sizeOf202
 v70:=Tryz.zeroValue202
 t72:=Tryz.underlying205
 a72:=Tryz.isAgg205
 z72:=Tryz.sizeOf205
 v72:=Tryz.zeroValue205
 t75:=Tryz.underlying207
 a75:=Tryz.isAgg207
 z75:=Tryz.sizeOf207
 v75:=Tryz.zeroValue207
 t76:=Tryz.underlying212
 a76:=Tryz.isAgg212
 z76:=Tryz.sizeOf212
 v76:=Tryz.zeroValue212
 t109:=Tryz.underlying235
 a109:=Tryz.isAgg235
 z109:=Tryz.sizeOf235
 v109:=Tryz.zeroValue235
 t127:=Tryz.underlying238
 a127:=Tryz.isAgg238
 z127:=Tryz.sizeOf238
 v127:=Tryz.zeroValue238
 t146:=Tryz.underlying250
 a146:=Tryz.isAgg250
 z146:=Tryz.sizeOf250
 v146:=Tryz.zeroValue250
 t148:=Tryz.underlying253
 a148:=Tryz.isAgg253
 z148:=Tryz.sizeOf253
 v148:=Tryz.zeroValue253
 t164:=Tryz.underlying247
 a164:=Tryz.isAgg247
 z164:=Tryz.sizeOf247
 v164:=Tryz.zeroValue247 }
theorem Tryz.Builder_Extra_105:Builder.Extra Tryz.prog Tryz.lays105_ren:={
 sizeBuilder:=by kernel_rfl
 liesBuilder:=by kernel_rfl
 t5:=Tryz.underlying5
 a5:=Tryz.isAgg5
 z5:=Tryz.sizeOf5
 v5:=Tryz.zeroValue5
 infoByte:=by kernel_rfl
 cellsByte:=by kernel_rfl
 sizeByte:=by kernel_rfl
 neB5:=by decide }
open Go.RowKit Go.Lib in
theorem Tryz.strings_Repeat(s:ByteArray)(c:Nat)(w:World)(hc:c≤9223372036854775807)(hlen:s.size*c≤140737488355328):
  Calls Tryz.prog 216 #[.string s,.int .i64 c] w fun e w'=>e=.returned (.string ⟨(Lib.repeatL s.data.toList c).toArray⟩)∧Below w.heap.size w w':=Any.strings_Repeat Tryz.lays105 Tryz.Builder_Extra_105 s c w hc hlen
def Tryz.zT:Go.Shelf.Ren:=⟨fun | 160=>188 | 232=>233 | 231=>232 | 227=>234 | 234=>236 | 233=>235 | 236=>238 | 235=>237 | 228=>264 | 271=>267 | 151=>266 | 197=>265 | 120=>278 | 152=>277 | 260=>276 | 137=>289 | 119=>290 | 224=>291 | 225=>292 | 217=>301 | 266=>306 | n=>n,fun | 9=>9 | 4=>4 | 3=>3 | 5=>5 | 117=>225 | 116=>224 | 0=>0 | 124=>228 | 21=>21 | 105=>242 | 46=>177 | 119=>269 | 139=>272 | 138=>271 | n=>n,fun | 3=>0 | 4=>1 | n=>n⟩
theorem Tryz.lays160:Go.Proofs.Lays.n160 Tryz.prog Tryz.zT:={
 mixed:=by kernel_rfl
 f119:=Tryz.func290.trans (congrArg some (by kernel_rfl))
 f120:=Tryz.func278.trans (congrArg some (by kernel_rfl))
 f137:=Tryz.func289.trans (congrArg some (by kernel_rfl))
 f151:=Tryz.func266.trans (congrArg some (by kernel_rfl))
 f152:=Tryz.func277.trans (congrArg some (by kernel_rfl))
 f160:=Tryz.func188.trans (congrArg some (by kernel_rfl))
 f197:=Tryz.func265.trans (congrArg some (by kernel_rfl))
 f217:=Tryz.func301.trans (congrArg some (by kernel_rfl))
 f224:=Tryz.func291.trans (congrArg some (by kernel_rfl))
 f225:=Tryz.func292.trans (congrArg some (by kernel_rfl))
 f227:=Tryz.func234.trans (congrArg some (by kernel_rfl))
 f228:=Tryz.func264.trans (congrArg some (by kernel_rfl))
 f231:=Tryz.func232.trans (congrArg some (by kernel_rfl))
 f232:=Tryz.func233.trans (congrArg some (by kernel_rfl))
 f233:=Tryz.func235.trans (congrArg some (by kernel_rfl))
 f234:=Tryz.func236.trans (congrArg some (by kernel_rfl))
 f235:=Tryz.func237.trans (congrArg some (by kernel_rfl))
 f236:=Tryz.func238.trans (congrArg some (by kernel_rfl))
 f260:=Tryz.func276.trans (congrArg some (by kernel_rfl))
 f266:=Tryz.func306.trans (congrArg some (by kernel_rfl))
 f271:=Tryz.func267.trans (congrArg some (by kernel_rfl))
 t0:=Tryz.underlying0
 a0:=Tryz.isAgg0
 z0:=Tryz.sizeOf0
 v0:=Tryz.zeroValue0
 t3:=Tryz.underlying3
 a3:=Tryz.isAgg3
 z3:=Tryz.sizeOf3
 v3:=Tryz.zeroValue3
 t4:=Tryz.underlying4
 a4:=Tryz.isAgg4
 z4:=Tryz.sizeOf4
 v4:=Tryz.zeroValue4
 t5:=Tryz.underlying5
 a5:=Tryz.isAgg5
 z5:=Tryz.sizeOf5
 v5:=Tryz.zeroValue5
 t9:=Tryz.underlying9
 a9:=Tryz.isAgg9
 z9:=Tryz.sizeOf9
 v9:=Tryz.zeroValue9
 t21:=Tryz.underlying21
 a21:=Tryz.isAgg21
 z21:=Tryz.sizeOf21
 v21:=Tryz.zeroValue21
 t46:=Tryz.underlying177
 a46:=Tryz.isAgg177
 z46:=Tryz.sizeOf177
 v46:=Tryz.zeroValue177
 t105:=Tryz.underlying242
 a105:=Tryz.isAgg242
 z105:=Tryz.sizeOf242
 v105:=Tryz.zeroValue242
 t116:=Tryz.underlying224
 a116:=Tryz.isAgg224
 z116:=Tryz.sizeOf224
 t117:=Tryz.underlying225
 a117:=Tryz.isAgg225
 z117:=Tryz.sizeOf225
 v117:=Tryz.zeroValue225
 t119:=Tryz.underlying269
 a119:=Tryz.isAgg269
 z119:=Tryz.sizeOf269
 t124:=Tryz.underlying228
 a124:=Tryz.isAgg228
 z124:=Tryz.sizeOf228
 v124:=Tryz.zeroValue228
 t138:=Tryz.underlying271
 a138:=Tryz.isAgg271
 z138:=Tryz.sizeOf271
 v138:=Tryz.zeroValue271
 t139:=Tryz.underlying272
 a139:=Tryz.isAgg272
 z139:=Tryz.sizeOf272
 v139:=Tryz.zeroValue272
 g3:=by kernel_rfl
 g4:=by kernel_rfl }
open Go.RowKit in
theorem Tryz.strings_Trim_laid(s cutset:ByteArray)(w:World)(hs:s.size≤9223372036854775807)(hcs:cutset.size < 4294967281)(hascii:∀ (j:Nat) b,cutset.data.toList[j]? = some b→b.toNat < 128):
  Calls Tryz.prog 188 #[.string s,.string cutset] w fun e w'=>e=.returned (.string ⟨(Lib.trimS s.data.toList cutset.data.toList).toArray⟩)∧Below w.heap.size w w':=Any.strings_Trim_laid Tryz.lays160 (by kernel_rfl) s cutset w hs hcs hascii
end Go.Proofs
namespace Go.Q
open Go Go.RowKit
open Go.Rx (br bd sIdx sCat sCut iQuo iRem)
noncomputable section
theorem res1{F:Nat→Prop}{w:World}{t:Ty}{x:t.α}{v:Value}(h:ValR F w t x v):ResR F w [t] (x,()) v:=⟨[v],⟨v,[],rfl,h,rfl⟩,rfl⟩
theorem res2{F:Nat→Prop}{w:World}{t u:Ty}{x:t.α}{y:u.α}{v v':Value}(h:ValR F w t x v)(k:ValR F w u y v'):ResR F w [t,u] (x,y,()) (.tuple #[v,v']):=⟨[v,v'],⟨v,[v'],rfl,h,v',[],rfl,k,rfl⟩,rfl⟩
theorem wQ{F:Nat→Prop}{w:World}(s:ByteArray):ValR F w .str s (.string s):=by unfold ValR;rw[if_neg (by decide)];rfl
theorem adH{F:Nat→Prop}{w:World}(k:IntKind)(n:Int):ValR F w (.int k) n (.int k n):=by unfold ValR;rw[if_neg (by simp[isSt])];rfl
theorem adI{F:Nat→Prop}{w:World}:ValR F w .nul () .nilIface:=by unfold ValR;rw[if_neg (by decide)];rfl
theorem pM{F:Nat→Prop}{w:World}{s:ByteArray}{v:Value}(h:ValR F w .str s v):v=.string s:=by
 unfold ValR at h;rw[if_neg (by decide)]at h;simpa using(show [v]=_ from h)
theorem uU{F:Nat→Prop}{w:World}{k:IntKind}{n:Int}{v:Value}(h:ValR F w (.int k) n v):v=.int k n:=by
 unfold ValR at h;rw[if_neg (by simp[isSt])]at h;simpa using(show [v]=_ from h)
def B.Trim.f(lf:Nat)(a0:ByteArray)(a1:ByteArray):Option (ByteArray×Unit) :=
 if a0.size≤9223372036854775807∧a1.size < 4294967281∧a1.data.toList.all (fun b=>decide (b.toNat < 128))=true then some (⟨(Lib.trimS a0.data.toList a1.data.toList).toArray⟩,())else none
def B.Trim.E(lf:Nat):Entry:=⟨[.str,.str],[.str],fun x=>B.Trim.f lf x.1 x.2.1⟩
theorem B.Trim.ok(lf:Nat):EntryOK Proofs.Tryz.prog TabG 188 (B.Trim.E lf):=by
 rintro ⟨s,c,⟨⟩⟩ y hy F w vals hG hF ⟨v,r,rfl,h1,v2,r2,rfl,h2,h3⟩
 cases h3
 rw[pM h1,pM h2]
 simp only[B.Trim.E,B.Trim.f]at hy
 split at hy
 ·rename_i hc
  cases hy
  refine(Proofs.Tryz.strings_Trim_laid s c w hc.1 hc.2.1 (Proofs.ascii_of_all hc.2.2)).mono ?_
  rintro e w' ⟨rfl,hb⟩
  exact⟨_,rfl,hb,res1 (wQ _)⟩
 ·cases hy
def B.Atoi.f(lf:Nat)(a0:ByteArray):Option (Int×Unit×Unit):=if a0.size≤18 then(Lib.atoi a0.data.toList).map fun n=>(n,(),())else none
def B.Atoi.E(lf:Nat):Entry:=⟨[.str],[.int .i64,.nul],fun x=>B.Atoi.f lf x.1⟩
theorem B.Atoi.ok(lf:Nat):EntryOK Proofs.Tryz.prog TabG 253 (B.Atoi.E lf):=by
 rintro ⟨s,⟨⟩⟩ y hy F w vals hG hF ⟨v,r,rfl,h1,h3⟩
 cases h3
 rw[pM h1]
 simp only[B.Atoi.E,B.Atoi.f]at hy
 split at hy
 ·rename_i hc
  obtain⟨n,hn,rfl⟩:=Option.map_eq_some_iff.1 hy
  refine(Proofs.Tryz.strconv_Atoi s n hc hn w).mono ?_
  rintro e w' ⟨rfl,t,rfl⟩
  refine⟨_,rfl,?_,res2 (adH _ _) adI⟩
  unfold Lib.bytesWorld
  exact Lib.below_freeze ((Below.drew (Below.refl _ w)).alloc (Nat.le_refl _) _) (Nat.le_refl _) _
 ·cases hy
def B.Itoa.f(lf:Nat)(a0:Int):Option (ByteArray×Unit):=if -9223372036854775808≤a0∧a0≤9223372036854775807 then some (⟨(Lib.itoa a0).toArray⟩,())else none
def B.Itoa.E(lf:Nat):Entry:=⟨[.int .i64],[.str],fun x=>B.Itoa.f lf x.1⟩
theorem B.Itoa.ok(lf:Nat):EntryOK Proofs.Tryz.prog TabG 212 (B.Itoa.E lf):=by
 rintro ⟨n,⟨⟩⟩ y hy F w vals hG hF ⟨v,r,rfl,h1,h3⟩
 cases h3
 rw[uU h1]
 simp only[B.Itoa.E,B.Itoa.f]at hy
 split at hy
 ·rename_i hc
  cases hy
  refine(Proofs.Tryz.strconv_Itoa n hc.1 hc.2 w hG).mono ?_
  rintro e w' ⟨rfl,k,os,rfl⟩
  refine⟨_,rfl,?_,res1 (wQ _)⟩
  refine⟨rfl,rfl,rfl,?_,fun i hi=>?_⟩
  ·simp[Go.Sort.grow,World.drewN]
  ·simp only[Go.Sort.grow,World.drewN]
   rw[Array.getElem?_append_left hi]
 ·cases hy
def B.Repeat.f(lf:Nat)(a0:ByteArray)(a1:Int):Option (ByteArray×Unit) :=
 if 0≤a1∧a1≤9223372036854775807∧a0.size*a1.toNat≤140737488355328 then some (⟨(Lib.repeatL a0.data.toList a1.toNat).toArray⟩,())else none
def B.Repeat.E(lf:Nat):Entry:=⟨[.str,.int .i64],[.str],fun x=>B.Repeat.f lf x.1 x.2.1⟩
theorem B.Repeat.ok(lf:Nat):EntryOK Proofs.Tryz.prog TabG 216 (B.Repeat.E lf):=by
 rintro ⟨s,c,⟨⟩⟩ y hy F w vals hG hF ⟨v,r,rfl,h1,v2,r2,rfl,h2,h3⟩
 cases h3
 rw[pM h1,uU h2]
 simp only[B.Repeat.E,B.Repeat.f]at hy
 split at hy
 ·rename_i hc
  cases hy
  have e:(c.toNat:Int)=c:=Int.toNat_of_nonneg hc.1
  have:=Proofs.Tryz.strings_Repeat s c.toNat w (by omega) hc.2.2
  rw[e]at this
  refine this.mono ?_
  rintro e w' ⟨rfl,hb⟩
  exact⟨_,rfl,hb,res1 (wQ _)⟩
 ·cases hy
end
end Go.Q
namespace Go.Q
open Go Go.RowKit
def eqL{α:Type}(f:α→α→Bool):List α→List α→Bool
 | [],[]=>true
 | x::l,y::m=>f x y&&eqL f l m
 | _,_=>false
def eqX:Nat→EX→EX→Bool
 | 0,_,_=>false
 | n+1,x,y=>decide (x.i=y.i)&&(x.s.data.toList==y.s.data.toList&&(decide (x.j=y.j)&&eqL (eqX n) x.l y.l))
def eqY:Nat→CX→CX→Bool
 | 0,_,_=>false
 | n+1,x,y=>decide (x.i=y.i)&&(eqL (eqX 40) x.l y.l&&eqL (eqY n) x.m y.m)
def eqT:(T:Ty)→T.α→T.α→Bool
 | .int _,x,y=>decide ((show Int from x)=y)
 | .bool,x,y=>(show Bool from x)==y
 | .str,x,y=>(show ByteArray from x).data.toList==(show ByteArray from y).data.toList
 | .unit,_,_=>true
 | .nul,_,_=>true
 | .pair a b,x,y=>eqT a x.1 y.1&&eqT b x.2 y.2
 | .sl e,x,y=>eqL (eqT e) x y
 | .rc false,x,y=>eqX 40 x y
 | .rc true,x,y=>eqY 40 x y
theorem vV{α:Type}{f:α→α→Bool}(h:∀ x y,f x y=true→x=y):∀ {l m:List α},eqL f l m=true→l=m
 | [],[],_=>rfl
 | x::l,y::m,e=>by
  simp only[eqL,Bool.and_eq_true]at e
  rw[h x y e.1,vV h e.2]
theorem aar:∀ {n:Nat} {x y:EX},eqX n x y=true→x=y
 | n+1,.mk i ⟨⟨s⟩⟩ j l,.mk i' ⟨⟨s'⟩⟩ j' l',h=>by
  simp only[eqX,Bool.and_eq_true,decide_eq_true_eq,EX.i,EX.s,EX.j,EX.l,beq_iff_eq]at h
  rw[of_decide_eq_true h.1,h.2.1,of_decide_eq_true h.2.2.1,vV (fun _ _=>aar) h.2.2.2]
theorem aco:∀ {n:Nat} {x y:CX},eqY n x y=true→x=y
 | n+1,.mk i l m,.mk i' l' m',h=>by
  simp only[eqY,Bool.and_eq_true,decide_eq_true_eq,CX.i,CX.l,CX.m]at h
  rw[of_decide_eq_true h.1,vV (fun _ _=>aar) h.2.1,vV (fun _ _=>aco) h.2.2]
theorem yD:∀ {T:Ty} {x y:T.α},eqT T x y=true→x=y
 | .int _,x,y,h=>of_decide_eq_true h
 | .bool,x,y,h=>by simpa [eqT]using h
 | .str,x,y,h=>by
  have h':x.data.toList=y.data.toList:=by simpa [eqT]using h
  obtain⟨⟨x⟩⟩:=x
  obtain⟨⟨y⟩⟩:=y
  simp only at h'
  rw[h']
 | .unit,_,_,_=>rfl
 | .nul,_,_,_=>rfl
 | .pair a b,x,y,h=>by
  simp only[eqT,Bool.and_eq_true]at h
  exact Prod.ext (yD h.1) (yD h.2)
 | .sl e,x,y,h=>vV (fun _ _=>yD) h
 | .rc false,x,y,h=>aar (n:=40) h
 | .rc true,x,y,h=>aco (n:=40) h
def eqTs:(ps:List Ty)→Tys ps→Tys ps→Bool
 | [],_,_=>true
 | t::ts,x,y=>eqT t x.1 y.1&&eqTs ts x.2 y.2
theorem aaV:∀ {ps:List Ty} {x y:Tys ps},eqTs ps x y=true→x=y
 | [],_,_,_=>rfl
 | t::ts,x,y,h=>by
  simp only[eqTs,Bool.and_eq_true]at h
  exact Prod.ext (yD h.1) (aaV h.2)
def pick{β:Type}(ps:List Ty):List (Tys ps×β)→Tys ps→Option β
 | [],_=>none
 | p::l,x=>bif eqTs ps p.1 x then some p.2 else pick ps l x
def AllL{α:Type}(P:α→Prop):List α→Prop
 | []=>True
 | p::l=>P p∧AllL P l
theorem xN{β:Type}{ps:List Ty}{P:Tys ps×β→Prop}:∀ {l:List (Tys ps×β)} {x:Tys ps} {y:β},AllL P l→pick ps l x=some y→P (x,y)
 | p::l,x,y,h,e=>by
  unfold pick at e
  cases hx:eqTs ps p.1 x with
  | true=>rw[hx]at e;cases e;rw[←aaV hx];exact h.1
  | false=>rw[hx]at e;exact xN h.2 e
def AllE{α β:Type}(R:α→Option β):List (α×β)→Prop
 | []=>True
 | p::l=>R p.1=some p.2∧AllE R l
theorem aaN{α β:Type}{R:α→Option β}:∀ {l:List (α×β)},AllE R l→AllL (fun p=>R p.1=some p.2) l
 | [],_=>trivial
 | _::_,h=>⟨h.1,aaN h.2⟩
theorem aaq{P:Program}{G:World→Prop}{g:FuncId}{ps rs:List Ty}{f f':Tys ps→Option (Tys rs)}(h:EntryOK P G g ⟨ps,rs,f'⟩)(hw:∀ x y,f x=some y→f' x=some y):EntryOK P G g ⟨ps,rs,f⟩:=fun x y hy=>h x y (hw x y hy)
theorem okP{an:FuncId→FA}{tb:List (FuncId×Entry)}{lf:Nat}(hl:TabOK Proofs.Tryz.prog TabG (lookT tb))(hsp:AnnsOK Proofs.Tryz.prog an){g:FuncId}{ps rs:List Ty}{f:Tys ps→Option (Tys rs)}{l:List (Tys ps×Tys rs)}(hf:∀ x,f x=pick ps l x)
  {R:Tys ps→Option (Tys rs)} (hR:∀ x,R x=runQ Proofs.Tryz.prog an noLs (lookT tb) (lf+40) 14 6 g ps rs x) (h:AllE R l):Ok g ⟨ps,rs,f⟩ :=
 aaq (okT (E:=⟨ps,rs,R⟩) hl hsp hR) fun x y hy=>xN (P:=fun p=>R p.1=some p.2) (aaN h) ((hf x).symm.trans hy)
def noE:Entry:=⟨[],[],fun _=>none⟩
theorem okB{an:FuncId→FA}{tb:List (FuncId×Entry)}{lf:Nat}(hl:TabOK Proofs.Tryz.prog TabG (lookT tb))(hsp:AnnsOK Proofs.Tryz.prog an){g:FuncId}{ps rs:List Ty}(c:Tys ps→Bool){f b R:Tys ps→Option (Tys rs)}
  (hR:∀ x,R x=runQ Proofs.Tryz.prog an noLs (lookT tb) (lf+40) 14 6 g ps rs x) (ha:∀ x,c x=true→f x=R x) (hb:Ok g ⟨ps,rs,b⟩):Ok g ⟨ps,rs,fun x=>Rx.br (c x) (f x) (b x)⟩:=fun x y hy=>by
 have hy:Rx.br (c x) (f x) (b x)=some y:=hy
 cases hc:c x with
 | false =>
  have h:Rx.br false (f x) (b x)=b x:=br_f _ _
  rw[hc,h]at hy;exact hb x y hy
 | true =>
  have h:Rx.br true (f x) (b x)=f x:=br_t _ _
  rw[hc,h,ha x hc]at hy
  exact okT (E:=⟨ps,rs,R⟩) hl hsp hR x y hy
end Go.Q
namespace Go.N
open Go.IntKind (i64)
open Go Go.Q Go.Rx
theorem bdS{α β:Type}(x:α)(f:α→Option β):bd (some x) f=f x:=by rw[bd_eq];rfl
theorem brT{β:Type}(x y:Option β):br true x y=x:=by rw[br_eq];rfl
theorem brF{β:Type}(x y:Option β):br false x y=y:=by rw[br_eq];rfl
theorem brI{β:Type}(b:Bool)(x y:Option β):br b x y=if b=true then x else y:=by rw[br_eq];cases b<;>rfl
theorem w64{n:Int}(h1: -9223372036854775808≤n)(h2:n≤9223372036854775807):i64.wrap n=n:=by
 unfold IntKind.wrap
 have e1:(2:Int) ^ i64.bits=18446744073709551616:=by decide
 have e2:(2:Int) ^ (i64.bits-1)=9223372036854775808:=by decide
 have e3:i64.signed=true:=rfl
 simp only[e1,e2,e3,Bool.true_and,decide_eq_true_eq]
 split<;>omega
theorem w8{n:Int}(h1:0≤n)(h2:n≤255):IntKind.u8.wrap n=n:=by
 unfold IntKind.wrap
 have e1:(2:Int) ^ IntKind.u8.bits=256:=by decide
 have e3:IntKind.u8.signed=false:=rfl
 simp only[e1,e3,Bool.false_and,if_neg (by simp:¬(false=true))]
 omega
theorem dV{α:Type}(l:List α)(i:Nat)(h:i < l.length):idxL l (i:Int)=some l[i]:=by
 unfold idxL
 rw[if_pos (by omega),Int.toNat_natCast,List.getElem?_eq_getElem h]
theorem qR{α:Type}(l:List α)(j:Int)(i:Nat)(e:j=i)(h:i < l.length):idxL l j=some l[i]:=by subst e;exact dV l i h
theorem dM(n i:Nat)(h:i < n):idxB n (i:Int)=some i:=by
 unfold idxB
 rw[if_pos ⟨by omega,by omega⟩,Int.toNat_natCast]
theorem lD{α:Type}(l:List α)(i:Nat)(z:α)(h:i < l.length):upE l i (fun _=>some z)=some (l.set i z):=by
 unfold upE
 rw[List.getElem?_eq_getElem h]
theorem oL{α:Type}(n c:Int)(z:α)(k:Nat)(h:n=k)(h2:c=k)(hk:k≤1099511627776):mkL n c 8 z=some (List.replicate k z):=by
 subst h;subst h2
 unfold mkL
 rw[if_pos ⟨rfl,by omega,by omega,by omega,by rw[Int.toNat_natCast];simp only[maxLen];omega⟩,Int.toNat_natCast]
theorem lK{α:Type}(b:Nat)(l l':List α)(hb:b≤8)(h:l.length+l'.length≤1099511627776):apL true b l l'=some (l++l'):=by
 unfold apL
 have:(l.length+l'.length)*b≤1099511627776*8:=Nat.mul_le_mul h hb
 rw[if_pos ⟨rfl,by simp only[maxLen];omega,by omega⟩]
theorem aaR{α:Type}(l:List α)(h:Int)(k:Nat)(e:h=k)(hk:k≤l.length):cutL l none (some h)=some (l.take k):=by
 subst e
 unfold cutL Rx.bnd
 simp only[Option.bind_some,Int.toNat_natCast]
 rw[if_pos ⟨by omega,by omega⟩]
 simp
theorem abN{α:Type}(l:List α)(h:Int)(k:Nat)(e:h=k)(hk:k≤l.length):cutL l (some h) none=some (l.drop k):=by
 subst e
 unfold cutL Rx.bnd
 simp only[Option.bind_some,Int.toNat_natCast]
 rw[if_pos ⟨by omega,by omega⟩]
 simp
theorem oK{a b:Int}(ha:0≤a)(hb:b≠0):iRem a b=some (a % b):=by
 unfold iRem
 rw[if_neg hb,Int.tmod_eq_emod_of_nonneg ha]
theorem nH{a b:Int}(ha:0≤a)(hb:0 < b)(h:a≤9223372036854775807):iQuo .i64 a b=some (a / b):=by
 unfold iQuo
 rw[if_neg (by omega),Int.tdiv_eq_ediv_of_nonneg ha]
 have h1:0≤a / b:=Int.ediv_nonneg ha (by omega)
 have h2:a / b≤a:=Int.ediv_le_self b ha
 rw[w64 (by omega) (by omega)]
abbrev bs(l:List UInt8):ByteArray:=⟨l.toArray⟩
theorem toList_eq(s:ByteArray):s.toList=s.data.toList:=by
 have h:=Lib.extract_toList s 0 s.size
 have e:s.extract 0 s.size=s:=by
  obtain⟨⟨l⟩⟩:=s
  rw[ByteArray.extract_mk]
  simp[ByteArray.size]
 rw[e]at h
 rw[h,Nat.sub_zero,List.drop_zero,List.take_of_length_le (by rw[←Lib.size_eq];exact Nat.le_refl _)]
theorem rF(l:List UInt8):(bs l).toList=l:=by rw[toList_eq]
theorem gB(l:List UInt8):(bs l).size=l.length:=by rw[Lib.size_eq]
theorem qN(s:ByteArray):bs s.data.toList=s:=by obtain⟨⟨l⟩⟩:=s;rfl
theorem uy{l m:List UInt8}(h:bs l=bs m):l=m:=by
 have:=congrArg ByteArray.toList h
 rwa [rF,rF]at this
theorem kY(l m:List UInt8):((bs l).toList==(bs m).toList)=decide (l=m):=by
 rw[rF,rF]
 by_cases h:l=m
 ·rw[decide_eq_true h];exact beq_iff_eq.2 h
 ·rw[decide_eq_false h];exact beq_eq_false_iff_ne.2 h
theorem oM(l:List UInt8)(j:Int)(i:Nat)(e:j=i)(h:i < l.length):sIdx (bs l) j=some l[i]:=by
 subst e
 unfold sIdx
 rw[if_pos (by omega),Int.toNat_natCast]
 have:i < (bs l).size:=by rw[gB];exact h
 rw[getElem?_pos (bs l) i this]
 rfl
theorem sJ(l:List UInt8)(a b:Nat):(bs l).extract a b=bs ((l.drop a).take (b-a)):=by
 rw[←qN ((bs l).extract a b)]
 congr 1
 rw[←toList_eq,Lib.extract_toList]
theorem abw(l:List UInt8)(i j:Int)(a b:Nat)(ei:i=a)(ej:j=b)(h1:a≤b)(h2:b≤l.length):sCut (bs l) (some i) (some j)=some (bs ((l.drop a).take (b-a))):=by
 subst ei;subst ej
 unfold sCut bnd
 simp only[Int.toNat_natCast,gB]
 rw[if_pos ⟨by omega,by omega⟩]
 simp only[Option.bind_some]
 rw[if_pos ⟨by omega,by omega⟩]
 simp only[Option.bind_some]
 rw[sJ]
theorem qi(l:List UInt8)(i:Int)(a:Nat)(ei:i=a)(h1:a≤l.length):sCut (bs l) (some i) none=some (bs (l.drop a)):=by
 subst ei
 unfold sCut bnd
 simp only[Int.toNat_natCast,gB,Option.bind_some]
 rw[if_pos ⟨by omega,by omega⟩]
 simp only[Option.bind_some]
 rw[sJ,List.take_of_length_le (by rw[List.length_drop];omega)]
theorem aey(l:List UInt8)(j:Int)(b:Nat)(ej:j=b)(h2:b≤l.length):sCut (bs l) none (some j)=some (bs (l.take b)):=by
 subst ej
 unfold sCut bnd
 simp only[Int.toNat_natCast,gB,Option.bind_some]
 rw[if_pos ⟨by omega,by omega⟩]
 simp only[Option.bind_some]
 rw[sJ]
 simp
theorem vI(l m:List UInt8)(h:l.length+m.length≤9223372036854775807):sCat (bs l) (bs m)=some (bs (l++m)):=by
 unfold sCat
 have e:i64.max=9223372036854775807:=by decide
 rw[e,gB,gB,if_neg (by omega)]
 congr 1
theorem xP(l:List UInt8):sBytes (bs l)=l.map fun b=>(b.toNat:Int):=rfl
theorem qA(l:List UInt8):bytesS (l.map fun b=>(b.toNat:Int))=bs l:=by
 unfold bytesS bs
 congr 1
 rw[List.map_map]
 congr 1
 conv=>rhs;rw[←List.map_id l]
 apply List.map_congr_left
 intro b _
 simp
end Go.N
namespace Go.N
open Go Go.Q Go.Rx
def lv(B:Int):List Int→Int
 | []=>0
 | x::l=>x+B*lv B l
def Dg(B:Int)(l:List Int):Prop:=∀ x∈l,0≤x∧x < B
theorem Dg.tail{B:Int}{x:Int}{l:List Int}(h:Dg B (x::l)):Dg B l:=fun y hy=>h y (by simp[hy])
theorem Dg.head{B:Int}{x:Int}{l:List Int}(h:Dg B (x::l)):0≤x∧x < B:=h x (by simp)
theorem Dg.nil{B:Int}:Dg B []:=fun y hy=>by simp at hy
theorem Dg.cons{B x:Int}{l:List Int}(h1:0≤x∧x < B)(h:Dg B l):Dg B (x::l):=by
 intro y hy
 rcases List.mem_cons.1 hy with rfl | hy
 ·exact h1
 ·exact h y hy
theorem Dg.take{B:Int}{l:List Int}(h:Dg B l)(n:Nat):Dg B (l.take n):=fun y hy=>h y (List.mem_of_mem_take hy)
theorem Dg.drop{B:Int}{l:List Int}(h:Dg B l)(n:Nat):Dg B (l.drop n):=fun y hy=>h y (List.mem_of_mem_drop hy)
theorem Dg.app{B:Int}{l m:List Int}(h:Dg B l)(k:Dg B m):Dg B (l++m):=fun y hy=>by
 rcases List.mem_append.1 hy with hy | hy
 ·exact h y hy
 ·exact k y hy
theorem Dg.at{B:Int}{l:List Int}(h:Dg B l)(i:Nat)(hi:i < l.length):0≤l[i]∧l[i] < B:=h _ (List.getElem_mem hi)
theorem Dg.getD{B:Int}(hB:0 < B){l:List Int}(h:Dg B l)(i:Nat):0≤l.getD i 0∧l.getD i 0 < B:=by
 by_cases hi:i < l.length
 ·rw[List.getD_eq_getElem?_getD,List.getElem?_eq_getElem hi];exact h.at i hi
 ·rw[List.getD_eq_getElem?_getD,List.getElem?_eq_none (by omega)];exact⟨by simp,by simpa using hB⟩
theorem Dg.zeros{B:Int}(hB:0 < B)(n:Nat):Dg B (List.replicate n 0):=fun y hy=>by
 rw[(List.mem_replicate.1 hy).2];exact⟨by omega,hB⟩
theorem qG(B:Int):∀ l m:List Int,lv B (l++m)=lv B l+B ^ l.length*lv B m
 | [],m=>by simp[lv]
 | x::l,m=>by
  rw[List.cons_append,lv,lv,qG B l m,List.length_cons,Int.pow_succ,Int.mul_add,Int.mul_comm (B ^ l.length) B,Int.mul_assoc]
  omega
theorem oG(B:Int):∀ n:Nat,lv B (List.replicate n 0)=0
 | 0=>rfl
 | n+1=>by rw[List.replicate_succ,lv,oG B n];simp
theorem dh{B:Int}(hB:0 < B):∀ {l:List Int},Dg B l→0≤lv B l
 | [],_=>by simp[lv]
 | x::l,h=>by
  have h1:=h.head
  have h2:=dh hB h.tail
  have h3:=Int.mul_nonneg (Int.le_of_lt hB) h2
  rw[lv];omega
theorem mY{B:Int}(hB:0 < B):∀ {l:List Int},Dg B l→lv B l < B ^ l.length
 | [],_=>by simp[lv]
 | x::l,h=>by
  have h1:=h.head
  have h2:=mY hB h.tail
  have h3:B*(lv B l+1)≤B*B ^ l.length:=Int.mul_le_mul_of_nonneg_left (by omega) (Int.le_of_lt hB)
  rw[lv,List.length_cons,Int.pow_succ,Int.mul_comm (B ^ l.length) B]
  rw[Int.mul_add]at h3
  omega
theorem jV{B:Int}(hB:0 < B)(n:Nat):0 < B ^ n:=Int.pow_pos hB
def Tr(l:List Int):Prop:=l.getLast?≠some 0
theorem Tr.nil:Tr []:=by simp[Tr]
theorem uI{B:Int}(hB:0 < B){l:List Int}(h:Dg B l)(ht:Tr l)(hn:l≠[]):B ^ (l.length-1)≤lv B l:=by
 obtain⟨m,x,rfl⟩:∃ m x,l=m++[x]:=⟨l.dropLast,l.getLast hn,(List.dropLast_concat_getLast hn).symm⟩
 have hx:x≠0:=by
  intro e;subst e;simp[Tr]at ht
 have hx2:=h x (by simp)
 have hm:Dg B m:=fun y hy=>h y (by simp[hy])
 have h0:=dh hB hm
 rw[qG,List.length_append,List.length_singleton,Nat.add_sub_cancel]
 simp only[lv,Int.mul_zero,Int.add_zero]
 have:B ^ m.length*1≤B ^ m.length*x:=Int.mul_le_mul_of_nonneg_left (by omega) (Int.le_of_lt (jV hB _))
 omega
theorem pq{B:Int}(hB:0 < B){l:List Int}(h:Dg B l)(ht:Tr l)(hn:l≠[]):0 < lv B l:=by
 have:=uI hB h ht hn
 have:=jV hB (l.length-1)
 omega
theorem sN{B:Int}(hB:0 < B){l:List Int}(h:Dg B l)(ht:Tr l):lv B l=0↔l=[]:=by
 constructor
 ·intro e
  by_cases hn:l=[]
  ·exact hn
  ·have:=pq hB h ht hn;omega
 ·rintro rfl;rfl
theorem jY{B:Int}(hB:1≤B){a b:Nat}(h:a≤b):B ^ a≤B ^ b:=by
 obtain⟨k,rfl⟩:=Nat.exists_eq_add_of_le h
 rw[Int.pow_add]
 have h1:0 < B ^ a:=jV (by omega) a
 have h2:0 < B ^ k:=jV (by omega) k
 have:B ^ a*1≤B ^ a*B ^ k:=Int.mul_le_mul_of_nonneg_left (by omega) (by omega)
 omega
theorem mr{B:Int}(hB:1 < B){l m:List Int}(h1:Dg B l)(h2:Dg B m)(ht:Tr m)(h:l.length < m.length):lv B l < lv B m:=by
 have a:=mY (by omega) h1
 have b:=uI (by omega) h2 ht (by intro e;subst e;simp at h)
 have c:=jY (B:=B) (by omega) (show l.length≤m.length-1 by omega)
 omega
def tr(l:List Int):List Int:=(l.reverse.dropWhile (·==0)).reverse
theorem nN(l:List Int):tr (l++[0])=tr l:=by unfold tr;rw[List.reverse_append];simp
theorem pO(l:List Int)(x:Int)(h:x≠0):tr (l++[x])=l++[x]:=by
 unfold tr;rw[List.reverse_append];simp[h]
theorem zf:tr []=[]:=rfl
theorem wL{p:List Int→Prop}(l:List Int)(h0:p [])(hz:∀ l,p l→p (l++[0]))(hx:∀ l x,x≠0→p (l++[x])):p l:=by
 induction h:l.length generalizing l with
 | zero=>rw[List.length_eq_zero_iff.1 h];exact h0
 | succ n ih =>
  have hn:l≠[]:=by intro e;subst e;simp at h
  rw[←List.dropLast_concat_getLast hn]
  by_cases e:l.getLast hn=0
  ·rw[e];exact hz _ (ih _ (by rw[List.length_dropLast];omega))
  ·exact hx _ _ e
theorem nP(l:List Int):Tr (tr l):=by
 refine wL (p:=fun l=>Tr (tr l)) l Tr.nil (fun l h=>by rw[nN];exact h) fun l x h=>?_
 rw[pO _ _ h];simp[Tr,h]
theorem kX(B:Int)(l:List Int):lv B (tr l)=lv B l:=by
 refine wL (p:=fun l=>lv B (tr l)=lv B l) l rfl (fun l h=>by rw[nN,h,qG];simp[lv]) fun l x h=>by rw[pO _ _ h]
theorem lU{B:Int}{l:List Int}(h:Dg B l):Dg B (tr l):=by
 intro y hy
 apply h
 unfold tr at hy
 have:=List.mem_reverse.1 hy
 exact List.mem_reverse.1 ((List.dropWhile_sublist _).subset this)
theorem adC{l:List Int}(h:Tr l):tr l=l:=by
 revert h
 refine wL (p:=fun l=>Tr l→tr l=l) l (fun _=>rfl) (fun l _ h=>by simp[Tr]at h) fun l x hx _=>pO _ _ hx
theorem kH(l:List Int):(tr l).length≤l.length:=by
 unfold tr
 have:=(List.dropWhile_sublist (fun x:Int=>x==0) (l:=l.reverse)).length_le
 simpa using this
def addL(B:Int):List Int→List Int→Int→Nat→List Int
 | _,_,_,0=>[]
 | xs,ys,c,n+1=>(c+xs.headD 0+ys.headD 0) % B::addL B xs.tail ys.tail ((c+xs.headD 0+ys.headD 0) / B) n
def subL(B:Int):List Int→List Int→Int→Nat→List Int
 | _,_,_,0=>[]
 | xs,ys,c,n+1=>(xs.headD 0-c-ys.headD 0) % B::subL B xs.tail ys.tail (-((xs.headD 0-c-ys.headD 0) / B)) n
theorem pU(B:Int):∀ (n:Nat) (xs ys:List Int) (c:Int),(addL B xs ys c n).length=n
 | 0,_,_,_=>rfl
 | n+1,xs,ys,c=>by rw[addL,List.length_cons,pU B n]
theorem qx(B:Int):∀ (n:Nat) (xs ys:List Int) (c:Int),(subL B xs ys c n).length=n
 | 0,_,_,_=>rfl
 | n+1,xs,ys,c=>by rw[subL,List.length_cons,qx B n]
theorem qX(B:Int)(l:List Int):lv B l=l.headD 0+B*lv B l.tail:=by
 cases l with
 | nil=>simp[lv]
 | cons x l=>rfl
theorem xH{B:Int}(hB:0 < B)(s q:Int)(n:Nat):s % B+B*((s / B+q) % B ^ n)=(s+B*q) % B ^ (n+1):=by
 have hM:0 < B ^ n:=jV hB n
 have h1:0≤s % B:=Int.emod_nonneg s (by omega)
 have h2:s % B < B:=Int.emod_lt_of_pos s hB
 have h3:0≤(s / B+q) % B ^ n:=Int.emod_nonneg _ (by omega)
 have h4:(s / B+q) % B ^ n < B ^ n:=Int.emod_lt_of_pos _ hM
 have e:s+B*q=(s % B+B*((s / B+q) % B ^ n))+B ^ (n+1)*((s / B+q) / B ^ n):=by
  have a:=Int.emod_add_mul_ediv s B
  have b:=Int.emod_add_mul_ediv (s / B+q) (B ^ n)
  have c:B ^ (n+1)*((s / B+q) / B ^ n)=B*(B ^ n*((s / B+q) / B ^ n)):=by rw[Int.pow_succ,Int.mul_comm (B ^ n) B,Int.mul_assoc]
  have d:B*(s / B+q)=B*((s / B+q) % B ^ n)+B*(B ^ n*((s / B+q) / B ^ n)):=by rw[←Int.mul_add,b]
  rw[Int.mul_add]at d
  rw[c];omega
 rw[e,Int.add_mul_emod_self_left]
 symm
 apply Int.emod_eq_of_lt
 ·have:=Int.mul_nonneg (Int.le_of_lt hB) h3
  omega
 ·have:B*((s / B+q) % B ^ n+1)≤B*B ^ n:=Int.mul_le_mul_of_nonneg_left (by omega) (Int.le_of_lt hB)
  rw[Int.mul_add]at this
  rw[Int.pow_succ,Int.mul_comm (B ^ n) B]
  omega
theorem yM{B:Int}(hB:0 < B):∀ (n:Nat) (xs ys:List Int) (c:Int),lv B (addL B xs ys c n)=(c+lv B xs+lv B ys) % B ^ n
 | 0,xs,ys,c=>by simp[addL,lv,Int.emod_one]
 | n+1,xs,ys,c=>by
  rw[addL,lv,yM hB n,qX B xs,qX B ys]
  rw[show c+(xs.headD 0+B*lv B xs.tail)+(ys.headD 0+B*lv B ys.tail)=(c+xs.headD 0+ys.headD 0)+B*(lv B xs.tail+lv B ys.tail) by rw[Int.mul_add];omega]
  rw[←xH hB,←Int.add_assoc ((c+xs.headD 0+ys.headD 0) / B)]
theorem yO{B:Int}(hB:0 < B):∀ (n:Nat) (xs ys:List Int) (c:Int),lv B (subL B xs ys c n)=(lv B xs-c-lv B ys) % B ^ n
 | 0,xs,ys,c=>by simp[subL,lv,Int.emod_one]
 | n+1,xs,ys,c=>by
  rw[subL,lv,yO hB n,qX B xs,qX B ys]
  rw[show xs.headD 0+B*lv B xs.tail-c-(ys.headD 0+B*lv B ys.tail)=(xs.headD 0-c-ys.headD 0)+B*(lv B xs.tail-lv B ys.tail) by rw[Int.mul_sub];omega]
  rw[←xH hB]
  congr 3
  omega
theorem yw{B:Int}(hB:0 < B):∀ (n:Nat) (xs ys:List Int) (c:Int),Dg B (addL B xs ys c n)
 | 0,xs,ys,c=>Dg.nil
 | n+1,xs,ys,c=>Dg.cons ⟨Int.emod_nonneg _ (by omega),Int.emod_lt_of_pos _ hB⟩ (yw hB n _ _ _)
theorem yx{B:Int}(hB:0 < B):∀ (n:Nat) (xs ys:List Int) (c:Int),Dg B (subL B xs ys c n)
 | 0,xs,ys,c=>Dg.nil
 | n+1,xs,ys,c=>Dg.cons ⟨Int.emod_nonneg _ (by omega),Int.emod_lt_of_pos _ hB⟩ (yx hB n _ _ _)
theorem take_set{α:Type}(l:List α)(i:Nat)(z:α)(h:i < l.length):(l.set i z).take (i+1)=l.take i++[z]:=by
 rw[List.take_add_one]
 simp[List.getElem?_set,h,List.take_set_of_le]
theorem lu(l:List Int)(i:Nat):(l.drop i).headD 0=l.getD i 0:=by
 simp[List.headD_eq_head?_getD,List.head?_drop,List.getD_eq_getElem?_getD]
theorem lC(l:List Int)(i:Nat):(l.drop i).tail=l.drop (i+1):=by simp[List.tail_drop]
theorem getD_lt(l:List Int)(i:Nat)(h:i < l.length):l.getD i 0=l[i]:=by simp[List.getD_eq_getElem?_getD,h]
theorem qF(l:List Int)(i:Nat)(h:¬i < l.length):l.getD i 0=0:=by simp[List.getD_eq_getElem?_getD,h]
end Go.N
namespace Go.N
open Go Go.Q Go.Rx
def isDig(b:UInt8):Bool:=decide (48≤b.toNat∧b.toNat≤57)
def dig(b:UInt8):Nat:=b.toNat-48
def dch(d:Nat):UInt8:=UInt8.ofNat (48+d)
theorem tH{d:Nat}(h:d < 10):(dch d).toNat=48+d:=by
 unfold dch
 rw[UInt8.toNat_ofNat']
 omega
theorem uF{d:Nat}(h:d < 10):isDig (dch d)=true:=by
 unfold isDig
 rw[tH h]
 simp;omega
theorem yA{d:Nat}(h:d < 10):dig (dch d)=d:=by unfold dig;rw[tH h];omega
theorem aaS{b:UInt8}(h:isDig b=true):dch (dig b)=b:=by
 unfold isDig at h
 simp only[decide_eq_true_eq]at h
 apply UInt8.toNat_inj.1
 unfold dch dig
 rw[UInt8.toNat_ofNat']
 omega
theorem yC{b:UInt8}(h:isDig b=true):dig b < 10:=by
 unfold isDig at h
 simp only[decide_eq_true_eq]at h
 unfold dig;omega
def dv(l:List UInt8):Nat:=l.foldl (fun a b=>a*10+dig b) 0
theorem ack:dv []=0:=rfl
theorem qE(l:List UInt8)(b:UInt8):dv (l++[b])=dv l*10+dig b:=by simp[dv]
theorem uq{p:List UInt8→Prop}(l:List UInt8)(h0:p [])(hs:∀ l b,p l→p (l++[b])):p l:=by
 induction h:l.length generalizing l with
 | zero=>rw[List.length_eq_zero_iff.1 h];exact h0
 | succ n ih =>
  have hn:l≠[]:=by intro e;subst e;simp at h
  rw[←List.dropLast_concat_getLast hn]
  exact hs _ _ (ih _ (by rw[List.length_dropLast];omega))
theorem aap(l:List UInt8):∀ m:List UInt8,dv (l++m)=dv l*10 ^ m.length+dv m:=by
 intro m
 refine uq (p:=fun m=>dv (l++m)=dv l*10 ^ m.length+dv m) m (by simp[ack]) fun m b ih=>?_
 rw[←List.append_assoc,qE,qE,ih,List.length_append,List.length_singleton,Nat.pow_succ,Nat.add_mul,Nat.mul_assoc]
 omega
theorem acj:∀ l:List UInt8,l.all isDig=true→dv l < 10 ^ l.length:=by
 intro l
 refine uq (p:=fun l=>l.all isDig=true→dv l < 10 ^ l.length) l (by simp[ack]) fun l b ih h=>?_
 rw[List.all_append,Bool.and_eq_true]at h
 have h1:=ih h.1
 have h2:=yC (b:=b) (by simpa using h.2)
 rw[qE,List.length_append,List.length_singleton,Nat.pow_succ]
 omega
theorem jX{n:Nat}(h:n < 10):Lib.decDigits n=[dch n]:=by rw[Lib.decDigits,dif_pos h];rfl
theorem qC{n:Nat}(h:¬n < 10):Lib.decDigits n=Lib.decDigits (n / 10)++[dch (n % 10)]:=by rw[Lib.decDigits,dif_neg h];rfl
theorem afn(n:Nat):Lib.decDigits n≠[]:=by
 by_cases h:n < 10
 ·rw[jX h];simp
 ·rw[qC h];simp
theorem rJ(n:Nat):(Lib.decDigits n).all isDig=true:=by
 induction n using Nat.strongRecOn with
 | _ n ih =>
  by_cases h:n < 10
  ·rw[jX h];simp[uF h]
  ·rw[qC h,List.all_append,ih (n / 10) (by omega)]
   simp[uF (show n % 10 < 10 by omega)]
theorem vU(n:Nat):dv (Lib.decDigits n)=n:=by
 induction n using Nat.strongRecOn with
 | _ n ih =>
  by_cases h:n < 10
  ·rw[jX h];simp[dv,yA h]
  ·rw[qC h,qE,ih (n / 10) (by omega),yA (by omega)];omega
theorem vP{n:Nat}(h:n≠0):∃ b r,Lib.decDigits n=b::r∧b≠48:=by
 induction n using Nat.strongRecOn with
 | _ n ih =>
  by_cases h10:n < 10
  ·refine⟨dch n,[],jX h10,?_⟩
   intro e
   have:=congrArg UInt8.toNat e
   rw[tH h10]at this
   have h48:(48:UInt8).toNat=48:=rfl
   omega
  ·obtain⟨b,r,e,hb⟩:=ih (n / 10) (by omega) (by omega)
   exact⟨b,r++[dch (n % 10)],by rw[qC h10,e];rfl,hb⟩
theorem aan{l:List UInt8}(h:l.all isDig=true)(hn:l≠[])(hh:l.head?≠some 48∨l.length=1):l=Lib.decDigits (dv l):=by
 revert h hn hh
 refine uq (p:=fun l=>l.all isDig=true→l≠[]→(l.head?≠some 48∨l.length=1)→l=Lib.decDigits (dv l)) l (fun _ h=>absurd rfl h) fun l b ih h _ hh=>?_
 rw[List.all_append,Bool.and_eq_true]at h
 have hb:isDig b=true:=by simpa using h.2
 have hd:=yC hb
 by_cases hl:l=[]
 ·subst hl
  rw[List.nil_append,show dv [b]=dig b by simp[dv],jX hd,aaS hb]
 ·have hh':l.head?≠some 48:=by
   rcases hh with hh | hh
   ·cases l with
    | nil=>exact absurd rfl hl
    | cons x r=>exact hh
   ·rw[List.length_append,List.length_singleton]at hh
    exact absurd (List.length_eq_zero_iff.1 (by omega)) hl
  have e:=ih h.1 hl (.inl hh')
  have hpos:dv l≠0:=by
   intro e0
   rw[e0,jX (by omega)]at e
   rw[e]at hh'
   exact hh' rfl
  rw[qE,qC (by omega),show(dv l*10+dig b) / 10=dv l by omega,show(dv l*10+dig b) % 10=dig b by omega,←e,aaS hb]
theorem lg:∀ (k n:Nat),n < 10 ^ (k+1)→(Lib.decDigits n).length≤k+1
 | 0,n,h=>by rw[jX (by simpa using h)];simp
 | k+1,n,h=>by
  by_cases h10:n < 10
  ·rw[jX h10];simp
  ·rw[qC h10,List.length_append,List.length_singleton]
   have:n / 10 < 10 ^ (k+1):=by rw[Nat.pow_succ]at h;omega
   have:=lg k (n / 10) this
   omega
theorem lT:Lib.decDigits 0=[48]:=jX (by omega)
theorem pW(n:Nat):(Lib.decDigits n).head?≠some 45:=by
 have h:=rJ n
 cases e:Lib.decDigits n with
 | nil=>simp
 | cons b r =>
  rw[e,List.all_cons,Bool.and_eq_true]at h
  intro h45
  simp only[List.head?_cons,Option.some.injEq]at h45
  subst h45
  have:isDig 45=false:=rfl
  rw[this]at h
  cases h.1
def body(l:List UInt8):List UInt8:=if l.head? = some 45 then l.tail else l
def neg(l:List UInt8):Bool:=decide (l.head? = some 45)
def can(l:List UInt8):Bool:=decide (l=[48])||(decide (body l≠[])&&(decide ((body l).head?≠some 48)&&(body l).all isDig))
def iv(l:List UInt8):Int:=if neg l=true then -(dv (body l):Int)else(dv (body l):Int)
theorem jh(z:Int):can (Lib.itoa z)=true:=by
 unfold can Lib.itoa body
 by_cases h:z < 0
 ·rw[if_pos h]
  obtain⟨b,r,e,hb⟩:=vP (show z.natAbs≠0 by omega)
  have ha:=rJ z.natAbs
  rw[e]at ha⊢
  simp only[List.head?_cons,if_true,List.tail_cons]
  simp[hb,ha]
 ·rw[if_neg h]
  by_cases h0:z=0
  ·subst h0
   rw[show(0:Int).toNat=0 from rfl,lT]
   simp
  ·rw[if_neg (pW _)]
   obtain⟨b,r,e,hb⟩:=vP (show z.toNat≠0 by omega)
   have ha:=rJ z.toNat
   rw[e]at ha⊢
   simp[hb,ha]
theorem dm(z:Int):iv (Lib.itoa z)=z:=by
 unfold iv neg body Lib.itoa
 by_cases h:z < 0
 ·rw[if_pos h]
  simp only[List.head?_cons,if_true,List.tail_cons,decide_true,vU]
  omega
 ·rw[if_neg h,if_neg (pW _),decide_eq_false (pW _),if_neg (by simp),vU]
  omega
theorem rQ{l:List UInt8}(h:can l=true):l=Lib.itoa (iv l):=by
 unfold can at h
 rw[Bool.or_eq_true]at h
 rcases h with h | h
 ·have e:l=[48]:=by simpa using h
  subst e
  have:iv [48]=0:=by decide
  rw[this]
  unfold Lib.itoa
  rw[if_neg (by omega)]
  exact lT.symm
 ·simp only[Bool.and_eq_true,decide_eq_true_eq]at h
  obtain⟨h1,h2,h3⟩:=h
  have e:=aan h3 h1 (.inl h2)
  have hpos:dv (body l)≠0:=by
   intro e0
   rw[e0,lT]at e
   rw[e]at h2
   exact h2 rfl
  unfold iv Lib.itoa
  by_cases hn:l.head? = some 45
  ·have hneg:neg l=true:=by unfold neg;exact decide_eq_true hn
   rw[if_pos hneg,if_pos (by omega),show(-(dv (body l):Int)).natAbs=dv (body l) by omega,←e]
   unfold body
   rw[if_pos hn]
   cases l with
   | nil=>simp at hn
   | cons b r=>simp at hn;subst hn;rfl
  ·have hneg:¬neg l=true:=by unfold neg;rw[decide_eq_false hn];simp
   rw[if_neg hneg,if_neg (by omega),show((dv (body l):Int)).toNat=dv (body l) by omega,←e]
   unfold body
   rw[if_neg hn]
theorem aft{l m:List UInt8}(h1:can l=true)(h2:can m=true)(h:iv l=iv m):l=m:=by rw[rQ h1,rQ h2,h]
theorem jP{l:List UInt8}(h:can l=true):(body l).all isDig=true∧body l≠[]∧l≠[]:=by
 unfold can at h
 rw[Bool.or_eq_true]at h
 rcases h with h | h
 ·have e:l=[48]:=by simpa using h
  subst e
  exact⟨by decide,by decide,by simp⟩
 ·simp only[Bool.and_eq_true,decide_eq_true_eq]at h
  refine⟨h.2.2,h.1,?_⟩
  rintro rfl
  exact h.1 rfl
def nlen(l:List UInt8):Nat:=(body l).length
theorem vC(l:List UInt8):nlen l≤l.length:=by unfold nlen body;split<;>simp
theorem qc(l:List UInt8):l.length≤nlen l+1:=by unfold nlen body;split<;>simp<;>omega
def chk(l:List UInt8):Int:=if can l=true then(if nlen l > 4096 then 10 else 0)else 3
def num(l:List UInt8):Int:=if chk l≠0 then chk l else if nlen l > 100 then 10 else 0
theorem kR{l:List UInt8}:chk l=0↔can l=true∧nlen l≤4096:=by
 unfold chk
 split
 ·split
  ·simp;omega
  ·simp_all
 ·simp_all
theorem mW{l:List UInt8}:num l=0↔can l=true∧nlen l≤100:=by
 unfold num
 split
 ·rename_i h
  constructor
  ·intro e;exact absurd e h
  ·intro e;exact absurd (kR.2 ⟨e.1,by omega⟩) h
 ·rename_i h
  have:=kR.1 (Classical.not_not.1 h)
  split
  ·simp;intro;omega
  ·simp;exact⟨this.1,by omega⟩
theorem abJ{l:List UInt8}(h:l.all isDig=true)(hn:l≠[]):Lib.atoi l=some (dv l:Int):=by
 have key:∀ (m:List UInt8) (acc:Nat),m.all isDig=true→Lib.decFrom acc m=some (m.foldl (fun a b=>a*10+dig b) acc):=by
  intro m
  induction m with
  | nil=>intro acc _;rfl
  | cons b r ih =>
   intro acc ha
   rw[List.all_cons,Bool.and_eq_true]at ha
   have hb:=ha.1
   unfold isDig at hb
   simp only[decide_eq_true_eq]at hb
   rw[Lib.decFrom,Lib.digitVal,if_pos hb,List.foldl_cons]
   exact ih _ ha.2
 cases l with
 | nil=>exact absurd rfl hn
 | cons b r =>
  have ha:=h
  rw[List.all_cons,Bool.and_eq_true]at ha
  have hb:=ha.1
  have n45:(b==45)=false:=by
   rw[beq_eq_false_iff_ne];rintro rfl
   have:isDig 45=false:=rfl
   rw[this]at hb;cases hb
  have n43:(b==43)=false:=by
   rw[beq_eq_false_iff_ne];rintro rfl
   have:isDig 43=false:=rfl
   rw[this]at hb;cases hb
  rw[Lib.atoi,n45,n43]
  simp only[Bool.false_eq_true,if_false]
  rw[Lib.decNat,if_neg (by simp),key _ 0 h]
  rfl
theorem dropWhile_nil{α:Type}{p:α→Bool}:∀ {l:List α},l.dropWhile p=[]↔∀ x∈l,p x=true
 | []=>by simp
 | x::l=>by
  rw[List.dropWhile_cons]
  by_cases h:p x=true
  ·rw[if_pos h,dropWhile_nil (l:=l)];simp[h]
  ·rw[if_neg h];simp[h]
theorem xW(l cs:List UInt8):Lib.trimS l cs=[]↔l.all (cs.contains ·)=true:=by
 unfold Lib.trimS Lib.trimLeftS Lib.trimRightS
 constructor
 ·intro h
  rw[dropWhile_nil]at h
  have h1:(l.reverse.dropWhile (cs.contains ·))=[]:=by
   cases e:l.reverse.dropWhile (cs.contains ·)with
   | nil=>rfl
   | cons b r =>
    have hb:=h b (by rw[e];simp)
    have:=List.head?_dropWhile_not (cs.contains ·) l.reverse
    rw[e]at this
    simp at this hb
    exact absurd hb this
  rw[dropWhile_nil]at h1
  exact List.all_eq_true.2 fun b hb=>h1 b (by simpa using hb)
 ·intro h
  have h1:(l.reverse.dropWhile (cs.contains ·))=[]:=by
   rw[dropWhile_nil]
   intro b hb
   exact List.all_eq_true.1 h b (by simpa using hb)
  rw[h1];rfl
theorem aci:∀ n:Fin 256,([48,49,50,51,52,53,54,55,56,57]:List UInt8).contains (UInt8.ofNat n.val)=isDig (UInt8.ofNat n.val):=by decide +kernel
theorem wS(b:UInt8):([48,49,50,51,52,53,54,55,56,57]:List UInt8).contains b=isDig b:=by
 have:=aci ⟨b.toNat,b.toNat_lt⟩
 simpa using this
end Go.N
namespace Go.Q
open Go
abbrev yI:Ty:=.pair .bool (.pair .str (.pair .str .unit))
abbrev yV:Ty:=.pair yI (.pair yI .unit)
abbrev yB:Ty:=.pair .bool (.pair (.sl (.int .i64)) .unit)
abbrev yX:Ty:=.pair (.int .i64) (.pair .str .unit)
abbrev yS:Ty:=.pair yX (.pair yX .unit)
abbrev TI:Type:=Bool×(ByteArray×(ByteArray×Unit))
abbrev TV:Type:=TI×(TI×Unit)
abbrev TB:Type:=Bool×((List Int)×Unit)
abbrev TX:Type:=Int×(ByteArray×Unit)
abbrev TS:Type:=TX×(TX×Unit)
end Go.Q
