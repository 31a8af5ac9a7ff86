import Derived.Shelf.Strconv.Atoi
import Derived.Shelf.LaysM
import Derived.Shelf.Strconv.Itoa3
import Derived.Shelf.Strings.Repeat
import Derived.Shelf.Strings.SlTrimAscii
import Derived.Test.YtfogkflaijhfoaaGreatDoorProg
import Derived.Lib.SlTrimSet
import Derived.Test.YtfogkflaijhfoaaGreatDoorVAE2
set_option linter.unusedVariables false
set_option linter.unusedSimpArgs false
set_option linter.unusedSectionVars false
namespace Go.N
open Go Go.Q Go.Rx
def lv(B:Int):List Int→Int
 | []=>0
 | x::l=>x+B*lv B l
def Dg(B:Int)(l:List Int):Prop:=∀ x∈l,0≤x∧x < B
theorem Dg.tail{B:Int}{x:Int}{l:List Int}(h:Dg B (x::l)):Dg B l:=fun y hy=>h y (by simp[hy])
theorem Dg.head{B:Int}{x:Int}{l:List Int}(h:Dg B (x::l)):0≤x∧x < B:=h x (by simp)
theorem Dg.nil{B:Int}:Dg B []:=fun y hy=>by simp at hy
theorem Dg.cons{B x:Int}{l:List Int}(h1:0≤x∧x < B)(h:Dg B l):Dg B (x::l):=by
 intro y hy
 rcases List.mem_cons.1 hy with rfl | hy
 ·exact h1
 ·exact h y hy
theorem Dg.take{B:Int}{l:List Int}(h:Dg B l)(n:Nat):Dg B (l.take n):=fun y hy=>h y (List.mem_of_mem_take hy)
theorem Dg.drop{B:Int}{l:List Int}(h:Dg B l)(n:Nat):Dg B (l.drop n):=fun y hy=>h y (List.mem_of_mem_drop hy)
theorem Dg.app{B:Int}{l m:List Int}(h:Dg B l)(k:Dg B m):Dg B (l++m):=fun y hy=>by
 rcases List.mem_append.1 hy with hy | hy
 ·exact h y hy
 ·exact k y hy
theorem Dg.at{B:Int}{l:List Int}(h:Dg B l)(i:Nat)(hi:i < l.length):0≤l[i]∧l[i] < B:=h _ (List.getElem_mem hi)
theorem Dg.getD{B:Int}(hB:0 < B){l:List Int}(h:Dg B l)(i:Nat):0≤l.getD i 0∧l.getD i 0 < B:=by
 by_cases hi:i < l.length
 ·rw[List.getD_eq_getElem?_getD,List.getElem?_eq_getElem hi];exact h.at i hi
 ·rw[List.getD_eq_getElem?_getD,List.getElem?_eq_none (by omega)];exact⟨by simp,by simpa using hB⟩
theorem Dg.zeros{B:Int}(hB:0 < B)(n:Nat):Dg B (List.replicate n 0):=fun y hy=>by
 rw[(List.mem_replicate.1 hy).2];exact⟨by omega,hB⟩
theorem xk(B:Int):∀ l m:List Int,lv B (l++m)=lv B l+B ^ l.length*lv B m
 | [],m=>by simp[lv]
 | x::l,m=>by
  rw[List.cons_append,lv,lv,xk B l m,List.length_cons,Int.pow_succ,Int.mul_add,Int.mul_comm (B ^ l.length) B,Int.mul_assoc]
  omega
theorem tV(B:Int):∀ n:Nat,lv B (List.replicate n 0)=0
 | 0=>rfl
 | n+1=>by rw[List.replicate_succ,lv,tV B n];simp
theorem cZ{B:Int}(hB:0 < B):∀ {l:List Int},Dg B l→0≤lv B l
 | [],_=>by simp[lv]
 | x::l,h=>by
  have h1:=h.head
  have h2:=cZ hB h.tail
  have h3:=Int.mul_nonneg (Int.le_of_lt hB) h2
  rw[lv];omega
theorem qR{B:Int}(hB:0 < B):∀ {l:List Int},Dg B l→lv B l < B ^ l.length
 | [],_=>by simp[lv]
 | x::l,h=>by
  have h1:=h.head
  have h2:=qR hB h.tail
  have h3:B*(lv B l+1)≤B*B ^ l.length:=Int.mul_le_mul_of_nonneg_left (by omega) (Int.le_of_lt hB)
  rw[lv,List.length_cons,Int.pow_succ,Int.mul_comm (B ^ l.length) B]
  rw[Int.mul_add]at h3
  omega
theorem mg{B:Int}(hB:0 < B)(n:Nat):0 < B ^ n:=Int.pow_pos hB
def Tr(l:List Int):Prop:=l.getLast?≠some 0
theorem Tr.nil:Tr []:=by simp[Tr]
theorem aa6{B:Int}(hB:0 < B){l:List Int}(h:Dg B l)(ht:Tr l)(hn:l≠[]):B ^ (l.length-1)≤lv B l:=by
 obtain⟨m,x,rfl⟩:∃ m x,l=m++[x]:=⟨l.dropLast,l.getLast hn,(List.dropLast_concat_getLast hn).symm⟩
 have hx:x≠0:=by
  intro e;subst e;simp[Tr]at ht
 have hx2:=h x (by simp)
 have hm:Dg B m:=fun y hy=>h y (by simp[hy])
 have h0:=cZ hB hm
 rw[xk,List.length_append,List.length_singleton,Nat.add_sub_cancel]
 simp only[lv,Int.mul_zero,Int.add_zero]
 have:B ^ m.length*1≤B ^ m.length*x:=Int.mul_le_mul_of_nonneg_left (by omega) (Int.le_of_lt (mg hB _))
 omega
theorem uP{B:Int}(hB:0 < B){l:List Int}(h:Dg B l)(ht:Tr l)(hn:l≠[]):0 < lv B l:=by
 have:=aa6 hB h ht hn
 have:=mg hB (l.length-1)
 omega
theorem zM{B:Int}(hB:0 < B){l:List Int}(h:Dg B l)(ht:Tr l):lv B l=0↔l=[]:=by
 constructor
 ·intro e
  by_cases hn:l=[]
  ·exact hn
  ·have:=uP hB h ht hn;omega
 ·rintro rfl;rfl
theorem mM{B:Int}(hB:1≤B){a b:Nat}(h:a≤b):B ^ a≤B ^ b:=by
 obtain⟨k,rfl⟩:=Nat.exists_eq_add_of_le h
 rw[Int.pow_add]
 have h1:0 < B ^ a:=mg (by omega) a
 have h2:0 < B ^ k:=mg (by omega) k
 have:B ^ a*1≤B ^ a*B ^ k:=Int.mul_le_mul_of_nonneg_left (by omega) (by omega)
 omega
theorem nY{B:Int}(hB:1 < B){l m:List Int}(h1:Dg B l)(h2:Dg B m)(ht:Tr m)(h:l.length < m.length):lv B l < lv B m:=by
 have a:=qR (by omega) h1
 have b:=aa6 (by omega) h2 ht (by intro e;subst e;simp at h)
 have c:=mM (B:=B) (by omega) (show l.length≤m.length-1 by omega)
 omega
def tr(l:List Int):List Int:=(l.reverse.dropWhile (·==0)).reverse
theorem rX(l:List Int):tr (l++[0])=tr l:=by unfold tr;rw[List.reverse_append];simp
theorem vG(l:List Int)(x:Int)(h:x≠0):tr (l++[x])=l++[x]:=by
 unfold tr;rw[List.reverse_append];simp[h]
theorem aeK:tr []=[]:=rfl
theorem acS{p:List Int→Prop}(l:List Int)(h0:p [])(hz:∀ l,p l→p (l++[0]))(hx:∀ l x,x≠0→p (l++[x])):p l:=by
 induction h:l.length generalizing l with
 | zero=>rw[List.length_eq_zero_iff.1 h];exact h0
 | succ n ih =>
  have hn:l≠[]:=by intro e;subst e;simp at h
  rw[←List.dropLast_concat_getLast hn]
  by_cases e:l.getLast hn=0
  ·rw[e];exact hz _ (ih _ (by rw[List.length_dropLast];omega))
  ·exact hx _ _ e
theorem sD(l:List Int):Tr (tr l):=by
 refine acS (p:=fun l=>Tr (tr l)) l Tr.nil (fun l h=>by rw[rX];exact h) fun l x h=>?_
 rw[vG _ _ h];simp[Tr,h]
theorem oC(B:Int)(l:List Int):lv B (tr l)=lv B l:=by
 refine acS (p:=fun l=>lv B (tr l)=lv B l) l rfl (fun l h=>by rw[rX,h,xk];simp[lv]) fun l x h=>by rw[vG _ _ h]
theorem pI{B:Int}{l:List Int}(h:Dg B l):Dg B (tr l):=by
 intro y hy
 apply h
 unfold tr at hy
 have:=List.mem_reverse.1 hy
 exact List.mem_reverse.1 ((List.dropWhile_sublist _).subset this)
theorem ajZ{l:List Int}(h:Tr l):tr l=l:=by
 revert h
 refine acS (p:=fun l=>Tr l→tr l=l) l (fun _=>rfl) (fun l _ h=>by simp[Tr]at h) fun l x hx _=>vG _ _ hx
theorem nG(l:List Int):(tr l).length≤l.length:=by
 unfold tr
 have:=(List.dropWhile_sublist (fun x:Int=>x==0) (l:=l.reverse)).length_le
 simpa using this
def addL(B:Int):List Int→List Int→Int→Nat→List Int
 | _,_,_,0=>[]
 | xs,ys,c,n+1=>(c+xs.headD 0+ys.headD 0) % B::addL B xs.tail ys.tail ((c+xs.headD 0+ys.headD 0) / B) n
def subL(B:Int):List Int→List Int→Int→Nat→List Int
 | _,_,_,0=>[]
 | xs,ys,c,n+1=>(xs.headD 0-c-ys.headD 0) % B::subL B xs.tail ys.tail (-((xs.headD 0-c-ys.headD 0) / B)) n
theorem vP(B:Int):∀ (n:Nat) (xs ys:List Int) (c:Int),(addL B xs ys c n).length=n
 | 0,_,_,_=>rfl
 | n+1,xs,ys,c=>by rw[addL,List.length_cons,vP B n]
theorem wI(B:Int):∀ (n:Nat) (xs ys:List Int) (c:Int),(subL B xs ys c n).length=n
 | 0,_,_,_=>rfl
 | n+1,xs,ys,c=>by rw[subL,List.length_cons,wI B n]
theorem yu(B:Int)(l:List Int):lv B l=l.headD 0+B*lv B l.tail:=by
 cases l with
 | nil=>simp[lv]
 | cons x l=>rfl
theorem adx{B:Int}(hB:0 < B)(s q:Int)(n:Nat):s % B+B*((s / B+q) % B ^ n)=(s+B*q) % B ^ (n+1):=by
 have hM:0 < B ^ n:=mg hB n
 have h1:0≤s % B:=Int.emod_nonneg s (by omega)
 have h2:s % B < B:=Int.emod_lt_of_pos s hB
 have h3:0≤(s / B+q) % B ^ n:=Int.emod_nonneg _ (by omega)
 have h4:(s / B+q) % B ^ n < B ^ n:=Int.emod_lt_of_pos _ hM
 have e:s+B*q=(s % B+B*((s / B+q) % B ^ n))+B ^ (n+1)*((s / B+q) / B ^ n):=by
  have a:=Int.emod_add_mul_ediv s B
  have b:=Int.emod_add_mul_ediv (s / B+q) (B ^ n)
  have c:B ^ (n+1)*((s / B+q) / B ^ n)=B*(B ^ n*((s / B+q) / B ^ n)):=by rw[Int.pow_succ,Int.mul_comm (B ^ n) B,Int.mul_assoc]
  have d:B*(s / B+q)=B*((s / B+q) % B ^ n)+B*(B ^ n*((s / B+q) / B ^ n)):=by rw[←Int.mul_add,b]
  rw[Int.mul_add]at d
  rw[c];omega
 rw[e,Int.add_mul_emod_self_left]
 symm
 apply Int.emod_eq_of_lt
 ·have:=Int.mul_nonneg (Int.le_of_lt hB) h3
  omega
 ·have:B*((s / B+q) % B ^ n+1)≤B*B ^ n:=Int.mul_le_mul_of_nonneg_left (by omega) (Int.le_of_lt hB)
  rw[Int.mul_add]at this
  rw[Int.pow_succ,Int.mul_comm (B ^ n) B]
  omega
theorem aek{B:Int}(hB:0 < B):∀ (n:Nat) (xs ys:List Int) (c:Int),lv B (addL B xs ys c n)=(c+lv B xs+lv B ys) % B ^ n
 | 0,xs,ys,c=>by simp[addL,lv,Int.emod_one]
 | n+1,xs,ys,c=>by
  rw[addL,lv,aek hB n,yu B xs,yu B ys]
  rw[show c+(xs.headD 0+B*lv B xs.tail)+(ys.headD 0+B*lv B ys.tail)=(c+xs.headD 0+ys.headD 0)+B*(lv B xs.tail+lv B ys.tail) by rw[Int.mul_add];omega]
  rw[←adx hB,←Int.add_assoc ((c+xs.headD 0+ys.headD 0) / B)]
theorem aem{B:Int}(hB:0 < B):∀ (n:Nat) (xs ys:List Int) (c:Int),lv B (subL B xs ys c n)=(lv B xs-c-lv B ys) % B ^ n
 | 0,xs,ys,c=>by simp[subL,lv,Int.emod_one]
 | n+1,xs,ys,c=>by
  rw[subL,lv,aem hB n,yu B xs,yu B ys]
  rw[show xs.headD 0+B*lv B xs.tail-c-(ys.headD 0+B*lv B ys.tail)=(xs.headD 0-c-ys.headD 0)+B*(lv B xs.tail-lv B ys.tail) by rw[Int.mul_sub];omega]
  rw[←adx hB]
  congr 3
  omega
theorem ad4{B:Int}(hB:0 < B):∀ (n:Nat) (xs ys:List Int) (c:Int),Dg B (addL B xs ys c n)
 | 0,xs,ys,c=>Dg.nil
 | n+1,xs,ys,c=>Dg.cons ⟨Int.emod_nonneg _ (by omega),Int.emod_lt_of_pos _ hB⟩ (ad4 hB n _ _ _)
theorem ad5{B:Int}(hB:0 < B):∀ (n:Nat) (xs ys:List Int) (c:Int),Dg B (subL B xs ys c n)
 | 0,xs,ys,c=>Dg.nil
 | n+1,xs,ys,c=>Dg.cons ⟨Int.emod_nonneg _ (by omega),Int.emod_lt_of_pos _ hB⟩ (ad5 hB n _ _ _)
theorem take_set{α:Type}(l:List α)(i:Nat)(z:α)(h:i < l.length):(l.set i z).take (i+1)=l.take i++[z]:=by
 rw[List.take_add_one]
 simp[List.getElem?_set,h,List.take_set_of_le]
theorem oH(l:List Int)(i:Nat):(l.drop i).headD 0=l.getD i 0:=by
 simp[List.headD_eq_head?_getD,List.head?_drop,List.getD_eq_getElem?_getD]
theorem oI(l:List Int)(i:Nat):(l.drop i).tail=l.drop (i+1):=by simp[List.tail_drop]
theorem getD_lt(l:List Int)(i:Nat)(h:i < l.length):l.getD i 0=l[i]:=by simp[List.getD_eq_getElem?_getD,h]
theorem xg(l:List Int)(i:Nat)(h:¬i < l.length):l.getD i 0=0:=by simp[List.getD_eq_getElem?_getD,h]
end Go.N
namespace Go.Q
open Go Go.RowKit
open Go.Rx (br bd kH mG jA)
noncomputable section
inductive Sh where
 | any
 | int (k:IntKind)
 | bool
 | str
 | sl (T:Ty)
 | ep (T:Ty) (o:Nat)
 | rp (b n o:Nat)
 | p0 (b k:Nat)
 | p1 (b k:Nat)
 | q1 (b k:Nat)
 | ptr (b o:Nat)
 | row (b:Nat)
 | mp (b:Nat)
 | csl (b n k:Nat)
 | yld (i:Nat)
 | nil
 | nilp
 | nilf
 | nilm
 | nili
 | agg (l:List Sh)
 | tup (l:List Sh)
 | fn (g:FuncId) (f c:List Sh)
@[reducible] def Sh.L (s : Sh) (R : Type) (rc : List Sh → Type → Type) : Type := match s with
 | .int _=>Int×R
 | .bool=>Bool×R
 | .str=>ByteArray×R
 | .sl T=>List T.α×R
 | .ep T _=>T.α×R
 | .rp _ _ _=>Nat×R
 | .p0 _ _=>Nat×R
 | .p1 _ _=>Nat×Nat×R
 | .q1 _ _=>Nat×Nat×R
 | .agg l=>rc l R
 | .tup l=>rc l R
 | .fn _ f c=>rc f (rc c R)
 | _=>R
@[reducible] def DF (f : Sh → Type → Type) : List Sh → Type → Type
 | [],R=>R
 | s::l,R=>f s (DF f l R)
@[reducible] def recD : Nat → List Sh → Type → Type
 | 0,_,R=>R
 | d+1,l,R=>DF (fun s R=>s.L R (recD d)) l R
@[reducible] def Sh.D (d : Nat) (s : Sh) (R : Type) : Type := s.L R (recD d)
abbrev BL(rc:List Sh→Type→Type):=(l:List Sh)→(R:Type)→rc l R→(γ:Type)→(List SV→R→γ)→γ
def bldS(rc:List Sh→Type→Type)(b:BL rc)(s:Sh)(R:Type)(x:s.L R rc)(γ:Type)(k:SV→R→γ):γ:=match s,x with
 | .int i,x=>x.rec fun a r=>k (.v (.int i a)) r
 | .bool,x=>x.rec fun a r=>k (.v (.bool a)) r
 | .str,x=>x.rec fun a r=>k (.v (.string a)) r
 | .sl T,x=>x.rec fun a r=>k (.sl T a) r
 | .ep T o,x=>x.rec fun a r=>k (.ep T a o) r
 | .rp b n o,x=>x.rec fun a r=>k (.rp b a n o) r
 | .p0 b i,x=>x.rec fun a r=>k (.part b 0 a i) r
 | .p1 b i,x=>x.rec fun a r=>r.rec fun c r=>k (.part b a c i) r
 | .q1 b i,x=>x.rec fun a r=>r.rec fun c r=>k (.ptc b a c i) r
 | .agg l,x=>b l R x γ fun vs r=>k (.agg vs) r
 | .tup l,x=>b l R x γ fun vs r=>k (.tup vs) r
 | .fn g f c,x=>b f _ x γ fun fs r=>b c R r γ fun cs r=>k (.fn g fs cs) r
 | .ptr b o,x=>k (.ptr b o) x
 | .row b,x=>k (.row b) x
 | .mp b,x=>k (.mp b) x
 | .csl b n i,x=>k (.csl b n i) x
 | .yld i,x=>k (.yld i) x
 | .nil,x=>k (.v (.slice none 0 0)) x
 | .nilp,x=>k (.v (.pointer none)) x
 | .nilf,x=>k (.v .nilFunc) x
 | .nilm,x=>k (.v (.map none)) x
 | .nili,x=>k (.v .nilIface) x
 | .any,x=>k .any x
def BF{f:Sh→Type→Type}(b:(s:Sh)→(R:Type)→f s R→(γ:Type)→(SV→R→γ)→γ):(l:List Sh)→(R:Type)→DF f l R→(γ:Type)→(List SV→R→γ)→γ
 | [],R,x,γ,k=>k [] x
 | s::l,R,x,γ,k=>b s (DF f l R) x γ fun v r=>BF b l R r γ fun vs r=>k (v::vs) r
def recB:(d:Nat)→BL (recD d)
 | 0=>fun _ R x γ k=>k [] x
 | d+1=>BF (f:=fun s R=>s.L R (recD d)) (bldS (recD d) (recB d))
def bld(d:Nat)(s:Sh)(R:Type)(x:s.D d R)(γ:Type)(k:SV→R→γ):γ:=bldS (recD d) (recB d) s R x γ k
abbrev ML(rc:List Sh→Type→Type):=(l:List Sh)→List SV→Option ((R:Type)→R→rc l R)
def matS(rc:List Sh→Type→Type)(m:ML rc)(s:Sh)(v:SV):Option ((R:Type)→R→s.L R rc):=match s with
 | .int k=>match v with
  | .v (.int k' x)=>if k'=k then some fun _ r=>(x,r)else none
  | _=>none
 | .bool=>match v with
  | .v (.bool x)=>some fun _ r=>(x,r)
  | _=>none
 | .str=>match v with
  | .v (.string x)=>some fun _ r=>(x,r)
  | _=>none
 | .sl T=>match v with
  | .sl T' l=>if h:T'=T then some fun _ r=>(h▸l,r)else none
  | _=>none
 | .ep T o=>match v with
  | .ep T' x o'=>if h:T'=T then(if o'=o then some fun _ r=>(h▸x,r)else none)else none
  | _=>none
 | .rp b n o=>match v with
  | .rp b' i n' o'=>if b'=b∧n'=n∧o'=o then some fun _ r=>(i,r)else none
  | _=>none
 | .p0 b k=>match v with
  | .part b' 0 n k'=>if b'=b∧k'=k then some fun _ r=>(n,r)else none
  | _=>none
 | .p1 b k=>match v with
  | .part b' lo n k'=>if b'=b∧k'=k then some fun _ r=>(lo,n,r)else none
  | _=>none
 | .q1 b k=>match v with
  | .ptc b' lo n k'=>if b'=b∧k'=k then some fun _ r=>(lo,n,r)else none
  | _=>none
 | .agg l=>match v with
  | .agg cs=>m l cs
  | _=>none
 | .tup l=>match v with
  | .tup cs=>m l cs
  | _=>none
 | .fn g f c=>match v with
  | .fn g' fs cs=>if g'=g then(match m f fs with
   | some a=>match m c cs with
    | some b=>some fun R r=>a _ (b R r)
    | none=>none
   | none=>none)else none
  | _=>none
 | .ptr b o=>match v with
  | .ptr b' o'=>if b'=b∧o'=o then some fun _ r=>r else none
  | _=>none
 | .row b=>match v with
  | .row b'=>if b'=b then some fun _ r=>r else none
  | _=>none
 | .mp b=>match v with
  | .mp b'=>if b'=b then some fun _ r=>r else none
  | _=>none
 | .csl b n k=>match v with
  | .csl b' n' k'=>if b'=b∧n'=n∧k'=k then some fun _ r=>r else none
  | _=>none
 | .yld i=>match v with
  | .yld i'=>if i'=i then some fun _ r=>r else none
  | _=>none
 | .nil=>match v with
  | .v (.slice none 0 0)=>some fun _ r=>r
  | _=>none
 | .nilp=>match v with
  | .v (.pointer none)=>some fun _ r=>r
  | _=>none
 | .nilf=>match v with
  | .v .nilFunc=>some fun _ r=>r
  | _=>none
 | .nilm=>match v with
  | .v (.map none)=>some fun _ r=>r
  | _=>none
 | .nili=>match v with
  | .v .nilIface=>some fun _ r=>r
  | _=>none
 | .any=>match v with
  | .any=>some fun _ r=>r
  | _=>none
def MF{f:Sh→Type→Type}(m:(s:Sh)→SV→Option ((R:Type)→R→f s R)):(l:List Sh)→List SV→Option ((R:Type)→R→DF f l R)
 | [],ss=>match ss with
  | []=>some fun _ r=>r
  | _::_=>none
 | s::l,ss=>match ss with
  | []=>none
  | v::vs=>match m s v with
   | some a=>match MF m l vs with
    | some g=>some fun R r=>a _ (g R r)
    | none=>none
   | none=>none
def recM:(d:Nat)→ML (recD d)
 | 0=>fun _ _=>none
 | d+1=>MF (f:=fun s R=>s.L R (recD d)) (matS (recD d) (recM d))
def mat(d:Nat)(s:Sh)(v:SV):Option ((R:Type)→R→s.D d R):=matS (recD d) (recM d) s v
def LOK{rc:List Sh→Type→Type}(m:ML rc)(b:BL rc):Prop:=∀ l vs f,m l vs=some f→∀ (R:Type) (r:R) (γ:Type) (k:List SV→R→γ),b l R (f R r) γ k=k vs r
theorem adv{rc:List Sh→Type→Type}{m:ML rc}{b:BL rc}(hh:LOK m b)(s:Sh)(v:SV)(f:(R:Type)→R→s.L R rc)(h:matS rc m s v=some f)(R:Type)(r:R)(γ:Type)(k:SV→R→γ):bldS rc b s R (f R r) γ k=k v r:=by
 cases s with
 | agg l =>
  simp only[matS]at h
  split at h
  ·rename_i cs
   simp only[bldS];rw[hh l cs f h R r]
  ·cases h
 | tup l =>
  simp only[matS]at h
  split at h
  ·rename_i cs
   simp only[bldS];rw[hh l cs f h R r]
  ·cases h
 | fn g fl cl =>
  simp only[matS]at h
  split at h
  ·rename_i g' fs cs
   split at h
   ·rename_i hg
    split at h
    ·rename_i a ha
     split at h
     ·rename_i b' hb
      cases h
      simp only[bldS];rw[hh fl fs a ha _ (b' R r),hh cl cs b' hb R r,hg]
     ·cases h
    ·cases h
   ·cases h
  ·cases h
 | sl T =>
  simp only[matS]at h
  split at h
  ·split at h
   ·rename_i hT;subst hT;cases h;rfl
   ·cases h
  ·cases h
 | ep T o =>
  simp only[matS]at h
  split at h
  ·split at h
   ·rename_i hT;subst hT
    split at h
    ·rename_i ho;cases h;simp only[bldS];rw[ho]
    ·cases h
   ·cases h
  ·cases h
 | nil =>
  simp only[matS]at h
  split at h
  ·cases h;rfl
  ·cases h
 | nilp =>
  simp only[matS]at h
  split at h
  ·cases h;rfl
  ·cases h
 | nilf =>
  simp only[matS]at h
  split at h
  ·cases h;rfl
  ·cases h
 | nilm =>
  simp only[matS]at h
  split at h
  ·cases h;rfl
  ·cases h
 | nili =>
  simp only[matS]at h
  split at h
  ·cases h;rfl
  ·cases h
 | any =>
  simp only[matS]at h
  split at h
  ·cases h;rfl
  ·cases h
 | bool =>
  simp only[matS]at h
  split at h
  ·cases h;rfl
  ·cases h
 | str =>
  simp only[matS]at h
  split at h
  ·cases h;rfl
  ·cases h
 | _ =>
  simp only[matS]at h
  split at h
  ·split at h
   ·rename_i hc;cases h;simp_all [bldS]
   ·cases h
  ·cases h
theorem ale{f:Sh→Type→Type}{m:(s:Sh)→SV→Option ((R:Type)→R→f s R)}{b:(s:Sh)→(R:Type)→f s R→(γ:Type)→(SV→R→γ)→γ}(h:∀ s v a,m s v=some a→∀ (R:Type) (r:R) (γ:Type) (k:SV→R→γ),b s R (a R r) γ k=k v r):
  ∀ (l:List Sh) (vs:List SV) (g:(R:Type)→R→DF f l R),MF m l vs=some g→∀ (R:Type) (r:R) (γ:Type) (k:List SV→R→γ),BF b l R (g R r) γ k=k vs r
 | [],vs,f,hf,R,r,γ,k=>by
  simp only[MF]at hf
  split at hf
  ·cases hf;rfl
  ·cases hf
 | s::l,vs,f,hf,R,r,γ,k=>by
  simp only[MF]at hf
  split at hf
  ·cases hf
  ·rename_i v vs'
   split at hf
   ·rename_i f1 h1
    split at hf
    ·rename_i g h2
     cases hf
     simp only[BF]
     rw[h s v f1 h1 _ (g R r),ale h l vs' g h2 R r]
    ·cases hf
   ·cases hf
theorem ahq:∀ d,LOK (recM d) (recB d)
 | 0=>fun l vs f h=>by cases h
 | d+1=>fun l vs f h R r γ k=>ale (f:=fun s R=>s.L R (recD d)) (fun s v a hs R r γ k=>adv (ahq d) s v a hs R r γ k) l vs f h R r γ k
theorem akF(d:Nat)(s:Sh)(v:SV)(f:(R:Type)→R→s.D d R)(h:mat d s v=some f)(R:Type)(r:R)(γ:Type)(k:SV→R→γ):bld d s R (f R r) γ k=k v r:=adv (ahq d) s v f h R r γ k
inductive ShT where
 | a (n:Nat)
 | s (x:Sh)
def anyN:Nat→List SV→List SV
 | 0,l=>l
 | n+1,l=>.any::anyN n l
def aag:Nat→List SV→Option (List SV)
 | 0,l=>some l
 | n+1,l=>match l with
  | .any::l=>aag n l
  | _=>none
theorem aah:∀ (n:Nat) (l m:List SV),aag n l=some m→l=anyN n m
 | 0,l,m,h=>by simp only[aag,Option.some.injEq]at h;exact h
 | n+1,l,m,h=>by
  simp only[aag]at h
  split at h
  ·rw[anyN,←aah n _ _ h]
  ·cases h
@[reducible] def DT : List ShT → Type → Type
 | [],R=>R
 | .a _::l,R=>DT l R
 | .s x::l,R=>Sh.D 5 x (DT l R)
def bldT:(l:List ShT)→(R:Type)→DT l R→(γ:Type)→(List SV→R→γ)→γ
 | [],R,x,γ,k=>k [] x
 | .a n::l,R,x,γ,k=>bldT l R x γ fun vs r=>k (anyN n vs) r
 | .s h::l,R,x,γ,k=>bld 5 h (DT l R) x γ fun v r=>bldT l R r γ fun vs r=>k (v::vs) r
def matT:(l:List ShT)→List SV→Option ((R:Type)→R→DT l R)
 | [],ss=>match ss with
  | []=>some fun _ r=>r
  | _::_=>none
 | .a n::l,ss=>match aag n ss with
  | some ss=>matT l ss
  | none=>none
 | .s h::l,ss=>match ss with
  | []=>none
  | v::vs=>match mat 5 h v with
   | some f=>match matT l vs with
    | some g=>some fun R r=>f _ (g R r)
    | none=>none
   | none=>none
theorem uy:∀ (l:List ShT) (vs:List SV) (f:(R:Type)→R→DT l R),matT l vs=some f→∀ (R:Type) (r:R) (γ:Type) (k:List SV→R→γ),bldT l R (f R r) γ k=k vs r
 | [],vs,f,hf,R,r,γ,k=>by
  simp only[matT]at hf
  split at hf
  ·cases hf;rfl
  ·cases hf
 | .a n::l,vs,f,hf,R,r,γ,k=>by
  simp only[matT]at hf
  split at hf
  ·rename_i ss h
   simp only[bldT]
   rw[uy l ss f hf R r,aah _ _ _ h]
  ·cases hf
 | .s h::l,vs,f,hf,R,r,γ,k=>by
  simp only[matT]at hf
  split at hf
  ·cases hf
  ·rename_i v vs'
   split at hf
   ·rename_i f1 h1
    split at hf
    ·rename_i g h2
     cases hf
     simp only[bldT]
     rw[akF 5 h v f1 h1 (DT l R) (g R r),uy l vs' g h2 R r]
    ·cases hf
   ·cases hf
inductive ShK where
 | no
 | cells (l:List ShT) (t:TypeId)
 | row (T:Ty) (t:TypeId) (fz:Bool)
 | rnd (l:List ShT) (g:FuncId) (li:Nat) (st:LoopState) (pd:Option Code)
 | dead
 | gone
 | map (k:IntKind) (is:List Int) (l:List ShT)
 | iter (mb n:Nat)
@[reducible] def DK : ShK → Type → Type
 | .cells l _,R=>DT l R
 | .row T _ _,R=>List T.α×R
 | .rnd l _ _ _ _,R=>DT l R
 | .map _ _ l,R=>DT l R
 | .iter _ _,R=>List Nat×R
 | _,R=>R
def bldK(b:ShK)(R:Type)(x:DK b R)(γ:Type)(k:Option Blk→R→γ):γ:=match b,x with
 | .no,x=>k none x
 | .cells l t,x=>bldT l R x γ fun vs r=>k (some (.cells vs t)) r
 | .row T t fz,x=>x.rec fun l r=>k (some (.row T l t fz)) r
 | .rnd l g li st pd,x=>bldT l R x γ fun vs r=>k (some (.rnd ⟨vs,g,li,st,pd⟩)) r
 | .dead,x=>k (some .dead) x
 | .gone,x=>k (some .gone) x
 | .map kd is l,x=>bldT l R x γ fun vs r=>k (some (.map kd (is.zip vs))) r
 | .iter mb n,x=>x.rec fun l r=>k (some (.iter mb n l none)) r
def keysI:List Int→List (Int×SV)→Option (List SV)
 | [],es=>match es with
  | []=>some []
  | _::_=>none
 | i::is,es=>match es with
  | []=>none
  | e::es=>if e.1=i then(keysI is es).map (e.2::·)else none
theorem acy:∀ (is:List Int) (es:List (Int×SV)) (l:List SV),keysI is es=some l→es=is.zip l
 | [],es,l,h=>by
  simp only[keysI]at h
  split at h
  ·cases h;rfl
  ·cases h
 | i::is,es,l,h=>by
  simp only[keysI]at h
  split at h
  ·cases h
  ·rename_i e es'
   split at h
   ·rename_i he
    obtain⟨l',h1,rfl⟩:=Option.map_eq_some_iff.1 h
    rw[List.zip_cons_cons,←acy is es' l' h1,←he]
   ·cases h
def matK:(b:ShK)→Option Blk→Option ((R:Type)→R→DK b R)
 | .no,o=>match o with
  | none=>some fun _ r=>r
  | some _=>none
 | .cells l t,o=>match o with
  | some (.cells cs t')=>if t'=t then matT l cs else none
  | _=>none
 | .row T t fz,o=>match o with
  | some (.row T' l t' fz')=>if h:T'=T then(if t'=t∧fz'=fz then some fun _ r=>(h▸l,r)else none)else none
  | _=>none
 | .rnd l g li st pd,o=>match st,pd with
  | .ready,none=>match o with
   | some (.rnd r)=>match r with
    | ⟨ts,g',li',.ready,none⟩=>if g'=g∧li'=li then matT l ts else none
    | _=>none
   | _=>none
  | _,_=>none
 | .dead,o=>match o with
  | some .dead=>some fun _ r=>r
  | _=>none
 | .gone,o=>match o with
  | some .gone=>some fun _ r=>r
  | _=>none
 | .map k is l,o=>match o with
  | some (.map k' es)=>if k'=k then(match keysI is es with
   | some vs=>matT l vs
   | none=>none)else none
  | _=>none
 | .iter mb n,o=>match o with
  | some (.iter mb' n' sn none)=>if mb'=mb∧n'=n then some fun _ r=>(sn,r)else none
  | _=>none
theorem ail:∀ (b:ShK) (o:Option Blk) (f:(R:Type)→R→DK b R),matK b o=some f→∀ (R:Type) (r:R) (γ:Type) (k:Option Blk→R→γ),bldK b R (f R r) γ k=k o r:=by
 intro b o f h R r γ k
 cases b with
 | cells l t =>
  simp only[matK]at h
  split at h
  ·rename_i cs t'
   split at h
   ·rename_i ht
    simp only[bldK];rw[uy l cs f h R r,ht]
   ·cases h
  ·cases h
 | row T t fz =>
  simp only[matK]at h
  split at h
  ·rename_i T' l t' fz'
   split at h
   ·rename_i hT
    subst hT
    split at h
    ·rename_i ht
     cases h
     simp only[bldK];rw[ht.1,ht.2]
    ·cases h
   ·cases h
  ·cases h
 | rnd l g li st pd =>
  simp only[matK]at h
  split at h
  ·split at h
   ·rename_i q
    split at h
    ·rename_i ts g' li'
     split at h
     ·rename_i hg
      simp only[bldK];rw[uy l ts f h R r,hg.1,hg.2]
     ·cases h
    ·cases h
   ·cases h
  ·cases h
 | map k is l =>
  simp only[matK]at h
  split at h
  ·rename_i k' es
   split at h
   ·rename_i hk
    split at h
    ·rename_i vs hv
     simp only[bldK];rw[uy l vs f h R r,hk,acy _ _ _ hv]
    ·cases h
   ·cases h
  ·cases h
 | iter mb n =>
  simp only[matK]at h
  split at h
  ·rename_i mb' n' sn
   split at h
   ·rename_i hc
    cases h
    simp only[bldK];rw[hc.1,hc.2]
   ·cases h
  ·cases h
 | _=>simp only[matK]at h<;>split at h<;>first | (cases h;rfl) | cases h
@[reducible] def DM : List ShK → Type → Type
 | [],R=>R
 | b::l,R=>DK b (DM l R)
def bldM:(l:List ShK)→(R:Type)→DM l R→(γ:Type)→(Mem→R→γ)→γ
 | [],R,x,γ,k=>k [] x
 | b::l,R,x,γ,k=>bldK b (DM l R) x γ fun v r=>bldM l R r γ fun vs r=>k (v::vs) r
def matM:(l:List ShK)→Mem→Option ((R:Type)→R→DM l R)
 | [],ss=>match ss with
  | []=>some fun _ r=>r
  | _::_=>none
 | b::l,ss=>match ss with
  | []=>none
  | v::vs=>match matK b v with
   | some f=>match matM l vs with
    | some g=>some fun R r=>f _ (g R r)
    | none=>none
   | none=>none
theorem adu:∀ (l:List ShK) (vs:Mem) (f:(R:Type)→R→DM l R),matM l vs=some f→∀ (R:Type) (r:R) (γ:Type) (k:Mem→R→γ),bldM l R (f R r) γ k=k vs r
 | [],vs,f,hf,R,r,γ,k=>by
  simp only[matM]at hf
  split at hf
  ·cases hf;rfl
  ·cases hf
 | b::l,vs,f,hf,R,r,γ,k=>by
  simp only[matM]at hf
  split at hf
  ·cases hf
  ·rename_i v vs'
   split at hf
   ·rename_i f1 h1
    split at hf
    ·rename_i g h2
     cases hf
     simp only[bldM]
     rw[ail b v f1 h1 (DM l R) (g R r),adu l vs' g h2 R r]
    ·cases hf
   ·cases hf
structure ShS where
 t:List ShT
 m:List ShK
@[reducible] def ShS.D (s : ShS) : Type := DT s.t (DM s.m Unit)
def ShS.b(s:ShS)(x:s.D):St:=bldT s.t (DM s.m Unit) x St fun ts r=>bldM s.m Unit r St fun mem _=>(ts,mem)
def ShS.m?(s:ShS)(st:St):Option s.D:=match matT s.t st.1 with
 | some f=>match matM s.m st.2 with
  | some g=>some (f _ (g Unit ()))
  | none=>none
 | none=>none
theorem ShS.akC{s:ShS}{st:St}{x:s.D}(h:s.m? st=some x):st=s.b x:=by
 unfold ShS.m? at h
 split at h
 ·rename_i f hf
  split at h
  ·rename_i g hg
   cases h
   unfold ShS.b
   rw[uy _ _ f hf,adu _ _ g hg]
  ·cases h
 ·cases h
end
end Go.Q
namespace Go.Q
open Go Go.RowKit
open Go.Rx (br bd kH mG jA)
abbrev Ok(g:FuncId)(E:Entry):Prop:=pU Proofs.Tryz.prog TabG g E
def kxF:Nat→Nat→List Nat→List Nat
 | 0,_,_=>[]
 | f+1,i,ks=>match ks with
  | []=>i::kxF f (i+1) []
  | k::ks=>bif Nat.beq i k then kxF f (i+1) ks else i::kxF f (i+1) (k::ks)
def kx(n:Nat)(l:List Nat):List Nat:=kxF n 0 l
def annOf:List (Nat×Nr×Nr)→Nat→Nr×Nr
 | [],_=>(⟨[],[],[]⟩,⟨[],[],[]⟩)
 | p::l,li=>bif li==p.1 then p.2 else annOf l li
def annsL:List (FuncId×FA)→FuncId→FA
 | [],_=>FA.none
 | p::l,g=>bif g==p.1 then p.2 else annsL l g
theorem aoN:AnnsOK Proofs.Tryz.prog (annsL []):=fun g s h=>by cases h
theorem aoS{g:FuncId}{a:FA}{l:List (FuncId×FA)}(h:∀ s,a.spc=some s→SpkOK Proofs.Tryz.prog s g)(hl:AnnsOK Proofs.Tryz.prog (annsL l)):AnnsOK Proofs.Tryz.prog (annsL ((g,a)::l)):=by
 intro g' s hs
 simp only[annsL]at hs
 by_cases e:g'=g
 ·subst e
  simp only[BEq.rfl,cond_true]at hs
  exact h s hs
 ·rw[show(g'==g)=false from by simpa using e,cond_false]at hs
  exact hl g' s hs
theorem aoC{g:FuncId}{n:List (Nat×Nr×Nr)}{i:List Nat}{l:List (FuncId×FA)}(hl:AnnsOK Proofs.Tryz.prog (annsL l)):AnnsOK Proofs.Tryz.prog (annsL ((g,⟨annOf n,none,i⟩)::l)) :=
 aoS (fun s h=>by cases h) hl
theorem aoP{g:FuncId}{n:List (Nat×Nr×Nr)}{i:List Nat}{s:Spk}{l:List (FuncId×FA)}(h:SpkOK Proofs.Tryz.prog s g)(hl:AnnsOK Proofs.Tryz.prog (annsL l)):AnnsOK Proofs.Tryz.prog (annsL ((g,⟨annOf n,some s,i⟩)::l)) :=
 aoS (fun s' h'=>by cases h';exact h) hl
section
variable (an:FuncId→FA)(ls:List (Nat×FuncId×Sums))(tb:List (FuncId×Entry))(lf:Nat)
noncomputable def drG (ρ:Type):Draws ρ:=drawA Proofs.Tryz.prog (lookT tb) 0 fun n=>clQ Proofs.Tryz.prog an (lookT tb) (lf+40) 14 6 n ρ
noncomputable def itG {ρ:Type} (n0 g li j:Nat) (sg:Sums) (n:Nat) (st:St) (k:KE ρ):Option ρ :=
 iterK (nrmS 0 ((an g).ann li).1 j) (nrmS 0 ((an g).ann li).2 j) (codeK Proofs.Tryz.prog g (an g).ann sg (drG an tb lf ρ) (goK true Proofs.Tryz.prog an (lsOf ls) (drG an tb lf ρ) (lookT tb) 0 (lf+40) n0) 0 (lf+40) none (li+1) (loopP Proofs.Tryz.prog g li)) n st k
def sumE(sh:ShS)(f:sh.D→LTE):St→Option LTE:=fun st=>(sh.m? st).map f
def sumsL:List (Nat×(St→Option LTE))→Nat→St→Option LTE
 | [],_,_=>none
 | p::l,li,st=>bif li==p.1 then(match p.2 st with
  | some T=>some T
  | none=>sumsL l li st)else sumsL l li st
def LA(n0 g:Nat)(sg:Sums)(l:List (Nat×(St→Option LTE))):Prop :=
 ∀ p∈l,∀ (ρ:Type) (st:St) (T:LTE),p.2 st=some T→∀ (k:KE ρ) (r:ρ),bd T.x (fun y=>altK k (T.out y))=some r→itG an ls tb lf n0 g p.1 (st.2.length-((an g).ann p.1).1.acc.length) sg (lf+40) st k=some r
def SL(q:List (Nat×FuncId×Sums)):Prop:=∀ p∈q,∃ l,p.2.2=sumsL l∧LA an ls tb lf p.1 p.2.1 p.2.2 l
variable {an ls tb lf}
theorem laN{n0 g:Nat}{sg:Sums}:LA an ls tb lf n0 g sg []:=fun p hp=>by cases hp
theorem laC{n0 g li j:Nat}{sg:Sums}{sh:ShS}{f:sh.D→LTE}{l:List (Nat×(St→Option LTE))}(hj:∀ x:sh.D,(sh.b x).2.length-((an g).ann li).1.acc.length=j)
  (h:∀ (ρ:Type) (x:sh.D) (k:KE ρ),LeO (bd (f x).x fun y=>altK k ((f x).out y)) (itG an ls tb lf n0 g li j sg (lf+40) (sh.b x) k)) (hl:LA an ls tb lf n0 g sg l):LA an ls tb lf n0 g sg ((li,sumE sh f)::l):=by
 intro p hp ρ st T hT k r he
 rcases List.mem_cons.1 hp with rfl | hp
 ·simp only[sumE]at hT
  obtain⟨x,hx,rfl⟩:=Option.map_eq_some_iff.1 hT
  have e:=ShS.akC hx
  subst e
  rw[hj]
  exact h ρ x k r he
 ·exact hl p hp ρ st T hT k r he
theorem slN:SL an ls tb lf []:=fun p hp=>by cases hp
theorem slC{n0 g:Nat}{l:List (Nat×(St→Option LTE))}{q:List (Nat×FuncId×Sums)}(h:LA an ls tb lf n0 g (sumsL l) l)(hq:SL an ls tb lf q):SL an ls tb lf ((n0,g,sumsL l)::q):=by
 intro p hp
 rcases List.mem_cons.1 hp with rfl | hp
 ·exact⟨l,rfl,h⟩
 ·exact hq p hp
theorem zT:∀ {l:List (Nat×(St→Option LTE))} {li:Nat} {st:St} {T:LTE},sumsL l li st=some T→∃ p∈l,p.1=li∧p.2 st=some T
 | p::l,li,st,T,h=>by
  simp only[sumsL]at h
  cases hb:li==p.1 with
  | true =>
   rw[hb,cond_true]at h
   split at h
   ·rename_i T' hT
    cases h
    exact⟨p,List.mem_cons_self ..,(by simpa using hb:li=p.1).symm,hT⟩
   ·obtain⟨q,h1,h2⟩:=zT h
    exact⟨q,List.mem_cons_of_mem _ h1,h2⟩
  | false =>
   rw[hb,cond_false]at h
   obtain⟨q,h1,h2⟩:=zT h
   exact⟨q,List.mem_cons_of_mem _ h1,h2⟩
theorem sumsG(h:SL an ls tb lf ls)(ρ:Type):SumsOK true ρ Proofs.Tryz.prog an (lsOf ls) (drG an tb lf ρ) (lookT tb) 0 (lf+40):=by
 refine aiE rfl fun p hp i st T hT k r he=>?_
 obtain⟨l,e,hl⟩:=h p hp
 rw[e]at hT
 obtain⟨q,h1,rfl,h3⟩:=zT hT
 exact hl q h1 ρ st T h3 k r he
theorem okL(hl:TabOK Proofs.Tryz.prog TabG (lookT tb))(hsp:AnnsOK Proofs.Tryz.prog an)(hs:SL an ls tb lf ls){g:FuncId}{E:Entry}
  (h:∀ x,E.f x=runQ Proofs.Tryz.prog an (lsOf ls) (lookT tb) (lf+40) 14 6 g E.ps E.rs x):Ok g E:=entryL hl hsp (sumsG hs _) h
theorem okT(hl:TabOK Proofs.Tryz.prog TabG (lookT tb))(hsp:AnnsOK Proofs.Tryz.prog an){g:FuncId}{E:Entry}
  (h:∀ x,E.f x=runQ Proofs.Tryz.prog an noLs (lookT tb) (lf+40) 14 6 g E.ps E.rs x):Ok g E:=entryT hl hsp h
theorem tN:TabOK Proofs.Tryz.prog TabG (lookT []):=aii
theorem tC{g:FuncId}{E:Entry}{l:List (FuncId×Entry)}(h:Ok g E)(hl:TabOK Proofs.Tryz.prog TabG (lookT l)):TabOK Proofs.Tryz.prog TabG (lookT ((g,E)::l)):=ags h hl
theorem dY{ρ:Type}{a b:Option ρ}(h:b=a):LeO a b:=fun r hr=>h.trans hr
end
end Go.Q
/-
 DERIVED: THE SHELF's CONTRACTS AT THIS DUMP, IN PLAIN WORDS (tools/lay-plain.mjs out of 'TryzShelf.lean', which tools/lay-shelf.mjs wrote): THE SAME DECLARATIONS UNDER THE SAME NAMES: 'import', 'namespace', 'open', 'def', 'theorem' AND NOTHING ELSE: no command of the shelf's: FOR A HAND-IN. Each laying: the table of numbers ('.._ren') and one theorem, a field a fact of the dump's own or the kernel's comparison; each contract: ONE APPLICATION.
-/
namespace Go.Proofs
open Go.Shelf
def Tryz.afs:Go.Shelf.Ren:=⟨fun | 172=>391 | 244=>401 | 245=>402 | 247=>412 | 279=>413 | 280=>414 | 281=>415 | 282=>416 | 287=>423 | 316=>424 | 171=>343 | 205=>425 | 321=>429 | 322=>430 | 243=>380 | 246=>394 | 283=>403 | 284=>404 | 285=>405 | 286=>406 | 129=>418 | 317=>417 | 318=>419 | 319=>420 | 320=>421 | 337=>426 | 338=>427 | n=>n,fun | 9=>9 | 3=>3 | 75=>300 | 76=>306 | 4=>4 | 5=>5 | 167=>361 | 37=>239 | 0=>0 | 85=>362 | 2=>2 | 168=>364 | 53=>343 | 175=>371 | 46=>294 | 210=>375 | 127=>330 | 145=>381 | 143=>379 | 21=>21 | 171=>348 | 173=>351 | 212=>368 | 51=>340 | 20=>20 | 213=>369 | 232=>382 | 233=>383 | 80=>309 | n=>n,fun | 15=>4 | 16=>5 | 17=>2 | 18=>6 | 19=>7 | n=>n⟩
theorem Tryz.lays172:Go.Proofs.Lays.n172 Tryz.prog Tryz.afs:={
 mixed:=by kernel_rfl
 f129:=Tryz.func418.trans (congrArg some (by kernel_rfl))
 f171:=Tryz.func343.trans (congrArg some (by kernel_rfl))
 f172:=Tryz.func391.trans (congrArg some (by kernel_rfl))
 f205:=Tryz.func425.trans (congrArg some (by kernel_rfl))
 f243:=Tryz.func380.trans (congrArg some (by kernel_rfl))
 f244:=Tryz.func401.trans (congrArg some (by kernel_rfl))
 f245:=Tryz.func402.trans (congrArg some (by kernel_rfl))
 f246:=Tryz.func394.trans (congrArg some (by kernel_rfl))
 f247:=Tryz.func412.trans (congrArg some (by kernel_rfl))
 f279:=Tryz.func413.trans (congrArg some (by kernel_rfl))
 f280:=Tryz.func414.trans (congrArg some (by kernel_rfl))
 f281:=Tryz.func415.trans (congrArg some (by kernel_rfl))
 f282:=Tryz.func416.trans (congrArg some (by kernel_rfl))
 f283:=Tryz.func403.trans (congrArg some (by kernel_rfl))
 f284:=Tryz.func404.trans (congrArg some (by kernel_rfl))
 f285:=Tryz.func405.trans (congrArg some (by kernel_rfl))
 f286:=Tryz.func406.trans (congrArg some (by kernel_rfl))
 f287:=Tryz.func423.trans (congrArg some (by kernel_rfl))
 f316:=Tryz.func424.trans (congrArg some (by kernel_rfl))
 f317:=Tryz.func417.trans (congrArg some (by kernel_rfl))
 f318:=Tryz.func419.trans (congrArg some (by kernel_rfl))
 f319:=Tryz.func420.trans (congrArg some (by kernel_rfl))
 f320:=Tryz.func421.trans (congrArg some (by kernel_rfl))
 f321:=Tryz.func429.trans (congrArg some (by kernel_rfl))
 f322:=Tryz.func430.trans (congrArg some (by kernel_rfl))
 f337:=Tryz.func426.trans (congrArg some (by kernel_rfl))
 f338:=Tryz.func427.trans (congrArg some (by kernel_rfl))
 t0:=Tryz.underlying0
 a0:=Tryz.isAgg0
 z0:=Tryz.sizeOf0
 v0:=Tryz.zeroValue0
 t2:=Tryz.underlying2
 a2:=Tryz.isAgg2
 z2:=Tryz.sizeOf2
 v2:=Tryz.zeroValue2
 t3:=Tryz.underlying3
 a3:=Tryz.isAgg3
 z3:=Tryz.sizeOf3
 v3:=Tryz.zeroValue3
 t4:=Tryz.underlying4
 a4:=Tryz.isAgg4
 z4:=Tryz.sizeOf4
 v4:=Tryz.zeroValue4
 t5:=Tryz.underlying5
 a5:=Tryz.isAgg5
 z5:=Tryz.sizeOf5
 v5:=Tryz.zeroValue5
 t9:=Tryz.underlying9
 a9:=Tryz.isAgg9
 z9:=Tryz.sizeOf9
 v9:=Tryz.zeroValue9
 t20:=Tryz.underlying20
 a20:=Tryz.isAgg20
 z20:=Tryz.sizeOf20
 v20:=Tryz.zeroValue20
 t21:=Tryz.underlying21
 a21:=Tryz.isAgg21
 z21:=Tryz.sizeOf21
 v21:=Tryz.zeroValue21
 t37:=Tryz.underlying239
 a37:=Tryz.isAgg239
 z37:=Tryz.sizeOf239
 v37:=Tryz.zeroValue239
 t46:=Tryz.underlying294
 a46:=Tryz.isAgg294
 z46:=Tryz.sizeOf294
 v46:=Tryz.zeroValue294
 t51:=Tryz.underlying340
 a51:=Tryz.isAgg340
 z51:=Tryz.sizeOf340
 v51:=Tryz.zeroValue340
 t53:=Tryz.underlying343
 a53:=Tryz.isAgg343
 z53:=Tryz.sizeOf343
 v53:=Tryz.zeroValue343
 t75:=Tryz.underlying300
 a75:=Tryz.isAgg300
 z75:=Tryz.sizeOf300
 v75:=Tryz.zeroValue300
 t76:=Tryz.underlying306
 a76:=Tryz.isAgg306
 z76:=Tryz.sizeOf306
 v76:=Tryz.zeroValue306
 t85:=Tryz.underlying362
 a85:=Tryz.isAgg362
 z85:=Tryz.sizeOf362
 v85:=Tryz.zeroValue362
 t127:=Tryz.underlying330
 a127:=Tryz.isAgg330
 z127:=Tryz.sizeOf330
 v127:=Tryz.zeroValue330
 t143:=Tryz.underlying379
 a143:=Tryz.isAgg379
 z143:=Tryz.sizeOf379
 v143:=Tryz.zeroValue379
 t145:=Tryz.underlying381
 a145:=Tryz.isAgg381
 z145:=Tryz.sizeOf381
 v145:=Tryz.zeroValue381
 t167:=Tryz.underlying361
 a167:=Tryz.isAgg361
 z167:=Tryz.sizeOf361
 v167:=Tryz.zeroValue361
 t168:=Tryz.underlying364
 a168:=Tryz.isAgg364
 z168:=Tryz.sizeOf364
 v168:=Tryz.zeroValue364
 t171:=Tryz.underlying348
 a171:=Tryz.isAgg348
 z171:=Tryz.sizeOf348
 v171:=Tryz.zeroValue348
 t173:=Tryz.underlying351
 a173:=Tryz.isAgg351
 z173:=Tryz.sizeOf351
 v173:=Tryz.zeroValue351
 t175:=Tryz.underlying371
 a175:=Tryz.isAgg371
 z175:=Tryz.sizeOf371
 v175:=Tryz.zeroValue371
 t210:=Tryz.underlying375
 a210:=Tryz.isAgg375
 z210:=Tryz.sizeOf375
 v210:=Tryz.zeroValue375
 t212:=Tryz.underlying368
 a212:=Tryz.isAgg368
 z212:=Tryz.sizeOf368
 v212:=Tryz.zeroValue368
 t213:=Tryz.underlying369
 a213:=Tryz.isAgg369
 z213:=Tryz.sizeOf369
 t232:=Tryz.underlying382
 a232:=Tryz.isAgg382
 z232:=Tryz.sizeOf382
 v232:=Tryz.zeroValue382
 t233:=Tryz.underlying383
 a233:=Tryz.isAgg383
 z233:=Tryz.sizeOf383
 v233:=Tryz.zeroValue383
 g15:=by kernel_rfl
 g16:=by kernel_rfl
 g17:=by kernel_rfl
 g18:=by kernel_rfl
 g19:=by kernel_rfl }
open Go.RowKit in
theorem Tryz.strconv_Atoi(s:ByteArray)(n:Int)(hl:s.size≤18)(h:Lib.atoi s.data.toList=some n)(w:World):
  Calls Tryz.prog 391 #[.string s] w fun e w'=>e=.returned (.tuple #[.int .i64 n,.nilIface])∧∃ t,w'=Lib.bytesWorld w 5 t:=Any.strconv_Atoi Tryz.lays172 s n hl h w
def Tryz.aeh:Go.Shelf.Ren:=⟨fun | 171=>343 | 243=>380 | 246=>394 | 283=>403 | 284=>404 | 285=>405 | 286=>406 | 129=>418 | 317=>417 | 318=>419 | 319=>420 | 320=>421 | 337=>426 | 338=>427 | n=>n,fun | 3=>3 | 9=>9 | 2=>2 | 4=>4 | 171=>348 | 0=>0 | 53=>343 | 37=>239 | 5=>5 | 173=>351 | 212=>368 | 51=>340 | 20=>20 | 213=>369 | 46=>294 | 232=>382 | 233=>383 | n=>n,fun | 17=>2 | 18=>6 | 19=>7 | n=>n⟩
theorem Tryz.laysM171:Go.Proofs.LaysM.n171 Tryz.prog Tryz.aeh:={
 mixed:=by kernel_rfl
 f129:=Tryz.func418.trans (congrArg some (by kernel_rfl))
 f171:=Tryz.func343.trans (congrArg some (by kernel_rfl))
 f243:=Tryz.func380.trans (congrArg some (by kernel_rfl))
 f246:=Tryz.func394.trans (congrArg some (by kernel_rfl))
 f283:=Tryz.func403.trans (congrArg some (by kernel_rfl))
 f284:=Tryz.func404.trans (congrArg some (by kernel_rfl))
 f285:=Tryz.func405.trans (congrArg some (by kernel_rfl))
 f286:=Tryz.func406.trans (congrArg some (by kernel_rfl))
 f317:=Tryz.func417.trans (congrArg some (by kernel_rfl))
 f318:=Tryz.func419.trans (congrArg some (by kernel_rfl))
 f319:=Tryz.func420.trans (congrArg some (by kernel_rfl))
 f320:=Tryz.func421.trans (congrArg some (by kernel_rfl))
 f337:=Tryz.func426.trans (congrArg some (by kernel_rfl))
 f338:=Tryz.func427.trans (congrArg some (by kernel_rfl))
 t0:=Tryz.underlying0
 a0:=Tryz.isAgg0
 z0:=Tryz.sizeOf0
 v0:=Tryz.zeroValue0
 t2:=Tryz.underlying2
 a2:=Tryz.isAgg2
 z2:=Tryz.sizeOf2
 v2:=Tryz.zeroValue2
 t3:=Tryz.underlying3
 a3:=Tryz.isAgg3
 z3:=Tryz.sizeOf3
 v3:=Tryz.zeroValue3
 t4:=Tryz.underlying4
 a4:=Tryz.isAgg4
 z4:=Tryz.sizeOf4
 v4:=Tryz.zeroValue4
 t5:=Tryz.underlying5
 a5:=Tryz.isAgg5
 z5:=Tryz.sizeOf5
 v5:=Tryz.zeroValue5
 t9:=Tryz.underlying9
 a9:=Tryz.isAgg9
 z9:=Tryz.sizeOf9
 v9:=Tryz.zeroValue9
 t20:=Tryz.underlying20
 a20:=Tryz.isAgg20
 z20:=Tryz.sizeOf20
 v20:=Tryz.zeroValue20
 t37:=Tryz.underlying239
 a37:=Tryz.isAgg239
 z37:=Tryz.sizeOf239
 v37:=Tryz.zeroValue239
 t46:=Tryz.underlying294
 a46:=Tryz.isAgg294
 z46:=Tryz.sizeOf294
 v46:=Tryz.zeroValue294
 t51:=Tryz.underlying340
 a51:=Tryz.isAgg340
 z51:=Tryz.sizeOf340
 v51:=Tryz.zeroValue340
 t53:=Tryz.underlying343
 a53:=Tryz.isAgg343
 z53:=Tryz.sizeOf343
 v53:=Tryz.zeroValue343
 t171:=Tryz.underlying348
 a171:=Tryz.isAgg348
 z171:=Tryz.sizeOf348
 v171:=Tryz.zeroValue348
 t173:=Tryz.underlying351
 a173:=Tryz.isAgg351
 z173:=Tryz.sizeOf351
 v173:=Tryz.zeroValue351
 t212:=Tryz.underlying368
 a212:=Tryz.isAgg368
 z212:=Tryz.sizeOf368
 v212:=Tryz.zeroValue368
 t213:=Tryz.underlying369
 a213:=Tryz.isAgg369
 z213:=Tryz.sizeOf369
 t232:=Tryz.underlying382
 a232:=Tryz.isAgg382
 z232:=Tryz.sizeOf382
 v232:=Tryz.zeroValue382
 t233:=Tryz.underlying383
 a233:=Tryz.isAgg383
 z233:=Tryz.sizeOf383
 v233:=Tryz.zeroValue383
 g17:=by kernel_rfl
 g18:=by kernel_rfl
 g19:=by kernel_rfl
 i0:=by kernel_rfl
 i2:=by kernel_rfl
 i3:=by kernel_rfl
 i4:=by kernel_rfl
 i5:=by kernel_rfl
 i9:=by kernel_rfl
 i20:=by kernel_rfl
 i37:=by kernel_rfl
 i46:=by kernel_rfl
 i51:=by kernel_rfl
 i53:=by kernel_rfl
 i171:=by kernel_rfl
 i173:=by kernel_rfl
 i212:=by kernel_rfl
 i232:=by kernel_rfl
 i233:=by kernel_rfl
 m17:=by kernel_rfl
 m18:=by kernel_rfl
 m19:=by kernel_rfl }
open Go.RowKit Go.Sort Go.Lib in
theorem Tryz.strconv_Itoa(n:Int)(h0: -9223372036854775808≤n)(h1:n≤9223372036854775807)(w:World)(htab:Lib.TabIs Tryz.prog w "internal/strconv.uint64pow10" .u64 Lib.pow10Tab) :
  Calls Tryz.prog 343 #[.int .i64 n] w fun e w'=>e=.returned (.string ⟨(Lib.itoa n).toArray⟩)∧∃ k os,w'=grow (w.drewN k) os:=Any.strconv_Itoa Tryz.laysM171 n h0 h1 w htab
def Tryz.lays105_ren:Go.Shelf.Ren:=⟨fun | 105=>345 | 212=>381 | 99=>382 | 165=>383 | 166=>344 | 170=>384 | 169=>346 | 263=>395 | 264=>396 | 206=>365 | 240=>378 | 241=>397 | 276=>393 | 277=>407 | n=>n,fun | 9=>9 | 3=>3 | 4=>4 | 20=>20 | 0=>0 | 46=>294 | 109=>327 | 5=>5 | 72=>298 | 76=>306 | 51=>340 | 146=>341 | 53=>343 | 148=>344 | 70=>296 | 37=>239 | 75=>300 | 127=>330 | 164=>337 | 80=>309 | n=>n,fun | n=>n⟩
theorem Tryz.lays105:Go.Proofs.Lays.n105 Tryz.prog Tryz.lays105_ren:={
 mixed:=by kernel_rfl
 f99:=Tryz.func382.trans (congrArg some (by kernel_rfl))
 f105:=Tryz.func345.trans (congrArg some (by kernel_rfl))
 f165:=Tryz.func383.trans (congrArg some (by kernel_rfl))
 f166:=Tryz.func344.trans (congrArg some (by kernel_rfl))
 f169:=Tryz.func346.trans (congrArg some (by kernel_rfl))
 f170:=Tryz.func384.trans (congrArg some (by kernel_rfl))
 f206:=Tryz.func365.trans (congrArg some (by kernel_rfl))
 f212:=Tryz.func381.trans (congrArg some (by kernel_rfl))
 f240:=Tryz.func378.trans (congrArg some (by kernel_rfl))
 f241:=Tryz.func397.trans (congrArg some (by kernel_rfl))
 f263:=Tryz.func395.trans (congrArg some (by kernel_rfl))
 f264:=Tryz.func396.trans (congrArg some (by kernel_rfl))
 f276:=Tryz.func393.trans (congrArg some (by kernel_rfl))
 f277:=Tryz.func407.trans (congrArg some (by kernel_rfl))
 t0:=Tryz.underlying0
 a0:=Tryz.isAgg0
 z0:=Tryz.sizeOf0
 v0:=Tryz.zeroValue0
 t3:=Tryz.underlying3
 a3:=Tryz.isAgg3
 z3:=Tryz.sizeOf3
 v3:=Tryz.zeroValue3
 t4:=Tryz.underlying4
 a4:=Tryz.isAgg4
 z4:=Tryz.sizeOf4
 v4:=Tryz.zeroValue4
 t5:=Tryz.underlying5
 a5:=Tryz.isAgg5
 z5:=Tryz.sizeOf5
 v5:=Tryz.zeroValue5
 t9:=Tryz.underlying9
 a9:=Tryz.isAgg9
 z9:=Tryz.sizeOf9
 v9:=Tryz.zeroValue9
 t20:=Tryz.underlying20
 a20:=Tryz.isAgg20
 z20:=Tryz.sizeOf20
 v20:=Tryz.zeroValue20
 t37:=Tryz.underlying239
 a37:=Tryz.isAgg239
 z37:=Tryz.sizeOf239
 v37:=Tryz.zeroValue239
 t46:=Tryz.underlying294
 a46:=Tryz.isAgg294
 z46:=Tryz.sizeOf294
 v46:=Tryz.zeroValue294
 t51:=Tryz.underlying340
 a51:=Tryz.isAgg340
 z51:=Tryz.sizeOf340
 v51:=Tryz.zeroValue340
 t53:=Tryz.underlying343
 a53:=Tryz.isAgg343
 z53:=Tryz.sizeOf343
 v53:=Tryz.zeroValue343
 t70:=Tryz.underlying296
 a70:=Tryz.isAgg296
 z70:=Tryz.sizeOf296
 v70:=Tryz.zeroValue296
 t72:=Tryz.underlying298
 a72:=Tryz.isAgg298
 z72:=Tryz.sizeOf298
 v72:=Tryz.zeroValue298
 t75:=Tryz.underlying300
 a75:=Tryz.isAgg300
 z75:=Tryz.sizeOf300
 v75:=Tryz.zeroValue300
 t76:=Tryz.underlying306
 a76:=Tryz.isAgg306
 z76:=Tryz.sizeOf306
 v76:=Tryz.zeroValue306
 t109:=Tryz.underlying327
 a109:=Tryz.isAgg327
 z109:=Tryz.sizeOf327
 v109:=Tryz.zeroValue327
 t127:=Tryz.underlying330
 a127:=Tryz.isAgg330
 z127:=Tryz.sizeOf330
 v127:=Tryz.zeroValue330
 t146:=Tryz.underlying341
 a146:=Tryz.isAgg341
 z146:=Tryz.sizeOf341
 v146:=Tryz.zeroValue341
 t148:=Tryz.underlying344
 a148:=Tryz.isAgg344
 z148:=Tryz.sizeOf344
 v148:=Tryz.zeroValue344
 t164:=Tryz.underlying337
 a164:=Tryz.isAgg337
 z164:=Tryz.sizeOf337
 v164:=Tryz.zeroValue337 }
theorem Tryz.Builder_Extra_105:Builder.Extra Tryz.prog Tryz.lays105_ren:={
 sizeBuilder:=by kernel_rfl
 liesBuilder:=by kernel_rfl
 t5:=Tryz.underlying5
 a5:=Tryz.isAgg5
 z5:=Tryz.sizeOf5
 v5:=Tryz.zeroValue5
 infoByte:=by kernel_rfl
 cellsByte:=by kernel_rfl
 sizeByte:=by kernel_rfl
 neB5:=by decide }
open Go.RowKit Go.Lib in
theorem Tryz.strings_Repeat(s:ByteArray)(c:Nat)(w:World)(hc:c≤9223372036854775807)(hlen:s.size*c≤140737488355328):
  Calls Tryz.prog 345 #[.string s,.int .i64 c] w fun e w'=>e=.returned (.string ⟨(Lib.repeatL s.data.toList c).toArray⟩)∧Below w.heap.size w w':=Any.strings_Repeat Tryz.lays105 Tryz.Builder_Extra_105 s c w hc hlen
def Tryz.afr:Go.Shelf.Ren:=⟨fun | 160=>321 | 232=>359 | 231=>358 | 227=>360 | 234=>362 | 233=>361 | 236=>364 | 235=>363 | 228=>385 | 271=>388 | 151=>387 | 197=>386 | 120=>400 | 152=>399 | 260=>398 | 137=>408 | 119=>409 | 224=>410 | 225=>411 | 217=>422 | 266=>428 | n=>n,fun | 9=>9 | 4=>4 | 3=>3 | 5=>5 | 117=>317 | 116=>316 | 0=>0 | 124=>320 | 21=>21 | 105=>332 | 46=>294 | 119=>354 | 139=>357 | 138=>356 | n=>n,fun | 3=>0 | 4=>1 | n=>n⟩
theorem Tryz.lays160:Go.Proofs.Lays.n160 Tryz.prog Tryz.afr:={
 mixed:=by kernel_rfl
 f119:=Tryz.func409.trans (congrArg some (by kernel_rfl))
 f120:=Tryz.func400.trans (congrArg some (by kernel_rfl))
 f137:=Tryz.func408.trans (congrArg some (by kernel_rfl))
 f151:=Tryz.func387.trans (congrArg some (by kernel_rfl))
 f152:=Tryz.func399.trans (congrArg some (by kernel_rfl))
 f160:=Tryz.func321.trans (congrArg some (by kernel_rfl))
 f197:=Tryz.func386.trans (congrArg some (by kernel_rfl))
 f217:=Tryz.func422.trans (congrArg some (by kernel_rfl))
 f224:=Tryz.func410.trans (congrArg some (by kernel_rfl))
 f225:=Tryz.func411.trans (congrArg some (by kernel_rfl))
 f227:=Tryz.func360.trans (congrArg some (by kernel_rfl))
 f228:=Tryz.func385.trans (congrArg some (by kernel_rfl))
 f231:=Tryz.func358.trans (congrArg some (by kernel_rfl))
 f232:=Tryz.func359.trans (congrArg some (by kernel_rfl))
 f233:=Tryz.func361.trans (congrArg some (by kernel_rfl))
 f234:=Tryz.func362.trans (congrArg some (by kernel_rfl))
 f235:=Tryz.func363.trans (congrArg some (by kernel_rfl))
 f236:=Tryz.func364.trans (congrArg some (by kernel_rfl))
 f260:=Tryz.func398.trans (congrArg some (by kernel_rfl))
 f266:=Tryz.func428.trans (congrArg some (by kernel_rfl))
 f271:=Tryz.func388.trans (congrArg some (by kernel_rfl))
 t0:=Tryz.underlying0
 a0:=Tryz.isAgg0
 z0:=Tryz.sizeOf0
 v0:=Tryz.zeroValue0
 t3:=Tryz.underlying3
 a3:=Tryz.isAgg3
 z3:=Tryz.sizeOf3
 v3:=Tryz.zeroValue3
 t4:=Tryz.underlying4
 a4:=Tryz.isAgg4
 z4:=Tryz.sizeOf4
 v4:=Tryz.zeroValue4
 t5:=Tryz.underlying5
 a5:=Tryz.isAgg5
 z5:=Tryz.sizeOf5
 v5:=Tryz.zeroValue5
 t9:=Tryz.underlying9
 a9:=Tryz.isAgg9
 z9:=Tryz.sizeOf9
 v9:=Tryz.zeroValue9
 t21:=Tryz.underlying21
 a21:=Tryz.isAgg21
 z21:=Tryz.sizeOf21
 v21:=Tryz.zeroValue21
 t46:=Tryz.underlying294
 a46:=Tryz.isAgg294
 z46:=Tryz.sizeOf294
 v46:=Tryz.zeroValue294
 t105:=Tryz.underlying332
 a105:=Tryz.isAgg332
 z105:=Tryz.sizeOf332
 v105:=Tryz.zeroValue332
 t116:=Tryz.underlying316
 a116:=Tryz.isAgg316
 z116:=Tryz.sizeOf316
 t117:=Tryz.underlying317
 a117:=Tryz.isAgg317
 z117:=Tryz.sizeOf317
 v117:=Tryz.zeroValue317
 t119:=Tryz.underlying354
 a119:=Tryz.isAgg354
 z119:=Tryz.sizeOf354
 t124:=Tryz.underlying320
 a124:=Tryz.isAgg320
 z124:=Tryz.sizeOf320
 v124:=Tryz.zeroValue320
 t138:=Tryz.underlying356
 a138:=Tryz.isAgg356
 z138:=Tryz.sizeOf356
 v138:=Tryz.zeroValue356
 t139:=Tryz.underlying357
 a139:=Tryz.isAgg357
 z139:=Tryz.sizeOf357
 v139:=Tryz.zeroValue357
 g3:=by kernel_rfl
 g4:=by kernel_rfl }
open Go.RowKit in
theorem Tryz.strings_Trim_laid(s cutset:ByteArray)(w:World)(hs:s.size≤9223372036854775807)(hcs:cutset.size < 4294967281)(hascii:∀ (j:Nat) b,cutset.data.toList[j]? = some b→b.toNat < 128):
  Calls Tryz.prog 321 #[.string s,.string cutset] w fun e w'=>e=.returned (.string ⟨(Lib.trimS s.data.toList cutset.data.toList).toArray⟩)∧Below w.heap.size w w':=Any.strings_Trim_laid Tryz.lays160 (by kernel_rfl) s cutset w hs hcs hascii
end Go.Proofs
namespace Go.Q
open Go Go.RowKit
open Go.Rx (br bd sIdx sCat sCut iQuo iRem)
noncomputable section
theorem res1{F:Nat→Prop}{w:World}{t:Ty}{x:t.α}{v:Value}(h:ValR F w t x v):ResR F w [t] (x,()) v:=⟨[v],⟨v,[],rfl,h,rfl⟩,rfl⟩
theorem res2{F:Nat→Prop}{w:World}{t u:Ty}{x:t.α}{y:u.α}{v v':Value}(h:ValR F w t x v)(k:ValR F w u y v'):ResR F w [t,u] (x,y,()) (.tuple #[v,v']):=⟨[v,v'],⟨v,[v'],rfl,h,v',[],rfl,k,rfl⟩,rfl⟩
theorem acV{F:Nat→Prop}{w:World}(s:ByteArray):ValR F w .str s (.string s):=by unfold ValR;rw[if_neg (by decide)];rfl
theorem aj3{F:Nat→Prop}{w:World}(k:IntKind)(n:Int):ValR F w (.int k) n (.int k n):=by unfold ValR;rw[if_neg (by simp[isSt])];rfl
theorem aj6{F:Nat→Prop}{w:World}:ValR F w .nul () .nilIface:=by unfold ValR;rw[if_neg (by decide)];rfl
theorem vz{F:Nat→Prop}{w:World}{s:ByteArray}{v:Value}(h:ValR F w .str s v):v=.string s:=by
 unfold ValR at h;rw[if_neg (by decide)]at h;simpa using(show [v]=_ from h)
theorem abw{F:Nat→Prop}{w:World}{k:IntKind}{n:Int}{v:Value}(h:ValR F w (.int k) n v):v=.int k n:=by
 unfold ValR at h;rw[if_neg (by simp[isSt])]at h;simpa using(show [v]=_ from h)
def B.Trim.f(lf:Nat)(a0:ByteArray)(a1:ByteArray):Option (ByteArray×Unit) :=
 if a0.size≤9223372036854775807∧a1.size < 4294967281∧a1.data.toList.all (fun b=>decide (b.toNat < 128))=true then some (⟨(Lib.trimS a0.data.toList a1.data.toList).toArray⟩,())else none
def B.Trim.E(lf:Nat):Entry:=⟨[.str,.str],[.str],fun x=>B.Trim.f lf x.1 x.2.1⟩
theorem B.Trim.ok(lf:Nat):pU Proofs.Tryz.prog TabG 321 (B.Trim.E lf):=by
 rintro ⟨s,c,⟨⟩⟩ y hy F w vals hG hF ⟨v,r,rfl,h1,v2,r2,rfl,h2,h3⟩
 cases h3
 rw[vz h1,vz h2]
 simp only[B.Trim.E,B.Trim.f]at hy
 split at hy
 ·rename_i hc
  cases hy
  refine(Proofs.Tryz.strings_Trim_laid s c w hc.1 hc.2.1 (Proofs.ascii_of_all hc.2.2)).mono ?_
  rintro e w' ⟨rfl,hb⟩
  exact⟨_,rfl,hb,res1 (acV _)⟩
 ·cases hy
def B.Atoi.f(lf:Nat)(a0:ByteArray):Option (Int×Unit×Unit):=if a0.size≤18 then(Lib.atoi a0.data.toList).map fun n=>(n,(),())else none
def B.Atoi.E(lf:Nat):Entry:=⟨[.str],[.int .i64,.nul],fun x=>B.Atoi.f lf x.1⟩
theorem B.Atoi.ok(lf:Nat):pU Proofs.Tryz.prog TabG 391 (B.Atoi.E lf):=by
 rintro ⟨s,⟨⟩⟩ y hy F w vals hG hF ⟨v,r,rfl,h1,h3⟩
 cases h3
 rw[vz h1]
 simp only[B.Atoi.E,B.Atoi.f]at hy
 split at hy
 ·rename_i hc
  obtain⟨n,hn,rfl⟩:=Option.map_eq_some_iff.1 hy
  refine(Proofs.Tryz.strconv_Atoi s n hc hn w).mono ?_
  rintro e w' ⟨rfl,t,rfl⟩
  refine⟨_,rfl,?_,res2 (aj3 _ _) aj6⟩
  unfold Lib.bytesWorld
  exact Lib.below_freeze ((Below.drew (Below.refl _ w)).alloc (Nat.le_refl _) _) (Nat.le_refl _) _
 ·cases hy
def B.Itoa.f(lf:Nat)(a0:Int):Option (ByteArray×Unit):=if -9223372036854775808≤a0∧a0≤9223372036854775807 then some (⟨(Lib.itoa a0).toArray⟩,())else none
def B.Itoa.E(lf:Nat):Entry:=⟨[.int .i64],[.str],fun x=>B.Itoa.f lf x.1⟩
theorem B.Itoa.ok(lf:Nat):pU Proofs.Tryz.prog TabG 343 (B.Itoa.E lf):=by
 rintro ⟨n,⟨⟩⟩ y hy F w vals hG hF ⟨v,r,rfl,h1,h3⟩
 cases h3
 rw[abw h1]
 simp only[B.Itoa.E,B.Itoa.f]at hy
 split at hy
 ·rename_i hc
  cases hy
  refine(Proofs.Tryz.strconv_Itoa n hc.1 hc.2 w hG).mono ?_
  rintro e w' ⟨rfl,k,os,rfl⟩
  refine⟨_,rfl,?_,res1 (acV _)⟩
  refine⟨rfl,rfl,rfl,?_,fun i hi=>?_⟩
  ·simp[Go.Sort.grow,World.drewN]
  ·simp only[Go.Sort.grow,World.drewN]
   rw[Array.getElem?_append_left hi]
 ·cases hy
def B.Repeat.f(lf:Nat)(a0:ByteArray)(a1:Int):Option (ByteArray×Unit) :=
 if 0≤a1∧a1≤9223372036854775807∧a0.size*a1.toNat≤140737488355328 then some (⟨(Lib.repeatL a0.data.toList a1.toNat).toArray⟩,())else none
def B.Repeat.E(lf:Nat):Entry:=⟨[.str,.int .i64],[.str],fun x=>B.Repeat.f lf x.1 x.2.1⟩
theorem B.Repeat.ok(lf:Nat):pU Proofs.Tryz.prog TabG 345 (B.Repeat.E lf):=by
 rintro ⟨s,c,⟨⟩⟩ y hy F w vals hG hF ⟨v,r,rfl,h1,v2,r2,rfl,h2,h3⟩
 cases h3
 rw[vz h1,abw h2]
 simp only[B.Repeat.E,B.Repeat.f]at hy
 split at hy
 ·rename_i hc
  cases hy
  have e:(c.toNat:Int)=c:=Int.toNat_of_nonneg hc.1
  have:=Proofs.Tryz.strings_Repeat s c.toNat w (by omega) hc.2.2
  rw[e]at this
  refine this.mono ?_
  rintro e w' ⟨rfl,hb⟩
  exact⟨_,rfl,hb,res1 (acV _)⟩
 ·cases hy
end
end Go.Q
namespace Go.Q
open Go Go.RowKit
def eqL{α:Type}(f:α→α→Bool):List α→List α→Bool
 | [],[]=>true
 | x::l,y::m=>f x y&&eqL f l m
 | _,_=>false
def eqT:(T:Ty)→T.α→T.α→Bool
 | .int _,x,y=>decide ((show Int from x)=y)
 | .bool,x,y=>(show Bool from x)==y
 | .str,x,y=>(show ByteArray from x).data.toList==(show ByteArray from y).data.toList
 | .unit,_,_=>true
 | .nul,_,_=>true
 | .pair a b,x,y=>eqT a x.1 y.1&&eqT b x.2 y.2
 | .sl e,x,y=>eqL (eqT e) x y
theorem aiY{α:Type}{f:α→α→Bool}(h:∀ x y,f x y=true→x=y):∀ {l m:List α},eqL f l m=true→l=m
 | [],[],_=>rfl
 | x::l,y::m,e=>by
  simp only[eqL,Bool.and_eq_true]at e
  rw[h x y e.1,aiY h e.2]
theorem aea:∀ {T:Ty} {x y:T.α},eqT T x y=true→x=y
 | .int _,x,y,h=>of_decide_eq_true h
 | .bool,x,y,h=>by simpa [eqT]using h
 | .str,x,y,h=>by
  have h':x.data.toList=y.data.toList:=by simpa [eqT]using h
  obtain⟨⟨x⟩⟩:=x
  obtain⟨⟨y⟩⟩:=y
  simp only at h'
  rw[h']
 | .unit,_,_,_=>rfl
 | .nul,_,_,_=>rfl
 | .pair a b,x,y,h=>by
  simp only[eqT,Bool.and_eq_true]at h
  exact Prod.ext (aea h.1) (aea h.2)
 | .sl e,x,y,h=>aiY (fun _ _=>aea) h
def eqTs:(ps:List Ty)→Tys ps→Tys ps→Bool
 | [],_,_=>true
 | t::ts,x,y=>eqT t x.1 y.1&&eqTs ts x.2 y.2
theorem ag3:∀ {ps:List Ty} {x y:Tys ps},eqTs ps x y=true→x=y
 | [],_,_,_=>rfl
 | t::ts,x,y,h=>by
  simp only[eqTs,Bool.and_eq_true]at h
  exact Prod.ext (aea h.1) (ag3 h.2)
def pick{β:Type}(ps:List Ty):List (Tys ps×β)→Tys ps→Option β
 | [],_=>none
 | p::l,x=>bif eqTs ps p.1 x then some p.2 else pick ps l x
def AllL{α:Type}(P:α→Prop):List α→Prop
 | []=>True
 | p::l=>P p∧AllL P l
theorem adE{β:Type}{ps:List Ty}{P:Tys ps×β→Prop}:∀ {l:List (Tys ps×β)} {x:Tys ps} {y:β},AllL P l→pick ps l x=some y→P (x,y)
 | p::l,x,y,h,e=>by
  unfold pick at e
  cases hx:eqTs ps p.1 x with
  | true=>rw[hx]at e;cases e;rw[←ag3 hx];exact h.1
  | false=>rw[hx]at e;exact adE h.2 e
theorem agf{P:Program}{G:World→Prop}{g:FuncId}{ps rs:List Ty}{f f':Tys ps→Option (Tys rs)}(h:pU P G g ⟨ps,rs,f'⟩)(hw:∀ x y,f x=some y→f' x=some y):pU P G g ⟨ps,rs,f⟩:=fun x y hy=>h x y (hw x y hy)
theorem okP{an:FuncId→FA}{tb:List (FuncId×Entry)}{lf:Nat}(hl:TabOK Proofs.Tryz.prog TabG (lookT tb))(hsp:AnnsOK Proofs.Tryz.prog an){g:FuncId}{ps rs:List Ty}{f:Tys ps→Option (Tys rs)}{l:List (Tys ps×Tys rs)}(hf:∀ x,f x=pick ps l x)
  {R:Tys ps→Option (Tys rs)} (hR:∀ x,R x=runQ Proofs.Tryz.prog an noLs (lookT tb) (lf+40) 14 6 g ps rs x) (h:AllL (fun p=>R p.1=some p.2) l):Ok g ⟨ps,rs,f⟩ :=
 agf (okT (E:=⟨ps,rs,R⟩) hl hsp hR) fun x y hy=>adE (P:=fun p=>R p.1=some p.2) h ((hf x).symm.trans hy)
end Go.Q
namespace Go.N
open Go Go.Q Go.Rx
def isDig(b:UInt8):Bool:=decide (48≤b.toNat∧b.toNat≤57)
def dig(b:UInt8):Nat:=b.toNat-48
def dch(d:Nat):UInt8:=UInt8.ofNat (48+d)
theorem aae{d:Nat}(h:d < 10):(dch d).toNat=48+d:=by
 unfold dch
 rw[UInt8.toNat_ofNat']
 omega
theorem aaU{d:Nat}(h:d < 10):isDig (dch d)=true:=by
 unfold isDig
 rw[aae h]
 simp;omega
theorem ad6{d:Nat}(h:d < 10):dig (dch d)=d:=by unfold dig;rw[aae h];omega
theorem ag0{b:UInt8}(h:isDig b=true):dch (dig b)=b:=by
 unfold isDig at h
 simp only[decide_eq_true_eq]at h
 apply UInt8.toNat_inj.1
 unfold dch dig
 rw[UInt8.toNat_ofNat']
 omega
theorem ad7{b:UInt8}(h:isDig b=true):dig b < 10:=by
 unfold isDig at h
 simp only[decide_eq_true_eq]at h
 unfold dig;omega
def dv(l:List UInt8):Nat:=l.foldl (fun a b=>a*10+dig b) 0
theorem aiW:dv []=0:=rfl
theorem wV(l:List UInt8)(b:UInt8):dv (l++[b])=dv l*10+dig b:=by simp[dv]
theorem aaB{p:List UInt8→Prop}(l:List UInt8)(h0:p [])(hs:∀ l b,p l→p (l++[b])):p l:=by
 induction h:l.length generalizing l with
 | zero=>rw[List.length_eq_zero_iff.1 h];exact h0
 | succ n ih =>
  have hn:l≠[]:=by intro e;subst e;simp at h
  rw[←List.dropLast_concat_getLast hn]
  exact hs _ _ (ih _ (by rw[List.length_dropLast];omega))
theorem agd(l:List UInt8):∀ m:List UInt8,dv (l++m)=dv l*10 ^ m.length+dv m:=by
 intro m
 refine aaB (p:=fun m=>dv (l++m)=dv l*10 ^ m.length+dv m) m (by simp[aiW]) fun m b ih=>?_
 rw[←List.append_assoc,wV,wV,ih,List.length_append,List.length_singleton,Nat.pow_succ,Nat.add_mul,Nat.mul_assoc]
 omega
theorem aiV:∀ l:List UInt8,l.all isDig=true→dv l < 10 ^ l.length:=by
 intro l
 refine aaB (p:=fun l=>l.all isDig=true→dv l < 10 ^ l.length) l (by simp[aiW]) fun l b ih h=>?_
 rw[List.all_append,Bool.and_eq_true]at h
 have h1:=ih h.1
 have h2:=ad7 (b:=b) (by simpa using h.2)
 rw[wV,List.length_append,List.length_singleton,Nat.pow_succ]
 omega
theorem mJ{n:Nat}(h:n < 10):Lib.decDigits n=[dch n]:=by rw[Lib.decDigits,dif_pos h];rfl
theorem wS{n:Nat}(h:¬n < 10):Lib.decDigits n=Lib.decDigits (n / 10)++[dch (n % 10)]:=by rw[Lib.decDigits,dif_neg h];rfl
theorem alS(n:Nat):Lib.decDigits n≠[]:=by
 by_cases h:n < 10
 ·rw[mJ h];simp
 ·rw[wS h];simp
theorem yM(n:Nat):(Lib.decDigits n).all isDig=true:=by
 induction n using Nat.strongRecOn with
 | _ n ih =>
  by_cases h:n < 10
  ·rw[mJ h];simp[aaU h]
  ·rw[wS h,List.all_append,ih (n / 10) (by omega)]
   simp[aaU (show n % 10 < 10 by omega)]
theorem acj(n:Nat):dv (Lib.decDigits n)=n:=by
 induction n using Nat.strongRecOn with
 | _ n ih =>
  by_cases h:n < 10
  ·rw[mJ h];simp[dv,ad6 h]
  ·rw[wS h,wV,ih (n / 10) (by omega),ad6 (by omega)];omega
theorem ach{n:Nat}(h:n≠0):∃ b r,Lib.decDigits n=b::r∧b≠48:=by
 induction n using Nat.strongRecOn with
 | _ n ih =>
  by_cases h10:n < 10
  ·refine⟨dch n,[],mJ h10,?_⟩
   intro e
   have:=congrArg UInt8.toNat e
   rw[aae h10]at this
   have h48:(48:UInt8).toNat=48:=rfl
   omega
  ·obtain⟨b,r,e,hb⟩:=ih (n / 10) (by omega) (by omega)
   exact⟨b,r++[dch (n % 10)],by rw[wS h10,e];rfl,hb⟩
theorem agb{l:List UInt8}(h:l.all isDig=true)(hn:l≠[])(hh:l.head?≠some 48∨l.length=1):l=Lib.decDigits (dv l):=by
 revert h hn hh
 refine aaB (p:=fun l=>l.all isDig=true→l≠[]→(l.head?≠some 48∨l.length=1)→l=Lib.decDigits (dv l)) l (fun _ h=>absurd rfl h) fun l b ih h _ hh=>?_
 rw[List.all_append,Bool.and_eq_true]at h
 have hb:isDig b=true:=by simpa using h.2
 have hd:=ad7 hb
 by_cases hl:l=[]
 ·subst hl
  rw[List.nil_append,show dv [b]=dig b by simp[dv],mJ hd,ag0 hb]
 ·have hh':l.head?≠some 48:=by
   rcases hh with hh | hh
   ·cases l with
    | nil=>exact absurd rfl hl
    | cons x r=>exact hh
   ·rw[List.length_append,List.length_singleton]at hh
    exact absurd (List.length_eq_zero_iff.1 (by omega)) hl
  have e:=ih h.1 hl (.inl hh')
  have hpos:dv l≠0:=by
   intro e0
   rw[e0,mJ (by omega)]at e
   rw[e]at hh'
   exact hh' rfl
  rw[wV,wS (by omega),show(dv l*10+dig b) / 10=dv l by omega,show(dv l*10+dig b) % 10=dig b by omega,←e,ag0 hb]
theorem oG:∀ (k n:Nat),n < 10 ^ (k+1)→(Lib.decDigits n).length≤k+1
 | 0,n,h=>by rw[mJ (by simpa using h)];simp
 | k+1,n,h=>by
  by_cases h10:n < 10
  ·rw[mJ h10];simp
  ·rw[wS h10,List.length_append,List.length_singleton]
   have:n / 10 < 10 ^ (k+1):=by rw[Nat.pow_succ]at h;omega
   have:=oG k (n / 10) this
   omega
theorem pG:Lib.decDigits 0=[48]:=mJ (by omega)
theorem vS(n:Nat):(Lib.decDigits n).head?≠some 45:=by
 have h:=yM n
 cases e:Lib.decDigits n with
 | nil=>simp
 | cons b r =>
  rw[e,List.all_cons,Bool.and_eq_true]at h
  intro h45
  simp only[List.head?_cons,Option.some.injEq]at h45
  subst h45
  have:isDig 45=false:=rfl
  rw[this]at h
  cases h.1
def body(l:List UInt8):List UInt8:=if l.head? = some 45 then l.tail else l
def neg(l:List UInt8):Bool:=decide (l.head? = some 45)
def can(l:List UInt8):Bool:=decide (l=[48])||(decide (body l≠[])&&(decide ((body l).head?≠some 48)&&(body l).all isDig))
def iv(l:List UInt8):Int:=if neg l=true then -(dv (body l):Int)else(dv (body l):Int)
theorem jW(z:Int):can (Lib.itoa z)=true:=by
 unfold can Lib.itoa body
 by_cases h:z < 0
 ·rw[if_pos h]
  obtain⟨b,r,e,hb⟩:=ach (show z.natAbs≠0 by omega)
  have ha:=yM z.natAbs
  rw[e]at ha⊢
  simp only[List.head?_cons,if_true,List.tail_cons]
  simp[hb,ha]
 ·rw[if_neg h]
  by_cases h0:z=0
  ·subst h0
   rw[show(0:Int).toNat=0 from rfl,pG]
   simp
  ·rw[if_neg (vS _)]
   obtain⟨b,r,e,hb⟩:=ach (show z.toNat≠0 by omega)
   have ha:=yM z.toNat
   rw[e]at ha⊢
   simp[hb,ha]
theorem dX(z:Int):iv (Lib.itoa z)=z:=by
 unfold iv neg body Lib.itoa
 by_cases h:z < 0
 ·rw[if_pos h]
  simp only[List.head?_cons,if_true,List.tail_cons,decide_true,acj]
  omega
 ·rw[if_neg h,if_neg (vS _),decide_eq_false (vS _),if_neg (by simp),acj]
  omega
theorem aam{l:List UInt8}(h:can l=true):l=Lib.itoa (iv l):=by
 unfold can at h
 rw[Bool.or_eq_true]at h
 rcases h with h | h
 ·have e:l=[48]:=by simpa using h
  subst e
  have:iv [48]=0:=by decide
  rw[this]
  unfold Lib.itoa
  rw[if_neg (by omega)]
  exact pG.symm
 ·simp only[Bool.and_eq_true,decide_eq_true_eq]at h
  obtain⟨h1,h2,h3⟩:=h
  have e:=agb h3 h1 (.inl h2)
  have hpos:dv (body l)≠0:=by
   intro e0
   rw[e0,pG]at e
   rw[e]at h2
   exact h2 rfl
  unfold iv Lib.itoa
  by_cases hn:l.head? = some 45
  ·have hneg:neg l=true:=by unfold neg;exact decide_eq_true hn
   rw[if_pos hneg,if_pos (by omega),show(-(dv (body l):Int)).natAbs=dv (body l) by omega,←e]
   unfold body
   rw[if_pos hn]
   cases l with
   | nil=>simp at hn
   | cons b r=>simp at hn;subst hn;rfl
  ·have hneg:¬neg l=true:=by unfold neg;rw[decide_eq_false hn];simp
   rw[if_neg hneg,if_neg (by omega),show((dv (body l):Int)).toNat=dv (body l) by omega,←e]
   unfold body
   rw[if_neg hn]
theorem al1{l m:List UInt8}(h1:can l=true)(h2:can m=true)(h:iv l=iv m):l=m:=by rw[aam h1,aam h2,h]
theorem lS{l:List UInt8}(h:can l=true):(body l).all isDig=true∧body l≠[]∧l≠[]:=by
 unfold can at h
 rw[Bool.or_eq_true]at h
 rcases h with h | h
 ·have e:l=[48]:=by simpa using h
  subst e
  exact⟨by decide,by decide,by simp⟩
 ·simp only[Bool.and_eq_true,decide_eq_true_eq]at h
  refine⟨h.2.2,h.1,?_⟩
  rintro rfl
  exact h.1 rfl
def nlen(l:List UInt8):Nat:=(body l).length
theorem abQ(l:List UInt8):nlen l≤l.length:=by unfold nlen body;split<;>simp
theorem vX(l:List UInt8):l.length≤nlen l+1:=by unfold nlen body;split<;>simp<;>omega
def chk(l:List UInt8):Int:=if can l=true then(if nlen l > 4096 then 10 else 0)else 3
def num(l:List UInt8):Int:=if chk l≠0 then chk l else if nlen l > 100 then 10 else 0
theorem nR{l:List UInt8}:chk l=0↔can l=true∧nlen l≤4096:=by
 unfold chk
 split
 ·split
  ·simp;omega
  ·simp_all
 ·simp_all
theorem rO{l:List UInt8}:num l=0↔can l=true∧nlen l≤100:=by
 unfold num
 split
 ·rename_i h
  constructor
  ·intro e;exact absurd e h
  ·intro e;exact absurd (nR.2 ⟨e.1,by omega⟩) h
 ·rename_i h
  have:=nR.1 (Classical.not_not.1 h)
  split
  ·simp;intro;omega
  ·simp;exact⟨this.1,by omega⟩
theorem ahV{l:List UInt8}(h:l.all isDig=true)(hn:l≠[]):Lib.atoi l=some (dv l:Int):=by
 have key:∀ (m:List UInt8) (acc:Nat),m.all isDig=true→Lib.decFrom acc m=some (m.foldl (fun a b=>a*10+dig b) acc):=by
  intro m
  induction m with
  | nil=>intro acc _;rfl
  | cons b r ih =>
   intro acc ha
   rw[List.all_cons,Bool.and_eq_true]at ha
   have hb:=ha.1
   unfold isDig at hb
   simp only[decide_eq_true_eq]at hb
   rw[Lib.decFrom,Lib.digitVal,if_pos hb,List.foldl_cons]
   exact ih _ ha.2
 cases l with
 | nil=>exact absurd rfl hn
 | cons b r =>
  have ha:=h
  rw[List.all_cons,Bool.and_eq_true]at ha
  have hb:=ha.1
  have n45:(b==45)=false:=by
   rw[beq_eq_false_iff_ne];rintro rfl
   have:isDig 45=false:=rfl
   rw[this]at hb;cases hb
  have n43:(b==43)=false:=by
   rw[beq_eq_false_iff_ne];rintro rfl
   have:isDig 43=false:=rfl
   rw[this]at hb;cases hb
  rw[Lib.atoi,n45,n43]
  simp only[Bool.false_eq_true,if_false]
  rw[Lib.decNat,if_neg (by simp),key _ 0 h]
  rfl
theorem dropWhile_nil{α:Type}{p:α→Bool}:∀ {l:List α},l.dropWhile p=[]↔∀ x∈l,p x=true
 | []=>by simp
 | x::l=>by
  rw[List.dropWhile_cons]
  by_cases h:p x=true
  ·rw[if_pos h,dropWhile_nil (l:=l)];simp[h]
  ·rw[if_neg h];simp[h]
theorem adO(l cs:List UInt8):Lib.trimS l cs=[]↔l.all (cs.contains ·)=true:=by
 unfold Lib.trimS Lib.trimLeftS Lib.trimRightS
 constructor
 ·intro h
  rw[dropWhile_nil]at h
  have h1:(l.reverse.dropWhile (cs.contains ·))=[]:=by
   cases e:l.reverse.dropWhile (cs.contains ·)with
   | nil=>rfl
   | cons b r =>
    have hb:=h b (by rw[e];simp)
    have:=List.head?_dropWhile_not (cs.contains ·) l.reverse
    rw[e]at this
    simp at this hb
    exact absurd hb this
  rw[dropWhile_nil]at h1
  exact List.all_eq_true.2 fun b hb=>h1 b (by simpa using hb)
 ·intro h
  have h1:(l.reverse.dropWhile (cs.contains ·))=[]:=by
   rw[dropWhile_nil]
   intro b hb
   exact List.all_eq_true.1 h b (by simpa using hb)
  rw[h1];rfl
theorem aiU:∀ n:Fin 256,([48,49,50,51,52,53,54,55,56,57]:List UInt8).contains (UInt8.ofNat n.val)=isDig (UInt8.ofNat n.val):=by decide +kernel
theorem ac3(b:UInt8):([48,49,50,51,52,53,54,55,56,57]:List UInt8).contains b=isDig b:=by
 have:=aiU ⟨b.toNat,b.toNat_lt⟩
 simpa using this
end Go.N
namespace Go.Q
open Go
abbrev yI:Ty:=.pair .bool (.pair .str (.pair .str .unit))
abbrev yV:Ty:=.pair yI (.pair yI .unit)
abbrev yB:Ty:=.pair .bool (.pair (.sl (.int .i64)) .unit)
abbrev yX:Ty:=.pair (.int .i64) (.pair .str .unit)
abbrev yS:Ty:=.pair yX (.pair yX .unit)
abbrev TI:Type:=Bool×(ByteArray×(ByteArray×Unit))
abbrev TV:Type:=TI×(TI×Unit)
abbrev TB:Type:=Bool×((List Int)×Unit)
abbrev TX:Type:=Int×(ByteArray×Unit)
abbrev TS:Type:=TX×(TX×Unit)
end Go.Q
