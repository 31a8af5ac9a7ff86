import Derived.CallsIn
import Derived.OrdersIn
import Derived.LoopNIn
import Derived.RangeFuncIn
import Derived.RangeFuncRecord
import Derived.RangeFuncOwn
import Derived.Below
import Derived.Laws.Rows
import Derived.Laws.Cells
import Derived.Laws.World
import Derived.Laws.CopyRow
import Derived.Calls
import Derived.Orders
import Derived.LoopN
import Derived.Laws.StructEq
import Derived.Laws.AppendOwn
import Derived.Laws.MakeOwn
set_option linter.unusedVariables false
set_option linter.unusedSimpArgs false
set_option linter.unusedSectionVars false
namespace Go.Q
open Go Go.RowKit
inductive EX where
 | mk (i:Int) (s:ByteArray) (j:Int) (l:List EX)
def EX.i:EX→Int
 | .mk i _ _ _=>i
def EX.s:EX→ByteArray
 | .mk _ s _ _=>s
def EX.j:EX→Int
 | .mk _ _ j _=>j
def EX.l:EX→List EX
 | .mk _ _ _ l=>l
inductive CX where
 | mk (i:Int) (l:List EX) (m:List CX)
def CX.i:CX→Int
 | .mk i _ _=>i
def CX.l:CX→List EX
 | .mk _ l _=>l
def CX.m:CX→List CX
 | .mk _ _ m=>m
inductive Ty where
 | int (k:IntKind)
 | bool
 | str
 | unit
 | nul
 | pair (a b:Ty)
 | sl (e:Ty)
 | rc (c:Bool)
deriving DecidableEq
@[reducible] def Ty.α : Ty → Type
 | .int _=>Int
 | .bool=>Bool
 | .str=>ByteArray
 | .unit=>Unit
 | .nul=>Unit
 | .pair a b=>a.α×b.α
 | .sl e=>List e.α
 | .rc false=>EX
 | .rc true=>CX
def Ty.n:Ty→Nat
 | .int _=>1
 | .bool=>1
 | .str=>1
 | .unit=>0
 | .nul=>1
 | .pair a b=>a.n+b.n
 | .sl _=>1
 | .rc c=>bif c then 3 else 4
inductive SV where
 | v (x:Value)
 | ptr (b o:Nat)
 | sl (T:Ty) (l:List T.α)
 | ep (T:Ty) (x:T.α) (o:Nat)
 | row (b:Nat)
 | rp (b i n o:Nat)
 | part (b lo n k:Nat)
 | mp (b:Nat)
 | csl (b n k:Nat)
 | ptc (b lo n k:Nat)
 | agg (cs:List SV)
 | tup (cs:List SV)
 | fn (g:FuncId) (first cap:List SV)
 | yld (i:Nat)
 | any
def cellsOf:(T:Ty)→T.α→List SV
 | .int k,x=>[.v (.int k x)]
 | .bool,x=>[.v (.bool x)]
 | .str,x=>[.v (.string x)]
 | .unit,_=>[]
 | .nul,_=>[.v .nilIface]
 | .pair a b,x=>cellsOf a x.1++cellsOf b x.2
 | .sl e,l=>[.sl e l]
 | .rc false,x=>[.v (.int .i64 (EX.i x)),.v (.string (EX.s x)),.v (.int .i64 (EX.j x)),.sl (.rc false) (EX.l x)]
 | .rc true,x=>[.v (.int .i64 (CX.i x)),.sl (.rc false) (CX.l x),.sl (.rc true) (CX.m x)]
def slCe(e:Ty):SV→Option (List e.α)
 | .sl T l=>if h:T=e then some (h▸l)else none
 | .v (.slice none 0 0)=>some []
 | _=>none
def ofC:(T:Ty)→List SV→Option (T.α×List SV)
 | .int k,ss=>match ss with
  | .v (.int k' x)::r=>if k'=k then some (x,r)else none
  | _=>none
 | .bool,ss=>match ss with
  | .v (.bool x)::r=>some (x,r)
  | _=>none
 | .str,ss=>match ss with
  | .v (.string x)::r=>some (x,r)
  | _=>none
 | .unit,ss=>some ((),ss)
 | .nul,ss=>match ss with
  | .v .nilIface::r=>some ((),r)
  | _=>none
 | .pair a b,ss=>match ofC a ss with
  | some (x,r)=>match ofC b r with
   | some (y,r')=>some ((x,y),r')
   | none=>none
  | none=>none
 | .sl e,ss=>match ss with
  | .sl T l::r=>if h:T=e then some ((h▸l:List e.α),r)else none
  | .v (.slice none 0 0)::r=>some (([]:List e.α),r)
  | _=>none
 | .rc false,ss=>match ss with
  | .v (.int .i64 i)::.v (.string s)::.v (.int .i64 j)::a::r=>match slCe (.rc false) a with
   | some l=>some (EX.mk i s j l,r)
   | none=>none
  | _=>none
 | .rc true,ss=>match ss with
  | .v (.int .i64 i)::a::b::r=>match slCe (.rc false) a with
   | some l=>match slCe (.rc true) b with
    | some m=>some (CX.mk i l m,r)
    | none=>none
   | none=>none
  | _=>none
structure Place where
 blk:Nat
 off:Nat
 len:Nat
 cap:Nat
 nil:Bool
 ord:Nat→Nat
def Place.val(p:Place):Value:=bif p.nil then .slice none 0 0 else .slice (some ⟨p.blk,p.off,none⟩) p.len p.cap
abbrev Loc:=Nat→Place
def PartV(p:Place)(lo n k:Nat)(v:Value):Prop :=
 (p.nil=true∧lo=0∧n=0∧v=.slice none 0 0)∨(p.nil=false∧∃ (a:Addr) (c:Nat),v=.slice (some a) n c∧n≤c∧((a=⟨p.blk,p.off+lo*k,none⟩∧lo+c=p.cap)∨(n=0∧lo≠0)))
def PtV(p:Place)(lo n k:Nat)(v:Value):Prop:=p.nil=false∧∃ c:Nat,v=.slice (some ⟨p.blk,p.off+lo*k,none⟩) n c∧n≤c∧lo+c≤p.cap
inductive DX(F:Nat→Prop)(w:World):EX ⊕ List EX→List Value→Prop
 | ex (x:EX) (v:Value):DX F w (.inr x.l) [v]→DX F w (.inl x) [.int .i64 x.i,.string x.s,.int .i64 x.j,v]
 | nil:DX F w (.inr []) [.slice none 0 0]
 | sl (l:List EX) (b o cap:Nat) (ds:Nat→List Value):F b→l.length≤cap→(∀ (i:Nat) (x:EX),l[i]? = some x→DX F w (.inl x) (ds i))→
   (∀ (i:Nat) (x:EX),l[i]? = some x→∀ (j:Nat) (d:Value),(ds i)[j]? = some d→w.cell? ⟨b,o+(i*4+j),none⟩=some d)→DX F w (.inr l) [.slice (some ⟨b,o,none⟩) l.length cap]
inductive DY(F:Nat→Prop)(w:World):CX ⊕ List CX→List Value→Prop
 | cd (x:CX) (u v:Value):DX F w (.inr x.l) [u]→DY F w (.inr x.m) [v]→DY F w (.inl x) [.int .i64 x.i,u,v]
 | nil:DY F w (.inr []) [.slice none 0 0]
 | sl (l:List CX) (b o cap:Nat) (ds:Nat→List Value):F b→l.length≤cap→(∀ (i:Nat) (x:CX),l[i]? = some x→DY F w (.inl x) (ds i))→
   (∀ (i:Nat) (x:CX),l[i]? = some x→∀ (j:Nat) (d:Value),(ds i)[j]? = some d→w.cell? ⟨b,o+(i*3+j),none⟩=some d)→DY F w (.inr l) [.slice (some ⟨b,o,none⟩) l.length cap]
def DR(F:Nat→Prop)(w:World):(T:Ty)→T.α→List Value→Prop
 | .int k,x,cs=>cs=[.int k x]
 | .bool,x,cs=>cs=[.bool x]
 | .str,x,cs=>cs=[.string x]
 | .unit,_,cs=>cs=[]
 | .nul,_,cs=>cs=[.nilIface]
 | .pair a b,x,cs=>∃ c d,cs=c++d∧DR F w a x.1 c∧DR F w b x.2 d
 | .sl e,l,cs=>∃ v,cs=[v]∧((l=[]∧v=.slice none 0 0)∨∃ b o cap:Nat,v=.slice (some ⟨b,o,none⟩) l.length cap∧F b∧l.length≤cap∧
   ∀ (i:Nat) (x:e.α),l[i]? = some x→∃ ds:List Value,DR F w e x ds∧∀ (j:Nat) (d:Value),ds[j]? = some d→w.cell? ⟨b,o+(i*e.n+j),none⟩=some d)
 | .rc false,x,cs=>DX F w (.inl x) cs
 | .rc true,x,cs=>DY F w (.inl x) cs
theorem dsl_all{α:Type}{l:List α}{P:α→List Value→Prop}{Q:Nat→Nat→Value→Prop}(h:∀ (i:Nat) (x:α),l[i]? = some x→∃ ds:List Value,P x ds∧∀ (j:Nat) (d:Value),ds[j]? = some d→Q i j d):
  ∃ f:Nat→List Value,(∀ (i:Nat) (x:α),l[i]? = some x→P x (f i))∧∀ (i:Nat) (x:α),l[i]? = some x→∀ (j:Nat) (d:Value),(f i)[j]? = some d→Q i j d:=by
 have hd:∀ i:Nat,∃ ds:List Value,∀ x:α,l[i]? = some x→P x ds∧∀ (j:Nat) (d:Value),ds[j]? = some d→Q i j d:=fun i=>by
  cases hx:l[i]? with
  | none=>exact⟨[],fun x h=>by cases h⟩
  | some y =>
   obtain⟨ds,h1⟩:=h i y hx
   exact⟨ds,fun x h=>by cases h;exact h1⟩
 exact⟨fun i=>(hd i).choose,fun i x hx=>((hd i).choose_spec x hx).1,fun i x hx=>((hd i).choose_spec x hx).2⟩
theorem dr_ex{F:Nat→Prop}{w:World}{l:List EX}{v:Value}:DR F w (.sl (.rc false)) l [v]↔DX F w (.inr l) [v]:=by
 constructor
 ·rintro ⟨v',e,h⟩
  cases e
  rcases h with⟨rfl,rfl⟩ | ⟨b,o,cap,rfl,hF,hc,h⟩
  ·exact .nil
  ·obtain⟨f,h1,h2⟩:=dsl_all (P:=fun x ds=>DX F w (.inl x) ds) h
   exact .sl l b o cap f hF hc h1 h2
 ·intro h
  refine⟨v,rfl,?_⟩
  cases h with
  | nil=>exact .inl ⟨rfl,rfl⟩
  | sl _ b o cap ds hF hc h1 h2=>exact .inr ⟨b,o,cap,rfl,hF,hc,fun i x hx=>⟨ds i,h1 i x hx,h2 i x hx⟩⟩
theorem dr_cd{F:Nat→Prop}{w:World}{l:List CX}{v:Value}:DR F w (.sl (.rc true)) l [v]↔DY F w (.inr l) [v]:=by
 constructor
 ·rintro ⟨v',e,h⟩
  cases e
  rcases h with⟨rfl,rfl⟩ | ⟨b,o,cap,rfl,hF,hc,h⟩
  ·exact .nil
  ·obtain⟨f,h1,h2⟩:=dsl_all (P:=fun x ds=>DY F w (.inl x) ds) h
   exact .sl l b o cap f hF hc h1 h2
 ·intro h
  refine⟨v,rfl,?_⟩
  cases h with
  | nil=>exact .inl ⟨rfl,rfl⟩
  | sl _ b o cap ds hF hc h1 h2=>exact .inr ⟨b,o,cap,rfl,hF,hc,fun i x hx=>⟨ds i,h1 i x hx,h2 i x hx⟩⟩
theorem DR.len{F:Nat→Prop}{w:World}:∀ {T:Ty} {x:T.α} {cs:List Value},DR F w T x cs→cs.length=T.n
 | .int k,x,cs,h=>by rw[show cs=_ from h];rfl
 | .bool,x,cs,h=>by rw[show cs=_ from h];rfl
 | .str,x,cs,h=>by rw[show cs=_ from h];rfl
 | .unit,x,cs,h=>by rw[show cs=_ from h];rfl
 | .nul,x,cs,h=>by rw[show cs=_ from h];rfl
 | .pair a b,x,cs,h=>by
  obtain⟨c,d,rfl,h1,h2⟩:=h
  rw[List.length_append,DR.len h1,DR.len h2];rfl
 | .sl e,l,cs,h=>by
  obtain⟨v,rfl,_⟩:=h;rfl
 | .rc false,x,cs,h=>by cases (show DX F w (.inl x) cs from h);rfl
 | .rc true,x,cs,h=>by cases (show DY F w (.inl x) cs from h);rfl
structure KeepsF(F:Nat→Prop)(w w':World):Prop where
 f:∀ i,F i→w'.heap[i]? = w.heap[i]?
 d:∀ df:Nat,w.heap[df]? = some (Obj.deferred (some []))→w'.heap[df]? = some (Obj.deferred (some []))
 s:w.heap.size≤w'.heap.size
theorem KeepsF.refl(F:Nat→Prop)(w:World):KeepsF F w w:=⟨fun _ _=>rfl,fun _ h=>h,Nat.le_refl _⟩
theorem KeepsF.trans{F:Nat→Prop}{a b c:World}(h:KeepsF F a b)(k:KeepsF F b c):KeepsF F a c:=⟨fun i hi=>(k.f i hi).trans (h.f i hi),fun df hd=>k.d df (h.d df hd),Nat.le_trans h.s k.s⟩
def gtN:Nat:=1000000000
def gtab(g:Nat):List Int:=bif g==gtN&&Nat.blt gtN 1000000000 then [0,0,1,2,2,2,2,2]else []
def KeepsC(F:Nat→Prop)(w w':World):Prop:=∀ i,F i→w'.heap[i]? = w.heap[i]?
instance {F:Nat→Prop} {w w':World}:Coe (KeepsF F w w') (KeepsC F w w'):=⟨KeepsF.f⟩
theorem KeepsC.cell{F:Nat→Prop}{w w':World}(h:KeepsC F w w'){b:Nat}(hb:F b)(o:Nat):w'.cell? ⟨b,o,none⟩=w.cell? ⟨b,o,none⟩:=by
 simp only[World.cell?,h b hb]
theorem DX.mono{F F':Nat→Prop}{w w':World}(hF:∀ i,F i→F' i)(hk:KeepsC F w w'){x:EX ⊕ List EX}{cs:List Value}(h:DX F w x cs):DX F' w' x cs:=by
 induction h with
 | ex x v _ ih=>exact .ex x v ih
 | nil=>exact .nil
 | sl l b o cap ds hb hc _ h2 ih=>exact .sl l b o cap ds (hF b hb) hc ih fun i x hx j d hd=>(hk.cell hb _).trans (h2 i x hx j d hd)
theorem DY.mono{F F':Nat→Prop}{w w':World}(hF:∀ i,F i→F' i)(hk:KeepsC F w w'){x:CX ⊕ List CX}{cs:List Value}(h:DY F w x cs):DY F' w' x cs:=by
 induction h with
 | cd x u v h _ ih=>exact .cd x u v (h.mono hF hk) ih
 | nil=>exact .nil
 | sl l b o cap ds hb hc _ h2 ih=>exact .sl l b o cap ds (hF b hb) hc ih fun i x hx j d hd=>(hk.cell hb _).trans (h2 i x hx j d hd)
theorem DR.mono{F F':Nat→Prop}{w w':World}(hF:∀ i,F i→F' i)(hk:KeepsC F w w'):∀ {T:Ty} {x:T.α} {cs:List Value},DR F w T x cs→DR F' w' T x cs
 | .int k,x,cs,h=>h
 | .bool,x,cs,h=>h
 | .str,x,cs,h=>h
 | .unit,x,cs,h=>h
 | .nul,x,cs,h=>h
 | .pair a b,x,cs,h=>by
  obtain⟨c,d,e,h1,h2⟩:=h
  exact⟨c,d,e,h1.mono hF hk,h2.mono hF hk⟩
 | .sl e,l,cs,h=>by
  obtain⟨v,e1,h | ⟨b,o,cap,e2,hb,hc,h⟩⟩:=h
  ·exact⟨v,e1,.inl h⟩
  ·refine⟨v,e1,.inr ⟨b,o,cap,e2,hF b hb,hc,fun i x hx=>?_⟩⟩
   obtain⟨ds,h1,h2⟩:=h i x hx
   exact⟨ds,h1.mono hF hk,fun j d hd=>(hk.cell hb _).trans (h2 j d hd)⟩
 | .rc false,x,cs,h=>DX.mono hF hk h
 | .rc true,x,cs,h=>DY.mono hF hk h
inductive VR(B:Loc)(F:Nat→Prop)(w:World):SV→Value→Prop
 | v (x:Value):VR B F w (.v x) x
 | ptr (b o:Nat):VR B F w (.ptr b o) (.pointer (some ⟨(B b).blk,(B b).off+o,none⟩))
 | sl (T:Ty) (l:List T.α) (v:Value):DR F w (.sl T) l [v]→VR B F w (.sl T l) v
 | ep (T:Ty) (x:T.α) (o b a:Nat) (cs:List Value):F b→DR F w T x cs→(∀ (j:Nat) (d:Value),cs[j]? = some d→w.cell? ⟨b,a+j,none⟩=some d)→VR B F w (.ep T x o) (.pointer (some ⟨b,a+o,none⟩))
 | row (b:Nat):VR B F w (.row b) (B b).val
 | rp (b i n o:Nat):VR B F w (.rp b i n o) (.pointer (some ⟨(B b).blk,(B b).off+(i*n+o),none⟩))
 | part (b lo n k:Nat) (v:Value):PartV (B b) lo n k v→VR B F w (.part b lo n k) v
 | mp (b:Nat):VR B F w (.mp b) (.map (some (B b).blk))
 | csl (b n k:Nat):VR B F w (.csl b n k) (.slice (some ⟨(B b).blk,(B b).off,none⟩) n n)
 | ptc (b lo n k:Nat) (v:Value):PtV (B b) lo n k v→VR B F w (.ptc b lo n k) v
 | agg (cs:List SV) (ds:List Value):cs.length=ds.length→(∀ (i:Nat) (s:SV) (d:Value),cs[i]? = some s→ds[i]? = some d→VR B F w s d)→VR B F w (.agg cs) (.agg ds.toArray)
 | tup (cs:List SV) (ds:List Value):cs.length=ds.length→(∀ (i:Nat) (s:SV) (d:Value),cs[i]? = some s→ds[i]? = some d→VR B F w s d)→VR B F w (.tup cs) (.tuple ds.toArray)
 | fn (g:FuncId) (fs cs:List SV) (fd cd:List Value):fs.length=fd.length→(∀ (i:Nat) (s:SV) (d:Value),fs[i]? = some s→fd[i]? = some d→VR B F w s d)→
   cs.length=cd.length→(∀ (i:Nat) (s:SV) (d:Value),cs[i]? = some s→cd[i]? = some d→VR B F w s d)→VR B F w (.fn g fs cs) (.func (.func g) fd.toArray cd.toArray)
 | yld (i:Nat):VR B F w (.yld i) (.func (.yield (B i).blk) #[] #[])
 | any (x:Value):VR B F w .any x
def VRs(B:Loc)(F:Nat→Prop)(w:World)(ss:List SV)(ds:List Value):Prop :=
 ss.length=ds.length∧∀ (i:Nat) (s:SV) (d:Value),ss[i]? = some s→ds[i]? = some d→VR B F w s d
section
variable {B B':Loc}{F F':Nat→Prop}{w w':World}
theorem VRs.nil:VRs B F w [] []:=⟨rfl,fun i s d h=>by simp at h⟩
theorem VRs.cons{s:SV}{d:Value}{ss:List SV}{ds:List Value}(h:VR B F w s d)(hs:VRs B F w ss ds):VRs B F w (s::ss) (d::ds) :=
 ⟨by simp[hs.1],fun i s' d' h1 h2=>by
  cases i with
  | zero=>simp at h1 h2;subst h1;subst h2;exact h
  | succ i=>simp at h1 h2;exact hs.2 i s' d' h1 h2⟩
theorem VRs.head{s:SV}{ss:List SV}{ds:List Value}(h:VRs B F w (s::ss) ds):∃ d ds',ds=d::ds'∧VR B F w s d∧VRs B F w ss ds':=by
 cases ds with
 | nil=>have:=h.1;simp at this
 | cons d ds'=>exact⟨d,ds',rfl,h.2 0 s d rfl rfl,by have:=h.1;simpa using this,fun i s' d' h1 h2=>h.2 (i+1) s' d' (by simpa using h1) (by simpa using h2)⟩
theorem VRs.append{ss ss':List SV}{ds ds':List Value}(h:VRs B F w ss ds)(k:VRs B F w ss' ds'):VRs B F w (ss++ss') (ds++ds'):=by
 induction ss generalizing ds with
 | nil =>
  have:ds=[]:=by have:=h.1;simpa using this.symm
  subst this;exact k
 | cons s ss ih =>
  obtain⟨d,ds1,rfl,h1,h2⟩:=h.head
  exact VRs.cons h1 (ih h2)
theorem VRs.get{ss:List SV}{ds:List Value}(h:VRs B F w ss ds){i:Nat}{s:SV}(hs:ss[i]? = some s):∃ d,ds[i]? = some d∧VR B F w s d:=by
 have hlt:=(List.getElem?_eq_some_iff.1 hs).1
 have hlt':i < ds.length:=by rw[←h.1];exact hlt
 exact⟨ds[i],List.getElem?_eq_getElem hlt',h.2 i s _ hs (List.getElem?_eq_getElem hlt')⟩
theorem VRs.take{ss:List SV}{ds:List Value}(h:VRs B F w ss ds)(n:Nat):VRs B F w (ss.take n) (ds.take n) :=
 ⟨by simp[h.1],fun i s d h1 h2=>by
  rw[List.getElem?_take]at h1 h2
  split at h1
  ·rename_i hi;rw[if_pos hi]at h2;exact h.2 i s d h1 h2
  ·cases h1⟩
theorem VRs.drop{ss:List SV}{ds:List Value}(h:VRs B F w ss ds)(n:Nat):VRs B F w (ss.drop n) (ds.drop n) :=
 ⟨by simp[h.1],fun i s d h1 h2=>by
  rw[List.getElem?_drop]at h1 h2
  exact h.2 _ s d h1 h2⟩
theorem VRs.set{ss:List SV}{ds:List Value}(h:VRs B F w ss ds)(i:Nat){s:SV}{d:Value}(hs:VR B F w s d):VRs B F w (ss.set i s) (ds.set i d) :=
 ⟨by simp[h.1],fun j s' d' h1 h2=>by
  rw[List.getElem?_set]at h1 h2
  by_cases e:i=j
  ·subst e
   rw[if_pos rfl]at h1 h2
   split at h1
   ·split at h2
    ·cases h1;cases h2;exact hs
    ·cases h2
   ·cases h1
  ·rw[if_neg e]at h1 h2
   exact h.2 j s' d' h1 h2⟩
theorem VRs.of_vr_agg{cs:List SV}{x:Value}(h:VR B F w (.agg cs) x):∃ ds:List Value,x=.agg ds.toArray∧VRs B F w cs ds:=by
 cases h with | agg _ ds h1 h2=>exact⟨ds,rfl,h1,h2⟩
theorem VRs.of_vr_tup{cs:List SV}{x:Value}(h:VR B F w (.tup cs) x):∃ ds:List Value,x=.tuple ds.toArray∧VRs B F w cs ds:=by
 cases h with | tup _ ds h1 h2=>exact⟨ds,rfl,h1,h2⟩
theorem VR.agg'{cs:List SV}{ds:List Value}(h:VRs B F w cs ds):VR B F w (.agg cs) (.agg ds.toArray):=.agg cs ds h.1 h.2
theorem VR.tup'{cs:List SV}{ds:List Value}(h:VRs B F w cs ds):VR B F w (.tup cs) (.tuple ds.toArray):=.tup cs ds h.1 h.2
theorem VR.mono(hF:∀ i,F i→F' i)(hk:KeepsC F w w'){s:SV}{x:Value}(h:VR B F w s x):VR B F' w' s x:=by
 induction h with
 | v x=>exact .v x
 | ptr b o=>exact .ptr b o
 | sl T l v h=>exact .sl T l v (h.mono hF hk)
 | ep T x o b a cs hb h1 h2=>exact .ep T x o b a cs (hF b hb) (h1.mono hF hk) fun j d hd=>(hk.cell hb _).trans (h2 j d hd)
 | row b=>exact .row b
 | rp b i n o=>exact .rp b i n o
 | part b lo n k v h=>exact .part b lo n k v h
 | mp b=>exact .mp b
 | csl b n k=>exact .csl b n k
 | ptc b lo n k v h=>exact .ptc b lo n k v h
 | agg cs ds hl _ ih=>exact .agg cs ds hl ih
 | tup cs ds hl _ ih=>exact .tup cs ds hl ih
 | fn g fs cs fd cd hl _ hl2 _ ih ih2=>exact .fn g fs cs fd cd hl ih hl2 ih2
 | yld i=>exact .yld i
 | any x=>exact .any x
theorem VRs.mono(hF:∀ i,F i→F' i)(hk:KeepsC F w w'){ss:List SV}{ds:List Value}(h:VRs B F w ss ds):VRs B F' w' ss ds:=⟨h.1,fun i s d h1 h2=>(h.2 i s d h1 h2).mono hF hk⟩
inductive Bd(D:Nat→Prop):SV→Prop
 | v (x:Value):Bd D (.v x)
 | any:Bd D .any
 | sl {T:Ty} {l:List T.α}:Bd D (.sl T l)
 | ep {T:Ty} {x:T.α} {o:Nat}:Bd D (.ep T x o)
 | ptr {b o:Nat}:D b→Bd D (.ptr b o)
 | row {b:Nat}:D b→Bd D (.row b)
 | yld {b:Nat}:D b→Bd D (.yld b)
 | rp {b i n o:Nat}:D b→Bd D (.rp b i n o)
 | part {b lo n k:Nat}:D b→Bd D (.part b lo n k)
 | mp {b:Nat}:D b→Bd D (.mp b)
 | csl {b n k:Nat}:D b→Bd D (.csl b n k)
 | ptc {b lo n k:Nat}:D b→Bd D (.ptc b lo n k)
 | agg {cs:List SV}:(∀ s∈cs,Bd D s)→Bd D (.agg cs)
 | tup {cs:List SV}:(∀ s∈cs,Bd D s)→Bd D (.tup cs)
 | fn {g:FuncId} {fs cs:List SV}:(∀ s∈fs,Bd D s)→(∀ s∈cs,Bd D s)→Bd D (.fn g fs cs)
theorem Bd.mono{D D':Nat→Prop}{s:SV}(h:Bd D s)(hn:∀ i,D i→D' i):Bd D' s:=by
 induction h with
 | v x=>exact .v x
 | any=>exact .any
 | sl=>exact .sl
 | ep=>exact .ep
 | ptr h=>exact .ptr (hn _ h)
 | row h=>exact .row (hn _ h)
 | yld h=>exact .yld (hn _ h)
 | rp h=>exact .rp (hn _ h)
 | part h=>exact .part (hn _ h)
 | mp h=>exact .mp (hn _ h)
 | csl h=>exact .csl (hn _ h)
 | ptc h=>exact .ptc (hn _ h)
 | agg _ ih=>exact .agg ih
 | tup _ ih=>exact .tup ih
 | fn _ _ ih ih2=>exact .fn ih ih2
theorem Bd.of_agg{D:Nat→Prop}{cs:List SV}(h:Bd D (.agg cs)):∀ s∈cs,Bd D s:=by cases h with | agg h=>exact h
theorem Bd.of_tup{D:Nat→Prop}{cs:List SV}(h:Bd D (.tup cs)):∀ s∈cs,Bd D s:=by cases h with | tup h=>exact h
theorem Bd.of_fn{D:Nat→Prop}{g:FuncId}{fs cs:List SV}(h:Bd D (.fn g fs cs)):(∀ s∈fs,Bd D s)∧∀ s∈cs,Bd D s:=by cases h with | fn h h2=>exact⟨h,h2⟩
theorem VR.loc{D:Nat→Prop}(hB:∀ i,D i→B' i=B i){s:SV}{x:Value}(h:VR B F w s x)(hb:Bd D s):VR B' F w s x:=by
 induction h with
 | v x=>exact .v x
 | ptr b o=>cases hb with | ptr h=>rw[←hB b h];exact .ptr b o
 | sl T l v h=>exact .sl T l v h
 | ep T x o b a cs hb1 h1 h2=>exact .ep T x o b a cs hb1 h1 h2
 | row b=>cases hb with | row h=>rw[←hB b h];exact .row b
 | rp b i n o=>cases hb with | rp h=>rw[←hB b h];exact .rp b i n o
 | part b lo n k v h1=>cases hb with | part h=>exact .part b lo n k v (by rw[hB b h];exact h1)
 | mp b=>cases hb with | mp h=>rw[←hB b h];exact .mp b
 | csl b n k=>cases hb with | csl h=>rw[←hB b h];exact .csl b n k
 | ptc b lo n k v h1=>cases hb with | ptc h=>exact .ptc b lo n k v (by rw[hB b h];exact h1)
 | agg cs ds hl _ ih=>exact .agg cs ds hl fun i s d hs hd=>ih i s d hs hd (hb.of_agg s (List.mem_of_getElem? hs))
 | tup cs ds hl _ ih=>exact .tup cs ds hl fun i s d hs hd=>ih i s d hs hd (hb.of_tup s (List.mem_of_getElem? hs))
 | fn g fs cs fd cd hl _ hl2 _ ih ih2=>exact .fn g fs cs fd cd hl (fun i s d hs hd=>ih i s d hs hd (hb.of_fn.1 s (List.mem_of_getElem? hs))) hl2 (fun i s d hs hd=>ih2 i s d hs hd (hb.of_fn.2 s (List.mem_of_getElem? hs)))
 | yld i=>cases hb with | yld h=>rw[←hB i h];exact .yld i
 | any x=>exact .any x
theorem VRs.loc{D:Nat→Prop}(hB:∀ i,D i→B' i=B i){ss:List SV}{ds:List Value}(h:VRs B F w ss ds)(hb:∀ s∈ss,Bd D s):VRs B' F w ss ds :=
 ⟨h.1,fun i s d h1 h2=>(h.2 i s d h1 h2).loc hB (hb s (List.mem_of_getElem? h1))⟩
theorem vrs_of_dr:∀ {T:Ty} {x:T.α} {cs:List Value},DR F w T x cs→VRs B F w (cellsOf T x) cs
 | .int k,x,cs,h=>by rw[show cs=_ from h];exact .cons (.v _) .nil
 | .bool,x,cs,h=>by rw[show cs=_ from h];exact .cons (.v _) .nil
 | .str,x,cs,h=>by rw[show cs=_ from h];exact .cons (.v _) .nil
 | .unit,x,cs,h=>by rw[show cs=_ from h];exact .nil
 | .nul,x,cs,h=>by rw[show cs=_ from h];exact .cons (.v _) .nil
 | .pair a b,x,cs,h=>by
  obtain⟨c,d,rfl,h1,h2⟩:=h
  exact(vrs_of_dr h1).append (vrs_of_dr h2)
 | .sl e,l,cs,h=>by
  obtain⟨v,rfl,h'⟩:=id h
  exact .cons (.sl e l v h) .nil
 | .rc false,x,cs,h=>by
  cases (show DX F w (.inl x) cs from h)with
  | ex _ v h1=>exact .cons (.v _) (.cons (.v _) (.cons (.v _) (.cons (.sl _ _ _ (dr_ex.2 h1)) .nil)))
 | .rc true,x,cs,h=>by
  cases (show DY F w (.inl x) cs from h)with
  | cd _ u v h1 k=>exact .cons (.v _) (.cons (.sl _ _ _ (dr_ex.2 h1)) (.cons (.sl _ _ _ (dr_cd.2 k)) .nil))
theorem bd_cellsOf{D:Nat→Prop}:∀ {T:Ty} {x:T.α},∀ s∈cellsOf T x,Bd D s
 | .int k,x,s,h=>by simp[cellsOf]at h;subst h;exact .v _
 | .bool,x,s,h=>by simp[cellsOf]at h;subst h;exact .v _
 | .str,x,s,h=>by simp[cellsOf]at h;subst h;exact .v _
 | .unit,x,s,h=>by simp[cellsOf]at h
 | .nul,x,s,h=>by simp[cellsOf]at h;subst h;exact .v _
 | .pair a b,x,s,h=>by
  simp only[cellsOf,List.mem_append]at h
  rcases h with h | h
  ·exact bd_cellsOf s h
  ·exact bd_cellsOf s h
 | .sl e,l,s,h=>by simp[cellsOf]at h;subst h;exact .sl
 | .rc false,x,s,h=>by simp[cellsOf]at h;rcases h with rfl | rfl | rfl | rfl<;>first | exact .v _ | exact .sl
 | .rc true,x,s,h=>by simp[cellsOf]at h;rcases h with rfl | rfl | rfl<;>first | exact .v _ | exact .sl
theorem slCe_spec{e:Ty}{s:SV}{l:List e.α}{d:Value}(h:slCe e s=some l)(hv:VR B F w s d):DR F w (.sl e) l [d]:=by
 unfold slCe at h
 split at h
 ·split at h
  ·rename_i T l _ eT
   cases eT
   cases h
   cases hv with | sl _ _ _ h1=>exact h1
  ·cases h
 ·cases h
  cases hv;exact⟨_,rfl,.inl ⟨rfl,rfl⟩⟩
 ·cases h
theorem dr_of_ofC:∀ {T:Ty} {ss r:List SV} {x:T.α} {ds:List Value},ofC T ss=some (x,r)→VRs B F w ss ds→∃ c d,ds=c++d∧DR F w T x c∧VRs B F w r d∧∃ q,ss=q++r
 | .int k,ss,r,x,ds,h,hv=>by
  simp only[ofC]at h
  split at h
  ·split at h
   ·rename_i e;cases h;subst e
    obtain⟨d,ds',rfl,h1,h2⟩:=hv.head
    cases h1;exact⟨[_],ds',rfl,rfl,h2,[_],rfl⟩
   ·cases h
  ·cases h
 | .bool,ss,r,x,ds,h,hv=>by
  simp only[ofC]at h
  split at h
  ·cases h
   obtain⟨d,ds',rfl,h1,h2⟩:=hv.head
   cases h1;exact⟨[_],ds',rfl,rfl,h2,[_],rfl⟩
  ·cases h
 | .str,ss,r,x,ds,h,hv=>by
  simp only[ofC]at h
  split at h
  ·cases h
   obtain⟨d,ds',rfl,h1,h2⟩:=hv.head
   cases h1;exact⟨[_],ds',rfl,rfl,h2,[_],rfl⟩
  ·cases h
 | .unit,ss,r,x,ds,h,hv=>by
  simp only[ofC]at h
  cases h
  exact⟨[],ds,rfl,rfl,hv,[],rfl⟩
 | .nul,ss,r,x,ds,h,hv=>by
  simp only[ofC]at h
  split at h
  ·cases h
   obtain⟨d,ds',rfl,h1,h2⟩:=hv.head
   cases h1;exact⟨[_],ds',rfl,rfl,h2,[_],rfl⟩
  ·cases h
 | .pair a b,ss,r,x,ds,h,hv=>by
  simp only[ofC]at h
  split at h
  ·rename_i y r1 h1
   split at h
   ·rename_i z r2 h2
    cases h
    obtain⟨c,d,rfl,k1,k2,q,rfl⟩:=dr_of_ofC h1 hv
    obtain⟨c',d',rfl,k3,k4,q',rfl⟩:=dr_of_ofC h2 k2
    exact⟨c++c',d',by simp,⟨c,c',rfl,k1,k3⟩,k4,q++q',by simp⟩
   ·cases h
  ·cases h
 | .sl e,ss,r,x,ds,h,hv=>by
  simp only[ofC]at h
  split at h
  ·split at h
   ·rename_i T l _ eT
    cases eT
    cases h
    obtain⟨d,ds',rfl,h1,h2⟩:=hv.head
    cases h1 with | sl _ _ _ h1=>exact⟨[_],ds',rfl,h1,h2,[_],rfl⟩
   ·cases h
  ·cases h
   obtain⟨d,ds',rfl,h1,h2⟩:=hv.head
   cases h1;exact⟨[_],ds',rfl,⟨_,rfl,.inl ⟨rfl,rfl⟩⟩,h2,[_],rfl⟩
  ·cases h
 | .rc false,ss,r,x,ds,h,hv=>by
  simp only[ofC]at h
  split at h
  ·split at h
   ·rename_i l hl
    cases h
    obtain⟨d1,ds,rfl,h1,k1⟩:=hv.head
    obtain⟨d2,ds,rfl,h2,k2⟩:=k1.head
    obtain⟨d3,ds,rfl,h3,k3⟩:=k2.head
    obtain⟨d4,ds,rfl,h4,k4⟩:=k3.head
    cases h1;cases h2;cases h3
    exact⟨[_,_,_,d4],ds,rfl,DX.ex (.mk _ _ _ l) _ (dr_ex.1 (slCe_spec hl h4)),k4,[_,_,_,_],rfl⟩
   ·cases h
  ·cases h
 | .rc true,ss,r,x,ds,h,hv=>by
  simp only[ofC]at h
  split at h
  ·split at h
   ·rename_i l hl
    split at h
    ·rename_i m hm
     cases h
     obtain⟨d1,ds,rfl,h1,k1⟩:=hv.head
     obtain⟨d2,ds,rfl,h2,k2⟩:=k1.head
     obtain⟨d3,ds,rfl,h3,k3⟩:=k2.head
     cases h1
     exact⟨[_,d2,d3],ds,rfl,DY.cd (.mk _ l m) _ _ (dr_ex.1 (slCe_spec hl h2)) (dr_cd.1 (slCe_spec hm h3)),k3,[_,_,_],rfl⟩
    ·cases h
   ·cases h
  ·cases h
end
end Go.Q
namespace Go.Q
open Go Go.RowKit
inductive AL where
 | tmp (t:Nat)
 | ref (b i:Nat)
structure Acc where
 loc:AL
 T:Ty
 e:TypeId
structure Nr where
 ks:List Nat
 acc:List Acc
 kb:List Nat
abbrev Ann:=Nat→Nr×Nr
def loops:Code→Nat
 | .seq x y=>loops x+loops y
 | .cond _ x y=>loops x+loops y
 | .block _ x=>loops x
 | .loop x=>loops x+1
 | .rangeFunc _ _ x y=>loops x+loops y+1
 | _=>0
structure RC where
 params:Array Tmp
 assign:Code
 body:Code
def nthRange:Code→Nat→Option RC
 | .seq x y,i=>bif Nat.blt i (loops x)then nthRange x i else nthRange y (i-loops x)
 | .cond _ x y,i=>bif Nat.blt i (loops x)then nthRange x i else nthRange y (i-loops x)
 | .block _ x,i=>nthRange x i
 | .loop b,i=>match i with
  | 0=>none
  | j+1=>nthRange b j
 | .rangeFunc _ ps x y,i=>match i with
  | 0=>some ⟨ps,x,y⟩
  | j+1=>bif Nat.blt j (loops x)then nthRange x j else nthRange y (j-loops x)
 | _,_=>none
def bodyP(P:Program)(g:FuncId):Code:=match P.funcs[g]? with
 | some f=>match f.body with
  | some c=>c
  | none=>.skip
 | none=>.skip
def rcodeP(P:Program)(g:FuncId)(i:Nat):RC:=(nthRange (bodyP P g) i).getD ⟨#[],.skip,.skip⟩
class HasP where
 P:Program
structure Rnd where
 tmps:List SV
 g:FuncId
 li:Nat
 st:LoopState
 pending:Option Code
def Rnd.rc[HasP](r:Rnd):RC:=rcodeP HasP.P r.g r.li
inductive Blk where
 | cells (cs:List SV) (t:TypeId)
 | row (T:Ty) (l:List T.α) (t:TypeId) (fz:Bool)
 | rnd (r:Rnd)
 | dead
 | gone
 | map (k:IntKind) (es:List (Int×SV)) (p:Nat)
 | iter (mb n:Nat) (seen:List Nat) (last:Option Nat)
def Blk.refs:Blk→List SV
 | .cells cs _=>cs
 | .row .. => []
 | .rnd r=>r.tmps
 | .dead=>[]
 | .gone=>[]
 | .map _ es _=>es.map (·.2)
 | .iter mb _ _ _=>[.mp mb]
def Blk.on:Blk→Bool
 | .gone=>false
 | _=>true
def Blk.fz:Blk→Bool
 | .row _ _ _ fz=>fz
 | _=>false
abbrev Mem:=List (Option Blk)
def Live(mem:Mem)(i:Nat):Prop:=∃ b,mem[i]? = some (some b)
structure Ext(mem mem':Mem):Prop where
 len:mem.length≤mem'.length
 live:∀ i,Live mem i→Live mem' i
 old:∀ (i:Nat) (r:Rnd),mem'[i]? = some (some (Blk.rnd r))→∃ r',mem[i]? = some (some (Blk.rnd r'))
theorem Ext.refl(mem:Mem):Ext mem mem:=⟨Nat.le_refl _,fun _ h=>h,fun _ r h=>⟨r,h⟩⟩
theorem Ext.trans{a b c:Mem}(h:Ext a b)(k:Ext b c):Ext a c:=⟨Nat.le_trans h.len k.len,fun i hi=>k.live i (h.live i hi),fun i r hr=>by
 obtain⟨r',h1⟩:=k.old i r hr;exact h.old i r' h1⟩
theorem Live.lt{mem:Mem}{i:Nat}(h:Live mem i):i < mem.length:=by obtain⟨x,hx⟩:=h;exact(List.getElem?_eq_some_iff.1 hx).1
def RowD(F:Nat→Prop)(w:World)(T:Ty)(l:List T.α)(ds:List Value):Prop :=
 ∀ (i:Nat) (x:T.α),l[i]? = some x→∃ cs:List Value,DR F w T x cs∧∀ (j:Nat) (d:Value),cs[j]? = some d→ds[i*T.n+j]? = some d
structure MapR(B:Loc)(F:Nat→Prop)(w:World)(k:IntKind)(es:List (Int×SV))(p:Nat)(ord:Nat→Nat)(en:Array MapEntry):Prop where
 size:en.size=es.length
 born:∀ (i:Nat) (e:MapEntry),en[i]? = some e→e.born=i
 inv:∃ inv:Nat→Nat,(∀ i,inv (ord i)=i)∧∀ i,ord (inv i)=i
 fix:∀ i,p≤i→ord i=i
 le:p≤es.length
 nd:∀ (i j:Nat) (x y:Int×SV),es[i]? = some x→es[j]? = some y→x.1=y.1→i=j
 ent:∀ (i:Nat) (x:Int×SV),es[i]? = some x→∃ e,en[ord i]? = some e∧e.key=.int k x.1∧VR B F w x.2 e.val
def BlkR[HasP](B:Loc)(F:Nat→Prop)(w:World):Blk→Place→Prop
 | .cells cs t,p=>p.nil=false∧p.off=0∧∃ ds:List Value,w.heap[p.blk]? = some (.cells ds.toArray t (0,0))∧VRs B F w cs ds
 | .row T l t _,p=>(p.nil=true∧l=[])∨(p.nil=false∧p.off=0∧p.len=l.length∧l.length≤p.cap∧
   ∃ ds:List Value,w.heap[p.blk]? = some (.cells ds.toArray t (0,0))∧ds.length=p.cap*T.n∧p.cap≤maxLen∧RowD F w T l ds)
 | .rnd r,p=>p.nil=false∧∃ (fn:FuncId) (tm:Array Value) (df:Nat),w.heap[p.blk]? = some (.loop { state:=r.st,pending:=r.pending,fn:=fn,tmps:=tm,params:=r.rc.params,assign:=r.rc.assign,body:=r.rc.body,defers:=df })∧
   VRs B F w r.tmps tm.toList∧df < p.blk∧w.heap[df]? = some (Obj.deferred (some []))
 | .dead,p=>p.nil=false∧p.blk < w.heap.size
 | .gone,_=>True
 | .map k es n,p=>p.nil=false∧∃ en:Array MapEntry,w.heap[p.blk]? = some (.map en es.length)∧MapR B F w k es n p.ord en
 | .iter mb n seen last,p=>p.nil=false∧∃ arr:Array Nat,w.heap[p.blk]? = some (.mapIter (some (B mb).blk) n arr n)∧p.off=0∧(∀ i,(B mb).ord i∈arr.toList↔i∈seen)∧∀ i,last=some i→arr.back? = some ((B mb).ord i)
section
variable {B B':Loc}{F F':Nat→Prop}{w w':World}
theorem RowD.mono(hF:∀ i,F i→F' i)(hk:KeepsC F w w'){T:Ty}{l:List T.α}{ds:List Value}(h:RowD F w T l ds):RowD F' w' T l ds:=fun i x hx=>by
 obtain⟨cs,h1,h2⟩:=h i x hx
 exact⟨cs,h1.mono hF hk,h2⟩
theorem MapR.mono(hF:∀ i,F i→F' i)(hk:KeepsC F w w'){k:IntKind}{es:List (Int×SV)}{p:Nat}{ord:Nat→Nat}{en:Array MapEntry}(h:MapR B F w k es p ord en):MapR B F' w' k es p ord en :=
 ⟨h.size,h.born,h.inv,h.fix,h.le,h.nd,fun i x hx=>by
  obtain⟨e,h1,h2,h3⟩:=h.ent i x hx
  exact⟨e,h1,h2,h3.mono hF hk⟩⟩
theorem MapR.loc{D:Nat→Prop}(hB:∀ i,D i→B' i=B i){k:IntKind}{es:List (Int×SV)}{p:Nat}{ord:Nat→Nat}{en:Array MapEntry}(h:MapR B F w k es p ord en)(hb:∀ s∈es.map (·.2),Bd D s):MapR B' F w k es p ord en :=
 ⟨h.size,h.born,h.inv,h.fix,h.le,h.nd,fun i x hx=>by
  obtain⟨e,h1,h2,h3⟩:=h.ent i x hx
  exact⟨e,h1,h2,h3.loc hB (hb _ (List.mem_map.2 ⟨x,List.mem_of_getElem? hx,rfl⟩))⟩⟩
theorem MapR.inj{k:IntKind}{es:List (Int×SV)}{p:Nat}{ord:Nat→Nat}{en:Array MapEntry}(h:MapR B F w k es p ord en){i j:Nat}(e:ord i=ord j):i=j:=by
 obtain⟨inv,h1,_⟩:=h.inv
 rw[←h1 i,e,h1]
theorem MapR.lt{k:IntKind}{es:List (Int×SV)}{p:Nat}{ord:Nat→Nat}{en:Array MapEntry}(h:MapR B F w k es p ord en){i:Nat}:ord i < es.length↔i < es.length:=by
 constructor
 ·intro hi
  refine Nat.lt_of_not_le fun hn=>?_
  rw[h.fix i (Nat.le_trans h.le hn)]at hi;omega
 ·intro hi
  refine Nat.lt_of_not_le fun hn=>?_
  have:=h.inj (h.fix _ (Nat.le_trans h.le hn))
  omega
theorem MapR.sur{k:IntKind}{es:List (Int×SV)}{p:Nat}{ord:Nat→Nat}{en:Array MapEntry}(h:MapR B F w k es p ord en){j:Nat}(hj:j < es.length):∃ i,i < es.length∧ord i=j:=by
 obtain⟨inv,h1,h2⟩:=h.inv
 exact⟨inv j,h.lt.1 (by rw[h2];exact hj),h2 j⟩
theorem MapR.at{k:IntKind}{es:List (Int×SV)}{p:Nat}{ord:Nat→Nat}{en:Array MapEntry}(h:MapR B F w k es p ord en){j:Nat}{e:MapEntry}(hj:en[j]? = some e):∃ i x,es[i]? = some x∧ord i=j∧e.key=.int k x.1∧VR B F w x.2 e.val:=by
 have hlt:j < es.length:=by rw[←h.size];exact(Array.getElem?_eq_some_iff.1 hj).1
 obtain⟨i,hi,hij⟩:=h.sur hlt
 obtain⟨e',h1,h2,h3⟩:=h.ent i _ (List.getElem?_eq_getElem hi)
 rw[hij,hj]at h1;cases h1
 exact⟨i,_,List.getElem?_eq_getElem hi,hij,h2,h3⟩
theorem MapR.push{k:IntKind}{es:List (Int×SV)}{p:Nat}{ord:Nat→Nat}{en:Array MapEntry}(h:MapR B F w k es p ord en){x:Int×SV}{z:Value}(hz:VR B F w x.2 z)(hn:∀ e∈es,(x.1==e.1)=false):MapR B F w k (es++[x]) p ord (en.push { key:=.int k x.1,val:=z,born:=es.length }):=by
 have hge:∀ {i:Nat} {y:Int×SV},(es++[x])[i]? = some y→(i < es.length∧es[i]? = some y)∨(i=es.length∧y=x):=by
  intro i y hi
  by_cases hlt:i < es.length
  ·rw[List.getElem?_append_left hlt]at hi;exact .inl ⟨hlt,hi⟩
  ·rw[List.getElem?_append_right (by omega)]at hi
   obtain⟨h1,h2⟩:=List.getElem?_eq_some_iff.1 hi
   have h3:i-es.length=0:=by simpa using h1
   refine .inr ⟨by omega,?_⟩
   simp only[h3,List.getElem_cons_zero]at h2
   exact h2.symm
 have hne:∀ {i:Nat} {y:Int×SV},es[i]? = some y→x.1≠y.1:=fun hi e=>by
  have:=hn _ (List.mem_of_getElem? hi)
  rw[e]at this;simp at this
 refine⟨by simp[h.size],fun i e hi=>?_,h.inv,h.fix,by simp;exact Nat.le_succ_of_le h.le,fun i j y z hi hj e=>?_,fun i y hi=>?_⟩
 ·rw[Array.getElem?_push]at hi
  split at hi
  ·rename_i hi';cases hi;exact(by rw[hi',h.size])
  ·exact h.born i e hi
 ·rcases hge hi with⟨_,hi'⟩ | ⟨hi',e1⟩<;>rcases hge hj with⟨_,hj'⟩ | ⟨hj',e2⟩
  ·exact h.nd i j y z hi' hj' e
  ·subst e2;exact absurd e.symm (hne hi')
  ·subst e1;exact absurd e (hne hj')
  ·omega
 ·rcases hge hi with⟨hlt,hi'⟩ | ⟨hi',rfl⟩
  ·obtain⟨e,h1,h2,h3⟩:=h.ent i y hi'
   have:=h.lt.2 hlt
   exact⟨e,by rw[Array.getElem?_push,if_neg (by rw[h.size];omega)];exact h1,h2,h3⟩
  ·subst hi'
   rw[h.fix _ h.le,←h.size]
   exact⟨_,by rw[Array.getElem?_push,if_pos rfl],rfl,hz⟩
def KeepsAt(w w':World)(p:Place):Prop:=w.heap.size≤w'.heap.size∧(p.nil=false→w'.heap[p.blk]? = w.heap[p.blk]?)
theorem BlkR.mono[HasP](hF:∀ i,F i→F' i)(hk:KeepsF F w w'){b:Blk}{p:Place}(hp:b.on=true→KeepsAt w w' p)(h:BlkR B F w b p):BlkR B F' w' b p:=by
 cases b with
 | gone=>trivial
 | map k es n =>
  have hp:=hp rfl
  obtain⟨h0,en,h1,h2⟩:=h
  exact⟨h0,en,(hp.2 h0).trans h1,h2.mono hF hk⟩
 | iter mb n seen last =>
  have hp:=hp rfl
  obtain⟨h0,arr,h1,h2⟩:=h
  exact⟨h0,arr,(hp.2 h0).trans h1,h2⟩
 | cells cs t =>
  have hp:=hp rfl
  obtain⟨h0,h1,ds,h2,h3⟩:=h
  exact⟨h0,h1,ds,(hp.2 h0).trans h2,h3.mono hF hk⟩
 | row T l t fz =>
  have hp:=hp rfl
  rcases h with h | ⟨h0,h1,h2,h3,ds,h4,h5,h7,h6⟩
  ·exact .inl h
  ·exact .inr ⟨h0,h1,h2,h3,ds,(hp.2 h0).trans h4,h5,h7,h6.mono hF hk⟩
 | rnd r =>
  have hp:=hp rfl
  obtain⟨h0,fn,tm,df,h1,h2,h3,h4⟩:=h
  exact⟨h0,fn,tm,df,(hp.2 h0).trans h1,h2.mono hF hk,h3,hk.d df h4⟩
 | dead=>exact⟨h.1,Nat.lt_of_lt_of_le h.2 (hp rfl).1⟩
theorem BlkR.loc[HasP]{D:Nat→Prop}(hB:∀ i,D i→B' i=B i){b:Blk}{p:Place}(h:BlkR B F w b p)(hb:∀ s∈b.refs,Bd D s):BlkR B' F w b p:=by
 cases b with
 | cells cs t =>
  obtain⟨h0,h1,ds,h2,h3⟩:=h
  exact⟨h0,h1,ds,h2,h3.loc hB hb⟩
 | row T l t fz=>exact h
 | rnd r =>
  obtain⟨h0,fn,tm,df,h1,h2,h3⟩:=h
  exact⟨h0,fn,tm,df,h1,h2.loc hB hb,h3⟩
 | dead=>exact h
 | gone=>trivial
 | map k es n =>
  obtain⟨h0,en,h1,h2⟩:=h
  exact⟨h0,en,h1,h2.loc hB hb⟩
 | iter mb n seen last =>
  have e:B' mb=B mb:=hB mb (by have:=hb (.mp mb) (by simp[Blk.refs]);cases this with | mp h=>exact h)
  simp only[BlkR]at h⊢
  rw[e];exact h
theorem BlkR.lt[HasP]{b:Blk}{p:Place}(h:BlkR B F w b p)(hon:b.on=true)(hn:p.nil=false):p.blk < w.heap.size:=by
 have go:∀ {o:Obj},w.heap[p.blk]? = some o→p.blk < w.heap.size:=fun h=>(Array.getElem?_eq_some_iff.1 h).1
 cases b with
 | cells cs t=>obtain⟨_,_,ds,h2,_⟩:=h;exact go h2
 | row T l t fz =>
  rcases h with h | ⟨_,_,_,_,ds,h4,_⟩
  ·rw[h.1]at hn;cases hn
  ·exact go h4
 | rnd r=>obtain⟨_,fn,tm,df,h1,_⟩:=h;exact go h1
 | dead=>exact h.2
 | gone=>cases hon
 | map k es n=>obtain⟨_,en,h1,_⟩:=h;exact go h1
 | iter mb n seen last=>obtain⟨_,arr,h1,_⟩:=h;exact go h1
def IsC(w:World)(i:Nat):Prop:=∃ cs t z,w.heap[i]? = some (Obj.cells cs t z)
theorem IsC.keep{i:Nat}(h:IsC w i)(he:w'.heap[i]? = w.heap[i]?):IsC w' i:=by
 obtain⟨cs,t,z,h⟩:=h;exact⟨cs,t,z,he.trans h⟩
structure FC(F:Nat→Prop)(w:World):Prop where
 c:∀ i,F i→IsC w i
 g:∀ (g j:Nat) (v:Int),(gtab g)[j]? = some v→F g∧w.cell? ⟨g,j,none⟩=some (.int .i64 v)
instance:CoeFun (FC F w) (fun _=>∀ i,F i→IsC w i):=⟨FC.c⟩
theorem FC.keep(h:FC F w)(hk:KeepsC F w w'):FC F w':=⟨fun i hi=>(h.c i hi).keep (hk i hi),fun g j v hv=>⟨(h.g g j v hv).1,(hk.cell (h.g g j v hv).1 _).trans (h.g g j v hv).2⟩⟩
theorem FC.more(h:FC F w)(hF:∀ i,F i→F' i)(hc:∀ i,F' i→IsC w i):FC F' w:=⟨hc,fun g j v hv=>⟨hF g (h.g g j v hv).1,(h.g g j v hv).2⟩⟩
structure RM[HasP](w0:World)(m:Nat)(B:Loc)(F:Nat→Prop)(mem:Mem)(w:World):Prop where
 blk:∀ (i:Nat) (b:Blk),mem[i]? = some (some b)→BlkR B F w b (B i)
 own:∀ (i:Nat) (b:Blk),m≤i→mem[i]? = some (some b)→(B i).nil=false→w0.heap.size≤(B i).blk
 inj:∀ (i j:Nat) (x y:Blk),mem[i]? = some (some x)→mem[j]? = some (some y)→x.on=true→y.on=true→(B i).nil=false→(B j).nil=false→(B i).blk=(B j).blk→i=j
 bd:∀ (i:Nat) (b:Blk),mem[i]? = some (some b)→∀ s∈b.refs,Bd (Live mem) s
 fr:∀ (i:Nat) (b:Blk),mem[i]? = some (some b)→b.on=true→(B i).nil=false→b.fz=false→¬F (B i).blk
 fz:∀ (i:Nat) (b:Blk),mem[i]? = some (some b)→(B i).nil=false→b.fz=true→F (B i).blk
 fc:FC F w
 below:Below w0.heap.size w0 w
theorem lt_of_some{w:World}{b:Nat}{o:Obj}(h:w.heap[b]? = some o):b < w.heap.size:=(Array.getElem?_eq_some_iff.1 h).1
theorem RM.size[HasP]{w0:World}{m:Nat}{mem:Mem}(h:RM w0 m B F mem w):w0.heap.size≤w.heap.size:=h.below.size
theorem RM.lt[HasP]{w0:World}{m:Nat}{mem:Mem}(h:RM w0 m B F mem w)(i:Nat)(hi:F i):i < w.heap.size:=by
 obtain⟨cs,t,z,h⟩:=h.fc i hi;exact lt_of_some h
theorem keepsF_below(hlt:∀ i,F i→i < w.heap.size)(hb:Below w.heap.size w w'):KeepsF F w w':=⟨fun i hi=>hb.block i (hlt i hi),fun df h=>(hb.block df (lt_of_some h)).trans h,hb.size⟩
theorem keepsAt_below{p:Place}(hlt:p.nil=false→p.blk < w.heap.size)(hb:Below w.heap.size w w'):KeepsAt w w' p:=⟨hb.size,fun hn=>hb.block _ (hlt hn)⟩
def Since(F:Nat→Prop)(w w':World):Nat→Prop:=fun i=>F i∨(w.heap.size≤i∧IsC w' i)
theorem RM.later'[HasP]{w0:World}{m:Nat}{mem:Mem}(h:RM w0 m B F mem w)(hb:Below w.heap.size w w'):RM w0 m B F mem w' where
 blk i b hi:=(h.blk i b hi).mono (fun _ h=>h) (keepsF_below h.lt hb) fun ho=>(keepsAt_below ((h.blk i b hi).lt ho) hb)
 own:=h.own
 inj:=h.inj
 bd:=h.bd
 fr:=h.fr
 fz:=h.fz
 fc:=h.fc.keep fun i hi=>hb.block i (h.lt i hi)
 below:=h.below.trans (hb.mono h.size)
theorem RM.moreF[HasP]{w0:World}{m:Nat}{mem:Mem}(h:RM w0 m B F mem w)(hF:∀ i,F i→F' i)(hc:∀ i,F' i→IsC w i)
  (hn:∀ (i:Nat) (b:Blk),mem[i]? = some (some b)→b.on=true→(B i).nil=false→b.fz=false→¬F' (B i).blk):RM w0 m B F' mem w where
 blk i b hi:=(h.blk i b hi).mono hF (KeepsF.refl _ _) fun _=>⟨Nat.le_refl _,fun _=>rfl⟩
 own:=h.own
 inj:=h.inj
 bd:=h.bd
 fr:=hn
 fz i b hi h1 h2:=hF _ (h.fz i b hi h1 h2)
 fc:=h.fc.more hF hc
 below:=h.below
theorem RM.later[HasP]{w0:World}{m:Nat}{mem:Mem}(h:RM w0 m B F mem w)(hb:Below w.heap.size w w'):RM w0 m B (Since F w w') mem w' :=
 (h.later' hb).moreF (fun _ h=>.inl h) (fun i hi=>by
  rcases hi with hi | hi
  ·exact(h.later' hb).fc i hi
  ·exact hi.2) fun i b hi ho hn hf=>by
  rintro (hF | ⟨h1,_⟩)
  ·exact h.fr i b hi ho hn hf hF
  ·have:=(h.blk i b hi).lt ho hn;omega
def upd(B:Loc)(n:Nat)(p:Place):Loc:=fun i=>if i=n then p else B i
theorem upd_old(B:Loc){n i:Nat}{p:Place}(h:i≠n):upd B n p i=B i:=by simp[upd,h]
theorem upd_new(B:Loc)(n:Nat)(p:Place):upd B n p n=p:=by simp[upd]
theorem RM.put[HasP]{w0:World}{m:Nat}{mem mem':Mem}(h:RM w0 m B F mem w)(id:Nat)(hno:¬Live mem id)(b:Blk)(p:Place)
  (hb:Below w.heap.size w w') (hfz:b.fz=false) (hR:BlkR (upd B id p) F w' b p) (hp:p.nil=false→w.heap.size≤p.blk) (hbd:∀ s∈b.refs,Bd (Live mem') s)
  (hlk:∀ (i:Nat) (x:Blk),mem'[i]? = some (some x)↔(i≠id∧mem[i]? = some (some x))∨(i=id∧x=b)) :
  RM w0 m (upd B id p) F mem' w':=by
 have hold:∀ i,Live mem i→upd B id p i=B i:=fun i hi=>upd_old B (fun e=>hno (e▸hi))
 have hlive:∀ i,Live mem i→Live mem' i:=fun i ⟨x,hx⟩=>⟨x,(hlk i x).2 (.inl ⟨fun e=>hno (e▸⟨x,hx⟩),hx⟩)⟩
 have hL:=h.later' hb
 refine⟨?_,?_,?_,?_,?_,?_,hL.fc,hL.below⟩
 ·intro i x hx
  rcases (hlk i x).1 hx with⟨hi,hx'⟩ | ⟨rfl,rfl⟩
  ·rw[hold i ⟨x,hx'⟩]
   exact(hL.blk i x hx').loc hold (h.bd i x hx')
  ·rw[upd_new];exact hR
 ·intro i x hm hx hn
  rcases (hlk i x).1 hx with⟨hi,hx'⟩ | ⟨rfl,rfl⟩
  ·rw[hold i ⟨x,hx'⟩]at hn⊢;exact h.own i x hm hx' hn
  ·rw[upd_new]at hn⊢;exact Nat.le_trans h.size (hp hn)
 ·intro i j x y hx hy ox oy hi hj e
  rcases (hlk i x).1 hx with⟨hi',hx'⟩ | ⟨rfl,rfl⟩<;>rcases (hlk j y).1 hy with⟨hj',hy'⟩ | ⟨rfl,rfl⟩
  ·rw[hold i ⟨x,hx'⟩]at hi e;rw[hold j ⟨y,hy'⟩]at hj e;exact h.inj i j x y hx' hy' ox oy hi hj e
  ·rw[hold i ⟨x,hx'⟩]at hi e;rw[upd_new]at hj e
   have:=(h.blk i x hx').lt ox hi
   have:=hp hj
   omega
  ·rw[hold j ⟨y,hy'⟩]at hj e;rw[upd_new]at hi e
   have:=(h.blk j y hy').lt oy hj
   have:=hp hi
   omega
  ·rfl
 ·intro i x hx s hs
  rcases (hlk i x).1 hx with⟨hi,hx'⟩ | ⟨rfl,rfl⟩
  ·exact(h.bd i x hx' s hs).mono hlive
  ·exact hbd s hs
 ·intro i x hx ho hn hf
  rcases (hlk i x).1 hx with⟨hi,hx'⟩ | ⟨rfl,rfl⟩
  ·rw[hold i ⟨x,hx'⟩]at hn⊢;exact h.fr i x hx' ho hn hf
  ·rw[upd_new]at hn⊢
   intro hF
   have:=h.lt _ hF
   have:=hp hn
   omega
 ·intro i x hx hn hf
  rcases (hlk i x).1 hx with⟨hi,hx'⟩ | ⟨rfl,rfl⟩
  ·rw[hold i ⟨x,hx'⟩]at hn⊢;exact h.fz i x hx' hn hf
  ·rw[hfz]at hf;cases hf
theorem get_push(mem:Mem)(x:Blk)(i:Nat)(y:Blk):(mem++[some x])[i]? = some (some y)↔(i≠mem.length∧mem[i]? = some (some y))∨(i=mem.length∧y=x):=by
 by_cases hi:i < mem.length
 ·rw[List.getElem?_append_left hi]
  exact⟨fun h=>.inl ⟨by omega,h⟩,fun h=>by rcases h with⟨_,h⟩ | ⟨h,_⟩<;>first | exact h | omega⟩
 ·rw[List.getElem?_append_right (by omega)]
  by_cases h0:i=mem.length
  ·subst h0
   simp only[Nat.sub_self,List.getElem?_cons_zero,Option.some.injEq,ne_eq,not_true,false_and,true_and,false_or]
   exact⟨fun h=>h.symm,fun h=>h.symm⟩
  ·have h1:([some x]:Mem)[i-mem.length]? = none:=List.getElem?_eq_none (by simp;omega)
   have h2:mem[i]? = none:=List.getElem?_eq_none (by omega)
   rw[h1,h2]
   simp[h0]
theorem not_live_end(mem:Mem):¬Live mem mem.length:=fun h=>Nat.lt_irrefl _ h.lt
theorem live_push'(mem:Mem)(x:Blk):(∀ i,Live mem i→Live (mem++[some x]) i)∧Live (mem++[some x]) mem.length :=
 ⟨fun i ⟨y,hy⟩=>⟨y,(get_push mem x i y).2 (.inl ⟨fun e=>not_live_end mem (e▸⟨y,hy⟩),hy⟩)⟩,⟨x,(get_push mem x _ x).2 (.inr ⟨rfl,rfl⟩)⟩⟩
theorem live_push(mem:Mem)(x:Blk)(hx:∀ r,x≠.rnd r):Ext mem (mem++[some x])∧Live (mem++[some x]) mem.length :=
 ⟨⟨by simp,(live_push' mem x).1,fun i r h=>by
  rcases (get_push mem x i _).1 h with⟨_,h⟩ | ⟨_,h⟩
  ·exact⟨r,h⟩
  ·exact absurd h.symm (hx r)⟩,(live_push' mem x).2⟩
theorem RM.turn[HasP]{w0:World}{m:Nat}{mem:Mem}(h:RM w0 m B F mem w){i:Nat}{b b':Blk}(hi:m≤i)(hx:mem[i]? = some (some b))(hon:b.on=true)(hfz:b.fz=false)(hfz':b'.fz=false)
  (hsz:w'.heap.size=w.heap.size) (hos:w'.os=w.os∧w'.tape=w.tape∧w'.output=w.output) (hn:(B i).nil=false) (hne:∀ k,k≠(B i).blk→w'.heap[k]? = w.heap[k]?)
  (hnd:w.heap[(B i).blk]?≠some (Obj.deferred (some [])))
  (hR:BlkR B F w' b' (B i)) (hbd:∀ s∈b'.refs,Bd (Live mem) s):RM w0 m B F (mem.set i (some b')) w':=by
 have hilt:i < mem.length:=(List.getElem?_eq_some_iff.1 hx).1
 have hk:KeepsF F w w':=⟨fun k hF=>hne k fun e=>h.fr i b hx hon hn hfz (e▸hF),fun df hdf=>by rw[hne df fun e=>hnd (e▸hdf)];exact hdf,by rw[hsz];exact Nat.le_refl _⟩
 have hlk:∀ (j:Nat) (x:Blk),(mem.set i (some b'))[j]? = some (some x)→(j≠i∧mem[j]? = some (some x))∨(j=i∧x=b'):=by
  intro j x hj
  rw[List.getElem?_set]at hj
  by_cases e:i=j
  ·subst e;simp[hilt]at hj;exact .inr ⟨rfl,hj.symm⟩
  ·simp[e]at hj;exact .inl ⟨fun e'=>e e'.symm,hj⟩
 have hlive:∀ j,Live mem j→Live (mem.set i (some b')) j:=fun j ⟨x,hj⟩=>by
  by_cases e:i=j
  ·subst e;exact⟨b',by simp[hilt]⟩
  ·exact⟨x,by rw[List.getElem?_set];simp[e,hj]⟩
 refine⟨?_,?_,?_,?_,?_,?_,h.fc.keep hk.f,?_⟩
 ·intro j x hj
  rcases hlk j x hj with⟨hne',hj'⟩ | ⟨rfl,rfl⟩
  ·exact(h.blk j x hj').mono (fun _ h=>h) hk fun ho=>⟨by rw[hsz];exact Nat.le_refl _,fun hnj=>hne _ fun e=>hne' (h.inj j i x b hj' hx ho hon hnj hn e)⟩
  ·exact hR
 ·intro j x hm hj hnj
  rcases hlk j x hj with⟨_,hj'⟩ | ⟨rfl,rfl⟩
  ·exact h.own j x hm hj' hnj
  ·exact h.own j b hm hx hnj
 ·intro j k x y hj hk' ox oy hnj hnk e
  rcases hlk j x hj with⟨_,hj'⟩ | ⟨rfl,rfl⟩<;>rcases hlk k y hk' with⟨_,hk''⟩ | ⟨rfl,rfl⟩
  ·exact h.inj j k x y hj' hk'' ox oy hnj hnk e
  ·exact h.inj j k x b hj' hx ox hon hnj hnk e
  ·exact h.inj j k b y hx hk'' hon oy hnj hnk e
  ·rfl
 ·intro j x hj s hs
  rcases hlk j x hj with⟨_,hj'⟩ | ⟨rfl,rfl⟩
  ·exact(h.bd j x hj' s hs).mono hlive
  ·exact(hbd s hs).mono hlive
 ·intro j x hj ho hnj hf
  rcases hlk j x hj with⟨_,hj'⟩ | ⟨rfl,rfl⟩
  ·exact h.fr j x hj' ho hnj hf
  ·exact h.fr j b hx hon hnj hfz
 ·intro j x hj hnj hf
  rcases hlk j x hj with⟨_,hj'⟩ | ⟨rfl,rfl⟩
  ·exact h.fz j x hj' hnj hf
  ·rw[hfz']at hf;cases hf
 ·exact⟨hos.1.trans h.below.os,hos.2.1.trans h.below.tape,hos.2.2.trans h.below.output,by rw[hsz];exact h.below.size,fun k hk'=>by
   rw[hne k fun e=>by have:=h.own i b hi hx hn;omega];exact h.below.block k hk'⟩
theorem ext_set{mem:Mem}{i:Nat}{x y:Blk}(hx:mem[i]? = some (some x))(hy:∀ r,y=.rnd r→∃ r',x=.rnd r'):Ext mem (mem.set i (some y)):=by
 refine⟨by simp,fun j ⟨z,hj⟩=>?_,fun j r hj=>?_⟩
 ·by_cases e:i=j
  ·subst e;exact⟨y,by simp[(List.getElem?_eq_some_iff.1 hx).1]⟩
  ·exact⟨z,by rw[List.getElem?_set];simp[e,hj]⟩
 ·rw[List.getElem?_set]at hj
  by_cases e:i=j
  ·subst e
   simp[(List.getElem?_eq_some_iff.1 hx).1]at hj
   obtain⟨r',h⟩:=hy r hj
   exact⟨r',by rw[hx,h]⟩
  ·simp[e]at hj
   exact⟨r,hj⟩
theorem RM.freeze[HasP]{w0:World}{m:Nat}{mem:Mem}(h:RM w0 m B F mem w){i:Nat}{T:Ty}{l:List T.α}{t:TypeId}(hx:mem[i]? = some (some (.row T l t false))):
  RM w0 m B (fun k=>F k∨((B i).nil=false∧k=(B i).blk)) (mem.set i (some (.row T l t true))) w:=by
 have hilt:i < mem.length:=(List.getElem?_eq_some_iff.1 hx).1
 have hlk:∀ (j:Nat) (x:Blk),(mem.set i (some (.row T l t true)))[j]? = some (some x)→(j≠i∧mem[j]? = some (some x))∨(j=i∧x=.row T l t true):=by
  intro j x hj
  rw[List.getElem?_set]at hj
  by_cases e:i=j
  ·subst e;simp[hilt]at hj;exact .inr ⟨rfl,hj.symm⟩
  ·simp[e]at hj;exact .inl ⟨fun e'=>e e'.symm,hj⟩
 have hlive:∀ j,Live mem j→Live (mem.set i (some (.row T l t true))) j:=(ext_set (y:=.row T l t true) hx (fun r h=>by cases h)).live
 have hk:∀ p,KeepsAt w w p:=fun p=>⟨Nat.le_refl _,fun _=>rfl⟩
 refine⟨?_,?_,?_,?_,?_,?_,?_,h.below⟩
 ·intro j x hj
  rcases hlk j x hj with⟨_,hj'⟩ | ⟨rfl,rfl⟩
  ·exact(h.blk j x hj').mono (fun _ h=>.inl h) (KeepsF.refl _ _) fun _=>(hk _)
  ·exact BlkR.mono (b:=.row T l t true) (fun _ h=>.inl h) (KeepsF.refl _ _) (fun _=>hk _) (show BlkR B F w (.row T l t true) (B j) from h.blk j (.row T l t false) hx)
 ·intro j x hm hj hnj
  rcases hlk j x hj with⟨_,hj'⟩ | ⟨rfl,rfl⟩
  ·exact h.own j x hm hj' hnj
  ·exact h.own j _ hm hx hnj
 ·intro j k x y hj hk' ox oy hnj hnk e
  rcases hlk j x hj with⟨_,hj'⟩ | ⟨rfl,rfl⟩<;>rcases hlk k y hk' with⟨_,hk''⟩ | ⟨rfl,rfl⟩
  ·exact h.inj j k x y hj' hk'' ox oy hnj hnk e
  ·exact h.inj j k x _ hj' hx ox rfl hnj hnk e
  ·exact h.inj j k _ y hx hk'' rfl oy hnj hnk e
  ·rfl
 ·intro j x hj s hs
  rcases hlk j x hj with⟨_,hj'⟩ | ⟨rfl,rfl⟩
  ·exact(h.bd j x hj' s hs).mono hlive
  ·simp[Blk.refs]at hs
 ·intro j x hj ho hnj hf
  rcases hlk j x hj with⟨hne,hj'⟩ | ⟨rfl,rfl⟩
  ·rintro (hF | ⟨hn,e⟩)
   ·exact h.fr j x hj' ho hnj hf hF
   ·exact hne (h.inj j i x _ hj' hx ho rfl hnj hn e)
  ·cases hf
 ·intro j x hj hnj hf
  rcases hlk j x hj with⟨hne,hj'⟩ | ⟨rfl,rfl⟩
  ·exact .inl (h.fz j x hj' hnj hf)
  ·exact .inr ⟨hnj,rfl⟩
 ·refine h.fc.more (fun _ h=>.inl h) ?_
  rintro k (hF | ⟨hn,rfl⟩)
  ·exact h.fc k hF
  ·rcases h.blk i _ hx with⟨h1,_⟩ | ⟨_,_,_,_,ds,h4,_⟩
   ·rw[h1]at hn;cases hn
   ·exact⟨_,_,_,h4⟩
theorem RM.forget[HasP]{w0:World}{m:Nat}{mem mem':Mem}(h:RM w0 m B F mem w)(hs:∀ (i:Nat) (b':Blk),mem'[i]? = some (some b')→∃ b,mem[i]? = some (some b)∧(b'.fz=b.fz∧(b'.on=true→b.on=true))∧(BlkR B F w b (B i)→BlkR B F w b' (B i))∧∀ s∈b'.refs,Bd (Live mem') s):
  RM w0 m B F mem' w where
 blk i b' hb:=by obtain⟨b,h1,h2,h3,h4⟩:=hs i b' hb;exact h3 (h.blk i b h1)
 own i b' hm hb hn:=by obtain⟨b,h1,h2,h3,h4⟩:=hs i b' hb;exact h.own i b hm h1 hn
 inj i j x y hx hy ox oy:=by
  obtain⟨b,h1,h2,_⟩:=hs i x hx
  obtain⟨c,k1,k2,_⟩:=hs j y hy
  exact h.inj i j b c h1 k1 (h2.2 ox) (k2.2 oy)
 bd i b' hb:=by obtain⟨b,h1,h2,h3,h4⟩:=hs i b' hb;exact h4
 fr i b' hb ho hn hf:=by obtain⟨b,h1,h2,h3,h4⟩:=hs i b' hb;exact h.fr i b h1 (h2.2 ho) hn (h2.1▸hf)
 fz i b' hb hn hf:=by obtain⟨b,h1,h2,h3,h4⟩:=hs i b' hb;exact h.fz i b h1 hn (h2.1▸hf)
 fc:=h.fc
 below:=h.below
structure SameP(p q:Place):Prop where
 blk:p.blk=q.blk
 off:p.off=q.off
 len:p.len=q.len
 cap:p.cap=q.cap
 nil:p.nil=q.nil
theorem SameP.val{p q:Place}(h:SameP p q):p.val=q.val:=by simp only[Place.val,h.blk,h.off,h.len,h.cap,h.nil]
theorem VR.same(hB:∀ i,SameP (B' i) (B i)){s:SV}{x:Value}(h:VR B F w s x):VR B' F w s x:=by
 induction h with
 | v x=>exact .v x
 | ptr b o=>rw[←(hB b).blk,←(hB b).off];exact .ptr b o
 | sl T l v h=>exact .sl T l v h
 | ep T x o b a cs hb h1 h2=>exact .ep T x o b a cs hb h1 h2
 | row b=>rw[←(hB b).val];exact .row b
 | rp b i n o=>rw[←(hB b).blk,←(hB b).off];exact .rp b i n o
 | part b lo n k v h=>exact .part b lo n k v (by unfold PartV at h⊢;rw[(hB b).nil,(hB b).blk,(hB b).off,(hB b).cap];exact h)
 | mp b=>rw[←(hB b).blk];exact .mp b
 | csl b n k=>rw[←(hB b).blk,←(hB b).off];exact .csl b n k
 | ptc b lo n k v h=>exact .ptc b lo n k v (by unfold PtV at h⊢;rw[(hB b).nil,(hB b).blk,(hB b).off,(hB b).cap];exact h)
 | agg cs ds hl _ ih=>exact .agg cs ds hl ih
 | tup cs ds hl _ ih=>exact .tup cs ds hl ih
 | fn g fs cs fd cd hl _ hl2 _ ih ih2=>exact .fn g fs cs fd cd hl ih hl2 ih2
 | yld i=>rw[←(hB i).blk];exact .yld i
 | any x=>exact .any x
theorem VRs.same(hB:∀ i,SameP (B' i) (B i)){ss:List SV}{ds:List Value}(h:VRs B F w ss ds):VRs B' F w ss ds:=⟨h.1,fun i s d h1 h2=>(h.2 i s d h1 h2).same hB⟩
theorem MapR.same(hB:∀ i,SameP (B' i) (B i)){k:IntKind}{es:List (Int×SV)}{p:Nat}{ord:Nat→Nat}{en:Array MapEntry}(h:MapR B F w k es p ord en):MapR B' F w k es p ord en :=
 ⟨h.size,h.born,h.inv,h.fix,h.le,h.nd,fun i x hx=>by
  obtain⟨e,h1,h2,h3⟩:=h.ent i x hx
  exact⟨e,h1,h2,h3.same hB⟩⟩
theorem BlkR.same[HasP](hB:∀ i,SameP (B' i) (B i)){b:Blk}{p:Place}(hi:∀ mb n s l,b=Blk.iter mb n s l→B' mb=B mb)(h:BlkR B F w b p):BlkR B' F w b p:=by
 cases b with
 | cells cs t =>
  obtain⟨h0,h1,ds,h2,h3⟩:=h
  exact⟨h0,h1,ds,h2,h3.same hB⟩
 | row T l t fz=>exact h
 | rnd r =>
  obtain⟨h0,fn,tm,df,h1,h2,h3⟩:=h
  exact⟨h0,fn,tm,df,h1,h2.same hB,h3⟩
 | dead=>exact h
 | gone=>trivial
 | map k es n =>
  obtain⟨h0,en,h1,h2⟩:=h
  exact⟨h0,en,h1,h2.same hB⟩
 | iter mb n seen last =>
  simp only[BlkR]at h⊢
  rw[hi mb n seen last rfl];exact h
theorem RM.perm[HasP]{w0:World}{m:Nat}{mem:Mem}(h:RM w0 m B F mem w){b:Nat}{k:IntKind}{L L':List (Int×SV)}{p:Nat}(hb:mem[b]? = some (some (.map k L p)))(hno:∀ (i mb n:Nat) (s:List Nat) (l:Option Nat),mem[i]? = some (some (Blk.iter mb n s l))→mb≠b)
  (σ τ:Nat→Nat) (h1:∀ q,τ (σ q)=q) (h2:∀ q,σ (τ q)=q) (hlen:L'.length=L.length) (hget:∀ q,L'[q]? = L[σ q]?) (hfix:∀ q,L.length≤q→σ q=q) :
  RM w0 m (upd B b { B b with ord:=fun q=>(B b).ord (σ q) }) F (mem.set b (some (.map k L' L'.length))) w:=by
 have hilt:b < mem.length:=(List.getElem?_eq_some_iff.1 hb).1
 have hB:∀ i,SameP (upd B b { B b with ord:=fun q=>(B b).ord (σ q) } i) (B i):=fun i=>by
  by_cases e:i=b
  ·subst e;rw[upd_new];exact⟨rfl,rfl,rfl,rfl,rfl⟩
  ·rw[upd_old B e];exact⟨rfl,rfl,rfl,rfl,rfl⟩
 have hlk:∀ (j:Nat) (x:Blk),(mem.set b (some (.map k L' L'.length)))[j]? = some (some x)→(j≠b∧mem[j]? = some (some x))∨(j=b∧x=.map k L' L'.length):=by
  intro j x hj
  rw[List.getElem?_set]at hj
  by_cases e:b=j
  ·subst e;simp[hilt]at hj;exact .inr ⟨rfl,hj.symm⟩
  ·simp[e]at hj;exact .inl ⟨fun e'=>e e'.symm,hj⟩
 have hold:∀ (j:Nat) (x:Blk),(mem.set b (some (.map k L' L'.length)))[j]? = some (some x)→∃ y,mem[j]? = some (some y)∧y.on=x.on∧y.fz=x.fz:=fun j x hj=>by
  rcases hlk j x hj with⟨_,hj⟩ | ⟨rfl,rfl⟩
  ·exact⟨x,hj,rfl,rfl⟩
  ·exact⟨_,hb,rfl,rfl⟩
 have hlive:∀ j,Live mem j→Live (mem.set b (some (.map k L' L'.length))) j:=(ext_set (y:=.map k L' L'.length) hb (fun r h=>by cases h)).live
 have hmem:∀ x∈L',x∈L:=fun x hx=>by
  obtain⟨q,hq⟩:=List.getElem?_of_mem hx
  rw[hget]at hq
  exact List.mem_of_getElem? hq
 refine⟨fun j x hj=>?_,fun j x hm hj hn=>?_,fun i j x y hx hy ox oy hi hj e=>?_,fun j x hj s hs=>?_,fun j x hj ho hn hf=>?_,fun j x hj hn hf=>?_,h.fc,h.below⟩
 ·rcases hlk j x hj with⟨hne,hj'⟩ | ⟨rfl,rfl⟩
  ·rw[upd_old B hne]
   refine(h.blk j x hj').same hB fun mb n s l e=>?_
   subst e
   exact upd_old B (hno j mb n s l hj')
  ·rw[upd_new]
   obtain⟨h0,en,e1,e2⟩:=(h.blk j _ hb).same (B':=upd B j { B j with ord:=fun q=>(B j).ord (σ q) }) hB (fun _ _ _ _ e=>by cases e)
   refine⟨h0,en,by rw[hlen];exact e1,⟨by rw[hlen];exact e2.size,e2.born,?_,fun q hq=>?_,Nat.le_refl _,fun i j x y hx hy e=>?_,fun q x hx=>?_⟩⟩
   ·obtain⟨inv,i1,i2⟩:=e2.inv
    exact⟨fun q=>τ (inv q),fun q=>by simp only[i1,h1],fun q=>by simp only[h2,i2]⟩
   ·simp only
    rw[hfix q (by omega)]
    exact e2.fix q (by have:=e2.le;omega)
   ·rw[hget]at hx hy
    have:=e2.nd _ _ _ _ hx hy e
    rw[←h1 i,this,h1]
   ·rw[hget]at hx
    exact e2.ent _ _ hx
 ·obtain⟨y,hy,_⟩:=hold j x hj
  rw[(hB j).nil]at hn;rw[(hB j).blk];exact h.own j y hm hy hn
 ·obtain⟨x',hx',o1,_⟩:=hold i x hx
  obtain⟨y',hy',o2,_⟩:=hold j y hy
  rw[(hB i).nil]at hi;rw[(hB j).nil]at hj;rw[(hB i).blk,(hB j).blk]at e
  exact h.inj i j x' y' hx' hy' (o1.trans ox) (o2.trans oy) hi hj e
 ·rcases hlk j x hj with⟨_,hj'⟩ | ⟨rfl,rfl⟩
  ·exact(h.bd j x hj' s hs).mono hlive
  ·refine(h.bd j _ hb s ?_).mono hlive
   simp only[Blk.refs]at hs⊢
   obtain⟨x,hx,rfl⟩:=List.mem_map.1 hs
   exact List.mem_map.2 ⟨x,hmem x hx,rfl⟩
 ·obtain⟨y,hy,o1,o2⟩:=hold j x hj
  rw[(hB j).nil]at hn;rw[(hB j).blk];exact h.fr j y hy (o1.trans ho) hn (o2.trans hf)
 ·obtain⟨y,hy,o1,o2⟩:=hold j x hj
  rw[(hB j).nil]at hn;rw[(hB j).blk];exact h.fz j y hy hn (o2.trans hf)
theorem RM.wide[HasP]{w0:World}{m:Nat}{mem:Mem}(h:RM w0 m B F mem w){b:Nat}{k:IntKind}{es:List (Int×SV)}{p p':Nat}(hb:mem[b]? = some (some (.map k es p)))(hp:p'=es.length):RM w0 m B F (mem.set b (some (.map k es p'))) w:=by
 refine h.forget fun j b' hj=>?_
 have hilt:b < mem.length:=(List.getElem?_eq_some_iff.1 hb).1
 have hlive:∀ j,Live mem j→Live (mem.set b (some (.map k es p'))) j:=(ext_set (y:=.map k es p') hb (fun r h=>by cases h)).live
 rw[List.getElem?_set]at hj
 by_cases e:b=j
 ·subst e
  simp[hilt]at hj
  subst hj
  refine⟨_,hb,⟨rfl,fun _=>rfl⟩,fun hR=>?_,fun s hs=>(h.bd b _ hb s hs).mono hlive⟩
  obtain⟨h0,en,h1,h2⟩:=hR
  exact⟨h0,en,h1,h2.size,h2.born,h2.inv,fun i hi=>h2.fix i (by have:=h2.le;omega),by omega,h2.nd,h2.ent⟩
 ·simp[e]at hj
  exact⟨b',hj,⟨rfl,fun h=>h⟩,fun h=>h,fun s hs=>(h.bd j b' hj s hs).mono hlive⟩
def FreeAt(w0:World)(B:Loc)(F:Nat→Prop)(mem:Mem)(w:World)(k:Nat):Prop :=
 w0.heap.size≤k∧¬F k∧(∀ (i:Nat) (x:Blk),mem[i]? = some (some x)→x.on=true→(B i).nil=false→(B i).blk≠k)∧w.heap[k]?≠some (Obj.deferred (some []))
theorem live_gone{mem:Mem}{i:Nat}{b:Blk}(hx:mem[i]? = some (some b)):∀ j,Live mem j→Live (mem.set i (some .gone)) j:=(ext_set (y:=.gone) hx (fun r h=>by cases h)).live
theorem RM.give[HasP]{w0:World}{m:Nat}{mem:Mem}(h:RM w0 m B F mem w){i:Nat}{T:Ty}{l:List T.α}{t:TypeId}(hi:m≤i)(hx:mem[i]? = some (some (.row T l t false))):
  RM w0 m B F (mem.set i (some .gone)) w∧((B i).nil=false→FreeAt w0 B F (mem.set i (some .gone)) w (B i).blk):=by
 have hilt:i < mem.length:=(List.getElem?_eq_some_iff.1 hx).1
 have hlk:∀ (j:Nat) (x:Blk),(mem.set i (some .gone))[j]? = some (some x)→(j≠i∧mem[j]? = some (some x))∨(j=i∧x=.gone):=by
  intro j x hj
  rw[List.getElem?_set]at hj
  by_cases e:i=j
  ·subst e;simp[hilt]at hj;exact .inr ⟨rfl,hj.symm⟩
  ·simp[e]at hj;exact .inl ⟨fun e'=>e e'.symm,hj⟩
 refine⟨h.forget fun j b' hb=>?_,fun hn=>⟨h.own i _ hi hx hn,h.fr i _ hx rfl hn rfl,fun j x hj ho hnj e=>?_,?_⟩⟩
 ·rcases hlk j b' hb with⟨_,hj⟩ | ⟨rfl,rfl⟩
  ·exact⟨b',hj,⟨rfl,fun h=>h⟩,fun h=>h,fun s hs=>(h.bd j b' hj s hs).mono (live_gone hx)⟩
  ·exact⟨_,hx,⟨rfl,fun h=>by cases h⟩,fun _=>trivial,fun s hs=>by cases hs⟩
 ·rcases hlk j x hj with⟨hne,hj⟩ | ⟨rfl,rfl⟩
  ·exact hne (h.inj j i x _ hj hx ho rfl hnj hn e)
  ·cases ho
 ·rcases h.blk i _ hx with⟨h1,_⟩ | ⟨_,_,_,_,ds,h4,_⟩
  ·rw[h1]at hn;cases hn
  ·rw[h4];intro e;cases e
theorem RM.add[HasP]{w0:World}{m:Nat}{mem:Mem}(h:RM w0 m B F mem w)(q:Option Nat)(b:Blk)(p:Place)
  (hos:w'.os=w.os∧w'.tape=w.tape∧w'.output=w.output) (hsz:w.heap.size≤w'.heap.size) (hblk:∀ k,k < w.heap.size→some k≠q→w'.heap[k]? = w.heap[k]?)
  (hq:∀ k,q=some k→FreeAt w0 B F mem w k) (hp:p.nil=false→some p.blk=q∨w.heap.size≤p.blk) (hfz:b.fz=false)
  (hR:BlkR (upd B mem.length p) F w' b p) (hbd:∀ s∈b.refs,Bd (Live (mem++[some b])) s) :
  RM w0 m (upd B mem.length p) F (mem++[some b]) w'∧KeepsF F w w':=by
 have hno:=not_live_end mem
 have hlk:=get_push mem b
 have hold:∀ i,Live mem i→upd B mem.length p i=B i:=fun i hi=>upd_old B (fun e=>hno (e▸hi))
 have hlive:∀ i,Live mem i→Live (mem++[some b]) i:=(live_push' mem b).1
 have hk:KeepsF F w w':=⟨fun i hi=>hblk i (h.lt i hi) fun e=>(hq i e.symm).2.1 hi,fun df hd=>(hblk df (lt_of_some hd) fun e=>(hq df e.symm).2.2.2 hd).trans hd,hsz⟩
 refine⟨⟨?_,?_,?_,?_,?_,?_,h.fc.keep hk.f,⟨hos.1.trans h.below.os,hos.2.1.trans h.below.tape,hos.2.2.trans h.below.output,Nat.le_trans h.size hsz,fun k hk'=>?_⟩⟩,hk⟩
 ·intro i x hx
  rcases (hlk i x).1 hx with⟨hi,hx'⟩ | ⟨rfl,rfl⟩
  ·rw[hold i ⟨x,hx'⟩]
   exact((h.blk i x hx').mono (fun _ h=>h) hk fun ho=>⟨hsz,fun hn=>hblk _ ((h.blk i x hx').lt ho hn) fun e=>(hq _ e.symm).2.2.1 i x hx' ho hn rfl⟩).loc hold (h.bd i x hx')
  ·rw[upd_new];exact hR
 ·intro i x hm hx hn
  rcases (hlk i x).1 hx with⟨hi,hx'⟩ | ⟨rfl,rfl⟩
  ·rw[hold i ⟨x,hx'⟩]at hn⊢;exact h.own i x hm hx' hn
  ·rw[upd_new]at hn⊢
   rcases hp hn with e | e
   ·exact(hq _ e.symm).1
   ·exact Nat.le_trans h.size e
 ·have key:∀ (i:Nat) (x:Blk),mem[i]? = some (some x)→x.on=true→(B i).nil=false→p.nil=false→(B i).blk≠p.blk:=by
   intro i x hx ho hn hpn e
   rcases hp hpn with e' | e'
   ·exact(hq _ e'.symm).2.2.1 i x hx ho hn e
   ·have:=(h.blk i x hx).lt ho hn;omega
  intro i j x y hx hy ox oy hi hj e
  rcases (hlk i x).1 hx with⟨hi',hx'⟩ | ⟨rfl,rfl⟩<;>rcases (hlk j y).1 hy with⟨hj',hy'⟩ | ⟨rfl,rfl⟩
  ·rw[hold i ⟨x,hx'⟩]at hi e;rw[hold j ⟨y,hy'⟩]at hj e;exact h.inj i j x y hx' hy' ox oy hi hj e
  ·rw[hold i ⟨x,hx'⟩]at hi e;rw[upd_new]at hj e
   exact absurd e (key i x hx' ox hi hj)
  ·rw[hold j ⟨y,hy'⟩]at hj e;rw[upd_new]at hi e
   exact absurd e.symm (key j y hy' oy hj hi)
  ·rfl
 ·intro i x hx s hs
  rcases (hlk i x).1 hx with⟨hi,hx'⟩ | ⟨rfl,rfl⟩
  ·exact(h.bd i x hx' s hs).mono hlive
  ·exact hbd s hs
 ·intro i x hx ho hn hf
  rcases (hlk i x).1 hx with⟨hi,hx'⟩ | ⟨rfl,rfl⟩
  ·rw[hold i ⟨x,hx'⟩]at hn⊢;exact h.fr i x hx' ho hn hf
  ·rw[upd_new]at hn⊢
   rcases hp hn with e | e
   ·exact(hq _ e.symm).2.1
   ·intro hF;have:=h.lt _ hF;omega
 ·intro i x hx hn hf
  rcases (hlk i x).1 hx with⟨hi,hx'⟩ | ⟨rfl,rfl⟩
  ·rw[hold i ⟨x,hx'⟩]at hn⊢;exact h.fz i x hx' hn hf
  ·rw[hfz]at hf;cases hf
 ·have:=h.size
  rw[hblk k (by omega) fun e=>by have:=(hq k e.symm).1;omega];exact h.below.block k hk'
end
end Go.Q
namespace Go.Rx
open Go Go.RowKit
def freeD:Nat→Value→Bool
 | _,.bool _=>true
 | _,.int _ _=>true
 | _,.float _ _=>true
 | _,.complex _ _ _=>true
 | _,.string _=>true
 | _,.nilFunc=>true
 | _,.nilIface=>true
 | _,.pointer none=>true
 | _,.slice none _ _=>true
 | d+1,.agg cs=>cs.toList.all (freeD d)
 | d+1,.tuple vs=>vs.toList.all (freeD d)
 | d+1,.func _ f c=>f.toList.all (freeD d)&&c.toList.all (freeD d)
 | d+1,.iface _ v=>freeD d v
 | _,_=>false
def free(v:Value):Bool:=freeD 5 v
abbrev Loc:=Nat→Nat×Nat
def relA(B:Loc)(a:Addr):Addr:=⟨(B a.block).1,(B a.block).2+a.off,a.spot⟩
def rel(B:Loc)(x:Value):Value:=match x with
 | .pointer (some a)=>.pointer (some (relA B a))
 | .slice (some a) l c=>.slice (some (relA B a)) l c
 | .agg cs=>.agg (cs.attach.map fun v=>rel B v.1)
 | .tuple vs=>.tuple (vs.attach.map fun v=>rel B v.1)
 | .func fn f c=>.func fn (f.attach.map fun v=>rel B v.1) (c.attach.map fun v=>rel B v.1)
 | .iface t u=>.iface t (rel B u)
 | u=>u
termination_by SizeOf.sizeOf x
decreasing_by
 all_goals simp_wf
 all_goals first | omega | (have h:=Array.sizeOf_lt_of_mem v.2;omega)
section
variable (B:Loc)
@[simp] theorem rel_bool (b : Bool) : rel B (.bool b) = .bool b := by rw [rel]; all_goals simp
@[simp] theorem rel_int (k : IntKind) (n : Int) : rel B (.int k n) = .int k n := by rw [rel]; all_goals simp
@[simp] theorem rel_string (s : ByteArray) : rel B (.string s) = .string s := by rw [rel]; all_goals simp
@[simp] theorem rel_ptr (a : Addr) : rel B (.pointer (some a)) = .pointer (some (relA B a)) := by rw [rel]
@[simp] theorem rel_slice (a : Addr) (l c : Nat) : rel B (.slice (some a) l c) = .slice (some (relA B a)) l c := by rw [rel]
@[simp] theorem rel_agg (cs : Array Value) : rel B (.agg cs) = .agg (cs.map (rel B)) := by rw [rel]; simp
@[simp] theorem rel_tuple (cs : Array Value) : rel B (.tuple cs) = .tuple (cs.map (rel B)) := by rw [rel]; simp
@[simp] theorem rel_func (fn : Fn) (f c : Array Value) : rel B (.func fn f c) = .func fn (f.map (rel B)) (c.map (rel B)) := by rw [rel]; simp
@[simp] theorem rel_iface (t : TypeId) (v : Value) : rel B (.iface t v) = .iface t (rel B v) := by rw [rel]
@[simp] theorem rel_undef : rel B undef = undef := by simp [undef]
end
theorem map_id_of{f:Value→Value}(l:List Value)(h:∀ v∈l,f v=v):l.map f=l:=by
 induction l with
 | nil=>rfl
 | cons x xs ih=>simp only[List.map_cons,h x (List.mem_cons_self ..),ih (fun v hv=>h v (List.mem_cons_of_mem _ hv))]
theorem amap_id_of{f:Value→Value}(l:Array Value)(h:∀ v∈l.toList,f v=v):l.map f=l:=by
 apply Array.ext'
 rw[Array.toList_map]
 exact map_id_of _ h
theorem rel_freeD(B:Loc):∀ (d:Nat) (v:Value),freeD d v=true→rel B v=v:=by
 intro d
 induction d with
 | zero =>
  intro v h
  cases v with
  | pointer a=>cases a with
   | none=>rw[rel];all_goals simp
   | some a=>exact absurd h (by simp[freeD])
  | slice a _ _=>cases a with
   | none=>rw[rel];all_goals simp
   | some a=>exact absurd h (by simp[freeD])
  | agg _=>exact absurd h (by simp[freeD])
  | tuple _=>exact absurd h (by simp[freeD])
  | func _ _ _=>exact absurd h (by simp[freeD])
  | iface _ _=>exact absurd h (by simp[freeD])
  | _=>rw[rel];all_goals simp
 | succ d ih =>
  intro v h
  cases v with
  | agg cs=>simp only[freeD,List.all_eq_true]at h;rw[rel_agg,amap_id_of _ (fun v hv=>ih v (h v hv))]
  | tuple cs=>simp only[freeD,List.all_eq_true]at h;rw[rel_tuple,amap_id_of _ (fun v hv=>ih v (h v hv))]
  | func fn f c =>
   simp only[freeD,Bool.and_eq_true,List.all_eq_true]at h
   rw[rel_func,amap_id_of _ (fun v hv=>ih v (h.1 v hv)),amap_id_of _ (fun v hv=>ih v (h.2 v hv))]
  | iface t v=>simp only[freeD]at h;rw[rel_iface,ih v h]
  | pointer a=>cases a with
   | none=>rw[rel];all_goals simp
   | some a=>exact absurd h (by simp[freeD])
  | slice a _ _=>cases a with
   | none=>rw[rel];all_goals simp
   | some a=>exact absurd h (by simp[freeD])
  | _=>rw[rel];all_goals simp
theorem rel_free(B:Loc){v:Value}(h:free v=true):rel B v=v:=rel_freeD B 5 v h
def pureRun{α:Type}(P:Program):Sem α→Option α
 | .pure a=>some a
 | .program k=>pureRun P (k P)
 | .mark _ k=>pureRun P k
 | _=>none
theorem pureRun_run{α:Type}(P:Program):∀ (s:Sem α) (a:α),pureRun P s=some a→∀ w,s.run P w=.ok a w:=by
 intro s
 induction s with
 | pure a=>intro b h w;simp only[pureRun,Option.some.injEq]at h;subst h;rfl
 | program k ih=>intro b h w;simp only[pureRun]at h;simp only[Sem.run];exact ih P b h w
 | mark m k ih=>intro b h w;simp only[pureRun]at h;simp only[Sem.run];exact ih b h w
 | _=>intro b h w;simp[pureRun]at h
end Go.Rx
namespace Go.Rx
open Go Go.RowKit
abbrev Mem:=List (Option (List Value×TypeId))
def Live(mem:Mem)(i:Nat):Prop:=∃ x,mem[i]? = some (some x)
def Bd(D:Nat→Prop)(v:Value):Prop:=∀ B B':Loc,(∀ i,D i→B i=B' i)→rel B v=rel B' v
theorem Bd.mono{D D':Nat→Prop}{v:Value}(h:Bd D v)(hn:∀ i,D i→D' i):Bd D' v:=fun B B' hb=>h B B' fun i hi=>hb i (hn i hi)
def Ext(mem mem':Mem):Prop:=mem.length≤mem'.length∧∀ i,Live mem i→Live mem' i
theorem Ext.refl(mem:Mem):Ext mem mem:=⟨Nat.le_refl _,fun _ h=>h⟩
theorem Ext.trans{a b c:Mem}(h:Ext a b)(k:Ext b c):Ext a c:=⟨Nat.le_trans h.1 k.1,fun i hi=>k.2 i (h.2 i hi)⟩
theorem Live.lt{mem:Mem}{i:Nat}(h:Live mem i):i < mem.length:=by obtain⟨x,hx⟩:=h;exact(List.getElem?_eq_some_iff.1 hx).1
theorem Bd.ptr{n:Nat→Prop}{a:Addr}(h:n a.block):Bd n (.pointer (some a)):=fun B B' hb=>by simp[relA,hb _ h]
theorem Bd.slice{n:Nat→Prop}{a:Addr}{l c:Nat}(h:n a.block):Bd n (.slice (some a) l c):=fun B B' hb=>by simp[relA,hb _ h]
theorem Bd.undef{n:Nat→Prop}:Bd n undef:=fun B B' _=>by simp
theorem Bd.agg{n:Nat→Prop}{cs:Array Value}(h:∀ v∈cs.toList,Bd n v):Bd n (.agg cs):=fun B B' hb=>by
 rw[rel_agg,rel_agg];congr 1;apply Array.ext';rw[Array.toList_map,Array.toList_map];exact List.map_congr_left fun v hv=>h v hv B B' hb
theorem Bd.tuple{n:Nat→Prop}{cs:Array Value}(h:∀ v∈cs.toList,Bd n v):Bd n (.tuple cs):=fun B B' hb=>by
 rw[rel_tuple,rel_tuple];congr 1;apply Array.ext';rw[Array.toList_map,Array.toList_map];exact List.map_congr_left fun v hv=>h v hv B B' hb
theorem Bd.func{n:Nat→Prop}{fn:Fn}{f c:Array Value}(hf:∀ v∈f.toList,Bd n v)(hc:∀ v∈c.toList,Bd n v):Bd n (.func fn f c):=fun B B' hb=>by
 rw[rel_func,rel_func];congr 1
 ·apply Array.ext';rw[Array.toList_map,Array.toList_map];exact List.map_congr_left fun v hv=>hf v hv B B' hb
 ·apply Array.ext';rw[Array.toList_map,Array.toList_map];exact List.map_congr_left fun v hv=>hc v hv B B' hb
theorem map_eq_mem{α β:Type}{f g:α→β}:∀ {l:List α},l.map f=l.map g→∀ v∈l,f v=g v
 | [],_,v,hv=>by cases hv
 | x::l,h,v,hv=>by
  simp only[List.map_cons,List.cons.injEq]at h
  rcases List.mem_cons.1 hv with rfl | hv
  ·exact h.1
  ·exact map_eq_mem h.2 v hv
theorem Bd.of_agg{n:Nat→Prop}{cs:Array Value}(h:Bd n (.agg cs)){v:Value}(hv:v∈cs.toList):Bd n v:=fun B B' hb=>by
 have:=h B B' hb
 rw[rel_agg,rel_agg]at this
 have:=congrArg Array.toList (Value.agg.inj this)
 rw[Array.toList_map,Array.toList_map]at this
 exact map_eq_mem this v hv
theorem Bd.cells{n:Nat→Prop}{v:Value}(h:Bd n v):∀ c∈v.cells.toList,Bd n c:=by
 cases v with
 | agg cs=>exact fun c hc=>h.of_agg hc
 | _=>intro c hc;simp only[Value.cells,List.mem_singleton]at hc;subst hc;exact h
structure RM(w0:World)(m:Nat)(B:Loc)(mem:Mem)(w:World):Prop where
 own:∀ (i:Nat) (cs:List Value) (t:TypeId),m≤i→mem[i]? = some (some (cs,t))→w0.heap.size≤(B i).1∧(B i).2=0∧w.heap[(B i).1]? = some (.cells (cs.map (rel B)).toArray t (0,0))
 far:∀ (i:Nat) (cs:List Value) (t:TypeId),i < m→mem[i]? = some (some (cs,t))→(B i).1 < w0.heap.size∧∀ (j:Nat) (v:Value),cs[j]? = some v→w.cell? ⟨(B i).1,(B i).2+j,none⟩=some (rel B v)
 inj:∀ (i j:Nat) (x y:List Value×TypeId),m≤i→m≤j→mem[i]? = some (some x)→mem[j]? = some (some y)→(B i).1=(B j).1→i=j
 bd:∀ (i:Nat) (cs:List Value) (t:TypeId),mem[i]? = some (some (cs,t))→∀ v∈cs,Bd (Live mem) v
 below:Below w0.heap.size w0 w
theorem RM.size{w0 w:World}{m:Nat}{B:Loc}{mem:Mem}(h:RM w0 m B mem w):w0.heap.size≤w.heap.size:=h.below.size
theorem lt_of_some{w:World}{b:Nat}{o:Obj}(h:w.heap[b]? = some o):b < w.heap.size:=(Array.getElem?_eq_some_iff.1 h).1
def upd(B:Loc)(n b:Nat):Loc:=fun i=>if i=n then(b,0)else B i
theorem upd_old(B:Loc){n b i:Nat}(h:i≠n):upd B n b i=B i:=by simp[upd,h]
theorem upd_new(B:Loc)(n b:Nat):upd B n b n=(b,0):=by simp[upd]
theorem map_rel_upd{B B':Loc}{n:Nat→Prop}{cs:List Value}(hb:∀ i,n i→B' i=B i)(h:∀ v∈cs,Bd n v):cs.map (rel B')=cs.map (rel B) :=
 List.map_congr_left fun v hv=>h v hv B' B hb
theorem RM.allocAt{w0 w:World}{m:Nat}{B:Loc}{mem mem':Mem}(h:RM w0 m B mem w)(id:Nat)(hm:m≤id)(hno:¬Live mem id)(cs:List Value)(t:TypeId)(hcs:∀ v∈cs,Bd (Live mem) v)
  (hlk:∀ (i:Nat) (x:List Value×TypeId),mem'[i]? = some (some x)↔(i≠id∧mem[i]? = some (some x))∨(i=id∧x=(cs,t))) :
  RM w0 m (upd B id w.heap.size) mem' (w.alloc (.cells (cs.map (rel B)).toArray t)):=by
 have hold:∀ i,Live mem i→upd B id w.heap.size i=B i:=fun i hi=>upd_old B (fun e=>hno (e▸hi))
 have hlive:∀ i,Live mem i→Live mem' i:=fun i ⟨x,hx⟩=>⟨x,(hlk i x).2 (.inl ⟨fun e=>hno (e▸⟨x,hx⟩),hx⟩)⟩
 refine⟨?_,?_,?_,?_,?_⟩
 ·intro i cs' t' hi hx
  rcases (hlk i _).1 hx with⟨hi',hx'⟩ | ⟨rfl,e⟩
  ·obtain⟨h1,h2,h3⟩:=h.own i cs' t' hi hx'
   rw[hold i ⟨_,hx'⟩,map_rel_upd hold (h.bd i cs' t' hx')]
   exact⟨h1,h2,(heap_alloc_old _ _ _ (lt_of_some h3)).trans h3⟩
  ·cases e
   rw[upd_new,map_rel_upd hold hcs]
   exact⟨h.size,rfl,heap_alloc_new _ _⟩
 ·intro i cs' t' hi hx
  rcases (hlk i _).1 hx with⟨hi',hx'⟩ | ⟨rfl,e⟩
  ·obtain⟨h1,h2⟩:=h.far i cs' t' hi hx'
   rw[hold i ⟨_,hx'⟩]
   refine⟨h1,fun j v hv=>?_⟩
   rw[h.bd i cs' t' hx' v (List.mem_of_getElem? hv) _ B hold,←h2 j v hv]
   simp only[World.cell?]
   rw[heap_alloc_old _ _ _ (Nat.lt_of_lt_of_le h1 h.size)]
  ·omega
 ·intro i j x y hi hj hx hy e
  rcases (hlk i _).1 hx with⟨hi',hx'⟩ | ⟨rfl,ex⟩<;>rcases (hlk j _).1 hy with⟨hj',hy'⟩ | ⟨rfl,ey⟩
  ·rw[hold i ⟨_,hx'⟩,hold j ⟨_,hy'⟩]at e;exact h.inj i j x y hi hj hx' hy' e
  ·rw[hold i ⟨_,hx'⟩,upd_new]at e
   obtain⟨cs1,t1⟩:=x
   have:=lt_of_some (h.own i cs1 t1 hi hx').2.2
   simp at e;omega
  ·rw[hold j ⟨_,hy'⟩,upd_new]at e
   obtain⟨cs1,t1⟩:=y
   have:=lt_of_some (h.own j cs1 t1 hj hy').2.2
   simp at e;omega
  ·rfl
 ·intro i cs' t' hx v hv
  rcases (hlk i _).1 hx with⟨_,hx'⟩ | ⟨rfl,e⟩
  ·exact(h.bd i cs' t' hx' v hv).mono hlive
  ·cases e;exact(hcs v hv).mono hlive
 ·exact h.below.alloc h.size _
theorem get_push(mem:Mem)(x:List Value×TypeId)(i:Nat)(y:List Value×TypeId):(mem++[some x])[i]? = some (some y)↔(i≠mem.length∧mem[i]? = some (some y))∨(i=mem.length∧y=x):=by
 by_cases hi:i < mem.length
 ·rw[List.getElem?_append_left hi]
  exact⟨fun h=>.inl ⟨by omega,h⟩,fun h=>by rcases h with⟨_,h⟩ | ⟨h,_⟩<;>first | exact h | omega⟩
 ·rw[List.getElem?_append_right (by omega)]
  by_cases h0:i=mem.length
  ·subst h0
   simp only[Nat.sub_self,List.getElem?_cons_zero,Option.some.injEq,ne_eq,not_true,false_and,true_and,false_or]
   exact⟨fun h=>h.symm,fun h=>h.symm⟩
  ·have h1:([some x]:Mem)[i-mem.length]? = none:=List.getElem?_eq_none (by simp;omega)
   have h2:mem[i]? = none:=List.getElem?_eq_none (by omega)
   rw[h1,h2]
   simp[h0]
theorem not_live_end(mem:Mem):¬Live mem mem.length:=fun h=>Nat.lt_irrefl _ h.lt
theorem RM.alloc{w0 w:World}{m:Nat}{B:Loc}{mem:Mem}(h:RM w0 m B mem w)(hm:m≤mem.length)(cs:List Value)(t:TypeId)(hcs:∀ v∈cs,Bd (Live mem) v):
  RM w0 m (upd B mem.length w.heap.size) (mem++[some (cs,t)]) (w.alloc (.cells (cs.map (rel B)).toArray t)) :=
 h.allocAt mem.length hm (not_live_end mem) cs t hcs fun i x=>get_push mem (cs,t) i x
theorem RM.store{w0 w:World}{m:Nat}{B:Loc}{mem:Mem}(h:RM w0 m B mem w){i:Nat}{cs cs':List Value}{t:TypeId}(hi:m≤i)(hx:mem[i]? = some (some (cs,t)))(hbd:∀ v∈cs',Bd (Live mem) v):
  RM w0 m B (mem.set i (some (cs',t))) (w.setRow (B i).1 (cs'.map (rel B)).toArray):=by
 obtain⟨g1,g2,g3⟩:=h.own i cs t hi hx
 have hilt:i < mem.length:=(List.getElem?_eq_some_iff.1 hx).1
 have hsame:(w.setRow (B i).1 (cs'.map (rel B)).toArray).heap[(B i).1]? = some (.cells (cs'.map (rel B)).toArray t (0,0)):=setRow_heap w _ _ _ t _ g3
 have hother:∀ k,k≠(B i).1→(w.setRow (B i).1 (cs'.map (rel B)).toArray).heap[k]? = w.heap[k]? := by
  intro k hk
  show(w.heap.modify _ _)[k]? = _
  rw[Array.getElem?_modify];simp[hk.symm]
 have hlk:∀ (j:Nat) (x:List Value×TypeId),(mem.set i (some (cs',t)))[j]? = some (some x)→(j≠i∧mem[j]? = some (some x))∨(j=i∧x=(cs',t)):=by
  intro j x hj
  rw[List.getElem?_set]at hj
  by_cases e:i=j
  ·subst e;simp[hilt]at hj;exact .inr ⟨rfl,hj.symm⟩
  ·simp[e]at hj;exact .inl ⟨fun e'=>e e'.symm,hj⟩
 have hlive:∀ j,Live mem j→Live (mem.set i (some (cs',t))) j:=fun j ⟨x,hj⟩=>by
  by_cases e:i=j
  ·subst e;exact⟨(cs',t),by simp[hilt]⟩
  ·exact⟨x,by rw[List.getElem?_set];simp[e,hj]⟩
 refine⟨?_,?_,?_,?_,?_⟩
 ·intro j c2 t2 hj hy
  rcases hlk j _ hy with⟨hne,hy'⟩ | ⟨rfl,e⟩
  ·obtain⟨k1,k2,k3⟩:=h.own j c2 t2 hj hy'
   exact⟨k1,k2,(hother _ (fun e=>hne (h.inj j i _ _ hj hi hy' hx e))).trans k3⟩
  ·cases e;exact⟨g1,g2,hsame⟩
 ·intro j c2 t2 hj hy
  rcases hlk j _ hy with⟨hne,hy'⟩ | ⟨rfl,e⟩
  ·obtain⟨k1,k2⟩:=h.far j c2 t2 hj hy'
   refine⟨k1,fun q v hv=>?_⟩
   rw[←k2 q v hv]
   simp only[World.cell?]
   rw[hother _ (by omega)]
  ·omega
 ·intro j k x y hj hk hx' hy' e
  rcases hlk j _ hx' with⟨_,hx''⟩ | ⟨rfl,_⟩<;>rcases hlk k _ hy' with⟨_,hy''⟩ | ⟨rfl,_⟩
  ·exact h.inj j k _ _ hj hk hx'' hy'' e
  ·exact h.inj j k _ _ hj hk hx'' hx e
  ·exact h.inj j k _ _ hj hk hx hy'' e
  ·rfl
 ·intro j c2 t2 hy v hv
  rcases hlk j _ hy with⟨_,hy'⟩ | ⟨rfl,e⟩
  ·exact(h.bd j c2 t2 hy' v hv).mono hlive
  ·cases e;exact(hbd v hv).mono hlive
 ·refine⟨h.below.os,h.below.tape,h.below.output,?_,?_⟩
  ·rw[size_setRow];exact h.below.size
  ·intro k hk;rw[hother k (by omega)];exact h.below.block k hk
end Go.Rx
namespace Go.Rx
open Go Go.RowKit
def okOp:Operand→Bool
 | .tmp _=>true
 | .const v=>free v
 | .func _=>true
 | .global _=>false
def ev(ts:List Value):Operand→Value
 | .tmp t=>ts.getD t undef
 | .const v=>v
 | .func f=>.func (.func f) #[] #[]
 | .global _=>undef
def aggD:TypeDesc→Bool
 | .struct _=>true
 | .array _ _=>true
 | _=>false
def sizeE(P:Program)(t:TypeId):Option Nat:=(P.info? t).map (·.size)
def isSel:Op→Bool
 | .select _ _=>true
 | _=>false
def pureE(P:Program)(ts:List Value)(o:Oper):Option Value :=
 if o.op.operands.toList.all (fun x=>okOp x&&free (ev ts x))&&!isSel o.op then
  match pureRun P (execOp (ev ts) o)with
  | some (.value v)=>if free v then some v else none
  | _=>none
 else none
section
variable {P:Program}{w0 w:World}{m:Nat}{B:Loc}{mem mem':Mem}{ts:List Value}{a:Act}{o:Oper}{v:Value}
theorem ev_rel(hT:a.tmps=(ts.map (rel B)).toArray){x:Operand}(hx:okOp x=true):a.eval x=rel B (ev ts x):=by
 cases x with
 | tmp t =>
  simp only[ev,Act.eval,hT,Array.getD_eq_getD_getElem?,List.getElem?_toArray,List.getElem?_map,List.getD]
  cases ts[t]? <;> simp
 | const v=>exact(rel_free B hx).symm
 | func f=>simp[ev,Act.eval]
 | global g=>simp[okOp]at hx
theorem run_sizeOf{t:TypeId}{n:Nat}(h:sizeE P t=some n):(sizeOf t).run P w=.ok n w:=by
 unfold sizeE at h
 cases hq:P.info? t with
 | none=>simp[hq]at h
 | some i=>simp[hq]at h;simp[sizeOf,typeInfo,hq,h]
theorem run_isAgg{t:TypeId}{d:TypeDesc}(h:P.underlying t=some d):(isAgg t).run P w=.ok (aggD d) w:=by
 unfold isAgg
 rw[Sem.run_bind,run_underlying h w]
 cases d<;>rfl
theorem RM.cell(h:RM w0 m B mem w){b o:Nat}{cs:List Value}{t:TypeId}(hx:mem[b]? = some (some (cs,t))){j:Nat}{u:Value}(hv:cs[j]? = some u):
  w.cell? ⟨(B b).1,(B b).2+j,none⟩=some (rel B u):=by
 by_cases hb:m≤b
 ·obtain⟨_,h2,h3⟩:=h.own b cs t hb hx
  rw[h2,cell_of_row w _ _ _ _ _ h3]
  simp[hv]
 ·exact(h.far b cs t (by omega) hx).2 j u hv
theorem run_v{s:Sem Value}{u:Value}{w':World}(h:s.run P w=.ok u w'):(do pure (Next.value (←s)):Sem Next).run P w=.ok (.value u) w':=by
 rw[Sem.run_bind,h];rfl
theorem run_u{s:Sem Unit}{w':World}(h:s.run P w=.ok () w'):(do s;pure Next.skip:Sem Next).run P w=.ok .skip w':=by
 rw[Sem.run_bind,h];rfl
theorem pureE_sound(hT:a.tmps=(ts.map (rel B)).toArray)(h:pureE P ts o=some v):(execOp a.eval o).run P w=.ok (.value (rel B v)) w∧free v=true:=by
 unfold pureE at h
 split at h
 ·rename_i hc
  simp only[Bool.and_eq_true,List.all_eq_true,Bool.not_eq_true']at hc
  obtain⟨hops,hsel⟩:=hc
  split at h
  ·rename_i u hp
   split at h
   ·rename_i hf
    cases h
    refine⟨?_,hf⟩
    have hcg:execOp a.eval o=execOp (ev ts) o:=execOp_congr o (fun cs b e=>by rw[e]at hsel;simp[isSel]at hsel) (fun x hx=>by
     obtain⟨h1,h2⟩:=hops x (by simpa using hx)
     rw[ev_rel hT h1,rel_free B h2])
    rw[hcg,pureRun_run P _ _ hp w,rel_free B hf]
   ·cases h
  ·cases h
 ·cases h
end
end Go.Rx
namespace Go.Rx
open Go.IntKind (i64)
open Go Go.RowKit
structure TE where
 α:Type
 x:Option α
 enc:α→Value
def sIdx(s:ByteArray)(i:Int):Option UInt8:=if 0≤i then s[i.toNat]? else none
def sCat(a b:ByteArray):Option ByteArray:=if((a.size+b.size:Nat):Int) > i64.max then none else some (a++b)
def iQuo(k:IntKind)(a b:Int):Option Int:=if b=0 then none else some (k.wrap (a.tdiv b))
def iShl(k:IntKind)(a b:Int):Option Int:=if 0≤b then some (k.wrap (a*2 ^ min b.toNat k.bits))else none
def iRem(a b:Int):Option Int:=if b=0 then none else some (a.tmod b)
def bnd(i:Option Int)(top dflt:Nat):Option Nat:=match i with
 | none=>some dflt
 | some i=>if 0≤i∧i≤top then some i.toNat else none
def sCut(s:ByteArray)(lo hi:Option Int):Option ByteArray:=(bnd hi s.size s.size).bind fun h=>(bnd lo h 0).bind fun l=>some (s.extract l h)
def evI(ts:List Value):Option Operand→Option (Option Int)
 | none=>some none
 | some x=>if okOp x then match ev ts x with
  | .int _ i=>some (some i)
  | _=>none else none
def partV(P:Program)(t:TypeId)(cs:Array Value)(off:Nat):Option Value :=
 match P.underlying t,sizeE P t with
 | some d,some n=>if aggD d then some (.agg (cs.extract off (off+n)))else cs[off]?
 | _,_=>none
def eqFs(P:Program)(e:TypeId→Value→Value→Option Bool)(xs ys:Array Value):List Field→Option Bool
 | []=>some true
 | f::fs=>if f.name≠ "_" then match partV P f.type xs f.offset,partV P f.type ys f.offset with
   | some a,some b=>match e f.type a b,eqFs P e xs ys fs with
    | some r,some q=>some (r&&q)
    | _,_=>none
   | _,_=>none
  else eqFs P e xs ys fs
def eqE(P:Program):Nat→TypeId→Value→Value→Option Bool
 | 0,_,_,_=>none
 | d+1,t,x,y=>match P.underlying t,x,y with
  | some (.int _),.int k a,.int k' b=>if k=k' then some (a==b)else none
  | some .bool,.bool a,.bool b=>some (a==b)
  | some .string,.string a,.string b=>some (a==b)
  | some (.struct fs),.agg xs,.agg ys=>if P.stoodInHeld t then none else eqFs P (eqE P d) xs ys fs.toList
  | _,_,_=>none
def partE(P:Program)(ts:List Value)(o:Oper):Option TE :=
 match o.op with
 | .index t x ix=>if okOp x&&okOp ix then
   match P.underlying t,ev ts x,ev ts ix with
   | some .string,.string s,.int _ i=>some ⟨UInt8,sIdx s i,fun b=>.int .u8 (b.toNat:Int)⟩
   | _,_,_=>none
  else none
 | .binOp op t x y _=>if okOp x&&okOp y then
   match op,ev ts x,ev ts y with
   | .add,.string a,.string b=>some ⟨ByteArray,sCat a b,.string⟩
   | .quo,.int k a,.int k' b=>if k=k' then some ⟨Int,iQuo k a b,.int k⟩else none
   | .rem,.int k a,.int k' b=>if k=k' then some ⟨Int,iRem a b,.int k⟩else none
   | .shl,.int k a,.int _ b=>some ⟨Int,iShl k a b,.int k⟩
   | .eql,.agg xs,.agg ys=>if P.eqGuardType P.depth t||!(free (.agg xs)&&free (.agg ys))then none else match eqE P 20 t (.agg xs) (.agg ys)with
    | some b=>some ⟨Bool,some b,.bool⟩
    | none=>none
   | .neq,.agg xs,.agg ys=>if P.eqGuardType P.depth t||!(free (.agg xs)&&free (.agg ys))then none else match eqE P 20 t (.agg xs) (.agg ys)with
    | some b=>some ⟨Bool,some (!b),.bool⟩
    | none=>none
   | _,_,_=>none
  else none
 | .slice t x lo hi none=>if okOp x then
   match P.underlying t,ev ts x,evI ts lo,evI ts hi with
   | some .string,.string s,some l,some h=>some ⟨ByteArray,sCut s l h,.string⟩
   | _,_,_,_=>none
  else none
 | _=>none
section
variable {P:Program}{w0 w:World}{m:Nat}{B:Loc}{mem mem':Mem}{ts:List Value}{a:Act}{o:Oper}{v:Value}
theorem run_part{t:TypeId}{cs:Array Value}{off:Nat}(h:partV P t cs off=some v):(part t cs off).run P w=.ok v w:=by
 unfold partV at h
 split at h
 ·rename_i d n hd hn
  split at h
  ·rename_i hag
   cases h
   simp only[part,Sem.run_bind,run_isAgg hd,Result.andThen_ok,hag,if_true,run_sizeOf hn,Sem.run_pure]
  ·rename_i hag
   have hag':aggD d=false:=by simpa using hag
   simp only[part,Sem.run_bind,run_isAgg hd,Result.andThen_ok,hag',Bool.false_eq_true,if_false,h,Sem.run_pure]
 ·cases h
theorem eqFs_sound{e:TypeId→Value→Value→Option Bool}{d:Nat}(he:∀ t x y r,e t x y=some r→∀ w,(Op.equalIn d t x y).run P w=.ok r w)(xs ys:Array Value):
  ∀ (fs:List Field) (r:Bool),eqFs P e xs ys fs=some r→∀ w,(Op.eqFields d xs ys fs).run P w=.ok r w
 | [],r,h,w=>by simp only[eqFs,Option.some.injEq]at h;subst h;rfl
 | f::fs,r,h,w=>by
  simp only[eqFs]at h
  simp only[Op.eqFields]
  split at h
  ·rename_i hn
   rw[if_pos hn]
   split at h
   ·rename_i x y hx hy
    split at h
    ·rename_i b q hb hq
     cases h
     simp only[Sem.run_bind,run_part hx,Result.andThen_ok,run_part hy,he _ _ _ _ hb]
     cases b with
     | false=>simp
     | true=>simpa using eqFs_sound he xs ys fs q hq w
    ·cases h
   ·cases h
  ·rename_i hn
   rw[if_neg hn]
   exact eqFs_sound he xs ys fs r h w
theorem eqE_sound:∀ (d D:Nat),d≤D→∀ (t:TypeId) (x y:Value) (r:Bool),eqE P d t x y=some r→∀ w,(Op.equalIn D t x y).run P w=.ok r w
 | 0,_,_,_,_,_,_,h,_=>by cases h
 | d+1,0,hD,_,_,_,_,_,_=>by omega
 | d+1,D+1,hD,t,x,y,r,h,w=>by
  simp only[eqE]at h
  split at h
  ·rename_i hu
   split at h
   ·rename_i hk;cases h;simp[Op.equalIn,run_underlying hu,hk]
   ·cases h
  ·rename_i hu;cases h;simp[Op.equalIn,run_underlying hu]
  ·rename_i hu;cases h;simp[Op.equalIn,run_underlying hu]
  ·rename_i fs xs ys hu
   split at h
   ·cases h
   ·rename_i hp
    have hf:P.fieldsOf t=fs:=by simp[Program.fieldsOf,hu]
    rw[run_equalIn_struct w D t xs ys (by rw[hf];exact hu) (by simpa using hp),hf]
    exact eqFs_sound (fun t x y r hr w=>eqE_sound d D (by omega) t x y r hr w) xs ys fs.toList r h w
  ·cases h
theorem run_bnd{x:Value}{k:IntKind}{i:Int}{top q:Nat}{c:BoundsCode}(hx:x=.int k i)(h:bnd (some i) top 0=some q):(Instr.sliceBound x top c).run P w=.ok q w:=by
 unfold bnd at h
 simp only at h
 split at h
 ·rename_i hc
  cases h
  simp[Instr.sliceBound,hx,asIntOf,hc]
 ·cases h
theorem evI_spec(hT:a.tmps=(ts.map (rel B)).toArray){x:Option Operand}{r:Option Int}(h:evI ts x=some r):
  (x=none∧r=none)∨∃ y i k,x=some y∧r=some i∧a.eval y=.int k i:=by
 unfold evI at h
 cases x with
 | none=>cases h;exact .inl ⟨rfl,rfl⟩
 | some y =>
  simp only at h
  split at h
  ·rename_i hy
   have he:=ev_rel hT hy
   split at h
   ·rename_i k i hev
    cases h
    rw[hev,rel_int]at he
    exact .inr ⟨y,_,_,rfl,rfl,he⟩
   ·cases h
  ·cases h
theorem partE_sound(hT:a.tmps=(ts.map (rel B)).toArray){T:TE}(h:partE P ts o=some T){y:T.α}(hy:T.x=some y):
  (execOp a.eval o).run P w=.ok (.value (T.enc y)) w∧free (T.enc y)=true:=by
 unfold partE at h
 split at h
 ·rename_i t x ix hop
  split at h
  ·rename_i hok
   simp only[Bool.and_eq_true]at hok
   have hx:=ev_rel hT hok.1
   have hix:=ev_rel hT hok.2
   split at h
   ·rename_i s kd i hu e1 e2
    cases h
    rw[e1,rel_string]at hx
    rw[e2,rel_int]at hix
    refine⟨?_,rfl⟩
    simp only[execOp,hop,hx,hix]
    refine run_v ?_
    simp only[sIdx]at hy
    simp only[Instr.index,asIntOf,Sem.run_bind,Sem.run_pure,Result.andThen_ok,run_underlying hu,hy]
   ·cases h
  ·cases h
 ·rename_i op t x y' yt hop
  split at h
  ·rename_i hok
   simp only[Bool.and_eq_true]at hok
   have hx:=ev_rel hT hok.1
   have hy':=ev_rel hT hok.2
   split at h
   ·rename_i p q e1 e2
    cases h
    rw[e1,rel_string]at hx
    rw[e2,rel_string]at hy'
    refine⟨?_,rfl⟩
    simp only[execOp,hop,hx,hy']
    refine run_v ?_
    simp only[sCat]at hy
    split at hy
    ·cases hy
    ·rename_i hc
     cases hy
     have h1:i64.max=9223372036854775807:=by decide
     rw[h1]at hc
     have hc':(p.size:Int)+(q.size:Int)≤9223372036854775807:=by omega
     simp[eqGuard,binOp,Op.stringOp,hc']
   ·rename_i k p k' q e1 e2
    split at h
    ·rename_i hk
     cases h
     subst hk
     rw[e1,rel_int]at hx
     rw[e2,rel_int]at hy'
     refine⟨?_,rfl⟩
     simp only[execOp,hop,hx,hy']
     refine run_v ?_
     simp only[iQuo]at hy
     split at hy
     ·cases hy
     ·rename_i hc
      cases hy
      simp[eqGuard,binOp,Op.intDiv,hc]
    ·cases h
   ·rename_i k p k' q e1 e2
    split at h
    ·rename_i hk
     cases h
     subst hk
     rw[e1,rel_int]at hx
     rw[e2,rel_int]at hy'
     refine⟨?_,rfl⟩
     simp only[execOp,hop,hx,hy']
     refine run_v ?_
     simp only[iRem]at hy
     split at hy
     ·cases hy
     ·rename_i hc
      cases hy
      simp[eqGuard,binOp,Op.intDiv,hc]
    ·cases h
   ·rename_i k p k' q e1 e2
    cases h
    rw[e1,rel_int]at hx
    rw[e2,rel_int]at hy'
    refine⟨?_,rfl⟩
    simp only[execOp,hop,hx,hy']
    refine run_v ?_
    simp only[iShl]at hy
    split at hy
    ·rename_i hc
     cases hy
     have hc':¬q < 0:=by omega
     simp[eqGuard,binOp,Op.shift,hc']
    ·cases hy
   ·rename_i xs ys e1 e2
    split at h
    ·cases h
    ·rename_i hgd
     simp only[Bool.or_eq_true,Bool.not_eq_true',Bool.and_eq_false_iff,not_or,Bool.not_eq_true,Bool.not_eq_false]at hgd
     obtain⟨hgd,hfx,hfy⟩:=hgd
     split at h
     ·rename_i b hb
      cases h
      cases hy
      rw[e1,rel_free B hfx]at hx
      rw[e2,rel_free B hfy]at hy'
      refine⟨?_,rfl⟩
      simp only[execOp,hop,hx,hy']
      refine run_v ?_
      rw[Sem.run_bind,run_eqGuard_agg w _ t x y' xs ys hgd,Result.andThen_ok,run_eql_struct,eqE_sound 20 10000 (by omega) t _ _ b hb w]
      rfl
     ·cases h
   ·rename_i xs ys e1 e2
    split at h
    ·cases h
    ·rename_i hgd
     simp only[Bool.or_eq_true,Bool.not_eq_true',Bool.and_eq_false_iff,not_or,Bool.not_eq_true,Bool.not_eq_false]at hgd
     obtain⟨hgd,hfx,hfy⟩:=hgd
     split at h
     ·rename_i b hb
      cases h
      cases hy
      rw[e1,rel_free B hfx]at hx
      rw[e2,rel_free B hfy]at hy'
      refine⟨?_,rfl⟩
      simp only[execOp,hop,hx,hy']
      refine run_v ?_
      rw[Sem.run_bind,run_eqGuard_agg w _ t x y' xs ys hgd,Result.andThen_ok,run_neq_struct,eqE_sound 20 10000 (by omega) t _ _ b hb w]
      rfl
     ·cases h
   ·cases h
  ·cases h
 ·rename_i t x lo hi hop
  split at h
  ·rename_i hok
   have hx:=ev_rel hT hok
   split at h
   ·rename_i s l hh hu e1 e2 e3
    cases h
    rw[e1,rel_string]at hx
    refine⟨?_,rfl⟩
    simp only[execOp,hop,hx]
    refine run_v ?_
    simp only[sCut]at hy
    obtain⟨hv,hh1,hy⟩:=Option.bind_eq_some_iff.1 hy
    obtain⟨lv,hl1,hy⟩:=Option.bind_eq_some_iff.1 hy
    cases hy
    have key:(Instr.sliceBounds false s.size s.size (lo.map a.eval) (hi.map a.eval) none).run P w=.ok (lv,hv,s.size) w:=by
     unfold Instr.sliceBounds
     rcases evI_spec hT e2 with⟨rfl,rfl⟩ | ⟨lx,li,lk,rfl,rfl,hle⟩<;>rcases evI_spec hT e3 with⟨rfl,rfl⟩ | ⟨hx',hi',hk',rfl,rfl,hhe⟩
     ·simp only[bnd,Option.some.injEq]at hh1 hl1
      subst hh1 hl1
      simp
     ·simp only[bnd,Option.some.injEq]at hl1
      subst hl1
      have:=run_bnd (P:=P) (w:=w) (c:=.sliceAlen) hhe hh1
      simp[this]
     ·simp only[bnd,Option.some.injEq]at hh1
      subst hh1
      have:=run_bnd (P:=P) (w:=w) (c:=.sliceB) hle hl1
      simp[this]
     ·have h1:=run_bnd (P:=P) (w:=w) (c:=.sliceAlen) hhe hh1
      have h2:=run_bnd (P:=P) (w:=w) (c:=.sliceB) hle hl1
      simp[h1,h2]
    simp only[Instr.sliceAt,Sem.run_bind,run_underlying hu,Result.andThen_ok,Instr.slice,Option.map_none,Option.isSome_none,Bool.false_eq_true,if_false,Sem.run_pure,key]
   ·cases h
  ·cases h
 ·cases h
end
end Go.Rx
namespace Go.Q
open Go Go.RowKit
def ofVal:Nat→Value→SV
 | d+1,.agg cs=>.agg (cs.toList.map (ofVal d))
 | d+1,.tuple cs=>.tup (cs.toList.map (ofVal d))
 | d+1,.func (.func g) f c=>.fn g (f.toList.map (ofVal d)) (c.toList.map (ofVal d))
 | 0,.agg _=>.any
 | 0,.tuple _=>.any
 | 0,.func (.func _) _ _=>.any
 | _,x=>.v x
def toV:Nat→SV→Option Value
 | _,.v x=>some x
 | d+1,.agg cs=>(cs.mapM (toV d)).map fun l=>.agg l.toArray
 | d+1,.tup cs=>(cs.mapM (toV d)).map fun l=>.tuple l.toArray
 | _,.fn g [] []=>some (.func (.func g) #[] #[])
 | _,_=>none
def SV.cells:SV→Option (List SV)
 | .agg cs=>some cs
 | .any=>none
 | .v (.agg _)=>none
 | s=>some [s]
def SV.one:SV→Bool
 | .v x=>x.oneCell'
 | .agg _=>false
 | .tup _=>false
 | .any=>false
 | _=>true
section
variable {B:Loc}{F:Nat→Prop}{w:World}
theorem vr_ofVal:∀ (d:Nat) (x:Value),VR B F w (ofVal d x) x
 | 0,x=>by
  unfold ofVal
  split
  all_goals first | (exact .any _) | (exact .v _) | (simp_all;done)
 | d+1,x=>by
  unfold ofVal
  split
  ·rename_i d' cs e
   cases e
   have:=VR.agg (B:=B) (F:=F) (w:=w) (cs.toList.map (ofVal d)) cs.toList (by simp) fun i s y hs hy=>by
    rw[List.getElem?_map,hy]at hs;simp at hs;subst hs;exact vr_ofVal d y
   simpa using this
  ·rename_i d' cs e
   cases e
   have:=VR.tup (B:=B) (F:=F) (w:=w) (cs.toList.map (ofVal d)) cs.toList (by simp) fun i s y hs hy=>by
    rw[List.getElem?_map,hy]at hs;simp at hs;subst hs;exact vr_ofVal d y
   simpa using this
  ·rename_i d' g f c e
   cases e
   have:=VR.fn (B:=B) (F:=F) (w:=w) g (f.toList.map (ofVal d)) (c.toList.map (ofVal d)) f.toList c.toList (by simp) (fun i s y hs hy=>by
    rw[List.getElem?_map,hy]at hs;simp at hs;subst hs;exact vr_ofVal d y) (by simp) (fun i s y hs hy=>by
    rw[List.getElem?_map,hy]at hs;simp at hs;subst hs;exact vr_ofVal d y)
   simpa using this
  all_goals first | (exact .any _) | (exact .v _) | (simp_all;done)
theorem bd_ofVal{D:Nat→Prop}:∀ (d:Nat) (x:Value),Bd D (ofVal d x)
 | 0,x=>by
  unfold ofVal
  split
  all_goals first | (exact .any) | (exact .v _) | (simp_all;done)
 | d+1,x=>by
  unfold ofVal
  split
  ·rename_i d' cs e
   cases e
   exact .agg fun s hs=>by obtain⟨y,_,rfl⟩:=List.mem_map.1 hs;exact bd_ofVal d y
  ·rename_i d' cs e
   cases e
   exact .tup fun s hs=>by obtain⟨y,_,rfl⟩:=List.mem_map.1 hs;exact bd_ofVal d y
  ·rename_i d' g f c e
   cases e
   exact .fn (fun s hs=>by obtain⟨y,_,rfl⟩:=List.mem_map.1 hs;exact bd_ofVal d y) (fun s hs=>by obtain⟨y,_,rfl⟩:=List.mem_map.1 hs;exact bd_ofVal d y)
  all_goals first | (exact .any) | (exact .v _) | (simp_all;done)
theorem toVs_eq{f:SV→Option Value}:∀ {cs:List SV} {l:List Value} {ds:List Value},cs.mapM f=some l→VRs B F w cs ds→(∀ s x d,f s=some x→VR B F w s d→d=x)→ds=l
 | [],l,ds,h,hv,_=>by
  simp at h;subst h
  have:=hv.1;simp at this;exact List.length_eq_zero_iff.1 this.symm
 | s::cs,l,ds,h,hv,hf=>by
  rw[List.mapM_cons]at h
  cases h1:f s with
  | none=>rw[h1]at h;cases h
  | some x =>
   rw[h1]at h
   cases h2:cs.mapM f with
   | none=>rw[h2]at h;cases h
   | some l' =>
    rw[h2]at h
    cases h
    obtain⟨d,ds',rfl,k1,k2⟩:=hv.head
    rw[hf s x d h1 k1,toVs_eq h2 k2 hf]
theorem toV_eq:∀ {d:Nat} {s:SV} {x y:Value},toV d s=some x→VR B F w s y→y=x
 | 0,s,x,y,h,hv=>by
  unfold toV at h
  split at h
  ·cases h;cases hv;rfl
  ·simp_all
  ·simp_all
  ·cases h
   cases hv with | fn _ _ _ fd cd h1 _ h2 _ =>
    have e1:fd=[]:=by simpa using h1.symm
    have e2:cd=[]:=by simpa using h2.symm
    subst e1;subst e2;rfl
  ·cases h
 | d+1,s,x,y,h,hv=>by
  unfold toV at h
  split at h
  ·cases h;cases hv;rfl
  ·rename_i d' cs e
   cases e
   cases h1:cs.mapM (toV d)with
   | none=>rw[h1]at h;cases h
   | some l =>
    rw[h1]at h;cases h
    obtain⟨ds,rfl,k⟩:=VRs.of_vr_agg hv
    rw[toVs_eq h1 k fun s x y hs hv=>toV_eq hs hv]
  ·rename_i d' cs e
   cases e
   cases h1:cs.mapM (toV d)with
   | none=>rw[h1]at h;cases h
   | some l =>
    rw[h1]at h;cases h
    obtain⟨ds,rfl,k⟩:=VRs.of_vr_tup hv
    rw[toVs_eq h1 k fun s x y hs hv=>toV_eq hs hv]
  ·cases h
   cases hv with | fn _ _ _ fd cd h1 _ h2 _ =>
    have e1:fd=[]:=by simpa using h1.symm
    have e2:cd=[]:=by simpa using h2.symm
    subst e1;subst e2;rfl
  ·cases h
theorem place_val(p:Place):p.val.cells.toList=[p.val]∧p.val.oneCell'=true:=by
 unfold Place.val;cases p.nil<;>exact⟨rfl,rfl⟩
theorem VR.cells{s:SV}{x:Value}(h:VR B F w s x){cs:List SV}(hc:s.cells=some cs):VRs B F w cs x.cells.toList:=by
 cases h with
 | v x =>
  cases x with
  | agg _=>cases hc
  | _=>cases hc;exact .cons (.v _) .nil
 | ptr b o=>cases hc;exact .cons (.ptr b o) .nil
 | sl T l u h =>
  cases hc
  have:x.cells.toList=[x]:=by
   obtain⟨v',e,h⟩:=h
   cases e
   rcases h with⟨_,rfl⟩ | ⟨b,o,cap,rfl,_⟩<;>rfl
  rw[this];exact .cons (.sl T l x h) .nil
 | ep T x o b a cs h1 h2 h3=>cases hc;exact .cons (.ep T x o b a cs h1 h2 h3) .nil
 | row b=>cases hc;rw[(place_val _).1];exact .cons (.row b) .nil
 | rp b i n o=>cases hc;exact .cons (.rp b i n o) .nil
 | agg cs ds h1 h2=>cases hc;exact⟨by simpa [Value.cells]using h1,by simpa [Value.cells]using h2⟩
 | tup cs ds h1 h2=>cases hc;exact .cons (.tup cs ds h1 h2) .nil
 | fn g fs cs fd cd h1 h2 h3 h4=>cases hc;exact .cons (.fn g fs cs fd cd h1 h2 h3 h4) .nil
 | yld i=>cases hc;exact .cons (.yld i) .nil
 | part b lo n k v h =>
  cases hc
  have:x.cells.toList=[x]:=by
   rcases h with⟨_,_,_,rfl⟩ | ⟨_,a,c,rfl,_⟩<;>rfl
  rw[this];exact .cons (.part b lo n k x h) .nil
 | mp b=>cases hc;exact .cons (.mp b) .nil
 | csl b n k=>cases hc;exact .cons (.csl b n k) .nil
 | ptc b lo n k v h =>
  cases hc
  have:x.cells.toList=[x]:=by obtain⟨_,c,rfl,_⟩:=h;rfl
  rw[this];exact .cons (.ptc b lo n k x h) .nil
 | any x=>cases hc
theorem bd_cells{D:Nat→Prop}{s:SV}(h:Bd D s){cs:List SV}(hc:s.cells=some cs):∀ c∈cs,Bd D c:=by
 cases s with
 | agg cs'=>cases hc;exact h.of_agg
 | any=>cases hc
 | v x =>
  cases x with
  | agg _=>cases hc
  | _=>cases hc;intro c hc';simp at hc';subst hc';exact h
 | _=>cases hc;intro c hc';simp at hc';subst hc';exact h
theorem VR.one{s:SV}{x:Value}(h:VR B F w s x)(ho:s.one=true):x.oneCell'=true:=by
 cases h with
 | v x=>exact ho
 | sl T l v h =>
  obtain⟨v',e,h⟩:=h
  cases e
  rcases h with⟨_,rfl⟩ | ⟨b,o,cap,rfl,_⟩<;>rfl
 | row b=>exact(place_val _).2
 | part b lo n k v h=>rcases h with⟨_,_,_,rfl⟩ | ⟨_,a,c,rfl,_⟩<;>rfl
 | ptc b lo n k v h=>obtain⟨_,c,rfl,_⟩:=h;rfl
 | agg _ _ _ _=>cases ho
 | tup _ _ _ _=>cases ho
 | any x=>cases ho
 | _=>rfl
end
def okOp:Operand→Bool
 | .global _=>false
 | _=>true
def ev(ts:List SV):Operand→SV
 | .tmp t=>ts.getD t .any
 | .const v=>ofVal 5 v
 | .func f=>.fn f [] []
 | .global _=>.any
section
variable {B:Loc}{F:Nat→Prop}{w:World}{ts:List SV}{a:Act}
theorem ev_vr(hT:VRs B F w ts a.tmps.toList){x:Operand}(hx:okOp x=true):VR B F w (ev ts x) (a.eval x):=by
 cases x with
 | tmp t =>
  simp only[ev,Act.eval,List.getD]
  cases h:ts[t]? with
  | none=>exact .any _
  | some s =>
   obtain⟨d,hd,hv⟩:=hT.get h
   have:a.tmps.getD t undef=d:=by
    rw[Array.getElem?_toList]at hd
    simp[Array.getD_eq_getD_getElem?,hd]
   rw[this];exact hv
 | const v=>exact vr_ofVal 5 v
 | func f=>exact .fn f [] [] [] [] rfl (fun i s d h=>by simp at h) rfl (fun i s d h=>by simp at h)
 | global g=>simp[okOp]at hx
theorem ev_bd{D:Nat→Prop}(hbd:∀ s∈ts,Bd D s)(x:Operand):Bd D (ev ts x):=by
 cases x with
 | tmp t =>
  simp only[ev,List.getD]
  cases h:ts[t]? with
  | none=>exact .any
  | some v=>exact hbd v (List.mem_of_getElem? h)
 | const v=>exact bd_ofVal 5 v
 | func f=>exact .fn (fun s hs=>by cases hs) (fun s hs=>by cases hs)
 | global g=>exact .any
end
inductive Res where
 | det (s:SV) (mem:Mem)
 | part (α:Type) (x:Option α) (out:α→SV×Mem)
 | alt (c:Bool) (x y:Res)
def Res.Out:Res→SV→Mem→Prop
 | .det s0 m0,s,m=>s=s0∧m=m0
 | .part α x out,s,m=>∃ y,x=some y∧out y=(s,m)
 | .alt c x y,s,m=>(c=true∧x.Out s m)∨(c=false∧y.Out s m)
def vals(ts:List SV):List Value:=ts.map fun s=>(toV 4 s).getD undef
def flatOps(ts:List SV)(o:Oper):Bool:=!Rx.isSel o.op&&o.op.operands.toList.all fun x=>match x with
 | .tmp t=>match toV 4 (ts.getD t .any)with
  | some v=>Rx.free v
  | none=>false
 | .const _=>true
 | _=>false
def sizeE:=Rx.sizeE
def aggD:=Rx.aggD
def takeAgg(d:TypeDesc)(cs:List SV)(o n:Nat):Option SV :=
 if aggD d then(if o+n≤cs.length then some (.agg ((cs.drop o).take n))else none)else cs[o]?
def loadE(P:Program)(mem:Mem)(t:TypeId)(s:SV):Option Res :=
 match P.underlying t,sizeE P t with
 | some d,some n=>match s with
  | .ptr b o=>match mem[b]? with
   | some (some (.cells cs _))=>(takeAgg d cs o n).map (.det · mem)
   | _=>none
  | .ep T x o=>(takeAgg d (cellsOf T x) o n).map (.det · mem)
  | .rp b i n' o=>match mem[b]? with
   | some (some (.row T l _ _))=>if n'=T.n∧o+n≤T.n∧0 < n then some (.part T.α l[i]? fun y=>((takeAgg d (cellsOf T y) o n).getD .any,mem))else none
   | _=>none
  | _=>none
 | _,_=>none
def ofC1(T:Ty)(ss:List SV):Option T.α:=match ofC T ss with
 | some (x,[])=>some x
 | _=>none
def upE{α:Type}(l:List α)(i:Nat)(f:α→Option α):Option (List α):=match l[i]? with
 | some y=>match f y with
  | some z=>some (l.set i z)
  | none=>none
 | none=>none
def storeE(P:Program)(m:Nat)(mem:Mem)(t:TypeId)(s v:SV):Option Res :=
  match sizeE P t,v.cells with
  | some n,some vc=>if vc.length=n∧vc.all (·.one)=true then match s with
    | .ptr b o=>match mem[b]? with
      | some (some (.cells cs ty))=>if m≤b∧o+n≤cs.length then some (.det .any (mem.set b (some (.cells (cs.take o++vc++cs.drop (o+n)) ty))))else none
      | _=>none
    | .rp b i n' o=>match mem[b]? with
      | some (some (.row T l ty false))=>if m≤b∧n'=T.n∧o+n≤T.n∧0 < n then
          some (.part (List T.α) (upE l i fun y=>ofC1 T ((cellsOf T y).take o++vc++(cellsOf T y).drop (o+n))) fun l'=>(.any,mem.set b (some (.row T l' ty false))))else none
      | _=>none
    | _=>none
   else none
  | _,_=>none
def fieldAddrE(P:Program)(s:TypeId)(f:Nat)(p:SV):Option SV :=
 match P.underlying s with
 | some (.struct fs) =>
  match fs[f]? with
  | some fd=>match sizeE P fd.type with
   | some (_+1)=>match p with
    | .ptr b o=>some (.ptr b (o+fd.offset))
    | .ep T x o=>some (.ep T x (o+fd.offset))
    | .rp b i n o=>some (.rp b i n (o+fd.offset))
    | _=>none
   | _=>none
  | none=>none
 | _=>none
def fieldE(P:Program)(s:TypeId)(f:Nat)(x:SV):Option SV :=
 match x with
 | .agg cs =>
  match P.underlying s with
  | some (.struct fs) =>
   match fs[f]? with
   | some fd=>match P.underlying fd.type,sizeE P fd.type with
    | some d,some n=>takeAgg d cs fd.offset n
    | _,_=>none
   | none=>none
  | _=>none
 | _=>none
def idxL{α:Type}(l:List α)(i:Int):Option α:=if 0≤i then l[i.toNat]? else none
def idxB(n:Nat)(i:Int):Option Nat:=if 0≤i∧i < n then some i.toNat else none
def indexAddrE(P:Program)(mem:Mem)(t:TypeId)(x ix:SV):Option Res :=
 match ix with
 | .v (.int _ i)=>match x with
  | .sl T l=>match P.underlying t with
   | some (.slice e)=>if sizeE P e=some T.n then some (.part T.α (idxL l i) fun y=>(.ep T y 0,mem))else none
   | _=>none
  | .row b=>match P.underlying t,mem[b]? with
   | some (.slice e),some (some (.row T l _ _))=>if sizeE P e=some T.n then some (.part Nat (idxB l.length i) fun j=>(.rp b j T.n 0,mem))else none
   | _,_=>none
  | .part b lo n k=>match P.underlying t,mem[b]? with
   | some (.slice e),some (some (.row T l _ _))=>if sizeE P e=some T.n∧k=T.n then some (.part Nat (idxB n i) fun j=>(.rp b (lo+j) T.n 0,mem))else none
   | _,_=>none
  | .ptr b o=>match P.underlying t with
   | some (.array n e)=>match sizeE P e with
    | some k=>if 2≤n∧0≤i∧i < n then some (.det (.ptr b (o+i.toNat*k)) mem)else none
    | none=>none
   | _=>none
  | _=>none
 | _=>none
def glE(P:Program)(mem:Mem)(t:TypeId)(x:Operand)(ix:SV):Option Res :=
 match x,ix with
 | .global g,.v (.int _ i)=>match P.underlying t with
  | some (.array n e)=>if sizeE P e=some 1∧n=(gtab g).length then some (.part Int (idxL (gtab g) i) fun v=>(.ep (.int .i64) v 0,mem))else none
  | _=>none
 | _,_=>none
def lenE(P:Program)(mem:Mem)(t:TypeId)(s:SV):Option SV :=
 match P.underlying t with
 | some (.slice _)=>match s with
  | .sl T l=>some (.v (.int .i64 l.length))
  | .row b=>match mem[b]? with
   | some (some (.row T l _ _))=>some (.v (.int .i64 l.length))
   | _=>none
  | .part _ _ n _=>some (.v (.int .i64 n))
  | _=>none
 | _=>none
def cutL{α:Type}(l:List α)(lo hi:Option Int):Option (List α) :=
 (Rx.bnd hi l.length l.length).bind fun h=>(Rx.bnd lo h 0).bind fun k=>some ((l.take h).drop k)
def cutB(n:Nat)(lo hi:Option Int):Option (Nat×Nat) :=
 (Rx.bnd hi n n).bind fun h=>(Rx.bnd lo h 0).bind fun k=>some (k,h-k)
def fromB(lo:Nat)(a:Option Int)(k:Nat):Nat:=match a with
 | none=>lo
 | some _=>lo+k
def evI(ts:List SV):Option Operand→Option (Option Int)
 | none=>some none
 | some x=>if okOp x then match ev ts x with
  | .v (.int _ i)=>some (some i)
  | _=>none else none
def rcOf(P:Program)(t:TypeId):Option Bool:=match P.underlying t with
 | some (.struct fs)=>match fs.toList.map fun f=>P.underlying f.type with
  | [some (.int .i64),some .string,some (.int .i64),some (.slice u)]=>bif u==t then some false else none
  | [some (.int .i64),some (.slice _),some (.slice u)]=>bif u==t then some true else none
  | _=>none
 | _=>none
def tyOf(P:Program):Nat→TypeId→Option Ty
 | 0,_=>none
 | d+1,t=>match P.underlying t with
  | some (.int k)=>some (.int k)
  | some .bool=>some .bool
  | some .string=>some .str
  | some (.slice e)=>(tyOf P d e).map .sl
  | some (.struct fs)=>match rcOf P t with
   | some c=>some (.rc c)
   | none=>fs.toList.foldr (fun f acc=>match tyOf P d f.type,acc with
    | some a,some b=>some (.pair a b)
    | _,_=>none) (some .unit)
  | some (.array n e)=>(tyOf P d e).map fun a=>n.rec .unit fun _ acc=>.pair a acc
  | _=>none
def mkL{α:Type}(n c:Int)(bytes:Nat)(z:α):Option (List α) :=
 if n=c∧0≤n∧(bytes:Int)*n≤281474976710656∧n≤9223372036854775807∧n.toNat≤maxLen then some (List.replicate n.toNat z)else none
def makeE(P:Program)(mem:Mem)(t:TypeId)(l c:SV):Option Res :=
 match P.underlying t,l,c with
 | some (.slice e),.v (.int _ n),.v (.int _ n')=>match P.info? e,tyOf P 8 e with
  | some i,some T=>match i.zero with
   | some z=>match (ofVal 5 z).cells with
    | some cs=>match ofC1 T cs with
     | some z0=>if i.size=T.n∧0 < T.n then some (.part (List T.α) (mkL n n' i.bytes z0) fun l=>(.row mem.length,mem++[some (.row T l e false)]))else none
     | none=>none
    | none=>none
   | none=>none
  | _,_=>none
 | _,_,_=>none
def fillS(place:Nat→Option (Nat×Nat)):List SV→List (Nat×SV)→Option (List SV)
 | cs,[]=>some cs
 | cs,(i,v)::rest=>match place i,v.cells with
  | some (off,size),some vc=>if vc.length=size∧off+size≤cs.length then fillS place (cs.take off++vc++cs.drop (off+size)) rest else none
  | _,_=>none
def buildE(P:Program)(t:TypeId)(parts:List (Nat×SV)):Option SV :=
 match Rx.pureRun P (zeroValue t)with
 | some z=>match (ofVal 5 z).cells with
  | some zc=>match P.underlying t with
   | some (.struct fs)=>match Rx.pureRun P (fs.mapM fun f=>do pure (f.offset,←sizeOf f.type))with
    | some places=>(fillS (places[·]?) zc parts).map .agg
    | none=>none
   | some (.array _ e)=>match sizeE P e with
    | some n=>(fillS (fun i=>some (i*n,n)) zc parts).map .agg
    | none=>none
   | _=>none
  | none=>none
 | none=>none
def decL(T:Ty):Nat→List SV→Option (List T.α)
 | 0,ss=>match ss with
  | []=>some []
  | _::_=>none
 | k+1,ss=>match ofC T ss with
  | some (x,r)=>match decL T k r with
   | some l=>some (x::l)
   | none=>none
  | none=>none
def buildSliceE(P:Program)(mem:Mem)(t:TypeId)(len:Nat)(parts:List (Nat×SV)):Option Res :=
 match P.underlying t with
 | some (.slice e)=>match sizeE P e,tyOf P 8 e,Rx.pureRun P (zeroValue e)with
  | some n,some T,some z=>match (ofVal 5 z).cells with
   | some zc=>if n=T.n∧0 < n∧len*n≤16777216 then
     match fillS (fun i=>some (i*n,n)) ((List.range (len*n)).map fun i=>zc.getD (i % zc.length) .any) parts with
     | some cs=>match decL T len cs with
      | some l=>some (.det (.row mem.length) (mem++[some (.row T l e false)]))
      | none=>none
     | none=>none
    else none
   | none=>none
  | _,_,_=>none
 | _=>none
def sBytes(s:ByteArray):List Int:=s.data.toList.map fun b=>(b.toNat:Int)
def bytesS(l:List Int):ByteArray:=⟨(l.map fun n=>UInt8.ofNat n.toNat).toArray⟩
def castL(T' T:Ty)(l:List T'.α):Option (List T.α):=if h:T'=T then some (h▸l)else none
def srcE(T:Ty)(P:Program)(mem:Mem)(u:TypeId)(x:SV):Option (Bool×List T.α) :=
 match P.underlying u with
 | some (.slice _)=>match x with
  | .sl T' l=>(castL T' T l).map fun l=>(true,l)
  | .v (.slice none 0 0)=>some (true,[])
  | .row b=>match mem[b]? with
   | some (some (.row T' l _ _))=>(castL T' T l).map fun l=>(true,l)
   | _=>none
  | .part b lo n k=>match mem[b]? with
   | some (some (.row T' l _ _))=>if k=T'.n then(castL T' T l).map fun l=>(decide (lo+n≤l.length),(l.drop lo).take n)else none
   | _=>none
  | _=>none
 | some .string=>match x with
  | .v (.string s)=>castL (.int .u8) T (sBytes s) |>.map fun l=>(true,l)
  | _=>none
 | _=>none
structure DstA where
 T:Ty
 c:Bool
 l:List T.α
 mem:Mem
def dstE(P:Program)(m:Nat)(mem:Mem)(e:TypeId)(s:SV):Option DstA :=
 match s with
 | .v (.slice none 0 0)=>(tyOf P 8 e).map fun T=>⟨T,true,[],mem⟩
 | .row b=>match mem[b]? with
  | some (some (.row T l e' false))=>if m≤b∧e'=e then some ⟨T,true,l,mem.set b (some .gone)⟩else none
  | _=>none
 | .part b 0 n k=>match mem[b]? with
  | some (some (.row T l e' false))=>if m≤b∧e'=e∧k=T.n then some ⟨T,decide (n≤l.length),l.take n,mem.set b (some .gone)⟩else none
  | _=>none
 | _=>none
def apL{α:Type}(c:Bool)(bytes:Nat)(l l':List α):Option (List α) :=
 if c=true∧l.length+l'.length≤maxLen∧(l.length+l'.length)*bytes≤140737488355328 then some (l++l')else none
def appE(P:Program)(m:Nat)(mem:Mem)(t u:TypeId)(s x:SV):Option Res :=
  match P.underlying t with
  | some (.slice e)=>match P.info? e,dstE P m mem e s with
    | some i,some D=>match i.zero with
      | some z=>if i.size=D.T.n∧0 < D.T.n∧z.cells.size=D.T.n then match srcE D.T P mem u x with
        | some X=>some (.part (List D.T.α) (apL (D.c&&X.1) i.bytes D.l X.2) fun l=>(.row D.mem.length,D.mem++[some (.row D.T l e false)]))
        | none=>none
       else none
      | none=>none
    | _,_=>none
  | _=>none
def cpL{α:Type}(c:Bool)(lo dn:Nat)(l src:List α):Option (Nat×List α) :=
 if c=true∧lo+dn≤l.length then some (min src.length dn,l.take lo++src.take (min src.length dn)++l.drop (lo+min src.length dn))else none
def srcB(b:Nat):SV→Bool
 | .sl _ _=>true
 | .row c=>c==b
 | .part c _ _ _=>c==b
 | _=>false
def copyE(P:Program)(m:Nat)(mem:Mem)(t u:TypeId)(s x:SV):Option Res :=
 match P.underlying t,P.underlying u with
 | some (.slice e),some (.slice _)=>match s with
  | .row b=>match mem[b]? with
   | some (some (.row T l ty false))=>if m≤b∧(P.info? e).map (·.size)=some T.n∧0 < T.n∧srcB b x=true then match srcE T P mem u x with
     | some X=>some (.part (Nat×List T.α) (cpL X.1 0 l.length l X.2) fun r=>(.v (.int .i64 r.1),mem.set b (some (.row T r.2 ty false))))
     | none=>none
    else none
   | _=>none
  | .part b lo n k=>match mem[b]? with
   | some (some (.row T l ty false))=>if(m≤b∧(P.info? e).map (·.size)=some T.n∧0 < T.n∧srcB b x=true)∧k=T.n then match srcE T P mem u x with
     | some X=>some (.part (Nat×List T.α) (cpL X.1 lo n l X.2) fun r=>(.v (.int .i64 r.1),mem.set b (some (.row T r.2 ty false))))
     | none=>none
    else none
   | _=>none
  | _=>none
 | _,_=>none
def mapTy(P:Program)(t:TypeId):Option (IntKind×TypeId):=match P.underlying t with
 | some (.map kt et)=>match P.underlying kt with
  | some (.int k)=>some (k,et)
  | _=>none
 | _=>none
def insertE(P:Program)(m:Nat)(mem:Mem)(t:TypeId)(s ks v:SV):Option Res :=
 match mapTy P t,s,ks with
 | some (k,_),.mp b,.v (.int k' i)=>match mem[b]? with
  | some (some (.map k2 es n))=>if m≤b∧k'=k∧k2=k then(match es.all fun e=>!(i==e.1)with
   | true=>some (.det .any (mem.set b (some (.map k2 (es++[(i,v)]) n))))
   | false=>none)else none
  | _=>none
 | _,_,_=>none
def entryE(P:Program)(m:Nat)(mem:Mem)(t:TypeId)(s ks:SV):Option Res :=
 match mapTy P t,s,ks with
 | some (k,et),.mp b,.v (.int k' i)=>match mem[b]?,Rx.pureRun P (zeroValue et)with
  | some (some (.map k2 es n)),some z=>if m≤b∧k'=k∧k2=k then(match es.all fun e=>!(i==e.1)with
   | true=>some (.det (.tup [ofVal 5 z,.v (.int .i64 es.length)]) (mem.set b (some (.map k2 (es++[(i,ofVal 5 z)]) n))))
   | false=>none)else none
  | _,_=>none
 | _,_,_=>none
def stampE(m:Nat)(mem:Mem)(s st v:SV):Option Res :=
 match s,st with
 | .mp b,.v (.int .i64 j)=>match mem[b]? with
  | some (some (.map k2 es n))=>if m≤b∧0≤j∧n≤j.toNat∧j.toNat < es.length then some (.det .any (mem.set b (some (.map k2 (es.modify j.toNat fun e=>(e.1,v)) n))))else none
  | _=>none
 | _,_=>none
def lookA(mem:Mem)(i:Int)(z:SV)(ok:Bool):List (Int×SV)→Res
 | []=>.det (bif ok then .tup [z,.v (.bool false)]else z) mem
 | e::es=>.alt (i==e.1) (.det (bif ok then .tup [e.2,.v (.bool true)]else e.2) mem) (lookA mem i z ok es)
def lookupE(P:Program)(mem:Mem)(t:TypeId)(s ks:SV)(ok:Bool):Option Res :=
 match mapTy P t,s,ks with
 | some (k,et),.mp b,.v (.int k' i)=>match mem[b]?,Rx.pureRun P (zeroValue et)with
  | some (some (.map k2 es _)),some z=>if k'=k∧k2=k then some (lookA mem i (ofVal 5 z) ok es)else none
  | _,_=>none
 | _,_,_=>none
def flatE(P:Program)(ts:List SV)(mem:Mem)(o:Oper):Option Res :=
 if flatOps ts o then match Rx.partE P (vals ts) o with
  | some T=>some (.part T.α T.x fun y=>(ofVal 4 (T.enc y),mem))
  | none=>match Rx.pureE P (vals ts) o with
   | some v=>some (.det (ofVal 4 v) mem)
   | none=>none
 else none
def opS(P:Program)(m:Nat)(ts:List SV)(mem:Mem)(o:Oper):Option Res :=
 match o.op with
 | .move x=>if okOp x then some (.det (ev ts x) mem)else none
 | .assign x=>if okOp x then some (.det (ev ts x) mem)else none
 | .alloc t=>match Rx.pureRun P (zeroValue t)with
  | some z=>match (ofVal 5 z).cells with
   | some cs=>some (.det (.ptr mem.length 0) (mem++[some (.cells cs t)]))
   | none=>none
  | none=>none
 | .box t x=>if okOp x then match (ev ts x).cells with
   | some cs=>some (.det (.ptr mem.length 0) (mem++[some (.cells cs t)]))
   | none=>none
  else none
 | .load t x=>if okOp x then loadE P mem t (ev ts x)else none
 | .store t x y=>if okOp x&&okOp y then storeE P m mem t (ev ts x) (ev ts y)else none
 | .fieldAddr s x f=>if okOp x then(fieldAddrE P s f (ev ts x)).map (.det · mem)else none
 | .field s x f=>if okOp x then(fieldE P s f (ev ts x)).map (.det · mem)else none
 | .extract x i=>if okOp x then match ev ts x with
   | .tup vs=>match vs[i]? with
    | some s=>some (.det s mem)
    | none=>none
   | _=>none
  else none
 | .makeFunc (.func g) fs cs=>if fs.toList.all okOp&&cs.toList.all okOp then some (.det (.fn g (fs.toList.map (ev ts)) (cs.toList.map (ev ts))) mem)else none
 | .nilCheck x=>if okOp x then match ev ts x with
   | .ptr b o=>some (.det (.ptr b o) mem)
   | .ep T y o=>some (.det (.ep T y o) mem)
   | .rp b i n o=>some (.det (.rp b i n o) mem)
   | .fn g fs cs=>some (.det (.fn g fs cs) mem)
   | .yld i=>some (.det (.yld i) mem)
   | _=>none
  else none
 | .indexAddr t x ix=>if okOp x&&okOp ix then indexAddrE P mem t (ev ts x) (ev ts ix)else glE P mem t x (ev ts ix)
 | .build t parts=>if parts.toList.all (fun p=>okOp p.2)then(buildE P t (parts.toList.map fun p=>(p.1,ev ts p.2))).map (.det · mem)else none
 | .buildSlice t len parts=>if parts.toList.all (fun p=>okOp p.2)then buildSliceE P mem t len (parts.toList.map fun p=>(p.1,ev ts p.2))else none
 | .makeSlice t l c=>if okOp l&&okOp c then makeE P mem t (ev ts l) (ev ts c)else none
 | .slice t x lo hi none=>if okOp x then match ev ts x with
   | .sl T l=>match P.underlying t,evI ts lo,evI ts hi with
    | some (.slice e),some a,some b=>if sizeE P e=some T.n then some (.part (List T.α) (cutL l a b) fun l'=>(.sl T l',mem))else none
    | _,_,_=>none
   | .row q=>match P.underlying t,mem[q]?,evI ts lo,evI ts hi with
    | some (.slice e),some (some (.row T l _ _)),some a,some b=>if sizeE P e=some T.n then some (.part (Nat×Nat) (cutB l.length a b) fun r=>(.part q (fromB 0 a r.1) r.2 T.n,mem))else none
    | _,_,_,_=>none
   | .part q lo0 n k=>match P.underlying t,evI ts lo,evI ts hi with
    | some (.slice e),some a,some b=>if sizeE P e=some k then some (.part (Nat×Nat) (cutB n a b) fun r=>(.part q (fromB lo0 a r.1) r.2 k,mem))else none
    | _,_,_=>none
   | _=>flatE P ts mem o
  else none
 | .call ⟨.builtin .append,⟨[x,y]⟩,⟨[t,u]⟩⟩=>if okOp x&&okOp y then appE P m mem t u (ev ts x) (ev ts y)else none
 | .call ⟨.builtin .copy,⟨[x,y]⟩,⟨[t,u]⟩⟩=>if okOp x&&okOp y then copyE P m mem t u (ev ts x) (ev ts y)else none
 | .convert src dst x=>if okOp x then match P.underlying src,P.underlying dst with
   | some (.slice e),some .string=>match P.underlying e,srcE (.int .u8) P mem src (ev ts x)with
    | some (.int .u8),some X=>some (.part ByteArray (if X.1=true then some (bytesS X.2)else none) fun s=>(.v (.string s),mem))
    | _,_=>none
   | _,_=>flatE P ts mem o
  else none
 | .makeMap t none=>match mapTy P t with
  | some (k,_)=>some (.det (.mp mem.length) (mem++[some (.map k [] 0)]))
  | none=>none
 | .insert t x y z=>if okOp x&&okOp y&&okOp z then insertE P m mem t (ev ts x) (ev ts y) (ev ts z)else none
 | .mapUpdate t x y z=>if okOp x&&okOp y&&okOp z then insertE P m mem t (ev ts x) (ev ts y) (ev ts z)else none
 | .mapEntry t x y=>if okOp x&&okOp y then entryE P m mem t (ev ts x) (ev ts y)else none
 | .entryStore _ x y z=>if okOp x&&okOp y&&okOp z then stampE m mem (ev ts x) (ev ts y) (ev ts z)else none
 | .lookup t x y ok=>if okOp x&&okOp y then lookupE P mem t (ev ts x) (ev ts y) ok else none
 | .call ⟨.builtin .len,⟨[x]⟩,⟨[t]⟩⟩=>if okOp x then match lenE P mem t (ev ts x)with
   | some s=>some (.det s mem)
   | none=>flatE P ts mem o
  else none
 | _=>flatE P ts mem o
end Go.Q
namespace Go.Q
open Go Go.RowKit
section
variable [HasP]{P:Program}{w0 w:World}{m:Nat}{B:Loc}{F:Nat→Prop}{mem mem':Mem}{ts:List SV}{a:Act}{o:Oper}{s:SV}
theorem load_at{t:TypeId}{d:TypeDesc}{n:Nat}(hu:P.underlying t=some d)(hn:sizeE P t=some n){cs:List SV}{ds:List Value}(hv:VRs B F w cs ds){b p q:Nat}
    (hc:∀ (j:Nat) (x:Value),ds[j]? = some x→w.cell? ⟨b,p+j,none⟩=some x) (ht:takeAgg d cs q n=some s) :
    ∃ x,(loadVar t ⟨b,p+q,none⟩).run P w=.ok x w∧VR B F w s x:=by
  unfold takeAgg at ht
  split at ht
  · rename_i hd
    split at ht
    · rename_i hle
      cases ht
      have hle':q+n≤ds.length:=by rw[←hv.1];exact hle
      have hlen:((ds.drop q).take n).length=n:=by simp;omega
      have key:=run_loadCells_list (P:=P) w ⟨b,p+q,none⟩ ((ds.drop q).take n) (fun j v hj=>by
        have hjn:j < n:=by have:=(List.getElem?_eq_some_iff.1 hj).1;omega
        rw[List.getElem?_take_of_lt hjn,List.getElem?_drop]at hj
        have e:(⟨b,p+q,none⟩:Addr).add j=⟨b,p+(q+j),none⟩:=by unfold Addr.add;split<;>simp_all [Nat.add_assoc]
        rw[e];exact hc _ v hj)
      rw[hlen]at key
      refine⟨.agg ((ds.drop q).take n).toArray,?_,VR.agg' ((hv.drop q).take n)⟩
      have hd':Rx.aggD d=true:=hd
      simp only[loadVar,Sem.run_bind,Rx.run_isAgg hu,hd',if_true,Result.andThen_ok,Rx.run_sizeOf hn,key,Sem.run_pure]
    · cases ht
  · rename_i hd
    have hd':Rx.aggD d=false:=by have h':aggD d=false:=by simpa using hd
                                 exact h'
    obtain⟨x,hx,hvr⟩:=hv.get ht
    refine⟨x,?_,hvr⟩
    simp only[loadVar,Sem.run_bind,Rx.run_isAgg hu,hd',Bool.false_eq_true,if_false,Result.andThen_ok,run_load,hc _ _ hx]
theorem bd_takeAgg{D:Nat→Prop}{d:TypeDesc}{cs:List SV}{q n:Nat}(h:∀ c∈cs,Bd D c)(ht:takeAgg d cs q n=some s):Bd D s:=by
 unfold takeAgg at ht
 split at ht
 ·split at ht
  ·cases ht
   exact .agg fun c hc=>h c (List.mem_of_mem_drop (List.mem_of_mem_take hc))
  ·cases ht
 ·exact h s (List.mem_of_getElem? ht)
theorem cell_row{w:World}{b:Nat}{ds:List Value}{t:TypeId}(h:w.heap[b]? = some (.cells ds.toArray t (0,0)))(j:Nat):w.cell? ⟨b,j,none⟩=ds[j]? := by
 rw[cell_of_row w b j _ t _ h];simp
theorem loadAt_eq(t:TypeId)(a:Addr):(Instr.loadAt t (.pointer (some a))).run P w=(loadVar t a).run P w:=by
 simp only[Instr.loadAt,Instr.sureAddr,Sem.run_bind,Sem.run_pure,Result.andThen_ok]
theorem row_elem{T:Ty}{l:List T.α}{t:TypeId}{fz:Bool}{p:Place}(h:BlkR B F w (.row T l t fz) p){i:Nat}{y:T.α}(hy:l[i]? = some y):
  p.nil=false∧p.off=0∧p.len=l.length∧∃ cs:List Value,DR F w T y cs∧∀ (j:Nat) (d:Value),cs[j]? = some d→w.cell? ⟨p.blk,i*T.n+j,none⟩=some d:=by
 rcases h with⟨_,rfl⟩ | ⟨h0,h1,h2,h3,ds,h4,h5,h7,h6⟩
 ·simp at hy
 ·obtain⟨cs,k1,k2⟩:=h6 i y hy
  exact⟨h0,h1,h2,cs,k1,fun j d hd=>by rw[cell_row h4];exact k2 j d hd⟩
theorem loadE_sound(hR:RM w0 m B F mem w)(hbs:Bd (Live mem) s){t:TypeId}{r:Res}{u:SV}{x:Value}(hx:VR B F w s x)(hl:loadE P mem t s=some r)(ho:r.Out u mem'):
  mem'=mem∧Bd (Live mem) u∧∃ y,(Instr.loadAt t x).run P w=.ok y w∧VR B F w u y:=by
 unfold loadE at hl
 split at hl
 ·rename_i d n hu hn
  split at hl
  ·rename_i b o
   split at hl
   ·rename_i cs ty hb
    cases ht:takeAgg d cs o n with
    | none=>rw[ht]at hl;cases hl
    | some q =>
     rw[ht]at hl;cases hl
     obtain⟨rfl,rfl⟩:=ho
     cases hx
     obtain⟨_,h1,ds,h2,h3⟩:=hR.blk b _ hb
     obtain⟨y,k1,k2⟩:=load_at hu hn h3 (b:=(B b).blk) (p:=(B b).off) (fun j x hj=>by rw[h1,Nat.zero_add,cell_row h2];exact hj) ht
     exact⟨rfl,bd_takeAgg (hR.bd b _ hb) ht,y,by rw[loadAt_eq];exact k1,k2⟩
   ·cases hl
  ·rename_i T y o
   cases ht:takeAgg d (cellsOf T y) o n with
   | none=>rw[ht]at hl;cases hl
   | some q =>
    rw[ht]at hl;cases hl
    obtain⟨rfl,rfl⟩:=ho
    cases hx with | ep _ _ _ b a cs h1 h2 h3 =>
     obtain⟨z,k1,k2⟩:=load_at hu hn (vrs_of_dr h2) (b:=b) (p:=a) h3 ht
     exact⟨rfl,bd_takeAgg bd_cellsOf ht,z,by rw[loadAt_eq];exact k1,k2⟩
  ·rename_i b i n' o
   split at hl
   ·rename_i T l ty fz hb
    split at hl
    ·rename_i hc
     cases hl
     obtain⟨y,hy,he⟩:=ho
     cases he
     obtain⟨hc1,hc2,hc3⟩:=hc
     cases hx
     obtain⟨h0,h1,_,cs,h2,h3⟩:=row_elem (hR.blk b _ hb) hy
     have hlen:(cellsOf T y).length=T.n:=by rw[(vrs_of_dr (B:=B) h2).1,h2.len]
     have ht:takeAgg d (cellsOf T y) o n=some ((takeAgg d (cellsOf T y) o n).getD .any):=by
      have:∃ q,takeAgg d (cellsOf T y) o n=some q:=by
       unfold takeAgg
       split
       ·rw[if_pos (by omega)];exact⟨_,rfl⟩
       ·exact⟨_,List.getElem?_eq_getElem (by omega)⟩
      obtain⟨q,hq⟩:=this
      rw[hq];rfl
     obtain⟨z,k1,k2⟩:=load_at hu hn (vrs_of_dr h2) (b:=(B b).blk) (p:=(B b).off+i*n') (fun j x hj=>by rw[h1,Nat.zero_add,hc1];exact h3 j x hj) ht
     exact⟨rfl,bd_takeAgg bd_cellsOf ht,z,by rw[loadAt_eq,←Nat.add_assoc];exact k1,k2⟩
    ·cases hl
   ·cases hl
  ·cases hl
 ·cases hl
theorem VR.cells_size{x:Value}(h:VR B F w s x){cs:List SV}(hc:s.cells=some cs):x.cells.size=cs.length:=by
 have:=(h.cells hc).1
 simpa using this.symm
theorem ones{cs:List SV}{ds:List Value}(h:VRs B F w cs ds)(ho:cs.all (·.one)=true):∀ d∈ds,d.oneCell'=true:=by
 intro d hd
 obtain⟨i,hi⟩:=List.mem_iff_getElem?.1 hd
 have hlt:=(List.getElem?_eq_some_iff.1 hi).1
 have hlt':i < cs.length:=by rw[h.1];exact hlt
 have hs:cs[i]? = some cs[i]:=List.getElem?_eq_getElem hlt'
 exact(h.2 i _ _ hs hi).one (List.all_eq_true.1 ho _ (List.mem_of_getElem? hs))
theorem setRow_other(w:World)(g:Nat)(cs:Array Value){k:Nat}(hk:k≠g):(w.setRow g cs).heap[k]? = w.heap[k]? := by
 show(w.heap.modify _ _)[k]? = _
 rw[Array.getElem?_modify];simp[hk.symm]
theorem keepsF_setRow{b:Nat}{cur:Array Value}{t:TypeId}{z:Nat×Nat}{cs:Array Value}(hg:w.heap[b]? = some (.cells cur t z))(hn:¬F b):KeepsF F w (w.setRow b cs) :=
 ⟨fun k hF=>setRow_other w _ _ fun e=>hn (e▸hF),fun df h=>(setRow_other w _ _ fun e=>by rw[e,hg]at h;cases h).trans h,by rw[size_setRow];exact Nat.le_refl _⟩
theorem storeAt_run{t:TypeId}{n b p:Nat}{y:Value}{cur:List Value}{ty:TypeId}(hn:sizeE P t=some n)(hsz:y.cells.size=n)(hg:w.heap[b]? = some (.cells cur.toArray ty (0,0)))(hle:p+n≤cur.length)
  (h1:∀ d∈y.cells.toList,d.oneCell'=true) :
  (Instr.storeAt t (.pointer (some ⟨b,p,none⟩)) y).run P w=.ok () (w.setRow b (cur.take p++y.cells.toList++cur.drop (p+n)).toArray):=by
 have hlen:y.cells.toList.length=n:=by simpa using hsz
 have hst:=run_storeCells_at P b p ty y.cells.toList 0 cur.toArray w hg (by simp;omega) h1
 simp only[Instr.storeAt,Instr.sureAddr,Sem.run_bind,Sem.run_pure,Result.andThen_ok,storeVar,Rx.run_sizeOf hn,hsz,ne_eq,not_true,if_false,hst]
 simp[hlen,hsz]
theorem ofC1_spec{T:Ty}{ss:List SV}{x:T.α}{ds:List Value}(h:ofC1 T ss=some x)(hv:VRs B F w ss ds):DR F w T x ds:=by
 unfold ofC1 at h
 split at h
 ·rename_i y hy
  cases h
  obtain⟨c,d,rfl,h1,h2,_⟩:=dr_of_ofC hy hv
  have:d=[]:=List.length_eq_zero_iff.1 h2.1.symm
  subst this
  simpa using h1
 ·cases h
theorem storeE_sound(hR:RM w0 m B F mem w){t:TypeId}{r:Res}{u v:SV}{x y:Value}(hx:VR B F w s x)(hy:VR B F w v y)(hbv:Bd (Live mem) v)(hl:storeE P m mem t s v=some r)(ho:r.Out u mem'):
  u=.any∧∃ w',(Instr.storeAt t x y).run P w=.ok () w'∧RM w0 m B F mem' w'∧Ext mem mem'∧KeepsF F w w':=by
 unfold storeE at hl
 split at hl
 ·rename_i n vc hn hvc
  split at hl
  ·rename_i hc
   obtain⟨hvl,hone⟩:=hc
   have hvs:=hy.cells hvc
   have hsz:y.cells.size=n:=by rw[hy.cells_size hvc,hvl]
   have h1s:=ones hvs hone
   split at hl
   ·rename_i b o
    split at hl
    ·rename_i cs ty hb
     split at hl
     ·rename_i hc2
      cases hl
      obtain⟨rfl,rfl⟩:=ho
      cases hx
      obtain⟨h0,h1,ds,h2,h3⟩:=hR.blk b _ hb
      have hrun:=storeAt_run (P:=P) hn hsz h2 (p:=o) (by rw[←h3.1];exact hc2.2) h1s
      have hk:KeepsF F w (w.setRow (B b).blk (ds.take o++y.cells.toList++ds.drop (o+n)).toArray):=keepsF_setRow h2 (hR.fr b _ hb rfl h0 rfl)
      refine⟨rfl,_,by rw[h1,Nat.zero_add];exact hrun,hR.turn hc2.1 hb rfl rfl rfl (size_setRow _ _ _) ⟨rfl,rfl,rfl⟩ h0 (fun k hk=>setRow_other w _ _ hk) (by rw[h2];simp) ?_ ?_,ext_set hb (fun r h=>by cases h),hk⟩
      ·refine⟨h0,h1,_,setRow_heap w _ _ _ ty _ h2,?_⟩
       exact(((h3.take o).append hvs).append (h3.drop (o+n))).mono (fun _ h=>h) hk
      ·intro c hcm
       rcases List.mem_append.1 hcm with hcm | hcm
       ·rcases List.mem_append.1 hcm with hcm | hcm
        ·exact hR.bd b _ hb c (List.mem_of_mem_take hcm)
        ·exact bd_cells hbv hvc c hcm
       ·exact hR.bd b _ hb c (List.mem_of_mem_drop hcm)
     ·cases hl
    ·cases hl
   ·rename_i b i n' o
    split at hl
    ·rename_i T l ty hb
     split at hl
     ·rename_i hc2
      cases hl
      obtain⟨hm,rfl,hon,hn0⟩:=hc2
      obtain⟨l',hup,he⟩:=ho
      cases he
      cases hx
      unfold upE at hup
      split at hup
      ·rename_i e he
       split at hup
       ·rename_i z hz
        cases hup
        have hilt:=(List.getElem?_eq_some_iff.1 he).1
        rcases hR.blk b _ hb with⟨_,rfl⟩ | ⟨h0,h1,h2,h3,ds,h4,h5,h7,h6⟩
        ·simp at he
        ·obtain⟨cs,k1,k2⟩:=h6 i e he
         have hcl:cs.length=T.n:=k1.len
         have hvc':=vrs_of_dr (B:=B) k1
         have hdr:=ofC1_spec hz (((hvc'.take o).append hvs).append (hvc'.drop (o+n)))
         have hmul:i*T.n+T.n≤(B b).cap*T.n:=by
          rw[←Nat.succ_mul];exact Nat.mul_le_mul_right _ (by omega)
         have hseg:∀ j,j < T.n→ds[i*T.n+j]? = cs[j]? := fun j hj=>by
          have:cs[j]? = some cs[j]:=List.getElem?_eq_getElem (by omega)
          rw[this];exact k2 j _ this
         have hrun:=storeAt_run (P:=P) hn hsz h4 (p:=i*T.n+o) (by omega) h1s
         have hk:KeepsF F w (w.setRow (B b).blk (ds.take (i*T.n+o)++y.cells.toList++ds.drop (i*T.n+o+n)).toArray):=keepsF_setRow h4 (hR.fr b _ hb rfl h0 rfl)
         have hyl:y.cells.toList.length=n:=by simpa using hsz
         refine⟨rfl,_,by rw[h1,Nat.zero_add];exact hrun,hR.turn hm hb rfl rfl rfl (size_setRow _ _ _) ⟨rfl,rfl,rfl⟩ h0 (fun k hk=>setRow_other w _ _ hk) (by rw[h4];simp) ?_ (fun s hs=>by cases hs),ext_set hb (fun r h=>by cases h),hk⟩
         refine .inr ⟨h0,h1,by simpa using h2,by simpa using h3,_,setRow_heap w _ _ _ ty _ h4,by simp;omega,h7,?_⟩
         ·intro q xq hq
          rw[List.getElem?_set]at hq
          have hget:∀ p:Nat,(ds.take (i*T.n+o)++y.cells.toList++ds.drop (i*T.n+o+n))[p]? = if i*T.n+o≤p∧p < i*T.n+o+n then y.cells.toList[p-(i*T.n+o)]? else ds[p]? := by
           intro p
           have ht:(ds.take (i*T.n+o)).length=i*T.n+o:=by simp;omega
           by_cases hp1:p < i*T.n+o
           ·rw[if_neg (by omega),List.getElem?_append_left (by simp;omega),List.getElem?_append_left (by omega),List.getElem?_take_of_lt hp1]
           ·by_cases hp2:p < i*T.n+o+n
            ·rw[if_pos ⟨by omega,hp2⟩,List.getElem?_append_left (by simp;omega),List.getElem?_append_right (by omega),ht]
            ·rw[if_neg (by omega),List.getElem?_append_right (by simp;omega),List.getElem?_drop]
             congr 1
             simp;omega
          by_cases hqi:i=q
          ·subst hqi
           rw[if_pos rfl,if_pos hilt]at hq
           cases hq
           refine⟨_,hdr.mono (fun _ h=>h) hk,fun j d hd=>?_⟩
           rw[hget]
           have hct:(cs.take o).length=o:=by simp;omega
           by_cases hj1:j < o
           ·rw[if_neg (by omega)]
            rw[List.getElem?_append_left (by simp;omega),List.getElem?_append_left (by omega),List.getElem?_take_of_lt hj1]at hd
            rw[hseg j (by omega)];exact hd
           ·by_cases hj2:j < o+n
            ·rw[if_pos ⟨by omega,by omega⟩]
             rw[List.getElem?_append_left (by simp;omega),List.getElem?_append_right (by omega),hct]at hd
             rw[show i*T.n+j-(i*T.n+o)=j-o from by omega];exact hd
            ·rw[if_neg (by omega)]
             rw[List.getElem?_append_right (by simp;omega),List.getElem?_drop]at hd
             have e1:o+n+(j-(List.take o cs++y.cells.toList).length)=j:=by simp;omega
             rw[e1]at hd
             have hjl:=(List.getElem?_eq_some_iff.1 hd).1
             rw[hseg j (by omega)];exact hd
          ·rw[if_neg hqi]at hq
           obtain⟨cq,q1,q2⟩:=h6 q xq hq
           refine⟨cq,q1.mono (fun _ h=>h) hk,fun j d hd=>?_⟩
           have hjl:j < T.n:=by have:=(List.getElem?_eq_some_iff.1 hd).1;rw[q1.len]at this;exact this
           rw[hget,if_neg]
           ·exact q2 j d hd
           ·rintro ⟨g1,g2⟩
            rcases Nat.lt_or_gt_of_ne hqi with hlt | hlt
            ·have:(i+1)*T.n≤q*T.n:=Nat.mul_le_mul_right _ hlt
             rw[Nat.succ_mul]at this;omega
            ·have:(q+1)*T.n≤i*T.n:=Nat.mul_le_mul_right _ hlt
             rw[Nat.succ_mul]at this;omega
       ·cases hup
      ·cases hup
     ·cases hl
    ·cases hl
   ·cases hl
  ·cases hl
 ·cases hl
end
end Go.Q
namespace Go.Q
open Go Go.RowKit
section
variable [HasP]{P:Program}{w0 w:World}{m:Nat}{B:Loc}{F:Nat→Prop}{mem mem':Mem}{s:SV}
theorem DR.ones:∀ {T:Ty} {x:T.α} {cs:List Value},DR F w T x cs→∀ d∈cs,d.oneCell'=true
 | .int k,x,cs,h,d,hd=>by rw[show cs=_ from h]at hd;simp at hd;subst hd;rfl
 | .bool,x,cs,h,d,hd=>by rw[show cs=_ from h]at hd;simp at hd;subst hd;rfl
 | .str,x,cs,h,d,hd=>by rw[show cs=_ from h]at hd;simp at hd;subst hd;rfl
 | .unit,x,cs,h,d,hd=>by rw[show cs=_ from h]at hd;cases hd
 | .nul,x,cs,h,d,hd=>by rw[show cs=_ from h]at hd;simp at hd;subst hd;rfl
 | .pair a b,x,cs,h,d,hd=>by
  obtain⟨c,e,rfl,h1,h2⟩:=h
  rcases List.mem_append.1 hd with hd | hd
  ·exact h1.ones d hd
  ·exact h2.ones d hd
 | .sl e,l,cs,h,d,hd=>by
  obtain⟨v,rfl,h⟩:=h
  simp at hd;subst hd
  rcases h with⟨_,rfl⟩ | ⟨b,o,cap,rfl,_⟩<;>rfl
 | .rc false,x,cs,h,d,hd=>by
  cases (show DX F w (.inl x) cs from h)with
  | ex _ v h1 =>
   simp at hd
   rcases hd with rfl | rfl | rfl | rfl
   ·rfl
   ·rfl
   ·rfl
   ·exact(VR.sl (B:=fun _=>⟨0,0,0,0,false,id⟩) (.rc false) _ _ (dr_ex.2 h1)).one rfl
 | .rc true,x,cs,h,d,hd=>by
  cases (show DY F w (.inl x) cs from h)with
  | cd _ u v h1 h2 =>
   simp at hd
   rcases hd with rfl | rfl | rfl
   ·rfl
   ·exact(VR.sl (B:=fun _=>⟨0,0,0,0,false,id⟩) (.rc false) _ _ (dr_ex.2 h1)).one rfl
   ·exact(VR.sl (B:=fun _=>⟨0,0,0,0,false,id⟩) (.rc true) _ _ (dr_cd.2 h2)).one rfl
theorem RowD.ones{T:Ty}{l:List T.α}{ds:List Value}(h:RowD F w T l ds)(hl:ds.length=l.length*T.n)(hn:0 < T.n):∀ d∈ds,d.oneCell'=true:=by
 intro d hd
 obtain⟨k,hk⟩:=List.mem_iff_getElem?.1 hd
 have hlt:=(List.getElem?_eq_some_iff.1 hk).1
 have hq:k / T.n < l.length:=by rw[Nat.div_lt_iff_lt_mul hn];omega
 obtain⟨cs,h1,h2⟩:=h (k / T.n) _ (List.getElem?_eq_getElem hq)
 have hj:k % T.n < cs.length:=by rw[h1.len];exact Nat.mod_lt _ hn
 have e:=h2 (k % T.n) _ (List.getElem?_eq_getElem hj)
 rw[Nat.mul_comm,Nat.div_add_mod,hk]at e
 cases e
 exact h1.ones _ (List.getElem_mem hj)
theorem collect{T:Ty}:∀ (l:List T.α) (rd:Nat→Option Value),(∀ (i:Nat) (x:T.α),l[i]? = some x→∃ ds:List Value,DR F w T x ds∧∀ (j:Nat) (d:Value),ds[j]? = some d→rd (i*T.n+j)=some d)→
  ∃ news:List Value,news.length=l.length*T.n∧(∀ (j:Nat) (d:Value),news[j]? = some d→rd j=some d)∧RowD F w T l news
 | [],rd,h=>⟨[],by simp,by simp,fun i x hx=>by simp at hx⟩
 | x::l,rd,h=>by
  obtain⟨ds,h1,h2⟩:=h 0 x rfl
  obtain⟨news,k1,k2,k3⟩:=collect l (fun k=>rd (T.n+k)) fun i y hy=>by
   obtain⟨es,e1,e2⟩:=h (i+1) y (by simpa using hy)
   exact⟨es,e1,fun j d hd=>by have:=e2 j d hd;rwa [Nat.succ_mul,Nat.add_comm (i*T.n),Nat.add_assoc]at this⟩
  refine⟨ds++news,by simp only[List.length_append,List.length_cons,k1,h1.len,Nat.succ_mul];omega,fun j d hd=>?_,fun i y hy=>?_⟩
  ·by_cases hj:j < ds.length
   ·rw[List.getElem?_append_left hj]at hd
    have:=h2 j d hd;simpa using this
   ·rw[List.getElem?_append_right (by omega)]at hd
    have:=k2 _ d hd
    rw[h1.len]at this hj
    rwa [Nat.add_sub_cancel' (by omega)]at this
  ·cases i with
   | zero =>
    simp at hy;subst hy
    exact⟨ds,h1,fun j d hd=>by
     have hj:=(List.getElem?_eq_some_iff.1 hd).1
     rw[Nat.zero_mul,Nat.zero_add,List.getElem?_append_left hj];exact hd⟩
   | succ i =>
    obtain⟨es,e1,e2⟩:=k3 i y (by simpa using hy)
    exact⟨es,e1,fun j d hd=>by
     rw[List.getElem?_append_right (by rw[h1.len,Nat.succ_mul];omega),h1.len]
     have:=e2 j d hd
     rw[←this];congr 1;rw[Nat.succ_mul];omega⟩
theorem RowD.app{T:Ty}{l l':List T.α}{ds ds' rest:List Value}(h:RowD F w T l ds)(hl:ds.length=l.length*T.n)(k:RowD F w T l' ds'):RowD F w T (l++l') (ds++ds'++rest):=by
 intro i x hx
 by_cases hi:i < l.length
 ·rw[List.getElem?_append_left hi]at hx
  obtain⟨cs,h1,h2⟩:=h i x hx
  exact⟨cs,h1,fun j d hd=>by
   have:=h2 j d hd
   rw[List.append_assoc,List.getElem?_append_left (List.getElem?_eq_some_iff.1 this).1];exact this⟩
 ·rw[List.getElem?_append_right (by omega)]at hx
  obtain⟨cs,h1,h2⟩:=k _ x hx
  exact⟨cs,h1,fun j d hd=>by
   have:=h2 j d hd
   have hlt:=(List.getElem?_eq_some_iff.1 this).1
   have e:i*T.n+j=ds.length+((i-l.length)*T.n+j):=by
    rw[hl,Nat.sub_mul]
    have:l.length*T.n≤i*T.n:=Nat.mul_le_mul_right _ (by omega)
    omega
   rw[e,List.append_assoc,List.getElem?_append_right (by omega),Nat.add_sub_cancel_left,List.getElem?_append_left hlt];exact this⟩
theorem RowD.take{T:Ty}{l:List T.α}{ds:List Value}(h:RowD F w T l ds)(n:Nat):RowD F w T (l.take n) (ds.take (n*T.n)):=by
 intro i x hx
 rw[List.getElem?_take]at hx
 split at hx
 ·rename_i hi
  obtain⟨cs,h1,h2⟩:=h i x hx
  exact⟨cs,h1,fun j d hd=>by
   have hj:j < T.n:=by have:=(List.getElem?_eq_some_iff.1 hd).1;rwa [h1.len]at this
   have:(i+1)*T.n≤n*T.n:=Nat.mul_le_mul_right _ hi
   rw[Nat.succ_mul]at this
   rw[List.getElem?_take_of_lt (by omega)];exact h2 j d hd⟩
 ·cases hx
theorem RowD.sub{T:Ty}{l:List T.α}{ds:List Value}(h:RowD F w T l ds)(lo n:Nat):∀ (i:Nat) (x:T.α),((l.drop lo).take n)[i]? = some x→∃ cs:List Value,DR F w T x cs∧∀ (j:Nat) (d:Value),cs[j]? = some d→ds[lo*T.n+(i*T.n+j)]? = some d:=by
 intro i x hx
 rw[List.getElem?_take]at hx
 split at hx
 ·rw[List.getElem?_drop]at hx
  obtain⟨cs,h1,h2⟩:=h _ x hx
  exact⟨cs,h1,fun j d hd=>by have:=h2 j d hd;rwa [Nat.add_mul,Nat.add_assoc]at this⟩
 ·cases hx
theorem castL_some{T' T:Ty}{l:List T'.α}{l':List T.α}(h:castL T' T l=some l'):∃ e:T'=T,l'=e▸l:=by
 unfold castL at h
 split at h
 ·rename_i e;cases h;exact⟨e,rfl⟩
 ·cases h
def Src(P:Program)(F:Nat→Prop)(w:World)(T:Ty)(x:Value)(l:List T.α)(news:List Value):Prop :=
 (Builtin.lenOf x).run P w=.ok l.length w∧news.length=l.length*T.n∧RowD F w T l news∧
 (∀ k,k≤l.length→(Builtin.firstCells T.n k x).run P w.drew=.ok (news.take (k*T.n)).toArray w.drew)∧(∀ k,k≤l.length→(Builtin.firstCells T.n k x).run P w=.ok (news.take (k*T.n)).toArray w)
theorem Src.full{P:Program}{F:Nat→Prop}{w:World}{T:Ty}{x:Value}{l:List T.α}{news:List Value}(h:Src P F w T x l news):(Builtin.firstCells T.n l.length x).run P w.drew=.ok news.toArray w.drew∧(Builtin.firstCells T.n l.length x).run P w=.ok news.toArray w:=by
 obtain⟨_,h2,_,h4,h5⟩:=h
 have e:news.take (l.length*T.n)=news:=List.take_of_length_le (by omega)
 have a:=h4 l.length (Nat.le_refl _)
 have b:=h5 l.length (Nat.le_refl _)
 rw[e]at a b
 exact⟨a,b⟩
theorem src_slice{T:Ty}{l:List T.α}{b o c:Nat}(h:∀ (i:Nat) (x:T.α),l[i]? = some x→∃ ds:List Value,DR F w T x ds∧∀ (j:Nat) (d:Value),ds[j]? = some d→w.cell? ⟨b,o+(i*T.n+j),none⟩=some d):
  ∃ news,Src P F w T (.slice (some ⟨b,o,none⟩) l.length c) l news:=by
 obtain⟨news,h1,h2,h3⟩:=collect l (fun k=>w.cell? ⟨b,o+k,none⟩) h
 have hc:∀ (j:Nat) (v:Value),news[j]? = some v→w.cell? ((⟨b,o,none⟩:Addr).add j)=some v:=fun j v hv=>by
  have:=h2 j v hv
  unfold Addr.add;split<;>simp_all
 have hl:∀ k,k≤l.length→(news.take (k*T.n)).length=k*T.n:=fun k hk=>by
  rw[List.length_take,h1];exact Nat.min_eq_left (Nat.mul_le_mul_right _ hk)
 have ht:∀ (k j:Nat) (v:Value),(news.take (k*T.n))[j]? = some v→news[j]? = some v:=fun k j v hv=>by
  rw[List.getElem?_take]at hv
  split at hv
  ·exact hv
  ·cases hv
 exact⟨news,by simp[Builtin.lenOf],h1,h3,fun k hk=>run_firstCells_some w.drew T.n k _ _ _ _ (hl k hk) fun j v hv=>(by simpa using hc j v (ht k j v hv)),fun k hk=>run_firstCells_some w T.n k _ _ _ _ (hl k hk) fun j v hv=>hc j v (ht k j v hv)⟩
theorem src_nil(T:Ty):Src P F w T (.slice none 0 0) [] [] :=
 ⟨by simp[Builtin.lenOf],by simp,fun i x hx=>by simp at hx,by simp[Builtin.firstCells],by simp[Builtin.firstCells]⟩
theorem src_str(s:ByteArray):Src P F w (.int .u8) (.string s) (sBytes s) ((sBytes s).map fun n=>.int .u8 n):=by
 have hlen:(sBytes s).length=s.size:=by simp[sBytes]
 have hx:(Array.map (fun b:UInt8=>Value.int IntKind.u8 (b.toNat:Int)) s.data).extract 0 s.size=Array.map (fun b:UInt8=>Value.int IntKind.u8 (b.toNat:Int)) s.data:=by
  have hs:s.size=(Array.map (fun b:UInt8=>Value.int IntKind.u8 (b.toNat:Int)) s.data).size:=by rw[Array.size_map];rfl
  rw[hs,Array.extract_size]
 have hf:∀ (W:World) (k:Nat),k≤(sBytes s).length→(Builtin.firstCells (Ty.int .u8).n k (.string s)).run P W=.ok (((sBytes s).map fun n=>Value.int .u8 n).take (k*(Ty.int .u8).n)).toArray W:=fun W k hk=>by
  simp only[Builtin.firstCells,Sem.run_pure,Ty.n,Nat.mul_one]
  congr 1
  apply Array.ext'
  simp[sBytes,List.map_map,ByteArray.data_extract]
  rfl
 refine⟨by simp[Builtin.lenOf,hlen],by simp[Ty.n],fun i x hx=>⟨[.int .u8 x],rfl,fun j d hd=>?_⟩,fun k hk=>hf _ k hk,fun k hk=>hf _ k hk⟩
 cases j with
 | zero =>
  simp at hd;subst hd
  simp only[Ty.n,Nat.mul_one,Nat.add_zero,List.getElem?_map,hx]
  rfl
 | succ j=>simp at hd
theorem srcE_spec(hR:RM w0 m B F mem w){T:Ty}{u:TypeId}{x:SV}{v:Value}{c:Bool}{l:List T.α}(h:srcE T P mem u x=some (c,l))(hc:c=true)(hv:VR B F w x v):
  (∃ news,Src P F w T v l news)∧((∃ e,P.underlying u=some (.slice e))∨P.underlying u=some .string):=by
 unfold srcE at h
 have rowc:∀ {b:Nat} {T':Ty} {l0:List T'.α} {t:TypeId} {fz:Bool},mem[b]? = some (some (.row T' l0 t fz))→(B b).nil=false→∃ ds:List Value,RowD F w T' l0 ds∧(B b).off=0∧(B b).len=l0.length∧∀ j d,ds[j]? = some d→w.cell? ⟨(B b).blk,j,none⟩=some d:=by
  intro b T' l0 t fz hb hn
  rcases hR.blk b _ hb with⟨h1,_⟩ | ⟨h0,h1,h2,h3,ds,h4,h5,h7,h6⟩
  ·rw[h1]at hn;cases hn
  ·exact⟨ds,h6,h1,h2,fun j d hd=>by rw[cell_row h4];exact hd⟩
 split at h
 ·rename_i e hu
  refine⟨?_,.inl ⟨e,hu⟩⟩
  split at h
  ·rename_i T' l0
   obtain⟨l1,h1,h2⟩:=Option.map_eq_some_iff.1 h
   obtain⟨rfl,rfl⟩:=castL_some h1
   cases h2
   cases hv with | sl _ _ _ h =>
    obtain⟨v',e1,h⟩:=h
    cases e1
    rcases h with⟨rfl,rfl⟩ | ⟨b,o,cap,rfl,hF,hc,h⟩
    ·exact⟨_,src_nil _⟩
    ·exact src_slice h
  ·cases h;cases hv;exact⟨_,src_nil _⟩
  ·rename_i b
   split at h
   ·rename_i T' l0 t fz hb
    obtain⟨l1,h1,h2⟩:=Option.map_eq_some_iff.1 h
    obtain⟨rfl,rfl⟩:=castL_some h1
    cases h2
    cases hv
    cases hn:(B b).nil with
    | true =>
     have:l=[]:=by
      rcases hR.blk b _ hb with⟨_,h⟩ | ⟨h0,_⟩
      ·exact h
      ·rw[hn]at h0;cases h0
     subst this
     simp only[Place.val,hn,cond_true]
     exact⟨_,src_nil _⟩
    | false =>
     obtain⟨ds,k1,k2,k3,k4⟩:=rowc hb hn
     simp only[Place.val,hn,cond_false,k3]
     refine src_slice fun i x hx=>?_
     obtain⟨cs,c1,c2⟩:=k1 i x hx
     exact⟨cs,c1,fun j d hd=>by rw[k2,Nat.zero_add];exact k4 _ _ (c2 j d hd)⟩
   ·cases h
  ·rename_i b lo n k
   split at h
   ·rename_i T' l0 t fz hb
    split at h
    ·rename_i hk
     obtain⟨l1,h1,h2⟩:=Option.map_eq_some_iff.1 h
     obtain⟨rfl,rfl⟩:=castL_some h1
     simp only[Prod.mk.injEq]at h2
     obtain⟨h2,rfl⟩:=h2
     have hle:lo+n≤l1.length:=by rw[←h2]at hc;simpa using hc
     have hlen:((l1.drop lo).take n).length=n:=by simp;omega
     cases hv with | part _ _ _ _ _ hp =>
      rcases hp with⟨p1,rfl,rfl,rfl⟩ | ⟨p1,a,cp,rfl,p2,p3⟩
      ·exact⟨_,by simpa using src_nil (P:=P) (F:=F) (w:=w) T'⟩
      ·rcases p3 with⟨rfl,p4⟩ | ⟨rfl,_⟩
       ·obtain⟨ds,k1,k2,k3,k4⟩:=rowc hb p1
        have:=src_slice (P:=P) (F:=F) (w:=w) (T:=T') (l:=(l1.drop lo).take n) (b:=(B b).blk) (o:=(B b).off+lo*k) (c:=cp) fun i x hx=>by
         obtain⟨cs,c1,c2⟩:=k1.sub lo n i x hx
         exact⟨cs,c1,fun j d hd=>by rw[k2,Nat.zero_add,hk];exact k4 _ _ (c2 j d hd)⟩
        rwa [hlen]at this
       ·have e:(l1.drop lo).take 0=[]:=by simp
        rw[e]
        refine⟨[],by simp[Builtin.lenOf],by simp,fun i x hx=>by simp at hx,fun k hk=>?_,fun k hk=>?_⟩
        all_goals
         obtain rfl:k=0:=by simpa using hk
        ·have:=run_firstCells_some (P:=P) w.drew T'.n 0 a 0 cp [] (by simp) (by simp)
         simpa using this
        ·have:=run_firstCells_some (P:=P) w T'.n 0 a 0 cp [] (by simp) (by simp)
         simpa using this
    ·cases h
   ·cases h
  ·cases h
 ·rename_i hu
  refine⟨?_,.inr hu⟩
  split at h
  ·rename_i s
   obtain⟨l1,h1,h2⟩:=Option.map_eq_some_iff.1 h
   obtain⟨rfl,rfl⟩:=castL_some h1
   cases h2
   cases hv
   exact⟨_,src_str s⟩
  ·cases h
 ·cases h
def Dst(F:Nat→Prop)(w:World)(T:Ty)(e:TypeId)(v:Value)(l:List T.α):Option Nat→Prop
 | none=>l=[]∧v=.slice none 0 0
 | some g=>∃ (cap:Nat) (ds:List Value),v=.slice (some ⟨g,0,none⟩) l.length cap∧l.length≤cap∧cap≤maxLen∧w.heap[g]? = some (.cells ds.toArray e (0,0))∧ds.length=cap*T.n∧RowD F w T l (ds.take (l.length*T.n))
theorem append_run{T:Ty}{e t u rt:TypeId}{i:TypeInfo}{z v x:Value}{l l':List T.α}{q:Option Nat}{news:List Value}(ht:P.underlying t=some (.slice e))(hu:(∃ e,P.underlying u=some (.slice e))∨P.underlying u=some .string)(hi:P.info? e=some i)(hz:i.zero=some z)
  (hsz:i.size=T.n) (hn:0 < T.n) (hzs:z.cells.size=T.n) (hF:∀ i,F i→i < w.heap.size) (hqF:∀ g,q=some g→¬F g) (hd0:Dst F w T e v l q) (hs:Src P F w T x l' news)
  (hmax:l.length+l'.length≤maxLen) (hby:(l.length+l'.length)*i.bytes≤140737488355328) :
  ∃ (p:Place) (w':World),(Builtin.append_ #[t,u] rt #[v,x]).run P w=.ok p.val w'∧(w'.os=w.os∧w'.tape=w.tape∧w'.output=w.output)∧w.heap.size≤w'.heap.size∧
   (∀ k,k < w.heap.size→some k≠q→w'.heap[k]? = w.heap[k]?)∧(p.nil=false→some p.blk=q∨w.heap.size≤p.blk)∧∀ B:Loc,BlkR B F w' (.row T (l++l') e false) p:=by
 obtain⟨s4,s5⟩:=hs.full
 obtain⟨s1,s2,s3,_,_⟩:=hs
 have hsmall:l.length+l'.length≤9223372036854775807:=by simp only[maxLen]at hmax;omega
 have h1s:=s3.ones s2 hn
 have fin:∀ (cap:Nat) (olds rest:List Value),olds.length=l.length*T.n→RowD F w T l olds→l.length+l'.length≤cap→cap≤maxLen→rest.length=(cap-(l.length+l'.length))*T.n→
   ∀ B:Loc,BlkR B F (w.drew.alloc (.cells (olds++news++rest).toArray e)) (.row T (l++l') e false) ⟨w.heap.size,0,l.length+l'.length,cap,false,id⟩:=by
  intro cap olds rest ho hro hc hm hr B
  have hb:Below w.heap.size w (w.drew.alloc (.cells (olds++news++rest).toArray e)):=(Below.drew (Below.refl _ w)).alloc (Nat.le_refl _) _
  have hk:KeepsF F w (w.drew.alloc (.cells (olds++news++rest).toArray e)):=keepsF_below hF hb
  refine .inr ⟨rfl,rfl,by simp,by simpa using hc,_,heap_alloc_new w.drew _,?_,hm,?_⟩
  ·simp only[List.length_append,ho,s2,hr,←Nat.add_mul];congr 1;omega
  ·exact(hro.mono (fun _ h=>h) hk.f).app ho (s3.mono (fun _ h=>h) hk.f)
 cases q with
 | none =>
  obtain⟨rfl,rfl⟩:=hd0
  by_cases h0:l'=[]
  ·subst h0
   have e1:news=[]:=List.length_eq_zero_iff.1 (by rw[s2];simp)
   subst e1
   refine⟨⟨0,0,0,0,true,id⟩,w,?_,⟨rfl,rfl,rfl⟩,Nat.le_refl _,fun _ _ _=>rfl,(fun h=>by cases h),fun B=>.inl ⟨rfl,rfl⟩⟩
   simp only[List.length_nil]at s1 s5
   rcases hu with⟨e',hu⟩ | hu<;>simp[Builtin.append_,run_underlying ht,run_underlying hu,sizeOf,typeInfo,hi,s1,hsz,s5,Place.val]
  ·have hl0:0 < l'.length:=List.length_pos_iff.2 h0
   have hnz:¬(l'.length≤0):=by omega
   have h63:¬(9223372036854775807 < (l'.length:Int)):=by simp at hsmall;omega
   have h48:¬(281474976710656 < Builtin.nextslicecap l'.length 0*i.bytes):=by
    have:=growslice_fits (need:=l'.length) (old:=0) (bytes:=i.bytes) hl0 (by simpa using hby);omega
   have hge:=grownCap_ge w l'.length 0 e
   have hcm:=grownCap_le_maxLen w l'.length 0 e (by simpa using hmax)
   refine⟨⟨w.heap.size,0,l'.length,grownCap w l'.length 0 e,false,id⟩,w.drew.alloc (.cells (([]:List Value)++news++(Builtin.zeroCells z.cells (grownCap w l'.length 0 e-l'.length)).toList).toArray e),?_,⟨?_,?_,?_⟩,?_,?_,fun _=>.inr (Nat.le_refl _),?_⟩
   ·have s4':=s4
    rcases hu with⟨e',hu⟩ | hu
    all_goals
     simp[Builtin.append_,run_underlying ht,run_underlying hu,sizeOf,typeInfo,zeroValue,hi,hz,s1,hsz,hnz,h0,h63,h48,Question.forced,run_firstCells_none,s4',newRow,grownCap,Place.val]
     congr 2
     apply Array.ext'
     simp
   ·rfl
   ·rfl
   ·rfl
   ·simp
   ·intro k hk _;exact heap_alloc_old w.drew _ k hk
   ·intro B
    have:=fin (grownCap w l'.length 0 e) [] (Builtin.zeroCells z.cells (grownCap w l'.length 0 e-l'.length)).toList (by simp) (fun i x hx=>by simp at hx) (by simpa using hge) hcm (by simp[size_zeroCells,hzs]) B
    simpa using this
 | some g =>
  obtain⟨cap,ds,rfl,hlc,hcm,hg,hdl,hrd⟩:=hd0
  have htl:(ds.take (l.length*T.n)).length=l.length*T.n:=by
   rw[List.length_take,hdl];exact Nat.min_eq_left (Nat.mul_le_mul_right _ hlc)
  by_cases hroom:l.length+l'.length≤cap
  ·have hfit:l.length*T.n+news.length≤ds.length:=by rw[s2,hdl,←Nat.add_mul];exact Nat.mul_le_mul_right _ hroom
   have hst:=run_storeCells_at P g (l.length*T.n) e news 0 ds.toArray w hg (by simpa using hfit) h1s
   simp only[Nat.add_zero]at hst
   have hk:KeepsF F w (w.setRow g (ds.take (l.length*T.n)++news++ds.drop (l.length*T.n+news.length)).toArray):=keepsF_setRow hg (hqF g rfl)
   refine⟨⟨g,0,l.length+l'.length,cap,false,id⟩,w.setRow g (ds.take (l.length*T.n)++news++ds.drop (l.length*T.n+news.length)).toArray,?_,⟨rfl,rfl,rfl⟩,by rw[size_setRow];exact Nat.le_refl _,?_,fun _=>.inl rfl,fun B=>?_⟩
   ·rcases hu with⟨e',hu⟩ | hu<;>simp[Builtin.append_,run_underlying ht,run_underlying hu,sizeOf,typeInfo,hi,s1,hsz,hroom,s5,Addr.add_lit,hst,Place.val]
   ·intro k hk' hne;exact setRow_other w _ _ fun e=>hne (by rw[e])
   ·refine .inr ⟨rfl,rfl,by simp,by simpa using hroom,_,setRow_heap w _ _ _ e _ hg,?_,hcm,?_⟩
    ·simp only[List.length_append,htl,List.length_drop];omega
    ·exact(hrd.mono (fun _ h=>h) hk.f).app htl (s3.mono (fun _ h=>h) hk.f)
  ·have hgl:cap < l.length+l'.length:=by omega
   have hnr:¬(l.length+l'.length≤cap):=hroom
   have h63:¬(9223372036854775807 < ((l.length:Int)+(l'.length:Int))):=by omega
   have h48:¬(281474976710656 < Builtin.nextslicecap (l.length+l'.length) cap*i.bytes):=by
    have:=growslice_fits (bytes:=i.bytes) hgl hby;omega
   have hge:=grownCap_ge w (l.length+l'.length) cap e
   have hcm':=grownCap_le_maxLen w (l.length+l'.length) cap e hmax
   have hfo:=run_firstCells_some (P:=P) w.drew T.n l.length ⟨g,0,none⟩ l.length cap (ds.take (l.length*T.n)) htl (fun j d hd=>by
    have e1:(⟨g,0,none⟩:Addr).add j=⟨g,j,none⟩:=by unfold Addr.add;split<;>simp_all
    rw[e1]
    have hj:=(List.getElem?_eq_some_iff.1 hd).1
    rw[htl]at hj
    rw[List.getElem?_take_of_lt hj]at hd
    have:=cell_row (w:=w) hg j
    rw[hd]at this
    simpa using this)
   refine⟨⟨w.heap.size,0,l.length+l'.length,grownCap w (l.length+l'.length) cap e,false,id⟩,w.drew.alloc (.cells (ds.take (l.length*T.n)++news++(Builtin.zeroCells z.cells (grownCap w (l.length+l'.length) cap e-(l.length+l'.length))).toList).toArray e),?_,⟨?_,?_,?_⟩,?_,?_,fun _=>.inr (Nat.le_refl _),?_⟩
   ·have s4':=s4
    rcases hu with⟨e',hu⟩ | hu
    all_goals
     simp[Builtin.append_,run_underlying ht,run_underlying hu,sizeOf,typeInfo,zeroValue,hi,hz,s1,hsz,hnr,h63,h48,Question.forced,hfo,s4',newRow,grownCap,Place.val]
     congr 2
     apply Array.ext'
     simp[List.append_assoc]
   ·rfl
   ·rfl
   ·rfl
   ·simp
   ·intro k hk _;exact heap_alloc_old w.drew _ k hk
   ·exact fin _ _ _ htl hrd hge hcm' (by simp[size_zeroCells,hzs])
end
end Go.Q
namespace Go.Q
open Go Go.RowKit
section
variable [HasP]{P:Program}{w0 w:World}{m:Nat}{B:Loc}{F:Nat→Prop}{mem mem':Mem}{s:SV}
theorem dst_row(hR:RM w0 m B F mem w){b:Nat}{T:Ty}{l:List T.α}{e:TypeId}(hm:m≤b)(hb:mem[b]? = some (some (.row T l e false)))(n:Nat)(hn:n≤l.length){v:Value}(hv:PartV (B b) 0 n T.n v∨(n=l.length∧v=(B b).val)):
  ∃ q,Dst F w T e v (l.take n) q∧RM w0 m B F (mem.set b (some .gone)) w∧(∀ g,q=some g→FreeAt w0 B F (mem.set b (some .gone)) w g)∧Ext mem (mem.set b (some .gone)):=by
 obtain⟨h1,h2⟩:=hR.give hm hb
 have hext:Ext mem (mem.set b (some .gone)):=ext_set (y:=.gone) hb (fun r h=>by cases h)
 have hlen:(l.take n).length=n:=by simp;omega
 rcases hR.blk b _ hb with⟨k0,rfl⟩ | ⟨k0,k1,k2,k3,ds,k4,k5,k7,k6⟩
 ·refine⟨none,⟨by simp,?_⟩,h1,(fun g h=>by cases h),hext⟩
  rcases hv with(⟨_,_,_,h⟩ | ⟨h,_⟩) | ⟨_,rfl⟩
  ·exact h
  ·rw[k0]at h;cases h
  ·simp[Place.val,k0]
 ·refine⟨some (B b).blk,⟨(B b).cap,ds,?_,by rw[hlen];omega,k7,k4,k5,?_⟩,h1,(fun g h=>by cases h;exact h2 k0),hext⟩
  ·rw[hlen]
   rcases hv with(⟨h,_⟩ | ⟨_,a,c,rfl,c1,h⟩) | ⟨rfl,rfl⟩
   ·rw[k0]at h;cases h
   ·rcases h with⟨rfl,h⟩ | ⟨_,h⟩
    ·have e1:c=(B b).cap:=by omega
     subst e1
     simp[k1]
    ·exact absurd rfl h
   ·simp[Place.val,k0,k1,k2]
  ·rw[hlen];exact k6.take n
theorem dstE_spec(hR:RM w0 m B F mem w){e:TypeId}{D:DstA}{v:Value}(h:dstE P m mem e s=some D)(hc:D.c=true)(hv:VR B F w s v):
  ∃ q,Dst F w D.T e v D.l q∧RM w0 m B F D.mem w∧(∀ g,q=some g→FreeAt w0 B F D.mem w g)∧Ext mem D.mem:=by
 unfold dstE at h
 split at h
 ·obtain⟨T,h1,rfl⟩:=Option.map_eq_some_iff.1 h
  cases hv
  exact⟨none,⟨rfl,rfl⟩,hR,(fun g h=>by cases h),Ext.refl _⟩
 ·rename_i b
  split at h
  ·rename_i T l e' hb
   split at h
   ·rename_i hcnd
    obtain⟨hm,rfl⟩:=hcnd
    cases h
    cases hv
    have:=dst_row hR hm hb l.length (Nat.le_refl _) (.inr ⟨rfl,rfl⟩)
    rwa [List.take_length]at this
   ·cases h
  ·cases h
 ·rename_i b n k
  split at h
  ·rename_i T l e' hb
   split at h
   ·rename_i hcnd
    obtain⟨hm,rfl,rfl⟩:=hcnd
    cases h
    cases hv with | part _ _ _ _ _ hp=>exact dst_row hR hm hb n (by simpa using hc) (.inl hp)
   ·cases h
  ·cases h
 ·cases h
theorem appE_sound(hR:RM w0 m B F mem w){t u rt:TypeId}{r:Res}{a b o:SV}{x y:Value}(hx:VR B F w a x)(hy:VR B F w b y)(hl:appE P m mem t u a b=some r)(ho:r.Out o mem'):
  ∃ B' w' z,(Builtin.append_ #[t,u] rt #[x,y]).run P w=.ok z w'∧VR B' F w' o z∧RM w0 m B' F mem' w'∧(∀ i,Live mem i→B' i=B i)∧KeepsF F w w'∧Ext mem mem'∧Bd (Live mem') o:=by
 unfold appE at hl
 split at hl
 ·rename_i e ht
  split at hl
  ·rename_i i D hi hD
   split at hl
   ·rename_i z hz
    split at hl
    ·rename_i hcnd
     obtain⟨h1,h2,h3⟩:=hcnd
     split at hl
     ·rename_i X hX
      cases hl
      obtain⟨ll,hll,he⟩:=ho
      cases he
      unfold apL at hll
      split at hll
      ·rename_i hc
       cases hll
       obtain⟨hc1,hc2,hc3⟩:=hc
       simp only[Bool.and_eq_true]at hc1
       obtain⟨q,hd,hR',hfree,hext⟩:=dstE_spec hR hD hc1.1 hx
       obtain⟨⟨news,hs⟩,hu⟩:=srcE_spec (P:=P) (T:=D.T) (c:=X.1) (l:=X.2) hR hX hc1.2 hy
       obtain⟨p,w',k1,k2,k3,k4,k5,k6⟩:=append_run (rt:=rt) ht hu hi hz h1 h2 h3 hR.lt (fun g hg=>(hfree g hg).2.1) hd hs hc2 hc3
       obtain⟨l1,l2⟩:=hR'.add q (.row D.T (D.l++X.2) e false) p k2 k3 k4 hfree k5 rfl (k6 _) (fun s hs=>by cases hs)
       have hold:∀ i,Live mem i→upd B D.mem.length p i=B i:=fun i hi=>upd_old B (Nat.ne_of_lt (hext.live i hi).lt)
       refine⟨_,w',_,k1,?_,l1,hold,l2,hext.trans (live_push D.mem _ (fun r h=>by cases h)).1,.row (live_push' D.mem _).2⟩
       have:=VR.row (B:=upd B D.mem.length p) (F:=F) (w:=w') D.mem.length
       rwa [upd_new]at this
      ·cases hll
     ·cases hl
    ·cases hl
   ·cases hl
  ·cases hl
 ·cases hl
theorem RowD.drop{T:Ty}{l:List T.α}{ds:List Value}(h:RowD F w T l ds)(n:Nat):RowD F w T (l.drop n) (ds.drop (n*T.n)):=by
 intro i x hx
 rw[List.getElem?_drop]at hx
 obtain⟨cs,h1,h2⟩:=h _ x hx
 exact⟨cs,h1,fun j d hd=>by rw[List.getElem?_drop];have:=h2 j d hd;rwa [Nat.add_mul,Nat.add_assoc]at this⟩
theorem copy_run{T:Ty}{e t u rt:TypeId}(ht:P.underlying t=some (.slice e))(hi:(P.info? e).map (·.size)=some T.n){x:Value}{l:List T.α}{news:List Value}(hs:Src P F w T x l news)(hn:0 < T.n)
  {g o dn cap:Nat} {cur:List Value} {ty:TypeId} (hg:w.heap[g]? = some (.cells cur.toArray ty (0,0))) (hfit:o+min l.length dn*T.n≤cur.length) :
  (Builtin.copy_ #[t,u] rt #[.slice (some ⟨g,o,none⟩) dn cap,x]).run P w=.ok (goInt ((min l.length dn:Nat):Int)) (w.setRow g (cur.take o++news.take (min l.length dn*T.n)++cur.drop (o+min l.length dn*T.n)).toArray):=by
 obtain⟨s1,s2,s3,_,s5⟩:=hs
 have h5:=s5 (min l.length dn) (Nat.min_le_left _ _)
 have hlen:(news.take (min l.length dn*T.n)).length=min l.length dn*T.n:=by
  rw[List.length_take,s2];exact Nat.min_eq_left (Nat.mul_le_mul_right _ (Nat.min_le_left _ _))
 have hone:=s3.ones s2 hn
 have hst:=run_storeCells_at P g o ty (news.take (min l.length dn*T.n)) 0 cur.toArray w hg (by rw[hlen];simpa using hfit) (fun v hv=>hone v (List.mem_of_mem_take hv))
 rw[hlen]at hst
 simp only[Nat.add_zero]at hst
 cases hq:P.info? e with
 | none=>simp[hq]at hi
 | some i =>
  have hi:i.size=T.n:=by simpa [hq]using hi
  have e1:Nat.min l.length dn=min l.length dn:=rfl
  simp[Builtin.copy_,run_underlying ht,s1,hq,hi,h5,hst,sizeOf,typeInfo,e1]
theorem copy_run0{T:Ty}{e t u rt:TypeId}(ht:P.underlying t=some (.slice e))(hi:(P.info? e).map (·.size)=some T.n){x:Value}{l:List T.α}{news:List Value}(hs:Src P F w T x l news){a:Option Addr}{cap:Nat}:
  (Builtin.copy_ #[t,u] rt #[.slice a 0 cap,x]).run P w=.ok (goInt 0) w:=by
 obtain⟨s1,s2,s3,_,s5⟩:=hs
 have h5:=s5 0 (Nat.zero_le _)
 cases hq:P.info? e with
 | none=>simp[hq]at hi
 | some i =>
  have hi:i.size=T.n:=by simpa [hq]using hi
  have e1:Nat.min l.length 0=0:=Nat.min_zero _
  cases a<;>simp[Builtin.copy_,run_underlying ht,s1,hq,hi,h5,sizeOf,typeInfo,e1,storeCells]
theorem cp_self{mem:Mem}{b:Nat}{x:Option Blk}(h:mem[b]? = some x):mem.set b x=mem:=by
 apply List.ext_getElem?
 intro i
 rw[List.getElem?_set]
 split
 ·rename_i e;subst e
  rw[if_pos (List.getElem?_eq_some_iff.1 h).1,h]
 ·rfl
theorem cpL_some{α:Type}{c:Bool}{lo dn:Nat}{l src:List α}{r:Nat×List α}(h:cpL c lo dn l src=some r):c=true∧lo+dn≤l.length∧r=(min src.length dn,l.take lo++src.take (min src.length dn)++l.drop (lo+min src.length dn)):=by
 unfold cpL at h
 split at h
 ·rename_i hc;cases h;exact⟨hc.1,hc.2,rfl⟩
 ·cases h
theorem cpL_zero{α:Type}{lo:Nat}{l src:List α}:l.take lo++src.take (min src.length 0)++l.drop (lo+min src.length 0)=l:=by simp
theorem copy_row(hR:RM w0 m B F mem w){T:Ty}{e t u rt ty:TypeId}(ht:P.underlying t=some (.slice e))(hi:(P.info? e).map (·.size)=some T.n)(hn:0 < T.n){b lo dn:Nat}(hm:m≤b){l:List T.α}(hb:mem[b]? = some (some (.row T l ty false)))
  {x v:Value} {src:List T.α} {news:List Value} (hs:Src P F w T x src news) (hle:lo+dn≤l.length) (hv:(dn=0∧∃ a c,v=.slice a 0 c)∨((B b).nil=false∧∃ c,v=.slice (some ⟨(B b).blk,(B b).off+lo*T.n,none⟩) dn c)) :
  ∃ w',(Builtin.copy_ #[t,u] rt #[v,x]).run P w=.ok (.int .i64 (min src.length dn:Nat)) w'∧RM w0 m B F (mem.set b (some (.row T (l.take lo++src.take (min src.length dn)++l.drop (lo+min src.length dn)) ty false))) w'∧
   KeepsF F w w'∧Ext mem (mem.set b (some (.row T (l.take lo++src.take (min src.length dn)++l.drop (lo+min src.length dn)) ty false))):=by
 rcases hv with⟨rfl,a,c,rfl⟩ | ⟨h0,c,rfl⟩
 ·refine⟨w,?_,?_,KeepsF.refl _ _,?_⟩
  ·rw[copy_run0 ht hi hs];simp[goInt]
  ·rw[cpL_zero,cp_self hb];exact hR
  ·rw[cpL_zero,cp_self hb];exact Ext.refl _
 ·rcases hR.blk b _ hb with⟨h1,_⟩ | ⟨_,h1,h2,h3,ds,h4,h5,h7,h6⟩
  ·rw[h1]at h0;cases h0
  ·obtain⟨s1,s2,s3,s4,s5⟩:=id hs
   have hk1:lo*T.n+min src.length dn*T.n≤ds.length:=by
    rw[h5,←Nat.add_mul]
    exact Nat.mul_le_mul_right _ (by have:=Nat.min_le_right src.length dn;omega)
   have hrun:=copy_run (rt:=rt) (u:=u) ht hi hs hn (o:=lo*T.n) (dn:=dn) (cap:=c) h4 hk1
   have hk:KeepsF F w (w.setRow (B b).blk (ds.take (lo*T.n)++news.take (min src.length dn*T.n)++ds.drop (lo*T.n+min src.length dn*T.n)).toArray):=keepsF_setRow h4 (hR.fr b _ hb rfl h0 rfl)
   have hmin:=Nat.min_le_right src.length dn
   have hminl:=Nat.min_le_left src.length dn
   have hln:(news.take (min src.length dn*T.n)).length=min src.length dn*T.n:=by
    rw[List.length_take,s2];exact Nat.min_eq_left (Nat.mul_le_mul_right _ hminl)
   have hlt:(ds.take (lo*T.n)).length=lo*T.n:=by rw[List.length_take];omega
   refine⟨_,by rw[h1,Nat.zero_add];exact hrun,hR.turn hm hb rfl rfl rfl (size_setRow _ _ _) ⟨rfl,rfl,rfl⟩ h0 (fun k hk=>setRow_other w _ _ hk) (by rw[h4];simp) ?_ (fun s hs=>by cases hs),hk,ext_set hb (fun r h=>by cases h)⟩
   refine .inr ⟨h0,h1,?_,?_,_,setRow_heap w _ _ _ ty _ h4,?_,h7,?_⟩
   ·rw[h2];simp only[List.length_append,List.length_take,List.length_drop];omega
   ·have:(l.take lo++src.take (min src.length dn)++l.drop (lo+min src.length dn)).length=l.length:=by simp only[List.length_append,List.length_take,List.length_drop];omega
    rw[this];exact h3
   ·simp only[List.length_append,hlt,hln,List.length_drop,h5]
    rw[h5]at hk1;omega
   ·have r1:=(h6.take lo).mono (fun _ h=>h) hk.f
    have r2:=(s3.take (min src.length dn)).mono (fun _ h=>h) hk.f
    have r3:=(h6.drop (lo+min src.length dn)).mono (fun _ h=>h) hk.f
    rw[Nat.add_mul]at r3
    have c1:=r1.app (rest:=[]) (by rw[hlt,List.length_take];congr 1;omega) r2
    rw[List.append_nil]at c1
    have c2:=c1.app (rest:=[]) (by rw[List.length_append,List.length_append,hlt,hln,List.length_take,List.length_take,Nat.add_mul];congr 2<;>omega) r3
    rw[List.append_nil]at c2
    exact c2
theorem copyE_sound(hR:RM w0 m B F mem w){t u rt:TypeId}{r:Res}{a b o:SV}{x y:Value}(hx:VR B F w a x)(hy:VR B F w b y)(hl:copyE P m mem t u a b=some r)(ho:r.Out o mem'):
  ∃ w' z,(Builtin.copy_ #[t,u] rt #[x,y]).run P w=.ok z w'∧VR B F w' o z∧RM w0 m B F mem' w'∧KeepsF F w w'∧Ext mem mem'∧Bd (Live mem') o:=by
 unfold copyE at hl
 split at hl
 ·rename_i e e' ht hu
  split at hl
  ·rename_i b'
   split at hl
   ·rename_i T l ty hb
    split at hl
    ·rename_i hc
     obtain⟨c1,c2,c3,_⟩:=hc
     split at hl
     ·rename_i X hX
      cases hl
      obtain⟨q,hq,he⟩:=ho
      obtain⟨g1,g2,rfl⟩:=cpL_some hq
      cases he
      obtain⟨⟨news,hs⟩,_⟩:=srcE_spec (P:=P) (T:=T) (c:=X.1) (l:=X.2) hR hX g1 hy
      cases hx
      obtain⟨w',k1,k2,k3,k4⟩:=copy_row (rt:=rt) (u:=u) (v:=(B b').val) hR ht c2 c3 c1 hb hs g2 (by
       rcases hR.blk b' _ hb with⟨h1,rfl⟩ | ⟨h0,h1,h2,_⟩
       ·exact .inl ⟨rfl,_,_,by simp[Place.val,h1];exact⟨rfl,rfl⟩⟩
       ·exact .inr ⟨h0,_,by simp[Place.val,h0,h2];rfl⟩)
      exact⟨w',_,k1,.v _,k2,k3,k4,.v _⟩
     ·cases hl
    ·cases hl
   ·cases hl
  ·rename_i b' lo n k
   split at hl
   ·rename_i T l ty hb
    split at hl
    ·rename_i hc
     obtain⟨⟨c1,c2,c3,_⟩,rfl⟩:=hc
     split at hl
     ·rename_i X hX
      cases hl
      obtain⟨q,hq,he⟩:=ho
      obtain⟨g1,g2,rfl⟩:=cpL_some hq
      cases he
      obtain⟨⟨news,hs⟩,_⟩:=srcE_spec (P:=P) (T:=T) (c:=X.1) (l:=X.2) hR hX g1 hy
      cases hx with | part _ _ _ _ _ hp =>
       obtain⟨w',k1,k2,k3,k4⟩:=copy_row (rt:=rt) (u:=u) (v:=x) hR ht c2 c3 c1 hb hs g2 (by
        rcases hp with⟨_,rfl,rfl,rfl⟩ | ⟨p0,a,c,rfl,_,⟨rfl,_⟩ | ⟨rfl,_⟩⟩
        ·exact .inl ⟨rfl,_,_,rfl⟩
        ·exact .inr ⟨p0,_,rfl⟩
        ·exact .inl ⟨rfl,_,_,rfl⟩)
       exact⟨w',_,k1,.v _,k2,k3,k4,.v _⟩
     ·cases hl
    ·cases hl
   ·cases hl
  ·cases hl
 ·cases hl
theorem bytes_loop:∀ (l:List Int) (s:ByteArray) (w:World),(forIn (m:=Sem) (l.map fun n=>Value.int .u8 n) s fun c s=>(match c with
      | .int .u8 n=>pure (ForInStep.yield (s.push (UInt8.ofNat n.toNat)))
      | _=>stuck "bytesToString: byte expected" : Sem (ForInStep ByteArray))).run P w=.ok (l.foldl (fun s n=>s.push (UInt8.ofNat n.toNat)) s) w
  | [],s,w=>rfl
  | n::l,s,w=>by
    rw[List.map_cons,List.forIn_cons,Sem.run_bind]
    exact bytes_loop l _ w
theorem bytesS_fold(l:List Int):∀ s:ByteArray,l.foldl (fun s n=>s.push (UInt8.ofNat n.toNat)) s=⟨s.data++(l.map fun n=>UInt8.ofNat n.toNat).toArray⟩:=by
 induction l with
 | nil=>intro s;simp
 | cons n l ih =>
  intro s
  rw[List.foldl_cons,ih]
  congr 1
  apply Array.ext'
  simp[ByteArray.push]
theorem rowD_u8{l:List Int}{ds:List Value}(h:RowD F w (.int .u8) l ds)(hl:ds.length=l.length*(Ty.int .u8).n):ds=l.map fun n=>Value.int .u8 n:=by
 apply List.ext_getElem?
 intro i
 rw[List.getElem?_map]
 cases hq:l[i]? with
 | none =>
  simp only[Ty.n,Nat.mul_one]at hl
  rw[List.getElem?_eq_none_iff]at hq
  rw[Option.map_none,List.getElem?_eq_none_iff]
  omega
 | some x =>
  obtain⟨cs,h1,h2⟩:=h i x hq
  rw[show cs=_ from h1]at h2
  have:=h2 0 _ rfl
  simpa [Ty.n]using this
theorem bytes_run{x:Value}{l:List Int}{news:List Value}(hs:Src P F w (.int .u8) x l news)(hx:(∃ a c,x=.slice (some a) l.length c)∨(x=.slice none 0 0∧l=[])):(Conv.bytesToString x).run P w=.ok (.string (bytesS l)) w:=by
 rcases hx with⟨a,c,rfl⟩ | ⟨rfl,rfl⟩
 ·obtain⟨_,h3⟩:=hs.full
  obtain⟨_,h1,h2,_,_⟩:=hs
  have e:=rowD_u8 h2 h1
  subst e
  simp only[Builtin.firstCells,Ty.n,Nat.mul_one]at h3
  unfold Conv.bytesToString
  simp only[Sem.run_bind,h3,Result.andThen_ok,List.forIn_toArray,Sem.run_pure]
  have:=bytes_loop (P:=P) l ByteArray.empty w
  refine(congrArg (fun r=>Result.andThen r _) this).trans ?_
  simp only[Result.andThen_ok,Sem.run_pure,bytesS_fold]
  simp[bytesS]
 ·rfl
theorem mapTy_some{t:TypeId}{k:IntKind}{et:TypeId}(h:mapTy P t=some (k,et)):∃ kt,P.underlying t=some (.map kt et)∧P.underlying kt=some (.int k):=by
 unfold mapTy at h
 split at h
 ·rename_i kt et' hu
  split at h
  ·rename_i k' hk
   cases h
   exact⟨kt,hu,hk⟩
  ·cases h
 ·cases h
theorem checkKey_int{kt:TypeId}{k:IntKind}(hk:P.underlying kt=some (.int k))(b:Bool)(n:Nat)(i:Int)(w:World):(Instr.checkKey b (n+1) kt (.int k i)).run P w=.ok () w:=by
 simp only[Instr.checkKey,Sem.run_bind,run_underlying hk,Result.andThen_ok];rfl
theorem findNow_none{k:IntKind}{i:Int}:∀ {en:List MapEntry} (n:Nat),(∀ e∈en,∃ y,e.key=.int k y∧(i==y)=false)→Instr.findNow (.int k) (.int k i) en n=some none
 | [],n,h=>rfl
 | e::en,n,h=>by
  obtain⟨y,h1,h2⟩:=h e (List.mem_cons_self ..)
  simp only[Instr.findNow,h1,Instr.sameNow,if_true,h2]
  exact findNow_none (n+1) fun e he=>h e (List.mem_cons_of_mem _ he)
theorem findNow_some{k:IntKind}{i:Int}:∀ {en:List MapEntry} (n j:Nat) (e:MapEntry),en[j]? = some e→e.key=.int k i→(∀ j' e',j' < j→en[j']? = some e'→∃ y,e'.key=.int k y∧(i==y)=false)→Instr.findNow (.int k) (.int k i) en n=some (some (n+j,e.val))
 | [],n,j,e,h,_,_=>by simp at h
 | e'::en,n,0,e,h,hk,_=>by
  simp at h;subst h
  simp only[Instr.findNow,hk,Instr.sameNow,if_true,beq_self_eq_true,Nat.add_zero]
 | e'::en,n,j+1,e,h,hk,hp=>by
  obtain⟨y,h1,h2⟩:=hp 0 e' (by omega) rfl
  simp only[Instr.findNow,h1,Instr.sameNow,if_true,h2]
  rw[findNow_some (n+1) j e (by simpa using h) hk fun j' e'' hj he=>hp (j'+1) e'' (by omega) (by simpa using he)]
  congr 3;omega
theorem MapR.absent{k:IntKind}{es:List (Int×SV)}{p:Nat}{ord:Nat→Nat}{en:Array MapEntry}(h:MapR B F w k es p ord en){i:Int}(hn:∀ e∈es,(i==e.1)=false):Instr.findNow (.int k) (.int k i) en.toList 0=some none :=
 findNow_none 0 fun e he=>by
  obtain⟨j,hj⟩:=List.getElem?_of_mem he
  obtain⟨q,x,hx,_,hk,_⟩:=h.at (j:=j) (e:=e) (by rw[←Array.getElem?_toList];exact hj)
  exact⟨x.1,hk,hn x (List.mem_of_getElem? hx)⟩
theorem MapR.present{k:IntKind}{es:List (Int×SV)}{p:Nat}{ord:Nat→Nat}{en:Array MapEntry}(h:MapR B F w k es p ord en){j:Nat}{x:Int×SV}(hx:es[j]? = some x):∃ z,Instr.findNow (.int k) (.int k x.1) en.toList 0=some (some (ord j,z))∧VR B F w x.2 z:=by
 obtain⟨e,h1,h2,h3⟩:=h.ent j x hx
 refine⟨e.val,?_,h3⟩
 rw[findNow_some 0 (ord j) e (by rw[Array.getElem?_toList];exact h1) h2 fun j' e' hj he=>?_,Nat.zero_add]
 rw[Array.getElem?_toList]at he
 obtain⟨q,y,hy,hq,hk,_⟩:=h.at he
 refine⟨y.1,hk,?_⟩
 rw[beq_eq_false_iff_ne]
 intro e'
 have:=h.nd j q x y hx hy e'
 subst this
 omega
theorem insertE_sound(hR:RM w0 m B F mem w){t:TypeId}{r:Res}{a b c o:SV}{x y z:Value}(hx:VR B F w a x)(hy:VR B F w b y)(hz:VR B F w c z)(hbc:Bd (Live mem) c)(hl:insertE P m mem t a b c=some r)(ho:r.Out o mem'):
  o=.any∧∃ w',(Instr.mapUpdate t x y z).run P w=.ok () w'∧RM w0 m B F mem' w'∧Ext mem mem'∧KeepsF F w w':=by
 unfold insertE at hl
 split at hl
 ·rename_i k et q k' i hmt
  obtain⟨kt,hu,hk⟩:=mapTy_some hmt
  split at hl
  ·rename_i k2 es n hb
   split at hl
   ·rename_i hcnd
    obtain⟨hm,rfl,rfl⟩:=hcnd
    split at hl
    ·rename_i hall
     cases hl
     obtain⟨rfl,rfl⟩:=ho
     cases hx
     cases hy
     obtain⟨h0,en,h1,h2⟩:=hR.blk q _ hb
     have hlt:=lt_of_some h1
     have hall':∀ e∈es,(i==e.1)=false:=fun e he=>by
      have:=List.all_eq_true.1 hall e he
      simpa using this
     have hfn:=h2.absent hall'
     refine⟨rfl,w.putObj (B q).blk (.map (en.push { key:=.int k2 i,val:=z,born:=es.length }) (es.length+1)),?_,?_,ext_set hb (fun r h=>by cases h),?_⟩
     ·simp only[Instr.mapUpdate,Sem.run_bind,run_underlying hu,Result.andThen_ok]
      rw[show(getObj (B q).blk).run P w=.ok (.map en es.length) w from by simp[getObj,Sem.run,h1]]
      have hck:(Instr.checkKey false 10000 kt (.int k2 i)).run P w=.ok () w:=checkKey_int hk false 9999 i w
      simp only[Result.andThen_ok,Sem.run_bind,hck,Instr.findKey,Sem.run_bind,run_underlying hk,hfn,Sem.run_pure]
      simp[setObj,Sem.run,h1,World.putObj]
     ·have hkf:KeepsF F w (w.putObj (B q).blk (.map (en.push { key:=.int k2 i,val:=z,born:=es.length }) (es.length+1))):=by
       refine⟨fun k hk=>World.putObj_heap_other fun e=>?_,fun d hd=>?_,by simp[World.putObj]⟩
       ·obtain⟨cs,t',zz,hc⟩:=hR.fc k hk
        rw[e,h1]at hc;cases hc
       ·rw[World.putObj_heap_other fun e=>by rw[e,h1]at hd;cases hd]
        exact hd
      refine hR.turn hm hb rfl rfl rfl (by simp[World.putObj]) ⟨rfl,rfl,rfl⟩ h0 (fun k hk=>World.putObj_heap_other hk) (by rw[h1];simp) ?_ ?_
      ·exact⟨h0,_,by rw[List.length_append];exact World.putObj_heap_same hlt,(h2.push (x:=(i,c)) hz hall').mono (fun _ h=>h) hkf.f⟩
      ·intro s hs
       simp only[Blk.refs,List.map_append,List.mem_append]at hs
       rcases hs with hs | hs
       ·exact hR.bd q _ hb s hs
       ·simp at hs;subst hs;exact hbc
     ·refine⟨fun k hk=>World.putObj_heap_other fun e=>?_,fun d hd=>?_,by simp[World.putObj]⟩
      ·obtain⟨cs,t',zz,hc⟩:=hR.fc k hk
       rw[e,h1]at hc;cases hc
      ·rw[World.putObj_heap_other fun e=>by rw[e,h1]at hd;cases hd]
       exact hd
    ·cases hl
   ·cases hl
  ·cases hl
 ·cases hl
theorem entryE_sound(hR:RM w0 m B F mem w){t:TypeId}{r:Res}{a b o:SV}{x y:Value}(hx:VR B F w a x)(hy:VR B F w b y)(hl:entryE P m mem t a b=some r)(ho:r.Out o mem'):
  ∃ w' z,(Instr.mapEntry t x y).run P w=.ok z w'∧VR B F w' o z∧Bd (Live mem') o∧RM w0 m B F mem' w'∧Ext mem mem'∧KeepsF F w w':=by
 unfold entryE at hl
 split at hl
 ·rename_i k et q k' i hmt
  obtain⟨kt,hu,hk⟩:=mapTy_some hmt
  split at hl
  ·rename_i k2 es n zz hb hz
   split at hl
   ·rename_i hcnd
    obtain⟨hm,rfl,rfl⟩:=hcnd
    split at hl
    ·rename_i hall
     cases hl
     obtain⟨rfl,rfl⟩:=ho
     cases hx
     cases hy
     obtain⟨h0,en,h1,h2⟩:=hR.blk q _ hb
     have hlt:=lt_of_some h1
     have hall':∀ e∈es,(i==e.1)=false:=fun e he=>by
      have:=List.all_eq_true.1 hall e he
      simpa using this
     have hfn:=h2.absent hall'
     have hkf:KeepsF F w (w.putObj (B q).blk (.map (en.push { key:=.int k2 i,val:=zz,born:=es.length }) (es.length+1))):=by
      refine⟨fun k hk=>World.putObj_heap_other fun e=>?_,fun d hd=>?_,by simp[World.putObj]⟩
      ·obtain⟨cs,t',zz,hc⟩:=hR.fc k hk
       rw[e,h1]at hc;cases hc
      ·rw[World.putObj_heap_other fun e=>by rw[e,h1]at hd;cases hd]
       exact hd
     refine⟨w.putObj (B q).blk (.map (en.push { key:=.int k2 i,val:=zz,born:=es.length }) (es.length+1)),.tuple #[zz,goInt es.length],?_,?_,?_,?_,ext_set hb (fun r h=>by cases h),hkf⟩
     ·simp only[Instr.mapEntry,Sem.run_bind,run_underlying hu,Result.andThen_ok]
      rw[show(getObj (B q).blk).run P w=.ok (.map en es.length) w from by simp[getObj,Sem.run,h1]]
      have hck:(Instr.checkKey false 10000 kt (.int k2 i)).run P w=.ok () w:=checkKey_int hk false 9999 i w
      simp only[Result.andThen_ok,Sem.run_bind,hck,Instr.findKey,Sem.run_bind,run_underlying hk,hfn,Sem.run_pure,Rx.pureRun_run P _ _ hz w]
      simp[setObj,Sem.run,h1,World.putObj]
     ·have:=VR.tup (B:=B) (F:=F) (w:=w.putObj (B q).blk (.map (en.push { key:=.int k2 i,val:=zz,born:=es.length }) (es.length+1))) [ofVal 5 zz,.v (.int .i64 es.length)] [zz,goInt es.length] rfl (fun j s d h1 h2=>by
       match j,h1,h2 with
       | 0,h1,h2=>cases h1;cases h2;exact vr_ofVal 5 zz
       | 1,h1,h2=>cases h1;cases h2;exact .v _
       | j+2,h1,h2=>simp at h1)
      simpa using this
     ·exact .tup fun s hs=>by
       rcases List.mem_cons.1 hs with rfl | hs
       ·exact bd_ofVal 5 zz
       ·rw[List.mem_singleton]at hs;subst hs;exact .v _
     ·refine hR.turn hm hb rfl rfl rfl (by simp[World.putObj]) ⟨rfl,rfl,rfl⟩ h0 (fun k hk=>World.putObj_heap_other hk) (by rw[h1];simp) ?_ ?_
      ·exact⟨h0,_,by rw[List.length_append];exact World.putObj_heap_same hlt,(h2.push (x:=(i,ofVal 5 zz)) (vr_ofVal 5 zz) hall').mono (fun _ h=>h) hkf.f⟩
      ·intro s hs
       simp only[Blk.refs,List.map_append,List.mem_append]at hs
       rcases hs with hs | hs
       ·exact hR.bd q _ hb s hs
       ·simp at hs;subst hs;exact bd_ofVal 5 zz
    ·cases hl
   ·cases hl
  ·cases hl
 ·cases hl
theorem map_modify_set{α β:Type}(g:α→β)(f:α→α)(c:β)(hg:∀ a,g (f a)=c):∀ (l:List α) (i:Nat),(l.modify i f).map g=(l.map g).set i c
 | [],i=>by simp
 | a::l,0=>by simp[hg]
 | a::l,i+1=>by simp[map_modify_set g f c hg l i]
theorem find_stamp{en:Array MapEntry}(hb:∀ (i:Nat) (e:MapEntry),en[i]? = some e→e.born=i){j:Nat}(hj:j < en.size):en.findIdx? (fun e=>(e.born:Int)==(j:Int))=some j:=by
 have hb:∀ k (hk:k < en.size),en[k].born=k:=fun k hk=>hb k _ (Array.getElem?_eq_getElem hk)
 rw[Array.findIdx?_eq_some_iff_getElem]
 refine⟨by omega,by rw[hb j (by omega)];simp,fun k hk=>?_⟩
 rw[hb k (by omega)]
 simp
 omega
theorem MapR.stamp{k:IntKind}{es:List (Int×SV)}{p:Nat}{ord:Nat→Nat}{en:Array MapEntry}(h:MapR B F w k es p ord en){j:Nat}(hj:p≤j){c:SV}{z:Value}(hz:VR B F w c z):
  MapR B F w k (es.modify j fun e=>(e.1,c)) p ord (en.modify j fun e=>{ e with val:=z }):=by
 have hes:∀ {i:Nat} {x:Int×SV},(es.modify j fun e=>(e.1,c))[i]? = some x→∃ y,es[i]? = some y∧x=if j=i then(y.1,c)else y:=fun {i x} hi=>by
  rw[List.getElem?_modify]at hi
  obtain⟨y,hy,e⟩:=Option.map_eq_some_iff.1 hi
  exact⟨y,hy,e.symm⟩
 have hen:∀ (i:Nat),(en.modify j fun e=>{ e with val:=z })[i]? =(en[i]?).map fun e=>if j=i then { e with val:=z } else e:=fun i=>by
  rw[Array.getElem?_modify]
  by_cases e:j=i
  ·simp[e]
  ·simp[e]
 refine⟨by simp[h.size],fun i e hi=>?_,h.inv,h.fix,by simp[h.le],fun i i' x y hx hy e=>?_,fun i x hx=>?_⟩
 ·rw[hen]at hi
  obtain⟨e',he,rfl⟩:=Option.map_eq_some_iff.1 hi
  have:=h.born i e' he
  split<;>exact this
 ·obtain⟨x',hx',rfl⟩:=hes hx
  obtain⟨y',hy',rfl⟩:=hes hy
  refine h.nd i i' x' y' hx' hy' ?_
  revert e
  split<;>split<;>exact fun e=>e
 ·obtain⟨x',hx',rfl⟩:=hes hx
  obtain⟨e,e1,e2,e3⟩:=h.ent i x' hx'
  by_cases hji:j=i
  ·subst hji
   refine⟨{ e with val:=z },?_,by rw[if_pos rfl];exact e2,by rw[if_pos rfl];exact hz⟩
   rw[hen,e1,h.fix j hj];simp
  ·have hne:¬j=ord i:=fun e=>hji (h.inj (by rw[h.fix j hj];exact e))
   refine⟨e,by rw[hen,e1];simp[hne],by rw[if_neg hji];exact e2,by rw[if_neg hji];exact e3⟩
theorem stampE_sound(hR:RM w0 m B F mem w){t:TypeId}{r:Res}{a b c o:SV}{x y z:Value}(hx:VR B F w a x)(hy:VR B F w b y)(hz:VR B F w c z)(hbc:Bd (Live mem) c)(hl:stampE m mem a b c=some r)(ho:r.Out o mem'):
  o=.any∧∃ w',(Instr.entryStore t x y z).run P w=.ok () w'∧RM w0 m B F mem' w'∧Ext mem mem'∧KeepsF F w w':=by
 unfold stampE at hl
 split at hl
 ·rename_i q j
  split at hl
  ·rename_i k2 es p hb
   split at hl
   ·rename_i hcnd
    obtain⟨hm,hj0,hjp,hj⟩:=hcnd
    cases hl
    obtain⟨rfl,rfl⟩:=ho
    cases hx
    cases hy
    obtain⟨n,rfl⟩:=Int.eq_ofNat_of_zero_le hj0
    simp only[Int.toNat_natCast]at hj hjp⊢
    obtain⟨h0,en,h1,h2⟩:=hR.blk q _ hb
    have hlt:=lt_of_some h1
    have hf:=find_stamp h2.born (j:=n) (by rw[h2.size];exact hj)
    have hkf:KeepsF F w (w.putObj (B q).blk (.map (en.modify n fun e=>{ e with val:=z }) es.length)):=by
     refine⟨fun k hk=>World.putObj_heap_other fun e=>?_,fun d hd=>?_,by simp[World.putObj]⟩
     ·obtain⟨cs,t',zz,hc⟩:=hR.fc k hk
      rw[e,h1]at hc;cases hc
     ·rw[World.putObj_heap_other fun e=>by rw[e,h1]at hd;cases hd]
      exact hd
    refine⟨trivial,w.putObj (B q).blk (.map (en.modify n fun e=>{ e with val:=z }) es.length),?_,?_,ext_set hb (fun r h=>by cases h),hkf⟩
    ·simp only[Instr.entryStore,Sem.run_bind]
     rw[show(getObj (B q).blk).run P w=.ok (.map en es.length) w from by simp[getObj,Sem.run,h1]]
     simp only[Result.andThen_ok,Sem.run_bind,asInt,asIntOf,Sem.run_pure,hf]
     simp[setObj,Sem.run,h1,World.putObj]
    ·refine hR.turn hm hb rfl rfl rfl (by simp[World.putObj]) ⟨rfl,rfl,rfl⟩ h0 (fun k hk=>World.putObj_heap_other hk) (by rw[h1];simp) ?_ ?_
     ·exact⟨h0,_,by rw[List.length_modify];exact World.putObj_heap_same hlt,(h2.stamp hjp hz).mono (fun _ h=>h) hkf.f⟩
     ·intro s hs
      simp only[Blk.refs]at hs
      rw[map_modify_set (fun e:Int×SV=>e.2) (fun e=>(e.1,c)) c (fun _=>rfl)]at hs
      rcases List.mem_or_eq_of_mem_set hs with hs | rfl
      ·exact hR.bd q _ hb s hs
      ·exact hbc
   ·cases hl
  ·cases hl
 ·cases hl
theorem lookA_out{i:Int}{z:SV}{ok:Bool}{o:SV}:∀ {es:List (Int×SV)},(lookA mem i z ok es).Out o mem'→
  mem'=mem∧(((∀ e∈es,(i==e.1)=false)∧o=bif ok then .tup [z,.v (.bool false)]else z)∨
   ∃ (j:Nat) (x:Int×SV),es[j]? = some x∧i=x.1∧o=bif ok then .tup [x.2,.v (.bool true)]else x.2)
 | [],ho=>⟨ho.2,.inl ⟨fun e h=>(by cases h),ho.1⟩⟩
 | f::es,ho=>by
  rcases ho with⟨hc,ho⟩ | ⟨hc,ho⟩
  ·exact⟨ho.2,.inr ⟨0,f,rfl,by simpa using hc,ho.1⟩⟩
  ·obtain⟨hm,hr⟩:=lookA_out ho
   refine⟨hm,?_⟩
   rcases hr with⟨h1,h2⟩ | ⟨j,x,h1,h2,h3⟩
   ·exact .inl ⟨fun e he=>by
     rcases List.mem_cons.1 he with rfl | he
     ·exact hc
     ·exact h1 e he,h2⟩
   ·exact .inr ⟨j+1,x,by simpa using h1,h2,h3⟩
theorem lookupE_sound(hR:RM w0 m B F mem w){t:TypeId}{r:Res}{a b o:SV}{x y:Value}{ok:Bool}(hx:VR B F w a x)(hy:VR B F w b y)(hl:lookupE P mem t a b ok=some r)(ho:r.Out o mem'):
  mem'=mem∧Bd (Live mem) o∧∃ z,(Instr.lookup t x y ok).run P w=.ok z w∧VR B F w o z:=by
 unfold lookupE at hl
 split at hl
 ·rename_i k et q k' i hmt
  obtain⟨kt,hu,hk⟩:=mapTy_some hmt
  split at hl
  ·rename_i k2 es n z hb hz
   split at hl
   ·rename_i hcnd
    obtain⟨rfl,rfl⟩:=hcnd
    cases hl
    cases hx
    cases hy
    obtain⟨h0,en,h1,h2⟩:=hR.blk q _ hb
    obtain⟨hm,hr⟩:=lookA_out ho
    have hrun:∀ (r0:Option (Nat×Value)),Instr.findNow (.int k2) (.int k2 i) en.toList 0=some r0→(Instr.lookup t (.map (some (B q).blk)) (.int k2 i) ok).run P w =
      .ok (match r0 with | some (_,v)=>(if ok then .tuple #[v,.bool true]else v) | none=>(if ok then .tuple #[z,.bool false]else z)) w:=by
     intro r0 hr0
     simp only[Instr.lookup,Sem.run_bind,run_underlying hu,Result.andThen_ok]
     rw[show(getObj (B q).blk).run P w=.ok (.map en es.length) w from by simp[getObj,Sem.run,h1]]
     have hck:(Instr.checkKey en.isEmpty 10000 kt (.int k2 i)).run P w=.ok () w:=checkKey_int hk _ 9999 i w
     simp only[Result.andThen_ok,Sem.run_bind,Sem.run_pure,hck,Instr.findKey,Sem.run_bind,run_underlying hk,hr0,Sem.run_pure]
     cases r0 with
     | none=>simp only[Sem.run_bind,Rx.pureRun_run P _ _ hz w,Result.andThen_ok,Sem.run_pure]
     | some p=>simp only[Sem.run_bind,Result.andThen_ok,Sem.run_pure]
    subst hm
    rcases hr with⟨e1,rfl⟩ | ⟨j,x,e1,rfl,rfl⟩
    ·refine⟨rfl,?_,_,hrun _ (h2.absent e1),?_⟩
     ·cases ok
      ·exact bd_ofVal 5 z
      ·exact .tup fun s hs=>by simp at hs;rcases hs with rfl | rfl;exact bd_ofVal 5 z;exact .v _
     ·cases ok
      ·exact vr_ofVal 5 z
      ·exact VR.tup' (ds:=[z,.bool false]) (.cons (vr_ofVal 5 z) (.cons (.v _) .nil))
    ·have hbs:Bd (Live mem') x.2:=hR.bd q _ hb x.2 (List.mem_map.2 ⟨x,List.mem_of_getElem? e1,rfl⟩)
     obtain⟨v,e3,e2⟩:=h2.present e1
     refine⟨rfl,?_,_,hrun _ e3,?_⟩
     ·cases ok
      ·exact hbs
      ·exact .tup fun u hu=>by simp at hu;rcases hu with rfl | rfl;exact hbs;exact .v _
     ·cases ok
      ·exact e2
      ·exact VR.tup' (ds:=[v,.bool true]) (.cons e2 (.cons (.v _) .nil))
   ·cases hl
  ·cases hl
 ·cases hl
end
end Go.Q
namespace Go.Q
open Go Go.RowKit
section
variable [HasP]{P:Program}{w0 w:World}{m:Nat}{B:Loc}{F:Nat→Prop}{mem mem':Mem}{ts:List SV}{a:Act}{o:Oper}{s:SV}
theorem fieldAddrE_sound{D:Nat→Prop}{t:TypeId}{f:Nat}{u:SV}{x:Value}(hb:Bd D s)(hx:VR B F w s x)(hl:fieldAddrE P t f s=some u):
  Bd D u∧∃ y,(Instr.fieldAt t x f).run P w=.ok y w∧VR B F w u y:=by
 unfold fieldAddrE at hl
 split at hl
 ·rename_i fs hu
  split at hl
  ·rename_i fd hf
   split at hl
   ·rename_i k hk
    have hne:¬(k+1=0):=by omega
    have hrun:∀ b p,(Instr.fieldAt t (.pointer (some ⟨b,p,none⟩)) f).run P w=.ok (.pointer (some ⟨b,p+fd.offset,none⟩)) w:=fun b p=>by
     simp only[Instr.fieldAt,Sem.run_bind,run_underlying hu,Result.andThen_ok,hf,Instr.sureAddr,Sem.run_pure,fieldPlace,Rx.run_sizeOf hk,hne,if_false]
     congr 3
     unfold Addr.add;split<;>simp_all
    split at hl
    ·cases hl
     cases hx
     cases hb with | ptr hb=>exact⟨.ptr hb,_,hrun _ _,by rw[Nat.add_assoc];exact .ptr _ _⟩
    ·cases hl
     cases hx with | ep _ _ _ b p cs h1 h2 h3=>exact⟨.ep,_,hrun _ _,by rw[Nat.add_assoc];exact .ep _ _ _ b p cs h1 h2 h3⟩
    ·cases hl
     cases hx
     cases hb with | rp hb=>exact⟨.rp hb,_,hrun _ _,by rw[Nat.add_assoc,Nat.add_assoc];exact .rp _ _ _ _⟩
    ·cases hl
   ·cases hl
  ·cases hl
 ·cases hl
theorem fieldE_sound{D:Nat→Prop}{t:TypeId}{f:Nat}{u:SV}{x:Value}(hb:Bd D s)(hx:VR B F w s x)(hl:fieldE P t f s=some u):
  Bd D u∧∃ y,(Instr.field t x f).run P w=.ok y w∧VR B F w u y:=by
 unfold fieldE at hl
 split at hl
 ·rename_i cs
  obtain⟨ds,rfl,hv⟩:=VRs.of_vr_agg hx
  split at hl
  ·rename_i fs hu
   split at hl
   ·rename_i fd hf
    split at hl
    ·rename_i d n hd hn
     have hbu:=bd_takeAgg hb.of_agg hl
     unfold takeAgg at hl
     split at hl
     ·rename_i hag
      have hag':Rx.aggD d=true:=hag
      split at hl
      ·rename_i hle
       cases hl
       refine⟨hbu,.agg ((ds.drop fd.offset).take n).toArray,?_,VR.agg' ((hv.drop _).take _)⟩
       simp only[Instr.field,Sem.run_bind,run_underlying hu,Result.andThen_ok,hf,asAgg,Sem.run_pure,part,Rx.run_isAgg hd,hag',if_true,Rx.run_sizeOf hn]
       congr 2
       apply Array.ext'
       simp[List.take_drop,Nat.add_comm]
      ·cases hl
     ·rename_i hag
      have hag':Rx.aggD d=false:=by
       have h':aggD d=false:=by simpa using hag
       exact h'
      obtain⟨y,hy,hvr⟩:=hv.get hl
      refine⟨hbu,y,?_,hvr⟩
      simp only[Instr.field,Sem.run_bind,run_underlying hu,Result.andThen_ok,hf,asAgg,Sem.run_pure,part,Rx.run_isAgg hd,hag',Bool.false_eq_true,if_false,List.getElem?_toArray,hy]
    ·cases hl
   ·cases hl
  ·cases hl
 ·cases hl
theorem row_partV{T:Ty}{l:List T.α}{t:TypeId}{fz:Bool}{p:Place}(h:BlkR B F w (.row T l t fz) p)(k:Nat):PartV p 0 l.length k p.val:=by
 rcases h with⟨h1,rfl⟩ | ⟨h0,h1,h2,h3,ds,h4,h5,h7,h6⟩
 ·exact .inl ⟨h1,rfl,rfl,by simp[Place.val,h1]⟩
 ·exact .inr ⟨h0,⟨p.blk,p.off,none⟩,p.cap,by simp[Place.val,h0,h2],h3,.inl ⟨by simp,by omega⟩⟩
theorem glE_sound{a:Act}(hR:RM w0 m B F mem w){t:TypeId}{r:Res}{x:Operand}{ix u:SV}{y:Value}(hy:ix≠.any→VR B F w ix y)(hl:glE P mem t x ix=some r)(ho:r.Out u mem'):
  mem'=mem∧Bd (Live mem) u∧∃ z,(Instr.indexAt t (a.eval x) y).run P w=.ok z w∧VR B F w u z:=by
 unfold glE at hl
 split at hl
 ·rename_i g ik i
  cases hy (fun e=>by cases e)
  split at hl
  ·rename_i n e hu
   split at hl
   ·rename_i hc
    obtain⟨hn,rfl⟩:=hc
    cases hl
    obtain⟨v,hv,he⟩:=ho
    cases he
    unfold idxL at hv
    split at hv
    ·rename_i h0
     have hlt:=(List.getElem?_eq_some_iff.1 hv).1
     have hi:i < ((gtab g).length:Int):=by omega
     obtain⟨hF,hcell⟩:=hR.fc.g g i.toNat v hv
     refine⟨rfl,.ep,.pointer (some ⟨g,i.toNat+0,none⟩),?_,.ep (.int .i64) v 0 g i.toNat [.int .i64 v] hF rfl fun j d hd=>?_⟩
     ·simp only[Act.eval,Instr.indexAt,asIntOf,Sem.run_bind,Sem.run_pure,Result.andThen_ok,run_underlying hu,Instr.sureAddr,h0,hi,and_self,if_true,Rx.run_sizeOf hn]
      congr 3
      unfold Addr.add
      split
      ·rename_i hz
       have:i.toNat=0:=by simpa using hz
       simp[this]
      ·simp
     ·cases j with
      | zero=>cases hd;exact hcell
      | succ j=>cases hd
    ·cases hv
   ·cases hl
  ·cases hl
 ·cases hl
theorem indexAddrE_sound(hR:RM w0 m B F mem w){t:TypeId}{r:Res}{ix u:SV}{x y:Value}(hb:Bd (Live mem) s)(hx:VR B F w s x)(hy:VR B F w ix y)(hl:indexAddrE P mem t s ix=some r)(ho:r.Out u mem'):
  mem'=mem∧Bd (Live mem) u∧∃ z,(Instr.indexAt t x y).run P w=.ok z w∧VR B F w u z:=by
 unfold indexAddrE at hl
 split at hl
 ·rename_i ik i
  cases hy
  split at hl
  ·rename_i T l
   split at hl
   ·rename_i e hu
    split at hl
    ·rename_i hn
     cases hl
     obtain⟨z,hz,he⟩:=ho
     cases he
     unfold idxL at hz
     split at hz
     ·rename_i h0
      have hlt:=(List.getElem?_eq_some_iff.1 hz).1
      cases hx with | sl _ _ _ h =>
       obtain⟨v',e1,h⟩:=h
       cases e1
       rcases h with⟨rfl,rfl⟩ | ⟨b,o,cap,rfl,hF,hc,h⟩
       ·simp at hz
       ·obtain⟨ds,h1,h2⟩:=h _ z hz
        refine⟨rfl,.ep,.pointer (some ⟨b,o+i.toNat*T.n,none⟩),?_,?_⟩
        ·have hb':0≤i∧i < (l.length:Int):=⟨h0,by omega⟩
         simp only[Instr.indexAt,asIntOf,Sem.run_bind,Sem.run_pure,Result.andThen_ok,run_underlying hu,hb',and_self,if_true,Rx.run_sizeOf hn]
         congr 3
         unfold Addr.add;split<;>simp_all
        ·have:=VR.ep (B:=B) (F:=F) (w:=w) T z 0 b (o+i.toNat*T.n) ds hF h1 (fun j d hd=>by rw[Nat.add_assoc];exact h2 j d hd)
         simpa using this
     ·cases hz
    ·cases hl
   ·cases hl
  ·rename_i b
   split at hl
   ·rename_i e T l ty fz hu hb'
    split at hl
    ·rename_i hn
     cases hl
     obtain⟨j,hj,he⟩:=ho
     cases he
     unfold idxB at hj
     split at hj
     ·rename_i hc
      cases hj
      have hlt:i.toNat < l.length:=by omega
      obtain⟨h0,h1,h2,_⟩:=row_elem (hR.blk b _ hb') (List.getElem?_eq_getElem hlt)
      cases hx
      refine⟨rfl,.rp (by cases hb with | row h=>exact h),.pointer (some ⟨(B b).blk,(B b).off+(i.toNat*T.n+0),none⟩),?_,.rp _ _ _ _⟩
      simp only[Place.val,h0,cond_false,Instr.indexAt,asIntOf,Sem.run_bind,Sem.run_pure,Result.andThen_ok,run_underlying hu,h2,hc,and_self,if_true,Rx.run_sizeOf hn]
      congr 3
      unfold Addr.add;split<;>simp_all
     ·cases hj
    ·cases hl
   ·cases hl
  ·rename_i b lo n k
   split at hl
   ·rename_i e T l ty fz hu hb'
    split at hl
    ·rename_i hn
     obtain⟨hn,rfl⟩:=hn
     cases hl
     obtain⟨j,hj,he⟩:=ho
     cases he
     unfold idxB at hj
     split at hj
     ·rename_i hc
      cases hj
      cases hx with | part _ _ _ _ _ hp =>
       have hbl:Live mem b:=by cases hb with | part h=>exact h
       rcases hp with⟨_,_,rfl,_⟩ | ⟨p0,a',c,rfl,p1,⟨rfl,p2⟩ | ⟨rfl,_⟩⟩
       ·omega
       ·refine⟨rfl,.rp hbl,.pointer (some ⟨(B b).blk,(B b).off+((lo+i.toNat)*T.n+0),none⟩),?_,.rp _ _ _ _⟩
        simp only[Instr.indexAt,asIntOf,Sem.run_bind,Sem.run_pure,Result.andThen_ok,run_underlying hu,hc,and_self,if_true,Rx.run_sizeOf hn]
        congr 3
        unfold Addr.add;split<;>simp_all [Nat.add_mul,Nat.add_assoc]
       ·omega
     ·cases hj
    ·cases hl
   ·cases hl
  ·rename_i b o
   split at hl
   ·rename_i n e hu
    split at hl
    ·rename_i k hk
     split at hl
     ·rename_i hc
      cases hl
      obtain⟨rfl,rfl⟩:=ho
      cases hx
      have hc':0≤i∧i < (n:Int):=hc.2
      refine⟨rfl,.ptr (by cases hb with | ptr h=>exact h),.pointer (some ⟨(B b).blk,(B b).off+(o+i.toNat*k),none⟩),?_,.ptr _ _⟩
      simp only[Instr.indexAt,asIntOf,Sem.run_bind,Sem.run_pure,Result.andThen_ok,run_underlying hu,Instr.sureAddr,hc',and_self,if_true,Rx.run_sizeOf hk]
      congr 3
      unfold Addr.add;split<;>simp_all [Nat.add_assoc]
     ·cases hl
    ·cases hl
   ·cases hl
  ·cases hl
 ·cases hl
theorem lenE_sound(hR:RM w0 m B F mem w){t rt:TypeId}{u:SV}{x:Value}(hx:VR B F w s x)(hl:lenE P mem t s=some u):
  (∀ D,Bd D u)∧∃ z,(Builtin.len_ #[t] rt #[x]).run P w=.ok z w∧VR B F w u z:=by
 unfold lenE at hl
 split at hl
 ·rename_i e hu
  split at hl
  ·rename_i T l
   cases hl
   refine⟨fun D=>.v _,.int .i64 l.length,?_,.v _⟩
   cases hx with | sl _ _ _ h =>
    obtain⟨v',e1,h⟩:=h
    cases e1
    rcases h with⟨rfl,rfl⟩ | ⟨b,o,cap,rfl,hF,hc,h⟩<;>simp[Builtin.len_,run_underlying hu,goInt,Sem.run_bind,Sem.run_pure,Result.andThen_ok]
  ·rename_i b
   split at hl
   ·rename_i T l ty fz hb
    cases hl
    refine⟨fun D=>.v _,.int .i64 l.length,?_,.v _⟩
    cases hx
    rcases hR.blk b _ hb with⟨h1,rfl⟩ | ⟨h0,h1,h2,_⟩
    ·simp[Place.val,h1,Builtin.len_,run_underlying hu,goInt,Sem.run_bind,Sem.run_pure,Result.andThen_ok]
    ·simp[Place.val,h0,h2,Builtin.len_,run_underlying hu,goInt,Sem.run_bind,Sem.run_pure,Result.andThen_ok]
   ·cases hl
  ·rename_i b lo n k
   cases hl
   refine⟨fun D=>.v _,.int .i64 n,?_,.v _⟩
   cases hx with | part _ _ _ _ _ hp =>
    rcases hp with⟨_,_,rfl,rfl⟩ | ⟨p0,a',c,rfl,p1,_⟩<;>simp[Builtin.len_,run_underlying hu,goInt,Sem.run_bind,Sem.run_pure,Result.andThen_ok]
  ·cases hl
 ·cases hl
theorem evI_spec(hT:VRs B F w ts a.tmps.toList){x:Option Operand}{i:Option Int}(h:evI ts x=some i):
  (x=none∧i=none)∨∃ y j k,x=some y∧i=some j∧a.eval y=.int k j:=by
 cases x with
 | none=>simp only[evI,Option.some.injEq]at h;exact .inl ⟨rfl,h.symm⟩
 | some y =>
  right
  simp only[evI]at h
  split at h
  ·rename_i hok
   have hv:=ev_vr (B:=B) (F:=F) (w:=w) hT hok
   split at h
   ·rename_i k j e
    rw[e]at hv
    cases h
    refine⟨y,j,k,rfl,rfl,?_⟩
    generalize a.eval y=z at hv
    cases hv;rfl
   ·cases h
  ·cases h
theorem bounds_run(hT:VRs B F w ts a.tmps.toList){lo hi:Option Operand}{li hi':Option Int}(e2:evI ts lo=some li)(e3:evI ts hi=some hi'){len cap h l:Nat}{q:Bool}(hc:len≤cap)
  (hh:Rx.bnd hi' len len=some h) (hl:Rx.bnd li h 0=some l):(Instr.sliceBounds q len cap (lo.map a.eval) (hi.map a.eval) none).run P w=.ok (l,h,cap) w∧h≤len∧l≤h:=by
 have up:∀ {i:Option Int} {t d r:Nat},Rx.bnd i t d=some r→d≤t→r≤t:=by
  intro i t d r h hd
  unfold Rx.bnd at h
  split at h
  ·cases h;exact hd
  ·split at h
   ·cases h;omega
   ·cases h
 have wider:∀ {i:Int} {d r:Nat},Rx.bnd (some i) len d=some r→Rx.bnd (some i) cap 0=some r:=by
  intro i d r h
  simp only[Rx.bnd]at h⊢
  split at h
  ·rw[if_pos (by omega)];exact h
  ·cases h
 refine⟨?_,up hh (Nat.le_refl _),up hl (Nat.zero_le _)⟩
 unfold Instr.sliceBounds
 rcases evI_spec hT e2 with⟨rfl,rfl⟩ | ⟨lx,lj,lk,rfl,rfl,hle⟩<;>rcases evI_spec hT e3 with⟨rfl,rfl⟩ | ⟨hx',hj,hk',rfl,rfl,hhe⟩
 ·simp only[Rx.bnd,Option.some.injEq]at hh hl
  subst hh hl
  simp
 ·simp only[Rx.bnd,Option.some.injEq]at hl
  subst hl
  have:=fun c=>Rx.run_bnd (P:=P) (w:=w) (c:=c) hhe (wider hh)
  simp[this]
 ·simp only[Rx.bnd,Option.some.injEq]at hh
  subst hh
  have:=fun c=>Rx.run_bnd (P:=P) (w:=w) (c:=c) hle hl
  simp[this]
 ·have h1:=fun c=>Rx.run_bnd (P:=P) (w:=w) (c:=c) hhe (wider hh)
  have h2:=fun c=>Rx.run_bnd (P:=P) (w:=w) (c:=c) hle hl
  simp[h1,h2]
theorem cut_sound(hT:VRs B F w ts a.tmps.toList){T:Ty}{l l':List T.α}{t e:TypeId}{x:Value}{lo hi:Option Operand}{li hi':Option Int}(hu:P.underlying t=some (.slice e))(hn:sizeE P e=some T.n)
  (e2:evI ts lo=some li) (e3:evI ts hi=some hi') (hx:VR B F w (.sl T l) x) (hc:cutL l li hi'=some l') :
  ∃ z,(Instr.sliceAt t x (lo.map a.eval) (hi.map a.eval) none).run P w=.ok z w∧VR B F w (.sl T l') z:=by
 unfold cutL at hc
 obtain⟨hv,hh1,hc⟩:=Option.bind_eq_some_iff.1 hc
 obtain⟨lv,hl1,hc⟩:=Option.bind_eq_some_iff.1 hc
 cases hc
 cases hx with | sl _ _ _ h =>
  obtain⟨v',e1,h⟩:=h
  cases e1
  rcases h with⟨rfl,rfl⟩ | ⟨b,o,cap,rfl,hF,hcap,h⟩
  ·obtain⟨k1,k2,k3⟩:=bounds_run (P:=P) hT e2 e3 (len:=0) (cap:=0) (q:=true) (Nat.le_refl _) hh1 hl1
   have e4:hv=0:=by omega
   have e5:lv=0:=by omega
   subst e4 e5
   refine⟨.slice none 0 0,?_,.sl T _ _ ⟨_,rfl,.inl ⟨by simp,rfl⟩⟩⟩
   simp only[Instr.sliceAt,Sem.run_bind,run_underlying hu,Result.andThen_ok,Instr.slice,k1,Rx.run_sizeOf hn,Sem.run_pure]
   simp
  ·obtain⟨k1,k2,k3⟩:=bounds_run (P:=P) hT e2 e3 (q:=true) hcap hh1 hl1
   have hlen:((l.take hv).drop lv).length=hv-lv:=by simp;omega
   refine⟨.slice (some ⟨b,if cap=lv then o else o+lv*T.n,none⟩) (hv-lv) (cap-lv),?_,.sl T _ _ ⟨_,rfl,.inr ⟨b,_,cap-lv,by rw[hlen],hF,by rw[hlen];omega,fun i x hx=>?_⟩⟩⟩
   ·simp only[Instr.sliceAt,Sem.run_bind,run_underlying hu,Result.andThen_ok,Instr.slice,k1,Rx.run_sizeOf hn,Sem.run_pure]
    congr 3
    split
    ·rfl
    ·simp[Addr.add]
   ·rw[List.getElem?_drop]at hx
    have hlt:lv+i < hv:=by have:=(List.getElem?_eq_some_iff.1 hx).1;simp at this;omega
    rw[List.getElem?_take_of_lt hlt]at hx
    obtain⟨ds,d1,d2⟩:=h _ x hx
    refine⟨ds,d1,fun j d hd=>?_⟩
    rw[if_neg (by omega)]
    have:=d2 j d hd
    rw[Nat.add_mul,Nat.add_assoc]at this
    rw[Nat.add_assoc];exact this
theorem fromB_eq{n lo:Nat}{li hi':Option Int}{r:Nat×Nat}(h:cutB n li hi'=some r):fromB lo li r.1=lo+r.1:=by
 cases li with
 | some i=>rfl
 | none =>
  unfold cutB at h
  obtain⟨hv,hh1,h⟩:=Option.bind_eq_some_iff.1 h
  obtain⟨lv,hl1,h⟩:=Option.bind_eq_some_iff.1 h
  cases h
  simp only[Rx.bnd,Option.some.injEq]at hl1
  subst hl1
  rfl
theorem slice_part(hT:VRs B F w ts a.tmps.toList){p:Place}{lo n k:Nat}{t e:TypeId}{x:Value}{lo' hi:Option Operand}{li hi':Option Int}{r:Nat×Nat}(hu:P.underlying t=some (.slice e))(hn:sizeE P e=some k)
  (e2:evI ts lo'=some li) (e3:evI ts hi=some hi') (hx:PartV p lo n k x) (hc:cutB n li hi'=some r) :
  ∃ z,(Instr.sliceAt t x (lo'.map a.eval) (hi.map a.eval) none).run P w=.ok z w∧PartV p (fromB lo li r.1) r.2 k z:=by
 rw[fromB_eq hc]
 unfold cutB at hc
 obtain⟨hv,hh1,hc⟩:=Option.bind_eq_some_iff.1 hc
 obtain⟨lv,hl1,hc⟩:=Option.bind_eq_some_iff.1 hc
 cases hc
 rcases hx with⟨q1,rfl,rfl,rfl⟩ | ⟨q0,ad,c,rfl,q1,q2⟩
 ·obtain⟨k1,k2,k3⟩:=bounds_run (P:=P) hT e2 e3 (len:=0) (cap:=0) (q:=true) (Nat.le_refl _) hh1 hl1
  have e4:hv=0:=by omega
  have e5:lv=0:=by omega
  subst e4 e5
  refine⟨.slice none 0 0,?_,.inl ⟨q1,rfl,rfl,rfl⟩⟩
  simp only[Instr.sliceAt,Sem.run_bind,run_underlying hu,Result.andThen_ok,Instr.slice,k1,Rx.run_sizeOf hn,Sem.run_pure]
  simp
 ·obtain⟨k1,k2,k3⟩:=bounds_run (P:=P) hT e2 e3 (q:=true) q1 hh1 hl1
  refine⟨.slice (some (if c=lv then ad else ad.add (lv*k))) (hv-lv) (c-lv),?_,.inr ⟨q0,_,_,rfl,by omega,?_⟩⟩
  ·simp only[Instr.sliceAt,Sem.run_bind,run_underlying hu,Result.andThen_ok,Instr.slice,k1,Rx.run_sizeOf hn,Sem.run_pure]
   congr 3
   split<;>rfl
  ·rcases q2 with⟨rfl,q3⟩ | ⟨rfl,q3⟩
   ·by_cases hcl:c=lv
    ·rw[if_pos hcl]
     by_cases h0:lv=0
     ·subst h0
      exact .inl ⟨by simp,by omega⟩
     ·exact .inr ⟨by omega,by omega⟩
    ·rw[if_neg hcl]
     refine .inl ⟨?_,by omega⟩
     unfold Addr.add
     split
     ·rename_i h;rw[Nat.add_mul,h];simp
     ·simp[Nat.add_mul,Nat.add_assoc]
   ·exact .inr ⟨by omega,by omega⟩
theorem flat_congr(hT:VRs B F w ts a.tmps.toList)(h:flatOps ts o=true):execOp a.eval o=execOp (Act.eval { tmps:=((vals ts).map (Rx.rel fun _=>(0,0))).toArray,defers:=[] }) o:=by
 unfold flatOps at h
 simp only[Bool.and_eq_true,Bool.not_eq_true',List.all_eq_true]at h
 obtain⟨hsel,hops⟩:=h
 refine execOp_congr o (fun cs b e=>by rw[e]at hsel;simp[Rx.isSel]at hsel) fun x hx=>?_
 have hx':=hops x (by simpa using hx)
 cases x with
 | tmp t =>
  simp only at hx'
  cases hq:toV 4 (ts.getD t .any)with
  | none=>rw[hq]at hx';cases hx'
  | some v =>
   rw[hq]at hx'
   have hv:=ev_vr (B:=B) (F:=F) (w:=w) hT (x:=.tmp t) rfl
   have e1:=toV_eq hq hv
   rw[e1]
   simp only[Act.eval,Array.getD_eq_getD_getElem?,List.getElem?_toArray,vals,List.map_map,List.getElem?_map]
   cases hts:ts[t]? with
   | none =>
    have:ts.getD t .any=.any:=by simp[List.getD,hts]
    rw[this]at hq;cases hq
   | some s' =>
    have:ts.getD t .any=s':=by simp[List.getD,hts]
    rw[this]at hq
    simp only[Option.map_some,Function.comp,hq,Option.getD_some]
    rw[Rx.rel_free _ hx']
 | const v=>rfl
 | func f=>cases hx'
 | global g=>cases hx'
theorem flatE_sound(hT:VRs B F w ts a.tmps.toList){r:Res}{u:SV}(hl:flatE P ts mem o=some r)(ho:r.Out u mem'):
  mem'=mem∧(∀ D,Bd D u)∧∃ z,(execOp a.eval o).run P w=.ok (.value z) w∧VR B F w u z:=by
 unfold flatE at hl
 split at hl
 ·rename_i hf
  rw[flat_congr hT hf]
  split at hl
  ·rename_i T hp
   cases hl
   obtain⟨y,hy,he⟩:=ho
   cases he
   obtain⟨h1,h2⟩:=Rx.partE_sound (w:=w) (a:={ tmps:=((vals ts).map (Rx.rel fun _=>(0,0))).toArray,defers:=[] }) rfl hp hy
   exact⟨rfl,fun D=>bd_ofVal 4 _,_,h1,vr_ofVal 4 _⟩
  ·split at hl
   ·rename_i v hp
    cases hl
    obtain⟨rfl,rfl⟩:=ho
    obtain⟨h1,h2⟩:=Rx.pureE_sound (w:=w) (a:={ tmps:=((vals ts).map (Rx.rel fun _=>(0,0))).toArray,defers:=[] }) rfl hp
    rw[Rx.rel_free _ h2]at h1
    exact⟨rfl,fun D=>bd_ofVal 4 _,_,h1,vr_ofVal 4 _⟩
   ·cases hl
 ·cases hl
theorem fold_set(off:Nat):∀ (vc:List Value) (q:Nat) (ds:Array Value),off+q+vc.length≤ds.size→
  ((vc.zipIdx q).foldl (fun cs (x:Value×Nat)=>cs.setIfInBounds (off+x.2) x.1) ds).toList=ds.toList.take (off+q)++vc++ds.toList.drop (off+q+vc.length)
 | [],q,ds,h=>by simp
 | v::vc,q,ds,h=>by
  simp only[List.zipIdx_cons,List.foldl_cons]
  simp only[List.length_cons]at h
  rw[fold_set off vc (q+1) (ds.setIfInBounds (off+q) v) (by simp;omega)]
  rw[Array.toList_setIfInBounds]
  have e1:(ds.toList.set (off+q) v).take (off+(q+1))=ds.toList.take (off+q)++[v]:=by
   apply List.ext_getElem?
   intro i
   have hl:(ds.toList.take (off+q)).length=off+q:=by simp;omega
   by_cases h1:i < off+q
   ·rw[List.getElem?_take_of_lt (by omega),List.getElem?_set,if_neg (by omega),List.getElem?_append_left (by omega),List.getElem?_take_of_lt h1]
   ·by_cases h2:i=off+q
    ·subst h2
     rw[List.getElem?_take_of_lt (by omega),List.getElem?_set,if_pos rfl,if_pos (by simp;omega),List.getElem?_append_right (by omega),hl]
     simp
    ·rw[List.getElem?_eq_none (by simp;omega),List.getElem?_eq_none (by simp;omega)]
  have e2:(ds.toList.set (off+q) v).drop (off+(q+1)+vc.length)=ds.toList.drop (off+q+(vc.length+1)):=by
   apply List.ext_getElem?
   intro i
   rw[List.getElem?_drop,List.getElem?_drop,List.getElem?_set,if_neg (by omega)]
   congr 1
   omega
  rw[e1,e2]
  simp
theorem fillS_sound(place:Nat→Option (Nat×Nat)):∀ (ps:List (Nat×SV)) (xs:List (Nat×Value)) (cs cs':List SV) (ds:List Value),fillS place cs ps=some cs'→VRs B F w cs ds→
  ps.map (·.1)=xs.map (·.1)→VRs B F w (ps.map (·.2)) (xs.map (·.2))→∃ ds':List Value,Instr.fill place ds.toArray xs=some ds'.toArray∧VRs B F w cs' ds'
 | [],xs,cs,cs',ds,h,hv,hi,hp=>by
  simp only[fillS,Option.some.injEq]at h
  subst h
  have:xs=[]:=by simpa using hi.symm
  subst this
  exact⟨ds,rfl,hv⟩
 | (i,v)::ps,xs,cs,cs',ds,h,hv,hi,hp=>by
  cases xs with
  | nil=>simp at hi
  | cons x xs =>
   obtain⟨j,x⟩:=x
   simp only[List.map_cons,List.cons.injEq]at hi
   obtain⟨rfl,hi⟩:=hi
   obtain⟨d,ds1,e1,h1,h2⟩:=hp.head
   simp only[List.map_cons,List.cons.injEq]at e1
   obtain⟨rfl,rfl⟩:=e1
   simp only[fillS]at h
   split at h
   ·rename_i off size vc hpl hvc
    split at h
    ·rename_i hc
     have hxs:=h1.cells hvc
     have hsz:x.cells.size=size:=by rw[h1.cells_size hvc,hc.1]
     have hlen:cs.length=ds.length:=hv.1
     have hle:off+size≤ds.length:=by rw[←hlen];exact hc.2
     obtain⟨ds',k1,k2⟩:=fillS_sound place ps xs _ cs' (ds.take off++x.cells.toList++ds.drop (off+size)) h (((hv.take off).append hxs).append (hv.drop (off+size))) hi h2
     refine⟨ds',?_,k2⟩
     simp only[Instr.fill,hpl]
     have hcond:(decide (x.cells.size≠size)||decide (off+x.cells.size > ds.toArray.size))=false:=by
      simp[hsz];omega
     rw[if_neg (by simpa using hcond)]
     have hfold:(x.cells.zipIdx.foldl (fun cs (y:Value×Nat)=>cs.setIfInBounds (off+y.2) y.1) ds.toArray)=(ds.take off++x.cells.toList++ds.drop (off+size)).toArray:=by
      apply Array.ext'
      rw[←Array.foldl_toList,Array.toList_zipIdx]
      have hxl:x.cells.toList.length=size:=by simpa using hsz
      have:=fold_set off x.cells.toList 0 ds.toArray (by rw[hxl];simp;omega)
      rw[this,hxl]
      simp
     rw[←k1,←hfold]
    ·cases h
   ·cases h
theorem bd_fillS{D:Nat→Prop}(place:Nat→Option (Nat×Nat)):∀ (ps:List (Nat×SV)) (cs cs':List SV),fillS place cs ps=some cs'→(∀ c∈cs,Bd D c)→(∀ p∈ps,Bd D p.2)→∀ c∈cs',Bd D c
 | [],cs,cs',h,hc,hp=>by simp only[fillS,Option.some.injEq]at h;subst h;exact hc
 | (i,v)::ps,cs,cs',h,hc,hp=>by
  simp only[fillS]at h
  split at h
  ·rename_i off size vc hpl hvc
   split at h
   ·refine bd_fillS place ps _ cs' h (fun c hcm=>?_) fun p hpm=>hp p (List.mem_cons_of_mem _ hpm)
    rcases List.mem_append.1 hcm with hcm | hcm
    ·rcases List.mem_append.1 hcm with hcm | hcm
     ·exact hc c (List.mem_of_mem_take hcm)
     ·exact bd_cells (hp (i,v) (List.mem_cons_self ..)) hvc c hcm
    ·exact hc c (List.mem_of_mem_drop hcm)
   ·cases h
  ·cases h
theorem buildE_sound{D:Nat→Prop}{t:TypeId}{ps:List (Nat×SV)}{xs:Array (Nat×Value)}{u:SV}(h:buildE P t ps=some u)(hi:ps.map (·.1)=xs.toList.map (·.1))(hp:VRs B F w (ps.map (·.2)) (xs.toList.map (·.2)))(hb:∀ p∈ps,Bd D p.2):
  Bd D u∧∃ y,(Instr.build t xs).run P w=.ok y w∧VR B F w u y:=by
 unfold buildE at h
 split at h
 ·rename_i z hz
  split at h
  ·rename_i zc hzc
   have hzv:VRs B F w zc z.cells.toList:=(vr_ofVal 5 z).cells hzc
   have hzb:∀ c∈zc,Bd D c:=bd_cells (bd_ofVal 5 z) hzc
   split at h
   ·rename_i fs hu
    split at h
    ·rename_i places hpl
     cases hf:fillS (places[·]?) zc ps with
     | none=>rw[hf]at h;cases h
     | some cs =>
      rw[hf]at h;cases h
      obtain⟨ds,k1,k2⟩:=fillS_sound _ ps xs.toList zc cs _ hf hzv hi hp
      refine⟨.agg (bd_fillS _ ps zc cs hf hzb hb),.agg ds.toArray,?_,VR.agg' k2⟩
      simp only[Instr.build,Sem.run_bind,Rx.pureRun_run P _ _ hz w,Result.andThen_ok,run_underlying hu,Rx.pureRun_run P _ _ hpl w]
      simp only[Array.toArray_toList]at k1
      simp only[k1,Sem.run_pure]
    ·cases h
   ·rename_i nn e hu
    split at h
    ·rename_i n hn
     cases hf:fillS (fun i=>some (i*n,n)) zc ps with
     | none=>rw[hf]at h;cases h
     | some cs =>
      rw[hf]at h;cases h
      obtain⟨ds,k1,k2⟩:=fillS_sound _ ps xs.toList zc cs _ hf hzv hi hp
      refine⟨.agg (bd_fillS _ ps zc cs hf hzb hb),.agg ds.toArray,?_,VR.agg' k2⟩
      simp only[Instr.build,Sem.run_bind,Rx.pureRun_run P _ _ hz w,Result.andThen_ok,run_underlying hu,Rx.run_sizeOf hn]
      simp only[Array.toArray_toList]at k1
      simp only[k1,Sem.run_pure]
    ·cases h
   ·cases h
  ·cases h
 ·cases h
theorem decL_spec{T:Ty}:∀ (k:Nat) (ss:List SV) (l:List T.α) (ds:List Value),decL T k ss=some l→VRs B F w ss ds→ds.length=k*T.n∧l.length=k∧RowD F w T l ds
 | 0,ss,l,ds,h,hv=>by
  simp only[decL]at h
  split at h
  ·cases h
   have:=hv.1
   refine⟨by simpa using this.symm,rfl,fun i x hx=>by simp at hx⟩
  ·cases h
 | k+1,ss,l,ds,h,hv=>by
  simp only[decL]at h
  split at h
  ·rename_i x r hx
   split at h
   ·rename_i l' hl'
    cases h
    obtain⟨c,d,rfl,h1,h2,_⟩:=dr_of_ofC hx hv
    obtain⟨k1,k2,k3⟩:=decL_spec k r l' d hl' h2
    have hc:=h1.len
    refine⟨by rw[List.length_append,hc,k1,Nat.succ_mul,Nat.add_comm],by simp[k2],fun i y hy=>?_⟩
    cases i with
    | zero =>
     simp only[List.getElem?_cons_zero,Option.some.injEq]at hy
     subst hy
     exact⟨c,h1,fun j d' hd=>by rw[Nat.zero_mul,Nat.zero_add,List.getElem?_append_left (List.getElem?_eq_some_iff.1 hd).1];exact hd⟩
    | succ i =>
     simp only[List.getElem?_cons_succ]at hy
     obtain⟨cs,m1,m2⟩:=k3 i y hy
     refine⟨cs,m1,fun j d' hd=>?_⟩
     rw[Nat.succ_mul,List.getElem?_append_right (by omega)]
     have e:i*T.n+T.n+j-c.length=i*T.n+j:=by omega
     rw[e];exact m2 j d' hd
   ·cases h
  ·cases h
theorem buildSliceE_sound(hR:RM w0 m B F mem w){t:TypeId}{len:Nat}{r:Res}{ps:List (Nat×SV)}{xs:Array (Nat×Value)}{u:SV}(h:buildSliceE P mem t len ps=some r)(ho:r.Out u mem')(hi:ps.map (·.1)=xs.toList.map (·.1))(hp:VRs B F w (ps.map (·.2)) (xs.toList.map (·.2))):
  ∃ B' w' z,(Instr.buildSlice t len xs).run P w=.ok z w'∧VR B' F w' u z∧RM w0 m B' F mem' w'∧(∀ i,Live mem i→B' i=B i)∧KeepsF F w w'∧Ext mem mem'∧Bd (Live mem') u:=by
 unfold buildSliceE at h
 split at h
 ·rename_i e hu
  split at h
  ·rename_i n T z hn hT hz
   split at h
   ·rename_i zc hzc
    split at h
    ·rename_i hc
     obtain⟨hnT,h0,hle⟩:=hc
     split at h
     ·rename_i cs hf
      split at h
      ·rename_i l hl
       cases h
       obtain⟨rfl,rfl⟩:=ho
       have hzv:VRs B F w zc z.cells.toList:=(vr_ofVal 5 z).cells hzc
       have hzl:zc.length=z.cells.size:=by simpa using hzv.1
       have hbase:VRs B F w ((List.range (len*n)).map fun i=>zc.getD (i % zc.length) .any) ((Array.range (len*n)).map (z.cells[· % z.cells.size]!)).toList:=by
        refine⟨by simp,fun i s d h1 h2=>?_⟩
        rw[List.getElem?_map]at h1
        rw[Array.getElem?_toList,Array.getElem?_map]at h2
        by_cases hlt:i < len*n
        ·rw[List.getElem?_range hlt]at h1
         rw[Array.getElem?_range,if_pos hlt]at h2
         simp only[Option.map_some,Option.some.injEq]at h1 h2
         subst h1 h2
         rw[hzl]
         by_cases hm:i % z.cells.size < z.cells.size
         ·have hs:zc[i % z.cells.size]? = some zc[i % z.cells.size]:=List.getElem?_eq_getElem (by omega)
          have hd:z.cells.toList[i % z.cells.size]? = some z.cells[i % z.cells.size]:=by rw[Array.getElem?_toList];exact Array.getElem?_eq_getElem hm
          rw[getElem!_pos z.cells _ hm]
          simp only[List.getD,hs,Option.getD_some]
          exact hzv.2 _ _ _ hs hd
         ·have:zc.getD (i % z.cells.size) .any=.any:=by
           simp only[List.getD];rw[List.getElem?_eq_none (by omega)];rfl
          rw[this];exact .any _
        ·rw[List.getElem?_eq_none (by simp;omega)]at h1;cases h1
       obtain⟨ds,k1,k2⟩:=fillS_sound _ ps xs.toList _ cs _ hf hbase hi hp
       rw[Array.toArray_toList]at k1
       obtain⟨d1,d2,d3⟩:=decL_spec len cs l ds hl k2
       have hb':Below w.heap.size w (w.alloc (.cells ds.toArray e)):=(Below.refl _ w).alloc (Nat.le_refl _) _
       have hk:KeepsF F w (w.alloc (.cells ds.toArray e)):=keepsF_below hR.lt hb'
       have hold:∀ i,Live mem i→upd B mem.length ⟨w.heap.size,0,len,len,false,id⟩ i=B i:=fun i hi=>upd_old B (Nat.ne_of_lt hi.lt)
       have hlen:len≤16777216:=by
        have:len*1≤len*n:=Nat.mul_le_mul_left _ h0
        omega
       refine⟨upd B mem.length ⟨w.heap.size,0,len,len,false,id⟩,w.alloc (.cells ds.toArray e),.slice (some ⟨w.heap.size,0,none⟩) len len,?_,?_,hR.put mem.length (not_live_end mem) (.row T l e false) _ hb' rfl (.inr ⟨rfl,rfl,d2.symm,by rw[d2];exact Nat.le_refl _,ds,heap_alloc_new w _,d1,by simp only[maxLen];omega,d3.mono (fun _ h=>h) hk.f⟩) (fun _=>Nat.le_refl _) (fun s hs=>by cases hs) (fun i x=>get_push mem _ i x),hold,hk,(live_push mem _ (fun r h=>by cases h)).1,.row (live_push' mem _).2⟩
       ·have h1:¬len*n > 2 ^ 24:=by omega
        by_cases h2:len*n=0
        ·have e0:∀ f:Nat→Value,(Array.range (len*n)).map f=#[]:=fun f=>by rw[h2];simp
         rw[e0]at k1
         simp only[Instr.buildSlice,Sem.run_bind,run_underlying hu,Result.andThen_ok,Rx.run_sizeOf hn,Sem.run_ite,h1,if_pos h2,if_false,Sem.run_pure,e0]
         simp only[k1,newRow,Sem.run_bind,run_newObj,Result.andThen_ok,Sem.run_pure]
         rfl
        ·simp only[Instr.buildSlice,Sem.run_bind,run_underlying hu,Result.andThen_ok,Rx.run_sizeOf hn,Sem.run_ite,h1,h2,if_false,Rx.pureRun_run P _ _ hz w,Sem.run_pure]
         simp only[k1,newRow,Sem.run_bind,run_newObj,Result.andThen_ok,Sem.run_pure]
         rfl
       ·have:=VR.row (B:=upd B mem.length ⟨w.heap.size,0,len,len,false,id⟩) (F:=F) (w:=w.alloc (.cells ds.toArray e)) mem.length
        simpa [upd_new,Place.val]using this
      ·cases h
     ·cases h
    ·cases h
   ·cases h
  ·cases h
 ·cases h
theorem makeE_sound(hR:RM w0 m B F mem w){t:TypeId}{r:Res}{l c u:SV}{x y:Value}(hx:VR B F w l x)(hy:VR B F w c y)(hl:makeE P mem t l c=some r)(ho:r.Out u mem'):
  ∃ B' w' z,(Instr.makeSlice t x y).run P w=.ok z w'∧VR B' F w' u z∧RM w0 m B' F mem' w'∧(∀ i,Live mem i→B' i=B i)∧KeepsF F w w'∧Ext mem mem'∧Bd (Live mem') u:=by
 unfold makeE at hl
 split at hl
 ·rename_i e kn n kc n' hu
  cases hx
  cases hy
  split at hl
  ·rename_i i T hi hT
   split at hl
   ·rename_i z hz
    split at hl
    ·rename_i cs hcs
     split at hl
     ·rename_i z0 hz0
      split at hl
      ·rename_i hsz
       cases hl
       obtain⟨ll,hmk,he⟩:=ho
       cases he
       unfold mkL at hmk
       split at hmk
       ·rename_i hc
        obtain⟨rfl,h0,hb,h63,hmax⟩:=hc
        cases hmk
        have hdr:DR F w T z0 z.cells.toList:=ofC1_spec hz0 ((vr_ofVal 5 z (B:=B)).cells hcs)
        have hzs:z.cells.size=T.n:=by have:=hdr.len;simpa using this
        have hrun:=run_make (P:=P) w t e i z hu hi hz kn kc n n h0 (Int.le_refl _) hb h63
        have hms:(madeCells z.cells (n.toNat*i.size)).toList.length=n.toNat*T.n:=by rw[Array.length_toList,size_madeCells,hsz.1]
        have hb':Below w.heap.size w (w.alloc (.cells (madeCells z.cells (n.toNat*i.size)) e)):=(Below.refl _ w).alloc (Nat.le_refl _) _
        have hk:KeepsF F w (w.alloc (.cells (madeCells z.cells (n.toNat*i.size)) e)):=keepsF_below hR.lt hb'
        have hold:∀ i,Live mem i→upd B mem.length ⟨w.heap.size,0,n.toNat,n.toNat,false,id⟩ i=B i:=fun i hi=>upd_old B (Nat.ne_of_lt hi.lt)
        refine⟨upd B mem.length ⟨w.heap.size,0,n.toNat,n.toNat,false,id⟩,_,_,hrun,?_,hR.put mem.length (not_live_end mem) (.row T (List.replicate n.toNat z0) e false) _ hb' rfl ?_ (fun _=>Nat.le_refl _) (fun s hs=>by cases hs) (fun i x=>get_push mem _ i x),hold,hk,(live_push mem _ (fun r h=>by cases h)).1,.row (live_push' mem _).2⟩
        ·have:=VR.row (B:=upd B mem.length ⟨w.heap.size,0,n.toNat,n.toNat,false,id⟩) (F:=F) (w:=w.alloc (.cells (madeCells z.cells (n.toNat*i.size)) e)) mem.length
         simpa [upd_new,Place.val]using this
        ·refine .inr ⟨rfl,rfl,by simp,by simp,(madeCells z.cells (n.toNat*i.size)).toList,by simpa using heap_alloc_new w _,by simpa using hms,hmax,fun q y hq=>?_⟩
         have hqn:q < n.toNat:=by have:=(List.getElem?_eq_some_iff.1 hq).1;simpa using this
         have hy0:y=z0:=(List.mem_replicate.1 (List.mem_of_getElem? hq)).2
         subst hy0
         refine⟨z.cells.toList,hdr.mono (fun _ h=>h) hk.f,fun j d hd=>?_⟩
         have hj:j < T.n:=by have:=(List.getElem?_eq_some_iff.1 hd).1;rw[hdr.len]at this;exact this
         have hlt:q*T.n+j < n.toNat*i.size:=by
          have:(q+1)*T.n≤n.toNat*T.n:=Nat.mul_le_mul_right _ hqn
          rw[Nat.succ_mul]at this;rw[hsz.1];omega
         rw[Array.getElem?_toList]at hd⊢
         unfold madeCells
         rw[Array.getElem?_map,Array.getElem?_range]
         rw[if_pos hlt]
         simp only[Option.map_some]
         have hmod:(q*T.n+j) % z.cells.size=j:=by rw[hzs,Nat.mul_comm,Nat.mul_add_mod,Nat.mod_eq_of_lt hj]
         rw[hmod,getElem!_pos z.cells j (by rw[hzs];exact hj)]
         rw[Array.getElem?_eq_getElem (by rw[hzs];exact hj)]at hd
         exact hd
       ·cases hmk
      ·cases hl
     ·cases hl
    ·cases hl
   ·cases hl
  ·cases hl
 ·cases hl
def OutN(B:Loc)(F:Nat→Prop)(w:World)(s:SV)(nx:Next):Prop:=(∃ x,nx=.value x∧VR B F w s x)∨(nx=.skip∧s=.any)
theorem opS_sound(hm:m≤mem.length)(hR:RM w0 m B F mem w)(hT:VRs B F w ts a.tmps.toList)(hbd:∀ s∈ts,Bd (Live mem) s){r:Res}(h:opS P m ts mem o=some r)(ho:r.Out s mem'):
  ∃ B' w' nx,(execOp a.eval o).run P w=.ok nx w'∧OutN B' F w' s nx∧RM w0 m B' F mem' w'∧(∀ i,Live mem i→B' i=B i)∧KeepsF F w w'∧Ext mem mem'∧Bd (Live mem') s:=by
 have same:∀ {u:SV} {x:Value},(execOp a.eval o).run P w=.ok (.value x) w→VR B F w u x→Bd (Live mem) u→s=u→mem'=mem→
   ∃ B' w' nx,(execOp a.eval o).run P w=.ok nx w'∧OutN B' F w' s nx∧RM w0 m B' F mem' w'∧(∀ i,Live mem i→B' i=B i)∧KeepsF F w w'∧Ext mem mem'∧Bd (Live mem') s:=by
  intro u x hr hv hb e1 e2
  subst e1 e2
  exact⟨B,w,_,hr,.inl ⟨x,rfl,hv⟩,hR,fun _ _=>rfl,KeepsF.refl _ _,Ext.refl _,hb⟩
 have same':∀ {q:Sem Value},execOp a.eval o=(do pure (Next.value (←q)):Sem Next)→(mem'=mem∧Bd (Live mem) s∧∃ z,q.run P w=.ok z w∧VR B F w s z)→
   ∃ B' w' nx,(execOp a.eval o).run P w=.ok nx w'∧OutN B' F w' s nx∧RM w0 m B' F mem' w'∧(∀ i,Live mem i→B' i=B i)∧KeepsF F w w'∧Ext mem mem'∧Bd (Live mem') s:=by
  rintro q e ⟨e1,hb,z,hz,hv⟩
  exact same (by rw[e];exact Rx.run_v hz) hv hb rfl e1
 have flat:flatE P ts mem o=some r→∃ B' w' nx,(execOp a.eval o).run P w=.ok nx w'∧OutN B' F w' s nx∧RM w0 m B' F mem' w'∧(∀ i,Live mem i→B' i=B i)∧KeepsF F w w'∧Ext mem mem'∧Bd (Live mem') s:=by
  intro h
  obtain⟨h1,h2,z,h3,h4⟩:=flatE_sound hT h ho
  exact same h3 h4 (h2 _) rfl h1
 have made:∀ {cs:List SV} {ds:List Value} {t:TypeId},(∀ c∈cs,Bd (Live mem) c)→VRs B F w cs ds→(execOp a.eval o).run P w=.ok (.value (.pointer (some ⟨w.heap.size,0,none⟩))) (w.alloc (.cells ds.toArray t))→
   s=.ptr mem.length 0→mem'=mem++[some (.cells cs t)]→
   ∃ B' w' nx,(execOp a.eval o).run P w=.ok nx w'∧OutN B' F w' s nx∧RM w0 m B' F mem' w'∧(∀ i,Live mem i→B' i=B i)∧KeepsF F w w'∧Ext mem mem'∧Bd (Live mem') s:=by
  rintro cs ds t hcs hv hr rfl rfl
  have hb:Below w.heap.size w (w.alloc (.cells ds.toArray t)):=(Below.refl _ w).alloc (Nat.le_refl _) _
  have hold:∀ i,Live mem i→upd B mem.length ⟨w.heap.size,0,0,0,false,id⟩ i=B i:=fun i hi=>upd_old B (Nat.ne_of_lt hi.lt)
  have hk:KeepsF F w (w.alloc (.cells ds.toArray t)):=keepsF_below hR.lt hb
  refine⟨upd B mem.length ⟨w.heap.size,0,0,0,false,id⟩,_,_,hr,.inl ⟨_,rfl,?_⟩,hR.put mem.length (not_live_end mem) (.cells cs t) _ hb rfl ⟨rfl,rfl,ds,heap_alloc_new _ _,(hv.mono (fun _ h=>h) hk).loc hold hcs⟩ (fun _=>Nat.le_refl _) (fun c hc=>(hcs c hc).mono (live_push' mem _).1) (fun i x=>get_push mem _ i x),hold,hk,(live_push mem _ (fun r h=>by cases h)).1,.ptr (live_push' mem _).2⟩
  have:=VR.ptr (B:=upd B mem.length ⟨w.heap.size,0,0,0,false,id⟩) (F:=F) (w:=w.alloc (.cells ds.toArray t)) mem.length 0
  simpa [upd_new]using this
 cases hop:o.op with
 | move x =>
  simp only[opS,hop]at h
  split at h
  ·rename_i hx
   cases h
   exact same (by simp only[execOp,hop];rfl) (ev_vr hT hx) (ev_bd hbd x) ho.1 ho.2
  ·cases h
 | assign x =>
  simp only[opS,hop]at h
  split at h
  ·rename_i hx
   cases h
   exact same (by simp only[execOp,hop];rfl) (ev_vr hT hx) (ev_bd hbd x) ho.1 ho.2
  ·cases h
 | alloc t =>
  simp only[opS,hop]at h
  split at h
  ·rename_i z hz
   split at h
   ·rename_i cs hcs
    cases h
    refine made (bd_cells (bd_ofVal 5 z) hcs) ((vr_ofVal 5 z).cells hcs) ?_ ho.1 ho.2
    simp only[execOp,hop]
    refine Rx.run_v ?_
    simp only[Instr.alloc,Sem.run_bind,Rx.pureRun_run P _ _ hz w,Result.andThen_ok,newVar,newRow,run_newObj,Sem.run_pure]
    simp
   ·cases h
  ·cases h
 | box t x =>
  simp only[opS,hop]at h
  split at h
  ·rename_i hx
   split at h
   ·rename_i cs hcs
    cases h
    refine made (bd_cells (ev_bd hbd x) hcs) ((ev_vr hT hx).cells hcs) ?_ ho.1 ho.2
    simp only[execOp,hop]
    refine Rx.run_v ?_
    simp only[Instr.box,Sem.run_bind,Result.andThen_ok,newVar,newRow,run_newObj,Sem.run_pure]
    simp
   ·cases h
  ·cases h
 | load t x =>
  simp only[opS,hop]at h
  split at h
  ·rename_i hx
   exact same' (by simp only[execOp,hop]) (loadE_sound hR (ev_bd hbd x) (ev_vr hT hx) h ho)
  ·cases h
 | store t x y =>
  simp only[opS,hop]at h
  split at h
  ·rename_i hxy
   simp only[Bool.and_eq_true]at hxy
   obtain⟨rfl,w',h1,h2,h3,h4⟩:=storeE_sound (P:=P) hR (ev_vr hT hxy.1) (ev_vr hT hxy.2) (ev_bd hbd y) h ho
   refine⟨B,w',.skip,?_,.inr ⟨rfl,rfl⟩,h2,fun _ _=>rfl,h4,h3,.any⟩
   simp only[execOp,hop]
   exact Rx.run_u h1
  ·cases h
 | fieldAddr t x f =>
  simp only[opS,hop]at h
  split at h
  ·rename_i hx
   cases hl:fieldAddrE P t f (ev ts x)with
   | none=>rw[hl]at h;cases h
   | some u =>
    rw[hl]at h;cases h
    obtain⟨k1,z,k2,k3⟩:=fieldAddrE_sound (w:=w) (B:=B) (F:=F) (ev_bd hbd x) (ev_vr hT hx) hl
    exact same' (by simp only[execOp,hop]) ⟨ho.2,by rw[ho.1];exact k1,z,k2,by rw[ho.1];exact k3⟩
  ·cases h
 | field t x f =>
  simp only[opS,hop]at h
  split at h
  ·rename_i hx
   cases hl:fieldE P t f (ev ts x)with
   | none=>rw[hl]at h;cases h
   | some u =>
    rw[hl]at h;cases h
    obtain⟨k1,z,k2,k3⟩:=fieldE_sound (w:=w) (B:=B) (F:=F) (ev_bd hbd x) (ev_vr hT hx) hl
    exact same' (by simp only[execOp,hop]) ⟨ho.2,by rw[ho.1];exact k1,z,k2,by rw[ho.1];exact k3⟩
  ·cases h
 | extract x i =>
  simp only[opS,hop]at h
  split at h
  ·rename_i hx
   split at h
   ·rename_i vs hvs
    split at h
    ·rename_i u hu
     cases h
     have hv:=ev_vr (B:=B) (F:=F) (w:=w) hT hx
     rw[hvs]at hv
     obtain⟨ds,e,hds⟩:=VRs.of_vr_tup hv
     obtain⟨d,hd,hvd⟩:=hds.get hu
     have hbv:=ev_bd hbd x
     rw[hvs]at hbv
     refine same' (q:=Instr.extract (a.eval x) i) (by simp only[execOp,hop]) ⟨ho.2,by rw[ho.1];exact hbv.of_tup _ (List.mem_of_getElem? hu),d,?_,by rw[ho.1];exact hvd⟩
     rw[e]
     simp only[Instr.extract,List.getElem?_toArray,hd,Sem.run_pure]
    ·cases h
   ·cases h
  ·cases h
 | makeFunc fn fs cs =>
  simp only[opS,hop]at h
  split at h
  all_goals (try (rename_i heq;cases heq;done))
  ·rename_i g fs' cs' heq
   cases heq
   split at h
   ·rename_i hx
    simp only[Bool.and_eq_true,List.all_eq_true]at hx
    cases h
    have hv:VR B F w (.fn g (fs.toList.map (ev ts)) (cs.toList.map (ev ts))) (.func (.func g) (fs.toList.map a.eval).toArray (cs.toList.map a.eval).toArray):=by
     refine .fn g _ _ _ _ (by simp) (fun i s d h1 h2=>?_) (by simp) (fun i s d h1 h2=>?_)
     ·rw[List.getElem?_map]at h1 h2
      cases hq:fs.toList[i]? with
      | none=>rw[hq]at h1;cases h1
      | some y=>rw[hq]at h1 h2;cases h1;cases h2;exact ev_vr hT (hx.1 y (List.mem_of_getElem? hq))
     ·rw[List.getElem?_map]at h1 h2
      cases hq:cs.toList[i]? with
      | none=>rw[hq]at h1;cases h1
      | some y=>rw[hq]at h1 h2;cases h1;cases h2;exact ev_vr hT (hx.2 y (List.mem_of_getElem? hq))
    refine same' (q:=Instr.makeFunc (.func g) (fs.map a.eval) (cs.map a.eval)) (by simp only[execOp,hop]) ⟨ho.2,?_,_,?_,by rw[ho.1];exact hv⟩
    ·rw[ho.1]
     exact .fn (fun s hs=>by obtain⟨y,_,rfl⟩:=List.mem_map.1 hs;exact ev_bd hbd y) (fun s hs=>by obtain⟨y,_,rfl⟩:=List.mem_map.1 hs;exact ev_bd hbd y)
    ·have e1:fs.map a.eval=(fs.toList.map a.eval).toArray:=by apply Array.ext';simp
     have e2:cs.map a.eval=(cs.toList.map a.eval).toArray:=by apply Array.ext';simp
     rw[e1,e2];rfl
   ·cases h
  ·exact flat h
 | nilCheck x =>
  simp only[opS,hop]at h
  split at h
  ·rename_i hx
   have hv:=ev_vr (B:=B) (F:=F) (w:=w) hT hx
   have hb:=ev_bd hbd x
   have nc:∀ {z:Value},a.eval x=z→(match z with | .pointer (some _)=>True | .func (.func _) _ _=>True | .func (.yield _) _ _=>True | _=>False)→(execOp a.eval o).run P w=.ok (.value z) w:=by
    intro z e hz
    simp only[execOp,hop,e]
    cases z with
    | pointer p=>cases p with
     | none=>cases hz
     | some p=>rfl
    | func f _ _=>cases f<;>first | rfl | cases hz
    | _=>cases hz
   split at h<;>rename_i hs
   ·cases h
    rw[hs]at hv hb
    generalize hz:a.eval x=z at hv
    cases hv
    exact same (nc hz trivial) (.ptr _ _) hb ho.1 ho.2
   ·cases h
    rw[hs]at hv hb
    generalize hz:a.eval x=z at hv
    cases hv with | ep _ _ _ b p cs h1 h2 h3=>exact same (nc hz trivial) (.ep _ _ _ b p cs h1 h2 h3) hb ho.1 ho.2
   ·cases h
    rw[hs]at hv hb
    generalize hz:a.eval x=z at hv
    cases hv
    exact same (nc hz trivial) (.rp _ _ _ _) hb ho.1 ho.2
   ·cases h
    rw[hs]at hv hb
    generalize hz:a.eval x=z at hv
    cases hv with | fn _ _ _ fd cd h1 h2 h3 h4=>exact same (nc hz trivial) (.fn _ _ _ fd cd h1 h2 h3 h4) hb ho.1 ho.2
   ·cases h
    rw[hs]at hv hb
    generalize hz:a.eval x=z at hv
    cases hv
    exact same (nc hz trivial) (.yld _) hb ho.1 ho.2
   ·cases h
  ·cases h
 | indexAddr t x ix =>
  simp only[opS,hop]at h
  split at h
  ·rename_i hx
   simp only[Bool.and_eq_true]at hx
   exact same' (by simp only[execOp,hop]) (indexAddrE_sound hR (ev_bd hbd x) (ev_vr hT hx.1) (ev_vr hT hx.2) h ho)
  ·exact same' (by simp only[execOp,hop]) (glE_sound (a:=a) hR (fun hn=>ev_vr hT (by cases ix<;>first | rfl | exact absurd rfl hn)) h ho)
 | build t parts =>
  simp only[opS,hop]at h
  split at h
  ·rename_i hx
   simp only[List.all_eq_true]at hx
   cases hl:buildE P t (parts.toList.map fun p=>(p.1,ev ts p.2))with
   | none=>rw[hl]at h;cases h
   | some u =>
    rw[hl]at h;cases h
    have hp:VRs B F w ((parts.toList.map fun p=>(p.1,ev ts p.2)).map (·.2)) ((parts.map fun x=>(x.1,a.eval x.2)).toList.map (·.2)):=by
     refine⟨by simp,fun i s d h1 h2=>?_⟩
     simp only[Array.toList_map,List.map_map,List.getElem?_map]at h1 h2
     cases hq:parts.toList[i]? with
     | none=>rw[hq]at h1;cases h1
     | some p=>rw[hq]at h1 h2;cases h1;cases h2;exact ev_vr hT (hx p (List.mem_of_getElem? hq))
    obtain⟨k1,z,k2,k3⟩:=buildE_sound (D:=Live mem) (xs:=parts.map fun x=>(x.1,a.eval x.2)) hl (by simp[Array.toList_map,List.map_map,Function.comp]) hp (fun p hpm=>by
     obtain⟨q,_,rfl⟩:=List.mem_map.1 hpm
     exact ev_bd hbd q.2)
    exact same' (by simp only[execOp,hop]) ⟨ho.2,by rw[ho.1];exact k1,z,k2,by rw[ho.1];exact k3⟩
  ·cases h
 | buildSlice t len parts =>
  simp only[opS,hop]at h
  split at h
  ·rename_i hx
   simp only[List.all_eq_true]at hx
   have hp:VRs B F w ((parts.toList.map fun p=>(p.1,ev ts p.2)).map (·.2)) ((parts.map fun x=>(x.1,a.eval x.2)).toList.map (·.2)):=by
    refine⟨by simp,fun i s d h1 h2=>?_⟩
    simp only[Array.toList_map,List.map_map,List.getElem?_map]at h1 h2
    cases hq:parts.toList[i]? with
    | none=>rw[hq]at h1;cases h1
    | some p=>rw[hq]at h1 h2;cases h1;cases h2;exact ev_vr hT (hx p (List.mem_of_getElem? hq))
   obtain⟨B',w',z,k1,k2,k3,k4,k5,k6,k7⟩:=buildSliceE_sound (P:=P) hR (xs:=parts.map fun x=>(x.1,a.eval x.2)) h ho (by simp[Array.toList_map,List.map_map,Function.comp]) hp
   refine⟨B',w',_,?_,.inl ⟨z,rfl,k2⟩,k3,k4,k5,k6,k7⟩
   simp only[execOp,hop]
   exact Rx.run_v k1
  ·cases h
 | makeSlice t l c =>
  simp only[opS,hop]at h
  split at h
  ·rename_i hx
   simp only[Bool.and_eq_true]at hx
   obtain⟨B',w',z,k1,k2,k3,k4,k5,k6,k7⟩:=makeE_sound (P:=P) hR (ev_vr hT hx.1) (ev_vr hT hx.2) h ho
   refine⟨B',w',_,?_,.inl ⟨z,rfl,k2⟩,k3,k4,k5,k6,k7⟩
   simp only[execOp,hop]
   exact Rx.run_v k1
  ·cases h
 | slice t x lo hi mx =>
  cases mx with
  | some q=>simp only[opS,hop]at h;exact flat h
  | none =>
   simp only[opS,hop]at h
   split at h
   ·rename_i hx
    have hv:=ev_vr (B:=B) (F:=F) (w:=w) hT hx
    split at h
    ·rename_i T l hs
     rw[hs]at hv
     split at h
     ·rename_i e li hi' hu e2 e3
      split at h
      ·rename_i hn
       cases h
       obtain⟨l',hc,he⟩:=ho
       cases he
       obtain⟨z,k1,k2⟩:=cut_sound (P:=P) hT hu hn e2 e3 hv hc
       exact same' (by simp only[execOp,hop];rfl) ⟨rfl,.sl,z,k1,k2⟩
      ·cases h
     ·cases h
    ·rename_i b hs
     have hbv:=ev_bd hbd x
     rw[hs]at hv hbv
     split at h
     ·rename_i e T l ty fz li hi' hu hb e2 e3
      split at h
      ·rename_i hn
       cases h
       obtain⟨r',hc,he⟩:=ho
       cases he
       generalize hz:a.eval x=y at hv
       cases hv
       obtain⟨z,k1,k2⟩:=slice_part (P:=P) (w:=w) hT hu hn e2 e3 (row_partV (hR.blk b _ hb) T.n) hc
       exact same' (q:=Instr.sliceAt t (a.eval x) (lo.map a.eval) (hi.map a.eval) none) (by simp only[execOp,hop];rfl) ⟨rfl,.part (by cases hbv with | row h=>exact h),z,by rw[hz];exact k1,.part _ _ _ _ _ k2⟩
      ·cases h
     ·cases h
    ·rename_i b lo0 n k hs
     have hbv:=ev_bd hbd x
     rw[hs]at hv hbv
     split at h
     ·rename_i e li hi' hu e2 e3
      split at h
      ·rename_i hn
       cases h
       obtain⟨r',hc,he⟩:=ho
       cases he
       generalize hz:a.eval x=y at hv
       cases hv with | part _ _ _ _ _ hp =>
        obtain⟨z,k1,k2⟩:=slice_part (P:=P) (w:=w) hT hu hn e2 e3 hp hc
        exact same' (q:=Instr.sliceAt t (a.eval x) (lo.map a.eval) (hi.map a.eval) none) (by simp only[execOp,hop];rfl) ⟨rfl,.part (by cases hbv with | part h=>exact h),z,by rw[hz];exact k1,.part _ _ _ _ _ k2⟩
      ·cases h
     ·cases h
    ·exact flat h
   ·cases h
 | convert src dst x =>
  simp only[opS,hop]at h
  split at h
  ·rename_i hx
   have hv:=ev_vr (B:=B) (F:=F) (w:=w) hT hx
   split at h
   ·rename_i e hu hd
    split at h
    ·rename_i X he hX
     cases h
     obtain⟨q,hq,he'⟩:=ho
     cases he'
     split at hq
     ·rename_i hc
      cases hq
      obtain⟨⟨news,hs⟩,_⟩:=srcE_spec (P:=P) (T:=.int .u8) (c:=X.1) (l:=X.2) hR hX hc hv
      have hsl:(∃ ad c,a.eval x=.slice (some ad) X.2.length c)∨(a.eval x=.slice none 0 0∧X.2=[]):=by
       obtain⟨s1,s2,s3,s4,s5⟩:=hs
       generalize a.eval x=y at hv s1 s5
       generalize ev ts x=sx at hv hX
       have key:∀ (pp:Place) (lo n k:Nat),PartV pp lo n k y→(∃ ad c,y=.slice (some ad) X.2.length c)∨(y=.slice none 0 0∧X.2=[]):=by
        rintro pp lo n k (⟨_,_,rfl,rfl⟩ | ⟨p0,a',c,rfl,p1,_⟩)
        ·have:X.2.length=0:=by have:=s1;simp[Builtin.lenOf]at this;first | exact this.symm | simpa using this
         exact .inr ⟨rfl,List.length_eq_zero_iff.1 this⟩
        ·have:n=X.2.length:=by have:=s1;simpa [Builtin.lenOf]using this
         exact .inl ⟨a',c,by rw[this]⟩
       unfold srcE at hX
       rw[hu]at hX
       simp only at hX
       split at hX
       ·cases hv with | sl _ _ _ h =>
         obtain⟨v',e1,h⟩:=h
         cases e1
         rcases h with⟨_,rfl⟩ | ⟨b,o,cap,rfl,_⟩
         ·have:X.2.length=0:=by have:=s1;simp[Builtin.lenOf]at this;first | exact this.symm | simpa using this
          exact .inr ⟨rfl,List.length_eq_zero_iff.1 this⟩
         ·have:=s1
          simp only[Builtin.lenOf,Sem.run_pure,Result.ok.injEq,and_true]at this
          exact .inl ⟨_,cap,by rw[this]⟩
       ·cases hX
        cases hv
        exact .inr ⟨rfl,rfl⟩
       ·split at hX
        ·rename_i hb
         cases hv
         exact key _ _ _ 1 (row_partV (hR.blk _ _ hb) 1)
        ·cases hX
       ·cases hv with | part _ _ _ _ _ hp=>exact key _ _ _ _ hp
       ·cases hX
      have hrun:(convert src dst (a.eval x)).run P w=.ok (.string (bytesS X.2)) w:=by
       have hb:=bytes_run hs hsl
       rcases hsl with⟨ad,c,e1⟩ | ⟨e1,_⟩<;>rw[e1]at hb⊢<;>simp only[convert,Sem.run_bind,run_underlying hu,run_underlying hd,run_underlying he,Result.andThen_ok,hb]
      exact same' (q:=convert src dst (a.eval x)) (by simp only[execOp,hop]) ⟨rfl,.v _,_,hrun,.v _⟩
     ·cases hq
    ·cases h
   ·exact flat h
  ·cases h
 | makeMap t r' =>
  cases r' with
  | some q=>simp only[opS,hop]at h;exact flat h
  | none =>
   simp only[opS,hop]at h
   split at h
   ·cases h
    obtain⟨rfl,rfl⟩:=ho
    have hb:Below w.heap.size w (w.alloc (.map #[] 0)):=(Below.refl _ w).alloc (Nat.le_refl _) _
    have hk:KeepsF F w (w.alloc (.map #[] 0)):=keepsF_below hR.lt hb
    have hold:∀ i,Live mem i→upd B mem.length ⟨w.heap.size,0,0,0,false,id⟩ i=B i:=fun i hi=>upd_old B (Nat.ne_of_lt hi.lt)
    refine⟨upd B mem.length ⟨w.heap.size,0,0,0,false,id⟩,_,.value (.map (some w.heap.size)),?_,.inl ⟨_,rfl,?_⟩,hR.put mem.length (not_live_end mem) (.map _ [] 0) _ hb rfl ⟨rfl,#[],World.alloc_heap_new w _,⟨rfl,fun i e h=>by simp at h,⟨id,fun _=>rfl,fun _=>rfl⟩,fun _ _=>rfl,Nat.le_refl _,fun i j x y h=>by simp at h,fun i x h=>by simp at h⟩⟩ (fun _=>Nat.le_refl _) (fun c hc=>by cases hc) (fun i x=>get_push mem _ i x),hold,hk,(live_push mem _ (fun r h=>by cases h)).1,.mp (live_push' mem _).2⟩
    ·simp only[execOp,hop]
     refine Rx.run_v ?_
     simp[Instr.makeMap,run_newObj]
    ·have:=VR.mp (B:=upd B mem.length ⟨w.heap.size,0,0,0,false,id⟩) (F:=F) (w:=w.alloc (.map #[] 0)) mem.length
     simpa [upd_new]using this
   ·cases h
 | insert t x y z =>
  simp only[opS,hop]at h
  split at h
  ·rename_i hx
   simp only[Bool.and_eq_true]at hx
   obtain⟨rfl,w',h1,h2,h3,h4⟩:=insertE_sound (P:=P) hR (ev_vr hT hx.1.1) (ev_vr hT hx.1.2) (ev_vr hT hx.2) (ev_bd hbd z) h ho
   refine⟨B,w',.skip,?_,.inr ⟨rfl,rfl⟩,h2,fun _ _=>rfl,h4,h3,.any⟩
   simp only[execOp,hop]
   exact Rx.run_u h1
  ·cases h
 | mapUpdate t x y z =>
  simp only[opS,hop]at h
  split at h
  ·rename_i hx
   simp only[Bool.and_eq_true]at hx
   obtain⟨rfl,w',h1,h2,h3,h4⟩:=insertE_sound (P:=P) hR (ev_vr hT hx.1.1) (ev_vr hT hx.1.2) (ev_vr hT hx.2) (ev_bd hbd z) h ho
   refine⟨B,w',.skip,?_,.inr ⟨rfl,rfl⟩,h2,fun _ _=>rfl,h4,h3,.any⟩
   simp only[execOp,hop]
   exact Rx.run_u h1
  ·cases h
 | mapEntry t x y =>
  simp only[opS,hop]at h
  split at h
  ·rename_i hx
   simp only[Bool.and_eq_true]at hx
   obtain⟨w',z,h1,h2,h3,h4,h5,h6⟩:=entryE_sound (P:=P) hR (ev_vr hT hx.1) (ev_vr hT hx.2) h ho
   refine⟨B,w',.value z,?_,.inl ⟨z,rfl,h2⟩,h4,fun _ _=>rfl,h6,h5,h3⟩
   simp only[execOp,hop]
   exact Rx.run_v h1
  ·cases h
 | entryStore t x y z =>
  simp only[opS,hop]at h
  split at h
  ·rename_i hx
   simp only[Bool.and_eq_true]at hx
   obtain⟨rfl,w',h1,h2,h3,h4⟩:=stampE_sound (P:=P) (t:=t) hR (ev_vr hT hx.1.1) (ev_vr hT hx.1.2) (ev_vr hT hx.2) (ev_bd hbd z) h ho
   refine⟨B,w',.skip,?_,.inr ⟨rfl,rfl⟩,h2,fun _ _=>rfl,h4,h3,.any⟩
   simp only[execOp,hop]
   exact Rx.run_u h1
  ·cases h
 | lookup t x y ok =>
  simp only[opS,hop]at h
  split at h
  ·rename_i hx
   simp only[Bool.and_eq_true]at hx
   exact same' (by simp only[execOp,hop]) (lookupE_sound hR (ev_vr hT hx.1) (ev_vr hT hx.2) h ho)
  ·cases h
 | call c =>
  simp only[opS,hop]at h
  split at h
  ·cases ‹Op.call c=_›
  all_goals (try (rename_i heq;cases heq;done))
  ·rename_i x y t u heq
   cases heq
   split at h
   ·rename_i hx
    simp only[Bool.and_eq_true]at hx
    obtain⟨B',w',z,k1,k2,k3,k4,k5,k6,k7⟩:=appE_sound (P:=P) (rt:=o.type) hR (ev_vr hT hx.1) (ev_vr hT hx.2) h ho
    refine⟨B',w',_,?_,.inl ⟨z,rfl,k2⟩,k3,k4,k5,k6,k7⟩
    have e1:(Array.map a.eval ⟨[x,y]⟩)=#[a.eval x,a.eval y]:=by simp[Array.map]
    simp only[execOp,hop,resolve,Sem.run_bind,Sem.run_pure,Result.andThen_ok,invoke,builtin,e1,k1]
   ·cases h
  ·rename_i x y t u heq
   cases heq
   split at h
   ·rename_i hx
    simp only[Bool.and_eq_true]at hx
    obtain⟨w',z,k1,k2,k3,k5,k6,k7⟩:=copyE_sound (P:=P) (rt:=o.type) hR (ev_vr hT hx.1) (ev_vr hT hx.2) h ho
    refine⟨B,w',_,?_,.inl ⟨z,rfl,k2⟩,k3,fun _ _=>rfl,k5,k6,k7⟩
    have e1:(Array.map a.eval ⟨[x,y]⟩)=#[a.eval x,a.eval y]:=by simp[Array.map]
    simp only[execOp,hop,resolve,Sem.run_bind,Sem.run_pure,Result.andThen_ok,invoke,builtin,e1,k1]
   ·cases h
  ·rename_i x t heq
   cases heq
   split at h
   ·rename_i hx
    split at h
    ·rename_i u hl
     cases h
     obtain⟨k1,z,k2,k3⟩:=lenE_sound (P:=P) (rt:=o.type) hR (ev_vr hT hx) hl
     refine same (u:=u) (x:=z) ?_ k3 (k1 _) ho.1 ho.2
     have e1:(Array.map a.eval ⟨[x]⟩)=#[a.eval x]:=by simp[Array.map]
     simp only[execOp,hop,resolve,Sem.run_bind,Sem.run_pure,Result.andThen_ok,invoke,builtin,e1,k2]
    ·exact flat h
   ·cases h
  ·exact flat h
 | _ =>
  simp only[opS,hop]at h
  exact flat h
end
end Go.Q
namespace Go.Q
open Go Go.RowKit
def cutB3(n:Nat)(lo hi mx:Int):Option (Nat×Nat):=if 0≤lo∧lo < hi∧hi≤mx∧mx≤n then some (lo.toNat,(hi-lo).toNat)else none
def buildCells(P:Program)(mem:Mem)(t:TypeId)(len:Nat)(parts:List (Nat×SV)):Option Res :=
 match P.underlying t with
 | some (.slice e)=>match sizeE P e,Rx.pureRun P (zeroValue e)with
  | some n,some z=>match (ofVal 5 z).cells with
   | some zc=>if 0 < n∧0 < len∧len*n≤16777216 then
     match fillS (fun i=>some (i*n,n)) ((List.range (len*n)).map fun i=>zc.getD (i % zc.length) .any) parts with
     | some cs=>some (.det (.csl mem.length len n) (mem++[some (.cells cs e)]))
     | none=>none
    else none
   | none=>none
  | _,_=>none
 | _=>none
def idxX(P:Program)(mem:Mem)(t:TypeId)(x ix:SV):Option Res :=
 match ix with
 | .v (.int _ i)=>match x with
  | .csl b n k=>match P.underlying t with
   | some (.slice e)=>if sizeE P e=some k∧0≤i∧i < n then some (.det (.ptr b (i.toNat*k)) mem)else none
   | _=>none
  | .ptc b lo n k=>match P.underlying t,mem[b]? with
   | some (.slice e),some (some (.row T l _ _))=>if sizeE P e=some T.n∧k=T.n then some (.part Nat (idxB n i) fun j=>(.rp b (lo+j) T.n 0,mem))else none
   | _,_=>none
  | _=>none
 | _=>none
def sliceX(P:Program)(mem:Mem)(t:TypeId)(x lo hi mx:SV):Option Res :=
 match x,lo,hi,mx with
 | .row q,.v (.int _ i),.v (.int _ j),.v (.int _ k)=>match P.underlying t,mem[q]? with
  | some (.slice e),some (some (.row T l _ _))=>if sizeE P e=some T.n then some (.part (Nat×Nat) (cutB3 l.length i j k) fun r=>(.ptc q r.1 r.2 T.n,mem))else none
  | _,_=>none
 | _,_,_,_=>none
def rangeX(P:Program)(mem:Mem)(t:TypeId)(x:SV):Option Res :=
 match x with
 | .mp b=>match mapTy P t,mem[b]? with
  | some _,some (some (.map k es _))=>some (.det (.ptr mem.length 0) (mem++[some (.iter b es.length [] none)]))
  | _,_=>none
 | _=>none
def entryX(mem:Mem)(x:SV):Option Res :=
 match x with
 | .ptr b 0=>match mem[b]? with
  | some (some (.iter mb n _ (some i)))=>match mem[mb]? with
   | some (some (.map k es _))=>if es.length=n then match es[i]? with
     | some e=>some (.det (.tup [.v (.int k e.1),e.2]) mem)
     | none=>none
    else none
   | _=>none
  | _=>none
 | _=>none
def nilL{α:Type}(l:List α):Option Unit:=if 0 < l.length then some ()else none
def nilX(P:Program)(mem:Mem)(t:TypeId)(x y:SV):Option Res :=
 match x,y with
 | .sl T l,.v (.slice none 0 0)=>match P.underlying t with
  | some (.slice _)=>some (.part Unit (nilL l) fun _=>(.v (.bool false),mem))
  | _=>none
 | .row b,.v (.slice none 0 0)=>match P.underlying t,mem[b]? with
  | some (.slice _),some (some (.row T l _ _))=>some (.part Unit (nilL l) fun _=>(.v (.bool false),mem))
  | _,_=>none
 | _,_=>none
def opX(P:Program)(m:Nat)(ts:List SV)(mem:Mem)(o:Oper):Option Res :=
 match o.op with
 | .range t x=>if okOp x then rangeX P mem t (ev ts x)else none
 | .binOp .eql t x y _=>if okOp x&&okOp y then nilX P mem t (ev ts x) (ev ts y)else none
 | .entry x=>if okOp x then entryX mem (ev ts x)else none
 | .indexAddr t x ix=>if okOp x&&okOp ix then idxX P mem t (ev ts x) (ev ts ix)else none
 | .slice t x (some lo) (some hi) (some mx)=>if okOp x&&okOp lo&&okOp hi&&okOp mx then sliceX P mem t (ev ts x) (ev ts lo) (ev ts hi) (ev ts mx)else none
 | .buildSlice t len parts=>if parts.toList.all (fun p=>okOp p.2)then buildCells P mem t len (parts.toList.map fun p=>(p.1,ev ts p.2))else none
 | .call ⟨.builtin .len,⟨[x]⟩,⟨[t]⟩⟩=>if okOp x then match P.underlying t,ev ts x with
   | some (.slice _),.csl b n k=>some (.det (.v (.int .i64 n)) mem)
   | some (.slice _),.ptc b lo n k=>some (.det (.v (.int .i64 n)) mem)
   | _,_=>none
  else none
 | _=>none
section
variable [HasP]{P:Program}{w0 w:World}{m:Nat}{B:Loc}{F:Nat→Prop}{mem mem':Mem}{ts:List SV}{a:Act}{o:Oper}{s:SV}
theorem idxX_sound(hR:RM w0 m B F mem w){t:TypeId}{r:Res}{ix u:SV}{x y:Value}(hb:Bd (Live mem) s)(hx:VR B F w s x)(hy:VR B F w ix y)(hl:idxX P mem t s ix=some r)(ho:r.Out u mem'):
  mem'=mem∧Bd (Live mem) u∧∃ z,(Instr.indexAt t x y).run P w=.ok z w∧VR B F w u z:=by
 unfold idxX at hl
 split at hl
 ·rename_i ik i
  cases hy
  split at hl
  ·rename_i b n k
   split at hl
   ·rename_i e hu
    split at hl
    ·rename_i hc
     cases hl
     obtain⟨rfl,rfl⟩:=ho
     obtain⟨hn,hc'⟩:=hc
     cases hx
     refine⟨rfl,.ptr (by cases hb with | csl h=>exact h),.pointer (some ⟨(B b).blk,(B b).off+i.toNat*k,none⟩),?_,.ptr _ _⟩
     simp only[Instr.indexAt,asIntOf,Sem.run_bind,Sem.run_pure,Result.andThen_ok,run_underlying hu,hc',and_self,if_true,Rx.run_sizeOf hn]
     congr 3
     unfold Addr.add;split<;>simp_all
    ·cases hl
   ·cases hl
  ·rename_i b lo n k
   split at hl
   ·rename_i e T l ty fz hu hb'
    split at hl
    ·rename_i hn
     obtain⟨hn,rfl⟩:=hn
     cases hl
     obtain⟨j,hj,he⟩:=ho
     cases he
     unfold idxB at hj
     split at hj
     ·rename_i hc
      cases hj
      cases hx with | ptc _ _ _ _ _ hp =>
       have hbl:Live mem b:=by cases hb with | ptc h=>exact h
       obtain⟨p0,c,rfl,p1,p2⟩:=hp
       refine⟨rfl,.rp hbl,.pointer (some ⟨(B b).blk,(B b).off+((lo+i.toNat)*T.n+0),none⟩),?_,.rp _ _ _ _⟩
       simp only[Instr.indexAt,asIntOf,Sem.run_bind,Sem.run_pure,Result.andThen_ok,run_underlying hu,hc,and_self,if_true,Rx.run_sizeOf hn]
       congr 3
       unfold Addr.add;split<;>simp_all [Nat.add_mul,Nat.add_assoc]
     ·cases hj
    ·cases hl
   ·cases hl
  ·cases hl
 ·cases hl
theorem sliceX_sound(hR:RM w0 m B F mem w){t:TypeId}{r:Res}{sl sh sm u:SV}{x lo hi mx:Value}(hb:Bd (Live mem) s)(hx:VR B F w s x)(h1:VR B F w sl lo)(h2:VR B F w sh hi)(h3:VR B F w sm mx)(hl:sliceX P mem t s sl sh sm=some r)(ho:r.Out u mem'):
  mem'=mem∧Bd (Live mem) u∧∃ z,(Instr.sliceAt t x (some lo) (some hi) (some mx)).run P w=.ok z w∧VR B F w u z:=by
 unfold sliceX at hl
 split at hl
 ·rename_i q k1 i k2 j k3 k
  cases h1;cases h2;cases h3
  split at hl
  ·rename_i e T l ty fz hu hbq
   split at hl
   ·rename_i hn
    cases hl
    obtain⟨c,hc,he⟩:=ho
    cases he
    unfold cutB3 at hc
    split at hc
    ·rename_i hcc
     obtain⟨c0,c1,c2,c3⟩:=hcc
     cases hc
     cases hx
     rcases hR.blk q _ hbq with⟨h1,rfl⟩ | ⟨h0,e1,e2,e3,_⟩
     ·simp at c3;omega
     ·refine⟨rfl,.ptc (by cases hb with | row h=>exact h),.slice (some ⟨(B q).blk,(B q).off+i.toNat*T.n,none⟩) (j-i).toNat (k.toNat-i.toNat),?_,.ptc _ _ _ _ _ ⟨h0,_,rfl,by omega,by omega⟩⟩
      have b1:0≤k∧k≤((B q).cap:Int):=by omega
      have b2:0≤j∧j≤((k.toNat:Nat):Int):=by omega
      have b3:0≤i∧i≤((j.toNat:Nat):Int):=by omega
      have hne:¬k.toNat=i.toNat:=by omega
      simp only[Place.val,h0,cond_false,Instr.sliceAt,Sem.run_bind,run_underlying hu,Result.andThen_ok,Instr.slice,Instr.sliceBounds,Instr.sliceBound,asIntOf,Sem.run_pure,b1,b2,b3,and_self,if_true,Option.isSome_some,Rx.run_sizeOf hn,hne,if_false,Option.map_some]
      congr 1
      have:j.toNat-i.toNat=(j-i).toNat:=by omega
      rw[this]
      congr 2
      unfold Addr.add;split<;>simp_all
    ·cases hc
   ·cases hl
  ·cases hl
 ·cases hl
theorem rangeX_sound(hR:RM w0 m B F mem w){t:TypeId}{r:Res}{u:SV}{x:Value}(hb:Bd (Live mem) s)(hx:VR B F w s x)(hl:rangeX P mem t s=some r)(ho:r.Out u mem'):
  ∃ B' w' z,(Instr.range t x).run P w=.ok z w'∧VR B' F w' u z∧RM w0 m B' F mem' w'∧(∀ i,Live mem i→B' i=B i)∧KeepsF F w w'∧Ext mem mem'∧Bd (Live mem') u:=by
 unfold rangeX at hl
 split at hl
 ·rename_i b
  split at hl
  ·rename_i kt k es np hmt hbm
   obtain⟨k',et⟩:=kt
   obtain⟨kt,hu,hk⟩:=mapTy_some hmt
   cases hl
   obtain⟨rfl,rfl⟩:=ho
   cases hx
   have hbl:Live mem b:=⟨_,hbm⟩
   obtain⟨h0,en,h1,h2⟩:=hR.blk b _ hbm
   have hbw:Below w.heap.size w (w.alloc (.mapIter (some (B b).blk) es.length #[] es.length)):=(Below.refl _ w).alloc (Nat.le_refl _) _
   have hkf:KeepsF F w (w.alloc (.mapIter (some (B b).blk) es.length #[] es.length)):=keepsF_below hR.lt hbw
   have hold:∀ i,Live mem i→upd B mem.length ⟨w.heap.size,0,0,0,false,id⟩ i=B i:=fun i hi=>upd_old B (Nat.ne_of_lt hi.lt)
   refine⟨upd B mem.length ⟨w.heap.size,0,0,0,false,id⟩,_,.pointer (some ⟨w.heap.size,0,none⟩),?_,?_,hR.put mem.length (not_live_end mem) (.iter b es.length [] none) _ hbw rfl ⟨rfl,#[],by rw[hold b hbl];exact World.alloc_heap_new w _,rfl,fun i=>by simp,fun i h=>by cases h⟩ (fun _=>Nat.le_refl _) (fun c hc=>?_) (fun i x=>get_push mem _ i x),hold,hkf,(live_push mem _ (fun r h=>by cases h)).1,.ptr (live_push' mem _).2⟩
   ·simp only[Instr.range,Sem.run_bind,run_underlying hu,Result.andThen_ok]
    rw[show(getObj (B b).blk).run P w=.ok (.map en es.length) w from by simp[getObj,Sem.run,h1]]
    simp[run_newObj_alloc]
   ·have:=VR.ptr (B:=upd B mem.length ⟨w.heap.size,0,0,0,false,id⟩) (F:=F) (w:=w.alloc (.mapIter (some (B b).blk) es.length #[] es.length)) mem.length 0
    simpa [upd_new]using this
   ·simp only[Blk.refs,List.mem_singleton]at hc
    subst hc
    exact .mp ((live_push' mem _).1 _ hbl)
  ·cases hl
 ·cases hl
theorem entryX_sound(hR:RM w0 m B F mem w){r:Res}{u:SV}{x:Value}(hx:VR B F w s x)(hl:entryX mem s=some r)(ho:r.Out u mem'):
  mem'=mem∧Bd (Live mem) u∧∃ z,(Instr.entry x).run P w=.ok z w∧VR B F w u z:=by
 unfold entryX at hl
 split at hl
 ·rename_i b
  split at hl
  ·rename_i mb n seen i hbi
   split at hl
   ·rename_i k es np hbm
    split at hl
    ·rename_i hn
     split at hl
     ·rename_i e he
      cases hl
      obtain⟨rfl,rfl⟩:=ho
      cases hx
      obtain⟨g0,arr,g1,goff,g2,g3⟩:=hR.blk b _ hbi
      obtain⟨h0,en,h1,h2⟩:=hR.blk mb _ hbm
      subst hn
      have hback:=g3 i rfl
      have hi:i < es.length:=(List.getElem?_eq_some_iff.1 he).1
      obtain⟨me,hme,hkey,hv⟩:=h2.ent i e he
      have hborn:me.born=(B mb).ord i:=h2.born _ _ hme
      have hfind:en.find? (·.born==(B mb).ord i)=some me:=by
       rw[Array.find?_eq_some_iff_getElem]
       obtain⟨hlt,e1⟩:=Array.getElem?_eq_some_iff.1 hme
       refine⟨by simp[hborn],_,hlt,e1,fun j hj=>?_⟩
       rw[h2.born j _ (Array.getElem?_eq_getElem (by omega))]
       simp;omega
      refine⟨rfl,.tup fun s hs=>?_,.tuple #[me.key,me.val],?_,?_⟩
      ·simp at hs
       rcases hs with rfl | rfl
       ·exact .v _
       ·exact hR.bd mb _ hbm _ (by simp only[Blk.refs];exact List.mem_map.2 ⟨e,List.mem_of_getElem? he,rfl⟩)
      ·rw[goff]
       simp only[Instr.entry,Sem.run_bind]
       rw[show(getObj (B b).blk).run P w=.ok (.mapIter (some (B mb).blk) es.length arr es.length) w from by simp[getObj,Sem.run,g1]]
       simp only[Result.andThen_ok,hback,Sem.run_bind]
       rw[show(getObj (B mb).blk).run P w=.ok (.map en es.length) w from by simp[getObj,Sem.run,h1]]
       simp[hfind]
      ·rw[hkey]
       exact VR.tup' (ds:=[.int k e.1,me.val]) (.cons (.v _) (.cons hv .nil))
     ·cases hl
    ·cases hl
   ·cases hl
  ·cases hl
 ·cases hl
theorem buildCells_sound(hR:RM w0 m B F mem w){t:TypeId}{len:Nat}{r:Res}{ps:List (Nat×SV)}{xs:Array (Nat×Value)}{u:SV}(h:buildCells P mem t len ps=some r)(ho:r.Out u mem')(hi:ps.map (·.1)=xs.toList.map (·.1))(hp:VRs B F w (ps.map (·.2)) (xs.toList.map (·.2)))(hbp:∀ p∈ps,Bd (Live mem) p.2):
  ∃ B' w' z,(Instr.buildSlice t len xs).run P w=.ok z w'∧VR B' F w' u z∧RM w0 m B' F mem' w'∧(∀ i,Live mem i→B' i=B i)∧KeepsF F w w'∧Ext mem mem'∧Bd (Live mem') u:=by
 unfold buildCells at h
 split at h
 ·rename_i e hu
  split at h
  ·rename_i n z hn hz
   split at h
   ·rename_i zc hzc
    split at h
    ·rename_i hc
     obtain⟨h0,hl0,hle⟩:=hc
     split at h
     ·rename_i cs hf
      cases h
      obtain⟨rfl,rfl⟩:=ho
      have hzv:VRs B F w zc z.cells.toList:=(vr_ofVal 5 z).cells hzc
      have hzl:zc.length=z.cells.size:=by simpa using hzv.1
      have hbase:VRs B F w ((List.range (len*n)).map fun i=>zc.getD (i % zc.length) .any) ((Array.range (len*n)).map (z.cells[· % z.cells.size]!)).toList:=by
       refine⟨by simp,fun i s d h1 h2=>?_⟩
       rw[List.getElem?_map]at h1
       rw[Array.getElem?_toList,Array.getElem?_map]at h2
       by_cases hlt:i < len*n
       ·rw[List.getElem?_range hlt]at h1
        rw[Array.getElem?_range,if_pos hlt]at h2
        simp only[Option.map_some,Option.some.injEq]at h1 h2
        subst h1 h2
        rw[hzl]
        by_cases hm:i % z.cells.size < z.cells.size
        ·have hs:zc[i % z.cells.size]? = some zc[i % z.cells.size]:=List.getElem?_eq_getElem (by omega)
         have hd:z.cells.toList[i % z.cells.size]? = some z.cells[i % z.cells.size]:=by rw[Array.getElem?_toList];exact Array.getElem?_eq_getElem hm
         rw[getElem!_pos z.cells _ hm]
         simp only[List.getD,hs,Option.getD_some]
         exact hzv.2 _ _ _ hs hd
        ·have:zc.getD (i % z.cells.size) .any=.any:=by
          simp only[List.getD];rw[List.getElem?_eq_none (by omega)];rfl
         rw[this];exact .any _
       ·rw[List.getElem?_eq_none (by simp;omega)]at h1;cases h1
      have hbb:∀ c∈((List.range (len*n)).map fun i=>zc.getD (i % zc.length) .any),Bd (Live mem) c:=by
       intro c hc
       obtain⟨i,_,rfl⟩:=List.mem_map.1 hc
       simp only[List.getD]
       cases hq:zc[i % zc.length]? with
       | none=>exact .any
       | some q=>exact bd_cells (bd_ofVal 5 z) hzc q (List.mem_of_getElem? hq)
      obtain⟨ds,k1,k2⟩:=fillS_sound _ ps xs.toList _ cs _ hf hbase hi hp
      have hbc:=bd_fillS _ ps _ cs hf hbb hbp
      rw[Array.toArray_toList]at k1
      have hb':Below w.heap.size w (w.alloc (.cells ds.toArray e)):=(Below.refl _ w).alloc (Nat.le_refl _) _
      have hk:KeepsF F w (w.alloc (.cells ds.toArray e)):=keepsF_below hR.lt hb'
      have hold:∀ i,Live mem i→upd B mem.length ⟨w.heap.size,0,0,0,false,id⟩ i=B i:=fun i hi=>upd_old B (Nat.ne_of_lt hi.lt)
      refine⟨upd B mem.length ⟨w.heap.size,0,0,0,false,id⟩,w.alloc (.cells ds.toArray e),.slice (some ⟨w.heap.size,0,none⟩) len len,?_,?_,hR.put mem.length (not_live_end mem) (.cells cs e) _ hb' rfl ⟨rfl,rfl,ds,heap_alloc_new w _,(k2.mono (fun _ h=>h) hk.f).loc hold hbc⟩ (fun _=>Nat.le_refl _) (fun c hc=>(hbc c hc).mono (live_push' mem _).1) (fun i x=>get_push mem _ i x),hold,hk,(live_push mem _ (fun r h=>by cases h)).1,.csl (live_push' mem _).2⟩
      ·have h1:¬len*n > 2 ^ 24:=by omega
       have h2:¬len*n=0:=by
        have:=Nat.mul_pos hl0 h0;omega
       simp only[Instr.buildSlice,Sem.run_bind,run_underlying hu,Result.andThen_ok,Rx.run_sizeOf hn,Sem.run_ite,h1,h2,if_false,Rx.pureRun_run P _ _ hz w,Sem.run_pure]
       simp only[k1,newRow,Sem.run_bind,run_newObj,Result.andThen_ok,Sem.run_pure]
       rfl
      ·have:=VR.csl (B:=upd B mem.length ⟨w.heap.size,0,0,0,false,id⟩) (F:=F) (w:=w.alloc (.cells ds.toArray e)) mem.length len n
       simpa [upd_new]using this
     ·cases h
    ·cases h
   ·cases h
  ·cases h
 ·cases h
theorem run_nilX{t e:TypeId}(ox oy:Operand)(a:Addr)(n c:Nat)(hu:P.underlying t=some (.slice e)):
  (do eqGuard .eql t ox oy (.slice (some a) n c) (.slice none 0 0);binOp .eql t (.slice (some a) n c) (.slice none 0 0):Sem Value).run P w=.ok (.bool false) w:=by
 have h1:(eqGuard .eql t ox oy (.slice (some a) n c) (.slice none 0 0):Sem Unit)=pure ():=rfl
 have h2:(binOp .eql t (.slice (some a) n c) (.slice none 0 0):Sem Value)=(do pure (.bool (←Op.equal t (.slice (some a) n c) (.slice none 0 0)))):=rfl
 have h3:(Op.equal t (.slice (some a) n c) (.slice none 0 0)).run P w=.ok false w:=by
  unfold Op.equal
  rw[show Op.maxDepth=9999+1 from rfl,Op.equalIn]
  simp only[Sem.run_bind,run_underlying hu,Result.andThen_ok,Sem.run_pure]
 rw[h1,h2]
 simp only[Sem.run_bind,h3,Result.andThen_ok,Sem.run_pure]
theorem nilX_sound(hR:RM w0 m B F mem w){t:TypeId}{r:Res}{sx sy u:SV}{x y:Value}(ox oy:Operand)(hx:VR B F w sx x)(hy:VR B F w sy y)(hl:nilX P mem t sx sy=some r)(ho:r.Out u mem'):
  mem'=mem∧Bd (Live mem) u∧∃ z,(do eqGuard .eql t ox oy x y;binOp .eql t x y:Sem Value).run P w=.ok z w∧VR B F w u z:=by
 unfold nilX at hl
 split at hl
 ·rename_i T l
  split at hl
  ·rename_i e hu
   cases hl
   obtain⟨c,hc,he⟩:=ho
   cases he
   unfold nilL at hc
   split at hc
   ·rename_i hlen
    cases hy
    cases hx with | sl _ _ _ hd =>
     obtain⟨v,hv,h⟩:=hd
     cases hv
     rcases h with⟨rfl,_⟩ | ⟨b,o,cap,rfl,_⟩
     ·simp at hlen
     ·exact⟨rfl,.v _,.bool false,run_nilX ox oy _ _ _ hu,.v _⟩
   ·cases hc
  ·cases hl
 ·rename_i b
  split at hl
  ·rename_i e T l ty fz hu hb
   cases hl
   obtain⟨c,hc,he⟩:=ho
   cases he
   unfold nilL at hc
   split at hc
   ·rename_i hlen
    cases hy
    cases hx
    rcases hR.blk b _ hb with⟨_,rfl⟩ | ⟨h0,_⟩
    ·simp at hlen
    ·refine⟨rfl,.v _,.bool false,?_,.v _⟩
     simp only[Place.val,h0,cond_false]
     exact run_nilX ox oy _ _ _ hu
   ·cases hc
  ·cases hl
 ·cases hl
theorem opX_sound(hm:m≤mem.length)(hR:RM w0 m B F mem w)(hT:VRs B F w ts a.tmps.toList)(hbd:∀ s∈ts,Bd (Live mem) s){r:Res}(h:opX P m ts mem o=some r)(ho:r.Out s mem'):
  ∃ B' w' nx,(execOp a.eval o).run P w=.ok nx w'∧OutN B' F w' s nx∧RM w0 m B' F mem' w'∧(∀ i,Live mem i→B' i=B i)∧KeepsF F w w'∧Ext mem mem'∧Bd (Live mem') s:=by
 have same':∀ {q:Sem Value},execOp a.eval o=(do pure (Next.value (←q)):Sem Next)→(mem'=mem∧Bd (Live mem) s∧∃ z,q.run P w=.ok z w∧VR B F w s z)→
   ∃ B' w' nx,(execOp a.eval o).run P w=.ok nx w'∧OutN B' F w' s nx∧RM w0 m B' F mem' w'∧(∀ i,Live mem i→B' i=B i)∧KeepsF F w w'∧Ext mem mem'∧Bd (Live mem') s:=by
  rintro q e ⟨e1,hb,z,hz,hv⟩
  subst e1
  exact⟨B,w,_,by rw[e];exact Rx.run_v hz,.inl ⟨z,rfl,hv⟩,hR,fun _ _=>rfl,KeepsF.refl _ _,Ext.refl _,hb⟩
 have new':∀ {q:Sem Value},execOp a.eval o=(do pure (Next.value (←q)):Sem Next)→(∃ B' w' z,q.run P w=.ok z w'∧VR B' F w' s z∧RM w0 m B' F mem' w'∧(∀ i,Live mem i→B' i=B i)∧KeepsF F w w'∧Ext mem mem'∧Bd (Live mem') s)→
   ∃ B' w' nx,(execOp a.eval o).run P w=.ok nx w'∧OutN B' F w' s nx∧RM w0 m B' F mem' w'∧(∀ i,Live mem i→B' i=B i)∧KeepsF F w w'∧Ext mem mem'∧Bd (Live mem') s:=by
  rintro q e ⟨B',w',z,hz,hv,h1⟩
  exact⟨B',w',_,by rw[e];exact Rx.run_v hz,.inl ⟨z,rfl,hv⟩,h1⟩
 unfold opX at h
 split at h
 ·rename_i t x hop
  split at h
  ·rename_i hx
   exact new' (q:=Instr.range t (a.eval x)) (by simp only[execOp,hop]) (rangeX_sound hR (ev_bd hbd x) (ev_vr hT hx) h ho)
  ·cases h
 ·rename_i t x y yt hop
  split at h
  ·rename_i hx
   simp only[Bool.and_eq_true]at hx
   exact same' (q:=(do eqGuard .eql t x y (a.eval x) (a.eval y);binOp .eql t (a.eval x) (a.eval y))) (by simp only[execOp,hop]) (nilX_sound hR x y (ev_vr hT hx.1) (ev_vr hT hx.2) h ho)
  ·cases h
 ·rename_i x hop
  split at h
  ·rename_i hx
   exact same' (q:=Instr.entry (a.eval x)) (by simp only[execOp,hop]) (entryX_sound hR (ev_vr hT hx) h ho)
  ·cases h
 ·rename_i t x ix hop
  split at h
  ·rename_i hx
   simp only[Bool.and_eq_true]at hx
   exact same' (q:=Instr.indexAt t (a.eval x) (a.eval ix)) (by simp only[execOp,hop]) (idxX_sound hR (ev_bd hbd x) (ev_vr hT hx.1) (ev_vr hT hx.2) h ho)
  ·cases h
 ·rename_i t x lo hi mx hop
  split at h
  ·rename_i hx
   simp only[Bool.and_eq_true]at hx
   exact same' (q:=Instr.sliceAt t (a.eval x) (some (a.eval lo)) (some (a.eval hi)) (some (a.eval mx))) (by simp only[execOp,hop];rfl) (sliceX_sound hR (ev_bd hbd x) (ev_vr hT hx.1.1.1) (ev_vr hT hx.1.1.2) (ev_vr hT hx.1.2) (ev_vr hT hx.2) h ho)
  ·cases h
 ·rename_i t len parts hop
  split at h
  ·rename_i hx
   simp only[List.all_eq_true]at hx
   refine new' (q:=Instr.buildSlice t len (parts.map fun p=>(p.1,a.eval p.2))) (by simp only[execOp,hop]) (buildCells_sound hR h ho (by simp) ?_ ?_)
   ·refine⟨by simp,fun i s d h1 h2=>?_⟩
    simp only[List.map_map,Array.toList_map,List.getElem?_map]at h1 h2
    cases hq:parts.toList[i]? with
    | none=>rw[hq]at h1;cases h1
    | some y=>rw[hq]at h1 h2;cases h1;cases h2;exact ev_vr hT (hx y (List.mem_of_getElem? hq))
   ·intro p hp
    obtain⟨y,_,rfl⟩:=List.mem_map.1 hp
    exact ev_bd hbd y.2
  ·cases h
 ·rename_i x t hop
  split at h
  ·rename_i hx
   have hv:=ev_vr (B:=B) (F:=F) (w:=w) hT hx
   split at h
   ·rename_i e b n k hu hs
    cases h
    obtain⟨rfl,rfl⟩:=ho
    rw[hs]at hv
    generalize hz:a.eval x=z at hv
    cases hv
    have hrun:(Builtin.len_ #[t] o.type #[a.eval x]).run P w=.ok (.int .i64 n) w:=by
     rw[hz]
     simp[Builtin.len_,run_underlying hu,goInt,Sem.run_bind,Sem.run_pure,Result.andThen_ok]
    refine⟨B,w,_,?_,.inl ⟨.int .i64 n,rfl,.v _⟩,hR,fun _ _=>rfl,KeepsF.refl _ _,Ext.refl _,.v _⟩
    have e1:(Array.map a.eval ⟨[x]⟩)=#[a.eval x]:=by simp[Array.map]
    simp only[execOp,hop,resolve,Sem.run_bind,Sem.run_pure,Result.andThen_ok,invoke,builtin,e1,hrun]
   ·rename_i e b lo n k hu hs
    cases h
    obtain⟨rfl,rfl⟩:=ho
    rw[hs]at hv
    generalize hz:a.eval x=z at hv
    cases hv with | ptc _ _ _ _ _ hp =>
     obtain⟨p0,c,rfl,p1,p2⟩:=hp
     have hrun:(Builtin.len_ #[t] o.type #[a.eval x]).run P w=.ok (.int .i64 n) w:=by
      rw[hz]
      simp[Builtin.len_,run_underlying hu,goInt,Sem.run_bind,Sem.run_pure,Result.andThen_ok]
     refine⟨B,w,_,?_,.inl ⟨.int .i64 n,rfl,.v _⟩,hR,fun _ _=>rfl,KeepsF.refl _ _,Ext.refl _,.v _⟩
     have e1:(Array.map a.eval ⟨[x]⟩)=#[a.eval x]:=by simp[Array.map]
     simp only[execOp,hop,resolve,Sem.run_bind,Sem.run_pure,Result.andThen_ok,invoke,builtin,e1,hrun]
   ·cases h
  ·cases h
 ·cases h
end
end Go.Q
