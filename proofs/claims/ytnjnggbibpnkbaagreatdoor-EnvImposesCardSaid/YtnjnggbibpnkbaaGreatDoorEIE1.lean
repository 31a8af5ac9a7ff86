import Derived.CallsIn
import Derived.OrdersIn
import Derived.LoopNIn
import Derived.RangeFuncIn
import Derived.RangeFuncRecord
import Derived.RangeFuncOwn
import Derived.Below
import Derived.Laws.Rows
import Derived.Laws.Cells
import Derived.Laws.World
import Derived.Laws.CopyRow
import Derived.Calls
import Derived.Orders
import Derived.LoopN
import Derived.Laws.StructEq
import Derived.Laws.AppendOwn
import Derived.Laws.MakeOwn
import Derived.KernelRfl
set_option linter.all false
open Array renaming getElem?_eq_getElem→xy,getElem?_toList→vi,map→vD,ext'→uk,getElem?_eq_some_iff→uE,getD_eq_getD_getElem?→sP,toList_map→rA,toArray_toList→pC,getElem?_map→pD,getElem?_modify→oS,range→n6,getElem?_range→n8,getElem?_push→lB
open Bool renaming false_eq_true→zg,and_eq_true→zm,or_eq_true→se,not_eq_true'→qq,and_eq_false_iff→oF,not_eq_true→mi,not_eq_false→ia
open Go.World renaming putObj_heap_other→wN
open List renaming getElem?_eq_getElem→zP,getElem?_eq_some_iff→y6,getElem?_set→yd,all_eq_true→ym,getElem?_eq_none→yn,length_append→yo,mem_map→yy,getElem?_map→yz,mem_of_getElem?→xj,getElem?_append_left→xm,range→xx,mem_append→xz,replicate→xS,length_take→xV,length_eq_zero_iff→wc,getElem?_append_right→wi,mem_cons→ww,getD→vf,length_cons→vh,length_drop→vu,ext_getElem?→vE,getElem?_drop→ue,getElem?_take_of_lt→un,mem_cons_self→uL,append_nil→tc,foldl_cons→tf,map_map→tA,mem_cons_of_mem→s9,mem_singleton→sj,getElem?_take→rj,map_cons→rz,mem_of_mem_take→rB,mem_of_mem_drop→qu,getElem?_toArray→oE,append_assoc→oX,cons→n5,getElem?_range→n7,getElem?_cons_zero→m9,getElem?_of_mem→mh,getElem?_eq_none_iff→k9,map_append→kg,mem_iff_getElem?→ic
open Nat renaming le_refl→za,blt→y9,add_assoc→xo,le_trans→xL,zero_add→wm,zero_le→wD,mul_le_mul_right→ur,min_eq_left→ut,add_mul→uR,succ_mul→tj,ne_of_lt→sR,lt_of_not_le→rx,add_zero→rI,mul_one→mo,add_comm→lP,min_le_left→k8,min_le_right→ii
open Option renaming some→y8,map_some→wj,bind_eq_some_iff→vB,map_eq_some_iff→tF,getD_some→sX,map_none→mj
universe u
namespace Go
def gO{p:Prop}[i:Decidable p](h:¬p):decide p=false:=_root_.decide_eq_false h
def gP{p:Prop}[i:Decidable p](h:p):decide p=true:=_root_.decide_eq_true h
def gR{c:Prop}{h:Decidable c}(n:¬c){α:Sort u}{t e:α}:ite c t e=e:=_root_.if_neg n
def gT{c:Prop}{h:Decidable c}(n:c){α:Sort u}{t e:α}:ite c t e=t:=_root_.if_pos n
end Go
namespace Go
def ω{p:Prop}(h:p:=by omega):p:=h
def δ{p:Prop}(h:p:=by decide):p:=h
def ψ{p:Prop}(h:p:=by simp):p:=h
def θ{p:Prop}(h:p:=by kernel_rfl):p:=h
end Go
namespace Go.Q
open Go Go.RowKit
inductive EX where
 | mk (i:Int) (s:ByteArray) (j:Int) (l:List EX)
def EX.i:EX→Int
 | .mk i _ _ _=>i
def EX.s:EX→ByteArray
 | .mk _ s _ _=>s
def EX.j:EX→Int
 | .mk _ _ j _=>j
def EX.l:EX→List EX
 | .mk _ _ _ l=>l
inductive CX where
 | mk (i:Int) (l:List EX) (m:List CX)
def CX.i:CX→Int
 | .mk i _ _=>i
def CX.l:CX→List EX
 | .mk _ l _=>l
def CX.m:CX→List CX
 | .mk _ _ m=>m
def EX.eta(e:EX):EX.mk e.i e.s e.j e.l=e:=by cases e;rfl
inductive Ty where
 | int (k:IntKind)
 | bool
 | str
 | unit
 | nul
 | pair (a b:Ty)
 | sl (e:Ty)
 | rc (c:Bool)
deriving DecidableEq
@[reducible] def Ty.α : Ty → Type
 | .int _=>Int
 | .bool=>Bool
 | .str=>ByteArray
 | .unit=>Unit
 | .nul=>Unit
 | .pair a b=>a.α×b.α
 | .sl e=>List e.α
 | .rc false=>EX
 | .rc true=>CX
def Ty.n:Ty→Nat
 | .int _=>1
 | .bool=>1
 | .str=>1
 | .unit=>0
 | .nul=>1
 | .pair a b=>a.n+b.n
 | .sl _=>1
 | .rc c=>bif c then 3 else 4
inductive SV where
 | v (x:Value)
 | ptr (b o:Nat)
 | sl (T:Ty) (l:List T.α)
 | ep (T:Ty) (x:T.α) (o:Nat)
 | row (b:Nat)
 | rp (b i n o:Nat)
 | part (b lo n k:Nat)
 | mp (b:Nat)
 | csl (b n k:Nat)
 | ptc (b lo n k:Nat)
 | agg (cs:List SV)
 | tup (cs:List SV)
 | fn (g:FuncId) (first cap:List SV)
 | yld (i:Nat)
 | any
def cellsOf:(T:Ty)→T.α→List SV
 | .int k,x=>[.v (.int k x)]
 | .bool,x=>[.v (.bool x)]
 | .str,x=>[.v (.string x)]
 | .unit,_=>[]
 | .nul,_=>[.v .nilIface]
 | .pair a b,x=>cellsOf a x.1++cellsOf b x.2
 | .sl e,l=>[.sl e l]
 | .rc false,x=>[.v (.int .i64 (EX.i x)),.v (.string (EX.s x)),.v (.int .i64 (EX.j x)),.sl (.rc false) (EX.l x)]
 | .rc true,x=>[.v (.int .i64 (CX.i x)),.sl (.rc false) (CX.l x),.sl (.rc true) (CX.m x)]
def slCe(e:Ty):SV→Option (List e.α)
 | .sl T l=>if h:T=e then some (h▸l)else none
 | .v (.slice none 0 0)=>some []
 | _=>none
def ofC:(T:Ty)→List SV→Option (T.α×List SV)
 | .int k,ss=>match ss with
  | .v (.int k' x)::r=>if k'=k then some (x,r)else none
  | _=>none
 | .bool,ss=>match ss with
  | .v (.bool x)::r=>some (x,r)
  | _=>none
 | .str,ss=>match ss with
  | .v (.string x)::r=>some (x,r)
  | _=>none
 | .unit,ss=>some ((),ss)
 | .nul,ss=>match ss with
  | .v .nilIface::r=>some ((),r)
  | _=>none
 | .pair a b,ss=>match ofC a ss with
  | some (x,r)=>match ofC b r with
   | some (y,r')=>some ((x,y),r')
   | none=>none
  | none=>none
 | .sl e,ss=>match ss with
  | .sl T l::r=>if h:T=e then some ((h▸l:List e.α),r)else none
  | .v (.slice none 0 0)::r=>some (([]:List e.α),r)
  | _=>none
 | .rc false,ss=>match ss with
  | .v (.int .i64 i)::.v (.string s)::.v (.int .i64 j)::a::r=>match slCe (.rc false) a with
   | some l=>some (EX.mk i s j l,r)
   | none=>none
  | _=>none
 | .rc true,ss=>match ss with
  | .v (.int .i64 i)::a::b::r=>match slCe (.rc false) a with
   | some l=>match slCe (.rc true) b with
    | some m=>some (CX.mk i l m,r)
    | none=>none
   | none=>none
  | _=>none
structure Place where
 blk:Nat
 off:Nat
 len:Nat
 cap:Nat
 nil:Bool
 ord:Nat→Nat
def Place.val(p:Place):Value:=bif p.nil then .slice none 0 0 else .slice (some ⟨p.blk,p.off,none⟩) p.len p.cap
abbrev Loc:=Nat→Place
def PartV(p:Place)(b n k:Nat)(v:Value):Prop :=
 (p.nil=true∧b=0∧n=0∧v=.slice none 0 0)∨(p.nil=false∧∃ (a:Addr) (c:Nat),v=.slice (some a) n c∧n≤c∧((a=⟨p.blk,p.off+b*k,none⟩∧b+c=p.cap)∨(n=0∧b≠0)))
def PtV(p:Place)(a n k:Nat)(v:Value):Prop:=p.nil=false∧∃ c:Nat,v=.slice (some ⟨p.blk,p.off+a*k,none⟩) n c∧n≤c∧a+c≤p.cap
def ne_at{α:Type}{l:List α}{i:Nat}{x:α}(h:l[i]? = some x):l≠[]:=by rintro rfl;simp at h
inductive DX(F:Nat→Prop)(w:World):EX ⊕ List EX→List Value→Prop
 | ex (x:EX) (v:Value):DX F w (.inr x.l) [v]→DX F w (.inl x) [.int .i64 x.i,.string x.s,.int .i64 x.j,v]
 | nil (q:Option Addr):DX F w (.inr []) [.slice q 0 0]
 | sl (l:List EX) (b o cap:Nat) (ds:Nat→List Value):(l≠[]→F b)→l.length≤cap→(∀ (i:Nat) (x:EX),l[i]? = some x→DX F w (.inl x) (ds i))→
   (∀ (i:Nat) (x:EX),l[i]? = some x→∀ (j:Nat) (d:Value),(ds i)[j]? = some d→w.cell? ⟨b,o+(i*4+j),none⟩=some d)→DX F w (.inr l) [.slice (some ⟨b,o,none⟩) l.length cap]
inductive DY(F:Nat→Prop)(w:World):CX ⊕ List CX→List Value→Prop
 | cd (x:CX) (u v:Value):DX F w (.inr x.l) [u]→DY F w (.inr x.m) [v]→DY F w (.inl x) [.int .i64 x.i,u,v]
 | nil (q:Option Addr):DY F w (.inr []) [.slice q 0 0]
 | sl (l:List CX) (b o cap:Nat) (ds:Nat→List Value):(l≠[]→F b)→l.length≤cap→(∀ (i:Nat) (x:CX),l[i]? = some x→DY F w (.inl x) (ds i))→
   (∀ (i:Nat) (x:CX),l[i]? = some x→∀ (j:Nat) (d:Value),(ds i)[j]? = some d→w.cell? ⟨b,o+(i*3+j),none⟩=some d)→DY F w (.inr l) [.slice (some ⟨b,o,none⟩) l.length cap]
def DR(F:Nat→Prop)(w:World):(T:Ty)→T.α→List Value→Prop
 | .int k,x,cs=>cs=[.int k x]
 | .bool,x,cs=>cs=[.bool x]
 | .str,x,cs=>cs=[.string x]
 | .unit,_,cs=>cs=[]
 | .nul,_,cs=>cs=[.nilIface]
 | .pair a b,x,cs=>∃ c d,cs=c++d∧DR F w a x.1 c∧DR F w b x.2 d
 | .sl e,l,cs=>∃ v,cs=[v]∧((l=[]∧∃ q:Option Addr,v=.slice q 0 0)∨∃ b o cap:Nat,v=.slice (some ⟨b,o,none⟩) l.length cap∧(l≠[]→F b)∧l.length≤cap∧
   ∀ (i:Nat) (x:e.α),l[i]? = some x→∃ ds:List Value,DR F w e x ds∧∀ (j:Nat) (d:Value),ds[j]? = some d→w.cell? ⟨b,o+(i*e.n+j),none⟩=some d)
 | .rc false,x,cs=>DX F w (.inl x) cs
 | .rc true,x,cs=>DY F w (.inl x) cs
def dsl_all{α:Type}{l:List α}{P:α→List Value→Prop}{Q:Nat→Nat→Value→Prop}(h:∀ (i:Nat) (x:α),l[i]? = some x→∃ ds:List Value,P x ds∧∀ (j:Nat) (d:Value),ds[j]? = some d→Q i j d):
  ∃ f:Nat→List Value,(∀ (i:Nat) (x:α),l[i]? = some x→P x (f i))∧∀ (i:Nat) (x:α),l[i]? = some x→∀ (j:Nat) (d:Value),(f i)[j]? = some d→Q i j d:=by
 have b:∀ i:Nat,∃ ds:List Value,∀ x:α,l[i]? = some x→P x ds∧∀ (j:Nat) (d:Value),ds[j]? = some d→Q i j d:=fun i=>by
  cases a:l[i]? with
  | none=>exact⟨[],fun x h=>by cases h⟩
  | some y =>
   obtain⟨ds,c⟩:=h i y a;exact⟨ds,fun x h=>by cases h;exact c⟩
 exact⟨fun i=>(b i).choose,fun i x a=>((b i).choose_spec x a).1,fun i x a=>((b i).choose_spec x a).2⟩
def dr_ex{F:Nat→Prop}{w:World}{l:List EX}{v:Value}:DR F w (.sl (.rc false)) l [v]↔DX F w (.inr l) [v]:=by
 constructor
 ·rintro ⟨k,e,h⟩;cases e;rcases h with⟨rfl,q,rfl⟩ | ⟨b,o,cap,rfl,d,g,h⟩
  ·exact .nil q
  ·obtain⟨f,a,c⟩:=dsl_all (P:=fun x ds=>DX F w (.inl x) ds) h;exact .sl l b o cap f d g a c
 ·intro h;refine⟨v,rfl,?_⟩;cases h with
  | nil q=>exact .inl ⟨rfl,q,rfl⟩
  | sl _ b o cap ds d g a c=>exact .inr ⟨b,o,cap,rfl,d,g,fun i x j=>⟨ds i,a i x j,c i x j⟩⟩
def dr_cd{F:Nat→Prop}{w:World}{l:List CX}{v:Value}:DR F w (.sl (.rc true)) l [v]↔DY F w (.inr l) [v]:=by
 constructor
 ·rintro ⟨k,e,h⟩;cases e;rcases h with⟨rfl,q,rfl⟩ | ⟨b,o,cap,rfl,d,g,h⟩
  ·exact .nil q
  ·obtain⟨f,a,c⟩:=dsl_all (P:=fun x ds=>DY F w (.inl x) ds) h;exact .sl l b o cap f d g a c
 ·intro h;refine⟨v,rfl,?_⟩;cases h with
  | nil q=>exact .inl ⟨rfl,q,rfl⟩
  | sl _ b o cap ds d g a c=>exact .inr ⟨b,o,cap,rfl,d,g,fun i x j=>⟨ds i,a i x j,c i x j⟩⟩
def DR.len{F:Nat→Prop}{w:World}:∀ {T:Ty} {x:T.α} {f:List Value},DR F w T x f→f.length=T.n
 | .int k,x,f,h=>by rw[show f=_ from h];rfl
 | .bool,x,f,h=>by rw[show f=_ from h];rfl
 | .str,x,f,h=>by rw[show f=_ from h];rfl
 | .unit,x,f,h=>by rw[show f=_ from h];rfl
 | .nul,x,f,h=>by rw[show f=_ from h];rfl
 | .pair a b,x,f,h=>by
  obtain⟨c,d,rfl,g,i⟩:=h;rw[yo,DR.len g,DR.len i];rfl
 | .sl e,l,f,h=>by
  obtain⟨v,rfl,_⟩:=h;rfl
 | .rc false,x,f,h=>by cases (show DX F w (.inl x) f from h);rfl
 | .rc true,x,f,h=>by cases (show DY F w (.inl x) f from h);rfl
structure KeepsF(F:Nat→Prop)(w w':World):Prop where
 f:∀ i,F i→w'.heap[i]? = w.heap[i]?
 d:∀ df:Nat,w.heap[df]? = some (Obj.deferred (some []))→w'.heap[df]? = some (Obj.deferred (some []))
 s:w.heap.size≤w'.heap.size
def KeepsF.refl(F:Nat→Prop)(w:World):KeepsF F w w:=⟨fun _ _=>rfl,fun _ h=>h,za _⟩
def KeepsF.trans{F:Nat→Prop}{a b c:World}(h:KeepsF F a b)(k:KeepsF F b c):KeepsF F a c:=⟨fun i g=>(k.f i g).trans (h.f i g),fun e j=>k.d e (h.d e j),xL h.s k.s⟩
def gtN:Nat:=0
def gtab(g:Nat):List Int:=bif g==gtN&&y9 gtN 1000000000 then [0,0,1,2,2,2,2,2]else []
def KeepsC(F:Nat→Prop)(w w':World):Prop:=∀ i,F i→w'.heap[i]? = w.heap[i]?
instance {F:Nat→Prop} {w w':World}:Coe (KeepsF F w w') (KeepsC F w w'):=⟨KeepsF.f⟩
def KeepsC.cell{F:Nat→Prop}{w w':World}(h:KeepsC F w w'){b:Nat}(a:F b)(o:Nat):w'.cell? ⟨b,o,none⟩=w.cell? ⟨b,o,none⟩:=by
 simp only[World.cell?,h b a]
def DX.mono{F F':Nat→Prop}{w w':World}(g:∀ i,F i→F' i)(n:KeepsC F w w'){x:EX ⊕ List EX}{cs:List Value}(h:DX F w x cs):DX F' w' x cs:=by
 induction h with
 | ex x v _ a=>exact .ex x v a
 | nil q=>exact .nil q
 | sl l b o cap ds c k _ f a=>exact .sl l b o cap ds (fun p=>g b (c p)) k a fun i x e j d m=>(n.cell (c (ne_at e)) _).trans (f i x e j d m)
def DY.mono{F F':Nat→Prop}{w w':World}(c:∀ i,F i→F' i)(f:KeepsC F w w'){x:CX ⊕ List CX}{cs:List Value}(h:DY F w x cs):DY F' w' x cs:=by
 induction h with
 | cd x u v h _ a=>exact .cd x u v (h.mono c f) a
 | nil q=>exact .nil q
 | sl l b o cap ds e m _ k a=>exact .sl l b o cap ds (fun p=>c b (e p)) m a fun i x g j d n=>(f.cell (e (ne_at g)) _).trans (k i x g j d n)
def DR.mono{F F':Nat→Prop}{w w':World}(g:∀ i,F i→F' i)(m:KeepsC F w w'):∀ {T:Ty} {x:T.α} {f:List Value},DR F w T x f→DR F' w' T x f
 | .int k,x,f,h=>h
 | .bool,x,f,h=>h
 | .str,x,f,h=>h
 | .unit,x,f,h=>h
 | .nul,x,f,h=>h
 | .pair a b,x,f,h=>by
  obtain⟨c,d,e,n,p⟩:=h;exact⟨c,d,e,n.mono g m,p.mono g m⟩
 | .sl e,l,f,h=>by
  obtain⟨v,q,h | ⟨b,o,cap,t,r,u,h⟩⟩:=h
  ·exact⟨v,q,.inl h⟩
  ·refine⟨v,q,.inr ⟨b,o,cap,t,fun z=>g b (r z),u,fun i x s=>?_⟩⟩;obtain⟨ds,n,p⟩:=h i x s;exact⟨ds,n.mono g m,fun j d y=>(m.cell (r (ne_at s)) _).trans (p j d y)⟩
 | .rc false,x,f,h=>DX.mono g m h
 | .rc true,x,f,h=>DY.mono g m h
inductive VR(B:Loc)(F:Nat→Prop)(w:World):SV→Value→Prop
 | v (x:Value):VR B F w (.v x) x
 | ptr (b o:Nat):VR B F w (.ptr b o) (.pointer (some ⟨(B b).blk,(B b).off+o,none⟩))
 | sl (T:Ty) (l:List T.α) (v:Value):DR F w (.sl T) l [v]→VR B F w (.sl T l) v
 | ep (T:Ty) (x:T.α) (o b a:Nat) (cs:List Value):F b→DR F w T x cs→(∀ (j:Nat) (d:Value),cs[j]? = some d→w.cell? ⟨b,a+j,none⟩=some d)→VR B F w (.ep T x o) (.pointer (some ⟨b,a+o,none⟩))
 | row (b:Nat):VR B F w (.row b) (B b).val
 | rp (b i n o:Nat):VR B F w (.rp b i n o) (.pointer (some ⟨(B b).blk,(B b).off+(i*n+o),none⟩))
 | part (b lo n k:Nat) (v:Value):PartV (B b) lo n k v→VR B F w (.part b lo n k) v
 | mp (b:Nat):VR B F w (.mp b) (.map (some (B b).blk))
 | csl (b n k:Nat):VR B F w (.csl b n k) (.slice (some ⟨(B b).blk,(B b).off,none⟩) n n)
 | ptc (b lo n k:Nat) (v:Value):PtV (B b) lo n k v→VR B F w (.ptc b lo n k) v
 | agg (cs:List SV) (ds:List Value):cs.length=ds.length→(∀ (i:Nat) (s:SV) (d:Value),cs[i]? = some s→ds[i]? = some d→VR B F w s d)→VR B F w (.agg cs) (.agg ds.toArray)
 | tup (cs:List SV) (ds:List Value):cs.length=ds.length→(∀ (i:Nat) (s:SV) (d:Value),cs[i]? = some s→ds[i]? = some d→VR B F w s d)→VR B F w (.tup cs) (.tuple ds.toArray)
 | fn (g:FuncId) (fs cs:List SV) (fd cd:List Value):fs.length=fd.length→(∀ (i:Nat) (s:SV) (d:Value),fs[i]? = some s→fd[i]? = some d→VR B F w s d)→
   cs.length=cd.length→(∀ (i:Nat) (s:SV) (d:Value),cs[i]? = some s→cd[i]? = some d→VR B F w s d)→VR B F w (.fn g fs cs) (.func (.func g) fd.toArray cd.toArray)
 | yld (i:Nat):VR B F w (.yld i) (.func (.yield (B i).blk) #[] #[])
 | any (x:Value):VR B F w .any x
def VRs(B:Loc)(F:Nat→Prop)(w:World)(ss:List SV)(ds:List Value):Prop :=
 ss.length=ds.length∧∀ (i:Nat) (s:SV) (d:Value),ss[i]? = some s→ds[i]? = some d→VR B F w s d
section
variable {B B':Loc}{F F':Nat→Prop}{w w':World}
def VRs.nil:VRs B F w [] []:=⟨rfl,fun i s d h=>by simp at h⟩
def VRs.cons{s:SV}{d:Value}{ss:List SV}{ds:List Value}(h:VR B F w s d)(c:VRs B F w ss ds):VRs B F w (s::ss) (d::ds) :=
 ⟨by simp[c.1],fun i f e a b=>by
  cases i with
  | zero=>simp at a b;subst a;subst b;exact h
  | succ i=>simp at a b;exact c.2 i f e a b⟩
def VRs.head{s:SV}{ss:List SV}{ds:List Value}(h:VRs B F w (s::ss) ds):∃ d ds',ds=d::ds'∧VR B F w s d∧VRs B F w ss ds':=by
 cases ds with
 | nil=>have:=h.1;simp at this
 | cons d ds'=>exact⟨d,ds',rfl,h.2 0 s d rfl rfl,by have:=h.1;simpa using this,fun i e a b c=>h.2 (i+1) e a (by simpa using b) (by simpa using c)⟩
def VRs.append{ss b:List SV}{ds a:List Value}(h:VRs B F w ss ds)(k:VRs B F w b a):VRs B F w (ss++b) (ds++a):=by
 induction ss generalizing ds with
 | nil =>
  have:ds=[]:=by have:=h.1;simpa using this.symm
  subst this;exact k
 | cons s ss g =>
  obtain⟨d,c,rfl,e,f⟩:=h.head;exact VRs.cons e (g f)
def VRs.get{ss:List SV}{ds:List Value}(h:VRs B F w ss ds){i:Nat}{s:SV}(c:ss[i]? = some s):∃ d,ds[i]? = some d∧VR B F w s d:=by
 have b:=(y6.1 c).1;have a:i < ds.length:=by rw[←h.1];exact b
 exact⟨ds[i],zP a,h.2 i s _ c (zP a)⟩
def VRs.take{ss:List SV}{ds:List Value}(h:VRs B F w ss ds)(n:Nat):VRs B F w (ss.take n) (ds.take n) :=
 ⟨by simp[h.1],fun i s d a b=>by
  rw[rj]at a b;split at a
  ·rename_i c;rw[gT c]at b;exact h.2 i s d a b
  ·cases a⟩
def VRs.drop{ss:List SV}{ds:List Value}(h:VRs B F w ss ds)(n:Nat):VRs B F w (ss.drop n) (ds.drop n) :=
 ⟨by simp[h.1],fun i s d a b=>by
  rw[ue]at a b;exact h.2 _ s d a b⟩
def VRs.set{ss:List SV}{ds:List Value}(h:VRs B F w ss ds)(i:Nat){s:SV}{d:Value}(f:VR B F w s d):VRs B F w (ss.set i s) (ds.set i d) :=
 ⟨by simp[h.1],fun j g c a b=>by
  rw[yd]at a b;by_cases e:i=j
  ·subst e;rw[gT rfl]at a b;split at a
   ·split at b
    ·cases a;cases b;exact f
    ·cases b
   ·cases a
  ·rw[gR e]at a b;exact h.2 j g c a b⟩
def VRs.of_vr_agg{a:List SV}{x:Value}(h:VR B F w (.agg a) x):∃ ds:List Value,x=.agg ds.toArray∧VRs B F w a ds:=by
 cases h with | agg _ ds b c=>exact⟨ds,rfl,b,c⟩
def VRs.of_vr_tup{a:List SV}{x:Value}(h:VR B F w (.tup a) x):∃ ds:List Value,x=.tuple ds.toArray∧VRs B F w a ds:=by
 cases h with | tup _ ds b c=>exact⟨ds,rfl,b,c⟩
def VR.agg'{a:List SV}{ds:List Value}(h:VRs B F w a ds):VR B F w (.agg a) (.agg ds.toArray):=.agg a ds h.1 h.2
def VR.tup'{a:List SV}{ds:List Value}(h:VRs B F w a ds):VR B F w (.tup a) (.tuple ds.toArray):=.tup a ds h.1 h.2
def VR.mono(m:∀ i,F i→F' i)(p:KeepsC F w w'){s:SV}{x:Value}(h:VR B F w s x):VR B F' w' s x:=by
 induction h with
 | v x=>exact .v x
 | ptr b o=>exact .ptr b o
 | sl T l v h=>exact .sl T l v (h.mono m p)
 | ep T x o b a c u C D=>exact .ep T x o b a c (m b u) (C.mono m p) fun j d E=>(p.cell u _).trans (D j d E)
 | row b=>exact .row b
 | rp b i n o=>exact .rp b i n o
 | part b t n k v h=>exact .part b t n k v h
 | mp b=>exact .mp b
 | csl b n k=>exact .csl b n k
 | ptc b t n k v h=>exact .ptc b t n k v h
 | agg c ds e _ f=>exact .agg c ds e f
 | tup c ds e _ f=>exact .tup c ds e f
 | fn g A c z y e _ q _ f r=>exact .fn g A c z y e f q r
 | yld i=>exact .yld i
 | any x=>exact .any x
def VRs.mono(c:∀ i,F i→F' i)(e:KeepsC F w w'){ss:List SV}{ds:List Value}(h:VRs B F w ss ds):VRs B F' w' ss ds:=⟨h.1,fun i s d a b=>(h.2 i s d a b).mono c e⟩
inductive Bd(D:Nat→Prop):SV→Prop
 | v (x:Value):Bd D (.v x)
 | any:Bd D .any
 | sl {T:Ty} {l:List T.α}:Bd D (.sl T l)
 | ep {T:Ty} {x:T.α} {o:Nat}:Bd D (.ep T x o)
 | ptr {b o:Nat}:D b→Bd D (.ptr b o)
 | row {b:Nat}:D b→Bd D (.row b)
 | yld {b:Nat}:D b→Bd D (.yld b)
 | rp {b i n o:Nat}:D b→Bd D (.rp b i n o)
 | part {b lo n k:Nat}:D b→Bd D (.part b lo n k)
 | mp {b:Nat}:D b→Bd D (.mp b)
 | csl {b n k:Nat}:D b→Bd D (.csl b n k)
 | ptc {b lo n k:Nat}:D b→Bd D (.ptc b lo n k)
 | agg {cs:List SV}:(∀ s∈cs,Bd D s)→Bd D (.agg cs)
 | tup {cs:List SV}:(∀ s∈cs,Bd D s)→Bd D (.tup cs)
 | fn {g:FuncId} {fs cs:List SV}:(∀ s∈fs,Bd D s)→(∀ s∈cs,Bd D s)→Bd D (.fn g fs cs)
def Bd.mono{D d:Nat→Prop}{s:SV}(h:Bd D s)(a:∀ i,D i→d i):Bd d s:=by
 induction h with
 | v x=>exact .v x
 | any=>exact .any
 | sl=>exact .sl
 | ep=>exact .ep
 | ptr h=>exact .ptr (a _ h)
 | row h=>exact .row (a _ h)
 | yld h=>exact .yld (a _ h)
 | rp h=>exact .rp (a _ h)
 | part h=>exact .part (a _ h)
 | mp h=>exact .mp (a _ h)
 | csl h=>exact .csl (a _ h)
 | ptc h=>exact .ptc (a _ h)
 | agg _ b=>exact .agg b
 | tup _ b=>exact .tup b
 | fn _ _ b c=>exact .fn b c
def Bd.of_agg{D:Nat→Prop}{a:List SV}(h:Bd D (.agg a)):∀ s∈a,Bd D s:=by cases h with | agg h=>exact h
def Bd.of_tup{D:Nat→Prop}{a:List SV}(h:Bd D (.tup a)):∀ s∈a,Bd D s:=by cases h with | tup h=>exact h
def Bd.of_fn{D:Nat→Prop}{g:FuncId}{b a:List SV}(h:Bd D (.fn g b a)):(∀ s∈b,Bd D s)∧∀ s∈a,Bd D s:=by cases h with | fn h c=>exact⟨h,c⟩
def VR.loc{D:Nat→Prop}(f:∀ i,D i→B' i=B i){s:SV}{x:Value}(h:VR B F w s x)(c:Bd D s):VR B' F w s x:=by
 induction h with
 | v x=>exact .v x
 | ptr b o=>cases c with | ptr h=>rw[←f b h];exact .ptr b o
 | sl T l v h=>exact .sl T l v h
 | ep T x o b a j t p G=>exact .ep T x o b a j t p G
 | row b=>cases c with | row h=>rw[←f b h];exact .row b
 | rp b i n o=>cases c with | rp h=>rw[←f b h];exact .rp b i n o
 | part b z n k v p=>cases c with | part h=>exact .part b z n k v (by rw[f b h];exact p)
 | mp b=>cases c with | mp h=>rw[←f b h];exact .mp b
 | csl b n k=>cases c with | csl h=>rw[←f b h];exact .csl b n k
 | ptc b z n k v p=>cases c with | ptc h=>exact .ptc b z n k v (by rw[f b h];exact p)
 | agg j ds q _ r=>exact .agg j ds q fun i s d e m=>r i s d e m (c.of_agg s (xj e))
 | tup j ds q _ r=>exact .tup j ds q fun i s d e m=>r i s d e m (c.of_tup s (xj e))
 | fn g E j C A q _ u _ r y=>exact .fn g E j C A q (fun i s d e m=>r i s d e m (c.of_fn.1 s (xj e))) u (fun i s d e m=>y i s d e m (c.of_fn.2 s (xj e)))
 | yld i=>cases c with | yld h=>rw[←f i h];exact .yld i
 | any x=>exact .any x
def VRs.loc{D:Nat→Prop}(c:∀ i,D i→B' i=B i){ss:List SV}{ds:List Value}(h:VRs B F w ss ds)(e:∀ s∈ss,Bd D s):VRs B' F w ss ds :=
 ⟨h.1,fun i s d a b=>(h.2 i s d a b).loc c (e s (xj a))⟩
def vrs_of_dr:∀ {T:Ty} {x:T.α} {f:List Value},DR F w T x f→VRs B F w (cellsOf T x) f
 | .int k,x,f,h=>by rw[show f=_ from h];exact .cons (.v _) .nil
 | .bool,x,f,h=>by rw[show f=_ from h];exact .cons (.v _) .nil
 | .str,x,f,h=>by rw[show f=_ from h];exact .cons (.v _) .nil
 | .unit,x,f,h=>by rw[show f=_ from h];exact .nil
 | .nul,x,f,h=>by rw[show f=_ from h];exact .cons (.v _) .nil
 | .pair a b,x,f,h=>by
  obtain⟨c,d,rfl,g,i⟩:=h;exact(vrs_of_dr g).append (vrs_of_dr i)
 | .sl e,l,f,h=>by
  obtain⟨v,rfl,j⟩:=id h;exact .cons (.sl e l v h) .nil
 | .rc false,x,f,h=>by
  cases (show DX F w (.inl x) f from h)with
  | ex _ v g=>exact .cons (.v _) (.cons (.v _) (.cons (.v _) (.cons (.sl _ _ _ (dr_ex.2 g)) .nil)))
 | .rc true,x,f,h=>by
  cases (show DY F w (.inl x) f from h)with
  | cd _ u v g k=>exact .cons (.v _) (.cons (.sl _ _ _ (dr_ex.2 g)) (.cons (.sl _ _ _ (dr_cd.2 k)) .nil))
def bd_cellsOf{D:Nat→Prop}:∀ {T:Ty} {x:T.α},∀ s∈cellsOf T x,Bd D s
 | .int k,x,s,h=>by simp[cellsOf]at h;subst h;exact .v _
 | .bool,x,s,h=>by simp[cellsOf]at h;subst h;exact .v _
 | .str,x,s,h=>by simp[cellsOf]at h;subst h;exact .v _
 | .unit,x,s,h=>by simp[cellsOf]at h
 | .nul,x,s,h=>by simp[cellsOf]at h;subst h;exact .v _
 | .pair a b,x,s,h=>by
  simp only[cellsOf,xz]at h;rcases h with h | h
  ·exact bd_cellsOf s h
  ·exact bd_cellsOf s h
 | .sl e,l,s,h=>by simp[cellsOf]at h;subst h;exact .sl
 | .rc false,x,s,h=>by simp[cellsOf]at h;rcases h with rfl | rfl | rfl | rfl<;>first | exact .v _ | exact .sl
 | .rc true,x,s,h=>by simp[cellsOf]at h;rcases h with rfl | rfl | rfl<;>first | exact .v _ | exact .sl
def slCe_spec{e:Ty}{s:SV}{l:List e.α}{d:Value}(h:slCe e s=some l)(a:VR B F w s d):DR F w (.sl e) l [d]:=by
 unfold slCe at h;split at h
 ·split at h
  ·rename_i T l _ b;cases b;cases h;cases a with | sl _ _ _ c=>exact c
  ·cases h
 ·cases h;cases a;exact⟨_,rfl,.inl ⟨rfl,none,rfl⟩⟩
 ·cases h
def dr_of_ofC:∀ {T:Ty} {ss r:List SV} {x:T.α} {ds:List Value},ofC T ss=some (x,r)→VRs B F w ss ds→∃ c d,ds=c++d∧DR F w T x c∧VRs B F w r d∧∃ q,ss=q++r
 | .int k,ss,r,x,ds,h,hv=>by
  simp only[ofC]at h;split at h
  ·split at h
   ·rename_i e;cases h;subst e;obtain⟨d,f,rfl,g,i⟩:=hv.head;cases g;exact⟨[_],f,rfl,rfl,i,[_],rfl⟩
   ·cases h
  ·cases h
 | .bool,ss,r,x,ds,h,hv=>by
  simp only[ofC]at h;split at h
  ·cases h;obtain⟨d,f,rfl,g,i⟩:=hv.head;cases g;exact⟨[_],f,rfl,rfl,i,[_],rfl⟩
  ·cases h
 | .str,ss,r,x,ds,h,hv=>by
  simp only[ofC]at h;split at h
  ·cases h;obtain⟨d,f,rfl,g,i⟩:=hv.head;cases g;exact⟨[_],f,rfl,rfl,i,[_],rfl⟩
  ·cases h
 | .unit,ss,r,x,ds,h,hv=>by
  simp only[ofC]at h;cases h;exact⟨[],ds,rfl,rfl,hv,[],rfl⟩
 | .nul,ss,r,x,ds,h,hv=>by
  simp only[ofC]at h;split at h
  ·cases h;obtain⟨d,f,rfl,g,i⟩:=hv.head;cases g;exact⟨[_],f,rfl,rfl,i,[_],rfl⟩
  ·cases h
 | .pair a b,ss,r,x,ds,h,hv=>by
  simp only[ofC]at h;split at h
  ·rename_i y r1 g;split at h
   ·rename_i z r2 i;cases h;obtain⟨c,d,rfl,j,n,q,rfl⟩:=dr_of_ofC g hv;obtain⟨u,C,rfl,o,t,J,rfl⟩:=dr_of_ofC i n;exact⟨c++u,C,ψ,⟨c,u,rfl,j,o⟩,t,q++J,ψ⟩
   ·cases h
  ·cases h
 | .sl e,ss,r,x,ds,h,hv=>by
  simp only[ofC]at h;split at h
  ·split at h
   ·rename_i T l _ G;cases G;cases h;obtain⟨d,f,rfl,g,i⟩:=hv.head;cases g with | sl _ _ _ g=>exact⟨[_],f,rfl,g,i,[_],rfl⟩
   ·cases h
  ·cases h;obtain⟨d,f,rfl,g,i⟩:=hv.head;cases g;exact⟨[_],f,rfl,⟨_,rfl,.inl ⟨rfl,none,rfl⟩⟩,i,[_],rfl⟩
  ·cases h
 | .rc false,ss,r,x,ds,h,hv=>by
  simp only[ofC]at h;split at h
  ·split at h
   ·rename_i l s;cases h;obtain⟨D,ds,rfl,g,j⟩:=hv.head;obtain⟨v,ds,rfl,i,n⟩:=j.head;obtain⟨A,ds,rfl,p,o⟩:=n.head;obtain⟨E,ds,rfl,H,t⟩:=o.head;cases g;cases i;cases p;exact⟨[_,_,_,E],ds,rfl,DX.ex (.mk _ _ _ l) _ (dr_ex.1 (slCe_spec s H)),t,[_,_,_,_],rfl⟩
   ·cases h
  ·cases h
 | .rc true,ss,r,x,ds,h,hv=>by
  simp only[ofC]at h;split at h
  ·split at h
   ·rename_i l s;split at h
    ·rename_i m I;cases h;obtain⟨D,ds,rfl,g,j⟩:=hv.head;obtain⟨v,ds,rfl,i,n⟩:=j.head;obtain⟨A,ds,rfl,p,o⟩:=n.head;cases g;exact⟨[_,v,A],ds,rfl,DY.cd (.mk _ l m) _ _ (dr_ex.1 (slCe_spec s i)) (dr_cd.1 (slCe_spec I p)),o,[_,_,_],rfl⟩
    ·cases h
   ·cases h
  ·cases h
end
inductive AL where
 | tmp (t:Nat)
 | ref (b i:Nat)
structure Acc where
 loc:AL
 T:Ty
 e:TypeId
structure Nr where
 ks:List Nat
 acc:List Acc
 kb:List Nat
abbrev Ann:=Nat→Nr×Nr
def loops:Code→Nat
 | .seq x y=>loops x+loops y
 | .cond _ x y=>loops x+loops y
 | .block _ x=>loops x
 | .loop x=>loops x+1
 | .rangeFunc _ _ x y=>loops x+loops y+1
 | _=>0
structure RC where
 params:Array Tmp
 assign:Code
 body:Code
def nthRange:Code→Nat→Option RC
 | .seq x y,i=>bif y9 i (loops x)then nthRange x i else nthRange y (i-loops x)
 | .cond _ x y,i=>bif y9 i (loops x)then nthRange x i else nthRange y (i-loops x)
 | .block _ x,i=>nthRange x i
 | .loop b,i=>match i with
  | 0=>none
  | j+1=>nthRange b j
 | .rangeFunc _ ps x y,i=>match i with
  | 0=>some ⟨ps,x,y⟩
  | j+1=>bif y9 j (loops x)then nthRange x j else nthRange y (j-loops x)
 | _,_=>none
def bodyP(P:Program)(g:FuncId):Code:=match P.funcs[g]? with
 | some f=>match f.body with
  | some c=>c
  | none=>.skip
 | none=>.skip
def rcodeP(P:Program)(g:FuncId)(i:Nat):RC:=(nthRange (bodyP P g) i).getD ⟨#[],.skip,.skip⟩
class HasP where
 P:Program
structure Rnd where
 tmps:List SV
 g:FuncId
 li:Nat
 st:LoopState
 pending:Option Code
def Rnd.rc[HasP](r:Rnd):RC:=rcodeP HasP.P r.g r.li
inductive Blk where
 | cells (cs:List SV) (t:TypeId)
 | row (T:Ty) (l:List T.α) (t:TypeId) (fz:Bool)
 | rnd (r:Rnd)
 | dead
 | gone
 | map (k:IntKind) (es:List (Int×SV)) (p:Nat)
 | iter (mb n:Nat) (seen:List Nat) (last:Option Nat)
def Blk.refs:Blk→List SV
 | .cells a _=>a
 | .row .. => []
 | .rnd r=>r.tmps
 | .dead=>[]
 | .gone=>[]
 | .map _ b _=>b.map (·.2)
 | .iter mb _ _ _=>[.mp mb]
def Blk.on:Blk→Bool
 | .gone=>false
 | _=>true
def Blk.fz:Blk→Bool
 | .row _ _ _ fz=>fz
 | _=>false
abbrev Mem:=List (Option Blk)
def Live(mem:Mem)(i:Nat):Prop:=∃ b,mem[i]? = some (some b)
structure Ext(mem mem':Mem):Prop where
 len:mem.length≤mem'.length
 live:∀ i,Live mem i→Live mem' i
 old:∀ (i:Nat) (r:Rnd),mem'[i]? = some (some (Blk.rnd r))→∃ r',mem[i]? = some (some (Blk.rnd r'))
def Ext.refl(mem:Mem):Ext mem mem:=⟨za _,fun _ h=>h,fun _ r h=>⟨r,h⟩⟩
def Ext.trans{a b c:Mem}(h:Ext a b)(k:Ext b c):Ext a c:=⟨xL h.len k.len,fun i e=>k.live i (h.live i e),fun i r f=>by
 obtain⟨g,d⟩:=k.old i r f;exact h.old i g d⟩
def Live.lt{mem:Mem}{i:Nat}(h:Live mem i):i < mem.length:=by obtain⟨x,a⟩:=h;exact(y6.1 a).1
def RowD(F:Nat→Prop)(w:World)(T:Ty)(l:List T.α)(ds:List Value):Prop :=
 ∀ (i:Nat) (x:T.α),l[i]? = some x→∃ a:List Value,DR F w T x a∧∀ (j:Nat) (d:Value),a[j]? = some d→ds[i*T.n+j]? = some d
structure MapR(B:Loc)(F:Nat→Prop)(w:World)(k:IntKind)(es:List (Int×SV))(p:Nat)(ord:Nat→Nat)(en:Array MapEntry):Prop where
 size:en.size=es.length
 born:∀ (i:Nat) (e:MapEntry),en[i]? = some e→e.born=i
 inv:∃ inv:Nat→Nat,(∀ i,inv (ord i)=i)∧∀ i,ord (inv i)=i
 fix:∀ i,p≤i→ord i=i
 le:p≤es.length
 nd:∀ (i j:Nat) (x y:Int×SV),es[i]? = some x→es[j]? = some y→x.1=y.1→i=j
 ent:∀ (i:Nat) (x:Int×SV),es[i]? = some x→∃ e,en[ord i]? = some e∧e.key=.int k x.1∧VR B F w x.2 e.val
def BlkR[HasP](B:Loc)(F:Nat→Prop)(w:World):Blk→Place→Prop
 | .cells cs t,p=>p.nil=false∧p.off=0∧∃ ds:List Value,w.heap[p.blk]? = some (.cells ds.toArray t (0,0))∧VRs B F w cs ds
 | .row T l t _,p=>(p.nil=true∧l=[])∨(p.nil=false∧p.off=0∧p.len=l.length∧l.length≤p.cap∧
   ∃ ds:List Value,w.heap[p.blk]? = some (.cells ds.toArray t (0,0))∧ds.length=p.cap*T.n∧p.cap≤maxLen∧RowD F w T l ds)
 | .rnd r,p=>p.nil=false∧∃ (fn:FuncId) (d:Array Value) (b:Nat),w.heap[p.blk]? = some (.loop { state:=r.st,pending:=r.pending,fn:=fn,tmps:=d,params:=r.rc.params,assign:=r.rc.assign,body:=r.rc.body,defers:=b })∧
   VRs B F w r.tmps d.toList∧b < p.blk∧w.heap[b]? = some (Obj.deferred (some []))
 | .dead,p=>p.nil=false∧p.blk < w.heap.size
 | .gone,_=>True
 | .map k es n,p=>p.nil=false∧∃ c:Array MapEntry,w.heap[p.blk]? = some (.map c es.length)∧MapR B F w k es n p.ord c
 | .iter mb n seen last,p=>p.nil=false∧∃ a:Array Nat,w.heap[p.blk]? = some (.mapIter (some (B mb).blk) n a n)∧p.off=0∧(∀ i,(B mb).ord i∈a.toList↔i∈seen)∧∀ i,last=some i→a.back? = some ((B mb).ord i)
section
variable {B B':Loc}{F F':Nat→Prop}{w w':World}
def RowD.mono(d:∀ i,F i→F' i)(e:KeepsC F w w'){T:Ty}{l:List T.α}{ds:List Value}(h:RowD F w T l ds):RowD F' w' T l ds:=fun i x f=>by
 obtain⟨a,b,c⟩:=h i x f;exact⟨a,b.mono d e,c⟩
def MapR.mono(g:∀ i,F i→F' i)(j:KeepsC F w w'){k:IntKind}{b:List (Int×SV)}{p:Nat}{a:Nat→Nat}{en:Array MapEntry}(h:MapR B F w k b p a en):MapR B F' w' k b p a en :=
 ⟨h.size,h.born,h.inv,h.fix,h.le,h.nd,fun i x l=>by
  obtain⟨e,c,d,f⟩:=h.ent i x l;exact⟨e,c,d,f.mono g j⟩⟩
def MapR.loc{D:Nat→Prop}(j:∀ i,D i→B' i=B i){k:IntKind}{b:List (Int×SV)}{p:Nat}{a:Nat→Nat}{en:Array MapEntry}(h:MapR B F w k b p a en)(l:∀ s∈b.map (·.2),Bd D s):MapR B' F w k b p a en :=
 ⟨h.size,h.born,h.inv,h.fix,h.le,h.nd,fun i x c=>by
  obtain⟨e,d,f,g⟩:=h.ent i x c;exact⟨e,d,f,g.loc j (l _ (yy.2 ⟨x,xj c,rfl⟩))⟩⟩
def MapR.inj{k:IntKind}{d:List (Int×SV)}{p:Nat}{a:Nat→Nat}{c:Array MapEntry}(h:MapR B F w k d p a c){i j:Nat}(e:a i=a j):i=j:=by
 obtain⟨inv,b,_⟩:=h.inv;rw[←b i,e,b]
def MapR.lt{k:IntKind}{b:List (Int×SV)}{p:Nat}{a:Nat→Nat}{e:Array MapEntry}(h:MapR B F w k b p a e){i:Nat}:a i < b.length↔i < b.length:=by
 constructor
 ·intro d;refine rx fun c=>?_;rw[h.fix i (xL h.le c)]at d;omega
 ·intro d;refine rx fun c=>?_;have:=h.inj (h.fix _ (xL h.le c));omega
def MapR.sur{k:IntKind}{b:List (Int×SV)}{p:Nat}{a:Nat→Nat}{d:Array MapEntry}(h:MapR B F w k b p a d){j:Nat}(e:j < b.length):∃ i,i < b.length∧a i=j:=by
 obtain⟨inv,f,c⟩:=h.inv;exact⟨inv j,h.lt.1 (by rw[c];exact e),c j⟩
def MapR.at{k:IntKind}{c:List (Int×SV)}{p:Nat}{b:Nat→Nat}{f:Array MapEntry}(h:MapR B F w k c p b f){j:Nat}{e:MapEntry}(m:f[j]? = some e):∃ i x,c[i]? = some x∧b i=j∧e.key=.int k x.1∧VR B F w x.2 e.val:=by
 have d:j < c.length:=by rw[←h.size];exact(uE.1 m).1
 obtain⟨i,l,a⟩:=h.sur d;obtain⟨q,g,n,o⟩:=h.ent i _ (zP l);rw[a,m]at g;cases g;exact⟨i,_,zP l,a,n,o⟩
def MapR.push{k:IntKind}{c:List (Int×SV)}{p:Nat}{l:Nat→Nat}{q:Array MapEntry}(h:MapR B F w k c p l q){x:Int×SV}{z:Value}(t:VR B F w x.2 z)(s:∀ e∈c,(x.1==e.1)=false):MapR B F w k (c++[x]) p l (q.push { key:=.int k x.1,val:=z,born:=c.length }):=by
 have f:∀ {i:Nat} {y:Int×SV},(c++[x])[i]? = some y→(i < c.length∧c[i]? = some y)∨(i=c.length∧y=x):=by
  intro i y b;by_cases d:i < c.length
  ·rw[xm d]at b;exact .inl ⟨d,b⟩
  ·rw[wi ω]at b;obtain⟨n,m⟩:=y6.1 b;have o:i-c.length=0:=by simpa using n
   refine .inr ⟨ω,?_⟩;simp only[o,List.getElem_cons_zero]at m;exact m.symm
 have g:∀ {i:Nat} {y:Int×SV},c[i]? = some y→x.1≠y.1:=fun b e=>by
  have:=s _ (xj b);rw[e]at this;simp at this
 refine⟨by simp[h.size],fun i e b=>?_,h.inv,h.fix,by simp;exact Nat.le_succ_of_le h.le,fun i j y z b r e=>?_,fun i y b=>?_⟩
 ·rw[lB]at b;split at b
  ·rename_i a;cases b;exact(by rw[a,h.size])
  ·exact h.born i e b
 ·rcases f b with⟨_,a⟩ | ⟨a,e1⟩<;>rcases f r with⟨_,hj'⟩ | ⟨hj',e2⟩
  ·exact h.nd i j y z a hj' e
  ·subst e2;exact absurd e.symm (g a)
  ·subst e1;exact absurd e (g hj')
  ·omega
 ·rcases f b with⟨d,a⟩ | ⟨a,rfl⟩
  ·obtain⟨e,n,m,o⟩:=h.ent i y a;have:=h.lt.2 d;exact⟨e,by rw[lB,gR (by rw[h.size];omega)];exact n,m,o⟩
  ·subst a;rw[h.fix _ h.le,←h.size];exact⟨_,by rw[lB,gT rfl],rfl,t⟩
def KeepsAt(w w':World)(p:Place):Prop:=w.heap.size≤w'.heap.size∧(p.nil=false→w'.heap[p.blk]? = w.heap[p.blk]?)
def BlkR.mono[HasP](m:∀ i,F i→F' i)(j:KeepsF F w w'){b:Blk}{p:Place}(a:b.on=true→KeepsAt w w' p)(h:BlkR B F w b p):BlkR B F' w' b p:=by
 cases b with
 | gone=>trivial
 | map k E n =>
  have a:=a rfl;obtain⟨c,v,e,f⟩:=h;exact⟨c,v,(a.2 c).trans e,f.mono m j⟩
 | iter mb n seen u =>
  have a:=a rfl;obtain⟨c,o,e,f⟩:=h;exact⟨c,o,(a.2 c).trans e,f⟩
 | cells D t =>
  have a:=a rfl;obtain⟨c,e,ds,f,g⟩:=h;exact⟨c,e,ds,(a.2 c).trans f,g.mono m j⟩
 | row T l t fz =>
  have a:=a rfl;rcases h with h | ⟨c,e,f,g,ds,q,y,A,z⟩
  ·exact .inl h
  ·exact .inr ⟨c,e,f,g,ds,(a.2 c).trans q,y,A,z.mono m j⟩
 | rnd r =>
  have a:=a rfl;obtain⟨c,x,C,s,e,f,g,q⟩:=h;exact⟨c,x,C,s,(a.2 c).trans e,f.mono m j,g,j.d s q⟩
 | dead=>exact⟨h.1,Nat.lt_of_lt_of_le h.2 (a rfl).1⟩
def BlkR.loc[HasP]{D:Nat→Prop}(f:∀ i,D i→B' i=B i){b:Blk}{p:Place}(h:BlkR B F w b p)(g:∀ s∈b.refs,Bd D s):BlkR B' F w b p:=by
 cases b with
 | cells x t =>
  obtain⟨a,c,ds,d,j⟩:=h;exact⟨a,c,ds,d,j.loc f g⟩
 | row T l t fz=>exact h
 | rnd r =>
  obtain⟨a,u,v,o,c,d,j⟩:=h;exact⟨a,u,v,o,c,d.loc f g,j⟩
 | dead=>exact h
 | gone=>trivial
 | map k y n =>
  obtain⟨a,q,c,d⟩:=h;exact⟨a,q,c,d.loc f g⟩
 | iter mb n seen m =>
  have e:B' mb=B mb:=f mb (by have:=g (.mp mb) (by simp[Blk.refs]);cases this with | mp h=>exact h);simp only[BlkR]at h⊢;rw[e];exact h
def BlkR.lt[HasP]{b:Blk}{p:Place}(h:BlkR B F w b p)(d:b.on=true)(e:p.nil=false):p.blk < w.heap.size:=by
 have a:∀ {o:Obj},w.heap[p.blk]? = some o→p.blk < w.heap.size:=fun h=>(uE.1 h).1;cases b with
 | cells m t=>obtain⟨_,_,ds,i,_⟩:=h;exact a i
 | row T l t fz =>
  rcases h with h | ⟨_,_,_,_,ds,j,_⟩
  ·rw[h.1]at e;cases e
  ·exact a j
 | rnd r=>obtain⟨_,v,x,q,c,_⟩:=h;exact a c
 | dead=>exact h.2
 | gone=>cases d
 | map k u n=>obtain⟨_,s,c,_⟩:=h;exact a c
 | iter mb n seen f=>obtain⟨_,g,c,_⟩:=h;exact a c
def IsC(w:World)(i:Nat):Prop:=∃ a t z,w.heap[i]? = some (Obj.cells a t z)
def IsC.keep{i:Nat}(h:IsC w i)(b:w'.heap[i]? = w.heap[i]?):IsC w' i:=by
 obtain⟨a,t,z,h⟩:=h;exact⟨a,t,z,b.trans h⟩
structure FC(F:Nat→Prop)(w:World):Prop where
 c:∀ i,F i→IsC w i
 g:∀ (g j:Nat) (v:Int),(gtab g)[j]? = some v→F g∧w.cell? ⟨g,j,none⟩=some (.int .i64 v)
instance:CoeFun (FC F w) (fun _=>∀ i,F i→IsC w i):=⟨FC.c⟩
def FC.keep(h:FC F w)(d:KeepsC F w w'):FC F w':=⟨fun i b=>(h.c i b).keep (d i b),fun g j v a=>⟨(h.g g j v a).1,(d.cell (h.g g j v a).1 _).trans (h.g g j v a).2⟩⟩
def FC.more(h:FC F w)(b:∀ i,F i→F' i)(c:∀ i,F' i→IsC w i):FC F' w:=⟨c,fun g j v a=>⟨b g (h.g g j v a).1,(h.g g j v a).2⟩⟩
structure RM[HasP](w0:World)(m:Nat)(B:Loc)(F:Nat→Prop)(mem:Mem)(w:World):Prop where
 blk:∀ (i:Nat) (b:Blk),mem[i]? = some (some b)→BlkR B F w b (B i)
 own:∀ (i:Nat) (b:Blk),m≤i→mem[i]? = some (some b)→(B i).nil=false→w0.heap.size≤(B i).blk
 inj:∀ (i j:Nat) (x y:Blk),mem[i]? = some (some x)→mem[j]? = some (some y)→x.on=true→y.on=true→(B i).nil=false→(B j).nil=false→(B i).blk=(B j).blk→i=j
 bd:∀ (i:Nat) (b:Blk),mem[i]? = some (some b)→∀ s∈b.refs,Bd (Live mem) s
 fr:∀ (i:Nat) (b:Blk),mem[i]? = some (some b)→b.on=true→(B i).nil=false→b.fz=false→¬F (B i).blk
 fz:∀ (i:Nat) (b:Blk),mem[i]? = some (some b)→(B i).nil=false→b.fz=true→F (B i).blk
 fc:FC F w
 below:Below w0.heap.size w0 w
def lt_of_some{w:World}{b:Nat}{o:Obj}(h:w.heap[b]? = some o):b < w.heap.size:=(uE.1 h).1
def RM.size[HasP]{w0:World}{m:Nat}{mem:Mem}(h:RM w0 m B F mem w):w0.heap.size≤w.heap.size:=h.below.size
def RM.lt[HasP]{w0:World}{m:Nat}{mem:Mem}(h:RM w0 m B F mem w)(i:Nat)(a:F i):i < w.heap.size:=by
 obtain⟨b,t,z,h⟩:=h.fc i a;exact lt_of_some h
def keepsF_below(b:∀ i,F i→i < w.heap.size)(a:Below w.heap.size w w'):KeepsF F w w':=⟨fun i d=>a.block i (b i d),fun c h=>(a.block c (lt_of_some h)).trans h,a.size⟩
def keepsAt_below{p:Place}(a:p.nil=false→p.blk < w.heap.size)(b:Below w.heap.size w w'):KeepsAt w w' p:=⟨b.size,fun c=>b.block _ (a c)⟩
def Since(F:Nat→Prop)(w w':World):Nat→Prop:=fun i=>F i∨(w.heap.size≤i∧IsC w' i)
def RM.later'[HasP]{w0:World}{m:Nat}{mem:Mem}(h:RM w0 m B F mem w)(a:Below w.heap.size w w'):RM w0 m B F mem w' where
 blk i b hi:=(h.blk i b hi).mono (fun _ h=>h) (keepsF_below h.lt a) fun c=>(keepsAt_below ((h.blk i b hi).lt c) a)
 own:=h.own
 inj:=h.inj
 bd:=h.bd
 fr:=h.fr
 fz:=h.fz
 fc:=h.fc.keep fun i hi=>a.block i (h.lt i hi)
 below:=h.below.trans (a.mono h.size)
def RM.moreF[HasP]{w0:World}{m:Nat}{mem:Mem}(h:RM w0 m B F mem w)(a:∀ i,F i→F' i)(c:∀ i,F' i→IsC w i)
  (d:∀ (i:Nat) (b:Blk),mem[i]? = some (some b)→b.on=true→(B i).nil=false→b.fz=false→¬F' (B i).blk):RM w0 m B F' mem w where
 blk i b hi:=(h.blk i b hi).mono a (KeepsF.refl _ _) fun _=>⟨za _,fun _=>rfl⟩
 own:=h.own
 inj:=h.inj
 bd:=h.bd
 fr:=d
 fz i b hi h1 h2:=a _ (h.fz i b hi h1 h2)
 fc:=h.fc.more a c
 below:=h.below
def RM.later[HasP]{w0:World}{m:Nat}{mem:Mem}(h:RM w0 m B F mem w)(c:Below w.heap.size w w'):RM w0 m B (Since F w w') mem w' :=
 (h.later' c).moreF (fun _ h=>.inl h) (fun i a=>by
  rcases a with a | a
  ·exact(h.later' c).fc i a
  ·exact a.2) fun i b a e d g=>by
  rintro (f | ⟨j,_⟩)
  ·exact h.fr i b a e d g f
  ·have:=(h.blk i b a).lt e d;omega
def upd(B:Loc)(n:Nat)(p:Place):Loc:=fun i=>if i=n then p else B i
def upd_old(B:Loc){n i:Nat}{p:Place}(h:i≠n):upd B n p i=B i:=by simp[upd,h]
def upd_new(B:Loc)(n:Nat)(p:Place):upd B n p n=p:=by simp[upd]
def RM.put[HasP]{w0:World}{m:Nat}{mem mem':Mem}(h:RM w0 m B F mem w)(id:Nat)(o:¬Live mem id)(b:Blk)(p:Place)
  (E:Below w.heap.size w w') (u:b.fz=false) (D:BlkR (upd B id p) F w' b p) (q:p.nil=false→w.heap.size≤p.blk) (t:∀ s∈b.refs,Bd (Live mem') s)
  (c:∀ (i:Nat) (x:Blk),mem'[i]? = some (some x)↔(i≠id∧mem[i]? = some (some x))∨(i=id∧x=b)) :
  RM w0 m (upd B id p) F mem' w':=by
 have a:∀ i,Live mem i→upd B id p i=B i:=fun i f=>upd_old B (fun e=>o (e▸f));have k:∀ i,Live mem i→Live mem' i:=fun i ⟨x,d⟩=>⟨x,(c i x).2 (.inl ⟨fun e=>o (e▸⟨x,d⟩),d⟩)⟩
 have r:=h.later' E;refine⟨?_,?_,?_,?_,?_,?_,r.fc,r.below⟩
 ·intro i x d;rcases (c i x).1 d with⟨f,hx'⟩ | ⟨rfl,rfl⟩
  ·rw[a i ⟨x,hx'⟩];exact(r.blk i x hx').loc a (h.bd i x hx')
  ·rw[upd_new];exact D
 ·intro i x G d g;rcases (c i x).1 d with⟨f,hx'⟩ | ⟨rfl,rfl⟩
  ·rw[a i ⟨x,hx'⟩]at g⊢;exact h.own i x G hx' g
  ·rw[upd_new]at g⊢;exact xL h.size (q g)
 ·intro i j x y d I z A f l e;rcases (c i x).1 d with⟨hi',hx'⟩ | ⟨rfl,rfl⟩<;>rcases (c j y).1 I with⟨hj',hy'⟩ | ⟨rfl,rfl⟩
  ·rw[a i ⟨x,hx'⟩]at f e;rw[a j ⟨y,hy'⟩]at l e;exact h.inj i j x y hx' hy' z A f l e
  ·rw[a i ⟨x,hx'⟩]at f e;rw[upd_new]at l e;have:=(h.blk i x hx').lt z f;have:=q l;omega
  ·rw[a j ⟨y,hy'⟩]at l e;rw[upd_new]at f e;have:=(h.blk j y hy').lt A l;have:=q f;omega
  ·rfl
 ·intro i x d s v;rcases (c i x).1 d with⟨f,hx'⟩ | ⟨rfl,rfl⟩
  ·exact(h.bd i x hx' s v).mono k
  ·exact t s v
 ·intro i x d H g n;rcases (c i x).1 d with⟨f,hx'⟩ | ⟨rfl,rfl⟩
  ·rw[a i ⟨x,hx'⟩]at g⊢;exact h.fr i x hx' H g n
  ·rw[upd_new]at g⊢;intro C;have:=h.lt _ C;have:=q g;omega
 ·intro i x d g n;rcases (c i x).1 d with⟨f,hx'⟩ | ⟨rfl,rfl⟩
  ·rw[a i ⟨x,hx'⟩]at g⊢;exact h.fz i x hx' g n
  ·rw[u]at n;cases n
def get_push(mem:Mem)(x:Blk)(i:Nat)(y:Blk):(mem++[some x])[i]? = some (some y)↔(i≠mem.length∧mem[i]? = some (some y))∨(i=mem.length∧y=x):=by
 by_cases d:i < mem.length
 ·rw[xm d];exact⟨fun h=>.inl ⟨ω,h⟩,fun h=>by rcases h with⟨_,h⟩ | ⟨h,_⟩<;>first | exact h | omega⟩
 ·rw[wi ω];by_cases a:i=mem.length
  ·subst a;simp only[Nat.sub_self,m9,y8.injEq,ne_eq,not_true,false_and,true_and,false_or];exact⟨fun h=>h.symm,fun h=>h.symm⟩
  ·have b:([some x]:Mem)[i-mem.length]? = none:=yn (by simp;omega);have c:mem[i]? = none:=yn ω;rw[b,c];simp[a]
def not_live_end(mem:Mem):¬Live mem mem.length:=fun h=>Nat.lt_irrefl _ h.lt
def live_push'(mem:Mem)(x:Blk):(∀ i,Live mem i→Live (mem++[some x]) i)∧Live (mem++[some x]) mem.length :=
 ⟨fun i ⟨y,hy⟩=>⟨y,(get_push mem x i y).2 (.inl ⟨fun e=>not_live_end mem (e▸⟨y,hy⟩),hy⟩)⟩,⟨x,(get_push mem x _ x).2 (.inr ⟨rfl,rfl⟩)⟩⟩
def live_push(mem:Mem)(x:Blk)(a:∀ r,x≠.rnd r):Ext mem (mem++[some x])∧Live (mem++[some x]) mem.length :=
 ⟨⟨ψ,(live_push' mem x).1,fun i r h=>by
  rcases (get_push mem x i _).1 h with⟨_,h⟩ | ⟨_,h⟩
  ·exact⟨r,h⟩
  ·exact absurd h.symm (a r)⟩,(live_push' mem x).2⟩
def RM.turn[HasP]{w0:World}{m:Nat}{mem:Mem}(h:RM w0 m B F mem w){i:Nat}{b b':Blk}(R:m≤i)(p:mem[i]? = some (some b))(l:b.on=true)(A:b.fz=false)(C:b'.fz=false)
  (u:w'.heap.size=w.heap.size) (t:w'.os=w.os∧w'.tape=w.tape∧w'.output=w.output) (E:(B i).nil=false) (n:∀ k,k≠(B i).blk→w'.heap[k]? = w.heap[k]?)
  (G:w.heap[(B i).blk]?≠some (Obj.deferred (some [])))
  (Q:BlkR B F w' b' (B i)) (D:∀ s∈b'.refs,Bd (Live mem) s):RM w0 m B F (mem.set i (some b')) w':=by
 have o:i < mem.length:=(y6.1 p).1;have I:KeepsF F w w':=⟨fun k P=>n k fun e=>h.fr i b p l E A (e▸P),fun N v=>by rw[n N fun e=>G (e▸v)];exact v,by rw[u];exact za _⟩
 have d:∀ (j:Nat) (x:Blk),(mem.set i (some b'))[j]? = some (some x)→(j≠i∧mem[j]? = some (some x))∨(j=i∧x=b'):=by
  intro j x c;rw[yd]at c;by_cases e:i=j
  ·subst e;simp[o]at c;exact .inr ⟨rfl,c.symm⟩
  ·simp[e]at c;exact .inl ⟨fun O=>e O.symm,c⟩
 have g:∀ j,Live mem j→Live (mem.set i (some b')) j:=fun j ⟨x,c⟩=>by
  by_cases e:i=j
  ·subst e;exact⟨b',by simp[o]⟩
  ·exact⟨x,by rw[yd];simp[e,c]⟩
 refine⟨?_,?_,?_,?_,?_,?_,h.fc.keep I.f,?_⟩
 ·intro j x c;rcases d j x c with⟨hne',hj'⟩ | ⟨rfl,rfl⟩
  ·exact(h.blk j x hj').mono (fun _ h=>h) I fun H=>⟨by rw[u];exact za _,fun a=>n _ fun e=>hne' (h.inj j i x b hj' p H l a E e)⟩
  ·exact Q
 ·intro j x J c a;rcases d j x c with⟨_,hj'⟩ | ⟨rfl,rfl⟩
  ·exact h.own j x J hj' a
  ·exact h.own j b J p a
 ·intro j k x y c q L M a r e;rcases d j x c with⟨_,hj'⟩ | ⟨rfl,rfl⟩<;>rcases d k y q with⟨_,hk''⟩ | ⟨rfl,rfl⟩
  ·exact h.inj j k x y hj' hk'' L M a r e
  ·exact h.inj j k x b hj' p L l a r e
  ·exact h.inj j k b y p hk'' l M a r e
  ·rfl
 ·intro j x c s K;rcases d j x c with⟨_,hj'⟩ | ⟨rfl,rfl⟩
  ·exact(h.bd j x hj' s K).mono g
  ·exact(D s K).mono g
 ·intro j x c H a z;rcases d j x c with⟨_,hj'⟩ | ⟨rfl,rfl⟩
  ·exact h.fr j x hj' H a z
  ·exact h.fr j b p l a A
 ·intro j x c a z;rcases d j x c with⟨_,hj'⟩ | ⟨rfl,rfl⟩
  ·exact h.fz j x hj' a z
  ·rw[C]at z;cases z
 ·exact⟨t.1.trans h.below.os,t.2.1.trans h.below.tape,t.2.2.trans h.below.output,by rw[u];exact h.below.size,fun k q=>by
   rw[n k fun e=>by have:=h.own i b R p E;omega];exact h.below.block k q⟩
def ext_set{mem:Mem}{i:Nat}{x y:Blk}(b:mem[i]? = some (some x))(d:∀ r,y=.rnd r→∃ c,x=.rnd c):Ext mem (mem.set i (some y)):=by
 refine⟨ψ,fun j ⟨z,a⟩=>?_,fun j r a=>?_⟩
 ·by_cases e:i=j
  ·subst e;exact⟨y,by simp[(y6.1 b).1]⟩
  ·exact⟨z,by rw[yd];simp[e,a]⟩
 ·rw[yd]at a;by_cases e:i=j
  ·subst e;simp[(y6.1 b).1]at a;obtain⟨c,h⟩:=d r a;exact⟨c,by rw[b,h]⟩
  ·simp[e]at a;exact⟨r,a⟩
def RM.freeze[HasP]{w0:World}{m:Nat}{mem:Mem}(h:RM w0 m B F mem w){i:Nat}{T:Ty}{l:List T.α}{t:TypeId}(f:mem[i]? = some (some (.row T l t false))):
  RM w0 m B (fun k=>F k∨((B i).nil=false∧k=(B i).blk)) (mem.set i (some (.row T l t true))) w:=by
 have o:i < mem.length:=(y6.1 f).1;have d:∀ (j:Nat) (x:Blk),(mem.set i (some (.row T l t true)))[j]? = some (some x)→(j≠i∧mem[j]? = some (some x))∨(j=i∧x=.row T l t true):=by
  intro j x c;rw[yd]at c;by_cases e:i=j
  ·subst e;simp[o]at c;exact .inr ⟨rfl,c.symm⟩
  ·simp[e]at c;exact .inl ⟨fun I=>e I.symm,c⟩
 have g:∀ j,Live mem j→Live (mem.set i (some (.row T l t true))) j:=(ext_set (y:=.row T l t true) f (fun r h=>by cases h)).live;have A:∀ p,KeepsAt w w p:=fun p=>⟨za _,fun _=>rfl⟩
 refine⟨?_,?_,?_,?_,?_,?_,?_,h.below⟩
 ·intro j x c;rcases d j x c with⟨_,hj'⟩ | ⟨rfl,rfl⟩
  ·exact(h.blk j x hj').mono (fun _ h=>.inl h) (KeepsF.refl _ _) fun _=>(A _)
  ·exact BlkR.mono (b:=.row T l t true) (fun _ h=>.inl h) (KeepsF.refl _ _) (fun _=>A _) (show BlkR B F w (.row T l t true) (B j) from h.blk j (.row T l t false) f)
 ·intro j x C c a;rcases d j x c with⟨_,hj'⟩ | ⟨rfl,rfl⟩
  ·exact h.own j x C hj' a
  ·exact h.own j _ C f a
 ·intro j k x y c z G H a n e;rcases d j x c with⟨_,hj'⟩ | ⟨rfl,rfl⟩<;>rcases d k y z with⟨_,hk''⟩ | ⟨rfl,rfl⟩
  ·exact h.inj j k x y hj' hk'' G H a n e
  ·exact h.inj j k x _ hj' f G rfl a n e
  ·exact h.inj j k _ y f hk'' rfl H a n e
  ·rfl
 ·intro j x c s E;rcases d j x c with⟨_,hj'⟩ | ⟨rfl,rfl⟩
  ·exact(h.bd j x hj' s E).mono g
  ·simp[Blk.refs]at E
 ·intro j x c D a q;rcases d j x c with⟨hne,hj'⟩ | ⟨rfl,rfl⟩
  ·rintro (v | ⟨u,e⟩)
   ·exact h.fr j x hj' D a q v
   ·exact hne (h.inj j i x _ hj' f D rfl a u e)
  ·cases q
 ·intro j x c a q;rcases d j x c with⟨hne,hj'⟩ | ⟨rfl,rfl⟩
  ·exact .inl (h.fz j x hj' a q)
  ·exact .inr ⟨a,rfl⟩
 ·refine h.fc.more (fun _ h=>.inl h) ?_;rintro k (v | ⟨u,rfl⟩)
  ·exact h.fc k v
  ·rcases h.blk i _ f with⟨h1,_⟩ | ⟨_,_,_,_,ds,h4,_⟩
   ·rw[h1]at u;cases u
   ·exact⟨_,_,_,h4⟩
def RM.forget[HasP]{w0:World}{m:Nat}{mem mem':Mem}(h:RM w0 m B F mem w)(e:∀ (i:Nat) (b':Blk),mem'[i]? = some (some b')→∃ b,mem[i]? = some (some b)∧(b'.fz=b.fz∧(b'.on=true→b.on=true))∧(BlkR B F w b (B i)→BlkR B F w b' (B i))∧∀ s∈b'.refs,Bd (Live mem') s):
  RM w0 m B F mem' w where
 blk i b' hb:=by obtain⟨b,a,d,f,g⟩:=e i b' hb;exact f (h.blk i b a)
 own i b' hm hb hn:=by obtain⟨b,a,d,f,g⟩:=e i b' hb;exact h.own i b hm a hn
 inj i j x y hx hy ox oy:=by
  obtain⟨b,a,d,_⟩:=e i x hx;obtain⟨c,k,l,_⟩:=e j y hy;exact h.inj i j b c a k (d.2 ox) (l.2 oy)
 bd i b' hb:=by obtain⟨b,a,d,f,g⟩:=e i b' hb;exact g
 fr i b' hb ho hn hf:=by obtain⟨b,a,d,f,g⟩:=e i b' hb;exact h.fr i b a (d.2 ho) hn (d.1▸hf)
 fz i b' hb hn hf:=by obtain⟨b,a,d,f,g⟩:=e i b' hb;exact h.fz i b a hn (d.1▸hf)
 fc:=h.fc
 below:=h.below
structure SameP(p q:Place):Prop where
 blk:p.blk=q.blk
 off:p.off=q.off
 len:p.len=q.len
 cap:p.cap=q.cap
 nil:p.nil=q.nil
def SameP.val{p q:Place}(h:SameP p q):p.val=q.val:=by simp only[Place.val,h.blk,h.off,h.len,h.cap,h.nil]
def VR.same(c:∀ i,SameP (B' i) (B i)){s:SV}{x:Value}(h:VR B F w s x):VR B' F w s x:=by
 induction h with
 | v x=>exact .v x
 | ptr b o=>rw[←(c b).blk,←(c b).off];exact .ptr b o
 | sl T l v h=>exact .sl T l v h
 | ep T x o b a d z u y=>exact .ep T x o b a d z u y
 | row b=>rw[←(c b).val];exact .row b
 | rp b i n o=>rw[←(c b).blk,←(c b).off];exact .rp b i n o
 | part b p n k v h=>exact .part b p n k v (by unfold PartV at h⊢;rw[(c b).nil,(c b).blk,(c b).off,(c b).cap];exact h)
 | mp b=>rw[←(c b).blk];exact .mp b
 | csl b n k=>rw[←(c b).blk,←(c b).off];exact .csl b n k
 | ptc b p n k v h=>exact .ptc b p n k v (by unfold PtV at h⊢;rw[(c b).nil,(c b).blk,(c b).off,(c b).cap];exact h)
 | agg d ds e _ f=>exact .agg d ds e f
 | tup d ds e _ f=>exact .tup d ds e f
 | fn g t d r q e _ j _ f m=>exact .fn g t d r q e f j m
 | yld i=>rw[←(c i).blk];exact .yld i
 | any x=>exact .any x
def VRs.same(c:∀ i,SameP (B' i) (B i)){ss:List SV}{ds:List Value}(h:VRs B F w ss ds):VRs B' F w ss ds:=⟨h.1,fun i s d a b=>(h.2 i s d a b).same c⟩
def MapR.same(g:∀ i,SameP (B' i) (B i)){k:IntKind}{b:List (Int×SV)}{p:Nat}{a:Nat→Nat}{en:Array MapEntry}(h:MapR B F w k b p a en):MapR B' F w k b p a en :=
 ⟨h.size,h.born,h.inv,h.fix,h.le,h.nd,fun i x j=>by
  obtain⟨e,c,d,f⟩:=h.ent i x j;exact⟨e,c,d,f.same g⟩⟩
def BlkR.same[HasP](g:∀ i,SameP (B' i) (B i)){b:Blk}{p:Place}(q:∀ mb n s l,b=Blk.iter mb n s l→B' mb=B mb)(h:BlkR B F w b p):BlkR B' F w b p:=by
 cases b with
 | cells v t =>
  obtain⟨a,c,ds,d,f⟩:=h;exact⟨a,c,ds,d,f.same g⟩
 | row T l t fz=>exact h
 | rnd r =>
  obtain⟨a,o,u,j,c,d,f⟩:=h;exact⟨a,o,u,j,c,d.same g,f⟩
 | dead=>exact h
 | gone=>trivial
 | map k x n =>
  obtain⟨a,m,c,d⟩:=h;exact⟨a,m,c,d.same g⟩
 | iter mb n seen e =>
  simp only[BlkR]at h⊢;rw[q mb n seen e rfl];exact h
def RM.perm[HasP]{w0:World}{m:Nat}{mem:Mem}(h:RM w0 m B F mem w){b:Nat}{k:IntKind}{L L':List (Int×SV)}{p:Nat}(C:mem[b]? = some (some (.map k L p)))(J:∀ (i mb n:Nat) (s:List Nat) (l:Option Nat),mem[i]? = some (some (Blk.iter mb n s l))→mb≠b)
  (σ τ:Nat→Nat) (H:∀ q,τ (σ q)=q) (U:∀ q,σ (τ q)=q) (u:L'.length=L.length) (f:∀ q,L'[q]? = L[σ q]?) (D:∀ q,L.length≤q→σ q=q) :
  RM w0 m (upd B b { B b with ord:=fun q=>(B b).ord (σ q) }) F (mem.set b (some (.map k L' L'.length))) w:=by
 have E:b < mem.length:=(y6.1 C).1;have d:∀ i,SameP (upd B b { B b with ord:=fun q=>(B b).ord (σ q) } i) (B i):=fun i=>by
  by_cases e:i=b
  ·subst e;rw[upd_new];exact⟨rfl,rfl,rfl,rfl,rfl⟩
  ·rw[upd_old B e];exact⟨rfl,rfl,rfl,rfl,rfl⟩
 have A:∀ (j:Nat) (x:Blk),(mem.set b (some (.map k L' L'.length)))[j]? = some (some x)→(j≠b∧mem[j]? = some (some x))∨(j=b∧x=.map k L' L'.length):=by
  intro j x a;rw[yd]at a;by_cases e:b=j
  ·subst e;simp[E]at a;exact .inr ⟨rfl,a.symm⟩
  ·simp[e]at a;exact .inl ⟨fun Q=>e Q.symm,a⟩
 have c:∀ (j:Nat) (x:Blk),(mem.set b (some (.map k L' L'.length)))[j]? = some (some x)→∃ y,mem[j]? = some (some y)∧y.on=x.on∧y.fz=x.fz:=fun j x a=>by
  rcases A j x a with⟨_,a⟩ | ⟨rfl,rfl⟩
  ·exact⟨x,a,rfl,rfl⟩
  ·exact⟨_,C,rfl,rfl⟩
 have g:∀ j,Live mem j→Live (mem.set b (some (.map k L' L'.length))) j:=(ext_set (y:=.map k L' L'.length) C (fun r h=>by cases h)).live;have G:∀ x∈L',x∈L:=fun x o=>by
  obtain⟨q,K⟩:=mh o;rw[f]at K;exact xj K
 refine⟨fun j x a=>?_,fun j x V a v=>?_,fun i j x y o t Y Z P a e=>?_,fun j x a s M=>?_,fun j x a W v I=>?_,fun j x a v I=>?_,h.fc,h.below⟩
 ·rcases A j x a with⟨hne,hj'⟩ | ⟨rfl,rfl⟩
  ·rw[upd_old B hne];refine(h.blk j x hj').same d fun mb n s l e=>?_;subst e;exact upd_old B (J j mb n s l hj')
  ·rw[upd_new];obtain⟨T,S,R,z⟩:=(h.blk j _ C).same (B':=upd B j { B j with ord:=fun q=>(B j).ord (σ q) }) d (fun _ _ _ _ e=>by cases e);refine⟨T,S,by rw[u];exact R,⟨by rw[u];exact z.size,z.born,?_,fun q K=>?_,za _,fun i j x y o t e=>?_,fun q x o=>?_⟩⟩
   ·obtain⟨inv,i1,X⟩:=z.inv;exact⟨fun q=>τ (inv q),fun q=>by simp only[i1,H],fun q=>by simp only[U,X]⟩
   ·simp only;rw[D q ω];exact z.fix q (by have:=z.le;omega)
   ·rw[f]at o t;have:=z.nd _ _ _ _ o t e;rw[←H i,this,H]
   ·rw[f]at o;exact z.ent _ _ o
 ·obtain⟨y,t,_⟩:=c j x a;rw[(d j).nil]at v;rw[(d j).blk];exact h.own j y V t v
 ·obtain⟨x',N,o1,_⟩:=c i x o;obtain⟨y',O,o2,_⟩:=c j y t;rw[(d i).nil]at P;rw[(d j).nil]at a;rw[(d i).blk,(d j).blk]at e;exact h.inj i j x' y' N O (o1.trans Y) (o2.trans Z) P a e
 ·rcases A j x a with⟨_,hj'⟩ | ⟨rfl,rfl⟩
  ·exact(h.bd j x hj' s M).mono g
  ·refine(h.bd j _ C s ?_).mono g;simp only[Blk.refs]at M⊢;obtain⟨x,o,rfl⟩:=yy.1 M;exact yy.2 ⟨x,G x o,rfl⟩
 ·obtain⟨y,t,o1,o2⟩:=c j x a;rw[(d j).nil]at v;rw[(d j).blk];exact h.fr j y t (o1.trans W) v (o2.trans I)
 ·obtain⟨y,t,o1,o2⟩:=c j x a;rw[(d j).nil]at v;rw[(d j).blk];exact h.fz j y t v (o2.trans I)
def RM.wide[HasP]{w0:World}{m:Nat}{mem:Mem}(h:RM w0 m B F mem w){b:Nat}{k:IntKind}{f:List (Int×SV)}{p p':Nat}(l:mem[b]? = some (some (.map k f p)))(x:p'=f.length):RM w0 m B F (mem.set b (some (.map k f p'))) w:=by
 refine h.forget fun j b' d=>?_;have g:b < mem.length:=(y6.1 l).1;have a:∀ j,Live mem j→Live (mem.set b (some (.map k f p'))) j:=(ext_set (y:=.map k f p') l (fun r h=>by cases h)).live;rw[yd]at d;by_cases e:b=j
 ·subst e;simp[g]at d;subst d;refine⟨_,l,⟨rfl,fun _=>rfl⟩,fun u=>?_,fun s n=>(h.bd b _ l s n).mono a⟩;obtain⟨q,o,t,c⟩:=u;exact⟨q,o,t,c.size,c.born,c.inv,fun i v=>c.fix i (by have:=c.le;omega),ω,c.nd,c.ent⟩
 ·simp[e]at d;exact⟨b',d,⟨rfl,fun h=>h⟩,fun h=>h,fun s n=>(h.bd j b' d s n).mono a⟩
def FreeAt(w0:World)(B:Loc)(F:Nat→Prop)(mem:Mem)(w:World)(k:Nat):Prop :=
 w0.heap.size≤k∧¬F k∧(∀ (i:Nat) (x:Blk),mem[i]? = some (some x)→x.on=true→(B i).nil=false→(B i).blk≠k)∧w.heap[k]?≠some (Obj.deferred (some []))
def live_gone{mem:Mem}{i:Nat}{b:Blk}(a:mem[i]? = some (some b)):∀ j,Live mem j→Live (mem.set i (some .gone)) j:=(ext_set (y:=.gone) a (fun r h=>by cases h)).live
def RM.give[HasP]{w0:World}{m:Nat}{mem:Mem}(h:RM w0 m B F mem w){i:Nat}{T:Ty}{l:List T.α}{t:TypeId}(q:m≤i)(b:mem[i]? = some (some (.row T l t false))):
  RM w0 m B F (mem.set i (some .gone)) w∧((B i).nil=false→FreeAt w0 B F (mem.set i (some .gone)) w (B i).blk):=by
 have c:i < mem.length:=(y6.1 b).1;have d:∀ (j:Nat) (x:Blk),(mem.set i (some .gone))[j]? = some (some x)→(j≠i∧mem[j]? = some (some x))∨(j=i∧x=.gone):=by
  intro j x a;rw[yd]at a;by_cases e:i=j
  ·subst e;simp[c]at a;exact .inr ⟨rfl,a.symm⟩
  ·simp[e]at a;exact .inl ⟨fun o=>e o.symm,a⟩
 refine⟨h.forget fun j b' p=>?_,fun f=>⟨h.own i _ q b f,h.fr i _ b rfl f rfl,fun j x a n g e=>?_,?_⟩⟩
 ·rcases d j b' p with⟨_,a⟩ | ⟨rfl,rfl⟩
  ·exact⟨b',a,⟨rfl,fun h=>h⟩,fun h=>h,fun s k=>(h.bd j b' a s k).mono (live_gone b)⟩
  ·exact⟨_,b,⟨rfl,fun h=>by cases h⟩,fun _=>trivial,fun s k=>by cases k⟩
 ·rcases d j x a with⟨hne,a⟩ | ⟨rfl,rfl⟩
  ·exact hne (h.inj j i x _ a b n rfl g f e)
  ·cases n
 ·rcases h.blk i _ b with⟨h1,_⟩ | ⟨_,_,_,_,ds,h4,_⟩
  ·rw[h1]at f;cases f
  ·rw[h4];intro e;cases e
def RM.add[HasP]{w0:World}{m:Nat}{mem:Mem}(h:RM w0 m B F mem w)(q:Option Nat)(b:Blk)(p:Place)
  (t:w'.os=w.os∧w'.tape=w.tape∧w'.output=w.output) (v:w.heap.size≤w'.heap.size) (l:∀ k,k < w.heap.size→some k≠q→w'.heap[k]? = w.heap[k]?)
  (u:∀ k,q=some k→FreeAt w0 B F mem w k) (J:p.nil=false→some p.blk=q∨w.heap.size≤p.blk) (E:b.fz=false)
  (R:BlkR (upd B mem.length p) F w' b p) (C:∀ s∈b.refs,Bd (Live (mem++[some b])) s) :
  RM w0 m (upd B mem.length p) F (mem++[some b]) w'∧KeepsF F w w':=by
 have I:=not_live_end mem;have g:=get_push mem b;have a:∀ i,Live mem i→upd B mem.length p i=B i:=fun i d=>upd_old B (fun e=>I (e▸d));have o:∀ i,Live mem i→Live (mem++[some b]) i:=(live_push' mem b).1;have G:KeepsF F w w':=⟨fun i d=>l i (h.lt i d) fun e=>(u i e.symm).2.1 d,fun L D=>(l L (lt_of_some D) fun e=>(u L e.symm).2.2.2 D).trans D,v⟩
 refine⟨⟨?_,?_,?_,?_,?_,?_,h.fc.keep G.f,⟨t.1.trans h.below.os,t.2.1.trans h.below.tape,t.2.2.trans h.below.output,xL h.size v,fun k H=>?_⟩⟩,G⟩
 ·intro i x n;rcases (g i x).1 n with⟨d,hx'⟩ | ⟨rfl,rfl⟩
  ·rw[a i ⟨x,hx'⟩];exact((h.blk i x hx').mono (fun _ h=>h) G fun r=>⟨v,fun c=>l _ ((h.blk i x hx').lt r c) fun e=>(u _ e.symm).2.2.1 i x hx' r c rfl⟩).loc a (h.bd i x hx')
  ·rw[upd_new];exact R
 ·intro i x S n c;rcases (g i x).1 n with⟨d,hx'⟩ | ⟨rfl,rfl⟩
  ·rw[a i ⟨x,hx'⟩]at c⊢;exact h.own i x S hx' c
  ·rw[upd_new]at c⊢;rcases J c with e | e
   ·exact(u _ e.symm).1
   ·exact xL h.size e
 ·have key:∀ (i:Nat) (x:Blk),mem[i]? = some (some x)→x.on=true→(B i).nil=false→p.nil=false→(B i).blk≠p.blk:=by
   intro i x n r c K e;rcases J K with M | M
   ·exact(u _ M.symm).2.2.1 i x n r c e
   ·have:=(h.blk i x n).lt r c;omega
  intro i j x y n T O P d z e;rcases (g i x).1 n with⟨hi',hx'⟩ | ⟨rfl,rfl⟩<;>rcases (g j y).1 T with⟨hj',hy'⟩ | ⟨rfl,rfl⟩
  ·rw[a i ⟨x,hx'⟩]at d e;rw[a j ⟨y,hy'⟩]at z e;exact h.inj i j x y hx' hy' O P d z e
  ·rw[a i ⟨x,hx'⟩]at d e;rw[upd_new]at z e;exact absurd e (key i x hx' O d z)
  ·rw[a j ⟨y,hy'⟩]at z e;rw[upd_new]at d e;exact absurd e.symm (key j y hy' P z d)
  ·rfl
 ·intro i x n s N;rcases (g i x).1 n with⟨d,hx'⟩ | ⟨rfl,rfl⟩
  ·exact(h.bd i x hx' s N).mono o
  ·exact C s N
 ·intro i x n r c A;rcases (g i x).1 n with⟨d,hx'⟩ | ⟨rfl,rfl⟩
  ·rw[a i ⟨x,hx'⟩]at c⊢;exact h.fr i x hx' r c A
  ·rw[upd_new]at c⊢;rcases J c with e | e
   ·exact(u _ e.symm).2.1
   ·intro Q;have:=h.lt _ Q;omega
 ·intro i x n c A;rcases (g i x).1 n with⟨d,hx'⟩ | ⟨rfl,rfl⟩
  ·rw[a i ⟨x,hx'⟩]at c⊢;exact h.fz i x hx' c A
  ·rw[E]at A;cases A
 ·have:=h.size;rw[l k ω fun e=>by have:=(u k e.symm).1;omega];exact h.below.block k H
end
end Go.Q
namespace Go.Rx
open Go Go.RowKit
def freeD:Nat→Value→Bool
 | _,.bool _=>true
 | _,.int _ _=>true
 | _,.float _ _=>true
 | _,.complex _ _ _=>true
 | _,.string _=>true
 | _,.nilFunc=>true
 | _,.nilIface=>true
 | _,.pointer none=>true
 | _,.slice none _ _=>true
 | d+1,.agg cs=>cs.toList.all (freeD d)
 | d+1,.tuple vs=>vs.toList.all (freeD d)
 | d+1,.func _ f c=>f.toList.all (freeD d)&&c.toList.all (freeD d)
 | d+1,.iface _ v=>freeD d v
 | _,_=>false
def free(v:Value):Bool:=freeD 5 v
abbrev Loc:=Nat→Nat×Nat
def relA(B:Loc)(a:Addr):Addr:=⟨(B a.block).1,(B a.block).2+a.off,a.spot⟩
def rel(B:Loc)(x:Value):Value:=match x with
 | .pointer (some a)=>.pointer (some (relA B a))
 | .slice (some a) l c=>.slice (some (relA B a)) l c
 | .agg b=>.agg (b.attach.map fun v=>rel B v.1)
 | .tuple e=>.tuple (e.attach.map fun v=>rel B v.1)
 | .func d f c=>.func d (f.attach.map fun v=>rel B v.1) (c.attach.map fun v=>rel B v.1)
 | .iface t u=>.iface t (rel B u)
 | u=>u
termination_by SizeOf.sizeOf x
decreasing_by
 all_goals simp_wf
 all_goals first | omega | (have h:=Array.sizeOf_lt_of_mem v.2;omega)
section
variable (B:Loc)
@[simp] theorem rel_int (k : IntKind) (n : Int) : rel B (.int k n) = .int k n := by rw [rel]; all_goals simp
@[simp] theorem rel_string (s : ByteArray) : rel B (.string s) = .string s := by rw [rel]; all_goals simp
@[simp] theorem rel_agg (a : Array Value) : rel B (.agg a) = .agg (a.map (rel B)) := by rw [rel]; simp
@[simp] theorem rel_tuple (a : Array Value) : rel B (.tuple a) = .tuple (a.map (rel B)) := by rw [rel]; simp
@[simp] theorem rel_func (a : Fn) (f c : Array Value) : rel B (.func a f c) = .func a (f.map (rel B)) (c.map (rel B)) := by rw [rel]; simp
@[simp] theorem rel_iface (t : TypeId) (v : Value) : rel B (.iface t v) = .iface t (rel B v) := by rw [rel]
@[simp] theorem rel_undef : rel B undef = undef := by simp [undef]
end
def map_id_of{f:Value→Value}(l:List Value)(h:∀ v∈l,f v=v):l.map f=l:=by
 induction l with
 | nil=>rfl
 | cons x xs b=>simp only[rz,h x (uL ..),b (fun v a=>h v (s9 _ a))]
def amap_id_of{f:Value→Value}(l:Array Value)(h:∀ v∈l.toList,f v=v):l.map f=l:=by
 apply uk;rw[rA];exact map_id_of _ h
def rel_freeD(B:Loc):∀ (d:Nat) (v:Value),freeD d v=true→rel B v=v:=by
 intro d
 induction d with
 | zero =>
  intro v h;cases v with
  | pointer a=>cases a with
   | none=>rw[rel];all_goals simp
   | some a=>exact absurd h (by simp[freeD])
  | slice a _ _=>cases a with
   | none=>rw[rel];all_goals simp
   | some a=>exact absurd h (by simp[freeD])
  | agg _=>exact absurd h (by simp[freeD])
  | tuple _=>exact absurd h (by simp[freeD])
  | func _ _ _=>exact absurd h (by simp[freeD])
  | iface _ _=>exact absurd h (by simp[freeD])
  | _=>rw[rel];all_goals simp
 | succ d e =>
  intro v h;cases v with
  | agg g=>simp only[freeD,ym]at h;rw[rel_agg,amap_id_of _ (fun v b=>e v (h v b))]
  | tuple g=>simp only[freeD,ym]at h;rw[rel_tuple,amap_id_of _ (fun v b=>e v (h v b))]
  | func i f c =>
   simp only[freeD,zm,ym]at h;rw[rel_func,amap_id_of _ (fun v b=>e v (h.1 v b)),amap_id_of _ (fun v b=>e v (h.2 v b))]
  | iface t v=>simp only[freeD]at h;rw[rel_iface,e v h]
  | pointer a=>cases a with
   | none=>rw[rel];all_goals simp
   | some a=>exact absurd h (by simp[freeD])
  | slice a _ _=>cases a with
   | none=>rw[rel];all_goals simp
   | some a=>exact absurd h (by simp[freeD])
  | _=>rw[rel];all_goals simp
def rel_free(B:Loc){v:Value}(h:free v=true):rel B v=v:=rel_freeD B 5 v h
def pureRun{α:Type}(P:Program):Sem α→Option α
 | .pure a=>some a
 | .program k=>pureRun P (k P)
 | .mark _ k=>pureRun P k
 | _=>none
def pureRun_run{α:Type}(P:Program):∀ (s:Sem α) (a:α),pureRun P s=some a→∀ w,s.run P w=.ok a w:=by
 intro s
 induction s with
 | pure a=>intro b h w;simp only[pureRun,y8.injEq]at h;subst h;rfl
 | program k c=>intro b h w;simp only[pureRun]at h;simp only[Sem.run];exact c P b h w
 | mark m k c=>intro b h w;simp only[pureRun]at h;simp only[Sem.run];exact c b h w
 | _=>intro b h w;simp[pureRun]at h
abbrev Mem:=List (Option (List Value×TypeId))
def Bd(D:Nat→Prop)(v:Value):Prop:=∀ B B':Loc,(∀ i,D i→B i=B' i)→rel B v=rel B' v
def okOp:Operand→Bool
 | .tmp _=>true
 | .const v=>free v
 | .func _=>true
 | .global _=>false
def ev(ts:List Value):Operand→Value
 | .tmp t=>ts.getD t undef
 | .const v=>v
 | .func f=>.func (.func f) #[] #[]
 | .global _=>undef
def aggD:TypeDesc→Bool
 | .struct _=>true
 | .array _ _=>true
 | _=>false
def sizeE(P:Program)(t:TypeId):Option Nat:=(P.info? t).map (·.size)
def isSel:Op→Bool
 | .select _ _=>true
 | _=>false
def pureE(P:Program)(ts:List Value)(o:Oper):Option Value :=
 if o.op.operands.toList.all (fun x=>okOp x&&free (ev ts x))&&!isSel o.op then
  match pureRun P (execOp (ev ts) o)with
  | some (.value v)=>if free v then some v else none
  | _=>none
 else none
section
variable {P:Program}{w0 w:World}{m:Nat}{B:Loc}{mem mem':Mem}{ts:List Value}{a:Act}{o:Oper}{v:Value}
def ev_rel(c:a.tmps=(ts.map (rel B)).toArray){x:Operand}(b:okOp x=true):a.eval x=rel B (ev ts x):=by
 cases x with
 | tmp t =>
  simp only[ev,Act.eval,c,sP,oE,yz,vf];cases ts[t]? <;> simp
 | const v=>exact(rel_free B b).symm
 | func f=>simp[ev,Act.eval]
 | global g=>simp[okOp]at b
def run_sizeOf{t:TypeId}{n:Nat}(h:sizeE P t=some n):(sizeOf t).run P w=.ok n w:=by
 unfold sizeE at h;cases a:P.info? t with
 | none=>simp[a]at h
 | some i=>simp[a]at h;simp[sizeOf,typeInfo,a,h]
def run_isAgg{t:TypeId}{d:TypeDesc}(h:P.underlying t=some d):(isAgg t).run P w=.ok (aggD d) w:=by
 unfold isAgg;rw[Sem.run_bind,run_underlying h w];cases d<;>rfl
def run_v{s:Sem Value}{u:Value}{w':World}(h:s.run P w=.ok u w'):(do pure (Next.value (←s)):Sem Next).run P w=.ok (.value u) w':=by
 rw[Sem.run_bind,h];rfl
def run_u{s:Sem Unit}{w':World}(h:s.run P w=.ok () w'):(do s;pure Next.skip:Sem Next).run P w=.ok .skip w':=by
 rw[Sem.run_bind,h];rfl
def pureE_sound(l:a.tmps=(ts.map (rel B)).toArray)(h:pureE P ts o=some v):(execOp a.eval o).run P w=.ok (.value (rel B v)) w∧free v=true:=by
 unfold pureE at h;split at h
 ·rename_i g;simp only[zm,ym,qq]at g;obtain⟨d,c⟩:=g;split at h
  ·rename_i u m;split at h
   ·rename_i i;cases h;refine⟨?_,i⟩;have f:execOp a.eval o=execOp (ev ts) o:=execOp_congr o (fun p b e=>by rw[e]at c;simp[isSel]at c) (fun x n=>by
     obtain⟨j,k⟩:=d x (by simpa using n);rw[ev_rel l j,rel_free B k])
    rw[f,pureRun_run P _ _ m w,rel_free B i]
   ·cases h
  ·cases h
 ·cases h
end
open Go.IntKind (i64)
structure TE where
 α:Type
 x:Option α
 enc:α→Value
def sIdx(s:ByteArray)(i:Int):Option UInt8:=if 0≤i then s[i.toNat]? else none
def sCat(a b:ByteArray):Option ByteArray:=if((a.size+b.size:Nat):Int) > i64.max then none else some (a++b)
def iQuo(k:IntKind)(a b:Int):Option Int:=if b=0 then none else some (k.wrap (a.tdiv b))
def iShl(k:IntKind)(a b:Int):Option Int:=if 0≤b then some (k.wrap (a*2 ^ min b.toNat k.bits))else none
def iRem(a b:Int):Option Int:=if b=0 then none else some (a.tmod b)
def bnd(i:Option Int)(b a:Nat):Option Nat:=match i with
 | none=>some a
 | some i=>if 0≤i∧i≤b then some i.toNat else none
def sCut(s:ByteArray)(b a:Option Int):Option ByteArray:=(bnd a s.size s.size).bind fun h=>(bnd b h 0).bind fun l=>some (s.extract l h)
def evI(ts:List Value):Option Operand→Option (Option Int)
 | none=>some none
 | some x=>if okOp x then match ev ts x with
  | .int _ i=>some (some i)
  | _=>none else none
def partV(P:Program)(t:TypeId)(b:Array Value)(a:Nat):Option Value :=
 match P.underlying t,sizeE P t with
 | some d,some n=>if aggD d then some (.agg (b.extract a (a+n)))else b[a]?
 | _,_=>none
def eqFs(P:Program)(e:TypeId→Value→Value→Option Bool)(xs c:Array Value):List Field→Option Bool
 | []=>some true
 | f::fs=>if f.name≠ "_" then match partV P f.type xs f.offset,partV P f.type c f.offset with
   | some a,some b=>match e f.type a b,eqFs P e xs c fs with
    | some r,some q=>some (r&&q)
    | _,_=>none
   | _,_=>none
  else eqFs P e xs c fs
def eqE(P:Program):Nat→TypeId→Value→Value→Option Bool
 | 0,_,_,_=>none
 | d+1,t,x,y=>match P.underlying t,x,y with
  | some (.int _),.int k a,.int k' b=>if k=k' then some (a==b)else none
  | some .bool,.bool a,.bool b=>some (a==b)
  | some .string,.string a,.string b=>some (a==b)
  | some (.struct fs),.agg xs,.agg ys=>if P.stoodInHeld t then none else eqFs P (eqE P d) xs ys fs.toList
  | _,_,_=>none
def partE(P:Program)(ts:List Value)(o:Oper):Option TE :=
 match o.op with
 | .index t x c=>if okOp x&&okOp c then
   match P.underlying t,ev ts x,ev ts c with
   | some .string,.string s,.int _ i=>some ⟨UInt8,sIdx s i,fun b=>.int .u8 (b.toNat:Int)⟩
   | _,_,_=>none
  else none
 | .binOp op t x y _=>if okOp x&&okOp y then
   match op,ev ts x,ev ts y with
   | .add,.string a,.string b=>some ⟨ByteArray,sCat a b,.string⟩
   | .quo,.int k a,.int k' b=>if k=k' then some ⟨Int,iQuo k a b,.int k⟩else none
   | .rem,.int k a,.int k' b=>if k=k' then some ⟨Int,iRem a b,.int k⟩else none
   | .shl,.int k a,.int _ b=>some ⟨Int,iShl k a b,.int k⟩
   | .eql,.agg xs,.agg ys=>if P.eqGuardType P.depth t||!(free (.agg xs)&&free (.agg ys))then none else match eqE P 20 t (.agg xs) (.agg ys)with
    | some b=>some ⟨Bool,some b,.bool⟩
    | none=>none
   | .neq,.agg xs,.agg ys=>if P.eqGuardType P.depth t||!(free (.agg xs)&&free (.agg ys))then none else match eqE P 20 t (.agg xs) (.agg ys)with
    | some b=>some ⟨Bool,some (!b),.bool⟩
    | none=>none
   | _,_,_=>none
  else none
 | .slice t x e d none=>if okOp x then
   match P.underlying t,ev ts x,evI ts e,evI ts d with
   | some .string,.string s,some l,some h=>some ⟨ByteArray,sCut s l h,.string⟩
   | _,_,_,_=>none
  else none
 | _=>none
section
variable {P:Program}{w0 w:World}{m:Nat}{B:Loc}{mem mem':Mem}{ts:List Value}{a:Act}{o:Oper}{v:Value}
def run_part{t:TypeId}{e:Array Value}{c:Nat}(h:partV P t e c=some v):(part t e c).run P w=.ok v w:=by
 unfold partV at h;split at h
 ·rename_i d n f g;split at h
  ·rename_i a;cases h;simp only[part,Sem.run_bind,run_isAgg f,Result.andThen_ok,a,if_true,run_sizeOf g,Sem.run_pure]
  ·rename_i a;have b:aggD d=false:=by simpa using a
   simp only[part,Sem.run_bind,run_isAgg f,Result.andThen_ok,b,zg,if_false,h,Sem.run_pure]
 ·cases h
def eqFs_sound{e:TypeId→Value→Value→Option Bool}{d:Nat}(g:∀ t x y r,e t x y=some r→∀ w,(Op.equalIn d t x y).run P w=.ok r w)(xs c:Array Value):
  ∀ (a:List Field) (r:Bool),eqFs P e xs c a=some r→∀ w,(Op.eqFields d xs c a).run P w=.ok r w
 | [],r,h,w=>by simp only[eqFs,y8.injEq]at h;subst h;rfl
 | f::a,r,h,w=>by
  simp only[eqFs]at h;simp only[Op.eqFields];split at h
  ·rename_i i;rw[gT i];split at h
   ·rename_i x y l m;split at h
    ·rename_i b q j k;cases h;simp only[Sem.run_bind,run_part l,Result.andThen_ok,run_part m,g _ _ _ _ j];cases b with
     | false=>simp
     | true=>simpa using eqFs_sound g xs c a q k w
    ·cases h
   ·cases h
  ·rename_i i;rw[gR i];exact eqFs_sound g xs c a r h w
def eqE_sound:∀ (d D:Nat),d≤D→∀ (t:TypeId) (x y:Value) (r:Bool),eqE P d t x y=some r→∀ w,(Op.equalIn D t x y).run P w=.ok r w
 | 0,_,_,_,_,_,_,h,_=>by cases h
 | d+1,0,hD,_,_,_,_,_,_=>ω
 | d+1,D+1,hD,t,x,y,r,h,w=>by
  simp only[eqE]at h;split at h
  ·rename_i a;split at h
   ·rename_i e;cases h;simp[Op.equalIn,run_underlying a,e]
   ·cases h
  ·rename_i a;cases h;simp[Op.equalIn,run_underlying a]
  ·rename_i a;cases h;simp[Op.equalIn,run_underlying a]
  ·rename_i fs xs c a;split at h
   ·cases h
   ·rename_i f;have b:P.fieldsOf t=fs:=by simp[Program.fieldsOf,a]
    rw[run_equalIn_struct w D t xs c (by rw[b];exact a) (by simpa using f),b];exact eqFs_sound (fun t x y r g w=>eqE_sound d D ω t x y r g w) xs c fs.toList r h w
  ·cases h
def run_bnd{x:Value}{k:IntKind}{i:Int}{a q:Nat}{c:BoundsCode}(d:x=.int k i)(h:bnd (some i) a 0=some q):(Instr.sliceBound x a c).run P w=.ok q w:=by
 unfold bnd at h;simp only at h;split at h
 ·rename_i b;cases h;simp[Instr.sliceBound,d,asIntOf,b]
 ·cases h
def evI_spec(d:a.tmps=(ts.map (rel B)).toArray){x:Option Operand}{r:Option Int}(h:evI ts x=some r):
  (x=none∧r=none)∨∃ y i k,x=some y∧r=some i∧a.eval y=.int k i:=by
 unfold evI at h;cases x with
 | none=>cases h;exact .inl ⟨rfl,rfl⟩
 | some y =>
  simp only at h;split at h
  ·rename_i e;have c:=ev_rel d e;split at h
   ·rename_i k i b;cases h;rw[b,rel_int]at c;exact .inr ⟨y,_,_,rfl,rfl,c⟩
   ·cases h
  ·cases h
def partE_sound(z:a.tmps=(ts.map (rel B)).toArray){T:TE}(h:partE P ts o=some T){y:T.α}(d:T.x=some y):
  (execOp a.eval o).run P w=.ok (.value (T.enc y)) w∧free (T.enc y)=true:=by
 unfold partE at h;split at h
 ·rename_i t x U f;split at h
  ·rename_i j;simp only[zm]at j;have m:=ev_rel z j.1;have hix:=ev_rel z j.2;split at h
   ·rename_i s kd i I n r;cases h;rw[n,rel_string]at m;rw[r,rel_int]at hix;refine⟨?_,rfl⟩;simp only[execOp,f,m,hix];refine run_v ?_;simp only[sIdx]at d;simp only[Instr.index,asIntOf,Sem.run_bind,Sem.run_pure,Result.andThen_ok,run_underlying I,d]
   ·cases h
  ·cases h
 ·rename_i op t x L V f;split at h
  ·rename_i j;simp only[zm]at j;have m:=ev_rel z j.1;have e:=ev_rel z j.2;split at h
   ·rename_i p q n r;cases h;rw[n,rel_string]at m;rw[r,rel_string]at e;refine⟨?_,rfl⟩;simp only[execOp,f,m,e];refine run_v ?_;simp only[sCat]at d;split at d
    ·cases d
    ·rename_i E;cases d;have F:i64.max=9223372036854775807:=δ;rw[F]at E;have A:(p.size:Int)+(q.size:Int)≤9223372036854775807:=ω;simp[eqGuard,binOp,Op.stringOp,A]
   ·rename_i k p K q n r;split at h
    ·rename_i H;cases h;subst H;rw[n,rel_int]at m;rw[r,rel_int]at e;refine⟨?_,rfl⟩;simp only[execOp,f,m,e];refine run_v ?_;simp only[iQuo]at d;split at d
     ·cases d
     ·rename_i E;cases d;simp[eqGuard,binOp,Op.intDiv,E]
    ·cases h
   ·rename_i k p K q n r;split at h
    ·rename_i H;cases h;subst H;rw[n,rel_int]at m;rw[r,rel_int]at e;refine⟨?_,rfl⟩;simp only[execOp,f,m,e];refine run_v ?_;simp only[iRem]at d;split at d
     ·cases d
     ·rename_i E;cases d;simp[eqGuard,binOp,Op.intDiv,E]
    ·cases h
   ·rename_i k p K q n r;cases h;rw[n,rel_int]at m;rw[r,rel_int]at e;refine⟨?_,rfl⟩;simp only[execOp,f,m,e];refine run_v ?_;simp only[iShl]at d;split at d
    ·rename_i E;cases d;have A:¬q < 0:=ω;simp[eqGuard,binOp,Op.shift,A]
    ·cases d
   ·rename_i xs J n r;split at h
    ·cases h
    ·rename_i g;simp only[se,qq,oF,not_or,mi,ia]at g;obtain⟨g,C,D⟩:=g;split at h
     ·rename_i b G;cases h;cases d;rw[n,rel_free B C]at m;rw[r,rel_free B D]at e;refine⟨?_,rfl⟩;simp only[execOp,f,m,e];refine run_v ?_;rw[Sem.run_bind,run_eqGuard_agg w _ t x L xs J g,Result.andThen_ok,run_eql_struct,eqE_sound 20 10000 ω t _ _ b G w];rfl
     ·cases h
   ·rename_i xs J n r;split at h
    ·cases h
    ·rename_i g;simp only[se,qq,oF,not_or,mi,ia]at g;obtain⟨g,C,D⟩:=g;split at h
     ·rename_i b G;cases h;cases d;rw[n,rel_free B C]at m;rw[r,rel_free B D]at e;refine⟨?_,rfl⟩;simp only[execOp,f,m,e];refine run_v ?_;rw[Sem.run_bind,run_eqGuard_agg w _ t x L xs J g,Result.andThen_ok,run_neq_struct,eqE_sound 20 10000 ω t _ _ b G w];rfl
     ·cases h
   ·cases h
  ·cases h
 ·rename_i t x R O f;split at h
  ·rename_i j;have m:=ev_rel z j;split at h
   ·rename_i s l S I n r M;cases h;rw[n,rel_string]at m;refine⟨?_,rfl⟩;simp only[execOp,f,m];refine run_v ?_;simp only[sCut]at d;obtain⟨Q,u,d⟩:=vB.1 d;obtain⟨lv,v,d⟩:=vB.1 d;cases d;have key:(Instr.sliceBounds false s.size s.size (R.map a.eval) (O.map a.eval) none).run P w=.ok (lv,Q,s.size) w:=by
     unfold Instr.sliceBounds;rcases evI_spec z r with⟨rfl,rfl⟩ | ⟨lx,li,lk,rfl,rfl,hle⟩<;>rcases evI_spec z M with⟨rfl,rfl⟩ | ⟨hx',hi',hk',rfl,rfl,hhe⟩
     ·simp only[bnd,y8.injEq]at u v;subst u v;simp
     ·simp only[bnd,y8.injEq]at v;subst v;have:=run_bnd (P:=P) (w:=w) (c:=.sliceAlen) hhe u;simp[this]
     ·simp only[bnd,y8.injEq]at u;subst u;have:=run_bnd (P:=P) (w:=w) (c:=.sliceB) hle v;simp[this]
     ·have F:=run_bnd (P:=P) (w:=w) (c:=.sliceAlen) hhe u;have N:=run_bnd (P:=P) (w:=w) (c:=.sliceB) hle v;simp[F,N]
    simp only[Instr.sliceAt,Sem.run_bind,run_underlying I,Result.andThen_ok,Instr.slice,mj,Option.isSome_none,zg,if_false,Sem.run_pure,key]
   ·cases h
  ·cases h
 ·cases h
end
end Go.Rx
namespace Go.Q
open Go Go.RowKit
def ofVal:Nat→Value→SV
 | d+1,.agg cs=>.agg (cs.toList.map (ofVal d))
 | d+1,.tuple cs=>.tup (cs.toList.map (ofVal d))
 | d+1,.func (.func g) f c=>.fn g (f.toList.map (ofVal d)) (c.toList.map (ofVal d))
 | 0,.agg _=>.any
 | 0,.tuple _=>.any
 | 0,.func (.func _) _ _=>.any
 | _,x=>.v x
def toV:Nat→SV→Option Value
 | _,.v x=>some x
 | d+1,.agg cs=>(cs.mapM (toV d)).map fun l=>.agg l.toArray
 | d+1,.tup cs=>(cs.mapM (toV d)).map fun l=>.tuple l.toArray
 | _,.fn g [] []=>some (.func (.func g) #[] #[])
 | _,_=>none
def SV.cells:SV→Option (List SV)
 | .agg a=>some a
 | .any=>none
 | .v (.agg _)=>none
 | s=>some [s]
def SV.one:SV→Bool
 | .v x=>x.oneCell'
 | .agg _=>false
 | .tup _=>false
 | .any=>false
 | _=>true
section
variable {B:Loc}{F:Nat→Prop}{w:World}
def vr_ofVal:∀ (d:Nat) (x:Value),VR B F w (ofVal d x) x
 | 0,x=>by
  unfold ofVal;split
  all_goals first | (exact .any _) | (exact .v _) | (simp_all;done)
 | d+1,x=>by
  unfold ofVal;split
  ·rename_i j h e;cases e;have:=VR.agg (B:=B) (F:=F) (w:=w) (h.toList.map (ofVal d)) h.toList ψ fun i s y a b=>by
    rw[yz,b]at a;simp at a;subst a;exact vr_ofVal d y
   simpa using this
  ·rename_i j h e;cases e;have:=VR.tup (B:=B) (F:=F) (w:=w) (h.toList.map (ofVal d)) h.toList ψ fun i s y a b=>by
    rw[yz,b]at a;simp at a;subst a;exact vr_ofVal d y
   simpa using this
  ·rename_i j g f c e;cases e;have:=VR.fn (B:=B) (F:=F) (w:=w) g (f.toList.map (ofVal d)) (c.toList.map (ofVal d)) f.toList c.toList ψ (fun i s y a b=>by
    rw[yz,b]at a;simp at a;subst a;exact vr_ofVal d y) ψ (fun i s y a b=>by
    rw[yz,b]at a;simp at a;subst a;exact vr_ofVal d y)
   simpa using this
  all_goals first | (exact .any _) | (exact .v _) | (simp_all;done)
def bd_ofVal{D:Nat→Prop}:∀ (d:Nat) (x:Value),Bd D (ofVal d x)
 | 0,x=>by
  unfold ofVal;split
  all_goals first | (exact .any) | (exact .v _) | (simp_all;done)
 | d+1,x=>by
  unfold ofVal;split
  ·rename_i b h e;cases e;exact .agg fun s a=>by obtain⟨y,_,rfl⟩:=yy.1 a;exact bd_ofVal d y
  ·rename_i b h e;cases e;exact .tup fun s a=>by obtain⟨y,_,rfl⟩:=yy.1 a;exact bd_ofVal d y
  ·rename_i b g f c e;cases e;exact .fn (fun s a=>by obtain⟨y,_,rfl⟩:=yy.1 a;exact bd_ofVal d y) (fun s a=>by obtain⟨y,_,rfl⟩:=yy.1 a;exact bd_ofVal d y)
  all_goals first | (exact .any) | (exact .v _) | (simp_all;done)
def toVs_eq{f:SV→Option Value}:∀ {a:List SV} {l:List Value} {ds:List Value},a.mapM f=some l→VRs B F w a ds→(∀ s x d,f s=some x→VR B F w s d→d=x)→ds=l
 | [],l,ds,h,hv,_=>by
  simp at h;subst h;have:=hv.1;simp at this;exact wc.1 this.symm
 | s::a,l,ds,h,hv,hf=>by
  rw[List.mapM_cons]at h;cases b:f s with
  | none=>rw[b]at h;cases h
  | some x =>
   rw[b]at h;cases c:a.mapM f with
   | none=>rw[c]at h;cases h
   | some j =>
    rw[c]at h;cases h;obtain⟨d,e,rfl,g,i⟩:=hv.head;rw[hf s x d b g,toVs_eq c i hf]
def toV_eq:∀ {d:Nat} {s:SV} {x y:Value},toV d s=some x→VR B F w s y→y=x
 | 0,s,x,y,h,b=>by
  unfold toV at h;split at h
  ·cases h;cases b;rfl
  ·simp_all
  ·simp_all
  ·cases h;cases b with | fn _ _ _ j c a _ m _ =>
    have g:j=[]:=by simpa using a.symm
    have i:c=[]:=by simpa using m.symm
    subst g;subst i;rfl
  ·cases h
 | d+1,s,x,y,h,b=>by
  unfold toV at h;split at h
  ·cases h;cases b;rfl
  ·rename_i o f e;cases e;cases a:f.mapM (toV d)with
   | none=>rw[a]at h;cases h
   | some l =>
    rw[a]at h;cases h;obtain⟨ds,rfl,k⟩:=VRs.of_vr_agg b;rw[toVs_eq a k fun s x y n b=>toV_eq n b]
  ·rename_i o f e;cases e;cases a:f.mapM (toV d)with
   | none=>rw[a]at h;cases h
   | some l =>
    rw[a]at h;cases h;obtain⟨ds,rfl,k⟩:=VRs.of_vr_tup b;rw[toVs_eq a k fun s x y n b=>toV_eq n b]
  ·cases h;cases b with | fn _ _ _ j c a _ m _ =>
    have g:j=[]:=by simpa using a.symm
    have i:c=[]:=by simpa using m.symm
    subst g;subst i;rfl
  ·cases h
def place_val(p:Place):p.val.cells.toList=[p.val]∧p.val.oneCell'=true:=by
 unfold Place.val;cases p.nil<;>exact⟨rfl,rfl⟩
def VR.cells{s:SV}{x:Value}(h:VR B F w s x){f:List SV}(d:s.cells=some f):VRs B F w f x.cells.toList:=by
 cases h with
 | v x =>
  cases x with
  | agg _=>cases d
  | _=>cases d;exact .cons (.v _) .nil
 | ptr b o=>cases d;exact .cons (.ptr b o) .nil
 | sl T l u h =>
  cases d;have:x.cells.toList=[x]:=by
   obtain⟨C,e,h⟩:=h;cases e;rcases h with⟨_,q,rfl⟩ | ⟨b,o,cap,rfl,_⟩<;>rfl
  rw[this];exact .cons (.sl T l x h) .nil
 | ep T x o b a f j m p=>cases d;exact .cons (.ep T x o b a f j m p) .nil
 | row b=>cases d;rw[(place_val _).1];exact .cons (.row b) .nil
 | rp b i n o=>cases d;exact .cons (.rp b i n o) .nil
 | agg f ds j m=>cases d;exact⟨by simpa [Value.cells]using j,by simpa [Value.cells]using m⟩
 | tup f ds j m=>cases d;exact .cons (.tup f ds j m) .nil
 | fn g z f y t j m p A=>cases d;exact .cons (.fn g z f y t j m p A) .nil
 | yld i=>cases d;exact .cons (.yld i) .nil
 | part b r n k v h =>
  cases d;have:x.cells.toList=[x]:=by
   rcases h with⟨_,_,_,rfl⟩ | ⟨_,a,c,rfl,_⟩<;>rfl
  rw[this];exact .cons (.part b r n k x h) .nil
 | mp b=>cases d;exact .cons (.mp b) .nil
 | csl b n k=>cases d;exact .cons (.csl b n k) .nil
 | ptc b r n k v h =>
  cases d;have:x.cells.toList=[x]:=by obtain⟨_,c,rfl,_⟩:=h;rfl
  rw[this];exact .cons (.ptc b r n k x h) .nil
 | any x=>cases d
def bd_cells{D:Nat→Prop}{s:SV}(h:Bd D s){d:List SV}(b:s.cells=some d):∀ c∈d,Bd D c:=by
 cases s with
 | agg e=>cases b;exact h.of_agg
 | any=>cases b
 | v x =>
  cases x with
  | agg _=>cases b
  | _=>cases b;intro c a;simp at a;subst a;exact h
 | _=>cases b;intro c a;simp at a;subst a;exact h
def VR.one{s:SV}{x:Value}(h:VR B F w s x)(d:s.one=true):x.oneCell'=true:=by
 cases h with
 | v x=>exact d
 | sl T l v h =>
  obtain⟨g,e,h⟩:=h;cases e;rcases h with⟨_,q,rfl⟩ | ⟨b,o,cap,rfl,_⟩<;>rfl
 | row b=>exact(place_val _).2
 | part b f n k v h=>rcases h with⟨_,_,_,rfl⟩ | ⟨_,a,c,rfl,_⟩<;>rfl
 | ptc b f n k v h=>obtain⟨_,c,rfl,_⟩:=h;rfl
 | agg _ _ _ _=>cases d
 | tup _ _ _ _=>cases d
 | any x=>cases d
 | _=>rfl
end
def okOp:Operand→Bool
 | .global _=>false
 | _=>true
def ev(ts:List SV):Operand→SV
 | .tmp t=>ts.getD t .any
 | .const v=>ofVal 5 v
 | .func f=>.fn f [] []
 | .global _=>.any
section
variable {B:Loc}{F:Nat→Prop}{w:World}{ts:List SV}{a:Act}
def ev_vr(c:VRs B F w ts a.tmps.toList){x:Operand}(j:okOp x=true):VR B F w (ev ts x) (a.eval x):=by
 cases x with
 | tmp t =>
  simp only[ev,Act.eval,vf];cases h:ts[t]? with
  | none=>exact .any _
  | some s =>
   obtain⟨d,b,e⟩:=c.get h;have:a.tmps.getD t undef=d:=by
    rw[vi]at b;simp[sP,b]
   rw[this];exact e
 | const v=>exact vr_ofVal 5 v
 | func f=>exact .fn f [] [] [] [] rfl (fun i s d h=>by simp at h) rfl (fun i s d h=>by simp at h)
 | global g=>simp[okOp]at j
def ev_bd{D:Nat→Prop}(a:∀ s∈ts,Bd D s)(x:Operand):Bd D (ev ts x):=by
 cases x with
 | tmp t =>
  simp only[ev,vf];cases h:ts[t]? with
  | none=>exact .any
  | some v=>exact a v (xj h)
 | const v=>exact bd_ofVal 5 v
 | func f=>exact .fn (fun s b=>by cases b) (fun s b=>by cases b)
 | global g=>exact .any
end
inductive Res where
 | det (s:SV) (mem:Mem)
 | part (α:Type) (x:Option α) (out:α→SV×Mem)
 | alt (c:Bool) (x y:Res)
 | bnd (α:Type) (x:Option α) (out:α→Res)
def Res.Out:Res→SV→Mem→Prop
 | .det s0 m0,s,m=>s=s0∧m=m0
 | .part α x out,s,m=>∃ y,x=some y∧out y=(s,m)
 | .alt c x y,s,m=>(c=true∧x.Out s m)∨(c=false∧y.Out s m)
 | .bnd α x out,s,m=>∃ y,x=some y∧(out y).Out s m
def vals(ts:List SV):List Value:=ts.map fun s=>(toV 4 s).getD undef
def flatOps(ts:List SV)(o:Oper):Bool:=!Rx.isSel o.op&&o.op.operands.toList.all fun x=>match x with
 | .tmp t=>match toV 4 (ts.getD t .any)with
  | some v=>Rx.free v
  | none=>false
 | .const _=>true
 | _=>false
def sizeE:=Rx.sizeE
def aggD:=Rx.aggD
def takeAgg(d:TypeDesc)(a:List SV)(o n:Nat):Option SV :=
 if aggD d then(if o+n≤a.length then some (.agg ((a.drop o).take n))else none)else a[o]?
def loadE(P:Program)(mem:Mem)(t:TypeId)(s:SV):Option Res :=
 match P.underlying t,sizeE P t with
 | some d,some n=>match s with
  | .ptr b o=>match mem[b]? with
   | some (some (.cells cs _))=>(takeAgg d cs o n).map (.det · mem)
   | _=>none
  | .ep T x o=>(takeAgg d (cellsOf T x) o n).map (.det · mem)
  | .rp b i a o=>match mem[b]? with
   | some (some (.row T l _ _))=>if a=T.n∧o+n≤T.n∧0 < n then some (.part T.α l[i]? fun y=>((takeAgg d (cellsOf T y) o n).getD .any,mem))else none
   | _=>none
  | _=>none
 | _,_=>none
def ofC1(T:Ty)(ss:List SV):Option T.α:=match ofC T ss with
 | some (x,[])=>some x
 | _=>none
def upE{α:Type}(l:List α)(i:Nat)(f:α→Option α):Option (List α):=match l[i]? with
 | some y=>match f y with
  | some z=>some (l.set i z)
  | none=>none
 | none=>none
def storeE(P:Program)(m:Nat)(mem:Mem)(t:TypeId)(s v:SV):Option Res :=
  match sizeE P t,v.cells with
  | some n,some vc=>if vc.length=n∧vc.all (·.one)=true then match s with
    | .ptr b o=>match mem[b]? with
      | some (some (.cells cs ty))=>if m≤b∧o+n≤cs.length then some (.det .any (mem.set b (some (.cells (cs.take o++vc++cs.drop (o+n)) ty))))else none
      | _=>none
    | .rp b i c o=>match mem[b]? with
      | some (some (.row T l ty false))=>if m≤b∧c=T.n∧o+n≤T.n∧0 < n then
          some (.part (List T.α) (upE l i fun y=>ofC1 T ((cellsOf T y).take o++vc++(cellsOf T y).drop (o+n))) fun a=>(.any,mem.set b (some (.row T a ty false))))else none
      | _=>none
    | _=>none
   else none
  | _,_=>none
def fieldAddrE(P:Program)(s:TypeId)(f:Nat)(p:SV):Option SV :=
 match P.underlying s with
 | some (.struct fs) =>
  match fs[f]? with
  | some a=>match sizeE P a.type with
   | some (_+1)=>match p with
    | .ptr b o=>some (.ptr b (o+a.offset))
    | .ep T x o=>some (.ep T x (o+a.offset))
    | .rp b i n o=>some (.rp b i n (o+a.offset))
    | _=>none
   | _=>none
  | none=>none
 | _=>none
def fieldE(P:Program)(s:TypeId)(f:Nat)(x:SV):Option SV :=
 match x with
 | .agg b =>
  match P.underlying s with
  | some (.struct fs) =>
   match fs[f]? with
   | some a=>match P.underlying a.type,sizeE P a.type with
    | some d,some n=>takeAgg d b a.offset n
    | _,_=>none
   | none=>none
  | _=>none
 | _=>none
def idxL{α:Type}(l:List α)(i:Int):Option α:=if 0≤i then l[i.toNat]? else none
def idxB(n:Nat)(i:Int):Option Nat:=if 0≤i∧i < n then some i.toNat else none
def indexAddrE(P:Program)(mem:Mem)(t:TypeId)(x a:SV):Option Res :=
 match a with
 | .v (.int _ i)=>match x with
  | .sl T l=>match P.underlying t with
   | some (.slice e)=>if sizeE P e=some T.n then some (.part T.α (idxL l i) fun y=>(.ep T y 0,mem))else none
   | _=>none
  | .row b=>match P.underlying t,mem[b]? with
   | some (.slice e),some (some (.row T l _ _))=>if sizeE P e=some T.n then some (.part Nat (idxB l.length i) fun j=>(.rp b j T.n 0,mem))else none
   | _,_=>none
  | .part b c n k=>match P.underlying t,mem[b]? with
   | some (.slice e),some (some (.row T l _ _))=>if sizeE P e=some T.n∧k=T.n then some (.part Nat (idxB n i) fun j=>(.rp b (c+j) T.n 0,mem))else none
   | _,_=>none
  | .ptr b o=>match P.underlying t with
   | some (.array n e)=>match sizeE P e with
    | some k=>if 2≤n∧0≤i∧i < n then some (.det (.ptr b (o+i.toNat*k)) mem)else none
    | none=>none
   | _=>none
  | _=>none
 | _=>none
def glE(P:Program)(mem:Mem)(t:TypeId)(x:Operand)(a:SV):Option Res :=
 match x,a with
 | .global g,.v (.int _ i)=>match P.underlying t with
  | some (.array n e)=>if sizeE P e=some 1∧n=(gtab g).length then some (.part Int (idxL (gtab g) i) fun v=>(.ep (.int .i64) v 0,mem))else none
  | _=>none
 | _,_=>none
def lenE(P:Program)(mem:Mem)(t:TypeId)(s:SV):Option SV :=
 match P.underlying t with
 | some (.slice _)=>match s with
  | .sl T l=>some (.v (.int .i64 l.length))
  | .row b=>match mem[b]? with
   | some (some (.row T l _ _))=>some (.v (.int .i64 l.length))
   | _=>none
  | .part _ _ n _=>some (.v (.int .i64 n))
  | _=>none
 | _=>none
def cutL{α:Type}(l:List α)(b a:Option Int):Option (List α) :=
 (Rx.bnd a l.length l.length).bind fun h=>(Rx.bnd b h 0).bind fun k=>some ((l.take h).drop k)
def cutB(n:Nat)(b a:Option Int):Option (Nat×Nat) :=
 (Rx.bnd a n n).bind fun h=>(Rx.bnd b h 0).bind fun k=>some (k,h-k)
def fromB(b:Nat)(a:Option Int)(k:Nat):Nat:=match a with
 | none=>b
 | some _=>b+k
def evI(ts:List SV):Option Operand→Option (Option Int)
 | none=>some none
 | some x=>if okOp x then match ev ts x with
  | .v (.int _ i)=>some (some i)
  | _=>none else none
def rcOf(P:Program)(t:TypeId):Option Bool:=match P.underlying t with
 | some (.struct fs)=>match fs.toList.map fun f=>P.underlying f.type with
  | [some (.int .i64),some .string,some (.int .i64),some (.slice u)]=>bif u==t then some false else none
  | [some (.int .i64),some (.slice _),some (.slice u)]=>bif u==t then some true else none
  | _=>none
 | _=>none
def tyOf(P:Program):Nat→TypeId→Option Ty
 | 0,_=>none
 | d+1,t=>match P.underlying t with
  | some (.int k)=>some (.int k)
  | some .bool=>some .bool
  | some .string=>some .str
  | some (.slice e)=>(tyOf P d e).map .sl
  | some (.struct fs)=>match rcOf P t with
   | some c=>some (.rc c)
   | none=>fs.toList.foldr (fun f g=>match tyOf P d f.type,g with
    | some a,some b=>some (.pair a b)
    | _,_=>none) (some .unit)
  | some (.array n e)=>(tyOf P d e).map fun a=>n.rec .unit fun _ g=>.pair a g
  | _=>none
def mkL{α:Type}(n c:Int)(bytes:Nat)(z:α):Option (List α) :=
 if n=c∧0≤n∧(bytes:Int)*n≤281474976710656∧n≤9223372036854775807∧n.toNat≤maxLen then some (xS n.toNat z)else none
def makeE(P:Program)(mem:Mem)(t:TypeId)(l c:SV):Option Res :=
 match P.underlying t,l,c with
 | some (.slice e),.v (.int _ n),.v (.int _ n')=>match P.info? e,tyOf P 8 e with
  | some i,some T=>match i.zero with
   | some z=>match (ofVal 5 z).cells with
    | some a=>match ofC1 T a with
     | some b=>if i.size=T.n∧0 < T.n then some (.part (List T.α) (mkL n n' i.bytes b) fun l=>(.row mem.length,mem++[some (.row T l e false)]))else none
     | none=>none
    | none=>none
   | none=>none
  | _,_=>none
 | _,_,_=>none
def fillS(a:Nat→Option (Nat×Nat)):List SV→List (Nat×SV)→Option (List SV)
 | cs,[]=>some cs
 | cs,(i,v)::rest=>match a i,v.cells with
  | some (off,size),some vc=>if vc.length=size∧off+size≤cs.length then fillS a (cs.take off++vc++cs.drop (off+size)) rest else none
  | _,_=>none
def buildE(P:Program)(t:TypeId)(a:List (Nat×SV)):Option SV :=
 match Rx.pureRun P (zeroValue t)with
 | some z=>match (ofVal 5 z).cells with
  | some c=>match P.underlying t with
   | some (.struct fs)=>match Rx.pureRun P (fs.mapM fun f=>do pure (f.offset,←sizeOf f.type))with
    | some b=>(fillS (b[·]?) c a).map .agg
    | none=>none
   | some (.array _ e)=>match sizeE P e with
    | some n=>(fillS (fun i=>some (i*n,n)) c a).map .agg
    | none=>none
   | _=>none
  | none=>none
 | none=>none
def decL(T:Ty):Nat→List SV→Option (List T.α)
 | 0,ss=>match ss with
  | []=>some []
  | _::_=>none
 | k+1,ss=>match ofC T ss with
  | some (x,r)=>match decL T k r with
   | some l=>some (x::l)
   | none=>none
  | none=>none
def buildSliceE(P:Program)(mem:Mem)(t:TypeId)(len:Nat)(a:List (Nat×SV)):Option Res :=
 match P.underlying t with
 | some (.slice e)=>match sizeE P e,tyOf P 8 e,Rx.pureRun P (zeroValue e)with
  | some n,some T,some z=>match (ofVal 5 z).cells with
   | some b=>if n=T.n∧0 < n∧len*n≤16777216 then
     match fillS (fun i=>some (i*n,n)) ((xx (len*n)).map fun i=>b.getD (i % b.length) .any) a with
     | some c=>match decL T len c with
      | some l=>some (.det (.row mem.length) (mem++[some (.row T l e false)]))
      | none=>none
     | none=>none
    else none
   | none=>none
  | _,_,_=>none
 | _=>none
def sBytes(s:ByteArray):List Int:=s.data.toList.map fun b=>(b.toNat:Int)
def bytesS(l:List Int):ByteArray:=⟨(l.map fun n=>UInt8.ofNat n.toNat).toArray⟩
def castL(a T:Ty)(l:List a.α):Option (List T.α):=if h:a=T then some (h▸l)else none
def srcE(T:Ty)(P:Program)(mem:Mem)(u:TypeId)(x:SV):Option (Bool×List T.α) :=
 match P.underlying u with
 | some (.slice _)=>match x with
  | .sl a l=>(castL a T l).map fun l=>(true,l)
  | .v (.slice none 0 0)=>some (true,[])
  | .row b=>match mem[b]? with
   | some (some (.row a l _ _))=>(castL a T l).map fun l=>(true,l)
   | _=>none
  | .part b c n k=>match mem[b]? with
   | some (some (.row a l _ _))=>if k=a.n then(castL a T l).map fun l=>(decide (c+n≤l.length),(l.drop c).take n)else none
   | _=>none
  | _=>none
 | some .string=>match x with
  | .v (.string s)=>castL (.int .u8) T (sBytes s) |>.map fun l=>(true,l)
  | _=>none
 | _=>none
structure DstA where
 T:Ty
 c:Bool
 l:List T.α
 mem:Mem
def dstE(P:Program)(m:Nat)(mem:Mem)(e:TypeId)(s:SV):Option DstA :=
 match s with
 | .v (.slice none 0 0)=>(tyOf P 8 e).map fun T=>⟨T,true,[],mem⟩
 | .row b=>match mem[b]? with
  | some (some (.row T l e' false))=>if m≤b∧e'=e then some ⟨T,true,l,mem.set b (some .gone)⟩else none
  | _=>none
 | .part b 0 n k=>match mem[b]? with
  | some (some (.row T l e' false))=>if m≤b∧e'=e∧k=T.n then some ⟨T,decide (n≤l.length),l.take n,mem.set b (some .gone)⟩else none
  | _=>none
 | _=>none
def apL{α:Type}(c:Bool)(bytes:Nat)(l a:List α):Option (List α) :=
 if c=true∧l.length+a.length≤maxLen∧(l.length+a.length)*bytes≤140737488355328 then some (l++a)else none
def appE(P:Program)(m:Nat)(mem:Mem)(t u:TypeId)(s x:SV):Option Res :=
  match P.underlying t with
  | some (.slice e)=>match P.info? e,dstE P m mem e s with
    | some i,some D=>match i.zero with
      | some z=>if i.size=D.T.n∧0 < D.T.n∧z.cells.size=D.T.n then match srcE D.T P mem u x with
        | some X=>some (.part (List D.T.α) (apL (D.c&&X.1) i.bytes D.l X.2) fun l=>(.row D.mem.length,D.mem++[some (.row D.T l e false)]))
        | none=>none
       else none
      | none=>none
    | _,_=>none
  | _=>none
def cpL{α:Type}(c:Bool)(b dn:Nat)(l a:List α):Option (Nat×List α) :=
 if c=true∧b+dn≤l.length then some (min a.length dn,l.take b++a.take (min a.length dn)++l.drop (b+min a.length dn))else none
def srcB(b:Nat):SV→Bool
 | .sl _ _=>true
 | .row c=>c==b
 | .part c _ _ _=>c==b
 | _=>false
def copyE(P:Program)(m:Nat)(mem:Mem)(t u:TypeId)(s x:SV):Option Res :=
 match P.underlying t,P.underlying u with
 | some (.slice e),some (.slice _)=>match s with
  | .row b=>match mem[b]? with
   | some (some (.row T l ty false))=>if m≤b∧(P.info? e).map (·.size)=some T.n∧0 < T.n∧srcB b x=true then match srcE T P mem u x with
     | some X=>some (.part (Nat×List T.α) (cpL X.1 0 l.length l X.2) fun r=>(.v (.int .i64 r.1),mem.set b (some (.row T r.2 ty false))))
     | none=>none
    else none
   | _=>none
  | .part b a n k=>match mem[b]? with
   | some (some (.row T l ty false))=>if(m≤b∧(P.info? e).map (·.size)=some T.n∧0 < T.n∧srcB b x=true)∧k=T.n then match srcE T P mem u x with
     | some X=>some (.part (Nat×List T.α) (cpL X.1 a n l X.2) fun r=>(.v (.int .i64 r.1),mem.set b (some (.row T r.2 ty false))))
     | none=>none
    else none
   | _=>none
  | _=>none
 | _,_=>none
def mapTy(P:Program)(t:TypeId):Option (IntKind×TypeId):=match P.underlying t with
 | some (.map kt et)=>match P.underlying kt with
  | some (.int k)=>some (k,et)
  | _=>none
 | _=>none
def insertE(P:Program)(m:Nat)(mem:Mem)(t:TypeId)(s ks v:SV):Option Res :=
 match mapTy P t,s,ks with
 | some (k,_),.mp b,.v (.int k' i)=>match mem[b]? with
  | some (some (.map k2 es n))=>if m≤b∧k'=k∧k2=k then(match es.all fun e=>!(i==e.1)with
   | true=>some (.det .any (mem.set b (some (.map k2 (es++[(i,v)]) n))))
   | false=>none)else none
  | _=>none
 | _,_,_=>none
def entryE(P:Program)(m:Nat)(mem:Mem)(t:TypeId)(s ks:SV):Option Res :=
 match mapTy P t,s,ks with
 | some (k,et),.mp b,.v (.int k' i)=>match mem[b]?,Rx.pureRun P (zeroValue et)with
  | some (some (.map k2 es n)),some z=>if m≤b∧k'=k∧k2=k then(match es.all fun e=>!(i==e.1)with
   | true=>some (.det (.tup [ofVal 5 z,.v (.int .i64 es.length)]) (mem.set b (some (.map k2 (es++[(i,ofVal 5 z)]) n))))
   | false=>none)else none
  | _,_=>none
 | _,_,_=>none
def stampE(m:Nat)(mem:Mem)(s a v:SV):Option Res :=
 match s,a with
 | .mp b,.v (.int .i64 j)=>match mem[b]? with
  | some (some (.map k2 es n))=>if m≤b∧0≤j∧n≤j.toNat∧j.toNat < es.length then some (.det .any (mem.set b (some (.map k2 (es.modify j.toNat fun e=>(e.1,v)) n))))else none
  | _=>none
 | _,_=>none
def lookA(mem:Mem)(i:Int)(z:SV)(ok:Bool):List (Int×SV)→Res
 | []=>.det (bif ok then .tup [z,.v (.bool false)]else z) mem
 | e::es=>.alt (i==e.1) (.det (bif ok then .tup [e.2,.v (.bool true)]else e.2) mem) (lookA mem i z ok es)
def lookupE(P:Program)(mem:Mem)(t:TypeId)(s ks:SV)(ok:Bool):Option Res :=
 match mapTy P t,s,ks with
 | some (k,et),.mp b,.v (.int k' i)=>match mem[b]?,Rx.pureRun P (zeroValue et)with
  | some (some (.map k2 es _)),some z=>if k'=k∧k2=k then some (lookA mem i (ofVal 5 z) ok es)else none
  | _,_=>none
 | _,_,_=>none
def flatE(P:Program)(ts:List SV)(mem:Mem)(o:Oper):Option Res :=
 if flatOps ts o then match Rx.partE P (vals ts) o with
  | some T=>some (.part T.α T.x fun y=>(ofVal 4 (T.enc y),mem))
  | none=>match Rx.pureE P (vals ts) o with
   | some v=>some (.det (ofVal 4 v) mem)
   | none=>none
 else none
def opS(P:Program)(m:Nat)(ts:List SV)(mem:Mem)(o:Oper):Option Res :=
 match o.op with
 | .move x=>if okOp x then some (.det (ev ts x) mem)else none
 | .assign x=>if okOp x then some (.det (ev ts x) mem)else none
 | .alloc t=>match Rx.pureRun P (zeroValue t)with
  | some z=>match (ofVal 5 z).cells with
   | some h=>some (.det (.ptr mem.length 0) (mem++[some (.cells h t)]))
   | none=>none
  | none=>none
 | .box t x=>if okOp x then match (ev ts x).cells with
   | some h=>some (.det (.ptr mem.length 0) (mem++[some (.cells h t)]))
   | none=>none
  else none
 | .load t x=>if okOp x then loadE P mem t (ev ts x)else none
 | .store t x y=>if okOp x&&okOp y then storeE P m mem t (ev ts x) (ev ts y)else none
 | .fieldAddr s x f=>if okOp x then(fieldAddrE P s f (ev ts x)).map (.det · mem)else none
 | .field s x f=>if okOp x then(fieldE P s f (ev ts x)).map (.det · mem)else none
 | .extract x i=>if okOp x then match ev ts x with
   | .tup G=>match G[i]? with
    | some s=>some (.det s mem)
    | none=>none
   | _=>none
  else none
 | .makeFunc (.func g) w h=>if w.toList.all okOp&&h.toList.all okOp then some (.det (.fn g (w.toList.map (ev ts)) (h.toList.map (ev ts))) mem)else none
 | .nilCheck x=>if okOp x then match ev ts x with
   | .ptr b o=>some (.det (.ptr b o) mem)
   | .ep T y o=>some (.det (.ep T y o) mem)
   | .rp b i n o=>some (.det (.rp b i n o) mem)
   | .fn g w h=>some (.det (.fn g w h) mem)
   | .yld i=>some (.det (.yld i) mem)
   | _=>none
  else none
 | .indexAddr t x C=>if okOp x&&okOp C then indexAddrE P mem t (ev ts x) (ev ts C)else glE P mem t x (ev ts C)
 | .build t d=>if d.toList.all (fun p=>okOp p.2)then(buildE P t (d.toList.map fun p=>(p.1,ev ts p.2))).map (.det · mem)else none
 | .buildSlice t len d=>if d.toList.all (fun p=>okOp p.2)then buildSliceE P mem t len (d.toList.map fun p=>(p.1,ev ts p.2))else none
 | .makeSlice t l c=>if okOp l&&okOp c then makeE P mem t (ev ts l) (ev ts c)else none
 | .slice t x D B none=>if okOp x then match ev ts x with
   | .sl T l=>match P.underlying t,evI ts D,evI ts B with
    | some (.slice e),some a,some b=>if sizeE P e=some T.n then some (.part (List T.α) (cutL l a b) fun F=>(.sl T F,mem))else none
    | _,_,_=>none
   | .row q=>match P.underlying t,mem[q]?,evI ts D,evI ts B with
    | some (.slice e),some (some (.row T l _ _)),some a,some b=>if sizeE P e=some T.n then some (.part (Nat×Nat) (cutB l.length a b) fun r=>(.part q (fromB 0 a r.1) r.2 T.n,mem))else none
    | _,_,_,_=>none
   | .part q E n k=>match P.underlying t,evI ts D,evI ts B with
    | some (.slice e),some a,some b=>if sizeE P e=some k then some (.part (Nat×Nat) (cutB n a b) fun r=>(.part q (fromB E a r.1) r.2 k,mem))else none
    | _,_,_=>none
   | _=>flatE P ts mem o
  else none
 | .call ⟨.builtin .append,⟨[x,y]⟩,⟨[t,u]⟩⟩=>if okOp x&&okOp y then appE P m mem t u (ev ts x) (ev ts y)else none
 | .call ⟨.builtin .copy,⟨[x,y]⟩,⟨[t,u]⟩⟩=>if okOp x&&okOp y then copyE P m mem t u (ev ts x) (ev ts y)else none
 | .convert j A x=>if okOp x then match P.underlying j,P.underlying A with
   | some (.slice e),some .string=>match P.underlying e,srcE (.int .u8) P mem j (ev ts x)with
    | some (.int .u8),some X=>some (.part ByteArray (if X.1=true then some (bytesS X.2)else none) fun s=>(.v (.string s),mem))
    | _,_=>none
   | _,_=>flatE P ts mem o
  else none
 | .makeMap t none=>match mapTy P t with
  | some (k,_)=>some (.det (.mp mem.length) (mem++[some (.map k [] 0)]))
  | none=>none
 | .insert t x y z=>if okOp x&&okOp y&&okOp z then insertE P m mem t (ev ts x) (ev ts y) (ev ts z)else none
 | .mapUpdate t x y z=>if okOp x&&okOp y&&okOp z then insertE P m mem t (ev ts x) (ev ts y) (ev ts z)else none
 | .mapEntry t x y=>if okOp x&&okOp y then entryE P m mem t (ev ts x) (ev ts y)else none
 | .entryStore _ x y z=>if okOp x&&okOp y&&okOp z then stampE m mem (ev ts x) (ev ts y) (ev ts z)else none
 | .lookup t x y ok=>if okOp x&&okOp y then lookupE P mem t (ev ts x) (ev ts y) ok else none
 | .call ⟨.builtin .len,⟨[x]⟩,⟨[t]⟩⟩=>if okOp x then match lenE P mem t (ev ts x)with
   | some s=>some (.det s mem)
   | none=>flatE P ts mem o
  else none
 | _=>flatE P ts mem o
section
variable [HasP]{P:Program}{w0 w:World}{m:Nat}{B:Loc}{F:Nat→Prop}{mem mem':Mem}{ts:List SV}{a:Act}{o:Oper}{s:SV}
def load_at{t:TypeId}{d:TypeDesc}{n:Nat}(y:P.underlying t=some d)(A:sizeE P t=some n){o:List SV}{ds:List Value}(l:VRs B F w o ds){b p q:Nat}
    (r:∀ (j:Nat) (x:Value),ds[j]? = some x→w.cell? ⟨b,p+j,none⟩=some x) (c:takeAgg d o q n=some s) :
    ∃ x,(loadVar t ⟨b,p+q,none⟩).run P w=.ok x w∧VR B F w s x:=by
  unfold takeAgg at c;split at c
  · rename_i g
    split at c
    · rename_i k
      cases c;have u:q+n≤ds.length:=by rw[←l.1];exact k
      have f:((ds.drop q).take n).length=n:=by simp;omega
      have key:=run_loadCells_list (P:=P) w ⟨b,p+q,none⟩ ((ds.drop q).take n) (fun j v h=>by
        have i:j < n:=by have:=(y6.1 h).1;omega
        rw[un i,ue]at h;have e:(⟨b,p+q,none⟩:Addr).add j=⟨b,p+(q+j),none⟩:=by unfold Addr.add;split<;>simp_all [xo]
        rw[e];exact r _ v h)
      rw[f]at key;refine⟨.agg ((ds.drop q).take n).toArray,?_,VR.agg' ((l.drop q).take n)⟩;have a:Rx.aggD d=true:=g;simp only[loadVar,Sem.run_bind,Rx.run_isAgg y,a,if_true,Result.andThen_ok,Rx.run_sizeOf A,key,Sem.run_pure]
    · cases c
  · rename_i g
    have a:Rx.aggD d=false:=by
     have z:aggD d=false:=by simpa using g
     exact z
    obtain⟨x,C,m⟩:=l.get c;refine⟨x,?_,m⟩;simp only[loadVar,Sem.run_bind,Rx.run_isAgg y,a,zg,if_false,Result.andThen_ok,run_load,r _ _ C]
def bd_takeAgg{D:Nat→Prop}{d:TypeDesc}{b:List SV}{q n:Nat}(h:∀ c∈b,Bd D c)(a:takeAgg d b q n=some s):Bd D s:=by
 unfold takeAgg at a;split at a
 ·split at a
  ·cases a;exact .agg fun c e=>h c (qu (rB e))
  ·cases a
 ·exact h s (xj a)
def cell_row{w:World}{b:Nat}{ds:List Value}{t:TypeId}(h:w.heap[b]? = some (.cells ds.toArray t (0,0)))(j:Nat):w.cell? ⟨b,j,none⟩=ds[j]? := by
 rw[cell_of_row w b j _ t _ h];simp
def loadAt_eq(t:TypeId)(a:Addr):(Instr.loadAt t (.pointer (some a))).run P w=(loadVar t a).run P w:=by
 simp only[Instr.loadAt,Instr.sureAddr,Sem.run_bind,Sem.run_pure,Result.andThen_ok]
def row_elem{T:Ty}{l:List T.α}{t:TypeId}{fz:Bool}{p:Place}(h:BlkR B F w (.row T l t fz) p){i:Nat}{y:T.α}(b:l[i]? = some y):
  p.nil=false∧p.off=0∧p.len=l.length∧∃ a:List Value,DR F w T y a∧∀ (j:Nat) (d:Value),a[j]? = some d→w.cell? ⟨p.blk,i*T.n+j,none⟩=some d:=by
 rcases h with⟨_,rfl⟩ | ⟨h0,h1,h2,h3,ds,h4,h5,h7,h6⟩
 ·simp at b
 ·obtain⟨a,e,f⟩:=h6 i y b;exact⟨h0,h1,h2,a,e,fun j d c=>by rw[cell_row h4];exact f j d c⟩
def loadE_sound(D:RM w0 m B F mem w)(M:Bd (Live mem) s){t:TypeId}{r:Res}{u:SV}{x:Value}(K:VR B F w s x)(c:loadE P mem t s=some r)(I:r.Out u mem'):
  mem'=mem∧Bd (Live mem) u∧∃ y,(Instr.loadAt t x).run P w=.ok y w∧VR B F w u y:=by
 unfold loadE at c;split at c
 ·rename_i d n J H;split at c
  ·rename_i b o;split at c
   ·rename_i C W A;cases e:takeAgg d C o n with
    | none=>rw[e]at c;cases c
    | some q =>
     rw[e]at c;cases c;obtain⟨rfl,rfl⟩:=I;cases K;obtain⟨_,v,ds,f,g⟩:=D.blk b _ A;obtain⟨y,h,k⟩:=load_at J H g (b:=(B b).blk) (p:=(B b).off) (fun j x G=>by rw[v,wm,cell_row f];exact G) e;exact⟨rfl,bd_takeAgg (D.bd b _ A) e,y,by rw[loadAt_eq];exact h,k⟩
   ·cases c
  ·rename_i T y o;cases e:takeAgg d (cellsOf T y) o n with
   | none=>rw[e]at c;cases c
   | some q =>
    rw[e]at c;cases c;obtain⟨rfl,rfl⟩:=I;cases K with | ep _ _ _ b a C v f g =>
     obtain⟨z,h,k⟩:=load_at J H (vrs_of_dr f) (b:=b) (p:=a) g e;exact⟨rfl,bd_takeAgg bd_cellsOf e,z,by rw[loadAt_eq];exact h,k⟩
  ·rename_i b i V o;split at c
   ·rename_i T l W fz A;split at c
    ·rename_i N;cases c;obtain⟨y,U,R⟩:=I;cases R;obtain⟨E,O,Q⟩:=N;cases K;obtain⟨X,v,_,C,f,g⟩:=row_elem (D.blk b _ A) U;have L:(cellsOf T y).length=T.n:=by rw[(vrs_of_dr (B:=B) f).1,f.len]
     have e:takeAgg d (cellsOf T y) o n=some ((takeAgg d (cellsOf T y) o n).getD .any):=by
      have:∃ q,takeAgg d (cellsOf T y) o n=some q:=by
       unfold takeAgg;split
       ·rw[gT ω];exact⟨_,rfl⟩
       ·exact⟨_,zP ω⟩
      obtain⟨q,S⟩:=this;rw[S];rfl
     obtain⟨z,h,k⟩:=load_at J H (vrs_of_dr f) (b:=(B b).blk) (p:=(B b).off+i*V) (fun j x G=>by rw[v,wm,E];exact g j x G) e;exact⟨rfl,bd_takeAgg bd_cellsOf e,z,by rw[loadAt_eq,←xo];exact h,k⟩
    ·cases c
   ·cases c
  ·cases c
 ·cases c
def VR.cells_size{x:Value}(h:VR B F w s x){a:List SV}(b:s.cells=some a):x.cells.size=a.length:=by
 have:=(h.cells b).1;simpa using this.symm
def ones{a:List SV}{ds:List Value}(h:VRs B F w a ds)(j:a.all (·.one)=true):∀ d∈ds,d.oneCell'=true:=by
 intro d g;obtain⟨i,e⟩:=ic.1 g;have c:=(y6.1 e).1;have b:i < a.length:=by rw[h.1];exact c
 have f:a[i]? = some a[i]:=zP b;exact(h.2 i _ _ f e).one (ym.1 j _ (xj f))
def setRow_other(w:World)(g:Nat)(a:Array Value){k:Nat}(b:k≠g):(w.setRow g a).heap[k]? = w.heap[k]? := by
 show(w.heap.modify _ _)[k]? = _;rw[oS];simp[b.symm]
def keepsF_setRow{b:Nat}{a:Array Value}{t:TypeId}{z:Nat×Nat}{c:Array Value}(f:w.heap[b]? = some (.cells a t z))(g:¬F b):KeepsF F w (w.setRow b c) :=
 ⟨fun k d=>setRow_other w _ _ fun e=>g (e▸d),fun i h=>(setRow_other w _ _ fun e=>by rw[e,f]at h;cases h).trans h,by rw[size_setRow];exact za _⟩
def storeAt_run{t:TypeId}{n b p:Nat}{y:Value}{a:List Value}{g:TypeId}(k:sizeE P t=some n)(c:y.cells.size=n)(i:w.heap[b]? = some (.cells a.toArray g (0,0)))(j:p+n≤a.length)
  (h:∀ d∈y.cells.toList,d.oneCell'=true) :
  (Instr.storeAt t (.pointer (some ⟨b,p,none⟩)) y).run P w=.ok () (w.setRow b (a.take p++y.cells.toList++a.drop (p+n)).toArray):=by
 have e:y.cells.toList.length=n:=by simpa using c
 have f:=run_storeCells_at P b p g y.cells.toList 0 a.toArray w i (by simp;omega) h;simp only[Instr.storeAt,Instr.sureAddr,Sem.run_bind,Sem.run_pure,Result.andThen_ok,storeVar,Rx.run_sizeOf k,c,ne_eq,not_true,if_false,f];simp[e,c]
def ofC1_spec{T:Ty}{ss:List SV}{x:T.α}{ds:List Value}(h:ofC1 T ss=some x)(e:VRs B F w ss ds):DR F w T x ds:=by
 unfold ofC1 at h;split at h
 ·rename_i y f;cases h;obtain⟨c,d,rfl,a,b,_⟩:=dr_of_ofC f e;have:d=[]:=wc.1 b.1.symm;subst this;simpa using a
 ·cases h
def storeE_sound(H:RM w0 m B F mem w){t:TypeId}{r:Res}{u v:SV}{x y:Value}(hx:VR B F w s x)(hy:VR B F w v y)(hbv:Bd (Live mem) v)(f:storeE P m mem t s v=some r)(ho:r.Out u mem'):
  u=.any∧∃ w',(Instr.storeAt t x y).run P w=.ok () w'∧RM w0 m B F mem' w'∧Ext mem mem'∧KeepsF F w w':=by
 unfold storeE at f;split at f
 ·rename_i n vc hn R;split at f
  ·rename_i hc;obtain⟨hvl,hone⟩:=hc;have S:=hy.cells R;have Q:y.cells.size=n:=by rw[hy.cells_size R,hvl]
   have W:=ones S hone;split at f
   ·rename_i b o;split at f
    ·rename_i L ty A;split at f
     ·rename_i G;cases f;obtain⟨rfl,rfl⟩:=ho;cases hx;obtain⟨M,V,ds,U,X⟩:=H.blk b _ A;have D:=storeAt_run (P:=P) hn Q U (p:=o) (by rw[←X.1];exact G.2) W;have E:KeepsF F w (w.setRow (B b).blk (ds.take o++y.cells.toList++ds.drop (o+n)).toArray):=keepsF_setRow U (H.fr b _ A rfl M rfl);refine⟨rfl,_,by rw[V,wm];exact D,H.turn G.1 A rfl rfl rfl (size_setRow _ _ _) ⟨rfl,rfl,rfl⟩ M (fun k E=>setRow_other w _ _ E) (by rw[U];simp) ?_ ?_,ext_set A (fun r h=>by cases h),E⟩
      ·refine⟨M,V,_,setRow_heap w _ _ _ ty _ U,?_⟩;exact(((X.take o).append S).append (X.drop (o+n))).mono (fun _ h=>h) E
      ·intro c a;rcases xz.1 a with a | a
       ·rcases xz.1 a with a | a
        ·exact H.bd b _ A c (rB a)
        ·exact bd_cells hbv R c a
       ·exact H.bd b _ A c (qu a)
     ·cases f
    ·cases f
   ·rename_i b i n' o;split at f
    ·rename_i T l ty A;split at f
     ·rename_i G;cases f;obtain⟨hm,rfl,hon,hn0⟩:=G;obtain⟨l',g,Y⟩:=ho;cases Y;cases hx;unfold upE at g;split at g
      ·rename_i e Y;split at g
       ·rename_i z hz;cases g;have Z:=(y6.1 Y).1;rcases H.blk b _ A with⟨_,rfl⟩ | ⟨M,V,U,X,ds,h4,h5,h7,h6⟩
        ·simp at Y
        ·obtain⟨L,k1,k2⟩:=h6 i e Y;have hcl:L.length=T.n:=k1.len;have K:=vrs_of_dr (B:=B) k1;have hdr:=ofC1_spec hz (((K.take o).append S).append (K.drop (o+n)));have hmul:i*T.n+T.n≤(B b).cap*T.n:=by
          rw[←tj];exact ur _ ω
         have J:∀ j,j < T.n→ds[i*T.n+j]? = L[j]? := fun j hj=>by
          have:L[j]? = some L[j]:=zP ω;rw[this];exact k2 j _ this
         have D:=storeAt_run (P:=P) hn Q h4 (p:=i*T.n+o) ω W;have E:KeepsF F w (w.setRow (B b).blk (ds.take (i*T.n+o)++y.cells.toList++ds.drop (i*T.n+o+n)).toArray):=keepsF_setRow h4 (H.fr b _ A rfl M rfl);have hyl:y.cells.toList.length=n:=by simpa using Q
         refine⟨rfl,_,by rw[V,wm];exact D,H.turn hm A rfl rfl rfl (size_setRow _ _ _) ⟨rfl,rfl,rfl⟩ M (fun k E=>setRow_other w _ _ E) (by rw[h4];simp) ?_ (fun s hs=>by cases hs),ext_set A (fun r h=>by cases h),E⟩;refine .inr ⟨M,V,by simpa using U,by simpa using X,_,setRow_heap w _ _ _ ty _ h4,by simp;omega,h7,?_⟩
         ·intro q xq hq;rw[yd]at hq;have I:∀ p:Nat,(ds.take (i*T.n+o)++y.cells.toList++ds.drop (i*T.n+o+n))[p]? = if i*T.n+o≤p∧p < i*T.n+o+n then y.cells.toList[p-(i*T.n+o)]? else ds[p]? := by
           intro p;have ht:(ds.take (i*T.n+o)).length=i*T.n+o:=by simp;omega
           by_cases hp1:p < i*T.n+o
           ·rw[gR ω,xm (by simp;omega),xm ω,un hp1]
           ·by_cases hp2:p < i*T.n+o+n
            ·rw[gT ⟨ω,hp2⟩,xm (by simp;omega),wi ω,ht]
            ·rw[gR ω,wi (by simp;omega),ue];congr 1;simp;omega
          by_cases O:i=q
          ·subst O;rw[gT rfl,gT Z]at hq;cases hq;refine⟨_,hdr.mono (fun _ h=>h) E,fun j d C=>?_⟩;rw[I];have hct:(L.take o).length=o:=by simp;omega
           by_cases hj1:j < o
           ·rw[gR ω];rw[xm (by simp;omega),xm ω,un hj1]at C;rw[J j ω];exact C
           ·by_cases hj2:j < o+n
            ·rw[gT ⟨ω,ω⟩];rw[xm (by simp;omega),wi ω,hct]at C;rw[show i*T.n+j-(i*T.n+o)=j-o from ω];exact C
            ·rw[gR ω];rw[wi (by simp;omega),ue]at C;have e1:o+n+(j-(List.take o L++y.cells.toList).length)=j:=by simp;omega
             rw[e1]at C;have hjl:=(y6.1 C).1;rw[J j ω];exact C
          ·rw[gR O]at hq;obtain⟨cq,q1,q2⟩:=h6 q xq hq;refine⟨cq,q1.mono (fun _ h=>h) E,fun j d C=>?_⟩;have hjl:j < T.n:=by have:=(y6.1 C).1;rw[q1.len]at this;exact this
           rw[I,gR]
           ·exact q2 j d C
           ·rintro ⟨g1,g2⟩;rcases Nat.lt_or_gt_of_ne O with N | N
            ·have:(i+1)*T.n≤q*T.n:=ur _ N;rw[tj]at this;omega
            ·have:(q+1)*T.n≤i*T.n:=ur _ N;rw[tj]at this;omega
       ·cases g
      ·cases g
     ·cases f
    ·cases f
   ·cases f
  ·cases f
 ·cases f
end
section
variable [HasP]{P:Program}{w0 w:World}{m:Nat}{B:Loc}{F:Nat→Prop}{mem mem':Mem}{s:SV}
def DR.ones:∀ {T:Ty} {x:T.α} {g:List Value},DR F w T x g→∀ d∈g,d.oneCell'=true
 | .int k,x,g,h,d,f=>by rw[show g=_ from h]at f;simp at f;subst f;rfl
 | .bool,x,g,h,d,f=>by rw[show g=_ from h]at f;simp at f;subst f;rfl
 | .str,x,g,h,d,f=>by rw[show g=_ from h]at f;simp at f;subst f;rfl
 | .unit,x,g,h,d,f=>by rw[show g=_ from h]at f;cases f
 | .nul,x,g,h,d,f=>by rw[show g=_ from h]at f;simp at f;subst f;rfl
 | .pair a b,x,g,h,d,f=>by
  obtain⟨c,e,rfl,i,j⟩:=h;rcases xz.1 f with f | f
  ·exact i.ones d f
  ·exact j.ones d f
 | .sl e,l,g,h,d,f=>by
  obtain⟨v,rfl,h⟩:=h;simp at f;subst f;rcases h with⟨_,q,rfl⟩ | ⟨b,o,cap,rfl,_⟩<;>rfl
 | .rc false,x,g,h,d,f=>by
  cases (show DX F w (.inl x) g from h)with
  | ex _ v i =>
   simp at f;rcases f with rfl | rfl | rfl | rfl
   ·rfl
   ·rfl
   ·rfl
   ·exact(VR.sl (B:=fun _=>⟨0,0,0,0,false,id⟩) (.rc false) _ _ (dr_ex.2 i)).one rfl
 | .rc true,x,g,h,d,f=>by
  cases (show DY F w (.inl x) g from h)with
  | cd _ u v i j =>
   simp at f;rcases f with rfl | rfl | rfl
   ·rfl
   ·exact(VR.sl (B:=fun _=>⟨0,0,0,0,false,id⟩) (.rc false) _ _ (dr_ex.2 i)).one rfl
   ·exact(VR.sl (B:=fun _=>⟨0,0,0,0,false,id⟩) (.rc true) _ _ (dr_cd.2 j)).one rfl
def RowD.ones{T:Ty}{l:List T.α}{ds:List Value}(h:RowD F w T l ds)(p:ds.length=l.length*T.n)(f:0 < T.n):∀ d∈ds,d.oneCell'=true:=by
 intro d j;obtain⟨k,c⟩:=ic.1 j;have m:=(y6.1 c).1;have o:k / T.n < l.length:=by rw[Nat.div_lt_iff_lt_mul f];omega
 obtain⟨g,a,i⟩:=h (k / T.n) _ (zP o);have b:k % T.n < g.length:=by rw[a.len];exact Nat.mod_lt _ f
 have e:=i (k % T.n) _ (zP b);rw[Nat.mul_comm,Nat.div_add_mod,c]at e;cases e;exact a.ones _ (List.getElem_mem b)
def collect{T:Ty}:∀ (l:List T.α) (f:Nat→Option Value),(∀ (i:Nat) (x:T.α),l[i]? = some x→∃ ds:List Value,DR F w T x ds∧∀ (j:Nat) (d:Value),ds[j]? = some d→f (i*T.n+j)=some d)→
  ∃ a:List Value,a.length=l.length*T.n∧(∀ (j:Nat) (d:Value),a[j]? = some d→f j=some d)∧RowD F w T l a
 | [],f,h=>⟨[],ψ,ψ,fun i x r=>by simp at r⟩
 | x::l,f,h=>by
  obtain⟨ds,c,q⟩:=h 0 x rfl;obtain⟨a,s,t,u⟩:=collect l (fun k=>f (T.n+k)) fun i y e=>by
   obtain⟨p,m,o⟩:=h (i+1) y (by simpa using e);exact⟨p,m,fun j d b=>by have:=o j d b;rwa [tj,lP (i*T.n),xo]at this⟩
  refine⟨ds++a,by simp only[yo,vh,s,c.len,tj];omega,fun j d b=>?_,fun i y e=>?_⟩
  ·by_cases g:j < ds.length
   ·rw[xm g]at b;have:=q j d b;simpa using this
   ·rw[wi ω]at b;have:=t _ d b;rw[c.len]at this g
    rwa [Nat.add_sub_cancel' ω]at this
  ·cases i with
   | zero =>
    simp at e;subst e;exact⟨ds,c,fun j d b=>by
     have g:=(y6.1 b).1;rw[Nat.zero_mul,wm,xm g];exact b⟩
   | succ i =>
    obtain⟨p,m,o⟩:=u i y (by simpa using e);exact⟨p,m,fun j d b=>by
     rw[wi (by rw[c.len,tj];omega),c.len];have:=o j d b;rw[←this];congr 1;rw[tj];omega⟩
def RowD.app{T:Ty}{l p:List T.α}{ds a rest:List Value}(h:RowD F w T l ds)(r:ds.length=l.length*T.n)(k:RowD F w T p a):RowD F w T (l++p) (ds++a++rest):=by
 intro i x b;by_cases q:i < l.length
 ·rw[xm q]at b;obtain⟨c,f,g⟩:=h i x b;exact⟨c,f,fun j d m=>by
   have:=g j d m;rw[oX,xm (y6.1 this).1];exact this⟩
 ·rw[wi ω]at b;obtain⟨c,f,g⟩:=k _ x b;exact⟨c,f,fun j d m=>by
   have:=g j d m;have o:=(y6.1 this).1;have e:i*T.n+j=ds.length+((i-l.length)*T.n+j):=by
    rw[r,Nat.sub_mul];have:l.length*T.n≤i*T.n:=ur _ ω;omega
   rw[e,oX,wi ω,Nat.add_sub_cancel_left,xm o];exact this⟩
def RowD.take{T:Ty}{l:List T.α}{ds:List Value}(h:RowD F w T l ds)(n:Nat):RowD F w T (l.take n) (ds.take (n*T.n)):=by
 intro i x a;rw[rj]at a;split at a
 ·rename_i g;obtain⟨e,b,f⟩:=h i x a;exact⟨e,b,fun j d c=>by
   have k:j < T.n:=by have:=(y6.1 c).1;rwa [b.len]at this
   have:(i+1)*T.n≤n*T.n:=ur _ g;rw[tj]at this;rw[un ω];exact f j d c⟩
 ·cases a
def RowD.sub{T:Ty}{l:List T.α}{ds:List Value}(h:RowD F w T l ds)(c n:Nat):∀ (i:Nat) (x:T.α),((l.drop c).take n)[i]? = some x→∃ b:List Value,DR F w T x b∧∀ (j:Nat) (d:Value),b[j]? = some d→ds[c*T.n+(i*T.n+j)]? = some d:=by
 intro i x a;rw[rj]at a;split at a
 ·rw[ue]at a;obtain⟨b,e,f⟩:=h _ x a;exact⟨b,e,fun j d g=>by have:=f j d g;rwa [uR,xo]at this⟩
 ·cases a
def castL_some{a T:Ty}{l:List a.α}{b:List T.α}(h:castL a T l=some b):∃ e:a=T,b=e▸l:=by
 unfold castL at h;split at h
 ·rename_i e;cases h;exact⟨e,rfl⟩
 ·cases h
def Src(P:Program)(F:Nat→Prop)(w:World)(T:Ty)(x:Value)(l:List T.α)(a:List Value):Prop :=
 (Builtin.lenOf x).run P w=.ok l.length w∧a.length=l.length*T.n∧RowD F w T l a∧
 (∀ k,k≤l.length→(Builtin.firstCells T.n k x).run P w.drew=.ok (a.take (k*T.n)).toArray w.drew)∧(∀ k,k≤l.length→(Builtin.firstCells T.n k x).run P w=.ok (a.take (k*T.n)).toArray w)
def Src.full{P:Program}{F:Nat→Prop}{w:World}{T:Ty}{x:Value}{l:List T.α}{news:List Value}(h:Src P F w T x l news):(Builtin.firstCells T.n l.length x).run P w.drew=.ok news.toArray w.drew∧(Builtin.firstCells T.n l.length x).run P w=.ok news.toArray w:=by
 obtain⟨_,f,_,c,d⟩:=h;have e:news.take (l.length*T.n)=news:=List.take_of_length_le ω;have a:=c l.length (za _);have b:=d l.length (za _);rw[e]at a b;exact⟨a,b⟩
def src_slice{T:Ty}{l:List T.α}{b o c:Nat}(h:∀ (i:Nat) (x:T.α),l[i]? = some x→∃ ds:List Value,DR F w T x ds∧∀ (j:Nat) (d:Value),ds[j]? = some d→w.cell? ⟨b,o+(i*T.n+j),none⟩=some d):
  ∃ news,Src P F w T (.slice (some ⟨b,o,none⟩) l.length c) l news:=by
 obtain⟨news,f,q,r⟩:=collect l (fun k=>w.cell? ⟨b,o+k,none⟩) h;have g:∀ (j:Nat) (v:Value),news[j]? = some v→w.cell? ((⟨b,o,none⟩:Addr).add j)=some v:=fun j v a=>by
  have:=q j v a;unfold Addr.add;split<;>simp_all
 have m:∀ k,k≤l.length→(news.take (k*T.n)).length=k*T.n:=fun k e=>by
  rw[xV,f];exact ut (ur _ e)
 have p:∀ (k j:Nat) (v:Value),(news.take (k*T.n))[j]? = some v→news[j]? = some v:=fun k j v a=>by
  rw[rj]at a;split at a
  ·exact a
  ·cases a
 exact⟨news,by simp[Builtin.lenOf],f,r,fun k e=>run_firstCells_some w.drew T.n k _ _ _ _ (m k e) fun j v a=>(by simpa using g j v (p k j v a)),fun k e=>run_firstCells_some w T.n k _ _ _ _ (m k e) fun j v a=>g j v (p k j v a)⟩
def src_nil(T:Ty):Src P F w T (.slice none 0 0) [] [] :=
 ⟨by simp[Builtin.lenOf],ψ,fun i x a=>by simp at a,by simp[Builtin.firstCells],by simp[Builtin.firstCells]⟩
def src_z(q:Option Addr)(T:Ty):Src P F w T (.slice q 0 0) [] []:=by
 cases q with
 | none=>exact src_nil T
 | some a =>
  refine⟨by simp[Builtin.lenOf],ψ,fun i x c=>by simp at c,fun k b=>?_,fun k b=>?_⟩
  all_goals
   obtain rfl:k=0:=by simpa using b
  ·have:=run_firstCells_some (P:=P) w.drew T.n 0 a 0 0 [] ψ ψ;simpa using this
  ·have:=run_firstCells_some (P:=P) w T.n 0 a 0 0 [] ψ ψ;simpa using this
def src_str(s:ByteArray):Src P F w (.int .u8) (.string s) (sBytes s) ((sBytes s).map fun n=>.int .u8 n):=by
 have a:(sBytes s).length=s.size:=by simp[sBytes]
 have g:(vD (fun b:UInt8=>Value.int IntKind.u8 (b.toNat:Int)) s.data).extract 0 s.size=vD (fun b:UInt8=>Value.int IntKind.u8 (b.toNat:Int)) s.data:=by
  have h:s.size=(vD (fun b:UInt8=>Value.int IntKind.u8 (b.toNat:Int)) s.data).size:=by rw[Array.size_map];rfl
  rw[h,Array.extract_size]
 have f:∀ (W:World) (k:Nat),k≤(sBytes s).length→(Builtin.firstCells (Ty.int .u8).n k (.string s)).run P W=.ok (((sBytes s).map fun n=>Value.int .u8 n).take (k*(Ty.int .u8).n)).toArray W:=fun W k c=>by
  simp only[Builtin.firstCells,Sem.run_pure,Ty.n,mo];congr 1;apply uk;simp[sBytes,tA,ByteArray.data_extract];rfl
 refine⟨by simp[Builtin.lenOf,a],by simp[Ty.n],fun i x g=>⟨[.int .u8 x],rfl,fun j d e=>?_⟩,fun k c=>f _ k c,fun k c=>f _ k c⟩;cases j with
 | zero =>
  simp at e;subst e;simp only[Ty.n,mo,rI,yz,g];rfl
 | succ j=>simp at e
def srcE_spec(Q:RM w0 m B F mem w){T:Ty}{u:TypeId}{x:SV}{v:Value}{c:Bool}{l:List T.α}(h:srcE T P mem u x=some (c,l))(K:c=true)(E:VR B F w x v):
  (∃ H,Src P F w T v l H)∧((∃ e,P.underlying u=some (.slice e))∨P.underlying u=some .string):=by
 unfold srcE at h;have r:∀ {b:Nat} {g:Ty} {l0:List g.α} {t:TypeId} {fz:Bool},mem[b]? = some (some (.row g l0 t fz))→(B b).nil=false→∃ ds:List Value,RowD F w g l0 ds∧(B b).off=0∧(B b).len=l0.length∧∀ j d,ds[j]? = some d→w.cell? ⟨(B b).blk,j,none⟩=some d:=by
  intro b g l0 t fz z y;rcases Q.blk b _ z with⟨p,_⟩ | ⟨h0,p,f,h3,ds,h4,h5,h7,h6⟩
  ·rw[p]at y;cases y
  ·exact⟨ds,h6,p,f,fun j d C=>by rw[cell_row h4];exact C⟩
 split at h
 ·rename_i e L;refine⟨?_,.inl ⟨e,L⟩⟩;split at h
  ·rename_i g l0;obtain⟨l1,p,f⟩:=tF.1 h;obtain⟨rfl,rfl⟩:=castL_some p;cases f;cases E with | sl _ _ _ h =>
    obtain⟨W,S,h⟩:=h;cases S;rcases h with⟨rfl,q,rfl⟩ | ⟨b,o,cap,rfl,hF,K,h⟩
    ·exact⟨_,src_z q _⟩
    ·exact src_slice h
  ·cases h;cases E;exact⟨_,src_nil _⟩
  ·rename_i b;split at h
   ·rename_i g l0 t fz z;obtain⟨l1,p,f⟩:=tF.1 h;obtain⟨rfl,rfl⟩:=castL_some p;cases f;cases E;cases y:(B b).nil with
    | true =>
     have:l=[]:=by
      rcases Q.blk b _ z with⟨_,h⟩ | ⟨h0,_⟩
      ·exact h
      ·rw[y]at h0;cases h0
     subst this;simp only[Place.val,y,cond_true];exact⟨_,src_nil _⟩
    | false =>
     obtain⟨ds,M,N,R,O⟩:=r z y;simp only[Place.val,y,cond_false,R];refine src_slice fun i x G=>?_;obtain⟨J,c1,c2⟩:=M i x G;exact⟨J,c1,fun j d C=>by rw[N,wm];exact O _ _ (c2 j d C)⟩
   ·cases h
  ·rename_i b A n k;split at h
   ·rename_i g l0 t fz z;split at h
    ·rename_i I;obtain⟨l1,p,f⟩:=tF.1 h;obtain⟨rfl,rfl⟩:=castL_some p;simp only[Prod.mk.injEq]at f;obtain⟨f,rfl⟩:=f;have U:A+n≤l1.length:=by rw[←f]at K;simpa using K
     have D:((l1.drop A).take n).length=n:=by simp;omega
     cases E with | part _ _ _ _ _ V =>
      rcases V with⟨p1,rfl,rfl,rfl⟩ | ⟨p1,a,cp,rfl,p2,p3⟩
      ·exact⟨_,by simpa using src_nil (P:=P) (F:=F) (w:=w) g⟩
      ·rcases p3 with⟨rfl,p4⟩ | ⟨rfl,_⟩
       ·obtain⟨ds,M,N,R,O⟩:=r z p1;have:=src_slice (P:=P) (F:=F) (w:=w) (T:=g) (l:=(l1.drop A).take n) (b:=(B b).blk) (o:=(B b).off+A*k) (c:=cp) fun i x G=>by
         obtain⟨J,c1,c2⟩:=M.sub A n i x G;exact⟨J,c1,fun j d C=>by rw[N,wm,I];exact O _ _ (c2 j d C)⟩
        rwa [D]at this
       ·have e:(l1.drop A).take 0=[]:=ψ;rw[e];refine⟨[],by simp[Builtin.lenOf],ψ,fun i x G=>by simp at G,fun k I=>?_,fun k I=>?_⟩
        all_goals
         obtain rfl:k=0:=by simpa using I
        ·have:=run_firstCells_some (P:=P) w.drew g.n 0 a 0 cp [] ψ ψ;simpa using this
        ·have:=run_firstCells_some (P:=P) w g.n 0 a 0 cp [] ψ ψ;simpa using this
    ·cases h
   ·cases h
  ·cases h
 ·rename_i L;refine⟨?_,.inr L⟩;split at h
  ·rename_i s;obtain⟨l1,p,f⟩:=tF.1 h;obtain⟨rfl,rfl⟩:=castL_some p;cases f;cases E;exact⟨_,src_str s⟩
  ·cases h
 ·cases h
def Dst(F:Nat→Prop)(w:World)(T:Ty)(e:TypeId)(v:Value)(l:List T.α):Option Nat→Prop
 | none=>l=[]∧v=.slice none 0 0
 | some g=>∃ (cap:Nat) (ds:List Value),v=.slice (some ⟨g,0,none⟩) l.length cap∧l.length≤cap∧cap≤maxLen∧w.heap[g]? = some (.cells ds.toArray e (0,0))∧ds.length=cap*T.n∧RowD F w T l (ds.take (l.length*T.n))
def append_run{T:Ty}{e t u rt:TypeId}{i:TypeInfo}{z v x:Value}{l b:List T.α}{q:Option Nat}{a:List Value}(W:P.underlying t=some (.slice e))(o:(∃ e,P.underlying u=some (.slice e))∨P.underlying u=some .string)(V:P.info? e=some i)(hz:i.zero=some z)
  (C:i.size=T.n) (hn:0 < T.n) (R:z.cells.size=T.n) (hF:∀ i,F i→i < w.heap.size) (hqF:∀ g,q=some g→¬F g) (L:Dst F w T e v l q) (hs:Src P F w T x b a)
  (r:l.length+b.length≤maxLen) (J:(l.length+b.length)*i.bytes≤140737488355328) :
  ∃ (p:Place) (w':World),(Builtin.append_ #[t,u] rt #[v,x]).run P w=.ok p.val w'∧(w'.os=w.os∧w'.tape=w.tape∧w'.output=w.output)∧w.heap.size≤w'.heap.size∧
   (∀ k,k < w.heap.size→some k≠q→w'.heap[k]? = w.heap[k]?)∧(p.nil=false→some p.blk=q∨w.heap.size≤p.blk)∧∀ B:Loc,BlkR B F w' (.row T (l++b) e false) p:=by
 obtain⟨s4,s5⟩:=hs.full;obtain⟨S,X,s3,_,_⟩:=hs;have A:l.length+b.length≤9223372036854775807:=by simp only[maxLen]at r;omega
 have h1s:=s3.ones X hn;have fin:∀ (cap:Nat) (c rest:List Value),c.length=l.length*T.n→RowD F w T l c→l.length+b.length≤cap→cap≤maxLen→rest.length=(cap-(l.length+b.length))*T.n→
   ∀ B:Loc,BlkR B F (w.drew.alloc (.cells (c++a++rest).toArray e)) (.row T (l++b) e false) ⟨w.heap.size,0,l.length+b.length,cap,false,id⟩:=by
  intro cap c rest ho hro hc hm hr B;have hb:Below w.heap.size w (w.drew.alloc (.cells (c++a++rest).toArray e)):=(Below.drew (Below.refl _ w)).alloc (za _) _;have y:KeepsF F w (w.drew.alloc (.cells (c++a++rest).toArray e)):=keepsF_below hF hb;refine .inr ⟨rfl,rfl,ψ,by simpa using hc,_,heap_alloc_new w.drew _,?_,hm,?_⟩
  ·simp only[yo,ho,X,hr,←uR];congr 1;omega
  ·exact(hro.mono (fun _ h=>h) y.f).app ho (s3.mono (fun _ h=>h) y.f)
 cases q with
 | none =>
  obtain⟨rfl,rfl⟩:=L;by_cases Z:b=[]
  ·subst Z;have Y:a=[]:=wc.1 (by rw[X];simp);subst Y;refine⟨⟨0,0,0,0,true,id⟩,w,?_,⟨rfl,rfl,rfl⟩,za _,fun _ _ _=>rfl,(fun h=>by cases h),fun B=>.inl ⟨rfl,rfl⟩⟩;simp only[List.length_nil]at S s5;rcases o with⟨e',o⟩ | o<;>simp[Builtin.append_,run_underlying W,run_underlying o,sizeOf,typeInfo,V,S,C,s5,Place.val]
  ·have hl0:0 < b.length:=List.length_pos_iff.2 Z;have hnz:¬(b.length≤0):=ω;have E:¬(9223372036854775807 < (b.length:Int)):=by simp at A;omega
   have D:¬(281474976710656 < Builtin.nextslicecap b.length 0*i.bytes):=by
    have:=growslice_fits (need:=b.length) (old:=0) (bytes:=i.bytes) hl0 (by simpa using J);omega
   have H:=grownCap_ge w b.length 0 e;have G:=grownCap_le_maxLen w b.length 0 e (by simpa using r);refine⟨⟨w.heap.size,0,b.length,grownCap w b.length 0 e,false,id⟩,w.drew.alloc (.cells (([]:List Value)++a++(Builtin.zeroCells z.cells (grownCap w b.length 0 e-b.length)).toList).toArray e),?_,⟨?_,?_,?_⟩,?_,?_,fun _=>.inr (za _),?_⟩
   ·have I:=s4;rcases o with⟨e',o⟩ | o
    all_goals
     simp[Builtin.append_,run_underlying W,run_underlying o,sizeOf,typeInfo,zeroValue,V,hz,S,C,hnz,Z,E,D,Question.forced,run_firstCells_none,I,newRow,grownCap,Place.val];congr 2;apply uk;simp
   ·rfl
   ·rfl
   ·rfl
   ·simp
   ·intro k y _;exact heap_alloc_old w.drew _ k y
   ·intro B;have:=fin (grownCap w b.length 0 e) [] (Builtin.zeroCells z.cells (grownCap w b.length 0 e-b.length)).toList ψ (fun i x hx=>by simp at hx) (by simpa using H) G (by simp[size_zeroCells,R]) B;simpa using this
 | some g =>
  obtain⟨cap,ds,rfl,hlc,G,U,M,O⟩:=L;have s:(ds.take (l.length*T.n)).length=l.length*T.n:=by
   rw[xV,M];exact ut (ur _ hlc)
  by_cases m:l.length+b.length≤cap
  ·have N:l.length*T.n+a.length≤ds.length:=by rw[X,M,←uR];exact ur _ m
   have Q:=run_storeCells_at P g (l.length*T.n) e a 0 ds.toArray w U (by simpa using N) h1s;simp only[rI]at Q;have y:KeepsF F w (w.setRow g (ds.take (l.length*T.n)++a++ds.drop (l.length*T.n+a.length)).toArray):=keepsF_setRow U (hqF g rfl);refine⟨⟨g,0,l.length+b.length,cap,false,id⟩,w.setRow g (ds.take (l.length*T.n)++a++ds.drop (l.length*T.n+a.length)).toArray,?_,⟨rfl,rfl,rfl⟩,by rw[size_setRow];exact za _,?_,fun _=>.inl rfl,fun B=>?_⟩
   ·rcases o with⟨e',o⟩ | o<;>simp[Builtin.append_,run_underlying W,run_underlying o,sizeOf,typeInfo,V,S,C,m,s5,Addr.add_lit,Q,Place.val]
   ·intro k hk' hne;exact setRow_other w _ _ fun e=>hne (by rw[e])
   ·refine .inr ⟨rfl,rfl,ψ,by simpa using m,_,setRow_heap w _ _ _ e _ U,?_,G,?_⟩
    ·simp only[yo,s,vu];omega
    ·exact(O.mono (fun _ h=>h) y.f).app s (s3.mono (fun _ h=>h) y.f)
  ·have hgl:cap < l.length+b.length:=ω;have hnr:¬(l.length+b.length≤cap):=m;have E:¬(9223372036854775807 < ((l.length:Int)+(b.length:Int))):=ω;have D:¬(281474976710656 < Builtin.nextslicecap (l.length+b.length) cap*i.bytes):=by
    have:=growslice_fits (bytes:=i.bytes) hgl J;omega
   have H:=grownCap_ge w (l.length+b.length) cap e;have K:=grownCap_le_maxLen w (l.length+b.length) cap e r;have hfo:=run_firstCells_some (P:=P) w.drew T.n l.length ⟨g,0,none⟩ l.length cap (ds.take (l.length*T.n)) s (fun j d hd=>by
    have Y:(⟨g,0,none⟩:Addr).add j=⟨g,j,none⟩:=by unfold Addr.add;split<;>simp_all
    rw[Y];have hj:=(y6.1 hd).1;rw[s]at hj;rw[un hj]at hd;have:=cell_row (w:=w) U j;rw[hd]at this;simpa using this)
   refine⟨⟨w.heap.size,0,l.length+b.length,grownCap w (l.length+b.length) cap e,false,id⟩,w.drew.alloc (.cells (ds.take (l.length*T.n)++a++(Builtin.zeroCells z.cells (grownCap w (l.length+b.length) cap e-(l.length+b.length))).toList).toArray e),?_,⟨?_,?_,?_⟩,?_,?_,fun _=>.inr (za _),?_⟩
   ·have I:=s4;rcases o with⟨e',o⟩ | o
    all_goals
     simp[Builtin.append_,run_underlying W,run_underlying o,sizeOf,typeInfo,zeroValue,V,hz,S,C,hnr,E,D,Question.forced,hfo,I,newRow,grownCap,Place.val];congr 2;apply uk;simp[oX]
   ·rfl
   ·rfl
   ·rfl
   ·simp
   ·intro k y _;exact heap_alloc_old w.drew _ k y
   ·exact fin _ _ _ s O H K (by simp[size_zeroCells,R])
end
section
variable [HasP]{P:Program}{w0 w:World}{m:Nat}{B:Loc}{F:Nat→Prop}{mem mem':Mem}{s:SV}
def dst_row(k:RM w0 m B F mem w){b:Nat}{T:Ty}{l:List T.α}{e:TypeId}(t:m≤b)(i:mem[b]? = some (some (.row T l e false)))(n:Nat)(u:n≤l.length){v:Value}(o:PartV (B b) 0 n T.n v∨(n=l.length∧v=(B b).val)):
  ∃ q,Dst F w T e v (l.take n) q∧RM w0 m B F (mem.set b (some .gone)) w∧(∀ g,q=some g→FreeAt w0 B F (mem.set b (some .gone)) w g)∧Ext mem (mem.set b (some .gone)):=by
 obtain⟨j,s⟩:=k.give t i;have f:Ext mem (mem.set b (some .gone)):=ext_set (y:=.gone) i (fun r h=>by cases h);have d:(l.take n).length=n:=by simp;omega
 rcases k.blk b _ i with⟨k0,rfl⟩ | ⟨k0,k1,k2,k3,ds,k4,k5,k7,k6⟩
 ·refine⟨none,⟨ψ,?_⟩,j,(fun g h=>by cases h),f⟩;rcases o with(⟨_,_,_,h⟩ | ⟨h,_⟩) | ⟨_,rfl⟩
  ·exact h
  ·rw[k0]at h;cases h
  ·simp[Place.val,k0]
 ·refine⟨some (B b).blk,⟨(B b).cap,ds,?_,by rw[d];omega,k7,k4,k5,?_⟩,j,(fun g h=>by cases h;exact s k0),f⟩
  ·rw[d];rcases o with(⟨h,_⟩ | ⟨_,a,c,rfl,c1,h⟩) | ⟨rfl,rfl⟩
   ·rw[k0]at h;cases h
   ·rcases h with⟨rfl,h⟩ | ⟨_,h⟩
    ·have p:c=(B b).cap:=ω;subst p;simp[k1]
    ·exact absurd rfl h
   ·simp[Place.val,k0,k1,k2]
  ·rw[d];exact k6.take n
def dstE_spec(d:RM w0 m B F mem w){e:TypeId}{D:DstA}{v:Value}(h:dstE P m mem e s=some D)(p:D.c=true)(j:VR B F w s v):
  ∃ q,Dst F w D.T e v D.l q∧RM w0 m B F D.mem w∧(∀ g,q=some g→FreeAt w0 B F D.mem w g)∧Ext mem D.mem:=by
 unfold dstE at h;split at h
 ·obtain⟨T,t,rfl⟩:=tF.1 h;cases j;exact⟨none,⟨rfl,rfl⟩,d,(fun g h=>by cases h),Ext.refl _⟩
 ·rename_i b;split at h
  ·rename_i T l o f;split at h
   ·rename_i a;obtain⟨i,rfl⟩:=a;cases h;cases j;have:=dst_row d i f l.length (za _) (.inr ⟨rfl,rfl⟩)
    rwa [List.take_length]at this
   ·cases h
  ·cases h
 ·rename_i b n k;split at h
  ·rename_i T l o f;split at h
   ·rename_i a;obtain⟨i,rfl,rfl⟩:=a;cases h;cases j with | part _ _ _ _ _ r=>exact dst_row d i f n (by simpa using p) (.inl r)
   ·cases h
  ·cases h
 ·cases h
def appE_sound(C:RM w0 m B F mem w){t u rt:TypeId}{r:Res}{a b o:SV}{x y:Value}(hx:VR B F w a x)(hy:VR B F w b y)(d:appE P m mem t u a b=some r)(W:r.Out o mem'):
  ∃ B' w' z,(Builtin.append_ #[t,u] rt #[x,y]).run P w=.ok z w'∧VR B' F w' o z∧RM w0 m B' F mem' w'∧(∀ i,Live mem i→B' i=B i)∧KeepsF F w w'∧Ext mem mem'∧Bd (Live mem') o:=by
 unfold appE at d;split at d
 ·rename_i e Y;split at d
  ·rename_i i D I O;split at d
   ·rename_i z hz;split at d
    ·rename_i v;obtain⟨L,M,N⟩:=v;split at d
     ·rename_i X Q;cases d;obtain⟨ll,j,U⟩:=W;cases U;unfold apL at j;split at j
      ·rename_i R;cases j;obtain⟨n,G,H⟩:=R;simp only[zm]at n;obtain⟨q,S,E,f,k⟩:=dstE_spec C O n.1 hx;obtain⟨⟨K,J⟩,Z⟩:=srcE_spec (P:=P) (T:=D.T) (c:=X.1) (l:=X.2) C Q n.2 hy;obtain⟨p,w',k1,k2,k3,k4,k5,k6⟩:=append_run (rt:=rt) Y Z I hz L M N C.lt (fun g V=>(f g V).2.1) S J G H;obtain⟨l1,l2⟩:=E.add q (.row D.T (D.l++X.2) e false) p k2 k3 k4 f k5 rfl (k6 _) (fun s J=>by cases J);have A:∀ i,Live mem i→upd B D.mem.length p i=B i:=fun i I=>upd_old B (sR (k.live i I).lt);refine⟨_,w',_,k1,?_,l1,A,l2,k.trans (live_push D.mem _ (fun r h=>by cases h)).1,.row (live_push' D.mem _).2⟩;have:=VR.row (B:=upd B D.mem.length p) (F:=F) (w:=w') D.mem.length
       rwa [upd_new]at this
      ·cases j
     ·cases d
    ·cases d
   ·cases d
  ·cases d
 ·cases d
def RowD.drop{T:Ty}{l:List T.α}{ds:List Value}(h:RowD F w T l ds)(n:Nat):RowD F w T (l.drop n) (ds.drop (n*T.n)):=by
 intro i x a;rw[ue]at a;obtain⟨b,c,e⟩:=h _ x a;exact⟨b,c,fun j d f=>by rw[ue];have:=e j d f;rwa [uR,xo]at this⟩
def copy_run{T:Ty}{e t u rt:TypeId}(A:P.underlying t=some (.slice e))(j:(P.info? e).map (·.size)=some T.n){x:Value}{l:List T.α}{a:List Value}(z:Src P F w T x l a)(y:0 < T.n)
  {g o dn cap:Nat} {b:List Value} {p:TypeId} (s:w.heap[g]? = some (.cells b.toArray p (0,0))) (f:o+min l.length dn*T.n≤b.length) :
  (Builtin.copy_ #[t,u] rt #[.slice (some ⟨g,o,none⟩) dn cap,x]).run P w=.ok (goInt ((min l.length dn:Nat):Int)) (w.setRow g (b.take o++a.take (min l.length dn*T.n)++b.drop (o+min l.length dn*T.n)).toArray):=by
 obtain⟨C,m,D,_,E⟩:=z;have r:=E (min l.length dn) (k8 _ _);have c:(a.take (min l.length dn*T.n)).length=min l.length dn*T.n:=by
  rw[xV,m];exact ut (ur _ (k8 _ _))
 have h:=D.ones m y;have d:=run_storeCells_at P g o p (a.take (min l.length dn*T.n)) 0 b.toArray w s (by rw[c];simpa using f) (fun v B=>h v (rB B));rw[c]at d;simp only[rI]at d;cases k:P.info? e with
 | none=>simp[k]at j
 | some i =>
  have j:i.size=T.n:=by simpa [k]using j
  have q:Nat.min l.length dn=min l.length dn:=rfl;simp[Builtin.copy_,run_underlying A,C,k,j,r,d,sizeOf,typeInfo,q]
def copy_run0{T:Ty}{e t u rt:TypeId}(j:P.underlying t=some (.slice e))(c:(P.info? e).map (·.size)=some T.n){x:Value}{l:List T.α}{b:List Value}(h:Src P F w T x l b){a:Option Addr}{cap:Nat}:
  (Builtin.copy_ #[t,u] rt #[.slice a 0 cap,x]).run P w=.ok (goInt 0) w:=by
 obtain⟨k,o,p,_,m⟩:=h;have g:=m 0 (wD _);cases d:P.info? e with
 | none=>simp[d]at c
 | some i =>
  have c:i.size=T.n:=by simpa [d]using c
  have f:Nat.min l.length 0=0:=Nat.min_zero _;cases a<;>simp[Builtin.copy_,run_underlying j,k,d,c,g,sizeOf,typeInfo,f,storeCells]
def cp_self{mem:Mem}{b:Nat}{x:Option Blk}(h:mem[b]? = some x):mem.set b x=mem:=by
 apply vE;intro i;rw[yd];split
 ·rename_i e;subst e;rw[gT (y6.1 h).1,h]
 ·rfl
def cpL_some{α:Type}{c:Bool}{b dn:Nat}{l a:List α}{r:Nat×List α}(h:cpL c b dn l a=some r):c=true∧b+dn≤l.length∧r=(min a.length dn,l.take b++a.take (min a.length dn)++l.drop (b+min a.length dn)):=by
 unfold cpL at h;split at h
 ·rename_i d;cases h;exact⟨d.1,d.2,rfl⟩
 ·cases h
def cpL_zero{α:Type}{b:Nat}{l a:List α}:l.take b++a.take (min a.length 0)++l.drop (b+min a.length 0)=l:=ψ
def copy_row(E:RM w0 m B F mem w){T:Ty}{e t u rt G:TypeId}(J:P.underlying t=some (.slice e))(H:(P.info? e).map (·.size)=some T.n)(M:0 < T.n){b g dn:Nat}(L:m≤b){l:List T.α}(q:mem[b]? = some (some (.row T l G false)))
  {x v:Value} {d:List T.α} {i:List Value} (D:Src P F w T x d i) (K:g+dn≤l.length) (N:(dn=0∧∃ a c,v=.slice a 0 c)∨((B b).nil=false∧∃ c,v=.slice (some ⟨(B b).blk,(B b).off+g*T.n,none⟩) dn c)) :
  ∃ w',(Builtin.copy_ #[t,u] rt #[v,x]).run P w=.ok (.int .i64 (min d.length dn:Nat)) w'∧RM w0 m B F (mem.set b (some (.row T (l.take g++d.take (min d.length dn)++l.drop (g+min d.length dn)) G false))) w'∧
   KeepsF F w w'∧Ext mem (mem.set b (some (.row T (l.take g++d.take (min d.length dn)++l.drop (g+min d.length dn)) G false))):=by
 rcases N with⟨rfl,a,c,rfl⟩ | ⟨h0,c,rfl⟩
 ·refine⟨w,?_,?_,KeepsF.refl _ _,?_⟩
  ·rw[copy_run0 J H D];simp[goInt]
  ·rw[cpL_zero,cp_self q];exact E
  ·rw[cpL_zero,cp_self q];exact Ext.refl _
 ·rcases E.blk b _ q with⟨h1,_⟩ | ⟨_,h1,h2,h3,ds,h4,h5,h7,h6⟩
  ·rw[h1]at h0;cases h0
  ·obtain⟨R,O,Q,S,U⟩:=id D;have z:g*T.n+min d.length dn*T.n≤ds.length:=by
    rw[h5,←uR];exact ur _ (by have:=ii d.length dn;omega)
   have C:=copy_run (rt:=rt) (u:=u) J H D M (o:=g*T.n) (dn:=dn) (cap:=c) h4 z;have y:KeepsF F w (w.setRow (B b).blk (ds.take (g*T.n)++i.take (min d.length dn*T.n)++ds.drop (g*T.n+min d.length dn*T.n)).toArray):=keepsF_setRow h4 (E.fr b _ q rfl h0 rfl);have I:=ii d.length dn;have p:=k8 d.length dn;have A:(i.take (min d.length dn*T.n)).length=min d.length dn*T.n:=by
    rw[xV,O];exact ut (ur _ p)
   have j:(ds.take (g*T.n)).length=g*T.n:=by rw[xV];omega
   refine⟨_,by rw[h1,wm];exact C,E.turn L q rfl rfl rfl (size_setRow _ _ _) ⟨rfl,rfl,rfl⟩ h0 (fun k y=>setRow_other w _ _ y) (by rw[h4];simp) ?_ (fun s D=>by cases D),y,ext_set q (fun r h=>by cases h)⟩;refine .inr ⟨h0,h1,?_,?_,_,setRow_heap w _ _ _ G _ h4,?_,h7,?_⟩
   ·rw[h2];simp only[yo,xV,vu];omega
   ·have:(l.take g++d.take (min d.length dn)++l.drop (g+min d.length dn)).length=l.length:=by simp only[yo,xV,vu];omega
    rw[this];exact h3
   ·simp only[yo,j,A,vu,h5];rw[h5]at z;omega
   ·have r1:=(h6.take g).mono (fun _ h=>h) y.f;have r2:=(Q.take (min d.length dn)).mono (fun _ h=>h) y.f;have r3:=(h6.drop (g+min d.length dn)).mono (fun _ h=>h) y.f;rw[uR]at r3;have c1:=r1.app (rest:=[]) (by rw[j,xV];congr 1;omega) r2;rw[tc]at c1;have c2:=c1.app (rest:=[]) (by rw[yo,yo,j,A,xV,xV,uR];congr 2<;>omega) r3;rw[tc]at c2;exact c2
def copyE_sound(f:RM w0 m B F mem w){t u rt:TypeId}{r:Res}{a b o:SV}{x y:Value}(L:VR B F w a x)(M:VR B F w b y)(d:copyE P m mem t u a b=some r)(J:r.Out o mem'):
  ∃ w' z,(Builtin.copy_ #[t,u] rt #[x,y]).run P w=.ok z w'∧VR B F w' o z∧RM w0 m B F mem' w'∧KeepsF F w w'∧Ext mem mem'∧Bd (Live mem') o:=by
 unfold copyE at d;split at d
 ·rename_i e Q K R;split at d
  ·rename_i b';split at d
   ·rename_i T l O h;split at d
    ·rename_i s;obtain⟨c1,c2,c3,_⟩:=s;split at d
     ·rename_i X p;cases d;obtain⟨q,C,A⟩:=J;obtain⟨i,j,rfl⟩:=cpL_some C;cases A;obtain⟨⟨g,D⟩,_⟩:=srcE_spec (P:=P) (T:=T) (c:=X.1) (l:=X.2) f p i M;cases L;obtain⟨w',E,G,H,I⟩:=copy_row (rt:=rt) (u:=u) (v:=(B b').val) f K c2 c3 c1 h D j (by
       rcases f.blk b' _ h with⟨h1,rfl⟩ | ⟨h0,h1,h2,_⟩
       ·exact .inl ⟨rfl,_,_,by simp[Place.val,h1];exact⟨rfl,rfl⟩⟩
       ·exact .inr ⟨h0,_,by simp[Place.val,h0,h2];rfl⟩)
      exact⟨w',_,E,.v _,G,H,I,.v _⟩
     ·cases d
    ·cases d
   ·cases d
  ·rename_i b' S n k;split at d
   ·rename_i T l O h;split at d
    ·rename_i s;obtain⟨⟨c1,c2,c3,_⟩,rfl⟩:=s;split at d
     ·rename_i X p;cases d;obtain⟨q,C,A⟩:=J;obtain⟨i,j,rfl⟩:=cpL_some C;cases A;obtain⟨⟨g,D⟩,_⟩:=srcE_spec (P:=P) (T:=T) (c:=X.1) (l:=X.2) f p i M;cases L with | part _ _ _ _ _ N =>
       obtain⟨w',E,G,H,I⟩:=copy_row (rt:=rt) (u:=u) (v:=x) f K c2 c3 c1 h D j (by
        rcases N with⟨_,rfl,rfl,rfl⟩ | ⟨p0,a,c,rfl,_,⟨rfl,_⟩ | ⟨rfl,_⟩⟩
        ·exact .inl ⟨rfl,_,_,rfl⟩
        ·exact .inr ⟨p0,_,rfl⟩
        ·exact .inl ⟨rfl,_,_,rfl⟩)
       exact⟨w',_,E,.v _,G,H,I,.v _⟩
     ·cases d
    ·cases d
   ·cases d
  ·cases d
 ·cases d
def bytes_loop:∀ (l:List Int) (s:ByteArray) (w:World),(forIn (m:=Sem) (l.map fun n=>Value.int .u8 n) s fun c s=>(match c with
      | .int .u8 n=>pure (ForInStep.yield (s.push (UInt8.ofNat n.toNat)))
      | _=>stuck "bytesToString: byte expected" : Sem (ForInStep ByteArray))).run P w=.ok (l.foldl (fun s n=>s.push (UInt8.ofNat n.toNat)) s) w
  | [],s,w=>rfl
  | n::l,s,w=>by
    rw[rz,List.forIn_cons,Sem.run_bind];exact bytes_loop l _ w
def bytesS_fold(l:List Int):∀ s:ByteArray,l.foldl (fun s n=>s.push (UInt8.ofNat n.toNat)) s=⟨s.data++(l.map fun n=>UInt8.ofNat n.toNat).toArray⟩:=by
 induction l with
 | nil=>intro s;simp
 | cons n l a =>
  intro s;rw[tf,a];congr 1;apply uk;simp[ByteArray.push]
def rowD_u8{l:List Int}{ds:List Value}(h:RowD F w (.int .u8) l ds)(e:ds.length=l.length*(Ty.int .u8).n):ds=l.map fun n=>Value.int .u8 n:=by
 apply vE;intro i;rw[yz];cases b:l[i]? with
 | none =>
  simp only[Ty.n,mo]at e;rw[k9]at b;rw[mj,k9];omega
 | some x =>
  obtain⟨c,d,a⟩:=h i x b;rw[show c=_ from d]at a;have:=a 0 _ rfl;simpa [Ty.n]using this
def bytes_run{x:Value}{l:List Int}{b:List Value}(f:Src P F w (.int .u8) x l b)(i:(∃ a c,x=.slice (some a) l.length c)∨(x=.slice none 0 0∧l=[])):(Conv.bytesToString x).run P w=.ok (.string (bytesS l)) w:=by
 rcases i with⟨a,c,rfl⟩ | ⟨rfl,rfl⟩
 ·obtain⟨_,d⟩:=f.full;obtain⟨_,g,h,_,_⟩:=f;have e:=rowD_u8 h g;subst e;simp only[Builtin.firstCells,Ty.n,mo]at d;unfold Conv.bytesToString;simp only[Sem.run_bind,d,Result.andThen_ok,List.forIn_toArray,Sem.run_pure];have:=bytes_loop (P:=P) l ByteArray.empty w;refine(congrArg (fun r=>Result.andThen r _) this).trans ?_;simp only[Result.andThen_ok,Sem.run_pure,bytesS_fold];simp[bytesS]
 ·rfl
def mapTy_some{t:TypeId}{k:IntKind}{b:TypeId}(h:mapTy P t=some (k,b)):∃ a,P.underlying t=some (.map a b)∧P.underlying a=some (.int k):=by
 unfold mapTy at h;split at h
 ·rename_i a c e;split at h
  ·rename_i f d;cases h;exact⟨a,e,d⟩
  ·cases h
 ·cases h
def checkKey_int{a:TypeId}{k:IntKind}(c:P.underlying a=some (.int k))(b:Bool)(n:Nat)(i:Int)(w:World):(Instr.checkKey b (n+1) a (.int k i)).run P w=.ok () w:=by
 simp only[Instr.checkKey,Sem.run_bind,run_underlying c,Result.andThen_ok];rfl
def findNow_none{k:IntKind}{i:Int}:∀ {a:List MapEntry} (n:Nat),(∀ e∈a,∃ y,e.key=.int k y∧(i==y)=false)→Instr.findNow (.int k) (.int k i) a n=some none
 | [],n,h=>rfl
 | e::a,n,h=>by
  obtain⟨y,b,c⟩:=h e (uL ..);simp only[Instr.findNow,b,Instr.sameNow,if_true,c];exact findNow_none (n+1) fun e d=>h e (s9 _ d)
def findNow_some{k:IntKind}{i:Int}:∀ {b:List MapEntry} (n j:Nat) (e:MapEntry),b[j]? = some e→e.key=.int k i→(∀ c a,c < j→b[c]? = some a→∃ y,a.key=.int k y∧(i==y)=false)→Instr.findNow (.int k) (.int k i) b n=some (some (n+j,e.val))
 | [],n,j,e,h,_,_=>by simp at h
 | a::b,n,0,e,h,hk,_=>by
  simp at h;subst h;simp only[Instr.findNow,hk,Instr.sameNow,if_true,beq_self_eq_true,rI]
 | a::b,n,j+1,e,h,hk,hp=>by
  obtain⟨y,f,g⟩:=hp 0 a ω rfl;simp only[Instr.findNow,f,Instr.sameNow,if_true,g];rw[findNow_some (n+1) j e (by simpa using h) hk fun c d m l=>hp (c+1) d ω (by simpa using l)];congr 3;omega
def MapR.absent{k:IntKind}{c:List (Int×SV)}{p:Nat}{a:Nat→Nat}{b:Array MapEntry}(h:MapR B F w k c p a b){i:Int}(l:∀ e∈c,(i==e.1)=false):Instr.findNow (.int k) (.int k i) b.toList 0=some none :=
 findNow_none 0 fun e d=>by
  obtain⟨j,f⟩:=mh d;obtain⟨q,x,m,_,g,_⟩:=h.at (j:=j) (e:=e) (by rw[←vi];exact f);exact⟨x.1,g,l x (xj m)⟩
def MapR.present{k:IntKind}{d:List (Int×SV)}{p:Nat}{a:Nat→Nat}{c:Array MapEntry}(h:MapR B F w k d p a c){j:Nat}{x:Int×SV}(g:d[j]? = some x):∃ z,Instr.findNow (.int k) (.int k x.1) c.toList 0=some (some (a j,z))∧VR B F w x.2 z:=by
 obtain⟨e,i,l,m⟩:=h.ent j x g;refine⟨e.val,?_,m⟩;rw[findNow_some 0 (a j) e (by rw[vi];exact i) l fun t b r f=>?_,wm];rw[vi]at f;obtain⟨q,y,o,s,n,_⟩:=h.at f;refine⟨y.1,n,?_⟩;rw[beq_eq_false_iff_ne];intro b;have:=h.nd j q x y g o b;subst this;omega
def insertE_sound(C:RM w0 m B F mem w){t:TypeId}{r:Res}{a b c o:SV}{x y z:Value}(Y:VR B F w a x)(Z:VR B F w b y)(hz:VR B F w c z)(J:Bd (Live mem) c)(j:insertE P m mem t a b c=some r)(W:r.Out o mem'):
  o=.any∧∃ w',(Instr.mapUpdate t x y z).run P w=.ok () w'∧RM w0 m B F mem' w'∧Ext mem mem'∧KeepsF F w w':=by
 unfold insertE at j;split at j
 ·rename_i k et q k' i O;obtain⟨kt,X,p⟩:=mapTy_some O;split at j
  ·rename_i Q A n H;split at j
   ·rename_i G;obtain⟨V,rfl,rfl⟩:=G;split at j
    ·rename_i D;cases j;obtain⟨rfl,rfl⟩:=W;cases Y;cases Z;obtain⟨R,I,l,S⟩:=C.blk q _ H;have N:=lt_of_some l;have g:∀ e∈A,(i==e.1)=false:=fun e U=>by
      have:=ym.1 D e U;simpa using this
     have L:=S.absent g;refine⟨rfl,w.putObj (B q).blk (.map (I.push { key:=.int Q i,val:=z,born:=A.length }) (A.length+1)),?_,?_,ext_set H (fun r h=>by cases h),?_⟩
     ·simp only[Instr.mapUpdate,Sem.run_bind,run_underlying X,Result.andThen_ok];rw[show(getObj (B q).blk).run P w=.ok (.map I A.length) w from by simp[getObj,Sem.run,l]];have K:(Instr.checkKey false 10000 kt (.int Q i)).run P w=.ok () w:=checkKey_int p false 9999 i w;simp only[Result.andThen_ok,Sem.run_bind,K,Instr.findKey,Sem.run_bind,run_underlying p,L,Sem.run_pure];simp[setObj,Sem.run,l,World.putObj]
     ·have M:KeepsF F w (w.putObj (B q).blk (.map (I.push { key:=.int Q i,val:=z,born:=A.length }) (A.length+1))):=by
       refine⟨fun k p=>wN fun e=>?_,fun d u=>?_,by simp[World.putObj]⟩
       ·obtain⟨T,t',zz,E⟩:=C.fc k p;rw[e,l]at E;cases E
       ·rw[wN fun e=>by rw[e,l]at u;cases u];exact u
      refine C.turn V H rfl rfl rfl (by simp[World.putObj]) ⟨rfl,rfl,rfl⟩ R (fun k p=>wN p) (by rw[l];simp) ?_ ?_
      ·exact⟨R,_,by rw[yo];exact World.putObj_heap_same N,(S.push (x:=(i,c)) hz g).mono (fun _ h=>h) M.f⟩
      ·intro s v;simp only[Blk.refs,kg,xz]at v;rcases v with v | v
       ·exact C.bd q _ H s v
       ·simp at v;subst v;exact J
     ·refine⟨fun k p=>wN fun e=>?_,fun d u=>?_,by simp[World.putObj]⟩
      ·obtain⟨T,t',zz,E⟩:=C.fc k p;rw[e,l]at E;cases E
      ·rw[wN fun e=>by rw[e,l]at u;cases u];exact u
    ·cases j
   ·cases j
  ·cases j
 ·cases j
def entryE_sound(J:RM w0 m B F mem w){t:TypeId}{r:Res}{a b o:SV}{x y:Value}(Y:VR B F w a x)(Z:VR B F w b y)(A:entryE P m mem t a b=some r)(W:r.Out o mem'):
  ∃ w' z,(Instr.mapEntry t x y).run P w=.ok z w'∧VR B F w' o z∧Bd (Live mem') o∧RM w0 m B F mem' w'∧Ext mem mem'∧KeepsF F w w':=by
 unfold entryE at A;split at A
 ·rename_i k et q k' i R;obtain⟨kt,X,D⟩:=mapTy_some R;split at A
  ·rename_i L p n l K hz;split at A
   ·rename_i G;obtain⟨V,rfl,rfl⟩:=G;split at A
    ·rename_i E;cases A;obtain⟨rfl,rfl⟩:=W;cases Y;cases Z;obtain⟨S,I,c,C⟩:=J.blk q _ K;have Q:=lt_of_some c;have u:∀ e∈p,(i==e.1)=false:=fun e U=>by
      have:=ym.1 E e U;simpa using this
     have O:=C.absent u;have H:KeepsF F w (w.putObj (B q).blk (.map (I.push { key:=.int L i,val:=l,born:=p.length }) (p.length+1))):=by
      refine⟨fun k D=>wN fun e=>?_,fun d N=>?_,by simp[World.putObj]⟩
      ·obtain⟨cs,t',l,T⟩:=J.fc k D;rw[e,c]at T;cases T
      ·rw[wN fun e=>by rw[e,c]at N;cases N];exact N
     refine⟨w.putObj (B q).blk (.map (I.push { key:=.int L i,val:=l,born:=p.length }) (p.length+1)),.tuple #[l,goInt p.length],?_,?_,?_,?_,ext_set K (fun r h=>by cases h),H⟩
     ·simp only[Instr.mapEntry,Sem.run_bind,run_underlying X,Result.andThen_ok];rw[show(getObj (B q).blk).run P w=.ok (.map I p.length) w from by simp[getObj,Sem.run,c]];have M:(Instr.checkKey false 10000 kt (.int L i)).run P w=.ok () w:=checkKey_int D false 9999 i w;simp only[Result.andThen_ok,Sem.run_bind,M,Instr.findKey,Sem.run_bind,run_underlying D,O,Sem.run_pure,Rx.pureRun_run P _ _ hz w];simp[setObj,Sem.run,c,World.putObj]
     ·have:=VR.tup (B:=B) (F:=F) (w:=w.putObj (B q).blk (.map (I.push { key:=.int L i,val:=l,born:=p.length }) (p.length+1))) [ofVal 5 l,.v (.int .i64 p.length)] [l,goInt p.length] rfl (fun j s d c C=>by
       match j,c,C with
       | 0,c,C=>cases c;cases C;exact vr_ofVal 5 l
       | 1,c,C=>cases c;cases C;exact .v _
       | j+2,c,C=>simp at c)
      simpa using this
     ·exact .tup fun s g=>by
       rcases ww.1 g with rfl | g
       ·exact bd_ofVal 5 l
       ·rw[sj]at g;subst g;exact .v _
     ·refine J.turn V K rfl rfl rfl (by simp[World.putObj]) ⟨rfl,rfl,rfl⟩ S (fun k D=>wN D) (by rw[c];simp) ?_ ?_
      ·exact⟨S,_,by rw[yo];exact World.putObj_heap_same Q,(C.push (x:=(i,ofVal 5 l)) (vr_ofVal 5 l) u).mono (fun _ h=>h) H.f⟩
      ·intro s g;simp only[Blk.refs,kg,xz]at g;rcases g with g | g
       ·exact J.bd q _ K s g
       ·simp at g;subst g;exact bd_ofVal 5 l
    ·cases A
   ·cases A
  ·cases A
 ·cases A
def map_modify_set{α β:Type}(g:α→β)(f:α→α)(c:β)(b:∀ a,g (f a)=c):∀ (l:List α) (i:Nat),(l.modify i f).map g=(l.map g).set i c
 | [],i=>ψ
 | a::l,0=>by simp[b]
 | a::l,i+1=>by simp[map_modify_set g f c b l i]
def find_stamp{a:Array MapEntry}(b:∀ (i:Nat) (e:MapEntry),a[i]? = some e→e.born=i){j:Nat}(d:j < a.size):a.findIdx? (fun e=>(e.born:Int)==(j:Int))=some j:=by
 have b:∀ k (c:k < a.size),a[k].born=k:=fun k c=>b k _ (xy c);rw[Array.findIdx?_eq_some_iff_getElem];refine⟨ω,by rw[b j ω];simp,fun k c=>?_⟩;rw[b k ω];simp;omega
def MapR.stamp{k:IntKind}{n:List (Int×SV)}{p:Nat}{g:Nat→Nat}{m:Array MapEntry}(h:MapR B F w k n p g m){j:Nat}(A:p≤j){c:SV}{z:Value}(G:VR B F w c z):
  MapR B F w k (n.modify j fun e=>(e.1,c)) p g (m.modify j fun e=>{ e with val:=z }):=by
 have d:∀ {i:Nat} {x:Int×SV},(n.modify j fun e=>(e.1,c))[i]? = some x→∃ y,n[i]? = some y∧x=if j=i then(y.1,c)else y:=fun {i x} l=>by
  rw[List.getElem?_modify]at l;obtain⟨y,r,e⟩:=tF.1 l;exact⟨y,r,e.symm⟩
 have b:∀ (i:Nat),(m.modify j fun e=>{ e with val:=z })[i]? =(m[i]?).map fun e=>if j=i then { e with val:=z } else e:=fun i=>by
  rw[oS];by_cases e:j=i
  ·simp[e]
  ·simp[e]
 refine⟨by simp[h.size],fun i e l=>?_,h.inv,h.fix,by simp[h.le],fun i H x y q r e=>?_,fun i x q=>?_⟩
 ·rw[b]at l;obtain⟨C,E,rfl⟩:=tF.1 l;have:=h.born i C E;split<;>exact this
 ·obtain⟨t,f,rfl⟩:=d q;obtain⟨I,s,rfl⟩:=d r;refine h.nd i H t I f s ?_;revert e;split<;>split<;>exact fun e=>e
 ·obtain⟨t,f,rfl⟩:=d q;obtain⟨e,u,v,D⟩:=h.ent i t f;by_cases a:j=i
  ·subst a;refine⟨{ e with val:=z },?_,by rw[gT rfl];exact v,by rw[gT rfl];exact G⟩;rw[b,u,h.fix j A];simp
  ·have o:¬j=g i:=fun e=>a (h.inj (by rw[h.fix j A];exact e));refine⟨e,by rw[b,u];simp[o],by rw[gR a];exact v,by rw[gR a];exact D⟩
def stampE_sound(C:RM w0 m B F mem w){t:TypeId}{r:Res}{a b c o:SV}{x y z:Value}(U:VR B F w a x)(V:VR B F w b y)(W:VR B F w c z)(I:Bd (Live mem) c)(g:stampE m mem a b c=some r)(T:r.Out o mem'):
  o=.any∧∃ w',(Instr.entryStore t x y z).run P w=.ok () w'∧RM w0 m B F mem' w'∧Ext mem mem'∧KeepsF F w w':=by
 unfold stampE at g;split at g
 ·rename_i q j;split at g
  ·rename_i Y G p D;split at g
   ·rename_i l;obtain⟨S,K,u,Q⟩:=l;cases g;obtain⟨rfl,rfl⟩:=T;cases U;cases V;obtain⟨n,rfl⟩:=Int.eq_ofNat_of_zero_le K;simp only[Int.toNat_natCast]at Q u⊢;obtain⟨N,E,i,H⟩:=C.blk q _ D;have M:=lt_of_some i;have R:=find_stamp H.born (j:=n) (by rw[H.size];exact Q);have v:KeepsF F w (w.putObj (B q).blk (.map (E.modify n fun e=>{ e with val:=z }) G.length)):=by
     refine⟨fun k L=>wN fun e=>?_,fun d J=>?_,by simp[World.putObj]⟩
     ·obtain⟨X,Z,zz,O⟩:=C.fc k L;rw[e,i]at O;cases O
     ·rw[wN fun e=>by rw[e,i]at J;cases J];exact J
    refine⟨trivial,w.putObj (B q).blk (.map (E.modify n fun e=>{ e with val:=z }) G.length),?_,?_,ext_set D (fun r h=>by cases h),v⟩
    ·simp only[Instr.entryStore,Sem.run_bind];rw[show(getObj (B q).blk).run P w=.ok (.map E G.length) w from by simp[getObj,Sem.run,i]];simp only[Result.andThen_ok,Sem.run_bind,asInt,asIntOf,Sem.run_pure,R];simp[setObj,Sem.run,i,World.putObj]
    ·refine C.turn S D rfl rfl rfl (by simp[World.putObj]) ⟨rfl,rfl,rfl⟩ N (fun k L=>wN L) (by rw[i];simp) ?_ ?_
     ·exact⟨N,_,by rw[List.length_modify];exact World.putObj_heap_same M,(H.stamp u W).mono (fun _ h=>h) v.f⟩
     ·intro s A;simp only[Blk.refs]at A;rw[map_modify_set (fun e:Int×SV=>e.2) (fun e=>(e.1,c)) c (fun _=>rfl)]at A;rcases List.mem_or_eq_of_mem_set A with A | rfl
      ·exact C.bd q _ D s A
      ·exact I
   ·cases g
  ·cases g
 ·cases g
def lookA_out{i:Int}{z:SV}{ok:Bool}{o:SV}:∀ {a:List (Int×SV)},(lookA mem i z ok a).Out o mem'→
  mem'=mem∧(((∀ e∈a,(i==e.1)=false)∧o=bif ok then .tup [z,.v (.bool false)]else z)∨
   ∃ (j:Nat) (x:Int×SV),a[j]? = some x∧i=x.1∧o=bif ok then .tup [x.2,.v (.bool true)]else x.2)
 | [],ho=>⟨ho.2,.inl ⟨fun e h=>(by cases h),ho.1⟩⟩
 | f::a,ho=>by
  rcases ho with⟨hc,ho⟩ | ⟨hc,ho⟩
  ·exact⟨ho.2,.inr ⟨0,f,rfl,by simpa using hc,ho.1⟩⟩
  ·obtain⟨c,d⟩:=lookA_out ho;refine⟨c,?_⟩;rcases d with⟨h1,h2⟩ | ⟨j,x,h1,h2,h3⟩
   ·exact .inl ⟨fun e b=>by
     rcases ww.1 b with rfl | b
     ·exact hc
     ·exact h1 e b,h2⟩
   ·exact .inr ⟨j+1,x,by simpa using h1,h2,h3⟩
def lookupE_sound(H:RM w0 m B F mem w){t:TypeId}{r:Res}{a b o:SV}{x y:Value}{ok:Bool}(S:VR B F w a x)(T:VR B F w b y)(c:lookupE P mem t a b ok=some r)(Q:r.Out o mem'):
  mem'=mem∧Bd (Live mem) o∧∃ z,(Instr.lookup t x y ok).run P w=.ok z w∧VR B F w o z:=by
 unfold lookupE at c;split at c
 ·rename_i k W q Y i C;obtain⟨V,g,J⟩:=mapTy_some C;split at c
  ·rename_i h M n z I U;split at c
   ·rename_i f;obtain⟨rfl,rfl⟩:=f;cases c;cases S;cases T;obtain⟨X,l,N,G⟩:=H.blk q _ I;obtain⟨O,R⟩:=lookA_out Q;have d:∀ (r0:Option (Nat×Value)),Instr.findNow (.int h) (.int h i) l.toList 0=some r0→(Instr.lookup t (.map (some (B q).blk)) (.int h i) ok).run P w =
      .ok (match r0 with | some (_,v)=>(if ok then .tuple #[v,.bool true]else v) | none=>(if ok then .tuple #[z,.bool false]else z)) w:=by
     intro r0 D;simp only[Instr.lookup,Sem.run_bind,run_underlying g,Result.andThen_ok];rw[show(getObj (B q).blk).run P w=.ok (.map l M.length) w from by simp[getObj,Sem.run,N]];have A:(Instr.checkKey l.isEmpty 10000 V (.int h i)).run P w=.ok () w:=checkKey_int J _ 9999 i w;simp only[Result.andThen_ok,Sem.run_bind,Sem.run_pure,A,Instr.findKey,Sem.run_bind,run_underlying J,D,Sem.run_pure];cases r0 with
     | none=>simp only[Sem.run_bind,Rx.pureRun_run P _ _ U w,Result.andThen_ok,Sem.run_pure]
     | some p=>simp only[Sem.run_bind,Result.andThen_ok,Sem.run_pure]
    subst O;rcases R with⟨e1,rfl⟩ | ⟨j,x,e1,rfl,rfl⟩
    ·refine⟨rfl,?_,_,d _ (G.absent e1),?_⟩
     ·cases ok
      ·exact bd_ofVal 5 z
      ·exact .tup fun s K=>by simp at K;rcases K with rfl | rfl;exact bd_ofVal 5 z;exact .v _
     ·cases ok
      ·exact vr_ofVal 5 z
      ·exact VR.tup' (ds:=[z,.bool false]) (.cons (vr_ofVal 5 z) (.cons (.v _) .nil))
    ·have e:Bd (Live mem') x.2:=H.bd q _ I x.2 (yy.2 ⟨x,xj e1,rfl⟩);obtain⟨v,L,E⟩:=G.present e1;refine⟨rfl,?_,_,d _ L,?_⟩
     ·cases ok
      ·exact e
      ·exact .tup fun u g=>by simp at g;rcases g with rfl | rfl;exact e;exact .v _
     ·cases ok
      ·exact E
      ·exact VR.tup' (ds:=[v,.bool true]) (.cons E (.cons (.v _) .nil))
   ·cases c
  ·cases c
 ·cases c
end
section
variable [HasP]{P:Program}{w0 w:World}{m:Nat}{B:Loc}{F:Nat→Prop}{mem mem':Mem}{ts:List SV}{a:Act}{o:Oper}{s:SV}
def fieldAddrE_sound{D:Nat→Prop}{t:TypeId}{f:Nat}{u:SV}{x:Value}(d:Bd D s)(g:VR B F w s x)(a:fieldAddrE P t f s=some u):
  Bd D u∧∃ y,(Instr.fieldAt t x f).run P w=.ok y w∧VR B F w u y:=by
 unfold fieldAddrE at a;split at a
 ·rename_i r q;split at a
  ·rename_i i n;split at a
   ·rename_i k o;have e:¬(k+1=0):=ω;have c:∀ b p,(Instr.fieldAt t (.pointer (some ⟨b,p,none⟩)) f).run P w=.ok (.pointer (some ⟨b,p+i.offset,none⟩)) w:=fun b p=>by
     simp only[Instr.fieldAt,Sem.run_bind,run_underlying q,Result.andThen_ok,n,Instr.sureAddr,Sem.run_pure,fieldPlace,Rx.run_sizeOf o,e,if_false];congr 3;unfold Addr.add;split<;>simp_all
    split at a
    ·cases a;cases g;cases d with | ptr d=>exact⟨.ptr d,_,c _ _,by rw[xo];exact .ptr _ _⟩
    ·cases a;cases g with | ep _ _ _ b p h j l m=>exact⟨.ep,_,c _ _,by rw[xo];exact .ep _ _ _ b p h j l m⟩
    ·cases a;cases g;cases d with | rp d=>exact⟨.rp d,_,c _ _,by rw[xo,xo];exact .rp _ _ _ _⟩
    ·cases a
   ·cases a
  ·cases a
 ·cases a
def fieldE_sound{D:Nat→Prop}{t:TypeId}{f:Nat}{u:SV}{x:Value}(o:Bd D s)(r:VR B F w s x)(a:fieldE P t f s=some u):
  Bd D u∧∃ y,(Instr.field t x f).run P w=.ok y w∧VR B F w u y:=by
 unfold fieldE at a;split at a
 ·rename_i z;obtain⟨ds,rfl,k⟩:=VRs.of_vr_agg r;split at a
  ·rename_i A j;split at a
   ·rename_i l i;split at a
    ·rename_i d n h q;have e:=bd_takeAgg o.of_agg a;unfold takeAgg at a;split at a
     ·rename_i c;have b:Rx.aggD d=true:=c;split at a
      ·rename_i p;cases a;refine⟨e,.agg ((ds.drop l.offset).take n).toArray,?_,VR.agg' ((k.drop _).take _)⟩;simp only[Instr.field,Sem.run_bind,run_underlying j,Result.andThen_ok,i,asAgg,Sem.run_pure,part,Rx.run_isAgg h,b,if_true,Rx.run_sizeOf q];congr 2;apply uk;simp[List.take_drop,lP]
      ·cases a
     ·rename_i c;have b:Rx.aggD d=false:=by
       have m:aggD d=false:=by simpa using c
       exact m
      obtain⟨y,v,g⟩:=k.get a;refine⟨e,y,?_,g⟩;simp only[Instr.field,Sem.run_bind,run_underlying j,Result.andThen_ok,i,asAgg,Sem.run_pure,part,Rx.run_isAgg h,b,zg,if_false,oE,v]
    ·cases a
   ·cases a
  ·cases a
 ·cases a
def row_partV{T:Ty}{l:List T.α}{t:TypeId}{fz:Bool}{p:Place}(h:BlkR B F w (.row T l t fz) p)(k:Nat):PartV p 0 l.length k p.val:=by
 rcases h with⟨h1,rfl⟩ | ⟨h0,h1,h2,h3,ds,h4,h5,h7,h6⟩
 ·exact .inl ⟨h1,rfl,rfl,by simp[Place.val,h1]⟩
 ·exact .inr ⟨h0,⟨p.blk,p.off,none⟩,p.cap,by simp[Place.val,h0,h2],h3,.inl ⟨ψ,ω⟩⟩
def glE_sound{a:Act}(p:RM w0 m B F mem w){t:TypeId}{r:Res}{x:Operand}{h u:SV}{y:Value}(H:h≠.any→VR B F w h y)(b:glE P mem t x h=some r)(E:r.Out u mem'):
  mem'=mem∧Bd (Live mem) u∧∃ z,(Instr.indexAt t (a.eval x) y).run P w=.ok z w∧VR B F w u z:=by
 unfold glE at b;split at b
 ·rename_i g J i;cases H (fun e=>by cases e);split at b
  ·rename_i n e G;split at b
   ·rename_i q;obtain⟨D,rfl⟩:=q;cases b;obtain⟨v,f,s⟩:=E;cases s;unfold idxL at f;split at f
    ·rename_i l;have C:=(y6.1 f).1;have A:i < ((gtab g).length:Int):=ω;obtain⟨o,c⟩:=p.fc.g g i.toNat v f;refine⟨rfl,.ep,.pointer (some ⟨g,i.toNat+0,none⟩),?_,.ep (.int .i64) v 0 g i.toNat [.int .i64 v] o rfl fun j d k=>?_⟩
     ·simp only[Act.eval,Instr.indexAt,asIntOf,Sem.run_bind,Sem.run_pure,Result.andThen_ok,run_underlying G,Instr.sureAddr,l,A,and_self,if_true,Rx.run_sizeOf D];congr 3;unfold Addr.add;split
      ·rename_i I;have:i.toNat=0:=by simpa using I
       simp[this]
      ·simp
     ·cases j with
      | zero=>cases k;exact c
      | succ j=>cases k
    ·cases f
   ·cases b
  ·cases b
 ·cases b
def indexAddrE_sound(R:RM w0 m B F mem w){t:TypeId}{r:Res}{O u:SV}{x y:Value}(K:Bd (Live mem) s)(H:VR B F w s x)(W:VR B F w O y)(a:indexAddrE P mem t s O=some r)(G:r.Out u mem'):
  mem'=mem∧Bd (Live mem) u∧∃ z,(Instr.indexAt t x y).run P w=.ok z w∧VR B F w u z:=by
 unfold indexAddrE at a;split at a
 ·rename_i Z i;cases W;split at a
  ·rename_i T l;split at a
   ·rename_i e v;split at a
    ·rename_i p;cases a;obtain⟨z,A,D⟩:=G;cases D;unfold idxL at A;split at A
     ·rename_i I;have E:=(y6.1 A).1;cases H with | sl _ _ _ h =>
       obtain⟨v',Q,h⟩:=h;cases Q;rcases h with⟨rfl,q,rfl⟩ | ⟨b,o,cap,rfl,hF,C,h⟩
       ·simp at A
       ·obtain⟨ds,N,J⟩:=h _ z A;refine⟨rfl,.ep,.pointer (some ⟨b,o+i.toNat*T.n,none⟩),?_,?_⟩
        ·have f:0≤i∧i < (l.length:Int):=⟨I,ω⟩
         simp only[Instr.indexAt,asIntOf,Sem.run_bind,Sem.run_pure,Result.andThen_ok,run_underlying v,f,and_self,if_true,Rx.run_sizeOf p];congr 3;unfold Addr.add;split<;>simp_all
        ·have:=VR.ep (B:=B) (F:=F) (w:=w) T z 0 b (o+i.toNat*T.n) ds (hF (ne_at A)) N (fun j d S=>by rw[xo];exact J j d S);simpa using this
     ·cases A
    ·cases a
   ·cases a
  ·rename_i b;split at a
   ·rename_i e T l Y fz v f;split at a
    ·rename_i p;cases a;obtain⟨j,g,D⟩:=G;cases D;unfold idxB at g;split at g
     ·rename_i C;cases g;have E:i.toNat < l.length:=ω;obtain⟨I,N,J,_⟩:=row_elem (R.blk b _ f) (zP E);cases H;refine⟨rfl,.rp (by cases K with | row h=>exact h),.pointer (some ⟨(B b).blk,(B b).off+(i.toNat*T.n+0),none⟩),?_,.rp _ _ _ _⟩;simp only[Place.val,I,cond_false,Instr.indexAt,asIntOf,Sem.run_bind,Sem.run_pure,Result.andThen_ok,run_underlying v,J,C,and_self,if_true,Rx.run_sizeOf p];congr 3;unfold Addr.add;split<;>simp_all
     ·cases g
    ·cases a
   ·cases a
  ·rename_i b X n k;split at a
   ·rename_i e T l Y fz v f;split at a
    ·rename_i p;obtain⟨p,rfl⟩:=p;cases a;obtain⟨j,g,D⟩:=G;cases D;unfold idxB at g;split at g
     ·rename_i C;cases g;cases H with | part _ _ _ _ _ V =>
       have L:Live mem b:=by cases K with | part h=>exact h
       rcases V with⟨_,_,rfl,_⟩ | ⟨p0,a',c,rfl,p1,⟨rfl,p2⟩ | ⟨rfl,_⟩⟩
       ·omega
       ·refine⟨rfl,.rp L,.pointer (some ⟨(B b).blk,(B b).off+((X+i.toNat)*T.n+0),none⟩),?_,.rp _ _ _ _⟩;simp only[Instr.indexAt,asIntOf,Sem.run_bind,Sem.run_pure,Result.andThen_ok,run_underlying v,C,and_self,if_true,Rx.run_sizeOf p];congr 3;unfold Addr.add;split<;>simp_all [uR,xo]
       ·omega
     ·cases g
    ·cases a
   ·cases a
  ·rename_i b o;split at a
   ·rename_i n e v;split at a
    ·rename_i k U;split at a
     ·rename_i C;cases a;obtain⟨rfl,rfl⟩:=G;cases H;have M:0≤i∧i < (n:Int):=C.2;refine⟨rfl,.ptr (by cases K with | ptr h=>exact h),.pointer (some ⟨(B b).blk,(B b).off+(o+i.toNat*k),none⟩),?_,.ptr _ _⟩;simp only[Instr.indexAt,asIntOf,Sem.run_bind,Sem.run_pure,Result.andThen_ok,run_underlying v,Instr.sureAddr,M,and_self,if_true,Rx.run_sizeOf U];congr 3;unfold Addr.add;split<;>simp_all [xo]
     ·cases a
    ·cases a
   ·cases a
  ·cases a
 ·cases a
def lenE_sound(i:RM w0 m B F mem w){t rt:TypeId}{u:SV}{x:Value}(f:VR B F w s x)(a:lenE P mem t s=some u):
  (∀ D,Bd D u)∧∃ z,(Builtin.len_ #[t] rt #[x]).run P w=.ok z w∧VR B F w u z:=by
 unfold lenE at a;split at a
 ·rename_i e d;split at a
  ·rename_i T l;cases a;refine⟨fun D=>.v _,.int .i64 l.length,?_,.v _⟩;cases f with | sl _ _ _ h =>
    obtain⟨A,g,h⟩:=h;cases g;rcases h with⟨rfl,(_ | q),rfl⟩ | ⟨b,o,cap,rfl,hF,hc,h⟩<;>simp[Builtin.len_,run_underlying d,goInt,Sem.run_bind,Sem.run_pure,Result.andThen_ok]
  ·rename_i b;split at a
   ·rename_i T l y fz j;cases a;refine⟨fun D=>.v _,.int .i64 l.length,?_,.v _⟩;cases f;rcases i.blk b _ j with⟨h1,rfl⟩ | ⟨h0,h1,h2,_⟩
    ·simp[Place.val,h1,Builtin.len_,run_underlying d,goInt,Sem.run_bind,Sem.run_pure,Result.andThen_ok]
    ·simp[Place.val,h0,h2,Builtin.len_,run_underlying d,goInt,Sem.run_bind,Sem.run_pure,Result.andThen_ok]
   ·cases a
  ·rename_i b r n k;cases a;refine⟨fun D=>.v _,.int .i64 n,?_,.v _⟩;cases f with | part _ _ _ _ _ p =>
    rcases p with⟨_,_,rfl,rfl⟩ | ⟨p0,a',c,rfl,p1,_⟩<;>simp[Builtin.len_,run_underlying d,goInt,Sem.run_bind,Sem.run_pure,Result.andThen_ok]
  ·cases a
 ·cases a
def evI_spec(d:VRs B F w ts a.tmps.toList){x:Option Operand}{i:Option Int}(h:evI ts x=some i):
  (x=none∧i=none)∨∃ y j k,x=some y∧i=some j∧a.eval y=.int k j:=by
 cases x with
 | none=>simp only[evI,y8.injEq]at h;exact .inl ⟨rfl,h.symm⟩
 | some y =>
  right;simp only[evI]at h;split at h
  ·rename_i b;have c:=ev_vr (B:=B) (F:=F) (w:=w) d b;split at h
   ·rename_i k j e;rw[e]at c;cases h;refine⟨y,j,k,rfl,rfl,?_⟩;generalize a.eval y=z at c;cases c;rfl
   ·cases h
  ·cases h
def bounds_run(j:VRs B F w ts a.tmps.toList){n k:Option Operand}{m g:Option Int}(p:evI ts n=some m)(s:evI ts k=some g){len cap h l:Nat}{q:Bool}(y:len≤cap)
  (e:Rx.bnd g len len=some h) (f:Rx.bnd m h 0=some l):(Instr.sliceBounds q len cap (n.map a.eval) (k.map a.eval) none).run P w=.ok (l,h,cap) w∧h≤len∧l≤h:=by
 have o:∀ {i:Option Int} {t d r:Nat},Rx.bnd i t d=some r→d≤t→r≤t:=by
  intro i t d r h x;unfold Rx.bnd at h;split at h
  ·cases h;exact x
  ·split at h
   ·cases h;omega
   ·cases h
 have b:∀ {i:Int} {d r:Nat},Rx.bnd (some i) len d=some r→Rx.bnd (some i) cap 0=some r:=by
  intro i d r h;simp only[Rx.bnd]at h⊢;split at h
  ·rw[gT ω];exact h
  ·cases h
 refine⟨?_,o e (za _),o f (wD _)⟩;unfold Instr.sliceBounds;rcases evI_spec j p with⟨rfl,rfl⟩ | ⟨lx,lj,lk,rfl,rfl,hle⟩<;>rcases evI_spec j s with⟨rfl,rfl⟩ | ⟨hx',hj,hk',rfl,rfl,hhe⟩
 ·simp only[Rx.bnd,y8.injEq]at e f;subst e f;simp
 ·simp only[Rx.bnd,y8.injEq]at f;subst f;have:=fun c=>Rx.run_bnd (P:=P) (w:=w) (c:=c) hhe (b e);simp[this]
 ·simp only[Rx.bnd,y8.injEq]at e;subst e;have:=fun c=>Rx.run_bnd (P:=P) (w:=w) (c:=c) hle f;simp[this]
 ·have u:=fun c=>Rx.run_bnd (P:=P) (w:=w) (c:=c) hhe (b e);have v:=fun c=>Rx.run_bnd (P:=P) (w:=w) (c:=c) hle f;simp[u,v]
def cut_sound(A:VRs B F w ts a.tmps.toList){T:Ty}{l E:List T.α}{t e:TypeId}{x:Value}{H C:Option Operand}{G m:Option Int}(D:P.underlying t=some (.slice e))(r:sizeE P e=some T.n)
  (v:evI ts H=some G) (y:evI ts C=some m) (g:VR B F w (.sl T l) x) (f:cutL l G m=some E) :
  ∃ z,(Instr.sliceAt t x (H.map a.eval) (C.map a.eval) none).run P w=.ok z w∧VR B F w (.sl T E) z:=by
 unfold cutL at f;obtain⟨hv,k,f⟩:=vB.1 f;obtain⟨lv,p,f⟩:=vB.1 f;cases f;cases g with | sl _ _ _ h =>
  obtain⟨R,K,h⟩:=h;cases K;rcases h with⟨rfl,q,rfl⟩ | ⟨b,o,cap,rfl,hF,hcap,h⟩
  ·obtain⟨u,O,Q⟩:=bounds_run (P:=P) A v y (len:=0) (cap:=0) (q:=true) (za _) k p;have L:hv=0:=ω;have M:lv=0:=ω;subst L M;refine⟨.slice q 0 0,?_,.sl T _ _ ⟨_,rfl,.inl ⟨ψ,q,rfl⟩⟩⟩;cases q<;>simp only[Instr.sliceAt,Sem.run_bind,run_underlying D,Result.andThen_ok,Instr.slice,u,Rx.run_sizeOf r,Sem.run_pure]<;>simp
  ·obtain⟨u,O,Q⟩:=bounds_run (P:=P) A v y (q:=true) hcap k p;have c:((l.take hv).drop lv).length=hv-lv:=by simp;omega
   refine⟨.slice (some ⟨b,if cap=lv then o else o+lv*T.n,none⟩) (hv-lv) (cap-lv),?_,.sl T _ _ ⟨_,rfl,.inr ⟨b,_,cap-lv,by rw[c],fun r=>hF (by rintro rfl;simp at r),by rw[c];omega,fun i x g=>?_⟩⟩⟩
   ·simp only[Instr.sliceAt,Sem.run_bind,run_underlying D,Result.andThen_ok,Instr.slice,u,Rx.run_sizeOf r,Sem.run_pure];congr 3;split
    ·rfl
    ·simp[Addr.add]
   ·rw[ue]at g;have s:lv+i < hv:=by have:=(y6.1 g).1;simp at this;omega
    rw[un s]at g;obtain⟨ds,I,J⟩:=h _ x g;refine⟨ds,I,fun j d N=>?_⟩;rw[gR ω];have:=J j d N;rw[uR,xo]at this;rw[xo];exact this
def fromB_eq{n d:Nat}{c b:Option Int}{r:Nat×Nat}(h:cutB n c b=some r):fromB d c r.1=d+r.1:=by
 cases c with
 | some i=>rfl
 | none =>
  unfold cutB at h;obtain⟨f,e,h⟩:=vB.1 h;obtain⟨lv,a,h⟩:=vB.1 h;cases h;simp only[Rx.bnd,y8.injEq]at a;subst a;rfl
def slice_part(u:VRs B F w ts a.tmps.toList){p:Place}{D n k:Nat}{t e:TypeId}{x:Value}{j v:Option Operand}{m g:Option Int}{r:Nat×Nat}(A:P.underlying t=some (.slice e))(y:sizeE P e=some k)
  (o:evI ts j=some m) (s:evI ts v=some g) (I:PartV p D n k x) (b:cutB n m g=some r) :
  ∃ z,(Instr.sliceAt t x (j.map a.eval) (v.map a.eval) none).run P w=.ok z w∧PartV p (fromB D m r.1) r.2 k z:=by
 rw[fromB_eq b];unfold cutB at b;obtain⟨C,f,b⟩:=vB.1 b;obtain⟨lv,i,b⟩:=vB.1 b;cases b;rcases I with⟨q1,rfl,rfl,rfl⟩ | ⟨q0,ad,c,rfl,q1,q2⟩
 ·obtain⟨l,J,K⟩:=bounds_run (P:=P) u o s (len:=0) (cap:=0) (q:=true) (za _) f i;have E:C=0:=ω;have G:lv=0:=ω;subst E G;refine⟨.slice none 0 0,?_,.inl ⟨q1,rfl,rfl,rfl⟩⟩;simp only[Instr.sliceAt,Sem.run_bind,run_underlying A,Result.andThen_ok,Instr.slice,l,Rx.run_sizeOf y,Sem.run_pure];simp
 ·obtain⟨l,J,K⟩:=bounds_run (P:=P) u o s (q:=true) q1 f i;refine⟨.slice (some (if c=lv then ad else ad.add (lv*k))) (C-lv) (c-lv),?_,.inr ⟨q0,_,_,rfl,ω,?_⟩⟩
  ·simp only[Instr.sliceAt,Sem.run_bind,run_underlying A,Result.andThen_ok,Instr.slice,l,Rx.run_sizeOf y,Sem.run_pure];congr 3;split<;>rfl
  ·rcases q2 with⟨rfl,q3⟩ | ⟨rfl,q3⟩
   ·by_cases d:c=lv
    ·rw[gT d];by_cases H:lv=0
     ·subst H;exact .inl ⟨ψ,ω⟩
     ·exact .inr ⟨ω,ω⟩
    ·rw[gR d];refine .inl ⟨?_,ω⟩;unfold Addr.add;split
     ·rename_i h;rw[uR,h];simp
     ·simp[uR,xo]
   ·exact .inr ⟨ω,ω⟩
def flat_congr(m:VRs B F w ts a.tmps.toList)(h:flatOps ts o=true):execOp a.eval o=execOp (Act.eval { tmps:=((vals ts).map (Rx.rel fun _=>(0,0))).toArray,defers:=[] }) o:=by
 unfold flatOps at h;simp only[zm,qq,ym]at h;obtain⟨d,j⟩:=h;refine execOp_congr o (fun q b e=>by rw[e]at d;simp[Rx.isSel]at d) fun x p=>?_;have c:=j x (by simpa using p);cases x with
 | tmp t =>
  simp only at c;cases i:toV 4 (ts.getD t .any)with
  | none=>rw[i]at c;cases c
  | some v =>
   rw[i]at c;have n:=ev_vr (B:=B) (F:=F) (w:=w) m (x:=.tmp t) rfl;have l:=toV_eq i n;rw[l];simp only[Act.eval,sP,oE,vals,tA,yz];cases k:ts[t]? with
   | none =>
    have:ts.getD t .any=.any:=by simp[vf,k]
    rw[this]at i;cases i
   | some s' =>
    have:ts.getD t .any=s':=by simp[vf,k]
    rw[this]at i;simp only[wj,Function.comp,i,sX];rw[Rx.rel_free _ c]
 | const v=>rfl
 | func f=>cases c
 | global g=>cases c
def flatE_sound(g:VRs B F w ts a.tmps.toList){r:Res}{u:SV}(b:flatE P ts mem o=some r)(f:r.Out u mem'):
  mem'=mem∧(∀ D,Bd D u)∧∃ z,(execOp a.eval o).run P w=.ok (.value z) w∧VR B F w u z:=by
 unfold flatE at b;split at b
 ·rename_i i;rw[flat_congr g i];split at b
  ·rename_i T d;cases b;obtain⟨y,j,h⟩:=f;cases h;obtain⟨c,e⟩:=Rx.partE_sound (w:=w) (a:={ tmps:=((vals ts).map (Rx.rel fun _=>(0,0))).toArray,defers:=[] }) rfl d j;exact⟨rfl,fun D=>bd_ofVal 4 _,_,c,vr_ofVal 4 _⟩
  ·split at b
   ·rename_i v d;cases b;obtain⟨rfl,rfl⟩:=f;obtain⟨c,e⟩:=Rx.pureE_sound (w:=w) (a:={ tmps:=((vals ts).map (Rx.rel fun _=>(0,0))).toArray,defers:=[] }) rfl d;rw[Rx.rel_free _ e]at c;exact⟨rfl,fun D=>bd_ofVal 4 _,_,c,vr_ofVal 4 _⟩
   ·cases b
 ·cases b
def fold_set(a:Nat):∀ (vc:List Value) (q:Nat) (ds:Array Value),a+q+vc.length≤ds.size→
  ((vc.zipIdx q).foldl (fun b (x:Value×Nat)=>b.setIfInBounds (a+x.2) x.1) ds).toList=ds.toList.take (a+q)++vc++ds.toList.drop (a+q+vc.length)
 | [],q,ds,h=>ψ
 | v::vc,q,ds,h=>by
  simp only[List.zipIdx_cons,tf];simp only[vh]at h;rw[fold_set a vc (q+1) (ds.setIfInBounds (a+q) v) (by simp;omega)];rw[Array.toList_setIfInBounds];have c:(ds.toList.set (a+q) v).take (a+(q+1))=ds.toList.take (a+q)++[v]:=by
   apply vE;intro i;have g:(ds.toList.take (a+q)).length=a+q:=by simp;omega
   by_cases e:i < a+q
   ·rw[un ω,yd,gR ω,xm ω,un e]
   ·by_cases f:i=a+q
    ·subst f;rw[un ω,yd,gT rfl,gT (by simp;omega),wi ω,g];simp
    ·rw[yn (by simp;omega),yn (by simp;omega)]
  have d:(ds.toList.set (a+q) v).drop (a+(q+1)+vc.length)=ds.toList.drop (a+q+(vc.length+1)):=by
   apply vE;intro i;rw[ue,ue,yd,gR ω];congr 1;omega
  rw[c,d];simp
def fillS_sound(b:Nat→Option (Nat×Nat)):∀ (ps:List (Nat×SV)) (xs:List (Nat×Value)) (f c:List SV) (ds:List Value),fillS b f ps=some c→VRs B F w f ds→
  ps.map (·.1)=xs.map (·.1)→VRs B F w (ps.map (·.2)) (xs.map (·.2))→∃ e:List Value,Instr.fill b ds.toArray xs=some e.toArray∧VRs B F w c e
 | [],xs,f,c,ds,h,hv,l,hp=>by
  simp only[fillS,y8.injEq]at h;subst h;have:xs=[]:=by simpa using l.symm
  subst this;exact⟨ds,rfl,hv⟩
 | (i,v)::ps,xs,f,c,ds,h,hv,l,hp=>by
  cases xs with
  | nil=>simp at l
  | cons x xs =>
   obtain⟨j,x⟩:=x;simp only[rz,n5.injEq]at l;obtain⟨rfl,l⟩:=l;obtain⟨d,z,s,t,A⟩:=hp.head;simp only[rz,n5.injEq]at s;obtain⟨rfl,rfl⟩:=s;simp only[fillS]at h;split at h
   ·rename_i a size vc q o;split at h
    ·rename_i u;have r:=t.cells o;have n:x.cells.size=size:=by rw[t.cells_size o,u.1]
     have m:f.length=ds.length:=hv.1;have C:a+size≤ds.length:=by rw[←m];exact u.2
     obtain⟨e,D,E⟩:=fillS_sound b ps xs _ c (ds.take a++x.cells.toList++ds.drop (a+size)) h (((hv.take a).append r).append (hv.drop (a+size))) l A;refine⟨e,?_,E⟩;simp only[Instr.fill,q];have g:(decide (x.cells.size≠size)||decide (a+x.cells.size > ds.toArray.size))=false:=by
      simp[n];omega
     rw[gR (by simpa using g)];have k:(x.cells.zipIdx.foldl (fun f (y:Value×Nat)=>f.setIfInBounds (a+y.2) y.1) ds.toArray)=(ds.take a++x.cells.toList++ds.drop (a+size)).toArray:=by
      apply uk;rw[←Array.foldl_toList,Array.toList_zipIdx];have p:x.cells.toList.length=size:=by simpa using n
      have:=fold_set a x.cells.toList 0 ds.toArray (by rw[p];simp;omega);rw[this,p];simp
     rw[←D,←k]
    ·cases h
   ·cases h
def bd_fillS{D:Nat→Prop}(d:Nat→Option (Nat×Nat)):∀ (ps:List (Nat×SV)) (e b:List SV),fillS d e ps=some b→(∀ c∈e,Bd D c)→(∀ p∈ps,Bd D p.2)→∀ c∈b,Bd D c
 | [],e,b,h,hc,hp=>by simp only[fillS,y8.injEq]at h;subst h;exact hc
 | (i,v)::ps,e,b,h,hc,hp=>by
  simp only[fillS]at h;split at h
  ·rename_i k size vc j g;split at h
   ·refine bd_fillS d ps _ b h (fun c a=>?_) fun p f=>hp p (s9 _ f);rcases xz.1 a with a | a
    ·rcases xz.1 a with a | a
     ·exact hc c (rB a)
     ·exact bd_cells (hp (i,v) (uL ..)) g c a
    ·exact hc c (qu a)
   ·cases h
  ·cases h
def buildE_sound{D:Nat→Prop}{t:TypeId}{ps:List (Nat×SV)}{xs:Array (Nat×Value)}{u:SV}(h:buildE P t ps=some u)(s:ps.map (·.1)=xs.toList.map (·.1))(v:VRs B F w (ps.map (·.2)) (xs.toList.map (·.2)))(r:∀ p∈ps,Bd D p.2):
  Bd D u∧∃ y,(Instr.build t xs).run P w=.ok y w∧VR B F w u y:=by
 unfold buildE at h;split at h
 ·rename_i z x;split at h
  ·rename_i d j;have k:VRs B F w d z.cells.toList:=(vr_ofVal 5 z).cells j;have g:∀ c∈d,Bd D c:=bd_cells (bd_ofVal 5 z) j;split at h
   ·rename_i C o;split at h
    ·rename_i b m;cases a:fillS (b[·]?) d ps with
     | none=>rw[a]at h;cases h
     | some f =>
      rw[a]at h;cases h;obtain⟨ds,l,q⟩:=fillS_sound _ ps xs.toList d f _ a k s v;refine⟨.agg (bd_fillS _ ps d f a g r),.agg ds.toArray,?_,VR.agg' q⟩;simp only[Instr.build,Sem.run_bind,Rx.pureRun_run P _ _ x w,Result.andThen_ok,run_underlying o,Rx.pureRun_run P _ _ m w];simp only[pC]at l;simp only[l,Sem.run_pure]
    ·cases h
   ·rename_i E e o;split at h
    ·rename_i n A;cases a:fillS (fun i=>some (i*n,n)) d ps with
     | none=>rw[a]at h;cases h
     | some f =>
      rw[a]at h;cases h;obtain⟨ds,l,q⟩:=fillS_sound _ ps xs.toList d f _ a k s v;refine⟨.agg (bd_fillS _ ps d f a g r),.agg ds.toArray,?_,VR.agg' q⟩;simp only[Instr.build,Sem.run_bind,Rx.pureRun_run P _ _ x w,Result.andThen_ok,run_underlying o,Rx.run_sizeOf A];simp only[pC]at l;simp only[l,Sem.run_pure]
    ·cases h
   ·cases h
  ·cases h
 ·cases h
def decL_spec{T:Ty}:∀ (k:Nat) (ss:List SV) (l:List T.α) (ds:List Value),decL T k ss=some l→VRs B F w ss ds→ds.length=k*T.n∧l.length=k∧RowD F w T l ds
 | 0,ss,l,ds,h,hv=>by
  simp only[decL]at h;split at h
  ·cases h;have:=hv.1;refine⟨by simpa using this.symm,rfl,fun i x g=>by simp at g⟩
  ·cases h
 | k+1,ss,l,ds,h,hv=>by
  simp only[decL]at h;split at h
  ·rename_i x r g;split at h
   ·rename_i z f;cases h;obtain⟨c,d,rfl,o,q,_⟩:=dr_of_ofC g hv;obtain⟨t,u,v⟩:=decL_spec k r z d f q;have s:=o.len;refine⟨by rw[yo,s,t,tj,lP],by simp[u],fun i y b=>?_⟩;cases i with
    | zero =>
     simp only[m9,y8.injEq]at b;subst b;exact⟨c,o,fun j m a=>by rw[Nat.zero_mul,wm,xm (y6.1 a).1];exact a⟩
    | succ i =>
     simp only[List.getElem?_cons_succ]at b;obtain⟨p,A,C⟩:=v i y b;refine⟨p,A,fun j m a=>?_⟩;rw[tj,wi ω];have e:i*T.n+T.n+j-c.length=i*T.n+j:=ω;rw[e];exact C j m a
   ·cases h
  ·cases h
def buildSliceE_sound(G:RM w0 m B F mem w){t:TypeId}{len:Nat}{r:Res}{ps:List (Nat×SV)}{xs:Array (Nat×Value)}{u:SV}(h:buildSliceE P mem t len ps=some r)(X:r.Out u mem')(y:ps.map (·.1)=xs.toList.map (·.1))(Y:VRs B F w (ps.map (·.2)) (xs.toList.map (·.2))):
  ∃ B' w' z,(Instr.buildSlice t len xs).run P w=.ok z w'∧VR B' F w' u z∧RM w0 m B' F mem' w'∧(∀ i,Live mem i→B' i=B i)∧KeepsF F w w'∧Ext mem mem'∧Bd (Live mem') u:=by
 unfold buildSliceE at h;split at h
 ·rename_i e L;split at h
  ·rename_i n T z K hT Z;split at h
   ·rename_i g A;split at h
    ·rename_i Q;obtain⟨W,O,V⟩:=Q;split at h
     ·rename_i D S;split at h
      ·rename_i l U;cases h;obtain⟨rfl,rfl⟩:=X;have p:VRs B F w g z.cells.toList:=(vr_ofVal 5 z).cells A;have C:g.length=z.cells.size:=by simpa using p.1
       have c:VRs B F w ((xx (len*n)).map fun i=>g.getD (i % g.length) .any) ((n6 (len*n)).map (z.cells[· % z.cells.size]!)).toList:=by
        refine⟨ψ,fun i s d a b=>?_⟩;rw[yz]at a;rw[vi,pD]at b;by_cases k:i < len*n
        ·rw[n7 k]at a;rw[n8,gT k]at b;simp only[wj,y8.injEq]at a b;subst a b;rw[C];by_cases J:i % z.cells.size < z.cells.size
         ·have q:g[i % z.cells.size]? = some g[i % z.cells.size]:=zP ω;have R:z.cells.toList[i % z.cells.size]? = some z.cells[i % z.cells.size]:=by rw[vi];exact xy J
          rw[getElem!_pos z.cells _ J];simp only[vf,q,sX];exact p.2 _ _ _ q R
         ·have:g.getD (i % z.cells.size) .any=.any:=by
           simp only[vf];rw[yn ω];rfl
          rw[this];exact .any _
        ·rw[yn (by simp;omega)]at a;cases a
       obtain⟨ds,v,k2⟩:=fillS_sound _ ps xs.toList _ D _ S c y Y;rw[pC]at v;obtain⟨M,E,N⟩:=decL_spec len D l ds U k2;have j:Below w.heap.size w (w.alloc (.cells ds.toArray e)):=(Below.refl _ w).alloc (za _) _;have H:KeepsF F w (w.alloc (.cells ds.toArray e)):=keepsF_below G.lt j;have o:∀ i,Live mem i→upd B mem.length ⟨w.heap.size,0,len,len,false,id⟩ i=B i:=fun i y=>upd_old B (sR y.lt);have I:len≤16777216:=by
        have:len*1≤len*n:=Nat.mul_le_mul_left _ O;omega
       refine⟨upd B mem.length ⟨w.heap.size,0,len,len,false,id⟩,w.alloc (.cells ds.toArray e),.slice (some ⟨w.heap.size,0,none⟩) len len,?_,?_,G.put mem.length (not_live_end mem) (.row T l e false) _ j rfl (.inr ⟨rfl,rfl,E.symm,by rw[E];exact za _,ds,heap_alloc_new w _,M,by simp only[maxLen];omega,N.mono (fun _ h=>h) H.f⟩) (fun _=>za _) (fun s q=>by cases q) (fun i x=>get_push mem _ i x),o,H,(live_push mem _ (fun r h=>by cases h)).1,.row (live_push' mem _).2⟩
       ·have a:¬len*n > 2 ^ 24:=ω;by_cases b:len*n=0
        ·have e0:∀ f:Nat→Value,(n6 (len*n)).map f=#[]:=fun f=>by rw[b];simp
         rw[e0]at v;simp only[Instr.buildSlice,Sem.run_bind,run_underlying L,Result.andThen_ok,Rx.run_sizeOf K,Sem.run_ite,a,gT b,if_false,Sem.run_pure,e0];simp only[v,newRow,Sem.run_bind,run_newObj,Result.andThen_ok,Sem.run_pure];rfl
        ·simp only[Instr.buildSlice,Sem.run_bind,run_underlying L,Result.andThen_ok,Rx.run_sizeOf K,Sem.run_ite,a,b,if_false,Rx.pureRun_run P _ _ Z w,Sem.run_pure];simp only[v,newRow,Sem.run_bind,run_newObj,Result.andThen_ok,Sem.run_pure];rfl
       ·have:=VR.row (B:=upd B mem.length ⟨w.heap.size,0,len,len,false,id⟩) (F:=F) (w:=w.alloc (.cells ds.toArray e)) mem.length;simpa [upd_new,Place.val]using this
      ·cases h
     ·cases h
    ·cases h
   ·cases h
  ·cases h
 ·cases h
def makeE_sound(Q:RM w0 m B F mem w){t:TypeId}{r:Res}{l c u:SV}{x y:Value}(hx:VR B F w l x)(hy:VR B F w c y)(a:makeE P mem t l c=some r)(Y:r.Out u mem'):
  ∃ B' w' z,(Instr.makeSlice t x y).run P w=.ok z w'∧VR B' F w' u z∧RM w0 m B' F mem' w'∧(∀ i,Live mem i→B' i=B i)∧KeepsF F w w'∧Ext mem mem'∧Bd (Live mem') u:=by
 unfold makeE at a;split at a
 ·rename_i e kn n kc n' hu;cases hx;cases hy;split at a
  ·rename_i i T I hT;split at a
   ·rename_i z hz;split at a
    ·rename_i cs H;split at a
     ·rename_i z0 O;split at a
      ·rename_i D;cases a;obtain⟨ll,b,X⟩:=Y;cases X;unfold mkL at b;split at b
       ·rename_i W;obtain⟨rfl,U,V,G,p⟩:=W;cases b;have g:DR F w T z0 z.cells.toList:=ofC1_spec O ((vr_ofVal 5 z (B:=B)).cells H);have k:z.cells.size=T.n:=by have:=g.len;simpa using this
        have C:=run_make (P:=P) w t e i z hu I hz kn kc n n U (Int.le_refl _) V G;have L:(madeCells z.cells (n.toNat*i.size)).toList.length=n.toNat*T.n:=by rw[Array.length_toList,size_madeCells,D.1]
        have o:Below w.heap.size w (w.alloc (.cells (madeCells z.cells (n.toNat*i.size)) e)):=(Below.refl _ w).alloc (za _) _;have R:KeepsF F w (w.alloc (.cells (madeCells z.cells (n.toNat*i.size)) e)):=keepsF_below Q.lt o;have A:∀ i,Live mem i→upd B mem.length ⟨w.heap.size,0,n.toNat,n.toNat,false,id⟩ i=B i:=fun i I=>upd_old B (sR I.lt);refine⟨upd B mem.length ⟨w.heap.size,0,n.toNat,n.toNat,false,id⟩,_,_,C,?_,Q.put mem.length (not_live_end mem) (.row T (xS n.toNat z0) e false) _ o rfl ?_ (fun _=>za _) (fun s Z=>by cases Z) (fun i x=>get_push mem _ i x),A,R,(live_push mem _ (fun r h=>by cases h)).1,.row (live_push' mem _).2⟩
        ·have:=VR.row (B:=upd B mem.length ⟨w.heap.size,0,n.toNat,n.toNat,false,id⟩) (F:=F) (w:=w.alloc (.cells (madeCells z.cells (n.toNat*i.size)) e)) mem.length;simpa [upd_new,Place.val]using this
        ·refine .inr ⟨rfl,rfl,ψ,ψ,(madeCells z.cells (n.toNat*i.size)).toList,by simpa using heap_alloc_new w _,by simpa using L,p,fun q y S=>?_⟩;have M:q < n.toNat:=by have:=(y6.1 S).1;simpa using this
         have N:y=z0:=(List.mem_replicate.1 (xj S)).2;subst N;refine⟨z.cells.toList,g.mono (fun _ h=>h) R.f,fun j d E=>?_⟩;have J:j < T.n:=by have:=(y6.1 E).1;rw[g.len]at this;exact this
         have K:q*T.n+j < n.toNat*i.size:=by
          have:(q+1)*T.n≤n.toNat*T.n:=ur _ M;rw[tj]at this;rw[D.1];omega
         rw[vi]at E⊢;unfold madeCells;rw[pD,n8];rw[gT K];simp only[wj];have v:(q*T.n+j) % z.cells.size=j:=by rw[k,Nat.mul_comm,Nat.mul_add_mod,Nat.mod_eq_of_lt J]
         rw[v,getElem!_pos z.cells j (by rw[k];exact J)];rw[xy (by rw[k];exact J)]at E;exact E
       ·cases b
      ·cases a
     ·cases a
    ·cases a
   ·cases a
  ·cases a
 ·cases a
def OutN(B:Loc)(F:Nat→Prop)(w:World)(s:SV)(a:Next):Prop:=(∃ x,a=.value x∧VR B F w s x)∨(a=.skip∧s=.any)
def opS_sound(hm:m≤mem.length)(Q:RM w0 m B F mem w)(H:VRs B F w ts a.tmps.toList)(L:∀ s∈ts,Bd (Live mem) s){r:Res}(h:opS P m ts mem o=some r)(G:r.Out s mem'):
  ∃ B' w' nx,(execOp a.eval o).run P w=.ok nx w'∧OutN B' F w' s nx∧RM w0 m B' F mem' w'∧(∀ i,Live mem i→B' i=B i)∧KeepsF F w w'∧Ext mem mem'∧Bd (Live mem') s:=by
 have same:∀ {u:SV} {x:Value},(execOp a.eval o).run P w=.ok (.value x) w→VR B F w u x→Bd (Live mem) u→s=u→mem'=mem→
   ∃ B' w' nx,(execOp a.eval o).run P w=.ok nx w'∧OutN B' F w' s nx∧RM w0 m B' F mem' w'∧(∀ i,Live mem i→B' i=B i)∧KeepsF F w w'∧Ext mem mem'∧Bd (Live mem') s:=by
  intro u x hr I N e1 e2;subst e1 e2;exact⟨B,w,_,hr,.inl ⟨x,rfl,I⟩,Q,fun _ _=>rfl,KeepsF.refl _ _,Ext.refl _,N⟩
 have E:∀ {q:Sem Value},execOp a.eval o=(do pure (Next.value (←q)):Sem Next)→(mem'=mem∧Bd (Live mem) s∧∃ z,q.run P w=.ok z w∧VR B F w s z)→
   ∃ B' w' nx,(execOp a.eval o).run P w=.ok nx w'∧OutN B' F w' s nx∧RM w0 m B' F mem' w'∧(∀ i,Live mem i→B' i=B i)∧KeepsF F w w'∧Ext mem mem'∧Bd (Live mem') s:=by
  rintro q e ⟨e1,N,z,R,I⟩;exact same (by rw[e];exact Rx.run_v R) I N rfl e1
 have flat:flatE P ts mem o=some r→∃ B' w' nx,(execOp a.eval o).run P w=.ok nx w'∧OutN B' F w' s nx∧RM w0 m B' F mem' w'∧(∀ i,Live mem i→B' i=B i)∧KeepsF F w w'∧Ext mem mem'∧Bd (Live mem') s:=by
  intro h;obtain⟨K,M,z,h3,h4⟩:=flatE_sound H h G;exact same h3 h4 (M _) rfl K
 have made:∀ {cs:List SV} {ds:List Value} {t:TypeId},(∀ c∈cs,Bd (Live mem) c)→VRs B F w cs ds→(execOp a.eval o).run P w=.ok (.value (.pointer (some ⟨w.heap.size,0,none⟩))) (w.alloc (.cells ds.toArray t))→
   s=.ptr mem.length 0→mem'=mem++[some (.cells cs t)]→
   ∃ B' w' nx,(execOp a.eval o).run P w=.ok nx w'∧OutN B' F w' s nx∧RM w0 m B' F mem' w'∧(∀ i,Live mem i→B' i=B i)∧KeepsF F w w'∧Ext mem mem'∧Bd (Live mem') s:=by
  rintro cs ds t Z I hr rfl rfl;have N:Below w.heap.size w (w.alloc (.cells ds.toArray t)):=(Below.refl _ w).alloc (za _) _;have hold:∀ i,Live mem i→upd B mem.length ⟨w.heap.size,0,0,0,false,id⟩ i=B i:=fun i hi=>upd_old B (sR hi.lt);have hk:KeepsF F w (w.alloc (.cells ds.toArray t)):=keepsF_below Q.lt N;refine⟨upd B mem.length ⟨w.heap.size,0,0,0,false,id⟩,_,_,hr,.inl ⟨_,rfl,?_⟩,Q.put mem.length (not_live_end mem) (.cells cs t) _ N rfl ⟨rfl,rfl,ds,heap_alloc_new _ _,(I.mono (fun _ h=>h) hk).loc hold Z⟩ (fun _=>za _) (fun c hc=>(Z c hc).mono (live_push' mem _).1) (fun i x=>get_push mem _ i x),hold,hk,(live_push mem _ (fun r h=>by cases h)).1,.ptr (live_push' mem _).2⟩;have:=VR.ptr (B:=upd B mem.length ⟨w.heap.size,0,0,0,false,id⟩) (F:=F) (w:=w.alloc (.cells ds.toArray t)) mem.length 0;simpa [upd_new]using this
 cases A:o.op with
 | move x =>
  simp only[opS,A]at h;split at h
  ·rename_i C;cases h;exact same (by simp only[execOp,A];rfl) (ev_vr H C) (ev_bd L x) G.1 G.2
  ·cases h
 | assign x =>
  simp only[opS,A]at h;split at h
  ·rename_i C;cases h;exact same (by simp only[execOp,A];rfl) (ev_vr H C) (ev_bd L x) G.1 G.2
  ·cases h
 | alloc t =>
  simp only[opS,A]at h;split at h
  ·rename_i z R;split at h
   ·rename_i cs Z;cases h;refine made (bd_cells (bd_ofVal 5 z) Z) ((vr_ofVal 5 z).cells Z) ?_ G.1 G.2;simp only[execOp,A];refine Rx.run_v ?_;simp only[Instr.alloc,Sem.run_bind,Rx.pureRun_run P _ _ R w,Result.andThen_ok,newVar,newRow,run_newObj,Sem.run_pure];simp
   ·cases h
  ·cases h
 | box t x =>
  simp only[opS,A]at h;split at h
  ·rename_i C;split at h
   ·rename_i cs Z;cases h;refine made (bd_cells (ev_bd L x) Z) ((ev_vr H C).cells Z) ?_ G.1 G.2;simp only[execOp,A];refine Rx.run_v ?_;simp only[Instr.box,Sem.run_bind,Result.andThen_ok,newVar,newRow,run_newObj,Sem.run_pure];simp
   ·cases h
  ·cases h
 | load t x =>
  simp only[opS,A]at h;split at h
  ·rename_i C;exact E (by simp only[execOp,A]) (loadE_sound Q (ev_bd L x) (ev_vr H C) h G)
  ·cases h
 | store t x y =>
  simp only[opS,A]at h;split at h
  ·rename_i hxy;simp only[zm]at hxy;obtain⟨rfl,w',K,M,h3,h4⟩:=storeE_sound (P:=P) Q (ev_vr H hxy.1) (ev_vr H hxy.2) (ev_bd L y) h G;refine⟨B,w',.skip,?_,.inr ⟨rfl,rfl⟩,M,fun _ _=>rfl,h4,h3,.any⟩;simp only[execOp,A];exact Rx.run_u K
  ·cases h
 | fieldAddr t x f =>
  simp only[opS,A]at h;split at h
  ·rename_i C;cases hl:fieldAddrE P t f (ev ts x)with
   | none=>rw[hl]at h;cases h
   | some u =>
    rw[hl]at h;cases h;obtain⟨S,z,U,k3⟩:=fieldAddrE_sound (w:=w) (B:=B) (F:=F) (ev_bd L x) (ev_vr H C) hl;exact E (by simp only[execOp,A]) ⟨G.2,by rw[G.1];exact S,z,U,by rw[G.1];exact k3⟩
  ·cases h
 | field t x f =>
  simp only[opS,A]at h;split at h
  ·rename_i C;cases hl:fieldE P t f (ev ts x)with
   | none=>rw[hl]at h;cases h
   | some u =>
    rw[hl]at h;cases h;obtain⟨S,z,U,k3⟩:=fieldE_sound (w:=w) (B:=B) (F:=F) (ev_bd L x) (ev_vr H C) hl;exact E (by simp only[execOp,A]) ⟨G.2,by rw[G.1];exact S,z,U,by rw[G.1];exact k3⟩
  ·cases h
 | extract x i =>
  simp only[opS,A]at h;split at h
  ·rename_i C;split at h
   ·rename_i vs hvs;split at h
    ·rename_i u hu;cases h;have I:=ev_vr (B:=B) (F:=F) (w:=w) H C;rw[hvs]at I;obtain⟨ds,e,hds⟩:=VRs.of_vr_tup I;obtain⟨d,hd,hvd⟩:=hds.get hu;have Y:=ev_bd L x;rw[hvs]at Y;refine E (q:=Instr.extract (a.eval x) i) (by simp only[execOp,A]) ⟨G.2,by rw[G.1];exact Y.of_tup _ (xj hu),d,?_,by rw[G.1];exact hvd⟩;rw[e];simp only[Instr.extract,oE,hd,Sem.run_pure]
    ·cases h
   ·cases h
  ·cases h
 | makeFunc fn fs cs =>
  simp only[opS,A]at h;split at h
  all_goals (try (rename_i O;cases O;done))
  ·rename_i g fs' cs' O;cases O;split at h
   ·rename_i C;simp only[zm,ym]at C;cases h;have I:VR B F w (.fn g (fs.toList.map (ev ts)) (cs.toList.map (ev ts))) (.func (.func g) (fs.toList.map a.eval).toArray (cs.toList.map a.eval).toArray):=by
     refine .fn g _ _ _ _ ψ (fun i s d K M=>?_) ψ (fun i s d K M=>?_)
     ·rw[yz]at K M;cases V:fs.toList[i]? with
      | none=>rw[V]at K;cases K
      | some y=>rw[V]at K M;cases K;cases M;exact ev_vr H (C.1 y (xj V))
     ·rw[yz]at K M;cases V:cs.toList[i]? with
      | none=>rw[V]at K;cases K
      | some y=>rw[V]at K M;cases K;cases M;exact ev_vr H (C.2 y (xj V))
    refine E (q:=Instr.makeFunc (.func g) (fs.map a.eval) (cs.map a.eval)) (by simp only[execOp,A]) ⟨G.2,?_,_,?_,by rw[G.1];exact I⟩
    ·rw[G.1];exact .fn (fun s W=>by obtain⟨y,_,rfl⟩:=yy.1 W;exact ev_bd L y) (fun s W=>by obtain⟨y,_,rfl⟩:=yy.1 W;exact ev_bd L y)
    ·have e1:fs.map a.eval=(fs.toList.map a.eval).toArray:=by apply uk;simp
     have e2:cs.map a.eval=(cs.toList.map a.eval).toArray:=by apply uk;simp
     rw[e1,e2];rfl
   ·cases h
  ·exact flat h
 | nilCheck x =>
  simp only[opS,A]at h;split at h
  ·rename_i C;have I:=ev_vr (B:=B) (F:=F) (w:=w) H C;have N:=ev_bd L x;have nc:∀ {z:Value},a.eval x=z→(match z with | .pointer (some _)=>True | .func (.func _) _ _=>True | .func (.yield _) _ _=>True | _=>False)→(execOp a.eval o).run P w=.ok (.value z) w:=by
    intro z e R;simp only[execOp,A,e];cases z with
    | pointer p=>cases p with
     | none=>cases R
     | some p=>rfl
    | func f _ _=>cases f<;>first | rfl | cases R
    | _=>cases R
   split at h<;>rename_i W
   ·cases h;rw[W]at I N;generalize R:a.eval x=z at I;cases I;exact same (nc R trivial) (.ptr _ _) N G.1 G.2
   ·cases h;rw[W]at I N;generalize R:a.eval x=z at I;cases I with | ep _ _ _ b p cs K M h3=>exact same (nc R trivial) (.ep _ _ _ b p cs K M h3) N G.1 G.2
   ·cases h;rw[W]at I N;generalize R:a.eval x=z at I;cases I;exact same (nc R trivial) (.rp _ _ _ _) N G.1 G.2
   ·cases h;rw[W]at I N;generalize R:a.eval x=z at I;cases I with | fn _ _ _ fd cd K M h3 h4=>exact same (nc R trivial) (.fn _ _ _ fd cd K M h3 h4) N G.1 G.2
   ·cases h;rw[W]at I N;generalize R:a.eval x=z at I;cases I;exact same (nc R trivial) (.yld _) N G.1 G.2
   ·cases h
  ·cases h
 | indexAddr t x ix =>
  simp only[opS,A]at h;split at h
  ·rename_i C;simp only[zm]at C;exact E (by simp only[execOp,A]) (indexAddrE_sound Q (ev_bd L x) (ev_vr H C.1) (ev_vr H C.2) h G)
  ·exact E (by simp only[execOp,A]) (glE_sound (a:=a) Q (fun hn=>ev_vr H (by cases ix<;>first | rfl | exact absurd rfl hn)) h G)
 | build t J =>
  simp only[opS,A]at h;split at h
  ·rename_i C;simp only[ym]at C;cases hl:buildE P t (J.toList.map fun p=>(p.1,ev ts p.2))with
   | none=>rw[hl]at h;cases h
   | some u =>
    rw[hl]at h;cases h;have hp:VRs B F w ((J.toList.map fun p=>(p.1,ev ts p.2)).map (·.2)) ((J.map fun x=>(x.1,a.eval x.2)).toList.map (·.2)):=by
     refine⟨ψ,fun i s d K M=>?_⟩;simp only[rA,tA,yz]at K M;cases V:J.toList[i]? with
     | none=>rw[V]at K;cases K
     | some p=>rw[V]at K M;cases K;cases M;exact ev_vr H (C p (xj V))
    obtain⟨S,z,U,k3⟩:=buildE_sound (D:=Live mem) (xs:=J.map fun x=>(x.1,a.eval x.2)) hl (by simp[rA,tA,Function.comp]) hp (fun p hpm=>by
     obtain⟨q,_,rfl⟩:=yy.1 hpm;exact ev_bd L q.2)
    exact E (by simp only[execOp,A]) ⟨G.2,by rw[G.1];exact S,z,U,by rw[G.1];exact k3⟩
  ·cases h
 | buildSlice t len J =>
  simp only[opS,A]at h;split at h
  ·rename_i C;simp only[ym]at C;have hp:VRs B F w ((J.toList.map fun p=>(p.1,ev ts p.2)).map (·.2)) ((J.map fun x=>(x.1,a.eval x.2)).toList.map (·.2)):=by
    refine⟨ψ,fun i s d K M=>?_⟩;simp only[rA,tA,yz]at K M;cases V:J.toList[i]? with
    | none=>rw[V]at K;cases K
    | some p=>rw[V]at K M;cases K;cases M;exact ev_vr H (C p (xj V))
   obtain⟨B',w',z,S,U,k3,k4,k5,k6,k7⟩:=buildSliceE_sound (P:=P) Q (xs:=J.map fun x=>(x.1,a.eval x.2)) h G (by simp[rA,tA,Function.comp]) hp;refine⟨B',w',_,?_,.inl ⟨z,rfl,U⟩,k3,k4,k5,k6,k7⟩;simp only[execOp,A];exact Rx.run_v S
  ·cases h
 | makeSlice t l c =>
  simp only[opS,A]at h;split at h
  ·rename_i C;simp only[zm]at C;obtain⟨B',w',z,S,U,k3,k4,k5,k6,k7⟩:=makeE_sound (P:=P) Q (ev_vr H C.1) (ev_vr H C.2) h G;refine⟨B',w',_,?_,.inl ⟨z,rfl,U⟩,k3,k4,k5,k6,k7⟩;simp only[execOp,A];exact Rx.run_v S
  ·cases h
 | slice t x lo hi mx =>
  cases mx with
  | some q=>simp only[opS,A]at h;exact flat h
  | none =>
   simp only[opS,A]at h;split at h
   ·rename_i C;have I:=ev_vr (B:=B) (F:=F) (w:=w) H C;split at h
    ·rename_i T l W;rw[W]at I;split at h
     ·rename_i e li hi' hu e2 e3;split at h
      ·rename_i hn;cases h;obtain⟨l',hc,he⟩:=G;cases he;obtain⟨z,S,U⟩:=cut_sound (P:=P) H hu hn e2 e3 I hc;exact E (by simp only[execOp,A];rfl) ⟨rfl,.sl,z,S,U⟩
      ·cases h
     ·cases h
    ·rename_i b W;have Y:=ev_bd L x;rw[W]at I Y;split at h
     ·rename_i e T l ty fz li hi' hu N e2 e3;split at h
      ·rename_i hn;cases h;obtain⟨r',hc,he⟩:=G;cases he;generalize R:a.eval x=y at I;cases I;obtain⟨z,S,U⟩:=slice_part (P:=P) (w:=w) H hu hn e2 e3 (row_partV (Q.blk b _ N) T.n) hc;exact E (q:=Instr.sliceAt t (a.eval x) (lo.map a.eval) (hi.map a.eval) none) (by simp only[execOp,A];rfl) ⟨rfl,.part (by cases Y with | row h=>exact h),z,by rw[R];exact S,.part _ _ _ _ _ U⟩
      ·cases h
     ·cases h
    ·rename_i b lo0 n k W;have Y:=ev_bd L x;rw[W]at I Y;split at h
     ·rename_i e li hi' hu e2 e3;split at h
      ·rename_i hn;cases h;obtain⟨r',hc,he⟩:=G;cases he;generalize R:a.eval x=y at I;cases I with | part _ _ _ _ _ hp =>
        obtain⟨z,S,U⟩:=slice_part (P:=P) (w:=w) H hu hn e2 e3 hp hc;exact E (q:=Instr.sliceAt t (a.eval x) (lo.map a.eval) (hi.map a.eval) none) (by simp only[execOp,A];rfl) ⟨rfl,.part (by cases Y with | part h=>exact h),z,by rw[R];exact S,.part _ _ _ _ _ U⟩
      ·cases h
     ·cases h
    ·exact flat h
   ·cases h
 | convert src dst x =>
  simp only[opS,A]at h;split at h
  ·rename_i C;have I:=ev_vr (B:=B) (F:=F) (w:=w) H C;split at h
   ·rename_i e hu hd;split at h
    ·rename_i X he hX;cases h;obtain⟨q,V,he'⟩:=G;cases he';split at V
     ·rename_i hc;cases V;obtain⟨⟨news,W⟩,_⟩:=srcE_spec (P:=P) (T:=.int .u8) (c:=X.1) (l:=X.2) Q hX hc I;have hsl:(∃ ad c,a.eval x=.slice (some ad) X.2.length c)∨(a.eval x=.slice none 0 0∧X.2=[]):=by
       obtain⟨s1,s2,s3,s4,s5⟩:=W;generalize a.eval x=y at I s1 s5;generalize ev ts x=sx at I hX;have key:∀ (pp:Place) (lo n k:Nat),PartV pp lo n k y→(∃ ad c,y=.slice (some ad) X.2.length c)∨(y=.slice none 0 0∧X.2=[]):=by
        rintro pp lo n k (⟨_,_,rfl,rfl⟩ | ⟨p0,a',c,rfl,p1,_⟩)
        ·have:X.2.length=0:=by have:=s1;simp[Builtin.lenOf]at this;first | exact this.symm | simpa using this
         exact .inr ⟨rfl,wc.1 this⟩
        ·have:n=X.2.length:=by have:=s1;simpa [Builtin.lenOf]using this
         exact .inl ⟨a',c,by rw[this]⟩
       unfold srcE at hX;rw[hu]at hX;simp only at hX;split at hX
       ·cases I with | sl _ _ _ h =>
         obtain⟨v',e1,h⟩:=h;cases e1;rcases h with⟨_,q,rfl⟩ | ⟨b,o,cap,rfl,_⟩
         ·have:X.2.length=0:=by have:=s1;simp[Builtin.lenOf]at this;first | exact this.symm | simpa using this
          cases q with
          | none=>exact .inr ⟨rfl,wc.1 this⟩
          | some a=>exact .inl ⟨a,0,by rw[this]⟩
         ·have:=s1;simp only[Builtin.lenOf,Sem.run_pure,Result.ok.injEq,and_true]at this;exact .inl ⟨_,cap,by rw[this]⟩
       ·cases hX;cases I;exact .inr ⟨rfl,rfl⟩
       ·split at hX
        ·rename_i N;cases I;exact key _ _ _ 1 (row_partV (Q.blk _ _ N) 1)
        ·cases hX
       ·cases I with | part _ _ _ _ _ hp=>exact key _ _ _ _ hp
       ·cases hX
      have hrun:(convert src dst (a.eval x)).run P w=.ok (.string (bytesS X.2)) w:=by
       have N:=bytes_run W hsl;rcases hsl with⟨ad,c,e1⟩ | ⟨e1,_⟩<;>rw[e1]at N⊢<;>simp only[convert,Sem.run_bind,run_underlying hu,run_underlying hd,run_underlying he,Result.andThen_ok,N]
      exact E (q:=convert src dst (a.eval x)) (by simp only[execOp,A]) ⟨rfl,.v _,_,hrun,.v _⟩
     ·cases V
    ·cases h
   ·exact flat h
  ·cases h
 | makeMap t r' =>
  cases r' with
  | some q=>simp only[opS,A]at h;exact flat h
  | none =>
   simp only[opS,A]at h;split at h
   ·cases h;obtain⟨rfl,rfl⟩:=G;have N:Below w.heap.size w (w.alloc (.map #[] 0)):=(Below.refl _ w).alloc (za _) _;have hk:KeepsF F w (w.alloc (.map #[] 0)):=keepsF_below Q.lt N;have hold:∀ i,Live mem i→upd B mem.length ⟨w.heap.size,0,0,0,false,id⟩ i=B i:=fun i hi=>upd_old B (sR hi.lt);refine⟨upd B mem.length ⟨w.heap.size,0,0,0,false,id⟩,_,.value (.map (some w.heap.size)),?_,.inl ⟨_,rfl,?_⟩,Q.put mem.length (not_live_end mem) (.map _ [] 0) _ N rfl ⟨rfl,#[],World.alloc_heap_new w _,⟨rfl,fun i e h=>by simp at h,⟨id,fun _=>rfl,fun _=>rfl⟩,fun _ _=>rfl,za _,fun i j x y h=>by simp at h,fun i x h=>by simp at h⟩⟩ (fun _=>za _) (fun c hc=>by cases hc) (fun i x=>get_push mem _ i x),hold,hk,(live_push mem _ (fun r h=>by cases h)).1,.mp (live_push' mem _).2⟩
    ·simp only[execOp,A];refine Rx.run_v ?_;simp[Instr.makeMap,run_newObj]
    ·have:=VR.mp (B:=upd B mem.length ⟨w.heap.size,0,0,0,false,id⟩) (F:=F) (w:=w.alloc (.map #[] 0)) mem.length;simpa [upd_new]using this
   ·cases h
 | insert t x y z =>
  simp only[opS,A]at h;split at h
  ·rename_i C;simp only[zm]at C;obtain⟨rfl,w',K,M,h3,h4⟩:=insertE_sound (P:=P) Q (ev_vr H C.1.1) (ev_vr H C.1.2) (ev_vr H C.2) (ev_bd L z) h G;refine⟨B,w',.skip,?_,.inr ⟨rfl,rfl⟩,M,fun _ _=>rfl,h4,h3,.any⟩;simp only[execOp,A];exact Rx.run_u K
  ·cases h
 | mapUpdate t x y z =>
  simp only[opS,A]at h;split at h
  ·rename_i C;simp only[zm]at C;obtain⟨rfl,w',K,M,h3,h4⟩:=insertE_sound (P:=P) Q (ev_vr H C.1.1) (ev_vr H C.1.2) (ev_vr H C.2) (ev_bd L z) h G;refine⟨B,w',.skip,?_,.inr ⟨rfl,rfl⟩,M,fun _ _=>rfl,h4,h3,.any⟩;simp only[execOp,A];exact Rx.run_u K
  ·cases h
 | mapEntry t x y =>
  simp only[opS,A]at h;split at h
  ·rename_i C;simp only[zm]at C;obtain⟨w',z,K,M,h3,h4,h5,h6⟩:=entryE_sound (P:=P) Q (ev_vr H C.1) (ev_vr H C.2) h G;refine⟨B,w',.value z,?_,.inl ⟨z,rfl,M⟩,h4,fun _ _=>rfl,h6,h5,h3⟩;simp only[execOp,A];exact Rx.run_v K
  ·cases h
 | entryStore t x y z =>
  simp only[opS,A]at h;split at h
  ·rename_i C;simp only[zm]at C;obtain⟨rfl,w',K,M,h3,h4⟩:=stampE_sound (P:=P) (t:=t) Q (ev_vr H C.1.1) (ev_vr H C.1.2) (ev_vr H C.2) (ev_bd L z) h G;refine⟨B,w',.skip,?_,.inr ⟨rfl,rfl⟩,M,fun _ _=>rfl,h4,h3,.any⟩;simp only[execOp,A];exact Rx.run_u K
  ·cases h
 | lookup t x y ok =>
  simp only[opS,A]at h;split at h
  ·rename_i C;simp only[zm]at C;exact E (by simp only[execOp,A]) (lookupE_sound Q (ev_vr H C.1) (ev_vr H C.2) h G)
  ·cases h
 | call c =>
  simp only[opS,A]at h;split at h
  ·cases ‹Op.call c=_›
  all_goals (try (rename_i O;cases O;done))
  ·rename_i x y t u O;cases O;split at h
   ·rename_i C;simp only[zm]at C;obtain⟨B',w',z,S,U,k3,k4,k5,k6,k7⟩:=appE_sound (P:=P) (rt:=o.type) Q (ev_vr H C.1) (ev_vr H C.2) h G;refine⟨B',w',_,?_,.inl ⟨z,rfl,U⟩,k3,k4,k5,k6,k7⟩;have e1:(vD a.eval ⟨[x,y]⟩)=#[a.eval x,a.eval y]:=by simp[vD]
    simp only[execOp,A,resolve,Sem.run_bind,Sem.run_pure,Result.andThen_ok,invoke,builtin,e1,S]
   ·cases h
  ·rename_i x y t u O;cases O;split at h
   ·rename_i C;simp only[zm]at C;obtain⟨w',z,S,U,k3,k5,k6,k7⟩:=copyE_sound (P:=P) (rt:=o.type) Q (ev_vr H C.1) (ev_vr H C.2) h G;refine⟨B,w',_,?_,.inl ⟨z,rfl,U⟩,k3,fun _ _=>rfl,k5,k6,k7⟩;have e1:(vD a.eval ⟨[x,y]⟩)=#[a.eval x,a.eval y]:=by simp[vD]
    simp only[execOp,A,resolve,Sem.run_bind,Sem.run_pure,Result.andThen_ok,invoke,builtin,e1,S]
   ·cases h
  ·rename_i x t O;cases O;split at h
   ·rename_i C;split at h
    ·rename_i u hl;cases h;obtain⟨S,z,U,k3⟩:=lenE_sound (P:=P) (rt:=o.type) Q (ev_vr H C) hl;refine same (u:=u) (x:=z) ?_ k3 (S _) G.1 G.2;have e1:(vD a.eval ⟨[x]⟩)=#[a.eval x]:=by simp[vD]
     simp only[execOp,A,resolve,Sem.run_bind,Sem.run_pure,Result.andThen_ok,invoke,builtin,e1,U]
    ·exact flat h
   ·cases h
  ·exact flat h
 | _ =>
  simp only[opS,A]at h;exact flat h
end
def cutB3(n:Nat)(a b c:Int):Option (Nat×Nat):=if 0≤a∧a < b∧b≤c∧c≤n then some (a.toNat,(b-a).toNat)else none
def buildCells(P:Program)(mem:Mem)(t:TypeId)(len:Nat)(a:List (Nat×SV)):Option Res :=
 match P.underlying t with
 | some (.slice e)=>match sizeE P e,Rx.pureRun P (zeroValue e)with
  | some n,some z=>match (ofVal 5 z).cells with
   | some b=>if 0 < n∧0 < len∧len*n≤16777216 then
     match fillS (fun i=>some (i*n,n)) ((xx (len*n)).map fun i=>b.getD (i % b.length) .any) a with
     | some c=>some (.det (.csl mem.length len n) (mem++[some (.cells c e)]))
     | none=>none
    else none
   | none=>none
  | _,_=>none
 | _=>none
def idxX(P:Program)(mem:Mem)(t:TypeId)(x a:SV):Option Res :=
 match a with
 | .v (.int _ i)=>match x with
  | .csl b n k=>match P.underlying t with
   | some (.slice e)=>if sizeE P e=some k∧0≤i∧i < n then some (.det (.ptr b (i.toNat*k)) mem)else none
   | _=>none
  | .ptc b c n k=>match P.underlying t,mem[b]? with
   | some (.slice e),some (some (.row T l _ _))=>if sizeE P e=some T.n∧k=T.n then some (.part Nat (idxB n i) fun j=>(.rp b (c+j) T.n 0,mem))else none
   | _,_=>none
  | _=>none
 | _=>none
def sliceX(P:Program)(mem:Mem)(t:TypeId)(x b a c:SV):Option Res :=
 match x,b,a,c with
 | .row q,.v (.int _ i),.v (.int _ j),.v (.int _ k)=>match P.underlying t,mem[q]? with
  | some (.slice e),some (some (.row T l _ _))=>if sizeE P e=some T.n then some (.part (Nat×Nat) (cutB3 l.length i j k) fun r=>(.ptc q r.1 r.2 T.n,mem))else none
  | _,_=>none
 | _,_,_,_=>none
def rangeX(P:Program)(mem:Mem)(t:TypeId)(x:SV):Option Res :=
 match x with
 | .mp b=>match mapTy P t,mem[b]? with
  | some _,some (some (.map k es _))=>some (.det (.ptr mem.length 0) (mem++[some (.iter b es.length [] none)]))
  | _,_=>none
 | _=>none
def entryX(mem:Mem)(x:SV):Option Res :=
 match x with
 | .ptr b 0=>match mem[b]? with
  | some (some (.iter mb n _ (some i)))=>match mem[mb]? with
   | some (some (.map k es _))=>if es.length=n then match es[i]? with
     | some e=>some (.det (.tup [.v (.int k e.1),e.2]) mem)
     | none=>none
    else none
   | _=>none
  | _=>none
 | _=>none
def nilL{α:Type}(l:List α):Option Unit:=if 0 < l.length then some ()else none
def nilX(P:Program)(mem:Mem)(t:TypeId)(x y:SV):Option Res :=
 match x,y with
 | .sl T l,.v (.slice none 0 0)=>match P.underlying t with
  | some (.slice _)=>some (.part Unit (nilL l) fun _=>(.v (.bool false),mem))
  | _=>none
 | .row b,.v (.slice none 0 0)=>match P.underlying t,mem[b]? with
  | some (.slice _),some (some (.row T l _ _))=>some (.part Unit (nilL l) fun _=>(.v (.bool false),mem))
  | _,_=>none
 | _,_=>none
def opX(P:Program)(m:Nat)(ts:List SV)(mem:Mem)(o:Oper):Option Res :=
 match o.op with
 | .range t x=>if okOp x then rangeX P mem t (ev ts x)else none
 | .binOp .eql t x y _=>if okOp x&&okOp y then nilX P mem t (ev ts x) (ev ts y)else none
 | .entry x=>if okOp x then entryX mem (ev ts x)else none
 | .indexAddr t x c=>if okOp x&&okOp c then idxX P mem t (ev ts x) (ev ts c)else none
 | .slice t x (some lo) (some hi) (some mx)=>if okOp x&&okOp lo&&okOp hi&&okOp mx then sliceX P mem t (ev ts x) (ev ts lo) (ev ts hi) (ev ts mx)else none
 | .buildSlice t len a=>if a.toList.all (fun p=>okOp p.2)then buildCells P mem t len (a.toList.map fun p=>(p.1,ev ts p.2))else none
 | .call ⟨.builtin .len,⟨[x]⟩,⟨[t]⟩⟩=>if okOp x then match P.underlying t,ev ts x with
   | some (.slice _),.csl b n k=>some (.det (.v (.int .i64 n)) mem)
   | some (.slice _),.ptc b lo n k=>some (.det (.v (.int .i64 n)) mem)
   | _,_=>none
  else none
 | _=>none
section
variable [HasP]{P:Program}{w0 w:World}{m:Nat}{B:Loc}{F:Nat→Prop}{mem mem':Mem}{ts:List SV}{a:Act}{o:Oper}{s:SV}
def idxX_sound(K:RM w0 m B F mem w){t:TypeId}{r:Res}{D u:SV}{x y:Value}(v:Bd (Live mem) s)(C:VR B F w s x)(I:VR B F w D y)(a:idxX P mem t s D=some r)(A:r.Out u mem'):
  mem'=mem∧Bd (Live mem) u∧∃ z,(Instr.indexAt t x y).run P w=.ok z w∧VR B F w u z:=by
 unfold idxX at a;split at a
 ·rename_i L i;cases I;split at a
  ·rename_i b n k;split at a
   ·rename_i e q;split at a
    ·rename_i o;cases a;obtain⟨rfl,rfl⟩:=A;obtain⟨d,p⟩:=o;cases C;refine⟨rfl,.ptr (by cases v with | csl h=>exact h),.pointer (some ⟨(B b).blk,(B b).off+i.toNat*k,none⟩),?_,.ptr _ _⟩;simp only[Instr.indexAt,asIntOf,Sem.run_bind,Sem.run_pure,Result.andThen_ok,run_underlying q,p,and_self,if_true,Rx.run_sizeOf d];congr 3;unfold Addr.add;split<;>simp_all
    ·cases a
   ·cases a
  ·rename_i b J n k;split at a
   ·rename_i e T l N fz q E;split at a
    ·rename_i d;obtain⟨d,rfl⟩:=d;cases a;obtain⟨j,f,G⟩:=A;cases G;unfold idxB at f;split at f
     ·rename_i o;cases f;cases C with | ptc _ _ _ _ _ H =>
       have g:Live mem b:=by cases v with | ptc h=>exact h
       obtain⟨M,c,rfl,p1,p2⟩:=H;refine⟨rfl,.rp g,.pointer (some ⟨(B b).blk,(B b).off+((J+i.toNat)*T.n+0),none⟩),?_,.rp _ _ _ _⟩;simp only[Instr.indexAt,asIntOf,Sem.run_bind,Sem.run_pure,Result.andThen_ok,run_underlying q,o,and_self,if_true,Rx.run_sizeOf d];congr 3;unfold Addr.add;split<;>simp_all [uR,xo]
     ·cases f
    ·cases a
   ·cases a
  ·cases a
 ·cases a
def sliceX_sound(J:RM w0 m B F mem w){t:TypeId}{r:Res}{sl A C u:SV}{x v p y:Value}(K:Bd (Live mem) s)(Q:VR B F w s x)(o:VR B F w sl v)(H:VR B F w A p)(I:VR B F w C y)(a:sliceX P mem t s sl A C=some r)(N:r.Out u mem'):
  mem'=mem∧Bd (Live mem) u∧∃ z,(Instr.sliceAt t x (some v) (some p) (some y)).run P w=.ok z w∧VR B F w u z:=by
 unfold sliceX at a;split at a
 ·rename_i q R i S j U k;cases o;cases H;cases I;split at a
  ·rename_i e T l V fz O d;split at a
   ·rename_i M;cases a;obtain⟨c,b,L⟩:=N;cases L;unfold cutB3 at b;split at b
    ·rename_i f;obtain⟨c0,c1,c2,c3⟩:=f;cases b;cases Q;rcases J.blk q _ d with⟨o,rfl⟩ | ⟨h0,e1,e2,e3,_⟩
     ·simp at c3;omega
     ·refine⟨rfl,.ptc (by cases K with | row h=>exact h),.slice (some ⟨(B q).blk,(B q).off+i.toNat*T.n,none⟩) (j-i).toNat (k.toNat-i.toNat),?_,.ptc _ _ _ _ _ ⟨h0,_,rfl,ω,ω⟩⟩;have D:0≤k∧k≤((B q).cap:Int):=ω;have E:0≤j∧j≤((k.toNat:Nat):Int):=ω;have G:0≤i∧i≤((j.toNat:Nat):Int):=ω;have g:¬k.toNat=i.toNat:=ω;simp only[Place.val,h0,cond_false,Instr.sliceAt,Sem.run_bind,run_underlying O,Result.andThen_ok,Instr.slice,Instr.sliceBounds,Instr.sliceBound,asIntOf,Sem.run_pure,D,E,G,and_self,if_true,Option.isSome_some,Rx.run_sizeOf M,g,if_false,wj];congr 1;have:j.toNat-i.toNat=(j-i).toNat:=ω;rw[this];congr 2;unfold Addr.add;split<;>simp_all
    ·cases b
   ·cases a
  ·cases a
 ·cases a
def rangeX_sound(l:RM w0 m B F mem w){t:TypeId}{r:Res}{u:SV}{x:Value}(J:Bd (Live mem) s)(E:VR B F w s x)(e:rangeX P mem t s=some r)(C:r.Out u mem'):
  ∃ B' w' z,(Instr.range t x).run P w=.ok z w'∧VR B' F w' u z∧RM w0 m B' F mem' w'∧(∀ i,Live mem i→B' i=B i)∧KeepsF F w w'∧Ext mem mem'∧Bd (Live mem') u:=by
 unfold rangeX at e;split at e
 ·rename_i b;split at e
  ·rename_i q k a M o g;obtain⟨L,G⟩:=q;obtain⟨q,D,K⟩:=mapTy_some o;cases e;obtain⟨rfl,rfl⟩:=C;cases E;have f:Live mem b:=⟨_,g⟩
   obtain⟨H,v,y,I⟩:=l.blk b _ g;have j:Below w.heap.size w (w.alloc (.mapIter (some (B b).blk) a.length #[] a.length)):=(Below.refl _ w).alloc (za _) _;have n:KeepsF F w (w.alloc (.mapIter (some (B b).blk) a.length #[] a.length)):=keepsF_below l.lt j;have d:∀ i,Live mem i→upd B mem.length ⟨w.heap.size,0,0,0,false,id⟩ i=B i:=fun i A=>upd_old B (sR A.lt);refine⟨upd B mem.length ⟨w.heap.size,0,0,0,false,id⟩,_,.pointer (some ⟨w.heap.size,0,none⟩),?_,?_,l.put mem.length (not_live_end mem) (.iter b a.length [] none) _ j rfl ⟨rfl,#[],by rw[d b f];exact World.alloc_heap_new w _,rfl,fun i=>ψ,fun i h=>by cases h⟩ (fun _=>za _) (fun c p=>?_) (fun i x=>get_push mem _ i x),d,n,(live_push mem _ (fun r h=>by cases h)).1,.ptr (live_push' mem _).2⟩
   ·simp only[Instr.range,Sem.run_bind,run_underlying D,Result.andThen_ok];rw[show(getObj (B b).blk).run P w=.ok (.map v a.length) w from by simp[getObj,Sem.run,y]];simp[run_newObj_alloc]
   ·have:=VR.ptr (B:=upd B mem.length ⟨w.heap.size,0,0,0,false,id⟩) (F:=F) (w:=w.alloc (.mapIter (some (B b).blk) a.length #[] a.length)) mem.length 0;simpa [upd_new]using this
   ·simp only[Blk.refs,sj]at p;subst p;exact .mp ((live_push' mem _).1 _ f)
  ·cases e
 ·cases e
def entryX_sound(y:RM w0 m B F mem w){r:Res}{u:SV}{x:Value}(O:VR B F w s x)(a:entryX mem s=some r)(M:r.Out u mem'):
  mem'=mem∧Bd (Live mem) u∧∃ z,(Instr.entry x).run P w=.ok z w∧VR B F w u z:=by
 unfold entryX at a;split at a
 ·rename_i b;split at a
  ·rename_i mb n seen i A;split at a
   ·rename_i k p U h;split at a
    ·rename_i L;split at a
     ·rename_i e C;cases a;obtain⟨rfl,rfl⟩:=M;cases O;obtain⟨g0,q,I,g,Q,J⟩:=y.blk b _ A;obtain⟨R,E,K,t⟩:=y.blk mb _ h;subst L;have c:=J i rfl;have S:i < p.length:=(y6.1 C).1;obtain⟨me,o,l,N⟩:=t.ent i e C;have d:me.born=(B mb).ord i:=t.born _ _ o;have f:E.find? (·.born==(B mb).ord i)=some me:=by
       rw[Array.find?_eq_some_iff_getElem];obtain⟨D,H⟩:=uE.1 o;refine⟨by simp[d],_,D,H,fun j T=>?_⟩;rw[t.born j _ (xy ω)];simp;omega
      refine⟨rfl,.tup fun s G=>?_,.tuple #[me.key,me.val],?_,?_⟩
      ·simp at G;rcases G with rfl | rfl
       ·exact .v _
       ·exact y.bd mb _ h _ (by simp only[Blk.refs];exact yy.2 ⟨e,xj C,rfl⟩)
      ·rw[g];simp only[Instr.entry,Sem.run_bind];rw[show(getObj (B b).blk).run P w=.ok (.mapIter (some (B mb).blk) p.length q p.length) w from by simp[getObj,Sem.run,I]];simp only[Result.andThen_ok,c,Sem.run_bind];rw[show(getObj (B mb).blk).run P w=.ok (.map E p.length) w from by simp[getObj,Sem.run,K]];simp[f]
      ·rw[l];exact VR.tup' (ds:=[.int k e.1,me.val]) (.cons (.v _) (.cons N .nil))
     ·cases a
    ·cases a
   ·cases a
  ·cases a
 ·cases a
def buildCells_sound(K:RM w0 m B F mem w){t:TypeId}{len:Nat}{r:Res}{ps:List (Nat×SV)}{xs:Array (Nat×Value)}{u:SV}(h:buildCells P mem t len ps=some r)(V:r.Out u mem')(H:ps.map (·.1)=xs.toList.map (·.1))(W:VRs B F w (ps.map (·.2)) (xs.toList.map (·.2)))(G:∀ p∈ps,Bd (Live mem) p.2):
  ∃ B' w' z,(Instr.buildSlice t len xs).run P w=.ok z w'∧VR B' F w' u z∧RM w0 m B' F mem' w'∧(∀ i,Live mem i→B' i=B i)∧KeepsF F w w'∧Ext mem mem'∧Bd (Live mem') u:=by
 unfold buildCells at h;split at h
 ·rename_i e Y;split at h
  ·rename_i n z U Z;split at h
   ·rename_i a A;split at h
    ·rename_i v;obtain⟨R,I,T⟩:=v;split at h
     ·rename_i D L;cases h;obtain⟨rfl,rfl⟩:=V;have C:VRs B F w a z.cells.toList:=(vr_ofVal 5 z).cells A;have J:a.length=z.cells.size:=by simpa using C.1
      have j:VRs B F w ((xx (len*n)).map fun i=>a.getD (i % a.length) .any) ((n6 (len*n)).map (z.cells[· % z.cells.size]!)).toList:=by
       refine⟨ψ,fun i s d b k=>?_⟩;rw[yz]at b;rw[vi,pD]at k;by_cases y:i < len*n
       ·rw[n7 y]at b;rw[n8,gT y]at k;simp only[wj,y8.injEq]at b k;subst b k;rw[J];by_cases N:i % z.cells.size < z.cells.size
        ·have O:a[i % z.cells.size]? = some a[i % z.cells.size]:=zP ω;have S:z.cells.toList[i % z.cells.size]? = some z.cells[i % z.cells.size]:=by rw[vi];exact xy N
         rw[getElem!_pos z.cells _ N];simp only[vf,O,sX];exact C.2 _ _ _ O S
        ·have:a.getD (i % z.cells.size) .any=.any:=by
          simp only[vf];rw[yn ω];rfl
         rw[this];exact .any _
       ·rw[yn (by simp;omega)]at b;cases b
      have E:∀ c∈((xx (len*n)).map fun i=>a.getD (i % a.length) .any),Bd (Live mem) c:=by
       intro c v;obtain⟨i,_,rfl⟩:=yy.1 v;simp only[vf];cases X:a[i % a.length]? with
       | none=>exact .any
       | some q=>exact bd_cells (bd_ofVal 5 z) A q (xj X)
      obtain⟨ds,Q,k2⟩:=fillS_sound _ ps xs.toList _ D _ L j H W;have o:=bd_fillS _ ps _ D L E G;rw[pC]at Q;have l:Below w.heap.size w (w.alloc (.cells ds.toArray e)):=(Below.refl _ w).alloc (za _) _;have M:KeepsF F w (w.alloc (.cells ds.toArray e)):=keepsF_below K.lt l;have g:∀ i,Live mem i→upd B mem.length ⟨w.heap.size,0,0,0,false,id⟩ i=B i:=fun i H=>upd_old B (sR H.lt);refine⟨upd B mem.length ⟨w.heap.size,0,0,0,false,id⟩,w.alloc (.cells ds.toArray e),.slice (some ⟨w.heap.size,0,none⟩) len len,?_,?_,K.put mem.length (not_live_end mem) (.cells D e) _ l rfl ⟨rfl,rfl,ds,heap_alloc_new w _,(k2.mono (fun _ h=>h) M.f).loc g o⟩ (fun _=>za _) (fun c v=>(o c v).mono (live_push' mem _).1) (fun i x=>get_push mem _ i x),g,M,(live_push mem _ (fun r h=>by cases h)).1,.csl (live_push' mem _).2⟩
      ·have b:¬len*n > 2 ^ 24:=ω;have k:¬len*n=0:=by
        have:=Nat.mul_pos I R;omega
       simp only[Instr.buildSlice,Sem.run_bind,run_underlying Y,Result.andThen_ok,Rx.run_sizeOf U,Sem.run_ite,b,k,if_false,Rx.pureRun_run P _ _ Z w,Sem.run_pure];simp only[Q,newRow,Sem.run_bind,run_newObj,Result.andThen_ok,Sem.run_pure];rfl
      ·have:=VR.csl (B:=upd B mem.length ⟨w.heap.size,0,0,0,false,id⟩) (F:=F) (w:=w.alloc (.cells ds.toArray e)) mem.length len n;simpa [upd_new]using this
     ·cases h
    ·cases h
   ·cases h
  ·cases h
 ·cases h
def run_nilX{t e:TypeId}(b d:Operand)(a:Addr)(n c:Nat)(i:P.underlying t=some (.slice e)):
  (do eqGuard .eql t b d (.slice (some a) n c) (.slice none 0 0);binOp .eql t (.slice (some a) n c) (.slice none 0 0):Sem Value).run P w=.ok (.bool false) w:=by
 have f:(eqGuard .eql t b d (.slice (some a) n c) (.slice none 0 0):Sem Unit)=pure ():=rfl;have g:(binOp .eql t (.slice (some a) n c) (.slice none 0 0):Sem Value)=(do pure (.bool (←Op.equal t (.slice (some a) n c) (.slice none 0 0)))):=rfl;have h:(Op.equal t (.slice (some a) n c) (.slice none 0 0)).run P w=.ok false w:=by
  unfold Op.equal;rw[show Op.maxDepth=9999+1 from rfl,Op.equalIn];simp only[Sem.run_bind,run_underlying i,Result.andThen_ok,Sem.run_pure]
 rw[f,g];simp only[Sem.run_bind,h,Result.andThen_ok,Sem.run_pure]
def nilX_sound(C:RM w0 m B F mem w){t:TypeId}{r:Res}{s A u:SV}{x y:Value}(j k:Operand)(p:VR B F w s x)(q:VR B F w A y)(d:nilX P mem t s A=some r)(n:r.Out u mem'):
  mem'=mem∧Bd (Live mem) u∧∃ z,(do eqGuard .eql t j k x y;binOp .eql t x y:Sem Value).run P w=.ok z w∧VR B F w u z:=by
 unfold nilX at d;split at d
 ·rename_i T l;split at d
  ·rename_i e i;cases d;obtain⟨c,f,g⟩:=n;cases g;unfold nilL at f;split at f
   ·rename_i a;cases q;cases p with | sl _ _ _ E =>
     obtain⟨v,G,h⟩:=E;cases G;rcases h with⟨rfl,_⟩ | ⟨b,o,cap,rfl,_⟩
     ·simp at a
     ·exact⟨rfl,.v _,.bool false,run_nilX j k _ _ _ i,.v _⟩
   ·cases f
  ·cases d
 ·rename_i b;split at d
  ·rename_i e T l H fz i D;cases d;obtain⟨c,f,g⟩:=n;cases g;unfold nilL at f;split at f
   ·rename_i a;cases q;cases p;rcases C.blk b _ D with⟨_,rfl⟩ | ⟨h0,_⟩
    ·simp at a
    ·refine⟨rfl,.v _,.bool false,?_,.v _⟩;simp only[Place.val,h0,cond_false];exact run_nilX j k _ _ _ i
   ·cases f
  ·cases d
 ·cases d
def opX_sound(X:m≤mem.length)(D:RM w0 m B F mem w)(l:VRs B F w ts a.tmps.toList)(E:∀ s∈ts,Bd (Live mem) s){r:Res}(h:opX P m ts mem o=some r)(G:r.Out s mem'):
  ∃ B' w' I,(execOp a.eval o).run P w=.ok I w'∧OutN B' F w' s I∧RM w0 m B' F mem' w'∧(∀ i,Live mem i→B' i=B i)∧KeepsF F w w'∧Ext mem mem'∧Bd (Live mem') s:=by
 have j:∀ {q:Sem Value},execOp a.eval o=(do pure (Next.value (←q)):Sem Next)→(mem'=mem∧Bd (Live mem) s∧∃ z,q.run P w=.ok z w∧VR B F w s z)→
   ∃ B' w' I,(execOp a.eval o).run P w=.ok I w'∧OutN B' F w' s I∧RM w0 m B' F mem' w'∧(∀ i,Live mem i→B' i=B i)∧KeepsF F w w'∧Ext mem mem'∧Bd (Live mem') s:=by
  rintro q e ⟨L,T,z,K,C⟩;subst L;exact⟨B,w,_,by rw[e];exact Rx.run_v K,.inl ⟨z,rfl,C⟩,D,fun _ _=>rfl,KeepsF.refl _ _,Ext.refl _,T⟩
 have H:∀ {q:Sem Value},execOp a.eval o=(do pure (Next.value (←q)):Sem Next)→(∃ B' w' z,q.run P w=.ok z w'∧VR B' F w' s z∧RM w0 m B' F mem' w'∧(∀ i,Live mem i→B' i=B i)∧KeepsF F w w'∧Ext mem mem'∧Bd (Live mem') s)→
   ∃ B' w' I,(execOp a.eval o).run P w=.ok I w'∧OutN B' F w' s I∧RM w0 m B' F mem' w'∧(∀ i,Live mem i→B' i=B i)∧KeepsF F w w'∧Ext mem mem'∧Bd (Live mem') s:=by
  rintro q e ⟨B',w',z,K,C,J⟩;exact⟨B',w',_,by rw[e];exact Rx.run_v K,.inl ⟨z,rfl,C⟩,J⟩
 unfold opX at h;split at h
 ·rename_i t x f;split at h
  ·rename_i g;exact H (q:=Instr.range t (a.eval x)) (by simp only[execOp,f]) (rangeX_sound D (ev_bd E x) (ev_vr l g) h G)
  ·cases h
 ·rename_i t x y Z f;split at h
  ·rename_i g;simp only[zm]at g;exact j (q:=(do eqGuard .eql t x y (a.eval x) (a.eval y);binOp .eql t (a.eval x) (a.eval y))) (by simp only[execOp,f]) (nilX_sound D x y (ev_vr l g.1) (ev_vr l g.2) h G)
  ·cases h
 ·rename_i x f;split at h
  ·rename_i g;exact j (q:=Instr.entry (a.eval x)) (by simp only[execOp,f]) (entryX_sound D (ev_vr l g) h G)
  ·cases h
 ·rename_i t x V f;split at h
  ·rename_i g;simp only[zm]at g;exact j (q:=Instr.indexAt t (a.eval x) (a.eval V)) (by simp only[execOp,f]) (idxX_sound D (ev_bd E x) (ev_vr l g.1) (ev_vr l g.2) h G)
  ·cases h
 ·rename_i t x S U W f;split at h
  ·rename_i g;simp only[zm]at g;exact j (q:=Instr.sliceAt t (a.eval x) (some (a.eval S)) (some (a.eval U)) (some (a.eval W))) (by simp only[execOp,f];rfl) (sliceX_sound D (ev_bd E x) (ev_vr l g.1.1.1) (ev_vr l g.1.1.2) (ev_vr l g.1.2) (ev_vr l g.2) h G)
  ·cases h
 ·rename_i t len A f;split at h
  ·rename_i g;simp only[ym]at g;refine H (q:=Instr.buildSlice t len (A.map fun p=>(p.1,a.eval p.2))) (by simp only[execOp,f]) (buildCells_sound D h G ψ ?_ ?_)
   ·refine⟨ψ,fun i s d J M=>?_⟩;simp only[tA,rA,yz]at J M;cases O:A.toList[i]? with
    | none=>rw[O]at J;cases J
    | some y=>rw[O]at J M;cases J;cases M;exact ev_vr l (g y (xj O))
   ·intro p N;obtain⟨y,_,rfl⟩:=yy.1 N;exact ev_bd E y.2
  ·cases h
 ·rename_i x t f;split at h
  ·rename_i g;have C:=ev_vr (B:=B) (F:=F) (w:=w) l g;split at h
   ·rename_i e b n k R Q;cases h;obtain⟨rfl,rfl⟩:=G;rw[Q]at C;generalize K:a.eval x=z at C;cases C;have u:(Builtin.len_ #[t] o.type #[a.eval x]).run P w=.ok (.int .i64 n) w:=by
     rw[K];simp[Builtin.len_,run_underlying R,goInt,Sem.run_bind,Sem.run_pure,Result.andThen_ok]
    refine⟨B,w,_,?_,.inl ⟨.int .i64 n,rfl,.v _⟩,D,fun _ _=>rfl,KeepsF.refl _ _,Ext.refl _,.v _⟩;have L:(vD a.eval ⟨[x]⟩)=#[a.eval x]:=by simp[vD]
    simp only[execOp,f,resolve,Sem.run_bind,Sem.run_pure,Result.andThen_ok,invoke,builtin,L,u]
   ·rename_i e b S n k R Q;cases h;obtain⟨rfl,rfl⟩:=G;rw[Q]at C;generalize K:a.eval x=z at C;cases C with | ptc _ _ _ _ _ N =>
     obtain⟨Y,c,rfl,p1,p2⟩:=N;have u:(Builtin.len_ #[t] o.type #[a.eval x]).run P w=.ok (.int .i64 n) w:=by
      rw[K];simp[Builtin.len_,run_underlying R,goInt,Sem.run_bind,Sem.run_pure,Result.andThen_ok]
     refine⟨B,w,_,?_,.inl ⟨.int .i64 n,rfl,.v _⟩,D,fun _ _=>rfl,KeepsF.refl _ _,Ext.refl _,.v _⟩;have L:(vD a.eval ⟨[x]⟩)=#[a.eval x]:=by simp[vD]
     simp only[execOp,f,resolve,Sem.run_bind,Sem.run_pure,Result.andThen_ok,invoke,builtin,L,u]
   ·cases h
  ·cases h
 ·cases h
end
end Go.Q
