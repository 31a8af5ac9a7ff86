import Derived.RangeFuncLeaves
import Derived.TacticsIn
import Derived.RangeFuncNested
import Derived.Laws.IdiomRangeMap
import Derived.Test.YtnjnggbibpnkbaaGreatDoorEIE1
set_option linter.all false
open Array renaming getElem?_eq_getElem→xy,getElem?_toList→vi,map→vD,ext'→uk,getElem?_eq_some_iff→uE,replicate→sE,toList_map→rA,getElem?_map→pD,range→n6,getElem?_range→n8,toList_setIfInBounds→ko,length_toList→kr,getElem?_eq_none_iff→kA
open Bool renaming false_eq_true→zg,and_eq_true→zm,or_eq_true→se,not_eq_true'→qq,or_true→pH,eq_iff_iff→mw
open Go.Op renaming operands→ya
open Go.World renaming putObj_heap_other→wN
open List renaming getElem?_eq_getElem→zP,getElem?_eq_some_iff→y6,getElem?_set→yd,all_eq_true→ym,getElem?_eq_none→yn,length_append→yo,mem_map→yy,getElem?_map→yz,mem_of_getElem?→xj,getElem?_append_left→xm,range→xx,mem_append→xz,replicate→xS,length_take→xV,length_eq_zero_iff→wc,getElem?_append_right→wi,mem_cons→ww,getD→vf,length_cons→vh,length_replicate→vo,ext_getElem?→vE,length_map→vQ,mem_cons_self→uL,foldl_cons→tf,map_map→tA,mem_range→tG,mem_cons_of_mem→s9,mem_singleton→sj,mem_or_eq_of_mem_set→sC,getElem?_take→rj,mem_filter→rK,map_congr_left→rR,mem_replicate→qS,length_nil→oY,getElem?_range→n7,getElem?_of_mem→mh,length_eq_one_iff→mq,set_set→mz,mapM_cons→lE,zip_cons_cons→kB,flatMap_cons→kO,contains_iff_mem→ij,mem_append_left→ir,mem_append_right→iu
open Nat renaming le_refl→za,blt→y9,ble→yb,add_assoc→xo,le_trans→xL,zero_add→wm,ble_eq→ux,ne_of_lt→sR,lt_of_lt_of_le→ry,add_sub_cancel_left→pA,lt_or_ge→nh
open Option renaming some→y8,map_some→wj,bind_some→wT,bind_eq_some_iff→vB,map_eq_some_iff→tF,getD_some→sX,map_map→nj,map_none→mj,isSome_iff_exists→kI,bind_assoc→il
namespace Go.Rx
open Go Go.RowKit
abbrev St:=List Value×Mem
def entB(P:Program)(g:FuncId):Bool :=
 match P.funcs[g]? with
 | some a=>a.body.isSome&&!(a.name == "runtime.NumGoroutine")
 | none=>false
section
variable {P:Program}{m:Nat}{w0:World}
def enters_of_entB{g:FuncId}(h:entB P g=true)(a:Array Value)(w:World):(callFunc g a).run P w=.ok (.enter g a) w:=by
 unfold entB at h;split at h
 ·rename_i d i;simp only[zm,qq]at h;obtain⟨f,j⟩:=h;have b:d.body≠none:=by intro e;rw[e]at f;cases f
  have c:d.name≠ "runtime.NumGoroutine" := by simpa using j
  simp[callFunc,Sem.run_bind,i,c,b]
 ·cases h
def resF(a:Array Value):ResultVar→Sem Value
 | .tmp t=>pure (a.getD t undef)
 | .cell t b=>do loadVar b (←asAddr (a.getD t undef))
def results_eq(c:Func)(a:Array Value):results c a=(do
  let b←c.results.mapM (resF a)
  pure (if h:b.size=1 then b[0]else .tuple b)):=by
 unfold results;congr 1
end
@[irreducible] def br {β : Type} (b : Bool) (x y : Option β) : Option β := bif b then x else y
def br_eq{β:Type}(b:Bool)(x y:Option β):br b x y=bif b then x else y:=by unfold br;rfl
@[irreducible] def bd {α β : Type} (x : Option α) (f : α → Option β) : Option β := x.bind f
def bd_eq{α β:Type}(x:Option α)(f:α→Option β):bd x f=x.bind f:=by unfold bd;rfl
def bd_some{α β:Type}{x:Option α}{f:α→Option β}{r:β}(h:bd x f=some r):∃ y,x=some y∧f y=some r:=by
 rw[bd_eq]at h;exact vB.1 h
def br_bind{β γ:Type}(b:Bool)(x y:Option β)(κ:β→Option γ):(br b x y).bind κ=br b (x.bind κ) (y.bind κ):=by
 rw[br_eq,br_eq];cases b<;>rfl
def bd_bind{α β γ:Type}(x:Option α)(f:α→Option β)(κ:β→Option γ):(bd x f).bind κ=bd x fun y=>(f y).bind κ:=by
 rw[bd_eq,bd_eq];cases x<;>rfl
abbrev TabK:=FuncId→List Value→Option TE
abbrev KO:=Value→Mem→Option Value
abbrev OracleK:=FuncId→List Value→Mem→KO→Option Value
section
variable {P:Program}{G:World→Prop}{m:Nat}{call:OracleK}{w0:World}{r:Value}
end
end Go.Rx
namespace Go.Q
open Go Go.RowKit
open Go.Rx (br bd br_eq bd_eq bd_some entB enters_of_entB)
abbrev St:=List SV×Mem
def putL(ts:List SV)(d:Option Nat)(s:SV):List SV :=
 match d with
 | some d=>ts.set d s
 | none=>ts
def yl(ops:Array Oper)(ts:List SV)(j:Nat):Option (Option Bool) :=
 match (ops[j]?).bind (·.dst)with
 | some t=>match ts[t]? with
  | some (.v x)=>match x with
   | .bool b=>some (some b)
   | _=>some none
  | some _=>none
  | none=>some none
 | none=>some none
inductive Tg where
 | fn (g:FuncId)
 | yld (i:Nat)
 | nxt
 | nilq (t:TypeId)
@[irreducible] noncomputable def chs {β : Type} (l : List (Option β)) : Option β := by
 classical exact if h:∃ r,l≠[]∧∀ x∈l,x=some r then some h.choose else none
def chs_some{β:Type}{l:List (Option β)}{r:β}(h:chs l=some r):l≠[]∧∀ x∈l,x=some r:=by
 unfold chs at h;split at h
 ·rename_i a;cases h;exact a.choose_spec
 ·cases h
def chs_of{β:Type}{l:List (Option β)}{r:β}(a:l≠[])(h:∀ x∈l,x=some r):chs l=some r:=by
 have b:∃ r,l≠[]∧∀ x∈l,x=some r:=⟨r,a,h⟩
 unfold chs;rw[dif_pos b];have d:=b.choose_spec.2;obtain⟨y,c⟩:=List.exists_mem_of_ne_nil l a;rw[←d y c,h y c]
@[irreducible] noncomputable def chsF {β : Type} (a : Option β) (l : List (Bool × Option β)) : Option β :=
 bif l.all fun p=>!p.1 then a else chs ((l.filter (·.1)).map (·.2))
def chsF_some{β:Type}{a:Option β}{l:List (Bool×Option β)}{r:β}(h:chsF a l=some r):((∀ p∈l,p.1=false)→a=some r)∧∀ p∈l,p.1=true→p.2=some r:=by
 unfold chsF at h;cases b:l.all fun p=>!p.1 with
 | true =>
  rw[b,cond_true]at h;refine⟨fun _=>h,fun p c d=>?_⟩;have:=ym.1 b p c;rw[d]at this;cases this
 | false =>
  rw[b,cond_false]at h;refine⟨fun e=>?_,fun p c d=>(chs_some h).2 _ (yy.2 ⟨p,rK.2 ⟨c,d⟩,rfl⟩)⟩;have:(l.all fun p=>!p.1)=true:=ym.2 fun p c=>by rw[e p c];rfl
  rw[this]at b;cases b
def callE(ts:List SV)(o:Oper):Option (Tg×List SV) :=
 match o.op with
 | .call ⟨.value f,args,_⟩ =>
  if okOp f&&args.toList.all okOp then
   match ev ts f with
   | .fn g first cap=>some (.fn g,first++args.toList.map (ev ts)++cap)
   | .yld i=>some (.yld i,args.toList.map (ev ts))
   | _=>none
  else none
 | .next it false=>if okOp it then some (.nxt,[ev ts it])else none
 | .binOp .eql t x y _=>if okOp x&&okOp y then match ev ts x,ev ts y with
  | .sl T l,.v (.slice none 0 0)=>some (.nilq t,[.sl T l])
  | _,_=>none
  else none
 | _=>none
def pickE(ts:List SV)(o:Oper):Option (Bool×SV×SV) :=
 match o.op with
 | .pick c x y=>if okOp c&&okOp x&&okOp y then match ev ts c with
   | .v (.bool b)=>some (b,ev ts x,ev ts y)
   | _=>none
  else none
 | _=>none
def isDefer:Op→Bool
 | .defer _=>true
 | _=>false
inductive Ex where
 | normal
 | exit (id:Nat)
 | ret
def Ex.out:Ex→Exit
 | .normal=>.normal
 | .exit id=>.exit id
 | .ret=>.ret
def mark(a:Nat):Deferred:={ target:=.collected a,args:=#[] }
def Marks(ne:Nat)(w:World):List Deferred→Prop
 | []=>True
 | d::ds=>(∃ a,d=mark a∧ne≤a∧w.heap[a]? = some (Obj.deferred (some []))∧mark a∉ds)∧Marks ne w ds
structure R[HasP](w0:World)(m ne:Nat)(st:St)(B:Loc)(F:Nat→Prop)(a:Act)(w:World):Prop where
 tmps:VRs B F w st.1 a.tmps.toList
 defers:Marks ne w a.defers
 mem:RM w0 m B F st.2 w
 bd:∀ s∈st.1,Bd (Live st.2) s
 le:m≤st.2.length
 ne:ne≤w.heap.size
structure Nx(w0:World)(mem:Mem)(B:Loc)(F:Nat→Prop)(w:World)(mem':Mem)(B':Loc)(F':Nat→Prop)(w':World):Prop where
 loc:∀ i,Live mem i→B' i=B i
 fs:∀ i,F i→F' i
 keep:KeepsF F w w'
 ext:Ext mem mem'
 fn:∀ i,F' i→F i∨w0.heap.size≤i
def Nx.refl{w0:World}{mem:Mem}{B:Loc}{F:Nat→Prop}{w:World}:Nx w0 mem B F w mem B F w:=⟨fun _ _=>rfl,fun _ h=>h,KeepsF.refl _ _,Ext.refl _,fun _ h=>.inl h⟩
def KeepsF.less{F F':Nat→Prop}{w w':World}(h:KeepsF F' w w')(a:∀ i,F i→F' i):KeepsF F w w':=⟨fun i b=>h.f i (a i b),h.d,h.s⟩
def Nx.trans{w0:World}{mem b mem2:Mem}{B c d:Loc}{F F1 F2:Nat→Prop}{w e w2:World}(h:Nx w0 mem B F w b c F1 e)(k:Nx w0 b c F1 e mem2 d F2 w2):Nx w0 mem B F w mem2 d F2 w2 :=
 ⟨fun i a=>(k.loc i (h.ext.live i a)).trans (h.loc i a),fun i a=>k.fs i (h.fs i a),h.keep.trans (k.keep.less h.fs),h.ext.trans k.ext,fun i a=>by
  rcases k.fn i a with a | a
  ·exact h.fn i a
  ·exact .inr a⟩
def Marks.mono{ne:Nat}{w w':World}(b:∀ a:Nat,w.heap[a]? = some (Obj.deferred (some []))→w'.heap[a]? = some (Obj.deferred (some []))):∀ {ds:List Deferred},Marks ne w ds→Marks ne w' ds
 | [],h=>h
 | d::ds,⟨⟨a,h1,h2,h3,h4⟩,h⟩=>⟨⟨a,h1,h2,b a h3,h4⟩,Marks.mono b h⟩
section
variable {P:Program}{G:World→Prop}{m ne:Nat}{w0:World}{ρ:Type}{r:ρ}
def putL_vrs{B:Loc}{F:Nat→Prop}{w:World}{ts:List SV}{a:Act}(h:VRs B F w ts a.tmps.toList)(d:Option Nat){s:SV}{x:Value}(b:VR B F w s x):VRs B F w (putL ts d s) (a.put d x).tmps.toList:=by
 cases d with
 | none=>exact h
 | some d =>
  simp only[putL,Act.put];rw[ko];exact h.set d b
def mem_putL{ts:List SV}{d:Option Nat}{s u:SV}(h:u∈putL ts d s):u∈ts∨u=s:=by
 cases d with
 | none=>exact .inl h
 | some d=>exact sC h
def put_defers(a:Act)(d:Option Nat)(x:Value):(a.put d x).defers=a.defers:=by cases d<;>rfl
def R.step[HasP]{e:St}{B B':Loc}{F F':Nat→Prop}{a:Act}{w w':World}{s:SV}{x:Value}{b:Mem}(h:R w0 m ne e B F a w)(d:Option Nat)(g:RM w0 m B' F' b w')(c:Nx w0 e.2 B F w b B' F' w')(i:VR B' F' w' s x)(f:Bd (Live b) s):
  R w0 m ne (putL e.1 d s,b) B' F' (a.put d x) w' where
 tmps:=putL_vrs ((h.tmps.loc c.loc h.bd).mono c.fs c.keep) d i
 defers:=by rw[put_defers];exact h.defers.mono c.keep.d
 mem:=g
 bd u hu:=by
  rcases mem_putL hu with hu | rfl
  ·exact(h.bd u hu).mono c.ext.live
  ·exact f
 le:=xL h.le c.ext.len
 ne:=xL h.ne c.keep.s
def R.skip[HasP]{b:St}{B:Loc}{F:Nat→Prop}{a:Act}{w:World}(h:R w0 m ne b B F a w)(d:Option Nat):R w0 m ne (putL b.1 d (.v undef),b.2) B F (a.put d undef) w :=
 h.step d h.mem Nx.refl (.v _) (.v _)
def yl_spec[HasP]{e:St}{B:Loc}{F:Nat→Prop}{a:Act}{w:World}(h:R w0 m ne e B F a w){ops:Array Oper}{j:Nat}{q:Option Bool}(b:yl ops e.1 j=some q):yielded ops a.tmps j=q:=by
 unfold yl at b;unfold yielded;cases f:(ops[j]?).bind (·.dst)with
 | none=>rw[f]at b;cases b;rfl
 | some t =>
  rw[f]at b;simp only[wT]at b⊢;cases c:e.1[t]? with
  | none =>
   rw[c]at b;cases b;have:a.tmps[t]? = none:=by
    rw[kA,←kr,←h.tmps.1];exact List.getElem?_eq_none_iff.1 c
   rw[this]
  | some s =>
   rw[c]at b;obtain⟨x,g,i⟩:=h.tmps.get c;rw[vi]at g;rw[g];cases s with
   | v y =>
    cases i;simp only at b;split at b
    ·cases b;rfl
    ·rename_i d;cases b;cases x<;>first | rfl | exact(d _ rfl).elim
   | _=>cases b
abbrev KO(ρ:Type):=SV→Mem→Option ρ
abbrev KS(ρ:Type):=St→Option ρ
abbrev KE(ρ:Type):=Ex→St→Option ρ
abbrev Oracle(ρ:Type):=Tg→List SV→Mem→KO ρ→Option ρ
def resK(q:Res)(k:KO ρ):Option ρ:=match q with
 | .det s mem=>k s mem
 | .part _ x out=>bd x fun y=>k (out y).1 (out y).2
 | .alt c x y=>br c (resK x k) (resK y k)
 | .bnd _ x out=>bd x fun y=>resK (out y) k
def opK(P:Program)(m:Nat)(ts:List SV)(mem:Mem)(o:Oper)(k:KO ρ):Option ρ :=
 match pickE ts o with
 | some (b,x,y)=>br b (k x mem) (k y mem)
 | none=>match opS P m ts mem o with
  | some q=>resK q k
  | none=>match opX P m ts mem o with
   | some q=>resK q k
   | none=>none
def okTg(P:Program):Tg→Bool
 | .fn g=>entB P g
 | .yld _=>true
 | .nxt=>true
 | .nilq _=>true
def evalOpK(P:Program)(call:Oracle ρ)(m:Nat)(o:Oper)(b:St)(k:KS ρ):Option ρ :=
 bif isDefer o.op then none else match callE b.1 o with
 | some (g,args)=>bif okTg P g then call g args b.2 fun s a=>k (putL b.1 o.dst s,a)else none
 | none=>opK P m b.1 b.2 o fun s a=>k (putL b.1 o.dst s,a)
def wantK(ops:Array Oper)(a:St)(o:Oper)(x y:KS ρ):Option ρ :=
 match o.guard with
 | none=>x a
 | some (j,want)=>match (ops[j]?).bind (·.dst)with
  | none=>y a
  | some t=>match a.1[t]? with
   | none=>y a
   | some s=>match s with
    | .v u=>match u with
     | .bool b=>br b (bif want then x (a.1.set t (.v (.bool true)),a.2)else y (a.1.set t (.v (.bool true)),a.2)) (bif want then y (a.1.set t (.v (.bool false)),a.2)else x (a.1.set t (.v (.bool false)),a.2))
     | _=>y a
    | _=>none
def evalIdxK(P:Program)(call:Oracle ρ)(m:Nat)(ops:Array Oper):List Nat→St→KS ρ→Option ρ
 | [],a,k=>k a
 | i::rest,a,k =>
  match ops[i]? with
  | none=>evalIdxK P call m ops rest a k
  | some o=>wantK ops a o (fun a=>evalOpK P call m o a fun b=>evalIdxK P call m ops rest b k) (fun a=>evalIdxK P call m ops rest (putL a.1 o.dst (.v undef),a.2) k)
abbrev Draws(ρ:Type):=Array Oper→St→KS ρ→Option ρ
def cutR(j:Nat):Nat→SV→SV
 | _,.ptr b o=>bif y9 b j then .ptr b o else .any
 | _,.row b=>bif y9 b j then .row b else .any
 | _,.part b lo n k=>bif y9 b j then .part b lo n k else .any
 | _,.mp b=>bif y9 b j then .mp b else .any
 | _,.csl b n k=>bif y9 b j then .csl b n k else .any
 | _,.ptc b lo n k=>bif y9 b j then .ptc b lo n k else .any
 | _,.rp b i n o=>bif y9 b j then .rp b i n o else .any
 | _,.yld i=>bif y9 i j then .yld i else .any
 | d+1,.agg cs=>.agg (cs.map (cutR j d))
 | d+1,.tup cs=>.tup (cs.map (cutR j d))
 | d+1,.fn g f c=>.fn g (f.map (cutR j d)) (c.map (cutR j d))
 | 0,.agg _=>.any
 | 0,.tup _=>.any
 | 0,.fn _ _ _=>.any
 | _,s=>s
def Blk.cut(j:Nat):Blk→Blk
 | .cells a t=>.cells (a.map (cutR j 5)) t
 | .rnd r=>.rnd { r with tmps:=r.tmps.map (cutR j 5) }
 | .map k c n=>.map k (c.map fun e=>(e.1,cutR j 5 e.2)) n
 | .iter mb n seen _=>bif y9 mb j then .iter mb n seen none else .dead
 | b=>b
def nrm0(ks:List Nat)(j:Nat)(a:St):St :=
 ((ks.foldl (fun ts t=>ts.set t .any) a.1).map (cutR j 5),(a.2.take j).map fun b=>b.map (Blk.cut j))
def getA(a:St):AL→SV
 | .tmp t=>a.1.getD t .any
 | .ref b i=>match a.2[b]? with
  | some (some (.cells cs _))=>cs.getD i .any
  | some (some (.rnd r))=>r.tmps.getD i .any
  | _=>.any
def setA(s:SV)(a:St):AL→St
 | .tmp t=>(a.1.set t s,a.2)
 | .ref b i=>match a.2[b]? with
  | some (some (.cells cs t))=>(a.1,a.2.set b (some (.cells (cs.set i s) t)))
  | some (some (.rnd r))=>(a.1,a.2.set b (some (.rnd { r with tmps:=r.tmps.set i s })))
  | _=>a
def takeA(m:Nat)(A:Acc)(a:St):Option Blk×Mem:=match getA a A.loc with
 | .row b=>match a.2[b]? with
  | some (some (.row T l e false))=>bif yb m b then(some (.row T l e false),a.2.set b (some .gone))else(none,a.2)
  | _=>(none,a.2)
 | .v (.slice none 0 0)=>(some (.row A.T [] A.e false),a.2)
 | _=>(none,a.2)
def addA(A:Acc)(b:Option Blk)(a:St):St:=match b with
 | some b=>setA (.row a.2.length) (a.1,a.2++[some b]) A.loc
 | none=>(a.1,a.2++[none])
def nrmA(m:Nat)(ks:List Nat)(j:Nat):List Acc→St→St
 | [],st=>nrm0 ks j st
 | A::rest,st=>addA A (takeA m A st).1 (nrmA m ks j rest (st.1,(takeA m A st).2))
def killB(mem:Mem)(b:Nat):Mem:=match mem[b]? with
 | some (some x)=>bif x.fz then mem else mem.set b (some .gone)
 | _=>mem
def nrmS(m:Nat)(n:Nr)(j:Nat)(a:St):St:=nrmA m n.ks j n.acc (a.1,n.kb.foldl killB a.2)
def iterK(nrm a:St→St)(body:St→KE ρ→Option ρ):Nat→St→KE ρ→Option ρ
 | 0,_,_=>none
 | n+1,st,k=>body st fun e b=>match e with
  | .normal=>iterK nrm a body n (nrm b) k
  | e=>k e (a b)
inductive Alt where
 | one (e:Ex) (st:St)
 | two (c:Bool) (a b:Alt)
def altK{ρ:Type}(k:KE ρ):Alt→Option ρ
 | .one e d=>k e d
 | .two c a b=>br c (altK k a) (altK k b)
structure LTE where
 α:Type
 x:Option α
 out:α→Alt
abbrev Sums:=Nat→St→Option LTE
def isRnd(mem:Mem)(i:Nat):Bool:=match mem[i]? with
 | some (some (.rnd _))=>true
 | _=>false
def inRnd(mem:Mem):Option Nat→Bool
 | none=>true
 | some i=>isRnd mem i
def codeK(P:Program)(g:FuncId)(a:Ann)(ls:Sums)(i:Draws ρ)(call:Oracle ρ)(m lf:Nat)(ro:Option Nat):Nat→Code→St→KE ρ→Option ρ
 | _,.skip,st,k=>k .normal st
 | _,.label _,st,k=>k .normal st
 | _,.exit id,st,k=>k (.exit id) st
 | _,.ret,st,k=>k .ret st
 | _,.region _ ops draw,st,k=>bif draw then i ops st (k .normal)else evalIdxK P call m ops (xx ops.size) st (k .normal)
 | li,.seq x y,st,k=>codeK P g a ls i call m lf ro li x st fun e h=>match e with
  | .normal=>codeK P g a ls i call m lf ro (li+loops x) y h k
  | e=>k e h
 | li,.cond c x y,st,k=>bif okOp c then(match ev st.1 c with
  | .v (.bool b)=>br b (codeK P g a ls i call m lf ro li x st k) (codeK P g a ls i call m lf ro (li+loops x) y st k)
  | _=>none)else none
 | li,.block id body,st,k=>codeK P g a ls i call m lf ro li body st fun e h=>match e with
  | .exit j=>bif j==id then k .normal h else k (.exit j) h
  | e=>k e h
 | li,.loop body,st,k=>match ls li (nrmS m (a li).1 st.2.length st)with
  | some T=>bd T.x fun y=>altK k (T.out y)
  | none=>iterK (nrmS m (a li).1 st.2.length) (nrmS m (a li).2 st.2.length) (codeK P g a ls i call m lf ro (li+1) body) lf (nrmS m (a li).1 st.2.length st) k
 | li,.rangeFunc f ps assign body,st,k=>bif okOp f&&inRnd st.2 ro then(match ev st.1 f with
  | .fn l first cap=>bif entB P l then call (.fn l) (first++[.yld st.2.length]++cap) (st.2++[some (.rnd ⟨(a li).1.ks.foldl (fun ts t=>ts.set t .any) st.1,g,li,.ready,none⟩)]) fun s d =>
    match d[st.2.length]? with
    | some (some (.rnd r))=>match r.st,r.pending with
     | .ready,none=>k .normal (st.1,d.set st.2.length (some .dead))
     | .done,some (.exit id)=>k (.exit id) (st.1,d.set st.2.length (some .dead))
     | .done,some .ret=>k .ret (st.1,d.set st.2.length (some .dead))
     | _,_=>none
    | _=>none
   else none
  | _=>none)else none
 | _,_,_,_=>none
noncomputable def waysK (b mb n:Nat) (seen:List Nat) (kd:IntKind) (k:KO ρ) (mem:Mem):Nat→List (Int×SV)→List (Bool×Option ρ)
 | _,[]=>[]
 | i,e::es=>(!seen.contains i,k (.tup [.v (.bool true),.v (.int kd e.1),e.2]) (mem.set b (some (.iter mb n (i::seen) (some i)))))::waysK b mb n seen kd k mem (i+1) es
def waysK_mem{b mb n:Nat}{seen:List Nat}{kd:IntKind}{k:KO ρ}{mem:Mem}:∀ (a:List (Int×SV)) (i j:Nat) (e:Int×SV),a[j]? = some e→
  (!seen.contains (i+j),k (.tup [.v (.bool true),.v (.int kd e.1),e.2]) (mem.set b (some (.iter mb n ((i+j)::seen) (some (i+j))))))∈waysK b mb n seen kd k mem i a
 | e::a,i,0,e',h=>by simp at h;subst h;exact uL ..
 | e::a,i,j+1,e',h=>by
  have:=waysK_mem (b:=b) (mb:=mb) (n:=n) (seen:=seen) (kd:=kd) (k:=k) (mem:=mem) a (i+1) j e' (by simpa using h);rw[show i+1+j=i+(j+1) by omega]at this;exact s9 _ this
def waysK_fst{b mb n:Nat}{seen:List Nat}{kd:IntKind}{k:KO ρ}{mem:Mem}:∀ (a:List (Int×SV)) (i:Nat) (p:Bool×Option ρ),p∈waysK b mb n seen kd k mem i a→∃ j,j < a.length∧p.1=!seen.contains (i+j)
 | [],i,p,h=>by cases h
 | e::a,i,p,h=>by
  rcases ww.1 h with rfl | h
  ·exact⟨0,ψ,rfl⟩
  ·obtain⟨j,c,d⟩:=waysK_fst a (i+1) p h;exact⟨j+1,by simpa using c,by rw[d,show i+1+j=i+(j+1) by omega]⟩
noncomputable def nextK (m:Nat) (a:List SV) (mem:Mem) (k:KO ρ):Option ρ:=match a with
 | [.ptr b 0]=>match mem[b]? with
  | some (some (.iter mb n seen _))=>match mem[mb]? with
   | some (some (.map kd es _))=>bif yb m b&&es.length==n then chsF (k (.tup [.v (.bool false)]) mem) (waysK b mb n seen kd k mem 0 es)
    else none
   | _=>none
  | _=>none
 | _=>none
noncomputable def nilK (P:Program) (b:Bool) (t:TypeId) (a:List SV) (mem:Mem) (k:KO ρ):Option ρ:=match a with
 | [.sl T l]=>match P.underlying t with
  | some (.slice _)=>br (decide (0 < l.length)) (k (.v (.bool false)) mem) (bif b then chs [k (.v (.bool false)) mem,k (.v (.bool true)) mem]else none)
  | _=>none
 | _=>none
def Fin[HasP](w0:World)(m:Nat)(mem:Mem)(B:Loc)(F:Nat→Prop)(w:World)(k:KO ρ)(r:ρ)(e:Ending)(w':World):Prop :=
 ∃ s a B' F' x,k s a=some r∧e=.returned x∧VR B' F' w' s x∧RM w0 m B' F' a w'∧Nx w0 mem B F w a B' F' w'∧Bd (Live a) s
def fen(l:Option Nat):Fence:={ Fence.wide with round:=l }
def CallK[HasP](P:Program)(G:World→Prop)(m:Nat)(call:Oracle ρ):Prop :=
 ∀ d b mem k r,call d b mem k=some r→∀ (w0 w:World) (B:Loc) (F:Nat→Prop) (vals:List Value),G w0→m≤mem.length→RM w0 m B F mem w→(∀ s∈b,Bd (Live mem) s)→VRs B F w b vals→
  match d with
  | .fn g=>Calls P g vals.toArray w (Fin w0 m mem B F w k r)
  | .nxt=>∃ v w',(∀ h,(Instr.next (vals.headD undef) false h).run P w=.ok v w')∧Fin w0 m mem B F w k r (.returned v) w'
  | .nilq t=>∃ v w',(∀ e f,(do eqGuard .eql t e f (vals.headD undef) (.slice none 0 0);binOp .eql t (vals.headD undef) (.slice none 0 0):Sem Value).run P w=.ok v w')∧Fin w0 m mem B F w k r (.returned v) w'
  | .yld i=>Live mem i→∃ fn c a body,(Instr.yield (B i).blk vals.toArray).run P w=.ok (.round (B i).blk fn c a body) w∧RoundIn (fen none) 0 P (B i).blk fn c a body w (Fin w0 m mem B F w k r)
def resK_out{k:KO ρ}:∀ (q:Res),resK q k=some r→∃ s a,q.Out s a∧k s a=some r
 | .det s a,b=>⟨s,a,⟨rfl,rfl⟩,b⟩
 | .part α x out,b=>by
  obtain⟨y,f,b⟩:=bd_some b;exact⟨_,_,⟨y,f,rfl⟩,b⟩
 | .alt c x y,b=>by
  simp only[resK,br_eq]at b;cases c with
  | true=>obtain⟨s,a,d,e⟩:=resK_out x b;exact⟨s,a,.inl ⟨rfl,d⟩,e⟩
  | false=>obtain⟨s,a,d,e⟩:=resK_out y b;exact⟨s,a,.inr ⟨rfl,d⟩,e⟩
 | .bnd α x out,b=>by
  obtain⟨y,f,b⟩:=bd_some b;obtain⟨s,a,d,e⟩:=resK_out (out y) b;exact⟨s,a,⟨y,f,d⟩,e⟩
def opK_sound[HasP]{o:Oper}{f:St}{B:Loc}{F:Nat→Prop}{a:Act}{w:World}{k:KO ρ}(h:R w0 m ne f B F a w)(e:opK P m f.1 f.2 o k=some r):
  ∃ s d B' w' l,k s d=some r∧(execOp a.eval o).run P w=.ok l w'∧OutN B' F w' s l∧RM w0 m B' F d w'∧Nx w0 f.2 B F w d B' F w'∧Bd (Live d) s:=by
 unfold opK at e;split at e
 ·rename_i b x y i;unfold pickE at i;split at i
  ·rename_i c J K H;split at i
   ·rename_i g;simp only[zm]at g;split at i
    ·rename_i b' N;cases i;have n:=ev_vr (B:=B) (F:=F) (w:=w) h.tmps g.1.1;rw[N]at n;have L:=ev_vr (B:=B) (F:=F) (w:=w) h.tmps g.1.2;have M:=ev_vr (B:=B) (F:=F) (w:=w) h.tmps g.2;have O:a.eval c=.bool b:=by generalize a.eval c=z at n;cases n;rfl
     refine⟨bif b then ev f.1 J else ev f.1 K,f.2,B,w,.value (bif b then a.eval J else a.eval K),?_,?_,.inl ⟨_,rfl,?_⟩,h.mem,Nx.refl,?_⟩
     ·rw[br_eq]at e;cases b<;>exact e
     ·simp only[execOp,H,O];cases b<;>rfl
     ·cases b
      ·exact M
      ·exact L
     ·cases b
      ·exact ev_bd h.bd _
      ·exact ev_bd h.bd _
    ·cases i
   ·cases i
  ·cases i
 ·cases I:opS P m f.1 f.2 o with
  | none =>
   rw[I]at e;cases j:opX P m f.1 f.2 o with
   | none=>rw[j]at e;cases e
   | some q =>
    rw[j]at e;have:∃ s d,q.Out s d∧k s d=some r:=resK_out q e;obtain⟨s,d,G,E⟩:=this;obtain⟨B',w',l,p,t,u,v,A,C,D⟩:=opX_sound h.le h.mem h.tmps h.bd j G;exact⟨s,d,B',w',l,E,p,t,u,⟨v,fun _ h=>h,A,C,fun _ h=>.inl h⟩,D⟩
  | some q =>
   rw[I]at e;have:∃ s d,q.Out s d∧k s d=some r:=resK_out q e;obtain⟨s,d,G,E⟩:=this;obtain⟨B',w',l,p,t,u,v,A,C,D⟩:=opS_sound h.le h.mem h.tmps h.bd I G;exact⟨s,d,B',w',l,E,p,t,u,⟨v,fun _ h=>h,A,C,fun _ h=>.inl h⟩,D⟩
def semAt_eq(l:Option Nat)(ρ':Operand→Value)(o:Oper)(h:isDefer o.op=false):o.semAt l ρ'=execOp ρ' o:=by
 cases l with
 | none=>rfl
 | some l=>exact Oper.semAt_some l ρ' o fun c e=>by rw[e]at h;cases h
def wide_about{l:Option Nat}{o:Oper}{a:Act}{w:World}:∀ f,o.about P w a.eval=some f→(fen l).fn f:=fun _ _=>trivial
def no_depth{l:Option Nat}{n:Nat}:(fen l).depth.isSome=true→1≤n:=fun h=>by cases h
def evalOpK_sound[HasP]{call:Oracle ρ}(hc:CallK P G m call)(hG:G w0){l:Option Nat}{o:Oper}{H:St}{B:Loc}{F:Nat→Prop}{a:Act}{w:World}{K:Act→World→Prop}{Q:Exit→Act→World→Prop}{k:KS ρ}
  (h:R w0 m ne H B F a w) (A:evalOpK P call m o H k=some r) (hK:∀ st' B' F' a' w',k st'=some r→Nx w0 H.2 B F w st'.2 B' F' w'→R w0 m ne st' B' F' a' w'→a'.defers=a.defers→K a' w'):o.wpIn (fen l) 0 P a w K Q:=by
 refine⟨wide_about,?_⟩;unfold evalOpK at A;cases J:isDefer o.op with
 | true=>rw[J]at A;cases A
 | false =>
 rw[J]at A;simp only[cond_false]at A;rw[semAt_eq _ _ _ J];split at A
 ·rename_i tg args b;cases L:okTg P tg with
  | false=>rw[L]at A;cases A
  | true =>
  rw[L]at A;simp only[cond_true]at A;unfold callE at b;split at b
  ·rename_i f c tys E;split at b
   ·rename_i n;simp only[zm,ym]at n;have D:=ev_vr (B:=B) (F:=F) (w:=w) h.tmps n.1;have I:=ev_bd h.bd f;have hav:VRs B F w (c.toList.map (ev H.1)) (c.toList.map a.eval):=⟨ψ,fun i s d M N=>by
     rw[yz]at M N;cases hq:c.toList[i]? with
     | none=>rw[hq]at M;cases M
     | some y=>rw[hq]at M N;cases M;cases N;exact ev_vr h.tmps (n.2 y (xj hq))⟩
    have hab:∀ s∈c.toList.map (ev H.1),Bd (Live H.2) s:=fun s p=>by
     obtain⟨y,_,rfl⟩:=yy.1 p;exact ev_bd h.bd y
    have fin:∀ {e:Ending} {w':World},Fin w0 m H.2 B F w (fun s q=>k (putL H.1 o.dst s,q)) r e w'→(match e with
      | .returned v=>K (a.put o.dst v) w'
      | .panicked W=>Q (.panic W) a w'
      | .outgrown=>LetsOut Q):=by
     rintro e w' ⟨s,q,B',F',x,U,rfl,Z,hR,V,hb⟩;exact hK _ B' F' _ _ U V (h.step o.dst hR V Z hb) (put_defers _ _ _)
    split at b
    ·rename_i g first cap X
     cases b;rw[X]at D I;generalize hz:a.eval f=z at D;cases D with | fn _ _ _ fd cd M N h3 h4 =>
      have j:(execOp a.eval o).run P w=.ok (.enter g (fd++c.toList.map a.eval++cd).toArray) w:=by
       simp only[execOp,E,resolve,hz,Deferred.ofValue,Sem.run_bind,Sem.run_pure,Result.andThen_ok,invoke];rw[enters_of_entB L];congr 2;apply uk;simp
      rw[j,Oper.uponIn_enter];refine⟨no_depth,callsIn_wide.2 ?_⟩;refine(hc (.fn g) _ H.2 _ r A w0 w B F (fd++c.toList.map a.eval++cd) hG h.le h.mem ?_ ((VRs.append ⟨M,N⟩ hav).append ⟨h3,h4⟩)).mono fun e w' hf=>by have:=fin hf;cases e<;>exact this
      intro s p;rcases xz.1 p with p | p
      ·rcases xz.1 p with p | p
       ·exact I.of_fn.1 s p
       ·exact hab s p
      ·exact I.of_fn.2 s p
    ·rename_i i X;cases b;rw[X]at D I;generalize hz:a.eval f=z at D;cases D;have Y:Live H.2 i:=by cases I with | yld h=>exact h
     obtain⟨fn,tmps,O,body,hy,S⟩:=hc (.yld i) _ H.2 _ r A w0 w B F (c.toList.map a.eval) hG h.le h.mem hab hav Y;have j:(execOp a.eval o).run P w=.ok (.round (B i).blk fn tmps O body) w:=by
      simp only[execOp,E,resolve,hz,Deferred.ofValue,Sem.run_bind,Sem.run_pure,Result.andThen_ok,invoke];have e1:(#[]++vD a.eval c++#[])=(c.toList.map a.eval).toArray:=by apply uk;simp
      first
       | (rw[e1];exact hy)
       | (simp only[←e1]at hy;simpa using hy)
     rw[j,Oper.uponIn_round];exact⟨no_depth,S.mono fun e w' hf=>by have:=fin hf;cases e<;>exact this⟩
    ·cases b
   ·cases b
  ·rename_i it E;split at b
   ·rename_i n;cases b;have hit:=ev_vr (B:=B) (F:=F) (w:=w) h.tmps n;obtain⟨v,w',C,s,q,B',F',x,U,e1,Z,hR,V,hb⟩:=hc .nxt _ H.2 _ r A w0 w B F [a.eval it] hG h.le h.mem (fun s p=>by simp at p;subst p;exact ev_bd h.bd it) (.cons hit .nil);cases e1;have j:(execOp a.eval o).run P w=.ok (.value v) w':=by
     simp only[execOp,E];exact Rx.run_v (C o.type)
    rw[j,Oper.uponIn_value];exact hK _ B' F' _ _ U V (h.step o.dst hR V Z hb) (put_defers _ _ _)
   ·cases b
  ·rename_i t x y _ E;split at b
   ·rename_i n;simp only[zm]at n;split at b
    ·rename_i T l e1 e2;cases b;have hx:=ev_vr (B:=B) (F:=F) (w:=w) h.tmps n.1;have hy:=ev_vr (B:=B) (F:=F) (w:=w) h.tmps n.2;rw[e1]at hx;rw[e2]at hy;have hy':a.eval y=.slice none 0 0:=by generalize a.eval y=z at hy;cases hy;rfl
     obtain⟨v,w',C,s,q,B',F',u,U,e3,Z,hR,V,hb⟩:=hc (.nilq t) _ H.2 _ r A w0 w B F [a.eval x] hG h.le h.mem (fun s p=>by simp at p;subst p;exact .sl) (.cons hx .nil);cases e3;have j:(execOp a.eval o).run P w=.ok (.value v) w':=by
      simp only[execOp,E,hy'];exact Rx.run_v (C x y)
     rw[j,Oper.uponIn_value];exact hK _ B' F' _ _ U V (h.step o.dst hR V Z hb) (put_defers _ _ _)
    ·cases b
   ·cases b
  ·cases b
 ·obtain⟨s,q,B',w',nx,U,j,hout,M,N,h3⟩:=opK_sound h A;rw[j];rcases hout with⟨x,rfl,Z⟩ | ⟨rfl,rfl⟩
  ·exact hK _ B' F _ _ U N (h.step o.dst M N Z h3) (put_defers _ _ _)
  ·exact hK _ B' F _ _ U N (h.step o.dst M N (.any _) h3) (put_defers _ _ _)
end
section
variable {P:Program}{G:World→Prop}{m ne:Nat}{w0:World}{ρ:Type}{r:ρ}
def set_self{l:List SV}{t:Nat}{s:SV}(h:l[t]? = some s):l.set t s=l:=by
 apply vE;intro i;rw[yd];by_cases e:t=i
 ·subst e;rw[gT rfl,gT (y6.1 h).1,h]
 ·rw[gR e]
def wantK_spec[HasP]{st:St}{B:Loc}{F:Nat→Prop}{a:Act}{w:World}(h:R w0 m ne st B F a w){ops:Array Oper}{o:Oper}{x y:KS ρ}(c:wantK ops st o x y=some r):
  (Region.wanted o (yielded ops a.tmps)=true∧x st=some r)∨(Region.wanted o (yielded ops a.tmps)=false∧y st=some r):=by
 unfold wantK at c;unfold Region.wanted;cases k:o.guard with
 | none=>rw[k]at c;exact .inl ⟨rfl,c⟩
 | some n =>
  obtain⟨j,f⟩:=n;rw[k]at c;simp only at c⊢;have d:∀ q,yl ops st.1 j=some q→yielded ops a.tmps j=q:=fun q l=>yl_spec h l;unfold yl at d;cases i:(ops[j]?).bind (·.dst)with
  | none =>
   rw[i]at c d;rw[d none rfl];exact .inr ⟨rfl,c⟩
  | some t =>
   rw[i]at c d;simp only at c d;cases g:st.1[t]? with
   | none =>
    rw[g]at c d;rw[d none rfl];exact .inr ⟨rfl,c⟩
   | some s =>
    rw[g]at c d;cases s with
    | v u =>
     cases u with
     | bool b =>
      simp only at c d;rw[d (some b) rfl];simp only[br_eq]at c;have e:(st.1.set t (.v (.bool b)),st.2)=st:=by rw[set_self g]
      cases b<;>cases f<;>simp only[cond_true,cond_false,e]at c<;>first | exact .inl ⟨rfl,c⟩ | exact .inr ⟨rfl,c⟩
     | _ =>
      simp only at c d;rw[d none rfl];exact .inr ⟨rfl,c⟩
    | _=>cases c
def evalIdxK_sound[HasP]{call:Oracle ρ}(q:CallK P G m call)(p:G w0){l:Option Nat}{ops:Array Oper}{Q:Exit→Act→World→Prop}:∀ (x:List Nat) {j:St} {B:Loc} {F:Nat→Prop} {a:Act} {w:World} {k:KS ρ},
  R w0 m ne j B F a w→evalIdxK P call m ops x j k=some r→(∀ f B' F' n w',k f=some r→Nx w0 j.2 B F w f.2 B' F' w'→R w0 m ne f B' F' n w'→n.defers=a.defers→Q .normal n w')→wpOpsIn (fen l) 0 P ops Q x a w
 | [],j,B,F,a,w,k,h,he,hQ=>by
  simp only[evalIdxK]at he;exact hQ j B F a w he Nx.refl h rfl
 | i::rest,j,B,F,a,w,k,h,he,hQ=>by
  simp only[wpOpsIn];simp only[evalIdxK]at he;cases v:ops[i]? with
  | none =>
   simp only[v]at he⊢;exact evalIdxK_sound q p rest h he hQ
  | some o =>
   simp only[v]at he⊢;rcases wantK_spec h he with⟨hw,he⟩ | ⟨hw,he⟩
   ·rw[gT hw];exact evalOpK_sound q p h he fun D B' F' n w' A C y z=>evalIdxK_sound q p rest y A fun g s F2 t u d e b c =>
     hQ g s F2 t u d (C.trans e) b (c.trans z)
   ·rw[gR (by rw[hw];simp)];exact⟨wide_about,evalIdxK_sound q p rest (h.skip o.dst) he fun g s F2 t u d e b c=>hQ g s F2 t u d e b (c.trans (put_defers _ _ _))⟩
def DrawsOK[HasP](ρ:Type)(P:Program)(G:World→Prop)(m:Nat)(e:Draws ρ):Prop :=
 ∀ (w0:World) (ne:Nat) (r:ρ) (l:Option Nat) (id:Nat) (ops:Array Oper) (Q:Exit→Act→World→Prop) (d:St) (B:Loc) (F:Nat→Prop) (a:Act) (w:World) (k:KS ρ),G w0→e ops d k=some r→
  R w0 m ne d B F a w→(∀ b B' F' c w',k b=some r→Nx w0 d.2 B F w b.2 B' F' w'→R w0 m ne b B' F' c w'→c.defers=a.defers→Q .normal c w')→(Code.region id ops true).wpIn (fen l) 0 P Q a w
def vr_bif{B:Loc}{F:Nat→Prop}{w:World}{s:SV}{x:Value}(b:Bool)(h:VR B F w s x):VR B F w (bif b then s else .any) x:=by
 cases b
 ·exact .any _
 ·exact h
def vrs_map{B:Loc}{F:Nat→Prop}{w:World}{f:SV→SV}(d:∀ s x,VR B F w s x→VR B F w (f s) x){b:List SV}{ds:List Value}(h:VRs B F w b ds):VRs B F w (b.map f) ds :=
 ⟨by simpa using h.1,fun i s y a e=>by
  rw[yz]at a;cases c:b[i]? with
  | none=>rw[c]at a;cases a
  | some q=>rw[c]at a;cases a;exact d _ _ (h.2 i q y c e)⟩
def vr_cutR{B:Loc}{F:Nat→Prop}{w:World}(j:Nat):∀ (d:Nat) (s:SV) (x:Value),VR B F w s x→VR B F w (cutR j d s) x:=by
 intro d
 induction d with
 | zero =>
  intro s x h;cases s with
  | v y=>exact h
  | ptr b o=>exact vr_bif _ h
  | sl T l=>exact h
  | ep T y o=>exact h
  | row b=>exact vr_bif _ h
  | rp b i n o=>exact vr_bif _ h
  | part b p n k=>exact vr_bif _ h
  | mp b=>exact vr_bif _ h
  | csl b n k=>exact vr_bif _ h
  | ptc b p n k=>exact vr_bif _ h
  | agg e=>exact .any _
  | tup e=>exact .any _
  | fn g f c=>exact .any _
  | yld i=>exact vr_bif _ h
  | any=>exact h
 | succ d a =>
  intro s x h;cases s with
  | v y=>exact h
  | ptr b o=>exact vr_bif _ h
  | sl T l=>exact h
  | ep T y o=>exact h
  | row b=>exact vr_bif _ h
  | rp b i n o=>exact vr_bif _ h
  | part b p n k=>exact vr_bif _ h
  | mp b=>exact vr_bif _ h
  | csl b n k=>exact vr_bif _ h
  | ptc b p n k=>exact vr_bif _ h
  | agg e =>
   obtain⟨ds,rfl,m⟩:=VRs.of_vr_agg h;exact VR.agg' (vrs_map a m)
  | tup e =>
   obtain⟨ds,rfl,m⟩:=VRs.of_vr_tup h;exact VR.tup' (vrs_map a m)
  | fn g f c =>
   cases h with | fn _ _ _ r q z A C D =>
    have t:=vrs_map a (⟨z,A⟩:VRs B F w f r);have u:=vrs_map a (⟨C,D⟩:VRs B F w c q);exact .fn g _ _ r q t.1 t.2 u.1 u.2
  | yld i=>exact vr_bif _ h
  | any=>exact h
def bd_bif{D:Nat→Prop}{b j:Nat}{s:SV}(h:b < j→Bd (fun i=>D i∧i < j) s):Bd (fun i=>D i∧i < j) (bif y9 b j then s else .any):=by
 cases a:y9 b j with
 | true=>exact h (by simpa using a)
 | false=>exact .any
def bd_cutR{D:Nat→Prop}(j:Nat):∀ (d:Nat) (s:SV),Bd D s→Bd (fun i=>D i∧i < j) (cutR j d s):=by
 intro d
 induction d with
 | zero =>
  intro s h;cases s with
  | v y=>exact .v y
  | ptr b o=>exact bd_bif fun a=>by cases h with | ptr h=>exact .ptr ⟨h,a⟩
  | sl T l=>exact .sl
  | ep T y o=>exact .ep
  | row b=>exact bd_bif fun a=>by cases h with | row h=>exact .row ⟨h,a⟩
  | rp b i n o=>exact bd_bif fun a=>by cases h with | rp h=>exact .rp ⟨h,a⟩
  | part b t n k=>exact bd_bif fun a=>by cases h with | part h=>exact .part ⟨h,a⟩
  | mp b=>exact bd_bif fun a=>by cases h with | mp h=>exact .mp ⟨h,a⟩
  | csl b n k=>exact bd_bif fun a=>by cases h with | csl h=>exact .csl ⟨h,a⟩
  | ptc b t n k=>exact bd_bif fun a=>by cases h with | ptc h=>exact .ptc ⟨h,a⟩
  | agg r=>exact .any
  | tup r=>exact .any
  | fn g f c=>exact .any
  | yld i=>exact bd_bif fun a=>by cases h with | yld h=>exact .yld ⟨h,a⟩
  | any=>exact .any
 | succ d p =>
  intro s h;cases s with
  | v y=>exact .v y
  | ptr b o=>exact bd_bif fun a=>by cases h with | ptr h=>exact .ptr ⟨h,a⟩
  | sl T l=>exact .sl
  | ep T y o=>exact .ep
  | row b=>exact bd_bif fun a=>by cases h with | row h=>exact .row ⟨h,a⟩
  | rp b i n o=>exact bd_bif fun a=>by cases h with | rp h=>exact .rp ⟨h,a⟩
  | part b t n k=>exact bd_bif fun a=>by cases h with | part h=>exact .part ⟨h,a⟩
  | mp b=>exact bd_bif fun a=>by cases h with | mp h=>exact .mp ⟨h,a⟩
  | csl b n k=>exact bd_bif fun a=>by cases h with | csl h=>exact .csl ⟨h,a⟩
  | ptc b t n k=>exact bd_bif fun a=>by cases h with | ptc h=>exact .ptc ⟨h,a⟩
  | agg r=>exact .agg fun s m=>by obtain⟨q,e,rfl⟩:=yy.1 m;exact p q (h.of_agg q e)
  | tup r=>exact .tup fun s m=>by obtain⟨q,e,rfl⟩:=yy.1 m;exact p q (h.of_tup q e)
  | fn g f c=>exact .fn (fun s m=>by obtain⟨q,e,rfl⟩:=yy.1 m;exact p q (h.of_fn.1 q e)) (fun s m=>by obtain⟨q,e,rfl⟩:=yy.1 m;exact p q (h.of_fn.2 q e))
  | yld i=>exact bd_bif fun a=>by cases h with | yld h=>exact .yld ⟨h,a⟩
  | any=>exact .any
def kill_vrs{B:Loc}{F:Nat→Prop}{w:World}{ds:List Value}:∀ (ks:List Nat) {ts:List SV},VRs B F w ts ds→VRs B F w (ks.foldl (fun ts t=>ts.set t .any) ts) ds
 | [],ts,h=>h
 | t::ks,ts,h=>by
  simp only[tf];refine kill_vrs ks ⟨by simpa using h.1,fun i s d a b=>?_⟩;rw[yd]at a;by_cases e:t=i
  ·subst e;rw[gT rfl]at a;split at a
   ·cases a;exact .any _
   ·cases a
  ·rw[gR e]at a;exact h.2 i s d a b
def kill_bd{D:Nat→Prop}:∀ (ks:List Nat) {ts:List SV},(∀ s∈ts,Bd D s)→∀ s∈ks.foldl (fun ts t=>ts.set t .any) ts,Bd D s
 | [],ts,h=>h
 | t::ks,ts,h=>by
  simp only[tf];refine kill_bd ks fun s a=>?_;rcases sC a with a | rfl
  ·exact h s a
  ·exact .any
def cut_get{mem:Mem}{j i:Nat}{b':Blk}(a:((mem.take j).map fun b=>b.map (Blk.cut j))[i]? = some (some b')):∃ b,mem[i]? = some (some b)∧i < j∧b'=b.cut j:=by
 rw[yz]at a;cases c:(mem.take j)[i]? with
 | none=>rw[c]at a;cases a
 | some q =>
  rw[c]at a;simp only[wj,y8.injEq]at a;rw[rj]at c;split at c
  ·rename_i d;cases q with
   | none=>cases a
   | some b=>simp only[wj,y8.injEq]at a;exact⟨b,c,d,a.symm⟩
  ·cases c
def cut_iter(j mb n:Nat)(seen:List Nat)(a:Option Nat):((Blk.iter mb n seen a).cut j=.iter mb n seen none∧mb < j)∨(Blk.iter mb n seen a).cut j=.dead:=by
 simp only[Blk.cut];cases h:y9 mb j with
 | true=>exact .inl ⟨rfl,by simpa using h⟩
 | false=>exact .inr rfl
def cut_on(j:Nat)(b:Blk):(b.cut j).on=b.on:=by
 cases b with
 | iter mb n seen a=>rcases cut_iter j mb n seen a with⟨h,_⟩ | h<;>rw[h]<;>rfl
 | _=>rfl
def cut_fz(j:Nat)(b:Blk):(b.cut j).fz=b.fz:=by
 cases b with
 | iter mb n seen a=>rcases cut_iter j mb n seen a with⟨h,_⟩ | h<;>rw[h]<;>rfl
 | _=>rfl
def R.nrm0[HasP]{G:St}{B:Loc}{F:Nat→Prop}{a:Act}{w:World}(h:R w0 m ne G B F a w)(ks:List Nat){j:Nat}(hm:m≤j):R w0 m ne (nrm0 ks j G) B F a w:=by
  have Z:=kill_vrs ks h.tmps;have h2:=kill_bd ks h.bd;unfold Q.nrm0;have A:∀ i,Live G.2 i∧i < j→Live ((G.2.take j).map fun b=>b.map (Blk.cut j)) i:=by
   rintro i ⟨⟨b,D⟩,g⟩;exact⟨b.cut j,by rw[yz,rj,gT g,D];rfl⟩
  refine⟨vrs_map (fun s x=>vr_cutR j 5 s x) Z,h.defers,?_,?_,?_,h.ne⟩
  ·refine h.mem.forget fun i b' E=>?_;obtain⟨b,D,g,rfl⟩:=cut_get E;refine⟨b,D,⟨cut_fz j b,by rw[cut_on];exact fun h=>h⟩,fun p=>?_,fun s c=>?_⟩
   ·cases b with
    | cells P t=>obtain⟨u,z,ds,d,C⟩:=p;exact⟨u,z,ds,d,vrs_map (fun s x=>vr_cutR j 5 s x) C⟩
    | row T l t fz=>exact p
    | rnd r=>obtain⟨u,Y,tm,S,z,d,C⟩:=p;exact⟨u,Y,tm,S,z,vrs_map (fun s x=>vr_cutR j 5 s x) d,C⟩
    | dead=>exact p
    | gone=>trivial
    | map k I n =>
     obtain⟨u,X,z,d⟩:=p;have K:∀ {i:Nat} {x:Int×SV},(I.map fun e=>(e.1,cutR j 5 e.2))[i]? = some x→∃ y,I[i]? = some y∧x=(y.1,cutR j 5 y.2):=fun {i x} E=>by
      rw[yz]at E;obtain⟨y,M,e⟩:=tF.1 E;exact⟨y,M,e.symm⟩
     refine⟨u,X,by rw[vQ];exact z,⟨by rw[vQ];exact d.size,d.born,d.inv,d.fix,by rw[vQ];exact d.le,fun i i' x y L M e=>?_,fun i x L=>?_⟩⟩
     ·obtain⟨O,v,rfl⟩:=K L;obtain⟨y',N,rfl⟩:=K M;exact d.nd i i' O y' v N e
     ·obtain⟨O,v,rfl⟩:=K L;obtain⟨e,U,V,W⟩:=d.ent i O v;exact⟨e,U,V,vr_cutR j 5 _ _ W⟩
    | iter mb n seen f =>
     have g:=p.lt rfl p.1;obtain⟨u,H,z,d,C,k4⟩:=p;rcases cut_iter j mb n seen f with⟨h,_⟩ | h<;>rw[h]
     ·exact⟨u,H,z,d,C,fun i h=>by cases h⟩
     ·exact⟨u,g⟩
   ·have J:=h.mem.bd i b D;have:∃ q∈b.refs,s=cutR j 5 q:=by
     cases b with
     | cells P t=>obtain⟨q,o,e⟩:=yy.1 c;exact⟨q,o,e.symm⟩
     | row T l t fz=>cases c
     | rnd r=>obtain⟨q,o,e⟩:=yy.1 c;exact⟨q,o,e.symm⟩
     | dead=>cases c
     | gone=>cases c
     | map k I n =>
      simp only[Blk.cut,Blk.refs,tA,yy,Function.comp]at c;obtain⟨q,o,e⟩:=c;exact⟨q.2,yy.2 ⟨q,o,rfl⟩,e.symm⟩
     | iter mb n seen f =>
      rcases cut_iter j mb n seen f with⟨h,hj⟩ | h<;>rw[h]at c
      ·simp only[Blk.refs,sj]at c;subst c;refine⟨.mp mb,by simp[Blk.refs],?_⟩;simp only[cutR];rw[show y9 mb j=true by simpa using hj];rfl
      ·cases c
    obtain⟨q,o,rfl⟩:=this;exact(bd_cutR j 5 q (J q o)).mono A
  ·intro s c;obtain⟨q,o,rfl⟩:=yy.1 c;exact(bd_cutR j 5 q (h2 q o)).mono A
  ·simp only[vQ,xV];have:=h.le;omega
def LocV(B:Loc)(a:Act)(w:World):AL→Value→Prop
 | .tmp t,x=>a.tmps.toList[t]? = some x
 | .ref b i,x=>(∃ (ds:List Value) (t:TypeId),w.heap[(B b).blk]? = some (.cells ds.toArray t (0,0))∧ds[i]? = some x)∨(∃ lp:Loop,w.heap[(B b).blk]? = some (.loop lp)∧lp.tmps.toList[i]? = some x)
def getD_some{l:List SV}{i:Nat}{s:SV}(h:l.getD i .any=s)(b:s≠.any):l[i]? = some s:=by
 rw[List.getD_eq_getElem?_getD]at h;cases a:l[i]? with
 | none=>rw[a]at h;exact absurd h.symm b
 | some q=>rw[a]at h;rw[←h];rfl
def getA_loc[HasP]{k:St}{B:Loc}{F:Nat→Prop}{a:Act}{w:World}(h:R w0 m ne k B F a w){al:AL}{s:SV}(d:getA k al=s)(c:s≠.any):∃ x,LocV B a w al x∧VR B F w s x:=by
 cases al with
 | tmp t=>exact h.tmps.get (getD_some d c)
 | ref b i =>
  simp only[getA]at d;split at d
  ·rename_i o t e;obtain⟨_,_,ds,j,n⟩:=h.mem.blk b _ e;obtain⟨x,g,f⟩:=n.get (getD_some d c);exact⟨x,.inl ⟨ds,t,j,g⟩,f⟩
  ·rename_i r e;obtain⟨_,q,u,p,l,j,_⟩:=h.mem.blk b _ e;obtain⟨x,g,f⟩:=j.get (getD_some d c);exact⟨x,.inr ⟨_,l,g⟩,f⟩
  ·exact absurd d.symm c
def vrs_set{B:Loc}{F:Nat→Prop}{w:World}{ss:List SV}{ds:List Value}(h:VRs B F w ss ds){i:Nat}{s:SV}{x:Value}(f:ds[i]? = some x)(c:VR B F w s x):VRs B F w (ss.set i s) ds :=
 ⟨by simpa using h.1,fun j q d a b=>by
  rw[yd]at a;by_cases e:i=j
  ·subst e;rw[gT rfl]at a;split at a
   ·cases a;rw[f]at b;cases b;exact c
   ·cases a
  ·rw[gR e]at a;exact h.2 j q d a b⟩
inductive ShB:Option (Option Blk)→Option (Option Blk)→Prop
 | eq (x:Option (Option Blk)):ShB x x
 | cells (cs cs':List SV) (t:TypeId):ShB (some (some (.cells cs t))) (some (some (.cells cs' t)))
 | rnd (r r':Rnd):ShB (some (some (.rnd r))) (some (some (.rnd r')))
def setA_sh(s:SV)(c:St)(al:AL)(i:Nat):ShB c.2[i]? (setA s c al).2[i]? := by
 cases al with
 | tmp t=>exact .eq _
 | ref b k =>
  simp only[setA];split
  ·rename_i d t a;simp only;rw[yd];by_cases e:b=i
   ·subst e;rw[gT rfl,gT (y6.1 a).1,a];exact .cells _ _ _
   ·rw[gR e];exact .eq _
  ·rename_i r a;simp only;rw[yd];by_cases e:b=i
   ·subst e;rw[gT rfl,gT (y6.1 a).1,a];exact .rnd _ _
   ·rw[gR e];exact .eq _
  ·exact .eq _
def setA_len(s:SV)(a:St)(al:AL):(setA s a al).2.length=a.2.length:=by
 cases al with
 | tmp t=>rfl
 | ref b k=>simp only[setA];split<;>simp
def ShB.live{mem a:Mem}{i:Nat}(h:ShB mem[i]? a[i]?)(b:Live mem i):Live a i:=by
 obtain⟨x,c⟩:=b;rw[c]at h;unfold Live;generalize a[i]? = q at h;cases h<;>exact⟨_,rfl⟩
def setA_R[HasP]{n:St}{B:Loc}{F:Nat→Prop}{a:Act}{w:World}(h:R w0 m ne n B F a w){al:AL}{s:SV}{x:Value}(p:LocV B a w al x)(v:VR B F w s x)(o:Bd (Live n.2) s):R w0 m ne (setA s n al) B F a w:=by
 have u:=setA_sh s n al;have c:∀ i,Live n.2 i→Live (setA s n al).2 i:=fun i g=>(u i).live g;have j:=setA_len s n al;cases al with
 | tmp t =>
  refine⟨vrs_set h.tmps p v,h.defers,h.mem,fun q d=>?_,h.le,h.ne⟩;rcases sC d with d | rfl
  ·exact h.bd q d
  ·exact o
 | ref b k =>
  simp only[setA]at c j⊢;split at c<;>rename_i f
  ·rename_i H t;simp only[f]at c j⊢;refine⟨h.tmps,h.defers,?_,fun q d=>(h.bd q d).mono c,by simpa using h.le,h.ne⟩;refine h.mem.forget fun i b' g=>?_;rw[yd]at g;by_cases e:b=i
   ·subst e;rw[gT rfl,gT (y6.1 f).1]at g;cases g;refine⟨_,f,⟨rfl,fun h=>rfl⟩,?_,?_⟩
    ·rintro ⟨y,D,ds,l,z⟩;refine⟨y,D,ds,l,vrs_set z ?_ v⟩;rcases p with⟨ds',t',l1,l2⟩ | ⟨lp,l1,_⟩
     ·rw[l]at l1;simp only[y8.injEq,Obj.cells.injEq]at l1;have:ds=ds':=by simpa using l1.1
      rw[this];exact l2
     ·rw[l]at l1;cases l1
    ·intro q d;rcases sC d with d | rfl
     ·exact(h.mem.bd b _ f q d).mono c
     ·exact o.mono c
   ·rw[gR e]at g;exact⟨b',g,⟨rfl,fun h=>h⟩,fun h=>h,fun q d=>(h.mem.bd i b' g q d).mono c⟩
  ·rename_i r;simp only[f]at c j⊢;refine⟨h.tmps,h.defers,?_,fun q d=>(h.bd q d).mono c,by simpa using h.le,h.ne⟩;refine h.mem.forget fun i b' g=>?_;rw[yd]at g;by_cases e:b=i
   ·subst e;rw[gT rfl,gT (y6.1 f).1]at g;cases g;refine⟨_,f,⟨rfl,fun h=>rfl⟩,?_,?_⟩
    ·rintro ⟨y,C,G,A,l,z,E⟩;refine⟨y,C,G,A,l,vrs_set z ?_ v,E⟩;rcases p with⟨ds',t',l1,l2⟩ | ⟨lp,l1,l2⟩
     ·rw[l]at l1;cases l1
     ·rw[l]at l1;simp only[y8.injEq,Obj.loop.injEq]at l1;rw[←l1]at l2;exact l2
    ·intro q d;rcases sC d with d | rfl
     ·exact(h.mem.bd b _ f q d).mono c
     ·exact o.mono c
   ·rw[gR e]at g;exact⟨b',g,⟨rfl,fun h=>h⟩,fun h=>h,fun q d=>(h.mem.bd i b' g q d).mono c⟩
  ·exact h
structure Nrm[HasP](w0:World)(m ne j:Nat)(B:Loc)(F:Nat→Prop)(a:Act)(w:World)(st st':St)(B':Loc):Prop where
 r:R w0 m ne st' B' F a w
 loc:∀ i,i < j→i < st.2.length→B' i=B i
 free:∀ k,FreeAt w0 B F st.2 w k→FreeAt w0 B' F st'.2 w k
 rows:∀ (i:Nat) (b:Blk),j≤i→st'.2[i]? = some (some b)→∃ (T:Ty) (l:List T.α) (t:TypeId),b=.row T l t false
 live:∀ i,i < j→Live st.2 i→Live st'.2 i
 old:∀ (i:Nat) (r:Rnd),st'.2[i]? = some (some (.rnd r))→∃ r',st.2[i]? = some (some (.rnd r'))
 len:min j st.2.length≤st'.2.length
def nrmA_R[HasP]{j:Nat}(hm:m≤j)(ks:List Nat):∀ (accs:List Acc) {f:St} {B:Loc} {F:Nat→Prop} {a:Act} {w:World},R w0 m ne f B F a w→∃ B',Nrm w0 m ne j B F a w f (nrmA m ks j accs f) B'
  | [],f,B,F,a,w,h=>by
    refine⟨B,h.nrm0 ks hm,fun _ _ _=>rfl,fun k C=>⟨C.1,C.2.1,fun i x H ho I=>?_,C.2.2.2⟩,fun i b u d=>?_,fun i u hl=>?_,fun i r O=>?_,?_⟩
    · obtain⟨b,d,_,rfl⟩:=cut_get H
      exact C.2.2.1 i b d (by rwa [cut_on]at ho) I
    · obtain⟨b,_,hlt,_⟩:=cut_get d
      omega
    · obtain⟨b,d⟩:=hl
      exact⟨b.cut j,by simp only[nrmA,nrm0];rw[yz,rj,gT u,d];rfl⟩
    · obtain⟨b,d,_,e⟩:=cut_get O
      cases b with
      | rnd r'=>exact⟨r',d⟩
      | iter mb n seen last=>rcases cut_iter j mb n seen last with⟨h,_⟩ | h<;>rw[h]at e<;>cases e
      | _=>cases e
    · simp only[nrmA,nrm0,vQ,xV];exact za _
  | A::rest,f,B,F,a,w,h=>by
    have push:∀ (g:Mem) (b:Option Blk),takeA m A f=(b,g)→(∀ k,FreeAt w0 B F f.2 w k→FreeAt w0 B F g w k)→g.length=f.2.length→(∀ i,Live f.2 i→Live g i)→(∀ (i:Nat) (r:Rnd),g[i]? = some (some (.rnd r))→∃ r',f.2[i]? = some (some (.rnd r')))→RM w0 m B F g w→
        (match b with
          | none=>True
          | some b=>∃ (T:Ty) (l:List T.α) (t:TypeId) (p:Place),b=.row T l t false∧BlkR B F w b p∧(p.nil=false→FreeAt w0 B F g w p.blk∧∀ k,FreeAt w0 B F f.2 w k→p.blk≠k)∧LocV B a w A.loc p.val∧(∀ b0 i,A.loc=.ref b0 i→b0 < f.2.length))→
        ∃ B',Nrm w0 m ne j B F a w f (addA A b (nrmA m ks j rest (f.1,g))) B':=by
      intro g b _ S G M X hRM d;have hR1:R w0 m ne (f.1,g) B F a w:=⟨h.tmps,h.defers,hRM,fun s E=>(h.bd s E).mono M,by rw[G];exact h.le,h.ne⟩
      obtain⟨Q,N⟩:=nrmA_R hm ks rest hR1;obtain⟨c,hst⟩:∃ s,s=nrmA m ks j rest (f.1,g):=⟨_,rfl⟩
      rw[←hst]at N⊢;cases b with
      | none =>
        have K:∀ (i:Nat) (x:Blk),(c.2++[none])[i]? = some (some x)→c.2[i]? = some (some x):=by
          intro i x H;by_cases u:i < c.2.length
          · rwa [xm u]at H
          · rw[wi ω]at H
            cases Y:i-c.2.length with
            | zero=>rw[Y]at H;simp at H
            | succ n=>rw[Y]at H;simp at H
        have P:∀ i,Live c.2 i→Live (c.2++[none]) i:=fun i ⟨x,H⟩=>⟨x,by rw[xm (y6.1 H).1];exact H⟩
        refine⟨Q,⟨N.r.tmps,N.r.defers,?_,fun s E=>(N.r.bd s E).mono P,by simp only[addA,yo];exact xL N.r.le (Nat.le_add_right _ _),N.r.ne⟩,fun i h1 h2=>N.loc i h1 (by rw[G];exact h2),fun k C=>?_,fun i b u d=>N.rows i b u (K i b d),fun i u hl=>P i (N.live i u (M i hl)),fun i r O=>?_,?_⟩
        · exact N.r.mem.forget fun i b' u=>⟨b',K i b' u,⟨rfl,fun h=>h⟩,fun h=>h,fun s E=>(N.r.mem.bd i b' (K i b' u) s E).mono P⟩
        · have:=N.free k (S k C)
          exact⟨this.1,this.2.1,fun i x H=>this.2.2.1 i x (K i x H),this.2.2.2⟩
        · obtain⟨r',hr'⟩:=N.old i r (K i _ O)
          exact X i r' hr'
        · have:=N.len;rw[G]at this;simp only[addA,yo];omega
      | some b =>
        obtain⟨T,l,t,p,rfl,hbr,hp,L,J⟩:=d;obtain⟨hA,_⟩:=N.r.mem.add (bif p.nil then none else some p.blk) (.row T l t false) p ⟨rfl,rfl,rfl⟩ (za _) (fun _ _ _=>rfl) (fun k C=>by
          cases I:p.nil with
          | true=>rw[I]at C;cases C
          | false=>rw[I]at C;cases C;exact N.free _ (hp I).1) (fun I=>by rw[I];exact .inl rfl) rfl hbr (fun s E=>by cases E)
        have hold1:∀ i,Live c.2 i→upd Q c.2.length p i=Q i:=fun i u=>upd_old Q (sR u.lt);have P:=(live_push' c.2 (.row T l t false)).1;have Z:R w0 m ne (c.1,c.2++[some (.row T l t false)]) (upd Q c.2.length p) F a w :=
          ⟨N.r.tmps.loc hold1 N.r.bd,N.r.defers,hA,fun s E=>(N.r.bd s E).mono P,by have:=N.r.le;simp only[yo];omega,N.r.ne⟩
        have hvr:VR (upd Q c.2.length p) F w (.row c.2.length) p.val:=by
          have:=VR.row (B:=upd Q c.2.length p) (F:=F) (w:=w) c.2.length
          rwa [upd_new]at this
        have U:=get_push c.2 (.row T l t false);have o:∀ (i:Nat) (b:Blk),j≤i→(c.2++[some (Blk.row T l t false)])[i]? = some (some b)→∃ (T:Ty) (l:List T.α) (t:TypeId),b=.row T l t false:=by
          intro i b u d;rcases (U i b).1 d with⟨_,h⟩ | ⟨_,rfl⟩
          · exact N.rows i b u h
          · exact⟨T,l,t,rfl⟩
        have hlen1:min j f.2.length≤c.2.length:=by have:=N.len;rwa [G]at this
        have hR3:R w0 m ne (setA (.row c.2.length) (c.1,c.2++[some (.row T l t false)]) A.loc) (upd Q c.2.length p) F a w:=by
          cases hal:A.loc with
          | tmp q=>exact setA_R Z (al:=.tmp q) (by rw[hal]at L;exact L) hvr (.row (live_push' c.2 _).2)
          | ref b0 i =>
            by_cases hj:b0 < j
            · refine setA_R Z (al:=.ref b0 i) ?_ hvr (.row (live_push' c.2 _).2)
              rw[hal]at L;have hb0:=J b0 i hal;have e1:upd Q c.2.length p b0=B b0:=by
                rw[upd_old Q ω,N.loc b0 hj (by rw[G];exact hb0)]
              simp only[LocV]at L⊢;rw[e1];exact L
            · have:setA (.row c.2.length) (c.1,c.2++[some (.row T l t false)]) (.ref b0 i)=(c.1,c.2++[some (.row T l t false)]):=by
                simp only[setA];split
                · rename_i cs t' d;obtain⟨_,_,_,e⟩:=o b0 _ ω d;cases e
                · rename_i r d;obtain⟨_,_,_,e⟩:=o b0 _ ω d;cases e
                · rfl
              rw[this];exact Z
        have W:=setA_sh (.row c.2.length) (c.1,c.2++[some (.row T l t false)]) A.loc;have hsl:=setA_len (.row c.2.length) (c.1,c.2++[some (.row T l t false)]) A.loc;refine⟨_,hR3,fun i h1 h2=>?_,fun k C=>?_,fun i b u d=>?_,fun i u hl=>?_,fun i r O=>?_,?_⟩
        · rw[upd_old Q ω];exact N.loc i h1 (by rw[G];exact h2)
        · have hf:=N.free k (S k C)
          refine⟨hf.1,hf.2.1,fun i x H ho I=>?_,hf.2.2.2⟩;have:∃ y,(c.2++[some (Blk.row T l t false)])[i]? = some (some y)∧y.on=true:=by
            have E:=W i;simp only[addA]at H;rw[H]at E;generalize (c.2++[some (Blk.row T l t false)])[i]? = q at E;cases E with
            | eq=>exact⟨x,rfl,ho⟩
            | cells cs _ t=>exact⟨_,rfl,rfl⟩
            | rnd r _=>exact⟨_,rfl,rfl⟩
          obtain⟨y,hy,hyo⟩:=this;rcases (U i y).1 hy with⟨V,hy'⟩ | ⟨rfl,rfl⟩
          · rw[upd_old Q V]at I⊢;exact hf.2.2.1 i y hy' hyo I
          · rw[upd_new]at I⊢;exact(hp I).2 k C
        · have E:=W i
          simp only[addA]at d;rw[d]at E;generalize Y:(c.2++[some (Blk.row T l t false)])[i]? = q at E;cases E with
          | eq=>exact o i b u Y
          | cells cs _ t=>obtain⟨_,_,_,e⟩:=o i _ u Y;cases e
          | rnd r _=>obtain⟨_,_,_,e⟩:=o i _ u Y;cases e
        · exact(W i).live (P i (N.live i u (M i hl)))
        · have E:=W i
          simp only[addA]at O;rw[O]at E;generalize Y:(c.2++[some (Blk.row T l t false)])[i]? = q at E;have:∃ r2,q=some (some (.rnd r2)):=by cases E<;>exact⟨_,rfl⟩
          obtain⟨r2,rfl⟩:=this;rcases (U i _).1 Y with⟨_,hq'⟩ | ⟨_,e⟩
          · obtain⟨r',hr'⟩:=N.old i r2 hq'
            exact X i r' hr'
          · cases e
        · simp only[addA,hsl,yo];omega
    have same:=fun d=>push f.2 none d (fun _ h=>h) rfl (fun _ h=>h) (fun i r O=>⟨r,O⟩) h.mem trivial;simp only[nrmA];cases z:getA f A.loc with
    | row b =>
      have V:(SV.row b)≠.any:=by intro e;cases e
      obtain⟨x,hx1,hx2⟩:=getA_loc h z V;have J:∀ b0 i,A.loc=.ref b0 i→b0 < f.2.length:=by
        intro b0 i e;rw[e]at z;simp only[getA]at z;split at z
        · rename_i d;exact(y6.1 d).1
        · rename_i d;exact(y6.1 d).1
        · cases z
      cases hx2;have D:takeA m A f=(none,f.2)→∃ B',Nrm w0 m ne j B F a w f (addA A (takeA m A f).1 (nrmA m ks j rest (f.1,(takeA m A f).2))) B':=fun e=>by
        rw[e];exact same e
      cases d:f.2[b]? with
      | none=>exact D (by simp only[takeA,z,d])
      | some ob=>cases ob with
        | none=>exact D (by simp only[takeA,z,d])
        | some blk=>cases blk with
          | row T l t fz=>cases fz with
            | true=>exact D (by simp only[takeA,z,d])
            | false=>cases hmb:yb m b with
              | false=>exact D (by simp only[takeA,z,d,hmb,cond_false])
              | true =>
                have hmb':m≤b:=by simpa using hmb
                have e:takeA m A f=(some (.row T l t false),f.2.set b (some .gone)):=by simp only[takeA,z,d,hmb,cond_true]
                rw[e];obtain⟨g1,g2⟩:=h.mem.give hmb' d;have hbl:=(y6.1 d).1;have K:∀ (i:Nat) (x:Blk),(f.2.set b (some .gone))[i]? = some (some x)→(i≠b∧f.2[i]? = some (some x))∨(i=b∧x=.gone):=by
                  intro i x u;rw[yd]at u;by_cases e:b=i
                  · subst e;simp[hbl]at u;exact .inr ⟨rfl,u.symm⟩
                  · simp[e]at u;exact .inl ⟨fun e'=>e e'.symm,u⟩
                refine push _ _ e (fun k C=>⟨C.1,C.2.1,fun i x H ho I=>?_,C.2.2.2⟩) ψ (live_gone d) (fun i r O=>?_) g1 ⟨T,l,t,B b,rfl,h.mem.blk b _ d,fun I=>⟨g2 I,fun k C=>C.2.2.1 b _ d rfl I⟩,hx1,J⟩
                · rcases K i x H with⟨_,H⟩ | ⟨_,rfl⟩
                  · exact C.2.2.1 i x H ho I
                  · cases ho
                · rcases K i _ O with⟨_,O⟩ | ⟨_,e⟩
                  · exact⟨r,O⟩
                  · cases e
          | _=>exact D (by simp only[takeA,z,d])
    | v y =>
      have D:takeA m A f=(none,f.2)→∃ B',Nrm w0 m ne j B F a w f (addA A (takeA m A f).1 (nrmA m ks j rest (f.1,(takeA m A f).2))) B':=fun e=>by
        rw[e];exact same e
      cases y with
      | slice ad len cap=>cases ad with
        | some ad=>exact D (by simp only[takeA,z])
        | none=>cases len with
          | succ n=>exact D (by simp only[takeA,z])
          | zero=>cases cap with
            | succ n=>exact D (by simp only[takeA,z])
            | zero =>
              have e:takeA m A f=(some (.row A.T [] A.e false),f.2):=by simp only[takeA,z]
              rw[e];have V:(SV.v (.slice none 0 0))≠.any:=by intro e;cases e
              obtain⟨x,hx1,hx2⟩:=getA_loc h z V;cases hx2;refine push _ _ e (fun _ h=>h) rfl (fun _ h=>h) (fun i r O=>⟨r,O⟩) h.mem ⟨A.T,[],A.e,⟨0,0,0,0,true,id⟩,rfl,.inl ⟨rfl,rfl⟩,(fun I=>by cases I),hx1,fun b0 i e=>?_⟩;rw[e]at z;simp only[getA]at z;split at z
              · rename_i d;exact(y6.1 d).1
              · rename_i d;exact(y6.1 d).1
              · cases z
      | _=>exact D (by simp only[takeA,z])
    | _=>
     have e:takeA m A f=(none,f.2):=by simp only[takeA,z]
     rw[e];exact same e
structure KB(mem mem':Mem):Prop where
 len:mem'.length=mem.length
 blk:∀ (i:Nat) (x':Blk),mem'[i]? = some (some x')→∃ x,mem[i]? = some (some x)∧(x'=x∨(x'=.gone∧x.fz=false))
 live:∀ i,Live mem i→Live mem' i
def killB_kb(mem:Mem)(b:Nat):KB mem (killB mem b):=by
 have id:KB mem mem:=⟨rfl,fun i x h=>⟨x,h,.inl rfl⟩,fun _ h=>h⟩
 unfold killB;split
 ·rename_i x c;cases d:x.fz with
  | true=>exact id
  | false =>
   refine⟨ψ,fun i f a=>?_,fun i a=>live_gone c i a⟩;simp only[cond_false]at a;rw[yd]at a;by_cases e:b=i
   ·subst e;rw[gT rfl,gT (y6.1 c).1]at a;cases a;exact⟨x,c,.inr ⟨rfl,d⟩⟩
   ·rw[gR e]at a;exact⟨f,a,.inl rfl⟩
 ·exact id
def KB.trans{a b c:Mem}(h:KB a b)(k:KB b c):KB a c :=
 ⟨k.len.trans h.len,fun i n d=>by
  obtain⟨x,j,l⟩:=k.blk i n d;obtain⟨y,m,f⟩:=h.blk i x j;refine⟨y,m,?_⟩;rcases l with rfl | ⟨rfl,e⟩
  ·exact f
  ·rcases f with rfl | ⟨rfl,g⟩
   ·exact .inr ⟨rfl,e⟩
   ·exact .inr ⟨rfl,g⟩,fun i d=>k.live i (h.live i d)⟩
def killBs_kb:∀ (kb:List Nat) (mem:Mem),KB mem (kb.foldl killB mem)
 | [],mem=>⟨rfl,fun i x h=>⟨x,h,.inl rfl⟩,fun _ h=>h⟩
 | b::kb,mem=>(killB_kb mem b).trans (killBs_kb kb _)
def R.kb[HasP]{f:St}{b:Mem}{B:Loc}{F:Nat→Prop}{a:Act}{w:World}(h:R w0 m ne f B F a w)(k:KB f.2 b):R w0 m ne (f.1,b) B F a w:=by
 refine⟨h.tmps,h.defers,h.mem.forget fun i b' j=>?_,fun s c=>(h.bd s c).mono k.live,by rw[k.len];exact h.le,h.ne⟩;obtain⟨x,d,g⟩:=k.blk i b' j;rcases g with rfl | ⟨rfl,e⟩
 ·exact⟨b',d,⟨rfl,fun h=>h⟩,fun h=>h,fun s c=>(h.mem.bd i b' d s c).mono k.live⟩
 ·exact⟨x,d,⟨e.symm,fun h=>by cases h⟩,fun _=>trivial,fun s c=>by cases c⟩
def R.nrm[HasP]{f:St}{B:Loc}{F:Nat→Prop}{a:Act}{w:World}(h:R w0 m ne f B F a w)(n:Nr){j:Nat}(s:m≤j):∃ B',Nrm w0 m ne j B F a w f (nrmS m n j f) B':=by
 have k:=killBs_kb n.kb f.2;obtain⟨B',N⟩:=nrmA_R s n.ks n.acc (h.kb k);refine⟨B',N.r,fun i b c=>N.loc i b (by rw[k.len];exact c),fun q d=>N.free q ⟨d.1,d.2.1,fun i x v l t=>?_,d.2.2.2⟩,N.rows,fun i o p=>N.live i o (k.live i p),fun i r u=>?_,by have:=N.len;rw[k.len]at this;exact this⟩
 ·obtain⟨y,b,c⟩:=k.blk i x v;rcases c with rfl | ⟨rfl,_⟩
  ·exact d.2.2.1 i x b l t
  ·cases l
 ·obtain⟨z,g⟩:=N.old i r u;obtain⟨y,b,c⟩:=k.blk i _ g;rcases c with rfl | ⟨e,_⟩
  ·exact⟨z,b⟩
  ·cases e
def Nrm.ext[HasP]{b:Mem}{j:Nat}{f c:St}{B B':Loc}{F:Nat→Prop}{a:Act}{w:World}(N:Nrm w0 m ne j B F a w f c B')(h:Ext b f.2)(l:b.length=j):Ext b c.2 :=
 ⟨by have:=N.len;have:=h.len;omega,fun i e=>N.live i (by have:=e.lt;omega) (h.live i e),fun i r g=>by
  obtain⟨k,d⟩:=N.old i r g;exact h.old i k d⟩
def nrmA_len{ks:List Nat}{j:Nat}:∀ (a:List Acc) (b:St),j≤b.2.length→(nrmA m ks j a b).2.length=j+a.length
 | [],b,h=>by simp only[nrmA,nrm0,vQ,xV,oY];omega
 | A::rest,b,h=>by
  have d:(takeA m A b).2.length=b.2.length:=by
   unfold takeA;split
   ·split
    ·cases yb m _<;>simp
    ·rfl
   ·rfl
   ·rfl
  have c:=nrmA_len (ks:=ks) rest (b.1,(takeA m A b).2) (by simpa [d]using h);simp only[nrmA];unfold addA;split
  ·rw[setA_len];simp only[yo,c,vh,oY];omega
  ·simp only[yo,c,vh,oY];omega
end
section
variable {P:Program}{G:World→Prop}{m ne:Nat}{w0:World}{ρ:Type}{r:ρ}
def nthRange_lt:∀ (c:Code) (i:Nat) (r:RC),nthRange c i=some r→i < loops c:=by
  intro c
  induction c with
  | seq x y d e =>
    intro i b h;simp only[nthRange]at h;simp only[loops];cases a:y9 i (loops x)with
    | true=>rw[a]at h;have:=d i b h;omega
    | false=>
     rw[a]at h;have:=e _ b h;have:¬i < loops x:=fun h=>by rw[show y9 i (loops x)=true from by simpa using h]at a;cases a
     omega
  | cond c x y d e =>
    intro i b h;simp only[nthRange]at h;simp only[loops];cases a:y9 i (loops x)with
    | true=>rw[a]at h;have:=d i b h;omega
    | false=>
     rw[a]at h;have:=e _ b h;have:¬i < loops x:=fun h=>by rw[show y9 i (loops x)=true from by simpa using h]at a;cases a
     omega
  | block id x g=>intro i b h;simp only[nthRange]at h;exact g i b h
  | loop x g =>
    intro i b h;cases i with
    | zero=>cases h
    | succ i=>simp only[nthRange]at h;have:=g i b h;simp only[loops];omega
  | rangeFunc f ps x y d e =>
    intro i b h;cases i with
    | zero=>simp only[loops];omega
    | succ i =>
      simp only[nthRange]at h;simp only[loops];cases a:y9 i (loops x)with
      | true=>rw[a]at h;have:=d i b h;omega
      | false=>
       rw[a]at h;have:=e _ b h;have:¬i < loops x:=fun h=>by rw[show y9 i (loops x)=true from by simpa using h]at a;cases a
       omega
  | _=>intro i b h;cases h
def blt_t{a b:Nat}(h:a < b):y9 a b=true:=by simpa using h
def blt_f{a b:Nat}(h:b≤a):y9 a b=false:=by
  cases c:y9 a b with
  | false=>rfl
  | true=>
   have:a < b:=by simpa using c
   omega
def RgOK[HasP](g:FuncId)(a:Nat)(c:Code):Prop:=∀ i r,nthRange c i=some r→rcodeP HasP.P g (a+i)=r
def RgOK.two[HasP]{g:FuncId}{b:Nat}{c x y:Code}(h:RgOK g b c)(e:∀ i,nthRange c i=bif y9 i (loops x)then nthRange x i else nthRange y (i-loops x)):RgOK g b x∧RgOK g (b+loops x) y:=by
 refine⟨fun i r a=>h i r ?_,fun i r a=>?_⟩
 ·rw[e,blt_t (nthRange_lt x i r a)];exact a
 ·have:=h (loops x+i) r (by rw[e,blt_f ω,pA];exact a)
  rwa [←xo]at this
def RgOK.inr[HasP]{g:FuncId}{a:Nat}{f:Operand}{ps:Array Tmp}{x y:Code}(h:RgOK g a (.rangeFunc f ps x y)):rcodeP HasP.P g a=⟨ps,x,y⟩∧RgOK g (a+1) x∧RgOK g (a+1+loops x) y:=by
 refine⟨h 0 _ rfl,fun i r b=>?_,fun i r b=>?_⟩
 ·have:=h (i+1) r (by simp only[nthRange];rw[blt_t (nthRange_lt x i r b)];exact b)
  rwa [show a+(i+1)=a+1+i from ω]at this
 ·have:=h (loops x+i+1) r (by simp only[nthRange];rw[blt_f ω,pA];exact b)
  rwa [show a+(loops x+i+1)=a+1+loops x+i from ω]at this
def RgOK.lp[HasP]{g:FuncId}{a:Nat}{x:Code}(h:RgOK g a (.loop x)):RgOK g (a+1) x:=fun i r b=>by
 have:=h (i+1) r b
 rwa [show a+(i+1)=a+1+i from ω]at this
def rgOK_sub[HasP]{g:FuncId}:∀ (c:Code) (b i:Nat) (r:RC),RgOK g b c→nthRange c i=some r→RgOK g (b+i+1) r.assign∧RgOK g (b+i+1+loops r.assign) r.body:=by
 intro c
 induction c with
 | seq x y e j =>
  intro b i r h a;obtain⟨k,l⟩:=h.two (fun _=>rfl);simp only[nthRange]at a;cases d:y9 i (loops x)with
  | true=>rw[d]at a;exact e b i r k a
  | false =>
   rw[d]at a;have m:loops x≤i:=by
    rcases nh i (loops x)with h | h
    ·rw[blt_t h]at d;cases d
    ·exact h
   have:=j _ _ r l a
   rwa [show b+loops x+(i-loops x)=b+i from ω]at this
 | cond c x y e j =>
  intro b i r h a;obtain⟨k,l⟩:=h.two (fun _=>rfl);simp only[nthRange]at a;cases d:y9 i (loops x)with
  | true=>rw[d]at a;exact e b i r k a
  | false =>
   rw[d]at a;have m:loops x≤i:=by
    rcases nh i (loops x)with h | h
    ·rw[blt_t h]at d;cases d
    ·exact h
   have:=j _ _ r l a
   rwa [show b+loops x+(i-loops x)=b+i from ω]at this
 | block id x n=>intro b i r h a;exact n b i r h a
 | loop x n =>
  intro b i r h a;cases i with
  | zero=>cases a
  | succ i =>
   have:=n _ i r h.lp a
   rwa [show b+1+i=b+(i+1) from ω]at this
 | rangeFunc f ps x y e j =>
  intro b i r h a;obtain⟨o,k,l⟩:=h.inr;cases i with
  | zero=>cases a;exact⟨k,l⟩
  | succ i =>
   simp only[nthRange]at a;cases d:y9 i (loops x)with
   | true =>
    rw[d]at a;have:=e _ i r k a
    rwa [show b+1+i=b+(i+1) from ω]at this
   | false =>
    rw[d]at a;have m:loops x≤i:=by
     rcases nh i (loops x)with h | h
     ·rw[blt_t h]at d;cases d
     ·exact h
    have:=j _ _ r l a
    rwa [show b+1+loops x+(i-loops x)=b+(i+1) from ω]at this
 | _=>intro b i r h a;cases a
def rgOK_body[HasP](g:FuncId):RgOK g 0 (bodyP HasP.P g):=fun i r a=>by unfold rcodeP;rw[wm,a];rfl
def rgOK_skip[HasP](g:FuncId)(b:Nat):RgOK g b .skip:=fun i r a=>by cases a
def rgOK_rc[HasP](g:FuncId)(i:Nat):RgOK g (i+1) (rcodeP HasP.P g i).assign∧RgOK g (i+1+loops (rcodeP HasP.P g i).assign) (rcodeP HasP.P g i).body:=by
 cases a:nthRange (bodyP HasP.P g) i with
 | none =>
  have:rcodeP HasP.P g i=⟨#[],.skip,.skip⟩:=by unfold rcodeP;rw[a];rfl
  rw[this];exact⟨rgOK_skip _ _,rgOK_skip _ _⟩
 | some r =>
  have:rcodeP HasP.P g i=r:=by unfold rcodeP;rw[a];rfl
  rw[this];have:=rgOK_sub (g:=g) _ 0 i r (rgOK_body g) a;simpa using this
def RM.recd[HasP]{mem:Mem}{B:Loc}{F:Nat→Prop}{w:World}(h:RM w0 m B F mem w){i:Nat}{q:Rnd}(A:m≤i)(l:mem[i]? = some (some (.rnd q))):
  ∃ rec:Loop,w.heap[(B i).blk]? = some (.loop rec)∧rec.state=q.st∧rec.pending=q.pending∧rec.params=q.rc.params∧rec.assign=q.rc.assign∧rec.body=q.rc.body∧VRs B F w q.tmps rec.tmps.toList∧
   w.heap[rec.defers]? = some (Obj.deferred (some []))∧rec.defers < (B i).blk∧
   (∀ (st:LoopState) (b:Option Code),RM w0 m B F (mem.set i (some (.rnd { q with st:=st,pending:=b }))) (w.putObj (B i).blk (.loop { rec with state:=st,pending:=b })))∧
   (∀ (st:LoopState) (b:Option Code),RM w0 m B F (mem.set i (some .dead)) (w.putObj (B i).blk (.loop { rec with state:=st,pending:=b })))∧
   (∀ (st:LoopState) (b:Option Code),KeepsF F w (w.putObj (B i).blk (.loop { rec with state:=st,pending:=b }))):=by
 obtain⟨j,fn,C,n,f,u,v,x⟩:=h.blk i _ l;have g:=lt_of_some f;have a:∀ (o:Obj),KeepsF F w (w.putObj (B i).blk o):=fun o=>by
  refine⟨fun k c=>wN fun e=>?_,fun d p=>?_,by simp[World.putObj]⟩
  ·obtain⟨D,t,z,y⟩:=h.fc k c;rw[e,f]at y;cases y
  ·rw[wN fun e=>by rw[e,f]at p;cases p];exact p
 refine⟨_,f,rfl,rfl,rfl,rfl,rfl,u,x,v,fun st b=>?_,fun st b=>?_,fun st b=>a _⟩
 ·refine h.turn A l rfl rfl rfl (by simp[World.putObj]) ⟨rfl,rfl,rfl⟩ j (fun k c=>wN c) (by rw[f];simp) ?_ ?_
  ·have c:=a (.loop { state:=st,pending:=b,fn:=fn,tmps:=C,params:=q.rc.params,assign:=q.rc.assign,body:=q.rc.body,defers:=n });exact⟨j,fn,C,n,World.putObj_heap_same g,u.mono (fun _ h=>h) c,v,c.d n x⟩
  ·exact fun s r=>h.bd i (.rnd q) l s r
 ·refine h.turn A l rfl rfl rfl (by simp[World.putObj]) ⟨rfl,rfl,rfl⟩ j (fun k c=>wN c) (by rw[f];simp) ?_ ?_
  ·exact⟨j,by simpa [World.putObj]using g⟩
  ·intro s r;cases r
def RoOK(ro l:Option Nat)(B:Loc)(mem:Mem):Prop:=match ro with
 | none=>l=none
 | some i=>l=some (B i).blk∧Live mem i
def RoOK.next{ro l:Option Nat}{B B':Loc}{F F':Nat→Prop}{mem mem':Mem}{w w':World}(h:RoOK ro l B mem)(a:Nx w0 mem B F w mem' B' F' w'):RoOK ro l B' mem':=by
 cases ro with
 | none=>exact h
 | some i=>exact⟨by rw[a.loc i h.2];exact h.1,a.ext.live i h.2⟩
def PostK[HasP](w0:World)(m ne:Nat)(mem:Mem)(B:Loc)(F:Nat→Prop)(w:World)(r:ρ)(k:KE ρ)(Q:Exit→Act→World→Prop):Prop :=
 ∀ e a,k e a=some r→∀ B' F' b w',Nx w0 mem B F w a.2 B' F' w'→R w0 m ne a B' F' b w'→Q e.out b w'
def PostK.next[HasP]{mem a:Mem}{B d:Loc}{F F1:Nat→Prop}{w f:World}{k:KE ρ}{Q:Exit→Act→World→Prop}(h:PostK w0 m ne mem B F w r k Q)(l:Nx w0 mem B F w a d F1 f):PostK w0 m ne a d F1 f r k Q :=
 fun e c j B' F' g w' b i=>h e c j B' F' g w' (l.trans b) i
def Marks.notin{w:World}{b:Nat}(a:w.heap[b]? = none):∀ {ds:List Deferred},Marks ne w ds→mark b∉ds
 | [],_=>ψ
 | d::ds,⟨⟨df',e0,_,h3,_⟩,h⟩=>by
  intro c;subst e0;rcases ww.1 c with e | c
  ·have:b=df':=by
    have:=congrArg Deferred.target e;simpa [mark]using this
   subst this;rw[a]at h3;cases h3
  ·exact Marks.notin a h c
def resolve_run{f:Operand}{a:Act}{g:FuncId}{c b:Array Value}(d:a.eval f=.func (.func g) c b)(l:Nat)(w:World):
  (resolve a.eval (rangeCall f l) 0).run P w=.ok { target:=.fn (.func g) b,args:=c++#[.func (.yield l) #[] #[]] } w:=by
 simp only[resolve,d,Deferred.ofValue];have e:vD a.eval #[Operand.const (.func (.yield l) #[] #[])]=#[.func (.yield l) #[] #[]]:=by simp[Act.eval]
 rw[e];rfl
def LsOK[HasP](P:Program)(g:FuncId)(a:Ann)(ls:Sums)(b:Draws ρ)(call:Oracle ρ)(m lf:Nat)(ro:Option Nat):Nat→Code→Prop
 | li,.seq x y=>LsOK P g a ls b call m lf ro li x∧LsOK P g a ls b call m lf ro (li+loops x) y
 | li,.cond _ x y=>LsOK P g a ls b call m lf ro li x∧LsOK P g a ls b call m lf ro (li+loops x) y
 | li,.block _ x=>LsOK P g a ls b call m lf ro li x
 | li,.loop body=>(∀ (c:St) (T:LTE),ls li c=some T→∀ (k:KE ρ) (r:ρ),bd T.x (fun y=>altK k (T.out y))=some r→
   iterK (nrmS m (a li).1 (c.2.length-(a li).1.acc.length)) (nrmS m (a li).2 (c.2.length-(a li).1.acc.length)) (codeK P g a ls b call m lf ro (li+1) body) lf c k=some r)∧LsOK P g a ls b call m lf ro (li+1) body
 | li,.rangeFunc _ ps x y=>rcodeP HasP.P g li=⟨ps,x,y⟩
 | _,_=>True
def codeK_sound[HasP]{g:FuncId}{p:Ann}{ls:Sums}{dr:Draws ρ}(hd:DrawsOK ρ P G m dr){call:Oracle ρ}(hc:CallK P G m call)(hG:G w0)(lf:Nat){ro l:Option Nat}:∀ (c:Code) {u:Nat} {j:St} {k:KE ρ} {B:Loc} {F:Nat→Prop} {a:Act} {w:World} {Q:Exit→Act→World→Prop},
  LsOK P g p ls dr call m lf ro u c→R w0 m ne j B F a w→RoOK ro l B j.2→codeK P g p ls dr call m lf ro u c j k=some r→PostK w0 m ne j.2 B F w r k Q→c.wpIn (fen l) 0 P Q a w:=by
 intro c
 induction c with
 | skip=>intro u j k B F a w Q v h A o H;exact wpIn_skip (H _ _ o B F a w Nx.refl h)
 | label l=>intro u j k B F a w Q v h A o H;exact wpIn_label (H _ _ o B F a w Nx.refl h)
 | exit id=>intro u j k B F a w Q v h A o H;exact wpIn_exit (H _ _ o B F a w Nx.refl h)
 | ret=>intro u j k B F a w Q v h A o H;exact wpIn_ret (H _ _ o B F a w Nx.refl h)
 | region id ops draw =>
  intro u j k B F a w Q v h A o H;cases draw with
  | true =>
   simp only[codeK,cond_true]at o;exact hd w0 ne r l id ops Q j B F a w _ hG o h fun st' B' F' a' w' I hn S hdf=>H _ _ I B' F' a' w' hn S
  | false =>
   simp only[codeK,cond_false]at o;exact wpIn_region (evalIdxK_sound hc hG _ h o fun st' B' F' a' w' I hn S hdf=>H _ _ I B' F' a' w' hn S)
 | seq x y ihx ihy =>
  intro u j k B F a w Q v h A o H;simp only[codeK]at o;refine wpIn_seq (ihx v.1 h A o ?_);intro e W I Y F1 Z w1 hn S;cases e with
  | normal=>exact ihy v.2 S (A.next hn) I (H.next hn)
  | exit id=>exact H _ _ I Y F1 Z w1 hn S
  | ret=>exact H _ _ I Y F1 Z w1 hn S
 | cond c x y ihx ihy =>
  intro u j k B F a w Q v h A o H;simp only[codeK]at o;cases K:okOp c with
  | false=>rw[K]at o;cases o
  | true =>
   rw[K]at o;have U:=ev_vr (B:=B) (F:=F) (w:=w) h.tmps K;simp only[cond_true]at o;split at o
   ·rename_i b hb;rw[hb]at U;have hev':a.eval c=.bool b:=by generalize a.eval c=z at U;cases U;rfl
    refine wpIn_cond hev' ?_;simp only[br_eq]at o;cases b with
    | true=>exact ihx v.1 h A o H
    | false=>exact ihy v.2 h A o H
   ·cases o
 | block id body ih =>
  intro u j k B F a w Q v h A o H;simp only[codeK]at o;refine wpIn_block (ih v h A o ?_);intro e W I Y F1 Z w1 hn S;cases e with
  | normal=>exact H _ _ I Y F1 Z w1 hn S
  | exit id' =>
   simp only at I;by_cases e1:id'=id
   ·subst e1;simp only[BEq.rfl,cond_true]at I;have:=H _ _ I Y F1 Z w1 hn S;simpa [Exit.inBlock,Ex.out]using this
   ·have e2:(id'==id)=false:=by simpa using e1
    simp only[e2,cond_false]at I;have:=H _ _ I Y F1 Z w1 hn S;simpa [Exit.inBlock,Ex.out,e1]using this
  | ret=>exact H _ _ I Y F1 Z w1 hn S
 | loop body ih =>
  intro u j k B F a w Q v h A o H;simp only[codeK]at o;have key:∀ (n:Nat) {W:St} {Y:Loc} {F1:Nat→Prop} {Z:Act} {w1:World},R w0 m ne W Y F1 Z w1→Nx w0 j.2 B F w W.2 Y F1 w1→iterK (nrmS m (p u).1 j.2.length) (nrmS m (p u).2 j.2.length) (codeK P g p ls dr call m lf ro (u+1) body) n W k=some r→Code.roundsIn (fen l) 0 P body Q n Z w1:=by
   intro n
   induction n with
   | zero=>intro W Y F1 Z w1 S hn E;cases E
   | succ n ihn =>
    intro W Y F1 Z w1 S hn E;simp only[iterK]at E;refine ih v.2 S (A.next hn) E ?_;intro e st2 I B2 F2 a2 w2 hn2 hR2;have X:=hn.trans hn2;have nx:∀ {st3:St} {B3:Loc},Nrm w0 m ne j.2.length B2 F2 a2 w2 st2 st3 B3→Nx w0 j.2 B F w st3.2 B3 F2 w2:=fun N =>
     ⟨fun i E=>(N.loc i E.lt (ry E.lt X.ext.len)).trans (X.loc i E),X.fs,X.keep,N.ext X.ext rfl,X.fn⟩
    cases e with
    | normal=>obtain⟨B3,N⟩:=hR2.nrm (p u).1 h.le;exact ihn N.r (nx N) I
    | exit id=>obtain⟨B3,N⟩:=hR2.nrm (p u).2 h.le;exact H _ _ I B3 F2 a2 w2 (nx N) N.r
    | ret=>obtain⟨B3,N⟩:=hR2.nrm (p u).2 h.le;exact H _ _ I B3 F2 a2 w2 (nx N) N.r
  have hlen:(nrmS m (p u).1 j.2.length j).2.length-(p u).1.acc.length=j.2.length:=by unfold nrmS;rw[nrmA_len _ _ (by rw[(killBs_kb _ _).len];exact za _)];omega
  have fin:iterK (nrmS m (p u).1 j.2.length) (nrmS m (p u).2 j.2.length) (codeK P g p ls dr call m lf ro (u+1) body) lf (nrmS m (p u).1 j.2.length j) k=some r→Code.wpIn (fen l) 0 P (.loop body) Q a w:=fun o=>by
   obtain⟨B3,N⟩:=h.nrm (p u).1 h.le;exact wpIn_loop_rounds lf (key lf N.r ⟨fun i E=>N.loc i E.lt E.lt,fun _ h=>h,KeepsF.refl _ _,N.ext (Ext.refl _) rfl,fun _ h=>.inl h⟩ o)
  split at o
  ·rename_i T hT;have:=v.1 _ T hT k r o;rw[hlen]at this;exact fin this
  ·exact fin o
 | rangeFunc f ps assign body ih1 ih2 =>
  intro u j k B F a w Q v h A o H;simp only[codeK]at o;cases K:(okOp f&&inRnd j.2 ro)with
  | false=>rw[K]at o;cases o
  | true =>
  rw[K]at o;simp only[zm]at K;simp only[cond_true]at o;have U:=ev_vr (B:=B) (F:=F) (w:=w) h.tmps K.1;have hbf:=ev_bd h.bd f;split at o
  ·rename_i g' first cap O
   rw[O]at U hbf;cases hent:entB P g' with
   | false=>rw[hent]at o;cases o
   | true =>
   rw[hent]at o;simp only[cond_true]at o;generalize hz:a.eval f=z at U;cases U with | fn _ _ _ fd cd h1 h2 h3 h4 =>
   have go:∀ (L:Nat) (mk:List Deferred) (w1:World) (fn:FuncId) (df:Nat),(Instr.enterLoop fn a.tmps ps assign body (fen l).round).run P w=.ok (L,mk) w1→
     Below w.heap.size w w1→w.heap.size≤L→w1.heap[L]? = some (.loop { state:=.ready,pending:=none,fn,tmps:=a.tmps,params:=ps,assign,body,defers:=df })→df < L→w1.heap[df]? = some (Obj.deferred (some []))→
     (mk=[]∨(mk=[mark df]∧w.heap.size≤df))→
     ∃ (l':Nat) (mark:List Deferred) (w₁:World) (d:Deferred) (w₁':World) (f':FuncId) (args:Array Value) (w₂:World),
      (Instr.enterLoop fn a.tmps ps assign body (fen l).round).run P w=.ok (l',mark) w₁∧(resolve a.eval (rangeCall f l') 0).run P w₁=.ok d w₁'∧(∀ f'',Target.leads P w₁' d.target d.args=some f''→(fen l).fn f'')∧
      (invoke d.target d.args).run P w₁'=.ok (.enter f' args) w₂∧((fen l).depth.isSome=true→1≤0)∧CallsIn (fen l) (0-1) P f' args w₂ (rangePost (fen l) 0 P l' Q { a with defers:=mark++a.defers }):=by
    intro L mk w1 fn df hent1 hb1 hL hl1 hdfL hdf1 hmk;refine⟨L,mk,w1,_,w1,g',(fd++[Value.func (.yield L) #[] #[]]++cd).toArray,w1,hent1,resolve_run hz L w1,fun _ _=>trivial,?_,no_depth,?_⟩
    ·simp only[invoke];rw[enters_of_entB hent];congr 2;apply uk;simp
    ·have M:∀ i,Live j.2 i→upd B j.2.length ⟨L,0,0,0,false,id⟩ i=B i:=fun i E=>upd_old B (sR E.lt);have hk1:KeepsF F w w1:=keepsF_below h.mem.lt hb1;have J:=live_push' j.2 (.rnd ⟨(p u).1.ks.foldl (fun ts t=>ts.set t .any) j.1,g,u,.ready,none⟩);have hRM:RM w0 m (upd B j.2.length ⟨L,0,0,0,false,id⟩) F (j.2++[some (.rnd ⟨(p u).1.ks.foldl (fun ts t=>ts.set t .any) j.1,g,u,.ready,none⟩)]) w1 :=
      h.mem.put j.2.length (not_live_end _) (Blk.rnd ⟨(p u).1.ks.foldl (fun ts t=>ts.set t .any) j.1,g,u,.ready,none⟩) ⟨L,0,0,0,false,id⟩ hb1 rfl ⟨rfl,fn,a.tmps,df,by simp only[Rnd.rc];rw[show rcodeP HasP.P g u=⟨ps,assign,body⟩ from v];exact hl1,((kill_vrs (p u).1.ks h.tmps).mono (fun _ h=>h) hk1).loc M (kill_bd (p u).1.ks h.bd),hdfL,hdf1⟩ (fun _=>hL) (fun s O=>(kill_bd (p u).1.ks h.bd s O).mono J.1) (fun i x=>get_push j.2 _ i x)
     have hyl:VR (upd B j.2.length ⟨L,0,0,0,false,id⟩) F w1 (.yld j.2.length) (.func (.yield L) #[] #[]):=by
      have:=VR.yld (B:=upd B j.2.length ⟨L,0,0,0,false,id⟩) (F:=F) (w:=w1) j.2.length;simpa [upd_new]using this
     have hfs:VRs (upd B j.2.length ⟨L,0,0,0,false,id⟩) F w1 first fd:=(VRs.mono (fun _ h=>h) hk1 ⟨h1,h2⟩).loc M hbf.of_fn.1
     have hcs:VRs (upd B j.2.length ⟨L,0,0,0,false,id⟩) F w1 cap cd:=(VRs.mono (fun _ h=>h) hk1 ⟨h3,h4⟩).loc M hbf.of_fn.2;have hlm:m≤(j.2++[some (Blk.rnd ⟨(p u).1.ks.foldl (fun ts t=>ts.set t .any) j.1,g,u,.ready,none⟩)]).length:=by simp;have:=h.le;omega
     have hcall:=hc (.fn g') _ _ _ r o w0 w1 _ F (fd++[.func (.yield L) #[] #[]]++cd) hG hlm hRM (fun s O=>by
      rcases xz.1 O with O | O
      ·rcases xz.1 O with O | O
       ·exact(hbf.of_fn.1 s O).mono J.1
       ·simp at O;subst O;exact .yld J.2
      ·exact(hbf.of_fn.2 s O).mono J.1) ((hfs.append (.cons hyl .nil)).append hcs)
     refine(callsIn_wide.2 hcall:CallsIn (fen none) _ P g' _ w1 _).mono ?_;rintro e w3 ⟨s,mem',B',F',x,I,rfl,hv,hR',C,hb'⟩;simp only at I;split at I
     ·rename_i q hq;obtain⟨rec,g1,g2,g3,g4,g5,g6,g7,g8,g9,g10,g11,g12⟩:=hR'.recd h.le hq;have hBi:(B' j.2.length).blk=L:=by rw[C.loc _ J.2,upd_new]
      rw[hBi]at g1 g10 g11 g12;have fin:∀ (e:Ex) (pe:Option Code),k e (j.1,mem'.set j.2.length (some .dead))=some r→Q e.out { a with defers:=mk++a.defers } (w3.putObj L (.loop { rec with state:=.exhausted,pending:=pe })):=by
       intro e pe hke;have V:KeepsF F w (w3.putObj L (.loop { rec with state:=.exhausted,pending:=pe })):=hk1.trans (C.keep.trans ((g12 .exhausted pe).less C.fs));refine H e _ hke B' F' _ _ ⟨fun i E=>(C.loc i (J.1 i E)).trans (M i E),C.fs,V,⟨?_,?_,?_⟩,C.fn⟩ ⟨?_,?_,g11 _ _,?_,?_,?_⟩
       ·have:=C.ext.len;simp at this⊢;omega
       ·intro i E;obtain⟨b,hb⟩:=C.ext.live i (J.1 i E);exact⟨b,by rw[yd,gR (Nat.ne_of_gt E.lt)];exact hb⟩
       ·intro i r' E;rw[yd]at E;by_cases ei:j.2.length=i
        ·rw[gT ei]at E;split at E<;>cases E
        ·rw[gR ei]at E;obtain⟨r'',hr''⟩:=C.ext.old i r' E;rcases (get_push j.2 _ i _).1 hr'' with⟨_,h'⟩ | ⟨e',_⟩
         ·exact⟨r'',h'⟩
         ·exact absurd e'.symm ei
       ·exact(VRs.mono C.fs (C.keep.trans ((g12 .exhausted pe).less C.fs)).f (((h.tmps.mono (fun _ h=>h) hk1.f).loc M h.bd))).loc (D:=Live j.2) (fun i E=>C.loc i (J.1 i E)) h.bd
       ·have hold':=h.defers.mono V.d;rcases hmk with rfl | ⟨rfl,hge⟩
        ·exact hold'
        ·refine⟨⟨df,rfl,xL h.ne hge,?_,?_⟩,hold'⟩
         ·exact(g12 .exhausted pe).d df (C.keep.d df hdf1)
         ·exact h.defers.notin (by rw[kA];exact hge)
       ·intro s O;refine(h.bd s O).mono fun i E=>?_;obtain⟨b,hb⟩:=C.ext.live i (J.1 i E);exact⟨b,by simp only;rw[yd,gR (Nat.ne_of_gt E.lt)];exact hb⟩
       ·have:=C.ext.len;have:=h.le;simp at *;omega
       ·exact xL h.ne V.s
      have hend:∀ (hb:rec.state≠.busy),(Instr.endLoop L).run P w3=.ok rec.pending (w3.putObj L (.loop { rec with state:=.exhausted,pending:=rec.pending })):=fun hb=>run_endLoop g1 hb;split at I
      ·rename_i e1 e2;rw[←g2]at e1;rw[←g3]at e2;refine⟨none,_,by rw[←e2];exact hend (by rw[e1];simp),fin .normal _ I⟩
      ·rename_i id e1 e2;rw[←g2]at e1;rw[←g3]at e2;refine⟨some (.exit id),_,by rw[←e2];exact hend (by rw[e1];simp),wpIn_exit (fin (.exit id) _ I)⟩
      ·rename_i e1 e2;rw[←g2]at e1;rw[←g3]at e2;refine⟨some .ret,_,by rw[←e2];exact hend (by rw[e1];simp),wpIn_ret (fin .ret _ I)⟩
      ·cases I
     ·cases I
   refine wpIn_rangeFunc ?_;intro fn _;cases ro with
   | none =>
    have hl:l=none:=A;subst hl;refine go (w.heap.size+1) _ _ fn w.heap.size (run_enterLoop_outer _ _ _ _ _) ?_ ω ?_ ω ?_ (.inr ⟨rfl,za _⟩)
    ·exact((Below.refl _ w).alloc (za _) _).alloc ψ _
    ·have:=World.alloc_heap_new (w.alloc (.deferred (some []))) (.loop { state:=.ready,pending:=none,fn,tmps:=a.tmps,params:=ps,assign,body,defers:=w.heap.size })
     rwa [World.size_alloc]at this
    ·exact(Below.heap_alloc _ _ _ ψ).trans (World.alloc_heap_new w _)
   | some i =>
    obtain⟨hl,hlive⟩:=A;have hr:=K.2;simp only[inRnd,isRnd]at hr;split at hr
    ·rename_i q hq;obtain⟨hn0,fn0,tm0,df0,g1,g2,g3,g4⟩:=h.mem.blk i _ hq;have hlt:=lt_of_some g1;refine go w.heap.size _ _ fn df0 (by rw[hl];exact run_enterLoop_inner g1 _ _ _ _ _) ((Below.refl _ w).alloc (za _) _) (za _) (World.alloc_heap_new w _) ω ((Below.heap_alloc _ _ _ ω).trans g4) (.inl rfl)
    ·cases hr
  ·cases o
 | _=>intro u j k B F a w Q v h A o H;simp only[codeK]at o;cases o
end
@[reducible] def Tys : List Ty → Type
 | []=>Unit
 | t::ts=>t.α×Tys ts
def isSt:Ty→Bool
 | .pair _ _=>true
 | .unit=>true
 | .rc _=>true
 | _=>false
def oneOf(t:Ty)(s:SV):Option t.α:=bif isSt t then(match s with
 | .agg a=>ofC1 t a
 | _=>none)else ofC1 t [s]
def argsOf:(ps:List Ty)→List SV→Option (Tys ps)
 | [],ss=>match ss with
  | []=>some ()
  | _::_=>none
 | t::ts,ss=>match ss with
  | []=>none
  | s::r=>match oneOf t s with
   | some x=>match argsOf ts r with
    | some y=>some (x,y)
    | none=>none
   | none=>none
def svOf(t:Ty)(x:t.α):SV:=bif isSt t then .agg (cellsOf t x)else(cellsOf t x).headD .any
def svsOf:(rs:List Ty)→Tys rs→List SV
 | [],_=>[]
 | t::ts,x=>svOf t x.1::svsOf ts x.2
def resSV(rs:List Ty)(x:Tys rs):SV:=match svsOf rs x with
 | [s]=>s
 | l=>.tup l
def ValR(F:Nat→Prop)(w:World)(t:Ty)(x:t.α)(v:Value):Prop :=
 if isSt t=true then ∃ a:List Value,v=.agg a.toArray∧DR F w t x a else DR F w t x [v]
def ArgsR(F:Nat→Prop)(w:World):(ps:List Ty)→Tys ps→List Value→Prop
 | [],_,vs=>vs=[]
 | t::ts,x,vs=>∃ v r,vs=v::r∧ValR F w t x.1 v∧ArgsR F w ts x.2 r
def ResR(F:Nat→Prop)(w:World)(rs:List Ty)(x:Tys rs)(v:Value):Prop :=
 ∃ a:List Value,ArgsR F w rs x a∧v=match a with
  | [u]=>u
  | l=>.tuple l.toArray
structure Entry where
 ps:List Ty
 rs:List Ty
 f:Tys ps→Option (Tys rs)
abbrev Tab:=FuncId→Option Entry
def EntryOK(P:Program)(G:World→Prop)(g:FuncId)(E:Entry):Prop :=
 ∀ (x:Tys E.ps) (y:Tys E.rs),E.f x=some y→∀ (F:Nat→Prop) (w:World) (vals:List Value),G w→FC F w→ArgsR F w E.ps x vals→
  Calls P g vals.toArray w fun e w'=>∃ v,e=.returned v∧Below w.heap.size w w'∧ResR (Since F w w') w' E.rs y v
section
variable {B:Loc}{F F':Nat→Prop}{w w':World}
def valR_of[HasP]{t:Ty}{s:SV}{x:t.α}{v:Value}(h:oneOf t s=some x)(b:VR B F w s v):ValR F w t x v:=by
 unfold oneOf at h;unfold ValR;cases a:isSt t with
 | true =>
  rw[a]at h;simp only[cond_true]at h;rw[gT rfl];split at h
  ·obtain⟨ds,rfl,k⟩:=VRs.of_vr_agg b;exact⟨ds,rfl,ofC1_spec h k⟩
  ·cases h
 | false =>
  rw[a]at h;simp only[cond_false]at h;rw[gR ψ];exact ofC1_spec h (.cons b .nil)
def argsR_of[HasP]:∀ {ps:List Ty} {ss:List SV} {x:Tys ps} {a:List Value},argsOf ps ss=some x→VRs B F w ss a→ArgsR F w ps x a
 | [],ss,x,a,h,hv=>by
  simp only[argsOf]at h;split at h
  ·have:=hv.1;exact wc.1 (by simpa using this.symm)
  ·cases h
 | t::ts,ss,x,a,h,hv=>by
  simp only[argsOf]at h;split at h
  ·cases h
  ·split at h
   ·split at h
    ·cases h;obtain⟨d,b,rfl,c,e⟩:=hv.head;exact⟨d,b,rfl,valR_of (by assumption) c,argsR_of (by assumption) e⟩
    ·cases h
   ·cases h
def vr_of_valR{t:Ty}{x:t.α}{v:Value}(h:ValR F w t x v):VR B F w (svOf t x) v:=by
 unfold ValR at h;unfold svOf;cases d:isSt t with
 | true =>
  rw[gT d]at h;obtain⟨f,rfl,h⟩:=h;exact VR.agg' (vrs_of_dr h)
 | false =>
  rw[gR (by simp[d])]at h;have e:=vrs_of_dr (B:=B) h;simp only[cond_false];cases t with
  | pair a b=>cases d
  | unit=>cases d
  | rc c=>cases d
  | _=>exact e.2 0 _ v rfl rfl
def vrs_of_argsR:∀ {ps:List Ty} {x:Tys ps} {a:List Value},ArgsR F w ps x a→VRs B F w (svsOf ps x) a
 | [],x,a,h=>by rw[show a=[] from h];exact .nil
 | t::ts,x,a,h=>by
  obtain⟨v,r,rfl,b,c⟩:=h;exact .cons (vr_of_valR b) (vrs_of_argsR c)
def flatT:Ty→Bool
 | .sl _=>false
 | .rc _=>false
 | .pair a b=>flatT a&&flatT b
 | _=>true
def DR.flat{F F':Nat→Prop}{w w':World}:∀ {T:Ty} {x:T.α} {f:List Value},flatT T=true→DR F w T x f→DR F' w' T x f
 | .int _,x,f,_,h=>h
 | .bool,x,f,_,h=>h
 | .str,x,f,_,h=>h
 | .unit,x,f,_,h=>h
 | .nul,x,f,_,h=>h
 | .pair a b,x,f,hf,h=>by
  simp only[flatT,zm]at hf;obtain⟨c,d,e,g,i⟩:=h;exact⟨c,d,e,g.flat hf.1,i.flat hf.2⟩
def valR_flat{F F':Nat→Prop}{w w':World}{t:Ty}{x:t.α}{v:Value}(b:flatT t=true)(h:ValR F w t x v):ValR F' w' t x v:=by
 unfold ValR at h⊢;split
 ·rename_i a;rw[gT a]at h;obtain⟨c,e,h⟩:=h;exact⟨c,e,h.flat b⟩
 ·rename_i a;rw[gR a]at h;exact h.flat b
def argsR_flat{F F':Nat→Prop}{w w':World}:∀ {ps:List Ty} {x:Tys ps} {a:List Value},ps.all flatT=true→ArgsR F w ps x a→ArgsR F' w' ps x a
 | [],x,a,_,h=>h
 | t::ts,x,a,hf,h=>by
  simp only[List.all_cons,zm]at hf;obtain⟨v,r,e,b,c⟩:=h;exact⟨v,r,e,valR_flat hf.1 b,argsR_flat hf.2 c⟩
def resR_flat{F F':Nat→Prop}{w w':World}{rs:List Ty}{x:Tys rs}{v:Value}(a:rs.all flatT=true)(h:ResR F w rs x v):ResR F' w' rs x v:=by
 obtain⟨b,h,e⟩:=h;exact⟨b,argsR_flat a h,e⟩
def vr_of_resR{rs:List Ty}{x:Tys rs}{v:Value}(h:ResR F w rs x v):VR B F w (resSV rs x) v:=by
 obtain⟨i,h,rfl⟩:=h;have b:=vrs_of_argsR (B:=B) h;unfold resSV;split
 ·rename_i s e;rw[e]at b;obtain⟨d,ds,rfl,f,g⟩:=b.head;have:ds=[]:=wc.1 (by have:=g.1;simpa using this.symm);subst this;exact f
 ·rename_i c;have a:=b.1;split
  ·rename_i u;exact absurd (mq.1 (by simpa using a)) (fun⟨s,e⟩=>c s e)
  ·exact VR.tup' b
def bd_svOf{D:Nat→Prop}{t:Ty}{x:t.α}:Bd D (svOf t x):=by
 unfold svOf;cases isSt t with
 | true=>exact .agg bd_cellsOf
 | false =>
  simp only[cond_false];have:=bd_cellsOf (D:=D) (T:=t) (x:=x);cases h:cellsOf t x with
  | nil=>exact .any
  | cons s r=>rw[h]at this;exact this s (uL ..)
def bd_svsOf{D:Nat→Prop}:∀ {rs:List Ty} {x:Tys rs},∀ s∈svsOf rs x,Bd D s
 | [],x,s,h=>by cases h
 | t::ts,x,s,h=>by
  rcases ww.1 h with rfl | h
  ·exact bd_svOf
  ·exact bd_svsOf s h
def bd_resSV{D:Nat→Prop}{rs:List Ty}{x:Tys rs}:Bd D (resSV rs x):=by
 unfold resSV;split
 ·rename_i s e;exact bd_svsOf (rs:=rs) (x:=x) s (by rw[e];exact uL ..)
 ·exact .tup bd_svsOf
end
def frz1(m:Nat)(mem:Mem):SV→SV×Mem
 | .row b=>match mem[b]? with
  | some (some (.row T l t false))=>bif yb m b then(.sl T l,mem.set b (some (.row T l t true)))else(.row b,mem)
  | some (some (.row T l t true))=>(.sl T l,mem)
  | _=>(.row b,mem)
 | s=>(s,mem)
def frzL(m:Nat):List SV→Mem→List SV×Mem
 | [],mem=>([],mem)
 | s::r,mem =>
  let x:=frz1 m mem s;let y:=frzL m r x.2
  (x.1::y.1,y.2)
def frz(m:Nat)(mem:Mem):SV→SV×Mem
 | .agg a=>let x:=frzL m a mem;(.agg x.1,x.2)
 | s=>frz1 m mem s
def frzs(m:Nat):List SV→Mem→List SV×Mem
 | [],mem=>([],mem)
 | s::r,mem =>
  let x:=frz m mem s;let y:=frzs m r x.2
  (x.1::y.1,y.2)
def frzR(m:Nat)(mem:Mem):SV→SV×Mem
 | .tup ss=>let x:=frzs m ss mem;(.tup x.1,x.2)
 | s=>frz m mem s
section
variable {P:Program}{G:World→Prop}{m ne:Nat}{w0:World}{B:Loc}{w:World}
def frz1_sound[HasP]{mem:Mem}{F:Nat→Prop}(h:RM w0 m B F mem w){s:SV}{x:Value}(g:VR B F w s x)(k:Bd (Live mem) s):
  ∃ F',RM w0 m B F' (frz1 m mem s).2 w∧(∀ i,F i→F' i)∧Ext mem (frz1 m mem s).2∧VR B F' w (frz1 m mem s).1 x∧Bd (Live (frz1 m mem s).2) (frz1 m mem s).1∧(∀ i,F' i→F i∨w0.heap.size≤i):=by
 unfold frz1;split
 ·rename_i b;have p:∀ {T:Ty} {l:List T.α} {t:TypeId} {fz:Bool} {F':Nat→Prop},BlkR B F' w (.row T l t fz) (B b)→((B b).nil=false→F' (B b).blk)→VR B F' w (.sl T l) x:=by
   intro T l t fz F' z v;cases g;refine .sl T l _ ⟨_,rfl,?_⟩;rcases z with⟨h1,rfl⟩ | ⟨h0,h1,h2,h3,ds,h4,h5,h7,h6⟩
   ·exact .inl ⟨rfl,none,by simp[Place.val,h1]⟩
   ·refine .inr ⟨(B b).blk,(B b).off,(B b).cap,by simp[Place.val,h0,h2],fun _=>v h0,h3,fun i y C=>?_⟩;obtain⟨u,D,E⟩:=h6 i y C;exact⟨u,D,fun j d A=>by rw[h1,wm,cell_row h4];exact E j d A⟩
  split
  ·rename_i T l t a;cases o:yb m b with
   | false=>exact⟨F,h,fun _ h=>h,Ext.refl _,g,k,fun _ h=>.inl h⟩
   | true =>
   have e:m≤b:=by simpa using o
   have q:=h.freeze a;have n:Ext mem (mem.set b (some (.row T l t true))):=ext_set (y:=.row T l t true) a (fun r h=>by cases h);refine⟨_,q,fun i c=>.inl c,n,?_,.sl,fun i c=>?_⟩
   rotate_left
   ·rcases c with c | ⟨f,rfl⟩
    ·exact .inl c
    ·exact .inr (h.own b _ e a f)
   exact p (q.blk b (.row T l t true) (by rw[yd,gT rfl,gT (y6.1 a).1])) fun f=>.inr ⟨f,rfl⟩
  ·rename_i T l t a;exact⟨F,h,fun _ h=>h,Ext.refl _,p (h.blk b _ a) fun f=>h.fz b _ a f rfl,.sl,fun _ h=>.inl h⟩
  ·exact⟨F,h,fun _ h=>h,Ext.refl _,g,k,fun _ h=>.inl h⟩
 ·exact⟨F,h,fun _ h=>h,Ext.refl _,g,k,fun _ h=>.inl h⟩
def frzL_sound[HasP]:∀ {ss:List SV} {mem:Mem} {F:Nat→Prop} {ds:List Value},RM w0 m B F mem w→VRs B F w ss ds→(∀ s∈ss,Bd (Live mem) s)→
  ∃ F',RM w0 m B F' (frzL m ss mem).2 w∧(∀ i,F i→F' i)∧Ext mem (frzL m ss mem).2∧VRs B F' w (frzL m ss mem).1 ds∧(∀ s∈(frzL m ss mem).1,Bd (Live (frzL m ss mem).2) s)∧(∀ i,F' i→F i∨w0.heap.size≤i)
 | [],mem,F,ds,h,hv,hb=>⟨F,h,fun _ h=>h,Ext.refl _,hv,hb,fun _ h=>.inl h⟩
 | s::r,mem,F,ds,h,hv,hb=>by
  obtain⟨d,g,rfl,j,k⟩:=hv.head;obtain⟨F1,l,c,e,n,o,p⟩:=frz1_sound h j (hb s (uL ..));obtain⟨F2,l1,l2,l3,l4,l5,l6⟩:=frzL_sound l (k.mono c (KeepsF.refl _ _).f) (fun s b=>(hb s (s9 _ b)).mono e.live);refine⟨F2,l1,fun i a=>l2 i (c i a),e.trans l3,.cons (n.mono l2 (KeepsF.refl _ _).f) l4,fun s b=>?_,fun i a=>?_⟩
  rotate_left
  ·rcases l6 i a with a | a
   ·exact p i a
   ·exact .inr a
  rcases ww.1 b with rfl | b
  ·exact o.mono l3.live
  ·exact l5 s b
def frz_sound[HasP]{mem:Mem}{F:Nat→Prop}(h:RM w0 m B F mem w){s:SV}{x:Value}(b:VR B F w s x)(a:Bd (Live mem) s):
  ∃ F',RM w0 m B F' (frz m mem s).2 w∧(∀ i,F i→F' i)∧Ext mem (frz m mem s).2∧VR B F' w (frz m mem s).1 x∧Bd (Live (frz m mem s).2) (frz m mem s).1∧(∀ i,F' i→F i∨w0.heap.size≤i):=by
 unfold frz;split
 ·rename_i l;obtain⟨ds,rfl,k⟩:=VRs.of_vr_agg b;obtain⟨F',c,d,e,f,g,j⟩:=frzL_sound h k a.of_agg;exact⟨F',c,d,e,VR.agg' f,.agg g,j⟩
 ·exact frz1_sound h b a
def frzs_sound[HasP]:∀ {ss:List SV} {mem:Mem} {F:Nat→Prop} {ds:List Value},RM w0 m B F mem w→VRs B F w ss ds→(∀ s∈ss,Bd (Live mem) s)→
  ∃ F',RM w0 m B F' (frzs m ss mem).2 w∧(∀ i,F i→F' i)∧Ext mem (frzs m ss mem).2∧VRs B F' w (frzs m ss mem).1 ds∧(∀ s∈(frzs m ss mem).1,Bd (Live (frzs m ss mem).2) s)∧(∀ i,F' i→F i∨w0.heap.size≤i)
 | [],mem,F,ds,h,hv,hb=>⟨F,h,fun _ h=>h,Ext.refl _,hv,hb,fun _ h=>.inl h⟩
 | s::r,mem,F,ds,h,hv,hb=>by
  obtain⟨d,g,rfl,j,k⟩:=hv.head;obtain⟨F1,l,c,e,n,o,p⟩:=frz_sound h j (hb s (uL ..));obtain⟨F2,l1,l2,l3,l4,l5,l6⟩:=frzs_sound l (k.mono c (KeepsF.refl _ _).f) (fun s b=>(hb s (s9 _ b)).mono e.live);refine⟨F2,l1,fun i a=>l2 i (c i a),e.trans l3,.cons (n.mono l2 (KeepsF.refl _ _).f) l4,fun s b=>?_,fun i a=>?_⟩
  rotate_left
  ·rcases l6 i a with a | a
   ·exact p i a
   ·exact .inr a
  rcases ww.1 b with rfl | b
  ·exact o.mono l3.live
  ·exact l5 s b
def frzR_sound[HasP]{mem:Mem}{F:Nat→Prop}(h:RM w0 m B F mem w){s:SV}{x:Value}(b:VR B F w s x)(a:Bd (Live mem) s):
  ∃ F',RM w0 m B F' (frzR m mem s).2 w∧(∀ i,F i→F' i)∧Ext mem (frzR m mem s).2∧VR B F' w (frzR m mem s).1 x∧Bd (Live (frzR m mem s).2) (frzR m mem s).1∧(∀ i,F' i→F i∨w0.heap.size≤i):=by
 unfold frzR;split
 ·rename_i l;obtain⟨ds,rfl,k⟩:=VRs.of_vr_tup b;obtain⟨F',c,d,e,f,g,j⟩:=frzs_sound h k a.of_tup;exact⟨F',c,d,e,VR.tup' f,.tup g,j⟩
 ·exact frz_sound h b a
end
def run_next_iter{P:Program}{w:World}{r f n:Nat}{a:Array Nat}{c:Array MapEntry}(y:w.heap[r]? = some (.mapIter (some f) n a n))(B:w.heap[f]? = some (.map c n))(d:∀ x∈c.toList,x.born < n):
  ((leftOf c a).size=0∧∀ t,(Instr.next (.pointer (some ⟨r,0,none⟩)) false t).run P w=.ok (.tuple #[.bool false]) w)∨
  ∃ e∈(leftOf c a).toList,∃ w1:World,(w1=w∨w1=w.drew)∧∀ t,(Instr.next (.pointer (some ⟨r,0,none⟩)) false t).run P w=.ok (.tuple #[.bool true,e.key,e.val]) (w1.putObj r (.mapIter (some f) n (a.push e.born) n)):=by
 have m:(getObj r).run P w=.ok (.mapIter (some f) n a n) w:=by simp[getObj,Sem.run,y]
 have o:(getObj f).run P w=.ok (.map c n) w:=by simp[getObj,Sem.run,B]
 simp only[Instr.next,Sem.run_bind,m,o,Result.andThen_ok,next_test_false a c n n d (za _),zg,if_false];unfold leftOf;have b:∀ x∈(Array.filter (fun e=>!a.contains e.born) c).toList,x.born < n:=fun x g=>d x (by simp at g⊢;exact g.1);generalize Array.filter (fun e=>!a.contains e.born) c=L at b⊢;have z:L.filter (fun x=>decide (x.born < n))=L:=Array.filter_eq_self.2 (fun x g=>by simpa using b x (by simpa using g));have A:L.filter (fun x=>decide (x.born≥n))=#[]:=by
  rw[Array.filter_eq_empty_iff];intro x g;have:=b x (by simpa using g);simp;omega
 simp only[z,A,Array.append_empty];by_cases u:L.size=0
 ·left;have:L=#[]:=Array.eq_empty_of_size_eq_zero u;subst this;refine⟨rfl,fun _=>?_⟩;simp[choose,Sem.run,Question.forced]
 ·right;have p:L.isEmpty=false:=by simp[Array.isEmpty,u]
  simp only[p,zg,if_false,Array.empty_append,Array.size_map];have l:∃ (j:Nat) (w1:World),j < L.size∧(w1=w∨w1=w.drew)∧(choose (Question.mapNext L.size)).run P w=.ok j w1:=by
   by_cases v:L.size≤1
   ·exact⟨0,w,ω,.inl rfl,by simp[choose,Sem.run,Question.forced,v]⟩
   ·exact⟨_,w.drew,Nat.mod_lt _ ω,.inr rfl,by
     simp only[choose,Sem.run,Question.forced,decide_eq_true_eq,v,if_false,Question.cut];rfl⟩
  obtain⟨j,w1,C,h,i⟩:=l;refine⟨L[j],ψ,w1,h,fun _=>?_⟩;have q:w1.heap=w.heap:=by rcases h with rfl | rfl<;>rfl
  have k:∀ (s:Obj),(setObj r s).run P w1=.ok () (w1.putObj r s):=fun s=>by
   have:w1.heap[r]? = some (.mapIter (some f) n a n):=by rw[q];exact y
   simp[setObj,Sem.run,this,World.putObj]
  simp only[i,pD,xy C,wj,Sem.run_bind,k,Result.andThen_ok];rfl
section
variable {P:Program}{m:Nat}{w0 w:World}{B:Loc}{F:Nat→Prop}{mem:Mem}{ρ:Type}{r:ρ}
def nextK_sound[HasP]{o:List SV}{vals:List Value}{k:KO ρ}(hm:m≤mem.length)(E:RM w0 m B F mem w)(hbd:∀ s∈o,Bd (Live mem) s)(hv:VRs B F w o vals)(h:nextK m o mem k=some r):
  ∃ v w',(∀ ty,(Instr.next (vals.headD undef) false ty).run P w=.ok v w')∧Fin w0 m mem B F w k r (.returned v) w':=by
 unfold nextK at h;split at h
 ·rename_i b;split at h
  ·rename_i mb n seen last g;split at h
   ·rename_i kd a np K;cases T:(yb m b&&a.length==n)with
    | false=>rw[T]at h;cases h
    | true =>
    rw[T]at h;simp only[zm,beq_iff_eq,ux]at T;simp only[cond_true]at h;obtain⟨Y,hn⟩:=T;obtain⟨x,xs,rfl,hx,hxs⟩:=VRs.head hv;have:xs=[]:=wc.1 hxs.1.symm;subst this;cases hx;obtain⟨g0,t,S,A,g2,g3⟩:=E.blk b _ g;obtain⟨h0,J,h1,D⟩:=E.blk mb _ K;subst hn;have c:∀ (i:Nat) (e:MapEntry),J.toList[i]? = some e→e.born=i:=fun i e u=>D.born i e (by rw[←vi];exact u);have O:∀ x∈J.toList,x.born < a.length:=by
     intro e u;obtain⟨i,hi⟩:=mh u;rw[c i e hi,←D.size];have:=(y6.1 hi).1;simpa using this
    have N:∀ (i:Nat) (e:MapEntry),J.toList[(B mb).ord i]? = some e→(e∈(leftOf J t).toList↔i∉seen):=by
     intro i e u;have hb:=c _ e u;simp only[leftOf,Array.toList_filter,rK,xj u,true_and,hb];rw[←g2 i];simp[Array.contains_iff_mem]
    simp only[List.headD_cons,A];rcases run_next_iter (P:=P) S h1 O with⟨hz,hrun⟩ | ⟨e,u,w1,hal,hrun⟩
    ·have h:=(chsF_some h).1 fun p hp=>by
      obtain⟨i,V,hp1⟩:=waysK_fst a 0 p hp;rw[hp1,wm];cases d:seen.contains i with
      | true=>rfl
      | false =>
       have W:i∉seen:=fun hm=>by rw[ij.2 hm]at d;cases d
       obtain⟨e,u,_⟩:=D.ent i _ (zP V);have:=(N i e (by rw[vi];exact u)).2 W;have hz':(leftOf J t).toList=[]:=wc.1 (by simpa using hz);rw[hz']at this;cases this
     exact⟨_,w,hrun,_,mem,B,F,_,h,rfl,VR.tup' (ds:=[.bool false]) (.cons (.v _) .nil),E,Nx.refl,.tup fun s I=>by simp at I;subst I;exact .v _⟩
    ·obtain⟨U,_⟩:=mem_left u;obtain⟨j0,z⟩:=mh U;obtain⟨i,y,rfl⟩:=D.sur (j:=j0) (by rw[←D.size];simpa using(y6.1 z).1);have C:=c _ e z;have Z:=(N i e z).1 u;have hk:k (.tup [.v (.bool true),.v (.int kd a[i].1),a[i].2]) (mem.set b (some (.iter mb a.length (i::seen) (some i))))=some r:=by
      have hw:=waysK_mem (b:=b) (mb:=mb) (n:=a.length) (seen:=seen) (kd:=kd) (k:=k) (mem:=mem) a 0 i a[i] (zP y);rw[wm]at hw;exact(chsF_some h).2 _ hw (by
       cases d:seen.contains i with
       | false=>rfl
       | true=>exact absurd (ij.1 d) Z)
     obtain⟨L,hvd⟩:e.key=.int kd a[i].1∧VR B F w a[i].2 e.val:=by
      obtain⟨R,k1,k2,k3⟩:=D.ent i _ (zP y);rw[←vi,z]at k1;cases k1;exact⟨k2,k3⟩
     have l:w1.heap=w.heap∧w1.os=w.os∧w1.tape=w.tape∧w1.output=w.output:=by rcases hal with rfl | rfl<;>exact⟨rfl,rfl,rfl,rfl⟩
     have X:=lt_of_some S;have G:∀ q,q≠(B b).blk→(w1.putObj (B b).blk (.mapIter (some (B mb).blk) a.length (t.push e.born) a.length)).heap[q]? = w.heap[q]? := fun q H=>by
      rw[wN H,l.1]
     have Q:(w1.putObj (B b).blk (.mapIter (some (B mb).blk) a.length (t.push e.born) a.length)).heap.size=w.heap.size:=by
      rw[World.putObj_size,l.1]
     have M:KeepsF F w (w1.putObj (B b).blk (.mapIter (some (B mb).blk) a.length (t.push e.born) a.length)) :=
      ⟨fun q H=>G q fun R=>E.fr b _ g rfl g0 rfl (R▸H),fun q H=>by rw[G q fun R=>by rw[R,S]at H;cases H];exact H,by rw[Q];exact za _⟩
     refine⟨_,_,hrun,_,_,B,F,_,hk,rfl,?_,E.turn (b':=.iter mb a.length (i::seen) (some i)) Y g rfl rfl rfl Q ⟨l.2.1,l.2.2.1,l.2.2.2⟩ g0 G (by rw[S];simp) ⟨g0,_,World.putObj_heap_same (by rw[l.1];exact X),A,fun j=>?_,fun j hj=>?_⟩ (fun s I=>E.bd b _ g s (by simpa [Blk.refs]using I)),⟨fun _ _=>rfl,fun _ h=>h,M,ext_set g (fun r h=>by cases h),fun _ h=>.inl h⟩,?_⟩
     ·rw[L];exact(VR.tup' (ds:=[.bool true,.int kd a[i].1,e.val]) (.cons (.v _) (.cons (.v _) (.cons hvd .nil)))).mono (fun _ h=>h) M.f
     ·rw[C];simp only[Array.toList_push,xz,sj,ww,g2 j];constructor
      ·rintro (h | h | h)
       ·exact .inr h
       ·exact .inl (D.inj h)
       ·cases h
      ·rintro (rfl | h)
       ·exact .inr (.inl rfl)
       ·exact .inl h
     ·cases hj;simp[C]
     ·refine .tup fun s I=>?_;simp at I;rcases I with rfl | rfl | rfl
      ·exact .v _
      ·exact .v _
      ·exact(E.bd mb _ K _ (by simp only[Blk.refs];exact yy.2 ⟨a[i],List.getElem_mem y,rfl⟩)).mono (ext_set g (fun r h=>by cases h)).live
   ·cases h
  ·cases h
 ·cases h
def run_nilN{t e:TypeId}(a b:Operand)(g:P.underlying t=some (.slice e)):
  (do eqGuard .eql t a b (.slice none 0 0) (.slice none 0 0);binOp .eql t (.slice none 0 0) (.slice none 0 0):Sem Value).run P w=.ok (.bool true) w:=by
 have c:(eqGuard .eql t a b (.slice none 0 0) (.slice none 0 0):Sem Unit)=pure ():=rfl;have d:(binOp .eql t (.slice none 0 0) (.slice none 0 0):Sem Value)=(do pure (.bool (←Op.equal t (.slice none 0 0) (.slice none 0 0)))):=rfl;have f:(Op.equal t (.slice none 0 0) (.slice none 0 0)).run P w=.ok true w:=by
  unfold Op.equal;rw[show Op.maxDepth=9999+1 from rfl,Op.equalIn];simp only[Sem.run_bind,run_underlying g,Result.andThen_ok,Sem.run_pure];rfl
 rw[c,d];simp only[Sem.run_bind,f,Result.andThen_ok,Sem.run_pure]
def nilK_sound[HasP]{p:Bool}{t:TypeId}{d:List SV}{vals:List Value}{k:KO ρ}(s:RM w0 m B F mem w)(n:VRs B F w d vals)(h:nilK P p t d mem k=some r):
  ∃ v w',(∀ a c,(do eqGuard .eql t a c (vals.headD undef) (.slice none 0 0);binOp .eql t (vals.headD undef) (.slice none 0 0):Sem Value).run P w=.ok v w')∧Fin w0 m mem B F w k r (.returned v) w':=by
 unfold nilK at h;split at h
 ·rename_i T l;split at h
  ·rename_i e g;obtain⟨x,xs,rfl,y,z⟩:=VRs.head n;have fin:∀ b:Bool,k (.v (.bool b)) mem=some r→Fin w0 m mem B F w k r (.returned (.bool b)) w:=fun b u=>⟨_,mem,B,F,_,u,rfl,.v _,s,Nx.refl,.v _⟩
   cases y with | sl _ _ _ f =>
   obtain⟨v,n,f⟩:=f;cases n;rw[br_eq]at h;cases j:decide (0 < l.length)with
   | true =>
    rw[j]at h;rcases f with⟨rfl,_⟩ | ⟨b,o,cap,rfl,_⟩
    ·simp at j
    ·exact⟨_,w,fun a c=>run_nilX a c _ _ _ g,fin false h⟩
   | false =>
    rw[j]at h;simp only[cond_false]at h;cases p with
    | false=>cases h
    | true =>
    have i:=(chs_some h).2;rcases f with⟨_,(_ | q),rfl⟩ | ⟨b,o,cap,rfl,_⟩
    ·exact⟨_,w,fun a c=>run_nilN a c g,fin true (i _ ψ)⟩
    ·exact⟨_,w,fun a c=>run_nilX a c _ _ _ g,fin false (i _ ψ)⟩
    ·exact⟨_,w,fun a c=>run_nilX a c _ _ _ g,fin false (i _ ψ)⟩
  ·cases h
 ·cases h
end
def resE(P:Program)(a:St):ResultVar→Option SV
 | .tmp t=>some (a.1.getD t .any)
 | .cell t b=>match loadE P a.2 b (a.1.getD t .any)with
  | some (.det s _)=>some s
  | _=>none
def resultsE(P:Program)(a:Func)(b:St):Option SV :=
 match a.results.toList.mapM (resE P b)with
 | some [s]=>some s
 | some ss=>some (.tup ss)
 | none=>none
def setPs(ps:List Nat)(a:List SV)(ts:List SV):List SV:=(ps.zip a).foldl (fun ts (p,s)=>ts.set p s) ts
inductive Spk where
 | copyCheck (tB:TypeId)
 | bString (tB tE:TypeId)
 | fresh (ps:List Ty) (T:Ty) (t:TypeId) (f:Tys ps→Option (List T.α×Unit))
 | gen (f:Nat→List SV→Mem→Option Res)
structure FA where
 ann:Ann
 spc:Option Spk
 inl:List Nat:=[]
def Ann.none:Ann:=fun _=>(⟨[],[],[]⟩,⟨[],[],[]⟩)
def FA.none:FA:=⟨Ann.none,Option.none,[]⟩
def tabAt(tab:Tab)(a:List Nat)(n:Nat)(g:FuncId):Option Entry:=bif a.any (·==n)then none else tab g
def tabAt_some{tab:Tab}{a:List Nat}{n:Nat}{g:FuncId}{E:Entry}(h:tabAt tab a n g=some E):tab g=some E:=by
 unfold tabAt at h;cases b:a.any (·==n)with
 | true=>rw[b]at h;cases h
 | false=>rw[b]at h;exact h
def freshB(b:Nat):SV→Bool
 | .v (.pointer none)=>true
 | .ptr c 0=>c==b
 | _=>false
def spcE(m:Nat)(s:Spk)(a:List SV)(mem:Mem):Option Res :=
 match s,a with
 | .copyCheck tB,[.ptr b 0]=>match mem[b]? with
  | some (some (.cells [p,v] t))=>if m≤b∧t=tB∧freshB b p=true then some (.det (.tup []) (mem.set b (some (.cells [.ptr b 0,v] t))))else none
  | _=>none
 | .bString tB tE,[.ptr b 0]=>match mem[b]? with
  | some (some (.cells [p,.row q] t))=>match mem[q]? with
   | some (some (.row T l e false))=>if m≤b∧m≤q∧t=tB∧e=tE then match castL T (.int .u8) l with
     | some l=>some (.part ByteArray (if 0 < l.length then some (bytesS l)else none) fun s=>(.v (.string s),mem.set q (some .gone)))
     | none=>none
    else none
   | _=>none
  | _=>none
 | .fresh ps T t f,as=>match argsOf ps (frzs m as mem).1 with
  | some x=>some (.part (List T.α×Unit) (f x) fun y=>(.row mem.length,mem++[some (.row T y.1 t false)]))
  | none=>none
 | .gen f,as=>f m as mem
 | _,_=>none
def SpkOK[HasP](P:Program)(G:World→Prop)(s:Spk)(g:FuncId):Prop :=
 ∀ (w0:World) (m:Nat) (B:Loc) (F:Nat→Prop) (mem:Mem) (w:World) (b:List SV) (vals:List Value) (q:Res) (o:SV) (a:Mem),spcE m s b mem=some q→q.Out o a→G w0→m≤mem.length→RM w0 m B F mem w→
  (∀ s∈b,Bd (Live mem) s)→VRs B F w b vals→Calls P g vals.toArray w fun e w'=>∃ B' F' x,e=.returned x∧VR B' F' w' o x∧RM w0 m B' F' a w'∧Nx w0 mem B F w a B' F' w'∧Bd (Live a) o
def AnnsOK[HasP](P:Program)(G:World→Prop)(anns:FuncId→FA):Prop:=∀ g s,(anns g).spc=some s→SpkOK P G s g
def bodyK{ρ:Type}(P:Program)(g:FuncId)(b:Ann)(ls:Sums)(h:Draws ρ)(call:Oracle ρ)(m lf:Nat)(a:List SV)(mem:Mem)(k:KO ρ):Option ρ:=match P.funcs[g]? with
 | some d=>match d.body with
  | some c=>codeK P g b ls h call m lf none 0 c (a++xS (d.ntmps-a.length) (.v undef),mem) fun e f=>match e with
   | .exit _=>none
   | _=>match resultsE P d f with
    | some s=>k s f.2
    | none=>none
  | none=>none
 | none=>none
noncomputable def goK {ρ:Type} (d:Bool) (P:Program) (anns:FuncId→FA) (ls:Nat→FuncId→Sums) (c:Draws ρ) (tab:Tab) (m lf:Nat):Nat→Oracle ρ
  | 0,_,_,_,_=>none
  | n+1,.fn g,args,mem,k=>match (anns g).spc with
   | some s=>match spcE m s args mem with
    | some q=>resK q k
    | none=>none
   | none=>match tabAt tab (anns g).inl n g with
    | some E=>match argsOf E.ps (frzs m args mem).1 with
      | some x=>bd (E.f x) fun y=>k (resSV E.rs y) (bif E.rs.all flatT then mem else(frzs m args mem).2)
      | none=>none
    | none=>bodyK P g (anns g).ann (ls n g) c (goK d P anns ls c tab m lf n) m lf args mem k
  | n+1,.nxt,args,mem,k=>bif d then nextK m args mem k else none
  | n+1,.nilq t,args,mem,k=>nilK P d t args mem k
  | n+1,.yld i,args,mem,k=>match mem[i]? with
    | some (some (.rnd q))=>bif args.length==(rcodeP P q.g q.li).params.size&&yb m i then
        codeK P q.g (anns q.g).ann (fun _ _=>none) c (goK d P anns ls c tab m lf n) m lf (some i) (q.li+1) (rcodeP P q.g q.li).assign (setPs (rcodeP P q.g q.li).params.toList args q.tmps,mem) fun e b=>match e with
          | .normal=>match b.2[i]? with
            | some (some (.rnd q1))=>match q1.st with
              | .ready=>codeK P q.g (anns q.g).ann (fun _ _=>none) c (goK d P anns ls c tab m lf n) m lf (some i) (q.li+1+loops (rcodeP P q.g q.li).assign) (rcodeP P q.g q.li).body (b.1,b.2.set i (some (.rnd { q1 with st:=.busy,pending:=q1.pending }))) fun h a=>match a.2[i]? with
                | some (some (.rnd q2))=>match h with
                  | .normal=>k (.v (.bool true)) (a.2.set i (some (.rnd { q2 with st:=.ready,pending:=none })))
                  | .exit id=>k (.v (.bool false)) (a.2.set i (some (.rnd { q2 with st:=.done,pending:=some (.exit id) })))
                  | .ret=>k (.v (.bool false)) (a.2.set i (some (.rnd { q2 with st:=.done,pending:=some .ret })))
                | _=>none
              | _=>none
            | _=>none
          | _=>none
      else none
    | _=>none
def TabOK(P:Program)(G:World→Prop)(tab:Tab):Prop:=∀ g E,tab g=some E→EntryOK P G g E
section
variable {P:Program}{G:World→Prop}{m ne:Nat}{w0:World}{ρ:Type}{r:ρ}
def getD_vr{B:Loc}{F:Nat→Prop}{w:World}{ts:List SV}{b:Array Value}(h:VRs B F w ts b.toList)(t:Nat):VR B F w (ts.getD t .any) (b.getD t undef) :=
 ev_vr (a:={ tmps:=b,defers:=[] }) h (x:=.tmp t) rfl
def resE_sound[HasP]{B:Loc}{F:Nat→Prop}{w:World}{c:St}{g:Array Value}(p:RM w0 m B F c.2 w)(h:VRs B F w c.1 g.toList)(q:∀ s∈c.1,Bd (Live c.2) s){v:ResultVar}{s:SV}(f:resE P c v=some s):
  ∃ x,(Rx.resF g v).run P w=.ok x w∧VR B F w s x∧Bd (Live c.2) s:=by
 have i:∀ t,Bd (Live c.2) (c.1.getD t .any):=fun t=>ev_bd q (.tmp t);cases v with
 | tmp t =>
  simp only[resE,y8.injEq]at f;subst f;exact⟨_,rfl,getD_vr h t,i t⟩
 | cell t A =>
  simp only[resE]at f;split at f
  ·rename_i u k d;cases f;obtain⟨_,l,y,j,n⟩:=loadE_sound (P:=P) p (i t) (getD_vr h t) d ⟨rfl,rfl⟩;refine⟨y,?_,n,l⟩;have r:∃ b o,g.getD t undef=.pointer (some ⟨b,o,none⟩):=by
    have a:=getD_vr h t;unfold loadE at d;split at d
    ·split at d
     ·rename_i e;rw[e]at a;generalize g.getD t undef=z at a;cases a;exact⟨_,_,rfl⟩
     ·rename_i e;rw[e]at a;generalize g.getD t undef=z at a;cases a;exact⟨_,_,rfl⟩
     ·rename_i e;rw[e]at a;generalize g.getD t undef=z at a;cases a;exact⟨_,_,rfl⟩
     ·cases d
    ·cases d
   obtain⟨b,o,e⟩:=r;rw[e]at j;simp only[Rx.resF,e];rw[loadAt_eq]at j;simpa [asAddr,Sem.run_bind]using j
  ·cases f
def mapM_sound[HasP]{B:Loc}{F:Nat→Prop}{w:World}{a:St}{i:Array Value}(f:RM w0 m B F a.2 w)(h:VRs B F w a.1 i.toList)(g:∀ s∈a.1,Bd (Live a.2) s):∀ (rs:List ResultVar) (ss:List SV),rs.mapM (resE P a)=some ss→
  ∃ xs,(rs.mapM (Rx.resF i)).run P w=.ok xs w∧VRs B F w ss xs∧∀ s∈ss,Bd (Live a.2) s
 | [],ss,hm=>by simp at hm;subst hm;exact⟨[],rfl,.nil,ψ⟩
 | v::rs,ss,hm=>by
  rw[lE]at hm;cases b:resE P a v with
  | none=>rw[b]at hm;cases hm
  | some s =>
   rw[b]at hm;cases c:rs.mapM (resE P a)with
   | none=>rw[c]at hm;cases hm
   | some e =>
    rw[c]at hm;cases hm;obtain⟨x,j,k,l⟩:=resE_sound (P:=P) f h g b;obtain⟨xs,l1,l2,l3⟩:=mapM_sound f h g rs e c;refine⟨x::xs,?_,.cons k l2,fun u d=>?_⟩
    ·rw[lE,Sem.run_bind,j,Result.andThen_ok,Sem.run_bind,l1];rfl
    ·rcases ww.1 d with rfl | d
     ·exact l
     ·exact l3 u d
def resultsE_sound[HasP]{B:Loc}{F:Nat→Prop}{w:World}{b:St}{n:Array Value}(q:RM w0 m B F b.2 w)(h:VRs B F w b.1 n.toList)(r:∀ s∈b.1,Bd (Live b.2) s){k:Func}{s:SV}(g:resultsE P k b=some s):
  ∃ x,(results k n).run P w=.ok x w∧VR B F w s x∧Bd (Live b.2) s:=by
 unfold resultsE at g;have o:∀ ss:List SV,k.results.toList.mapM (resE P b)=some ss→∃ xs:List Value,
   (results k n).run P w=.ok (if h:(xs.toArray).size=1 then(xs.toArray)[0]else .tuple xs.toArray) w∧VRs B F w ss xs∧∀ s∈ss,Bd (Live b.2) s:=by
  intro ss a;obtain⟨xs,i,c,j⟩:=mapM_sound (P:=P) q h r _ ss a;refine⟨xs,?_,c,j⟩;rw[Rx.results_eq,Sem.run_bind,Array.mapM_eq_mapM_toList,Sem.run_map,i];rfl
 split at g
 ·rename_i p a;cases g;obtain⟨xs,i,c,j⟩:=o _ a;obtain⟨d,ds,rfl,l1,l2⟩:=c.head;have:ds=[]:=wc.1 (by have:=l2.1;simpa using this.symm);subst this;exact⟨d,by simpa using i,l1,j _ ψ⟩
 ·rename_i ss l a;cases g;obtain⟨xs,i,c,j⟩:=o _ a;have f:¬xs.length=1:=by
   intro e;obtain⟨p,rfl⟩:=mq.1 (c.1.trans e);exact l p rfl
  refine⟨.tuple xs.toArray,?_,VR.tup' c,.tup j⟩;rw[i];simp[f]
 ·cases g
def RM.take[HasP]{B:Loc}{F:Nat→Prop}{w:World}{mem:Mem}(h:RM w0 m B F mem w){p:Nat}(g:w.heap[p]? = some (Obj.deferred (some [])))(L:w0.heap.size≤p)
  (A:∀ (i:Nat) (q:Rnd),mem[i]? = some (some (.rnd q))→(B i).blk < p):RM w0 m B F mem (w.putObj p (.deferred none))∧KeepsC F w (w.putObj p (.deferred none)):=by
 have a:∀ k,k≠p→(w.putObj p (.deferred none)).heap[k]? = w.heap[k]? := fun k x=>wN x;have r:KeepsC F w (w.putObj p (.deferred none)):=fun k x=>a k fun e=>by
  obtain⟨E,t,z,v⟩:=h.fc k x;rw[e,g]at v;cases v
 refine⟨⟨fun i b C=>?_,h.own,h.inj,h.bd,h.fr,h.fz,h.fc.keep r,⟨h.below.os,h.below.tape,h.below.output,by simpa [World.putObj]using h.below.size,fun k x=>by rw[a k ω];exact h.below.block k x⟩⟩,r⟩;have o:=h.blk i b C;cases b with
 | cells E t =>
  obtain⟨j,c,ds,f,s⟩:=o;exact⟨j,c,ds,by rw[a _ fun e=>by rw[e,g]at f;cases f];exact f,s.mono (fun _ h=>h) r⟩
 | row T l t fz =>
  rcases o with o | ⟨j,c,f,s,ds,u,I,K,J⟩
  ·exact .inl o
  ·exact .inr ⟨j,c,f,s,ds,by rw[a _ fun e=>by rw[e,g]at u;cases u];exact u,I,K,J.mono (fun _ h=>h) r⟩
 | rnd q =>
  have M:=A i q C;obtain⟨j,H,N,d,c,f,s,u⟩:=o;exact⟨j,H,N,d,by rw[a _ ω];exact c,f.mono (fun _ h=>h) r,s,by rw[a _ ω];exact u⟩
 | dead=>exact⟨o.1,by simpa [World.putObj]using o.2⟩
 | gone=>trivial
 | map k O n =>
  obtain⟨j,G,c,f⟩:=o;exact⟨j,G,by rw[a _ fun e=>by rw[e,g]at c;cases c];exact c,f.mono (fun _ h=>h) r⟩
 | iter mb n seen D =>
  obtain⟨j,y,c,f⟩:=o;exact⟨j,y,by rw[a _ fun e=>by rw[e,g]at c;cases c];exact c,f⟩
def leaves[HasP]{B:Loc}{F:Nat→Prop}{y:Func}{C:Array Value}{b:St}{s:SV}(a:resultsE P y b=some s)(z:∀ s∈b.1,Bd (Live b.2) s)(g:w0.heap.size≤ne)
  (k:∀ (i:Nat) (q:Rnd),b.2[i]? = some (some (.rnd q))→(B i).blk < ne) {u:Ending→World→Prop} {F0:Nat→Prop} {t:World} (r:t.heap.size=ne)
  (c:∀ x w',VR B F w' s x→RM w0 m B F b.2 w'→KeepsF F0 t w'→Bd (Live b.2) s→u (.returned x) w'):∀ (ds:List Deferred) {w:World},Marks ne w ds→RM w0 m B F b.2 w→VRs B F w b.1 C.toList→KeepsF F0 t w→
   LeavesInM (fen none) 0 P y C u ds .returning w
 | [],w,hm,hR,hT,hk=>by
  obtain⟨x,o,p,E⟩:=resultsE_sound (P:=P) hR hT z a;exact⟨x,o,c x w p hR hk E⟩
 | d::ds,w,⟨⟨df,e,hne,hdf,hnin⟩,hm⟩,hR,hT,hk=>by
  subst e;obtain⟨o,p⟩:=hR.take hdf (xL g hne) fun i q l=>ry (k i q l) hne;refine⟨ψ,.inl ⟨df,_,rfl,run_takeDeferred hdf,leaves a z g k r c ds ?_ o (hT.mono (fun _ h=>h) p) ?_⟩⟩
  ·have key:∀ {es:List Deferred},mark df∉es→Marks ne w es→Marks ne (w.putObj df (.deferred none)) es:=by
    intro es
    induction es with
    | nil=>intro _ h;exact h
    | cons e es H =>
     rintro j ⟨⟨D,v,I,J,K⟩,L⟩;refine⟨⟨D,v,I,?_,K⟩,H (fun h=>j (s9 _ h)) L⟩;rw[wN fun n=>j (by rw[v,n];exact uL ..)];exact J
   exact key hnin hm
  ·have G:=lt_of_some hdf;refine⟨fun i l=>?_,fun d A=>?_,by simpa [World.putObj]using hk.s⟩
   ·rw[wN fun e=>?_]
    ·exact hk.f i l
    ·have:=hk.f i l;subst e;rw[hdf]at this;have:=lt_of_some this.symm;omega
   ·have:=lt_of_some A;rw[wN ω];exact hk.d d A
def setPs_vrs{B:Loc}{F:Nat→Prop}{w:World}:∀ {ps:List Nat} {ss:List SV} {xs:List Value} {ts:List SV} {a:Array Value},VRs B F w ss xs→VRs B F w ts a.toList→
  VRs B F w (setPs ps ss ts) ((ps.zip xs).foldl (fun t (p,v)=>t.setIfInBounds p v) a).toList
 | [],ss,xs,ts,a,h,k=>by simpa [setPs]using k
 | p::ps,[],xs,ts,a,h,k=>by
  have:xs=[]:=wc.1 (by have:=h.1;simpa using this.symm);subst this;simpa [setPs]using k
 | p::ps,s::ss,xs,ts,a,h,k=>by
  obtain⟨d,ds,rfl,b,c⟩:=h.head;simp only[setPs,kB,tf];refine setPs_vrs (ps:=ps) c ?_;rw[ko];exact k.set p b
def setPs_bd{D:Nat→Prop}:∀ {ps:List Nat} {ss:List SV} {ts:List SV},(∀ s∈ss,Bd D s)→(∀ s∈ts,Bd D s)→∀ s∈setPs ps ss ts,Bd D s
 | [],ss,ts,h,k=>by simpa [setPs]using k
 | p::ps,[],ts,h,k=>by simpa [setPs]using k
 | p::ps,s::ss,ts,h,k=>by
  simp only[setPs,kB,tf];refine setPs_bd (ps:=ps) (fun u a=>h u (s9 _ a)) fun u a=>?_;rcases sC a with a | rfl
  ·exact k u a
  ·exact h _ (uL ..)
def lsOK_none[HasP]{g:FuncId}{e:Ann}{j:Draws ρ}{call:Oracle ρ}{lf:Nat}{ro:Option Nat}:∀ (c:Code) (a:Nat),RgOK g a c→LsOK P g e (fun _ _=>none) j call m lf ro a c:=by
 intro c
 induction c with
 | seq x y b d=>exact fun a h=>⟨b a (h.two (fun _=>rfl)).1,d _ (h.two (fun _=>rfl)).2⟩
 | cond c x y b d=>exact fun a h=>⟨b a (h.two (fun _=>rfl)).1,d _ (h.two (fun _=>rfl)).2⟩
 | block id x i=>exact fun a h=>i a h
 | loop x i=>exact fun a h=>⟨fun k T h=>(by cases h),i _ h.lp⟩
 | rangeFunc f ps x y b d=>exact fun a h=>h.inr.1
 | _=>exact fun a h=>trivial
def nthLoop:Code→Nat→Option Code
 | .seq x y,i=>bif y9 i (loops x)then nthLoop x i else nthLoop y (i-loops x)
 | .cond _ x y,i=>bif y9 i (loops x)then nthLoop x i else nthLoop y (i-loops x)
 | .block _ x,i=>nthLoop x i
 | .loop b,i=>match i with
  | 0=>some b
  | j+1=>nthLoop b j
 | _,_=>none
def LsAt(ρ:Type)(P:Program)(g:FuncId)(a:Ann)(ls:Sums)(d:Draws ρ)(call:Oracle ρ)(m lf:Nat)(ro:Option Nat)(b:Nat)(body:Code):Prop :=
 ∀ (c:St) (T:LTE),ls b c=some T→∀ (k:KE ρ) (r:ρ),bd T.x (fun y=>altK k (T.out y))=some r→
   iterK (nrmS m (a b).1 (c.2.length-(a b).1.acc.length)) (nrmS m (a b).2 (c.2.length-(a b).1.acc.length)) (codeK P g a ls d call m lf ro (b+1) body) lf c k=some r
def loops_lt:∀ (c:Code) (i:Nat) (b:Code),nthLoop c i=some b→i < loops c:=by
  intro c
  induction c with
  | seq x y d e =>
    intro i b h;simp only[nthLoop]at h;simp only[loops];cases a:y9 i (loops x)with
    | true=>rw[a]at h;have:=d i b h;omega
    | false=>
     rw[a]at h;have:=e _ b h;have:¬i < loops x:=fun h=>by rw[show y9 i (loops x)=true from by simpa using h]at a;cases a
     omega
  | cond c x y d e =>
    intro i b h;simp only[nthLoop]at h;simp only[loops];cases a:y9 i (loops x)with
    | true=>rw[a]at h;have:=d i b h;omega
    | false=>
     rw[a]at h;have:=e _ b h;have:¬i < loops x:=fun h=>by rw[show y9 i (loops x)=true from by simpa using h]at a;cases a
     omega
  | block id x f=>intro i b h;simp only[nthLoop]at h;exact f i b h
  | loop x f =>
    intro i b h;cases i with
    | zero=>simp only[loops];omega
    | succ i=>simp only[nthLoop]at h;have:=f i b h;simp only[loops];omega
  | _=>intro i b h;cases h
def lsOK_of[HasP]{g:FuncId}{l:Ann}{ls:Sums}{p:Draws ρ}{call:Oracle ρ}{lf:Nat}{ro:Option Nat}:∀ (c:Code) (a:Nat),RgOK g a c→(∀ i body,nthLoop c i=some body→LsAt ρ P g l ls p call m lf ro (a+i) body)→LsOK P g l ls p call m lf ro a c:=by
 intro c
 induction c with
 | seq x y j k =>
  intro a d h;refine⟨j a (d.two (fun _=>rfl)).1 fun i b e=>h i b ?_,k _ (d.two (fun _=>rfl)).2 fun i b e=>?_⟩
  ·have:=loops_lt x i b e;simp only[nthLoop];rw[show y9 i (loops x)=true from by simpa using this];exact e
  ·have:=h (loops x+i) b (by
    simp only[nthLoop];rw[show y9 (loops x+i) (loops x)=false from by(cases n:y9 (loops x+i) (loops x)with | false=>rfl | true=>(have:loops x+i < loops x:=by simpa using n);omega),pA];exact e)
   rwa [←xo]at this
 | cond c x y j k =>
  intro a d h;refine⟨j a (d.two (fun _=>rfl)).1 fun i b e=>h i b ?_,k _ (d.two (fun _=>rfl)).2 fun i b e=>?_⟩
  ·have:=loops_lt x i b e;simp only[nthLoop];rw[show y9 i (loops x)=true from by simpa using this];exact e
  ·have:=h (loops x+i) b (by
    simp only[nthLoop];rw[show y9 (loops x+i) (loops x)=false from by(cases n:y9 (loops x+i) (loops x)with | false=>rfl | true=>(have:loops x+i < loops x:=by simpa using n);omega),pA];exact e)
   rwa [←xo]at this
 | block id x o=>intro a d h;exact o a d h
 | loop x o =>
  intro a d h;refine⟨h 0 x rfl,o _ d.lp fun i b e=>?_⟩;have:=h (i+1) b e
  rwa [show a+(i+1)=a+1+i from ω]at this
 | rangeFunc f ps x y j k=>intro a d h;exact d.inr.1
 | _=>intro a d h;exact trivial
def SumsOK[HasP](d:Bool)(ρ:Type)(P:Program)(anns:FuncId→FA)(ls:Nat→FuncId→Sums)(a:Draws ρ)(tab:Tab)(m lf:Nat):Prop :=
 ∀ n g b c,P.funcs[g]? = some b→b.body=some c→LsOK P g (anns g).ann (ls n g) a (goK d P anns ls a tab m lf n) m lf none 0 c
def bodyK_sound[HasP]{g:FuncId}{p:Ann}{ls:Sums}{E:Draws ρ}(X:DrawsOK ρ P G m E){call:Oracle ρ}(W:CallK P G m call){lf:Nat}(O:∀ fn c,P.funcs[g]? = some fn→fn.body=some c→LsOK P g p ls E call m lf none 0 c){a:List SV}{mem:Mem}{k:KO ρ}{r:ρ}
  (h:bodyK P g p ls E call m lf a mem k=some r) {w0 w:World} {B:Loc} {F:Nat→Prop} {vals:List Value} (Y:G w0) (hm:m≤mem.length) (H:RM w0 m B F mem w) (K:∀ s∈a,Bd (Live mem) s) (Q:VRs B F w a vals):Calls P g vals.toArray w (Fin w0 m mem B F w k r):=by
 unfold bodyK at h;split at h
 ·rename_i fn y;split at h
  ·rename_i c b;have I:R w0 m w.heap.size (a++xS (fn.ntmps-a.length) (.v undef),mem) B F { tmps:=vals.toArray++sE (fn.ntmps-vals.toArray.size) undef,defers:=[] } w:=by
    refine⟨?_,trivial,H,?_,hm,za _⟩
    ·have e:(vals.toArray++sE (fn.ntmps-vals.toArray.size) undef).toList=vals++xS (fn.ntmps-a.length) undef:=by simp[Q.1]
     show VRs B F w (a++xS (fn.ntmps-a.length) (.v undef)) (vals.toArray++sE (fn.ntmps-vals.toArray.size) undef).toList;rw[e];refine Q.append ⟨ψ,fun i s d U V=>?_⟩;have S:=(qS.1 (xj U)).2;have T:=(qS.1 (xj V)).2;subst S T;exact .v _
    ·intro u A;rcases xz.1 A with A | A
     ·exact K u A
     ·rw[(qS.1 A).2];exact .v _
   refine(callsIn_wide (n:=0)).1 (callsIn_of_wp_marks (F:=fen none) y b trivial (codeK_sound X W Y lf (ro:=none) (l:=none) c (O fn c y b) I rfl h ?_));intro e C M B' F' D w' o j;have fin:(match resultsE P fn C with | some s=>k s C.2 | none=>none)=some r→LeavesInM (fen none) 0 P fn D.tmps (Fin w0 m mem B F w k r) D.defers .returning w':=by
    intro h;cases f:resultsE P fn C with
    | none=>rw[f]at h;cases h
    | some s =>
     rw[f]at h;refine leaves (ne:=w.heap.size) f j.bd H.size (fun i q Z=>?_) rfl (fun x w2 hx J N L=>?_) D.defers j.defers j.mem j.tmps o.keep
     ·obtain⟨q',z⟩:=o.ext.old i q Z;rw[o.loc i ⟨_,z⟩];have t:=H.blk i _ z;exact t.lt rfl t.1
     ·exact⟨s,C.2,B',F',x,h,rfl,hx,J,⟨o.loc,o.fs,N,o.ext,o.fn⟩,L⟩
   cases e with
   | normal=>exact fin M
   | exit id=>cases M
   | ret=>exact fin M
  ·cases h
 ·cases h
def goK_sound[HasP]{nx:Bool}(hP:HasP.P=P){anns:FuncId→FA}{ls:Nat→FuncId→Sums}{dr:Draws ρ}(hd:DrawsOK ρ P G m dr){tab:Tab}(hG:∀ w w',G w→Below w.heap.size w w'→G w')(M:AnnsOK P G anns)(ht:TabOK P G tab)(lf:Nat)(L:SumsOK nx ρ P anns ls dr tab m lf):∀ n,CallK P G m (goK (ρ:=ρ) nx P anns ls dr tab m lf n)
 | 0=>fun tg u mem k r h=>by cases h
 | n+1=>fun tg u mem k r h w0 w B F vals hg hm z D Y=>by
  cases tg with
  | fn g =>
   simp only[goK]at h⊢;split at h
   ·rename_i s hs;split at h
    ·rename_i q hq;obtain⟨o,Q,h1,h2⟩:=resK_out q h;refine(M g s hs w0 m B F mem w u vals q o Q hq h1 hg hm z D Y).mono ?_;rintro e w' ⟨B',F',x,rfl,k1,k2,k3,k4⟩;exact⟨o,Q,B',F',x,h2,rfl,k1,k2,k3,k4⟩
    ·cases h
   split at h
   ·rename_i E X;have htab:=tabAt_some X;split at h
    ·rename_i x hx;obtain⟨y,hy,h⟩:=bd_some h;obtain⟨F1,k1,k2,k3,k4,k5,k6⟩:=frzs_sound z Y D;refine(ht g E htab x y hy F1 w vals (hG w0 w hg z.below) k1.fc (argsR_of hx k4)).mono ?_;rintro e w' ⟨v,rfl,hb,O⟩;cases T:E.rs.all flatT with
     | true =>
      rw[T]at h;exact⟨_,_,B,F,v,h,rfl,vr_of_resR (resR_flat T O),z.later' hb,⟨fun _ _=>rfl,fun _ H=>H,keepsF_below z.lt hb,Ext.refl _,fun _ H=>.inl H⟩,bd_resSV⟩
     | false =>
     rw[T]at h;refine⟨_,_,B,_,v,h,rfl,vr_of_resR O,k1.later hb,⟨fun _ _=>rfl,fun i H=>.inl (k2 i H),keepsF_below z.lt hb,k3,fun i H=>?_⟩,bd_resSV⟩;rcases H with H | ⟨H,_⟩
     ·exact k6 i H
     ·exact .inr (xL z.size H)
    ·cases h
   ·exact bodyK_sound hd (goK_sound hP hd hG M ht lf L n) (fun fn c h1 h2=>L n g fn c h1 h2) h hg hm z D Y
  | nilq t =>
   simp only[goK]at h;exact nilK_sound z Y h
  | nxt =>
   simp only[goK]at h;cases nx with
   | false=>cases h
   | true=>exact nextK_sound hm z D Y h
  | yld i =>
   intro j;simp only[goK]at h;split at h
   ·rename_i q hq;cases hc:(u.length==(rcodeP P q.g q.li).params.size&&yb m i)with
    | false=>rw[hc]at h;cases h
    | true =>
    rw[hc]at h;simp only[zm,beq_iff_eq,ux]at hc;simp only[cond_true]at h;obtain⟨hlen,U⟩:=hc;obtain⟨rec,g1,g2,g3,g4,g5,g6,g7,g8,g9,g10,g11,g12⟩:=z.recd U hq;have hrc:q.rc=rcodeP P q.g q.li:=by unfold Rnd.rc;rw[hP]
    have W:=rgOK_rc q.g q.li;rw[hP]at W;rw[hrc]at g4 g5 g6;refine⟨rec.fn,_,rec.assign,rec.body,run_yield g1 (by rw[g4,←hlen];simpa using Y.1.symm),?_⟩;refine roundIn_of_wpIn (F:=fen none) trivial ?_;rw[g5,g6];have hT:VRs B F w (setPs (rcodeP P q.g q.li).params.toList u q.tmps) ((rec.params.zip vals.toArray).foldl (fun t (p,v)=>t.setIfInBounds p v) rec.tmps).toList:=by
     have:=setPs_vrs (ps:=(rcodeP P q.g q.li).params.toList) Y g7;rw[g4,←Array.foldl_toList,Array.toList_zip];exact this
    have hR0:R w0 m w.heap.size (setPs (rcodeP P q.g q.li).params.toList u q.tmps,mem) B F { tmps:=(rec.params.zip vals.toArray).foldl (fun t (p,v)=>t.setIfInBounds p v) rec.tmps,defers:=[] } w :=
     ⟨hT,trivial,z,setPs_bd D (z.bd i _ hq),hm,za _⟩
    refine codeK_sound hd (goK_sound hP hd hG M ht lf L n) hg lf (ro:=some i) (l:=some (B i).blk) (rcodeP P q.g q.li).assign (lsOK_none _ _ W.1) hR0 ⟨rfl,j⟩ h ?_;intro e J K B1 F1 a1 w1 hn1 A;cases e with
    | exit id=>cases K
    | ret=>cases K
    | normal =>
     simp only at K;split at K
     ·rename_i q1 hq1;split at K
      ·rename_i hst;obtain⟨rec1,u1,u2,u3,u4,u5,u6,u7,u8,u9,u10,u11,u12⟩:=A.mem.recd U hq1;have S:(B1 i).blk=(B i).blk:=by rw[hn1.loc i j]
       rw[S]at u1 u10 u11 u12;have e3:rec1.pending=q1.pending:=u3;have hbusy:(Loop.mk .busy rec1.pending rec1.fn rec1.tmps rec1.params rec1.assign rec1.body rec1.defers)={ rec1 with state:=.busy }:=rfl;refine⟨_,run_beginRound u1 (u2.trans hst),?_⟩;have hs2:Ext J.2 (J.2.set i (some (.rnd { q1 with st:=.busy,pending:=q1.pending }))):=ext_set hq1 fun r _=>⟨q1,rfl⟩
       have I:=u12 .busy q1.pending;have N:=u10 .busy q1.pending;rw[←e3]at I N;have V:Nx w0 mem B F w (J.2.set i (some (.rnd { q1 with st:=.busy,pending:=rec1.pending }))) B1 F1 (w1.putObj (B i).blk (.loop { rec1 with state:=.busy })) :=
        hn1.trans ⟨fun _ _=>rfl,fun _ h=>h,I,by rw[e3];exact hs2,fun _ h=>.inl h⟩
       have hR2:R w0 m w.heap.size (J.1,J.2.set i (some (.rnd { q1 with st:=.busy,pending:=rec1.pending }))) B1 F1 a1 (w1.putObj (B i).blk (.loop { rec1 with state:=.busy })):=by
        refine⟨A.tmps.mono (fun _ h=>h) I.f,A.defers.mono I.d,N,fun s hs=>(A.bd s hs).mono (by rw[e3];exact hs2.live),?_,xL A.ne I.s⟩;simpa using A.le
       rw[←e3]at K;refine codeK_sound hd (goK_sound hP hd hG M ht lf L n) hg lf (ro:=some i) (l:=some (B i).blk) (rcodeP P q.g q.li).body (lsOK_none _ _ W.2) hR2 ⟨by rw[S],V.ext.live i j⟩ K ?_;intro e2 Z C B2 F2 a2 w2 hn3 hR3;simp only at C;split at C
       ·rename_i q2 hq2;obtain⟨rec2,v1,v2,v3,v4,v5,v6,v7,v8,v9,v10,v11,v12⟩:=hR3.mem.recd U hq2;have hB2:(B2 i).blk=(B i).blk:=by rw[hn3.loc i (V.ext.live i j),S]
        rw[hB2]at v1 v10 v11 v12;have fin:∀ (b:Bool) (a:Option Code),k (.v (.bool b)) (Z.2.set i (some (.rnd { q2 with st:=if a.isNone then .ready else .done,pending:=a })))=some r→b=a.isNone→
          ∃ v w',(Instr.endRound (B i).blk a).run P w2=.ok v w'∧Fin w0 m mem B F w k r (.returned v) w':=by
         intro b a hkk hbj;refine⟨_,_,run_endRound a v1,?_⟩;have hs4:Ext Z.2 (Z.2.set i (some (.rnd { q2 with st:=if a.isNone then .ready else .done,pending:=a }))):=ext_set hq2 fun r _=>⟨q2,rfl⟩
         exact⟨_,_,B2,F2,_,hkk,rfl,by rw[hbj];exact .v _,v10 _ _,(V.trans hn3).trans ⟨fun _ _=>rfl,fun _ h=>h,v12 _ _,hs4,fun _ h=>.inl h⟩,.v _⟩
        cases e2 with
        | normal=>exact fin true none C rfl
        | exit id=>exact fin false (some (.exit id)) C rfl
        | ret=>exact fin false (some .ret) C rfl
       ·cases C
      ·cases K
     ·cases K
   ·cases h
end
end Go.Q
namespace Go.Rx
open Go Go.RowKit
def predsOf(o:Oper):List Nat:=(o.after.toList.filter (fun e=>Region.binds .any e)).map (·.on)
def maskOf(M:List Nat)(ps:List Nat):Nat:=ps.foldr (fun p s=>(2 ^ p ||| M.getD p 0) ||| s) 0
def masks:List Oper→List Nat→List Nat
 | [],M=>M
 | o::os,M=>masks os (M++[maskOf M (predsOf o)])
def testBit_maskOf(M:List Nat)(j:Nat):∀ ps:List Nat,(maskOf M ps).testBit j=true↔∃ p∈ps,p=j∨(M.getD p 0).testBit j=true
 | []=>by simp[maskOf]
 | p::ps=>by
  have b:=testBit_maskOf M j ps;have e:maskOf M (p::ps)=(2 ^ p ||| M.getD p 0) ||| maskOf M ps:=rfl;rw[e,Nat.testBit_or,Nat.testBit_or,Nat.testBit_two_pow];simp only[se,decide_eq_true_eq,b,ww];constructor
  ·rintro ((h | h) | ⟨q,a,h⟩)
   ·exact⟨p,.inl rfl,.inl h⟩
   ·exact⟨p,.inl rfl,.inr h⟩
   ·exact⟨q,.inr a,h⟩
  ·rintro ⟨q,rfl | a,h⟩
   ·exact .inl h
   ·exact .inr ⟨q,a,h⟩
def Closed(ops:Array Oper)(S:Nat→Prop):Prop:=∀ i o,ops[i]? = some o→S i→∀ p∈predsOf o,S p
section
variable {P:Program}{G:World→Prop}{tab:TabK}{m:Nat}{w0:World}
def pureE_congr{ts ts2:List Value}{o:Oper}(h:∀ x∈o.op.operands,ev ts2 x=ev ts x):pureE P ts2 o=pureE P ts o:=by
 unfold pureE;have d:o.op.operands.toList.all (fun x=>okOp x&&free (ev ts2 x))=o.op.operands.toList.all (fun x=>okOp x&&free (ev ts x)):=by
  rw[mw];simp only[ym];exact⟨fun k x a=>by rw[←h x (by simpa using a)];exact k x a,fun k x a=>by rw[h x (by simpa using a)];exact k x a⟩
 rw[d];cases c:isSel o.op with
 | true=>simp
 | false =>
  have:=execOp_congr o (ρ:=ev ts2) (ρ':=ev ts) (fun f b e=>by rw[e]at c;simp[isSel]at c) h;rw[this]
def partE_congr{ts ts2:List Value}{o:Oper}(h:∀ x∈o.op.operands,ev ts2 x=ev ts x):partE P ts2 o=partE P ts o:=by
 unfold partE;split
 ·rename_i t x d a;rw[h x (by rw[a];simp[ya]),h d (by rw[a];simp[ya])]
 ·rename_i op t x y e a;rw[h x (by rw[a];simp[ya]),h y (by rw[a];simp[ya])]
 ·rename_i t x lo hi a;have b:evI ts2 lo=evI ts lo:=by
   cases lo with
   | none=>rfl
   | some l=>simp only[evI,h l (by rw[a];simp[ya])]
  have c:evI ts2 hi=evI ts hi:=by
   cases hi with
   | none=>rfl
   | some l=>simp only[evI,h l (by rw[a];simp[ya])]
  rw[h x (by rw[a];simp[ya]),b,c]
 ·rfl
end
end Go.Rx
namespace Go.Q
open Go Go.RowKit
open Go.Rx (br bd br_eq bd_eq bd_some entB enters_of_entB predsOf maskOf masks testBit_maskOf Closed)
def br_nat{α β:Type}(b:Bool)(x y:Option α)(f:α→Option β):(br b x y).bind f=br b (x.bind f) (y.bind f):=Rx.br_bind b x y f
def bd_nat{γ α β:Type}(x:Option γ)(g:γ→Option α)(f:α→Option β):(bd x g).bind f=bd x fun y=>(g y).bind f:=Rx.bd_bind x g f
def bif_bind{α β:Type}(c:Bool)(x y:Option α)(f:α→Option β):(bif c then x else y).bind f=bif c then x.bind f else y.bind f:=by cases c<;>rfl
abbrev OracleP:=(ρ:Type)→Oracle ρ
abbrev DrawsP:=(ρ:Type)→Draws ρ
def NatO(call:OracleP):Prop:=∀ (ρ:Type) tg args mem (k:KO ρ),call ρ tg args mem k=(call (SV×Mem) tg args mem fun s m=>some (s,m)).bind fun p=>k p.1 p.2
def NatD(b:DrawsP):Prop:=∀ (ρ:Type) ops a (k:KS ρ),b ρ ops a k=(b St ops a fun a=>some a).bind k
section
variable {P:Program}{m:Nat}{ρ:Type}
def natO_use{call:OracleP}(h:NatO call)(c:Tg)(a:List SV)(mem:Mem){α:Type}(b:KO α)(f:α→Option ρ):call ρ c a mem (fun s m=>(b s m).bind f)=(call α c a mem b).bind f:=by
 rw[h ρ,h α,il]
def resK_nat{α:Type}(q:Res)(d:KO α)(f:α→Option ρ):resK q (fun s m=>(d s m).bind f)=(resK q d).bind f:=by
 induction q with
 | det s mem=>rfl
 | part α x out=>simp only[resK];rw[bd_nat]
 | alt c x y a b=>simp only[resK];rw[br_nat,a,b]
 | bnd α x out e=>simp only[resK,e];rw[bd_nat]
def altK_nat{α:Type}(d:KE α)(f:α→Option ρ):∀ (q:Alt),altK (fun e s=>(d e s).bind f) q=(altK d q).bind f
 | .one e g=>rfl
 | .two c a b=>by simp only[altK];rw[br_nat,altK_nat d f a,altK_nat d f b]
def opK_nat(ts:List SV)(mem:Mem)(o:Oper){α:Type}(a:KO α)(f:α→Option ρ):opK P m ts mem o (fun s m=>(a s m).bind f)=(opK P m ts mem o a).bind f:=by
 unfold opK;split
 ·rw[br_nat]
 ·split
  ·rename_i q _;exact resK_nat q a f
  ·split
   ·rename_i q _;exact resK_nat q a f
   ·rfl
def evalOpK_nat{call:OracleP}(h:NatO call)(o:Oper)(b:St){α:Type}(d:KS α)(f:α→Option ρ):evalOpK P (call ρ) m o b (fun s=>(d s).bind f)=(evalOpK P (call α) m o b d).bind f:=by
 unfold evalOpK;cases isDefer o.op with
 | true=>rfl
 | false =>
  simp only[cond_false];split
  ·rename_i g c _;cases okTg P g with
   | false=>rfl
   | true =>
    simp only[cond_true];exact natO_use h g c b.2 (fun s a=>d (putL b.1 o.dst s,a)) f
  ·exact opK_nat b.1 b.2 o (fun s a=>d (putL b.1 o.dst s,a)) f
def wantK_nat(ops:Array Oper)(a:St)(o:Oper){α:Type}(x y:KS α)(f:α→Option ρ):wantK ops a o (fun s=>(x s).bind f) (fun s=>(y s).bind f)=(wantK ops a o x y).bind f:=by
 unfold wantK;split
 ·rfl
 ·split
  ·rfl
  ·split
   ·rfl
   ·split
    ·split
     ·rw[br_nat,bif_bind,bif_bind]
     ·rfl
    ·rfl
def evalIdxK_nat{call:OracleP}(h:NatO call)(ops:Array Oper){α:Type}(f:α→Option ρ):∀ (e:List Nat) (b:St) (a:KS α),evalIdxK P (call ρ) m ops e b (fun s=>(a s).bind f)=(evalIdxK P (call α) m ops e b a).bind f
 | [],b,a=>rfl
 | i::rest,b,a=>by
  simp only[evalIdxK];split
  ·exact evalIdxK_nat h ops f rest b a
  ·rename_i o _;rw[←wantK_nat];congr 1
   ·funext c
    rw[←evalOpK_nat h];congr 1
    funext d
    exact evalIdxK_nat h ops f rest d a
   ·funext c
    exact evalIdxK_nat h ops f rest _ a
def iterK_nat{nrm b:St→St}{d:St→KE ρ→Option ρ}{α:Type}{g:St→KE α→Option α}(h:∀ c (a:KE α) (f:α→Option ρ),d c (fun e s=>(a e s).bind f)=(g c a).bind f)(f:α→Option ρ):
  ∀ (n:Nat) (c:St) (a:KE α),iterK nrm b d n c (fun e s=>(a e s).bind f)=(iterK nrm b g n c a).bind f
 | 0,c,a=>rfl
 | n+1,c,a=>by
  simp only[iterK];rw[←h];congr 1
  funext e i
  cases e with
  | normal=>exact iterK_nat h f n _ a
  | exit id=>rfl
  | ret=>rfl
def codeK_nat{p:DrawsP}(u:NatD p){call:OracleP}(h:NatO call){g:FuncId}{k:Ann}{ls:Sums}{lf:Nat}{ro:Option Nat}{α:Type}:∀ (c:Code) (d:Nat) (b:St) (a:KE α) (f:α→Option ρ),
  codeK P g k ls (p ρ) (call ρ) m lf ro d c b (fun e s=>(a e s).bind f)=(codeK P g k ls (p α) (call α) m lf ro d c b a).bind f:=by
 intro c
 induction c with
 | skip=>intro d b a f;rfl
 | label l=>intro d b a f;rfl
 | exit id=>intro d b a f;rfl
 | ret=>intro d b a f;rfl
 | region id ops n =>
  intro d b a f;cases n with
  | true =>
   simp only[codeK,cond_true];rw[u ρ,u α,il]
  | false=>exact evalIdxK_nat h ops f _ b (a .normal)
 | seq x y i j =>
  intro d b a f;simp only[codeK];rw[←i];congr 1
  funext e t
  cases e with
  | normal=>exact j _ _ _ _
  | exit id=>rfl
  | ret=>rfl
 | cond c x y i j =>
  intro d b a f;simp only[codeK];cases okOp c with
  | false=>rfl
  | true =>
   simp only[cond_true];split
   ·rw[br_nat,i,j]
   ·rfl
 | block id body r =>
  intro d b a f;simp only[codeK];rw[←r];congr 1
  funext e t
  cases e with
  | normal=>rfl
  | exit q=>simp only;cases q==id<;>rfl
  | ret=>rfl
 | loop body r =>
  intro d b a f;simp only[codeK];split
  ·rw[bd_nat];congr 1;funext y;exact altK_nat a f _
  ·exact iterK_nat (fun b a f=>r _ b a f) f lf _ a
 | rangeFunc w ps o body z A =>
  intro d b a f;simp only[codeK];cases (okOp w&&inRnd b.2 ro)with
  | false=>rfl
  | true =>
   simp only[cond_true];split
   ·rename_i g first cap _
    cases entB P g with
    | false=>rfl
    | true =>
     simp only[cond_true];rw[←natO_use h];congr 1
     funext s v
     split
     ·split<;>rfl
     ·rfl
   ·rfl
 | _=>intro d b a f;rfl
def goK_nat{f:DrawsP}(b:NatD f){anns:FuncId→FA}{ls:Nat→FuncId→Sums}{tab:Tab}{lf:Nat}:∀ n,NatO (fun ρ=>goK (ρ:=ρ) false P anns ls (f ρ) tab m lf n)
 | 0=>fun ρ h a mem k=>rfl
 | n+1=>fun ρ h a mem k=>by
  have d:=goK_nat b (anns:=anns) (ls:=ls) (tab:=tab) (lf:=lf) n;cases h with
  | fn g =>
   simp only[goK,bodyK];split
   ·split
    ·rename_i q _;exact resK_nat q (fun s m=>some (s,m)) (fun p=>k p.1 p.2)
    ·rfl
   split
   ·split
    ·rw[bd_nat];rfl
    ·rfl
   ·split
    ·split
     ·rename_i fn _ c _;rw[←codeK_nat b d];congr 1
      funext e r
      cases e with
      | normal=>simp only;split<;>rfl
      | exit id=>rfl
      | ret=>simp only;split<;>rfl
     ·rfl
    ·rfl
  | yld i =>
   simp only[goK];split
   ·rename_i q _;cases (a.length==(rcodeP P q.g q.li).params.size&&yb m i)with
    | false=>rfl
    | true =>
     simp only[cond_true];rw[←codeK_nat b d];congr 1
     funext e l
     cases e with
     | exit id=>rfl
     | ret=>rfl
     | normal =>
      simp only;split
      ·split
       ·rw[←codeK_nat b d];congr 1
        funext j o
        split
        ·cases j<;>rfl
        ·rfl
       ·rfl
      ·rfl
   ·rfl
  | nxt=>rfl
  | nilq t =>
   simp only[goK,nilK];split
   ·split
    ·simp only[cond_false];rw[br_nat];rfl
    ·rfl
   ·rfl
end
inductive Ac where
 | no
 | blk (b:Nat) (w:Bool)
 | grow (n k:Nat)
 | app (b:Option Nat) (n k:Nat)
 | ins (b:Nat)
deriving DecidableEq
def Ac.wr:Ac→Nat→Bool
 | .no,_=>false
 | .blk b x,c=>b==c&&x
 | .grow n k,c=>yb n c&&y9 c (n+k)
 | .app b n k,c=>b==some c||(yb n c&&y9 c k)
 | .ins b,c=>b==c
def Ac.isIns:Ac→Nat→Bool
 | .ins b,c=>b==c
 | _,_=>false
def clash(ops:Array Oper)(e a:Oper)(f g:Ac):Bool :=
  (match e.dst with
   | some d=>(a.looksAt ops).contains d||a.dst==some d
   | none=>false) ||
  (match a.dst with
   | some d=>(e.looksAt ops).contains d
   | none=>false) ||
  (match f,g with
   | .blk b x,.blk c y=>b==c&&(x||y)
   | .grow n k,.blk c y=>(y9 c n&&y)||(yb n c&&y9 c (n+k))
   | .blk b _,.grow n k=>yb n b&&y9 b (n+k)
   | .grow n k,.grow n' _=>y9 n' (n+k)
   | .app b n k,.blk c y=>y||(b==some c||(yb n c&&y9 c k))
   | .blk c y,.app b n k=>y||(b==some c||(yb n c&&y9 c k))
   | .app _ _ _,.grow _ _=>true
   | .grow _ _,.app _ _ _=>true
   | .app _ _ _,.app _ _ _=>true
   | .ins b,.blk c _=>b==c
   | .blk c _,.ins b=>b==c
   | .ins b,.grow n k=>yb n b&&y9 b (n+k)
   | .grow n k,.ins b=>y9 b (n+k)
   | .ins _,.app _ _ _=>true
   | .app _ _ _,.ins _=>true
   | _,_=>false)
def chkOrd(ops:Array Oper)(a:List Ac)(M:List Nat):Bool :=
 let n:=ops.size
 a.length==n&&M.length==n&&Region.noSelect ops &&
 (xx n).all fun j=>match ops[j]?,a[j]? with
  | some oj,some aj=>M.getD j 0==maskOf M (predsOf oj)&&(predsOf oj).all (· < j) &&
   (xx j).all fun i=>match ops[i]?,a[i]? with
    | some oi,some ai=>!clash ops oi oj ai aj||(M.getD j 0).testBit i
    | _,_=>false
  | _,_=>false
def clash_l{ops:Array Oper}{d e:Oper}{a:Ac}{b:Nat}{x:Bool}(h:a.wr b=true):clash ops e d a (.blk b x)=true:=by
 unfold clash;cases a with
 | no=>cases h
 | blk c y=>simp only[Ac.wr,zm,beq_iff_eq]at h;simp[h.1,h.2]
 | grow n k=>simp only[Ac.wr]at h;simp only[h,pH]
 | app b' n k=>simp only[Ac.wr]at h;simp only[h,pH]
 | ins c=>simp only[Ac.wr]at h;simp only[h,pH]
def clash_r{ops:Array Oper}{d e:Oper}{a:Ac}{b:Nat}{x:Bool}(h:a.wr b=true):clash ops d e (.blk b x) a=true:=by
 unfold clash;cases a with
 | no=>cases h
 | blk c y=>simp only[Ac.wr,zm,beq_iff_eq]at h;simp[h.1,h.2]
 | grow n k=>simp only[Ac.wr]at h;simp only[h,pH]
 | app b' n k=>simp only[Ac.wr]at h;simp only[h,pH]
 | ins c=>simp only[Ac.wr,beq_iff_eq]at h;subst h;simp
def clash_g{ops:Array Oper}{j l:Oper}{a:Ac}{b n k:Nat}(h:a.wr b=true)(d:b < n+k):clash ops j l (.grow n k) a=true:=by
 unfold clash;cases a with
 | no=>cases h
 | blk c y =>
  simp only[Ac.wr,zm,beq_iff_eq]at h;obtain⟨rfl,rfl⟩:=h;by_cases g:c < n
  ·simp[g]
  ·have f:n≤c:=ω;simp[f,d]
 | grow e i =>
  simp only[Ac.wr,zm,ux]at h;have:e < n+k:=ω;simp[this]
 | app b' e i=>simp
 | ins c=>simp only[Ac.wr,beq_iff_eq]at h;subst h;simp[d]
def clash_al{ops:Array Oper}{d e:Oper}{a:Ac}{b n k:Nat}{b':Option Nat}(h:a.wr b=true):clash ops e d a (.app b' n k)=true:=by
 unfold clash;cases a with
 | no=>cases h
 | blk c y=>simp only[Ac.wr,zm,beq_iff_eq]at h;simp[h.2]
 | _=>simp
def clash_ar{ops:Array Oper}{d e:Oper}{a:Ac}{b n k:Nat}{b':Option Nat}(h:a.wr b=true):clash ops d e (.app b' n k) a=true:=by
 unfold clash;cases a with
 | no=>cases h
 | blk c y=>simp only[Ac.wr,zm,beq_iff_eq]at h;simp[h.2]
 | _=>simp
structure Ord(ops:Array Oper)(acs:List Ac)(M:List Nat):Prop where
 la:acs.length=ops.size
 mask:∀ j o,ops[j]? = some o→M.getD j 0=maskOf M (predsOf o)
 lt:∀ j o,ops[j]? = some o→∀ p∈predsOf o,p < j
 sep:∀ i j oi oj ai aj,i < j→ops[i]? = some oi→ops[j]? = some oj→acs[i]? = some ai→acs[j]? = some aj→clash ops oi oj ai aj=true→(M.getD j 0).testBit i=true
 nosel:Region.noSelect ops=true
def ord_of_chk{ops:Array Oper}{a:List Ac}{M:List Nat}(h:chkOrd ops a M=true):Ord ops a M:=by
 unfold chkOrd at h;simp only[zm,beq_iff_eq,ym,tG]at h;obtain⟨⟨⟨u,B⟩,v⟩,w⟩:=h;have key:∀ j e,ops[j]? = some e→∃ k,a[j]? = some k∧(M.getD j 0=maskOf M (predsOf e)∧∀ p∈predsOf e,p < j)∧
   ∀ i,i < j→∀ g f,ops[i]? = some g→a[i]? = some f→clash ops g e f k=true→(M.getD j 0).testBit i=true:=by
  intro j e c;have r:j < ops.size:=(uE.1 c).1;have:=w j r;have s:a[j]? = some a[j]:=zP ω;rw[c,s]at this;simp only[zm,beq_iff_eq,ym,tG,decide_eq_true_eq]at this;obtain⟨⟨y,z⟩,A⟩:=this;refine⟨_,s,⟨y,z⟩,fun i n g f x d m=>?_⟩;have:=A i n;rw[x,d]at this;simpa [m]using this
 refine⟨u,fun j o c=>?_,fun j o c=>?_,fun i j g e f k q n c d l m=>?_,v⟩
 ·obtain⟨_,_,h,_⟩:=key j o c;exact h.1
 ·obtain⟨_,_,h,_⟩:=key j o c;exact h.2
 ·obtain⟨t,b,_,h⟩:=key j e c;rw[l]at b;cases b;exact h i q g f n d m
def Ord.closed{ops:Array Oper}{f:List Ac}{M:List Nat}(h:Ord ops f M){S:Nat→Prop}(k:Closed ops S):∀ (n j:Nat) (o:Oper),j≤n→ops[j]? = some o→(∀ p∈predsOf o,S p)→∀ i,(M.getD j 0).testBit i=true→S i:=by
 intro n
 induction n with
 | zero =>
  intro j o l d g i b;rw[h.mask j o d,testBit_maskOf]at b;obtain⟨p,a,_⟩:=b;have:=h.lt j o d p a;omega
 | succ n r =>
  intro j o l d g i b;rw[h.mask j o d,testBit_maskOf]at b;obtain⟨p,a,e | b⟩:=b
  ·subst e;exact g p a
  ·have q:=h.lt j o d p a;cases c:ops[p]? with
   | none =>
    have m:j < ops.size:=(uE.1 d).1;rw[kA]at c;omega
   | some op=>exact r p op ω c (k p op c (g p a)) i b
def get2(mem:Mem)(b:Nat):Option Blk:=(mem[b]?).join
def get2_some{mem:Mem}{b:Nat}{x:Blk}:get2 mem b=some x↔mem[b]? = some (some x):=by
 unfold get2;cases mem[b]? with
 | none=>simp
 | some y=>cases y<;>simp
def liveB(mem:Mem)(i:Nat):Bool:=(get2 mem i).isSome
def bdM(mem:Mem):Nat→SV→Bool
 | _,.v _=>true
 | _,.any=>true
 | _,.sl _ _=>true
 | _,.ep _ _ _=>true
 | _,.ptr b _=>liveB mem b
 | _,.row b=>liveB mem b
 | _,.yld b=>liveB mem b
 | _,.rp b _ _ _=>liveB mem b
 | _,.part b _ _ _=>liveB mem b
 | _,.mp b=>liveB mem b
 | _,.csl b _ _=>liveB mem b
 | _,.ptc b _ _ _=>liveB mem b
 | d+1,.agg cs=>cs.all (bdM mem d)
 | d+1,.tup cs=>cs.all (bdM mem d)
 | d+1,.fn _ f c=>f.all (bdM mem d)&&c.all (bdM mem d)
 | _,_=>false
def bdM_spec{mem:Mem}:∀ (d:Nat) (s:SV),bdM mem d s=true→Bd (Live mem) s:=by
 have a:∀ {i:Nat},liveB mem i=true→Live mem i:=fun h=>by
  unfold liveB at h;obtain⟨b,q⟩:=kI.1 h;exact⟨b,get2_some.1 q⟩
 intro d
 induction d with
 | zero =>
  intro s h;cases s with
  | v x=>exact .v x
  | any=>exact .any
  | sl T l=>exact .sl
  | ep T x o=>exact .ep
  | ptr b o=>exact .ptr (a h)
  | row b=>exact .row (a h)
  | yld b=>exact .yld (a h)
  | rp b i n o=>exact .rp (a h)
  | part b m n k=>exact .part (a h)
  | mp b=>exact .mp (a h)
  | csl b n k=>exact .csl (a h)
  | ptc b m n k=>exact .ptc (a h)
  | _=>cases h
 | succ d j =>
  intro s h;cases s with
  | v x=>exact .v x
  | any=>exact .any
  | sl T l=>exact .sl
  | ep T x o=>exact .ep
  | ptr b o=>exact .ptr (a h)
  | row b=>exact .row (a h)
  | yld b=>exact .yld (a h)
  | rp b i n o=>exact .rp (a h)
  | part b m n k=>exact .part (a h)
  | mp b=>exact .mp (a h)
  | csl b n k=>exact .csl (a h)
  | ptc b m n k=>exact .ptc (a h)
  | agg p=>simp only[bdM,ym]at h;exact .agg fun s e=>j s (h s e)
  | tup p=>simp only[bdM,ym]at h;exact .tup fun s e=>j s (h s e)
  | fn g f c=>simp only[bdM,zm,ym]at h;exact .fn (fun s e=>j s (h.1 s e)) (fun s e=>j s (h.2 s e))
def maskM(a:List Nat)(mem:Mem):Mem:=a.foldl (fun m b=>m.set b none) mem
def closedB(mem:Mem):Bool:=mem.all fun b=>match b with
 | some b=>b.refs.all (bdM mem 5)
 | none=>true
def maskM_get(bad:List Nat):∀ (mem:Mem) (b:Nat) (x:Blk),(maskM bad mem)[b]? = some (some x)→mem[b]? = some (some x)∧b∉bad:=by
 induction bad with
 | nil=>intro mem b x h;exact⟨h,ψ⟩
 | cons c bad g =>
  intro mem b x h;simp only[maskM,tf]at h;obtain⟨a,f⟩:=g (mem.set c none) b x h;rw[yd]at a;by_cases e:c=b
  ·rw[gT e]at a;split at a<;>cases a
  ·rw[gR e]at a;exact⟨a,by simp;exact⟨fun d=>e d.symm,f⟩⟩
def maskM_len(a:List Nat):∀ (mem:Mem),(maskM a mem).length=mem.length:=by
 induction a with
 | nil=>intro mem;rfl
 | cons c a b=>intro mem;simp only[maskM,tf];have:=b (mem.set c none);simp only[maskM]at this;rw[this];simp
def rowsC:SV→List Nat
 | .row b=>[b]
 | _=>[]
def rowsOf:SV→List Nat
 | .agg a=>a.flatMap rowsC
 | s=>rowsC s
def rowsAll(ss:List SV):List Nat:=ss.flatMap rowsOf
def ptrB:SV→Option Nat
 | .ptr b _=>some b
 | .rp b _ _ _=>some b
 | .row b=>some b
 | .part b _ _ _=>some b
 | .mp b=>some b
 | _=>none
def isBar:Op→Bool
 | .makeMap _ none=>true
 | .insert _ _ _ _=>true
 | .mapUpdate _ _ _ _=>true
 | .mapEntry _ _ _=>true
 | .entryStore _ _ _ _=>true
 | .call ⟨.builtin .append,⟨[_,_]⟩,⟨[_,_]⟩⟩=>true
 | .call ⟨.builtin .copy,⟨[_,_]⟩,⟨[_,_]⟩⟩=>true
 | _=>false
def barB(ts:List SV)(o:Oper):Option Nat:=match o.op with
 | .insert _ x _ _=>ptrB (ev ts x)
 | .mapUpdate _ x _ _=>ptrB (ev ts x)
 | .mapEntry _ x _=>ptrB (ev ts x)
 | .entryStore _ x _ _=>ptrB (ev ts x)
 | .call ⟨.builtin .append,⟨[x,_]⟩,⟨[_,_]⟩⟩=>ptrB (ev ts x)
 | .call ⟨.builtin .copy,⟨[x,_]⟩,⟨[_,_]⟩⟩=>ptrB (ev ts x)
 | _=>none
def isNew:Op→Bool
 | .alloc _=>true
 | .box _ _=>true
 | .makeSlice _ _ _=>true
 | .buildSlice _ _ _=>true
 | .makeMap _ _=>true
 | .insert _ _ _ _=>true
 | .mapUpdate _ _ _ _=>true
 | .mapEntry _ _ _=>true
 | .entryStore _ _ _ _=>true
 | .call ⟨.builtin .append,_,_⟩=>true
 | .call ⟨.builtin .copy,_,_⟩=>true
 | _=>false
def acR(s:SV):Ac:=match ptrB s with
 | some b=>.blk b false
 | none=>.no
def acW(s:SV):Ac:=match ptrB s with
 | some b=>.blk b true
 | none=>.no
def acOf(ts:List SV)(o:Oper):Ac :=
 match o.op with
 | .load _ x=>acR (ev ts x)
 | .store _ x _=>acW (ev ts x)
 | .indexAddr _ x _=>acR (ev ts x)
 | .slice _ x _ _ _=>acR (ev ts x)
 | .convert _ _ x=>acR (ev ts x)
 | .lookup _ x _ _=>acR (ev ts x)
 | .call ⟨.builtin .len,⟨[x]⟩,_⟩=>acR (ev ts x)
 | _=>.no
def Res.map(f:Mem→Mem):Res→Res
 | .det s mem=>.det s (f mem)
 | .part α x out=>.part α x fun y=>((out y).1,f (out y).2)
 | .alt c x y=>.alt c (x.map f) (y.map f)
 | .bnd α x out=>.bnd α x fun y=>(out y).map f
def addL(a b:Option Blk):Option Blk:=match a,b with
 | some (.map k es _),some (.map _ es' _)=>match es'.getLast? with
  | some e=>some (.map k (es++[e]) (es.length+1))
  | none=>a
 | _,_=>a
def upM(mem2 a:Mem)(ac:Ac):Mem:=match ac with
 | .blk b true=>mem2.set b (get2 a b)
 | .grow n k=>(xx mem2.length).map fun b=>bif yb n b&&y9 b (n+k)then get2 a b else get2 mem2 b
 | .app _ _ _=>a++xS (mem2.length-a.length) none
 | .ins b=>mem2.set b (addL (get2 mem2 b) (get2 a b))
 | _=>mem2
section
variable {P:Program}{m:Nat}
def vals_ops{ts ts2:List SV}{o:Oper}(h:∀ x∈o.op.operands,ev ts2 x=ev ts x):∀ x∈o.op.operands,Rx.ev (vals ts2) x=Rx.ev (vals ts) x:=by
 intro x c;cases x with
 | tmp t =>
  have:=h _ c;simp only[ev,vf]at this;simp only[Rx.ev,vals,vf,yz];cases b:ts2[t]? with
  | none =>
   rw[b]at this;cases a:ts[t]? with
   | none=>rfl
   | some s=>rw[a]at this;simp at this;subst this;rfl
  | some s =>
   rw[b]at this;cases a:ts[t]? with
   | none=>rw[a]at this;simp at this;subst this;rfl
   | some d=>rw[a]at this;simp at this;subst this;rfl
 | _=>rfl
def flatOps_ops{ts ts2:List SV}{o:Oper}(h:∀ x∈o.op.operands,ev ts2 x=ev ts x):flatOps ts2 o=flatOps ts o:=by
 unfold flatOps;congr 1;rw[mw];simp only[ym];have key:∀ x∈o.op.operands.toList,(match x with
   | .tmp t=>match toV 4 (ts2.getD t .any)with
    | some v=>Rx.free v
    | none=>false
   | .const _=>true
   | _=>false)=(match x with
   | .tmp t=>match toV 4 (ts.getD t .any)with
    | some v=>Rx.free v
    | none=>false
   | .const _=>true
   | _=>false):=by
  intro x a;cases x with
  | tmp t =>
   have e:ts2.getD t .any=ts.getD t .any:=h (.tmp t) (by simpa using a);simp only[e]
  | _=>rfl
 exact⟨fun k x a=>(key x a).symm.trans (k x a),fun k x a=>(key x a).trans (k x a)⟩
def evI_ops{ts ts2:List SV}{x:Option Operand}(h:∀ y,x=some y→ev ts2 y=ev ts y):evI ts2 x=evI ts x:=by
 cases x with
 | none=>rfl
 | some y=>simp only[evI,h y rfl]
def flatE_ops{ts ts2:List SV}{mem mem2:Mem}{o:Oper}(h:∀ x∈o.op.operands,ev ts2 x=ev ts x):flatE P ts2 mem2 o=(flatE P ts mem o).map (Res.map fun _=>mem2):=by
 unfold flatE;rw[flatOps_ops h];split
 ·rw[Rx.partE_congr (P:=P) (vals_ops h),Rx.pureE_congr (P:=P) (vals_ops h)];split
  ·rfl
  ·split<;>rfl
 ·rfl
end
section
variable {P:Program}{m:Nat}
def get2_cases{mem mem2:Mem}{b:Nat}(h:get2 mem2 b=get2 mem b):(∃ x,mem[b]? = some (some x)∧mem2[b]? = some (some x))∨((mem[b]? = none∨mem[b]? = some none)∧(mem2[b]? = none∨mem2[b]? = some none)):=by
 unfold get2 at h;cases c:mem[b]? with
 | none =>
  rw[c]at h;cases a:mem2[b]? with
  | none=>exact .inr ⟨.inl rfl,.inl rfl⟩
  | some y=>cases y with
   | none=>exact .inr ⟨.inl rfl,.inr rfl⟩
   | some y=>rw[a]at h;cases h
 | some x =>
  rw[c]at h;cases a:mem2[b]? with
  | none=>rw[a]at h;cases x with
   | none=>exact .inr ⟨.inr rfl,.inl rfl⟩
   | some x=>cases h
  | some y =>
   rw[a]at h;cases x with
   | none=>cases y with
    | none=>exact .inr ⟨.inr rfl,.inr rfl⟩
    | some y=>cases h
   | some x=>cases y with
    | none=>cases h
    | some y=>cases h;exact .inl ⟨_,rfl,rfl⟩
def loadE_local{mem mem2:Mem}{t:TypeId}{s:SV}(h:∀ b,ptrB s=some b→get2 mem2 b=get2 mem b):loadE P mem2 t s=(loadE P mem t s).map (Res.map fun _=>mem2):=by
 unfold loadE;split
 ·split
  ·rename_i b o;rcases get2_cases (h b rfl)with⟨x,h1,h2⟩ | ⟨h1 | h1,h2 | h2⟩<;>simp only[h1,h2]
   ·cases x with
    | cells a t=>simp only[nj];rfl
    | _=>rfl
   all_goals rfl
  ·rename_i T x o;simp only[nj];rfl
  ·rename_i b i c o;rcases get2_cases (h b rfl)with⟨x,h1,h2⟩ | ⟨h1 | h1,h2 | h2⟩<;>simp only[h1,h2]
   ·cases x with
    | row T l t fz=>simp only;split<;>rfl
    | _=>rfl
   all_goals rfl
  ·rfl
 ·rfl
def storeE_local{mem mem2:Mem}{t:TypeId}{s v:SV}(h:∀ b,ptrB s=some b→get2 mem2 b=get2 mem b):storeE P m mem2 t s v=(storeE P m mem t s v).map (Res.map fun c=>match ptrB s with
  | some b=>mem2.set b (get2 c b)
  | none=>mem2):=by
 unfold storeE;split
 ·split
  ·split
   ·rename_i b o;rcases get2_cases (h b rfl)with⟨x,h1,h2⟩ | ⟨h1 | h1,h2 | h2⟩<;>simp only[h1,h2]
    ·cases x with
     | cells d t =>
      simp only;split
      ·have a:=(y6.1 h1).1;simp only[wj,Res.map,ptrB];congr 3
       symm
       rw[get2_some,yd];simp[a]
      ·rfl
     | _=>rfl
    all_goals rfl
   ·rename_i b i e o;rcases get2_cases (h b rfl)with⟨x,h1,h2⟩ | ⟨h1 | h1,h2 | h2⟩<;>simp only[h1,h2]
    ·cases x with
     | row T l t fz =>
      cases fz with
      | true=>rfl
      | false =>
       simp only;split
       ·have a:=(y6.1 h1).1;simp only[wj,Res.map,ptrB];congr 2
        funext y
        congr 2
        symm
        rw[get2_some,yd];simp[a]
       ·rfl
     | _=>rfl
    all_goals rfl
   ·rfl
  ·rfl
 ·rfl
def indexAddrE_local{mem mem2:Mem}{t:TypeId}{s a:SV}(h:∀ b,ptrB s=some b→get2 mem2 b=get2 mem b):indexAddrE P mem2 t s a=(indexAddrE P mem t s a).map (Res.map fun _=>mem2):=by
 unfold indexAddrE;split
 ·split
  ·split
   ·split<;>rfl
   ·rfl
  ·rename_i b;rcases get2_cases (h b rfl)with⟨x,h1,h2⟩ | ⟨h1 | h1,h2 | h2⟩<;>simp only[h1,h2]
   ·split
    ·simp_all
     split<;>rfl
    ·rfl
   all_goals (split<;>first | rfl | (simp_all;done))
  ·rename_i b c n k;rcases get2_cases (h b rfl)with⟨x,h1,h2⟩ | ⟨h1 | h1,h2 | h2⟩<;>simp only[h1,h2]
   ·split
    ·simp_all
     split<;>rfl
    ·rfl
   all_goals (split<;>first | rfl | (simp_all;done))
  ·split
   ·split
    ·split<;>rfl
    ·rfl
   ·rfl
  ·rfl
 ·rfl
def srcE_local{mem mem2:Mem}{T:Ty}{u:TypeId}{s:SV}(h:∀ b,ptrB s=some b→get2 mem2 b=get2 mem b):srcE T P mem2 u s=srcE T P mem u s:=by
 unfold srcE;split
 ·split
  ·rfl
  ·rfl
  ·rename_i b;rcases get2_cases (h b rfl)with⟨x,h1,h2⟩ | ⟨h1 | h1,h2 | h2⟩<;>simp only[h1,h2]
  ·rename_i b a n k;rcases get2_cases (h b rfl)with⟨x,h1,h2⟩ | ⟨h1 | h1,h2 | h2⟩<;>simp only[h1,h2]
  ·rfl
 ·rfl
 ·rfl
def lookA_local{mem mem2:Mem}{i:Int}{z:SV}{ok:Bool}:∀ a:List (Int×SV),lookA mem2 i z ok a=(lookA mem i z ok a).map fun _=>mem2
 | []=>rfl
 | e::a=>by simp only[lookA,Res.map,lookA_local (mem:=mem) (mem2:=mem2) a]
def lookupE_local{mem mem2:Mem}{t:TypeId}{s ks:SV}{ok:Bool}(h:∀ b,ptrB s=some b→get2 mem2 b=get2 mem b):lookupE P mem2 t s ks ok=(lookupE P mem t s ks ok).map (Res.map fun _=>mem2):=by
 unfold lookupE;split
 ·rename_i b _ _ _;rcases get2_cases (h b rfl)with⟨x,h1,h2⟩ | ⟨h1 | h1,h2 | h2⟩<;>simp only[h1,h2]
  ·split
   ·split
    ·simp only[wj,lookA_local (mem:=mem) (mem2:=mem2)]
    ·rfl
   ·rfl
  all_goals rfl
 ·rfl
def lenE_local{mem mem2:Mem}{t:TypeId}{s:SV}(h:∀ b,ptrB s=some b→get2 mem2 b=get2 mem b):lenE P mem2 t s=lenE P mem t s:=by
 unfold lenE;split
 ·split
  ·rfl
  ·rename_i b;rcases get2_cases (h b rfl)with⟨x,h1,h2⟩ | ⟨h1 | h1,h2 | h2⟩<;>simp only[h1,h2]
  ·rfl
  ·rfl
 ·rfl
def opS_local{ts ts2:List SV}{mem mem2:Mem}{o:Oper}(k:∀ x∈o.op.operands,ev ts2 x=ev ts x)(j:isNew o.op=false)(A:∀ b w,acOf ts o=.blk b w→get2 mem2 b=get2 mem b):
  opS P m ts2 mem2 o=(opS P m ts mem o).map (Res.map fun d=>upM mem2 d (acOf ts o)):=by
 have flat:(∀ d,upM mem2 d (acOf ts o)=mem2)→flatE P ts2 mem2 o=(flatE P ts mem o).map (Res.map fun d=>upM mem2 d (acOf ts o)):=fun h=>by
  rw[flatE_ops (mem:=mem) k];simp only[h]
 cases a:o.op with
 | move x =>
  have e:=k x (by rw[a];simp[ya]);simp only[opS,a,e,acOf];split<;>rfl
 | assign x =>
  have e:=k x (by rw[a];simp[ya]);simp only[opS,a,e,acOf];split<;>rfl
 | alloc t=>rw[a]at j;cases j
 | box t x=>rw[a]at j;cases j
 | makeSlice t l c=>rw[a]at j;cases j
 | buildSlice t len C=>rw[a]at j;cases j
 | load t x =>
  have e:=k x (by rw[a];simp[ya]);have n:acOf ts o=acR (ev ts x):=by simp only[acOf,a]
  have s:∀ d,upM mem2 d (acOf ts o)=mem2:=fun d=>by rw[n];unfold acR;cases ptrB (ev ts x)<;>rfl
  simp only[s];simp only[opS,a,e];split
  ·exact loadE_local fun b D=>A b false (by rw[n,acR,D])
  ·rfl
 | store t x y =>
  have e:=k x (by rw[a];simp[ya]);have E:=k y (by rw[a];simp[ya]);have n:acOf ts o=acW (ev ts x):=by simp only[acOf,a]
  simp only[opS,a,e,E];split
  ·rw[storeE_local fun b D=>A b true (by rw[n,acW,D])];congr 2
   funext d
   rw[n];unfold acW;cases ptrB (ev ts x)<;>rfl
  ·rfl
 | build t C =>
  have e:(C.toList.map fun p=>(p.1,ev ts2 p.2))=C.toList.map fun p=>(p.1,ev ts p.2):=rR fun p O=>by rw[k p.2 (by rw[a];simp only[ya];simp;exact⟨p.1,by simpa using O⟩)]
  simp only[opS,a,e,acOf];split
  ·simp only[nj];rfl
  ·rfl
 | fieldAddr t x f =>
  have e:=k x (by rw[a];simp[ya]);simp only[opS,a,e,acOf];split
  ·simp only[nj];rfl
  ·rfl
 | field t x f =>
  have e:=k x (by rw[a];simp[ya]);simp only[opS,a,e,acOf];split
  ·simp only[nj];rfl
  ·rfl
 | extract x i =>
  have e:=k x (by rw[a];simp[ya]);simp only[opS,a,e,acOf];split
  ·split
   ·split<;>rfl
   ·rfl
  ·rfl
 | makeFunc N K J =>
  have G:K.toList.map (ev ts2)=K.toList.map (ev ts):=rR fun x H=>k x (by rw[a];simp[ya];exact .inl (by simpa using H));have E:J.toList.map (ev ts2)=J.toList.map (ev ts):=rR fun x H=>k x (by rw[a];simp[ya];exact .inr (by simpa using H));have s:∀ d,upM mem2 d (acOf ts o)=mem2:=fun d=>by simp only[acOf,a];rfl
  have v:=flat s;simp only[s]at v⊢;cases N with
  | func g =>
   simp only[opS,a,G,E];split<;>rfl
  | _=>simp only[opS,a];exact v
 | nilCheck x =>
  have e:=k x (by rw[a];simp[ya]);simp only[opS,a,e,acOf];split
  ·split<;>rfl
  ·rfl
 | indexAddr t x R =>
  have e:=k x (by rw[a];simp[ya]);have E:=k R (by rw[a];simp[ya]);have n:acOf ts o=acR (ev ts x):=by simp only[acOf,a]
  have s:∀ d,upM mem2 d (acOf ts o)=mem2:=fun d=>by rw[n];unfold acR;cases ptrB (ev ts x)<;>rfl
  simp only[s];simp only[opS,a,e,E];split
  ·exact indexAddrE_local fun b D=>A b false (by rw[n,acR,D])
  ·unfold glE;split
   ·split
    ·split<;>rfl
    ·rfl
   ·rfl
 | slice t x lo hi S =>
  have e:=k x (by rw[a];simp[ya]);have G:evI ts2 lo=evI ts lo:=evI_ops fun y I=>k y (by rw[a];simp[ya,I]);have E:evI ts2 hi=evI ts hi:=evI_ops fun y I=>k y (by rw[a];simp[ya,I]);have n:acOf ts o=acR (ev ts x):=by simp only[acOf,a]
  have s:∀ d,upM mem2 d (acOf ts o)=mem2:=fun d=>by rw[n];unfold acR;cases ptrB (ev ts x)<;>rfl
  have v:=flat s;simp only[s]at v⊢;cases S with
  | some q=>simp only[opS,a];exact v
  | none =>
   simp only[opS,a,e,G,E];split
   ·split
    ·split
     ·split<;>rfl
     ·rfl
    ·rename_i b Q;rcases get2_cases (A b false (by rw[n,Q];rfl))with⟨x,h1,h2⟩ | ⟨h1 | h1,h2 | h2⟩<;>simp only[h1,h2]
     ·split
      ·split<;>rfl
      ·rfl
     all_goals (split<;>first | rfl | (simp_all;done))
    ·split
     ·split<;>rfl
     ·rfl
    ·exact v
   ·rfl
 | convert T M x =>
  have e:=k x (by rw[a];simp[ya]);have n:acOf ts o=acR (ev ts x):=by simp only[acOf,a]
  have s:∀ d,upM mem2 d (acOf ts o)=mem2:=fun d=>by rw[n];unfold acR;cases ptrB (ev ts x)<;>rfl
  have v:=flat s;simp only[s]at v⊢;simp only[opS,a,e];split
  ·split
   ·rw[srcE_local (mem:=mem) (mem2:=mem2) fun b D=>A b false (by rw[n,acR,D])];split<;>rfl
   ·exact v
  ·rfl
 | lookup t x y ok =>
  have e:=k x (by rw[a];simp[ya]);have E:=k y (by rw[a];simp[ya]);have n:acOf ts o=acR (ev ts x):=by simp only[acOf,a]
  have s:∀ d,upM mem2 d (acOf ts o)=mem2:=fun d=>by rw[n];unfold acR;cases ptrB (ev ts x)<;>rfl
  simp only[s];simp only[opS,a,e,E];split
  ·exact lookupE_local fun b D=>A b false (by rw[n,acR,D])
  ·rfl
 | makeMap t r=>rw[a]at j;cases j
 | insert t x y z=>rw[a]at j;cases j
 | mapUpdate t x y z=>rw[a]at j;cases j
 | mapEntry t x y=>rw[a]at j;cases j
 | entryStore t x y z=>rw[a]at j;cases j
 | call c =>
  by_cases F:∃ x t,c=⟨.builtin .len,⟨[x]⟩,⟨[t]⟩⟩
  ·obtain⟨x,t,rfl⟩:=F;have e:=k x (by rw[a];simp[ya,Call.operands]);have n:acOf ts o=acR (ev ts x):=by simp only[acOf,a]
   have s:∀ d,upM mem2 d (acOf ts o)=mem2:=fun d=>by rw[n];unfold acR;cases ptrB (ev ts x)<;>rfl
   have v:=flat s;simp only[s]at v⊢;simp only[opS,a,e];rw[lenE_local (mem:=mem) (mem2:=mem2) fun b D=>A b false (by rw[n,acR,D])];split
   ·split
    ·rfl
    ·exact v
   ·rfl
  ·have L:∀ ts mem,opS P m ts mem o=flatE P ts mem o:=fun ts mem=>by
    simp only[opS,a];split
    ·cases ‹Op.call c=_›
    all_goals (try (rename_i B;cases B;done))
    ·rename_i x y t u B;cases B;rw[a]at j;cases j
    ·rename_i x y t u B;cases B;rw[a]at j;cases j
    ·rename_i x t B;cases B;exact absurd ⟨x,t,rfl⟩ F
    ·rfl
   rw[L,L];refine flat fun d=>?_;have:acOf ts o=.no∨∃ b,acOf ts o=.blk b false:=by
    unfold acOf;rw[a];split
    ·cases ‹Op.call c=_›
    ·cases ‹Op.call c=_›
    ·cases ‹Op.call c=_›
    ·cases ‹Op.call c=_›
    ·cases ‹Op.call c=_›
    ·cases ‹Op.call c=_›
    ·unfold acR;split
     ·exact .inr ⟨_,rfl⟩
     ·exact .inl rfl
    ·exact .inl rfl
   rcases this with h | ⟨b,h⟩<;>rw[h]<;>rfl
 | _ =>
  have s:∀ d,upM mem2 d (acOf ts o)=mem2:=fun d=>by simp only[acOf,a];rfl
  have v:=flat s;simp only[opS,a]at v⊢;exact v
end
structure NewR where
 T:Ty
 x:Option (List T.α)
 e:TypeId
def buildSliceN(P:Program)(t:TypeId)(len:Nat)(a:List (Nat×SV)):Option NewR :=
 match P.underlying t with
 | some (.slice e)=>match sizeE P e,tyOf P 8 e,Rx.pureRun P (zeroValue e)with
  | some n,some T,some z=>match (ofVal 5 z).cells with
   | some b=>if n=T.n∧0 < n∧len*n≤16777216 then
     match fillS (fun i=>some (i*n,n)) ((xx (len*n)).map fun i=>b.getD (i % b.length) .any) a with
     | some c=>match decL T len c with
      | some l=>some ⟨T,some l,e⟩
      | none=>none
     | none=>none
    else none
   | none=>none
  | _,_,_=>none
 | _=>none
def makeN(P:Program)(t:TypeId)(l c:SV):Option NewR :=
 match P.underlying t,l,c with
 | some (.slice e),.v (.int _ n),.v (.int _ n')=>match P.info? e,tyOf P 8 e with
  | some i,some T=>match i.zero with
   | some z=>match (ofVal 5 z).cells with
    | some a=>match ofC1 T a with
     | some b=>if i.size=T.n∧0 < T.n then some ⟨T,mkL n n' i.bytes b,e⟩else none
     | none=>none
    | none=>none
   | none=>none
  | _,_=>none
 | _,_,_=>none
section
variable {P:Program}{w:World}{F:Nat→Prop}{B:Loc}
def RowRun[HasP](P:Program)(F:Nat→Prop)(w:World)(s:Sem Value)(T:Ty)(l:List T.α)(e:TypeId):Prop :=
 ∃ (w':World) (p:Place),s.run P w=.ok p.val w'∧Below w.heap.size w w'∧w.heap.size≤p.blk∧p.nil=false∧∀ B',BlkR B' F w' (.row T l e false) p
def buildSliceN_sound[HasP](I:∀ i,F i→i < w.heap.size){t:TypeId}{len:Nat}{N:NewR}{ps:List (Nat×SV)}{xs:Array (Nat×Value)}(h:buildSliceN P t len ps=some N){l:List N.T.α}(U:N.x=some l)(M:ps.map (·.1)=xs.toList.map (·.1))(V:VRs B F w (ps.map (·.2)) (xs.toList.map (·.2))):
  RowRun P F w (Instr.buildSlice t len xs) N.T l N.e:=by
 unfold buildSliceN at h;split at h
 ·rename_i e D;split at h
  ·rename_i n T z A Y W;split at h
   ·rename_i g p;split at h
    ·rename_i J;obtain⟨S,H,R⟩:=J;split at h
     ·rename_i r L;split at h
      ·rename_i Z Q;cases h;cases U;have m:VRs B F w g z.cells.toList:=(vr_ofVal 5 z).cells p;have q:g.length=z.cells.size:=by simpa using m.1
       have c:VRs B F w ((xx (len*n)).map fun i=>g.getD (i % g.length) .any) ((n6 (len*n)).map (z.cells[· % z.cells.size]!)).toList:=by
        refine⟨ψ,fun i s d a b=>?_⟩;rw[yz]at a;rw[vi,pD]at b;by_cases k:i < len*n
        ·rw[n7 k]at a;rw[n8,gT k]at b;simp only[wj,y8.injEq]at a b;subst a b;rw[q];by_cases y:i % z.cells.size < z.cells.size
         ·have C:g[i % z.cells.size]? = some g[i % z.cells.size]:=zP ω;have K:z.cells.toList[i % z.cells.size]? = some z.cells[i % z.cells.size]:=by rw[vi];exact xy y
          rw[getElem!_pos z.cells _ y];simp only[vf,C,sX];exact m.2 _ _ _ C K
         ·have:g.getD (i % z.cells.size) .any=.any:=by
           simp only[vf];rw[yn ω];rfl
          rw[this];exact .any _
        ·rw[yn (by simp;omega)]at a;cases a
       obtain⟨ds,o,X⟩:=fillS_sound _ ps xs.toList _ r _ L c M V;rw[Array.toArray_toList]at o;obtain⟨E,u,G⟩:=decL_spec len r _ ds Q X;have j:Below w.heap.size w (w.alloc (.cells ds.toArray e)):=(Below.refl _ w).alloc (za _) _;have O:KeepsF F w (w.alloc (.cells ds.toArray e)):=keepsF_below I j;have v:len≤16777216:=by
        have:len*1≤len*n:=Nat.mul_le_mul_left _ H;omega
       refine⟨w.alloc (.cells ds.toArray e),⟨w.heap.size,0,len,len,false,id⟩,?_,j,za _,rfl,fun B'=>.inr ⟨rfl,rfl,u.symm,by rw[u];exact za _,ds,heap_alloc_new w _,E,by simp only[maxLen];omega,G.mono (fun _ h=>h) O.f⟩⟩;have a:¬len*n > 2 ^ 24:=ω;by_cases b:len*n=0
       ·have e0:∀ f:Nat→Value,(n6 (len*n)).map f=#[]:=fun f=>by rw[b];simp
        rw[e0]at o;simp only[Instr.buildSlice,Sem.run_bind,run_underlying D,Result.andThen_ok,Rx.run_sizeOf A,Sem.run_ite,a,gT b,if_false,Sem.run_pure,e0];simp only[o,newRow,Sem.run_bind,run_newObj,Result.andThen_ok,Sem.run_pure];rfl
       ·simp only[Instr.buildSlice,Sem.run_bind,run_underlying D,Result.andThen_ok,Rx.run_sizeOf A,Sem.run_ite,a,b,if_false,Rx.pureRun_run P _ _ W w,Sem.run_pure];simp only[o,newRow,Sem.run_bind,run_newObj,Result.andThen_ok,Sem.run_pure];rfl
      ·cases h
     ·cases h
    ·cases h
   ·cases h
  ·cases h
 ·cases h
def makeN_sound[HasP](M:∀ i,F i→i < w.heap.size){t:TypeId}{N:NewR}{l c:SV}{x y:Value}(V:VR B F w l x)(W:VR B F w c y)(a:makeN P t l c=some N){K:List N.T.α}(b:N.x=some K):
  RowRun P F w (Instr.makeSlice t x y) N.T K N.e:=by
 unfold makeN at a;split at a
 ·rename_i e Z n Y n' U;cases V;cases W;split at a
  ·rename_i i T R hT;split at a
   ·rename_i z X;split at a
    ·rename_i cs A;split at a
     ·rename_i z0 I;split at a
      ·rename_i s;cases a;simp only at b;unfold mkL at b;split at b
       ·rename_i Q;obtain⟨rfl,L,O,v,o⟩:=Q;cases b;have g:DR F w T z0 z.cells.toList:=ofC1_spec I ((vr_ofVal 5 z (B:=B)).cells A);have k:z.cells.size=T.n:=by have:=g.len;simpa using this
        have r:=run_make (P:=P) w t e i z U R X Z Y n n L (Int.le_refl _) O v;have E:(madeCells z.cells (n.toNat*i.size)).toList.length=n.toNat*T.n:=by rw[kr,size_madeCells,s.1]
        have m:Below w.heap.size w (w.alloc (.cells (madeCells z.cells (n.toNat*i.size)) e)):=(Below.refl _ w).alloc (za _) _;have S:KeepsF F w (w.alloc (.cells (madeCells z.cells (n.toNat*i.size)) e)):=keepsF_below M m;refine⟨_,⟨w.heap.size,0,n.toNat,n.toNat,false,id⟩,r,m,za _,rfl,fun B'=>.inr ⟨rfl,rfl,ψ,ψ,(madeCells z.cells (n.toNat*i.size)).toList,by simpa using heap_alloc_new w _,by simpa using E,o,fun q y J=>?_⟩⟩;have G:q < n.toNat:=by have:=(y6.1 J).1;simpa using this
        have H:y=z0:=(qS.1 (xj J)).2;rw[H];refine⟨z.cells.toList,g.mono (fun _ h=>h) S.f,fun j d u=>?_⟩;have C:j < T.n:=by have:=(y6.1 u).1;rw[g.len]at this;exact this
        have D:q*T.n+j < n.toNat*i.size:=by
         have:(q+1)*T.n≤n.toNat*T.n:=Nat.mul_le_mul_right _ G;rw[Nat.succ_mul]at this;rw[s.1];omega
        rw[vi]at u⊢;unfold madeCells;rw[pD,n8];rw[gT D];simp only[wj];have p:(q*T.n+j) % z.cells.size=j:=by rw[k,Nat.mul_comm,Nat.mul_add_mod,Nat.mod_eq_of_lt C]
        rw[p,getElem!_pos z.cells j (by rw[k];exact C)];rw[xy (by rw[k];exact C)]at u;exact u
       ·cases b
      ·cases a
     ·cases a
    ·cases a
   ·cases a
  ·cases a
 ·cases a
end
structure NewT where
 α:Type
 x:Option α
 blk:α→Blk
 row:Bool
def NewT.sv(N:NewT)(i:Nat):SV:=bif N.row then .row i else .ptr i 0
def NewR.new(N:NewR):NewT:=⟨List N.T.α,N.x,fun l=>.row N.T l N.e false,true⟩
def newE(P:Program)(ts:List SV)(o:Oper):Option NewT :=
 match o.op with
 | .alloc t=>match Rx.pureRun P (zeroValue t)with
  | some z=>match (ofVal 5 z).cells with
   | some b=>some ⟨Unit,some (),fun _=>.cells b t,false⟩
   | none=>none
  | none=>none
 | .box t x=>if okOp x then match (ev ts x).cells with
   | some b=>some ⟨Unit,some (),fun _=>.cells b t,false⟩
   | none=>none
  else none
 | .buildSlice t len a=>if a.toList.all (fun p=>okOp p.2)then(buildSliceN P t len (a.toList.map fun p=>(p.1,ev ts p.2))).map NewR.new else none
 | .makeSlice t l c=>if okOp l&&okOp c then(makeN P t (ev ts l) (ev ts c)).map NewR.new else none
 | _=>none
section
variable {P:Program}{G:World→Prop}{tab:Tab}{m ne:Nat}{w0:World}{ρ:Type}
def acOK(mem:Mem):Ac→Bool
 | .blk b _=>liveB mem b
 | .grow _ _=>false
 | .app _ _ _=>false
 | .ins _=>false
 | .no=>true
def grownB(n:Nat)(b a:Mem)(s:SV):Bool :=
 bdM a 5 s&&yb n a.length&&(xx n).all fun i=>!liveB a i||liveB b i
def isIns:Op→Bool
 | .insert _ _ _ _=>true
 | _=>false
def insB(P:Program)(m:Nat)(ts:List SV)(mem:Mem)(o:Oper):Option (Nat×Mem):=match o.op with
 | .insert t x y z=>if okOp x&&okOp y&&okOp z then(match mapTy P t,ev ts x,ev ts y with
  | some (k,_),.mp b,.v (.int k' i)=>match mem[b]? with
   | some (some (.map k2 es _))=>if m≤b∧k'=k∧k2=k then(match es.all fun e=>!(i==e.1)with
    | true=>some (b,mem.set b (some (.map k2 (es++[(i,ev ts z)]) (es.length+1))))
    | false=>none)else none
   | _=>none
  | _,_,_=>none)else none
 | _=>none
def insB_some{ts:List SV}{mem a:Mem}{o:Oper}{b:Nat}(h:insB P m ts mem o=some (b,a)):
  ∃ t x y z k f i c p,o.op=.insert t x y z∧(okOp x&&okOp y&&okOp z)=true∧mapTy P t=some (k,f)∧ev ts x=.mp b∧ev ts y=.v (.int k i)∧mem[b]? = some (some (.map k c p))∧m≤b∧
   (c.all fun e=>!(i==e.1))=true∧a=mem.set b (some (.map k (c++[(i,ev ts z)]) (c.length+1))):=by
 unfold insB at h;split at h
 ·rename_i t x y z j;split at h
  ·rename_i g;split at h
   ·rename_i k f b' u i q r s;split at h
    ·rename_i w c p l;split at h
     ·rename_i n;obtain⟨c1,rfl,rfl⟩:=n;split at h
      ·rename_i d;cases h;exact⟨t,x,y,z,_,f,i,c,p,j,g,q,r,s,l,c1,d,rfl⟩
      ·cases h
     ·cases h
    ·cases h
   ·cases h
  ·cases h
 ·cases h
inductive OpA(P:Program)(tab:Tab)(m:Nat)(cl:Nat→OracleP)(bad:List Nat)(ts:List SV)(mem:Mem)(o:Oper):SV→Mem→Ac→Prop
 | tab0 (g:FuncId) (args:List SV) (E:Entry) (x:Tys E.ps) (y:Tys E.rs):callE ts o=some (.fn g,args)→entB P g=true→tab g=some E→argsOf E.ps args=some x→E.f x=some y→OpA P tab m cl bad ts mem o (resSV E.rs y) mem .no
 | tab1 (b:Nat) (g:FuncId) (args:List SV) (E:Entry) (x:Tys E.ps) (y:Tys E.rs):callE ts o=some (.fn g,args)→entB P g=true→tab g=some E→(∀ c∈rowsAll args,c=b)→liveB mem b=true→argsOf E.ps (frzs m args mem).1=some x→E.f x=some y→
   OpA P tab m cl bad ts mem o (resSV E.rs y) (bif E.rs.all flatT then mem else(frzs m args mem).2) (.blk b (!E.rs.all flatT))
 | inl (g:FuncId) (args:List SV) (s:SV) (mem':Mem):callE ts o=some (.fn g,args)→entB P g=true→closedB (maskM bad mem)=true→args.all (bdM (maskM bad mem) 5)=true→
   cl mem.length (SV×Mem) (.fn g) args (maskM bad mem) (fun s m=>some (s,m))=some (s,mem')→grownB mem.length (maskM bad mem) mem' s=true→
   OpA P tab m cl bad ts mem o s (mem++(mem'.drop mem.length)) (.grow mem.length (mem'.length-mem.length))
 | pick (b:Bool) (x y:SV):callE ts o=none→pickE ts o=some (b,x,y)→OpA P tab m cl bad ts mem o (bif b then x else y) mem .no
 | new (N:NewT) (y:N.α):callE ts o=none→pickE ts o=none→isNew o.op=true→newE P ts o=some N→N.x=some y→OpA P tab m cl bad ts mem o (N.sv mem.length) (mem++[some (N.blk y)]) (.blk mem.length true)
 | bar (q:Res) (s:SV) (mem':Mem):callE ts o=none→pickE ts o=none→isBar o.op=true→mem.length≤mem'.length→m≤mem.length→opS P m ts mem o=some q→q.Out s mem'→OpA P tab m cl bad ts mem o s mem' (.app (barB ts o) mem.length mem'.length)
 | ins (b:Nat) (mem':Mem):callE ts o=none→pickE ts o=none→insB P m ts mem o=some (b,mem')→OpA P tab m cl bad ts mem o .any mem' (.ins b)
 | yl (i:Nat) (args:List SV) (s:SV) (mem':Mem):callE ts o=some (.yld i,args)→mem.length≤mem'.length→m≤mem.length→cl m (SV×Mem) (.yld i) args mem (fun s m=>some (s,m))=some (s,mem')→OpA P tab m cl bad ts mem o s mem' (.app none 0 mem'.length)
 | op (q:Res) (s:SV) (mem':Mem):callE ts o=none→pickE ts o=none→isNew o.op=false→acOK mem (acOf ts o)=true→opS P m ts mem o=some q→q.Out s mem'→OpA P tab m cl bad ts mem o s mem' (acOf ts o)
def opA(P:Program)(tab:Tab)(m:Nat)(cl:Nat→Oracle ρ)(c:List Nat)(ts:List SV)(mem:Mem)(o:Oper)(k:SV→Mem→Ac→Option ρ):Option ρ :=
 match callE ts o with
 | some (.fn g,args)=>bif entB P g then(match tab g with
  | some E=>match rowsAll args with
   | []=>match argsOf E.ps args with
    | some x=>bd (E.f x) fun y=>k (resSV E.rs y) mem .no
    | none=>none
   | b::r=>bif liveB mem b&&r.all (·==b)then(match argsOf E.ps (frzs m args mem).1 with
    | some x=>bd (E.f x) fun y=>k (resSV E.rs y) (bif E.rs.all flatT then mem else(frzs m args mem).2) (.blk b (!E.rs.all flatT))
    | none=>none)else none
  | none=>bif closedB (maskM c mem)&&args.all (bdM (maskM c mem) 5)then cl mem.length (.fn g) args (maskM c mem) fun s a=>bif grownB mem.length (maskM c mem) a s then k s (mem++(a.drop mem.length)) (.grow mem.length (a.length-mem.length))else none else none)else none
 | some (.yld i,args)=>cl m (.yld i) args mem fun s a=>bif yb mem.length a.length&&yb m mem.length then k s a (.app none 0 a.length)else none
 | some (.nxt,_)=>none
 | some (.nilq _,_)=>none
 | none=>match pickE ts o with
  | some (b,x,y)=>br b (k x mem .no) (k y mem .no)
  | none=>bif isNew o.op then(match newE P ts o with
    | some N=>bd N.x fun y=>k (N.sv mem.length) (mem++[some (N.blk y)]) (.blk mem.length true)
    | none=>match insB P m ts mem o with
     | some (b,a)=>k .any a (.ins b)
     | none=>bif isBar o.op then(match opS P m ts mem o with
      | some q=>resK q fun s a=>bif yb mem.length a.length&&yb m mem.length then k s a (.app (barB ts o) mem.length a.length)else none
      | none=>none)else none)
   else bif acOK mem (acOf ts o)then(match opS P m ts mem o with
    | some q=>resK q fun s a=>k s a (acOf ts o)
    | none=>none)else none
def opA_spec{cl:Nat→OracleP}(A:∀ n,NatO (cl n)){f:List Nat}{ts:List SV}{mem:Mem}{o:Oper}{k:SV→Mem→Ac→Option ρ}{r:ρ}(h:opA P tab m (fun n=>cl n ρ) f ts mem o k=some r):
  ∃ s a ac,OpA P tab m cl f ts mem o s a ac∧k s a ac=some r:=by
 unfold opA at h;split at h
 ·rename_i g d l;cases B:entB P g with
  | false=>rw[B]at h;cases h
  | true =>
   rw[B]at h;simp only[cond_true]at h;split at h
   ·rename_i E K;split at h
    ·split at h
     ·rename_i x J;obtain⟨y,D,h⟩:=bd_some h;exact⟨_,_,_,.tab0 g d E x y l B K J D,h⟩
     ·cases h
    ·rename_i b M t;cases e:(liveB mem b&&M.all (·==b))with
     | false=>rw[e]at h;cases h
     | true =>
     rw[e]at h;simp only[zm,ym,beq_iff_eq]at e;simp only[cond_true]at h;split at h
     ·rename_i x J;obtain⟨y,D,h⟩:=bd_some h;refine⟨_,_,_,.tab1 b g d E x y l B K (fun c p=>?_) e.1 J D,h⟩;rw[t]at p;rcases ww.1 p with rfl | p
      ·rfl
      ·exact e.2 c p
     ·cases h
   ·cases C:(closedB (maskM f mem)&&d.all (bdM (maskM f mem) 5))with
    | false=>rw[C]at h;cases h
    | true =>
     rw[C]at h;simp only[zm]at C;simp only[cond_true]at h;rw[A mem.length ρ]at h;obtain⟨⟨s,a⟩,G,j⟩:=vB.1 h;simp only at j;cases t:grownB mem.length (maskM f mem) a s with
     | false=>rw[t]at j;cases j
     | true=>rw[t]at j;exact⟨_,_,_,.inl g d s a l B C.1 C.2 G t,j⟩
 ·rename_i i d l
  change cl m ρ (.yld i) d mem _=some r at h
  rw[A m ρ]at h;obtain⟨⟨s,a⟩,G,j⟩:=vB.1 h;simp only at j;cases e:(yb mem.length a.length&&yb m mem.length)with
  | false=>rw[e]at j;cases j
  | true =>
   rw[e]at j;simp only[zm,ux]at e;exact⟨_,_,_,.yl i d s a l e.1 e.2 G,j⟩
 ·cases h
 ·cases h
 ·rename_i l;split at h
  ·rename_i b x y z;refine⟨_,_,_,.pick b x y l z,?_⟩;rw[br_eq]at h;cases b<;>exact h
  ·rename_i z;cases F:isNew o.op with
   | true =>
    rw[F]at h;simp only[cond_true]at h;split at h
    ·rename_i N t;obtain⟨y,D,h⟩:=bd_some h;exact⟨_,_,_,.new N y l z F t D,h⟩
    ·split at h
     ·rename_i b a L;exact⟨_,_,_,.ins b a l z L,h⟩
     cases u:isBar o.op with
     | false=>rw[u]at h;cases h
     | true =>
      rw[u]at h;simp only[cond_true]at h;split at h
      ·rename_i q I;have:∃ s a,q.Out s a∧(bif yb mem.length a.length&&yb m mem.length then k s a (.app (barB ts o) mem.length a.length)else none)=some r:=resK_out (k:=fun s a=>bif yb mem.length a.length&&yb m mem.length then k s a (.app (barB ts o) mem.length a.length)else none) q h;obtain⟨s,a,H,w⟩:=this;cases e:(yb mem.length a.length&&yb m mem.length)with
       | false=>rw[e]at w;cases w
       | true =>
        rw[e]at w;simp only[zm,ux]at e;exact⟨s,a,_,.bar q s a l z u e.1 e.2 I H,w⟩
      ·cases h
   | false =>
    rw[F]at h;simp only[cond_false]at h;cases v:acOK mem (acOf ts o)with
    | false=>rw[v]at h;cases h
    | true =>
    rw[v]at h;simp only[cond_true]at h;split at h
    ·rename_i q I;have:∃ s a,q.Out s a∧k s a (acOf ts o)=some r:=resK_out (k:=fun s a=>k s a (acOf ts o)) q h;obtain⟨s,a,H,w⟩:=this;exact⟨s,a,_,.op q s a l z F v I H,w⟩
    ·cases h
def set_get2{mem:Mem}{b:Nat}:mem.set b (get2 mem b)=mem:=by
 apply vE;intro i;rw[yd];by_cases e:b=i
 ·subst e;rw[gT rfl];split
  ·rename_i h;unfold get2;rw[zP h];rfl
  ·rename_i h;rw[yn ω]
 ·rw[gR e]
def get2_set{mem:Mem}{b:Nat}{x:Option Blk}(h:b < mem.length):get2 (mem.set b x) b=x:=by
 unfold get2;rw[yd,gT rfl,gT h];cases x<;>rfl
def frz1_local{mem mem2:Mem}{b:Nat}(h:get2 mem2 b=get2 mem b):(frz1 m mem2 (.row b)).1=(frz1 m mem (.row b)).1∧(frz1 m mem2 (.row b)).2=mem2.set b (get2 (frz1 m mem (.row b)).2 b)∧∀ c,c≠b→get2 (frz1 m mem (.row b)).2 c=get2 mem c:=by
 have a:mem2.set b (get2 mem b)=mem2:=by rw[←h];exact set_get2
 unfold frz1;simp only;rcases get2_cases h with⟨x,h1,h2⟩ | ⟨h1 | h1,h2 | h2⟩<;>simp only[h1,h2]
 ·cases x with
  | row T l t fz =>
   cases fz with
   | true=>exact⟨rfl,a.symm,fun _ _=>rfl⟩
   | false =>
    cases yb m b with
    | false=>exact⟨rfl,a.symm,fun _ _=>rfl⟩
    | true =>
     refine⟨rfl,?_,fun c d=>?_⟩
     ·simp only[cond_true];rw[get2_set (y6.1 h1).1]
     ·simp only[cond_true];unfold get2;rw[yd,gR (Ne.symm d)]
  | _=>exact⟨rfl,a.symm,fun _ _=>rfl⟩
 all_goals first | exact⟨rfl,a.symm,fun _ _=>rfl⟩ | exact⟨trivial,a.symm,fun _ _=>trivial⟩ | exact⟨trivial,a.symm,fun _ _=>rfl⟩ | (simp;exact a.symm)
def frz1_none{mem:Mem}{s:SV}(h:rowsC s=[]):frz1 m mem s=(s,mem):=by
 cases s with
 | row b=>cases h
 | _=>rfl
def liveB_lt{mem mem2:Mem}{b:Nat}(h:get2 mem2 b=get2 mem b)(a:liveB mem b=true):b < mem2.length:=by
 refine Nat.lt_of_not_le fun c=>?_;unfold liveB at a;rw[←h,show get2 mem2 b=none by unfold get2;rw[yn c];rfl]at a;cases a
def frz1_all{mem mem2:Mem}{s:SV}{b:Nat}(h:∀ c∈rowsC s,c=b)(d:get2 mem2 b=get2 mem b):(frz1 m mem2 s).1=(frz1 m mem s).1∧(frz1 m mem2 s).2=mem2.set b (get2 (frz1 m mem s).2 b)∧∀ c,c≠b→get2 (frz1 m mem s).2 c=get2 mem c:=by
 by_cases e:∃ c,s=.row c
 ·obtain⟨c,rfl⟩:=e;obtain rfl:c=b:=h c (by simp[rowsC]);exact frz1_local d
 ·have a:rowsC s=[]:=by
   cases s with
   | row c=>exact absurd ⟨c,rfl⟩ e
   | _=>rfl
  rw[frz1_none a,frz1_none a];exact⟨rfl,by rw[←d];exact set_get2.symm,fun _ _=>rfl⟩
def frzL_local:∀ {ss:List SV} {mem mem2:Mem} {b:Nat},(∀ c∈ss.flatMap rowsC,c=b)→get2 mem2 b=get2 mem b→b < mem2.length→
  (frzL m ss mem2).1=(frzL m ss mem).1∧(frzL m ss mem2).2=mem2.set b (get2 (frzL m ss mem).2 b)∧∀ c,c≠b→get2 (frzL m ss mem).2 c=get2 mem c
 | [],mem,mem2,b,_,hb,_=>⟨rfl,by rw[show(frzL m [] mem).2=mem from rfl,←hb];exact set_get2.symm,fun _ _=>rfl⟩
 | s::r,mem,mem2,b,h,hb,hl=>by
  rw[kO]at h;obtain⟨f,e,g⟩:=frz1_all (m:=m) (s:=s) (fun c a=>h c (ir _ a)) hb;have d:get2 (frz1 m mem2 s).2 b=get2 (frz1 m mem s).2 b:=by rw[e,get2_set hl]
  obtain⟨l1,l2,l3⟩:=frzL_local (ss:=r) (fun c a=>h c (iu _ a)) d (by rw[e];simpa using hl);simp only[frzL];refine⟨by rw[f,l1],by rw[l2,e,mz],fun c a=>by rw[l3 c a,g c a]⟩
def frz_local{mem mem2:Mem}{s:SV}{b:Nat}(h:∀ c∈rowsOf s,c=b)(a:get2 mem2 b=get2 mem b)(d:b < mem2.length):
  (frz m mem2 s).1=(frz m mem s).1∧(frz m mem2 s).2=mem2.set b (get2 (frz m mem s).2 b)∧∀ c,c≠b→get2 (frz m mem s).2 c=get2 mem c:=by
 cases s with
 | agg i =>
  obtain⟨e,f,g⟩:=frzL_local (m:=m) h a d;simp only[frz];exact⟨by rw[e],f,g⟩
 | _=>exact frz1_all h a
def frzs_local:∀ {ss:List SV} {mem mem2:Mem} {b:Nat},(∀ c∈rowsAll ss,c=b)→get2 mem2 b=get2 mem b→b < mem2.length→
  (frzs m ss mem2).1=(frzs m ss mem).1∧(frzs m ss mem2).2=mem2.set b (get2 (frzs m ss mem).2 b)∧∀ c,c≠b→get2 (frzs m ss mem).2 c=get2 mem c
 | [],mem,mem2,b,_,hb,_=>⟨rfl,by rw[show(frzs m [] mem).2=mem from rfl,←hb];exact set_get2.symm,fun _ _=>rfl⟩
 | s::r,mem,mem2,b,h,hb,hl=>by
  unfold rowsAll at h;rw[kO]at h;obtain⟨f,e,g⟩:=frz_local (m:=m) (s:=s) (fun c a=>h c (ir _ a)) hb hl;have d:get2 (frz m mem2 s).2 b=get2 (frz m mem s).2 b:=by rw[e,get2_set hl]
  obtain⟨l1,l2,l3⟩:=frzs_local (ss:=r) (fun c a=>h c (iu _ a)) d (by rw[e];simpa using hl);simp only[frzs];refine⟨by rw[f,l1],by rw[l2,e,mz],fun c a=>by rw[l3 c a,g c a]⟩
end
section
variable {P:Program}{G:World→Prop}{tab:Tab}{m ne:Nat}{w0:World}{cl:Nat→OracleP}
def Fits(m:Nat)(a:List Nat)(mem mem2:Mem):Ac→Prop
 | .no=>True
 | .blk b _=>m≤mem2.length∧get2 mem2 b=get2 mem b∧(b=mem.length→m≤b∧b < mem2.length)
 | .ins _=>True
 | .app _ _ n=>mem2=mem++xS (mem2.length-mem.length) none∧m≤mem.length∧mem.length≤mem2.length∧n≤mem2.length
 | .grow n k=>(∀ b x,(maskM a mem)[b]? = some (some x)→get2 mem2 b=some x)∧m≤n∧n+k≤mem2.length∧∀ b,n≤b→b < n+k→get2 mem2 b=none
def pickE_congr{ts ts2:List SV}{o:Oper}(h:∀ x∈o.op.operands,ev ts2 x=ev ts x):pickE ts2 o=pickE ts o:=by
 unfold pickE;split
 ·rename_i c x y a;rw[h c (by rw[a];simp[ya]),h x (by rw[a];simp[ya]),h y (by rw[a];simp[ya])]
 ·rfl
def callE_congr{ts ts2:List SV}{o:Oper}(h:∀ x∈o.op.operands,ev ts2 x=ev ts x):callE ts2 o=callE ts o:=by
 unfold callE;split
 ·rename_i f b i a;have d:ev ts2 f=ev ts f:=h f (by rw[a];simp[ya,Call.operands]);have c:b.toList.map (ev ts2)=b.toList.map (ev ts):=rR fun x e=>h x (by rw[a];simp[ya,Call.operands];exact .inr (by simpa using e));rw[d,c]
 ·rename_i g a;rw[h g (by rw[a];simp[ya])]
 ·rename_i t x y _ a;rw[h x (by rw[a];simp[ya]),h y (by rw[a];simp[ya])]
 ·rfl
def callE_run[HasP]{t:St}{B:Loc}{F:Nat→Prop}{a:Act}{w:World}(h:R w0 m ne t B F a w){o:Oper}{g:FuncId}{e:List SV}(c:callE t.1 o=some (.fn g,e))(G:entB P g=true):
  ∃ vals:List Value,VRs B F w e vals∧(∀ s∈e,Bd (Live t.2) s)∧(execOp a.eval o).run P w=.ok (.enter g vals.toArray) w∧isDefer o.op=false:=by
 unfold callE at c;split at c
 ·rename_i f b I r;split at c
  ·rename_i p;simp only[zm,ym]at p;have n:=ev_vr (B:=B) (F:=F) (w:=w) h.tmps p.1;have l:=ev_bd h.bd f;have u:VRs B F w (b.toList.map (ev t.1)) (b.toList.map a.eval):=⟨ψ,fun i s d k q=>by
    rw[yz]at k q;cases x:b.toList[i]? with
    | none=>rw[x]at k;cases k
    | some y=>rw[x]at k q;cases k;cases q;exact ev_vr h.tmps (p.2 y (xj x))⟩
   split at c
   ·rename_i J first cap v
    cases c;rw[v]at n l;generalize H:a.eval f=z at n;cases n with | fn _ _ _ C A k q D E =>
     refine⟨C++b.toList.map a.eval++A,(VRs.append ⟨k,q⟩ u).append ⟨D,E⟩,fun s j=>?_,?_,by rw[r];rfl⟩
     ·rcases xz.1 j with j | j
      ·rcases xz.1 j with j | j
       ·exact l.of_fn.1 s j
       ·obtain⟨y,_,rfl⟩:=yy.1 j;exact ev_bd h.bd y
      ·exact l.of_fn.2 s j
     ·simp only[execOp,r,resolve,H,Deferred.ofValue,Sem.run_bind,Sem.run_pure,Result.andThen_ok,invoke];rw[enters_of_entB G];congr 2;apply uk;simp
   ·cases c
   ·cases c
  ·cases c
 ·split at c<;>cases c
 ·split at c
  ·split at c<;>cases c
  ·cases c
 ·cases c
def callE_yld[HasP]{n:St}{B:Loc}{F:Nat→Prop}{a:Act}{w:World}(h:R w0 m ne n B F a w){o:Oper}{i:Nat}{e:List SV}(c:callE n.1 o=some (.yld i,e)):
  ∃ vals:List Value,VRs B F w e vals∧(∀ s∈e,Bd (Live n.2) s)∧Live n.2 i∧∀ {fn tmps assign body},(Instr.yield (B i).blk vals.toArray).run P w=.ok (.round (B i).blk fn tmps assign body) w→
   (execOp a.eval o).run P w=.ok (.round (B i).blk fn tmps assign body) w:=by
 unfold callE at c;split at c
 ·rename_i f b C t;split at c
  ·rename_i j;simp only[zm,ym]at j;have g:=ev_vr (B:=B) (F:=F) (w:=w) h.tmps j.1;have l:=ev_bd h.bd f;have q:VRs B F w (b.toList.map (ev n.1)) (b.toList.map a.eval):=⟨ψ,fun i s d k p=>by
    rw[yz]at k p;cases u:b.toList[i]? with
    | none=>rw[u]at k;cases k
    | some y=>rw[u]at k p;cases k;cases p;exact ev_vr h.tmps (j.2 y (xj u))⟩
   split at c
   ·cases c
   ·rename_i D r;cases c;rw[r]at g l;generalize A:a.eval f=z at g;cases g;refine⟨_,q,fun s x=>?_,by cases l with | yld h=>exact h,fun {fn tmps assign body} hy=>?_⟩
    ·obtain⟨y,_,rfl⟩:=yy.1 x;exact ev_bd h.bd y
    ·simp only[execOp,t,resolve,A,Deferred.ofValue,Sem.run_bind,Sem.run_pure,Result.andThen_ok,invoke];have v:(#[]++vD a.eval b++#[])=(b.toList.map a.eval).toArray:=by apply uk;simp
     first
      | (rw[v];exact hy)
      | (simp only[←v]at hy;simpa using hy)
   ·cases c
  ·cases c
 ·split at c<;>cases c
 ·split at c
  ·split at c<;>cases c
  ·cases c
 ·cases c
def rm_mask[HasP]{B:Loc}{F:Nat→Prop}{mem mem2:Mem}{w:World}{d:List Nat}(h:RM w0 m B F mem2 w)(e:closedB (maskM d mem)=true)(a:∀ b x,(maskM d mem)[b]? = some (some x)→get2 mem2 b=some x):
  RM w mem.length B F (maskM d mem) w:=by
 refine⟨fun i b c=>?_,fun i b l c n=>?_,fun i j x y g k=>?_,fun i b c s f=>?_,fun i b c=>?_,fun i b c=>?_,h.fc,Below.refl _ _⟩
 ·exact h.blk i b (get2_some.1 (a i b c))
 ·have:=(y6.1 c).1;rw[maskM_len]at this;omega
 ·exact h.inj i j x y (get2_some.1 (a i x g)) (get2_some.1 (a j y k))
 ·unfold closedB at e;rw[ym]at e;have:=e (some b) (xj c);simp only[ym]at this;exact bdM_spec 5 s (this s f)
 ·exact h.fr i b (get2_some.1 (a i b c))
 ·exact h.fz i b (get2_some.1 (a i b c))
def get_pad{mem:Mem}{k i:Nat}{x:Blk}:(mem++xS k none)[i]? = some (some x)↔mem[i]? = some (some x):=by
 by_cases h:i < mem.length
 ·rw[xm h]
 ·rw[wi ω,yn (show mem.length≤i from ω),List.getElem?_replicate];split<;>simp
def live_pad{mem:Mem}{k i:Nat}:Live (mem++xS k none) i↔Live mem i:=⟨fun⟨x,h⟩=>⟨x,get_pad.1 h⟩,fun⟨x,h⟩=>⟨x,get_pad.2 h⟩⟩
def rm_pad[HasP]{B:Loc}{F:Nat→Prop}{mem:Mem}{w:World}{k:Nat}:RM w0 m B F (mem++xS k none) w↔RM w0 m B F mem w :=
  ⟨fun h=>⟨fun i b a=>h.blk i b (get_pad.2 a),fun i b c a d=>h.own i b c (get_pad.2 a) d,fun i j x y f g=>h.inj i j x y (get_pad.2 f) (get_pad.2 g),fun i b a s e=>(h.bd i b (get_pad.2 a) s e).mono fun _ q=>live_pad.1 q,fun i b a=>h.fr i b (get_pad.2 a),fun i b a=>h.fz i b (get_pad.2 a),h.fc,h.below⟩,
   fun h=>⟨fun i b a=>h.blk i b (get_pad.1 a),fun i b c a d=>h.own i b c (get_pad.1 a) d,fun i j x y f g=>h.inj i j x y (get_pad.1 f) (get_pad.1 g),fun i b a s e=>(h.bd i b (get_pad.1 a) s e).mono fun _ q=>live_pad.2 q,fun i b a=>h.fr i b (get_pad.1 a),fun i b a=>h.fz i b (get_pad.1 a),h.fc,h.below⟩⟩
def opS_bar{ts ts2:List SV}{mem:Mem}{o:Oper}(b:isBar o.op=true)(h:∀ x∈o.op.operands,ev ts2 x=ev ts x):opS P m ts2 mem o=opS P m ts mem o:=by
 unfold isBar at b;split at b
 ·rename_i t a;simp only[opS,a]
 ·rename_i t x y z a;simp only[opS,a,h x (by rw[a];simp[ya]),h y (by rw[a];simp[ya]),h z (by rw[a];simp[ya])]
 ·rename_i t x y z a;simp only[opS,a,h x (by rw[a];simp[ya]),h y (by rw[a];simp[ya]),h z (by rw[a];simp[ya])]
 ·rename_i t x y a;simp only[opS,a,h x (by rw[a];simp[ya]),h y (by rw[a];simp[ya])]
 ·rename_i t x y z a;simp only[opS,a,h x (by rw[a];simp[ya]),h y (by rw[a];simp[ya]),h z (by rw[a];simp[ya])]
 ·rename_i x y t u a;simp only[opS,a,h x (by rw[a];simp[ya,Call.operands]),h y (by rw[a];simp[ya,Call.operands])]
 ·rename_i x y t u a;simp only[opS,a,h x (by rw[a];simp[ya,Call.operands]),h y (by rw[a];simp[ya,Call.operands])]
 ·cases b
def opA_run[HasP](hG:∀ w w',G w→Below w.heap.size w w'→G w')(ht:TabOK P G tab)(hcl:∀ n ρ,CallK P G n (cl n ρ))(hg:G w0){l:Option Nat}{ts ts2:List SV}{mem mem2 H:Mem}{o:Oper}{s:SV}{ac:Ac}{bad:List Nat}(hA:OpA P tab m cl bad ts mem o s H ac)
    (hdf:isDefer o.op=false) (J:∀ x∈o.op.operands,ev ts2 x=ev ts x) (W:Fits m bad mem mem2 ac)
    (hins:∀ b,ac=.ins b→∃ k es p x es2 p2,get2 mem b=some (.map k es p)∧get2 H b=some (.map k (es++[x]) (es.length+1))∧get2 mem2 b=some (.map k es2 p2)∧∀ e∈es2,(x.1==e.1)=false) {B:Loc} {F:Nat→Prop} {a:Act} {w:World} (h:R w0 m ne (ts2,mem2) B F a w) {K:Act→World→Prop} {Q:Exit→Act→World→Prop}
    (hK:∀ B' F' x w',Nx w0 mem2 B F w (upM mem2 H ac) B' F' w'→R w0 m ne (putL ts2 o.dst s,upM mem2 H ac) B' F' (a.put o.dst x) w'→K (a.put o.dst x) w'):o.wpIn (fen l) 0 P a w K Q:=by
  refine⟨wide_about,?_⟩;rw[semAt_eq _ _ _ hdf];have fin:∀ {B':Loc} {F':Nat→Prop} {x:Value} {w':World},RM w0 m B' F' (upM mem2 H ac) w'→Nx w0 mem2 B F w (upM mem2 H ac) B' F' w'→VR B' F' w' s x→Bd (Live (upM mem2 H ac)) s→K (a.put o.dst x) w' :=
    fun h1 h2 h3 h4=>hK _ _ _ _ h2 (h.step o.dst h1 h2 h3 h4)
  have called:∀ {g:FuncId} {vals:List Value} {Rp:Ending→World→Prop},(execOp a.eval o).run P w=.ok (.enter g vals.toArray) w→Calls P g vals.toArray w Rp→(∀ e w',Rp e w'→∃ x,e=.returned x∧K (a.put o.dst x) w')→
      o.uponIn (fen l) 0 P a K Q ((execOp a.eval o).run P w):=by
    intro g vals Rp I hcall himp;rw[I,Oper.uponIn_enter];refine⟨no_depth,(callsIn_wide.2 hcall:CallsIn (fen none) _ P g _ w _).mono ?_⟩;intro e w' hr;obtain⟨x,rfl,hk⟩:=himp e w' hr;exact hk
  have viaOp:∀ {k:KO (SV×Mem)},opK P m ts2 mem2 o (fun s m=>some (s,m))=some (s,upM mem2 H ac)→o.uponIn (fen l) 0 P a K Q ((execOp a.eval o).run P w):=by
    intro _ hk;obtain⟨s',mem3,B',w',nx,e,I,hout,h1,h2,h3⟩:=opK_sound (P:=P) (ρ:=SV×Mem) h hk;cases e;rw[I];rcases hout with⟨x,rfl,hv⟩ | ⟨rfl,rfl⟩
    · exact fin h1 h2 hv h3
    · exact fin h1 h2 (.any _) h3
  have hF0:∀ {w':World},Below w.heap.size w w'→∀ i,Since F w w' i→F i∨w0.heap.size≤i:=fun M i C=>by
    rcases C with C | ⟨C,_⟩
    · exact .inl C
    · exact .inr (xL h.mem.size C)
  cases hA with
  | tab0 g args E x y L he htab Z S =>
    have hc2:=(callE_congr J).trans L;obtain⟨vals,hv,M,I,_⟩:=callE_run (P:=P) h hc2 he;refine called I (ht g E htab x y S F w vals (hG w0 w hg h.mem.below) h.mem.fc (argsR_of Z hv)) ?_;rintro e w' ⟨v,rfl,U,hres⟩;exact⟨v,rfl,fin (h.mem.later U) ⟨fun _ _=>rfl,fun i C=>.inl C,keepsF_below h.mem.lt U,Ext.refl _,hF0 U⟩ (vr_of_resR hres) bd_resSV⟩
  | tab1 b g args E x y L he htab hrow hlv Z S =>
    have hc2:=(callE_congr J).trans L;obtain⟨vals,hv,M,I,_⟩:=callE_run (P:=P) h hc2 he;obtain⟨k1,k2,_⟩:=frzs_local (m:=m) hrow W.2.1 (liveB_lt W.2.1 hlv);obtain⟨F1,f1,f2,f3,f4,f5,f6⟩:=frzs_sound h.mem hv M;rw[k1]at f4;refine called I (ht g E htab x y S F1 w vals (hG w0 w hg h.mem.below) f1.fc (argsR_of Z f4)) ?_;rintro e w' ⟨v,rfl,U,hres⟩;have hRM:=f1.later U;rw[k2]at hRM f3;cases hfl:E.rs.all flatT with
    | true =>
      rw[hfl]at fin;exact⟨v,rfl,fin (h.mem.later' U) ⟨fun _ _=>rfl,fun i C=>C,keepsF_below h.mem.lt U,Ext.refl _,fun _ C=>.inl C⟩ (vr_of_resR (resR_flat hfl hres)) bd_resSV⟩
    | false =>
    rw[hfl]at fin;refine⟨v,rfl,fin hRM ⟨fun _ _=>rfl,fun i C=>.inl (f2 i C),keepsF_below h.mem.lt U,f3,fun i C=>?_⟩ (vr_of_resR hres) bd_resSV⟩;rcases C with C | ⟨C,_⟩
    · exact f6 i C
    · exact .inr (xL h.mem.size C)
  | inl g args s A L he hcb hargs hev hs =>
    have hc2:=(callE_congr J).trans L;obtain⟨W,hmn,hnk,hnew⟩:=W;obtain⟨vals,hv,M,I,_⟩:=callE_run (P:=P) h hc2 he;have hRM:=rm_mask h.mem hcb W;simp only[ym]at hargs;unfold grownB at hs;simp only[zm,ym,tG,ux,se,qq]at hs;obtain⟨⟨hs1,hs2⟩,hs3⟩:=hs;refine called I (hcl _ _ (.fn g) args (maskM bad mem) _ (s,A) hev w w B F vals (hG w0 w hg h.mem.below) (by rw[maskM_len];exact za _) hRM (fun u hu=>bdM_spec 5 u (hargs u hu)) hv) ?_;rintro e w' ⟨s',mem3,B',F',x,e1,rfl,Z,hR',hn',hbs⟩;cases e1;have U:Below w.heap.size w w':=hR'.below;have hgt:∀ b,mem.length≤b→get2 (mem++A.drop mem.length) b=get2 A b:=fun b M=>by
      unfold get2;rw[wi M,List.getElem?_drop];congr 2;omega
    have Y:∀ (i:Nat) (y:Blk),(upM mem2 (mem++A.drop mem.length) (.grow mem.length (A.length-mem.length)))[i]? = some (some y)↔
        ((mem.length≤i∧i < A.length)∧A[i]? = some (some y))∨(¬(mem.length≤i∧i < A.length)∧mem2[i]? = some (some y)):=by
      intro i y;simp only[upM];rw[yz];by_cases C:i < mem2.length
      · rw[n7 C]
        simp only[wj,y8.injEq];by_cases L:mem.length≤i∧i < A.length
        · have e1:(yb mem.length i&&y9 i (mem.length+(A.length-mem.length)))=true:=by simp;omega
          rw[e1,cond_true,hgt i L.1];simp[L,get2_some]
        · have e1:(yb mem.length i&&y9 i (mem.length+(A.length-mem.length)))=false:=by
            rw[Bool.and_eq_false_iff];by_cases h1:mem.length≤i
            · right
              cases hq:y9 i (mem.length+(A.length-mem.length))with
              | false=>rfl
              | true=>
               have:i < mem.length+(A.length-mem.length):=by simpa using hq
               omega
            · left
              cases hq:yb mem.length i with
              | false=>rfl
              | true=>exact absurd (by simpa using hq) h1
          rw[e1,cond_false];simp[L,get2_some]
      · have h1:(xx mem2.length)[i]? = none:=yn (by simp;omega)
        have h2:mem2[i]? = none:=yn ω;rw[h1,h2];simp only[mj];constructor
        · intro h;cases h
        · rintro (⟨h,_⟩ | ⟨_,h⟩)
          · omega
          · cases h
    let B2:Loc:=fun i=>if mem.length≤i∧i < A.length then B' i else B i
    have hB2n:∀ i,mem.length≤i∧i < A.length→B2 i=B' i:=fun i C=>by simp only[B2,gT C]
    have X:∀ i,¬(mem.length≤i∧i < A.length)→B2 i=B i:=fun i C=>by simp only[B2,gR C]
    have hold2:∀ i,Live mem2 i→¬(mem.length≤i∧i < A.length):=fun i ⟨y,S⟩ C=>by
      have:=hnew i C.1 ω;rw[get2_some.2 S]at this;cases this
    have hlv2:∀ i,Live mem2 i→Live (upM mem2 (mem++A.drop mem.length) (.grow mem.length (A.length-mem.length))) i:=fun i C=>by
      obtain⟨y,S⟩:=C;exact⟨y,(Y i y).2 (.inr ⟨hold2 i ⟨y,S⟩,S⟩)⟩
    have hmaskL:∀ i,i < mem.length→Live A i→Live (maskM bad mem) i∧Live mem2 i:=fun i C hl=>by
      obtain⟨y,S⟩:=hl;rcases hs3 i C with h' | h'
      · unfold liveB at h';rw[get2_some.2 S]at h';cases h'
      · unfold liveB at h'
        obtain⟨z,hz⟩:=kI.1 h';exact⟨⟨z,get2_some.1 hz⟩,⟨z,get2_some.1 (W i z (get2_some.1 hz))⟩⟩
    have hlv3:∀ i,Live A i→Live (upM mem2 (mem++A.drop mem.length) (.grow mem.length (A.length-mem.length))) i:=fun i C=>by
      by_cases hlt:i < mem.length
      · exact hlv2 i (hmaskL i hlt C).2
      · obtain⟨y,S⟩:=C
        exact⟨y,(Y i y).2 (.inl ⟨⟨ω,(y6.1 S).1⟩,S⟩)⟩
    have hBeq:∀ i,Live A i→B2 i=B' i:=fun i C=>by
      by_cases hlt:i < mem.length
      · rw[X i ω,hn'.loc i (hmaskL i hlt C).1]
      · exact hB2n i ⟨ω,C.lt⟩
    have hBold:∀ i,Live mem2 i→B2 i=B i:=fun i C=>X i (hold2 i C);have hML:=h.mem.later' U;have hnofr:∀ (i:Nat) (b:Blk),mem2[i]? = some (some b)→b.on=true→(B i).nil=false→b.fz=false→¬F' (B i).blk:=fun i b C ho hn hf hF=>by
      rcases hn'.fn _ hF with h' | h'
      · exact h.mem.fr i b C ho hn hf h'
      · have:=(h.mem.blk i b C).lt ho hn;omega
    have hMF:=hML.moreF (F':=F') hn'.fs hR'.fc hnofr;have hext:Ext mem2 (upM mem2 (mem++A.drop mem.length) (.grow mem.length (A.length-mem.length))):=⟨by simp[upM],hlv2,fun i q hq=>by
      rcases (Y i _).1 hq with⟨C,hq⟩ | ⟨_,hq⟩
      · obtain⟨q',hq'⟩:=hn'.ext.old i q hq
        have:=(y6.1 hq').1;rw[maskM_len]at this;omega
      · exact⟨q,hq⟩⟩
    have hfinal:RM w0 m B2 F' (upM mem2 (mem++A.drop mem.length) (.grow mem.length (A.length-mem.length))) w':=by
      refine⟨fun i b C=>?_,fun i b hm C hn=>?_,fun i j x y Z S ox oy C hj e=>?_,fun i b C u hu=>?_,fun i b C ho hn hf=>?_,fun i b C hn hf=>?_,hR'.fc,hMF.below⟩
      · rcases (Y i b).1 C with⟨L,C⟩ | ⟨L,C⟩
        · rw[hB2n i L];exact(hR'.blk i b C).loc hBeq (hR'.bd i b C)
        · rw[X i L];exact(hMF.blk i b C).loc hBold (hMF.bd i b C)
      · rcases (Y i b).1 C with⟨L,C⟩ | ⟨L,C⟩
        · rw[hB2n i L]at hn⊢;exact xL h.mem.size (hR'.own i b L.1 C hn)
        · rw[X i L]at hn⊢;exact hMF.own i b hm C hn
      · rcases (Y i x).1 Z with⟨L,Z⟩ | ⟨L,Z⟩<;>rcases (Y j y).1 S with⟨hd,S⟩ | ⟨hd,S⟩
        · rw[hB2n i L]at C e;rw[hB2n j hd]at hj e;exact hR'.inj i j x y Z S ox oy C hj e
        · rw[hB2n i L]at C e;rw[X j hd]at hj e
          have h1:=hR'.own i x L.1 Z C;have h2:=(h.mem.blk j y S).lt oy hj;omega
        · rw[X i L]at C e;rw[hB2n j hd]at hj e
          have h1:=hR'.own j y hd.1 S hj;have h2:=(h.mem.blk i x Z).lt ox C;omega
        · rw[X i L]at C e;rw[X j hd]at hj e;exact hMF.inj i j x y Z S ox oy C hj e
      · rcases (Y i b).1 C with⟨L,C⟩ | ⟨L,C⟩
        · exact(hR'.bd i b C u hu).mono hlv3
        · exact(hMF.bd i b C u hu).mono hlv2
      · rcases (Y i b).1 C with⟨L,C⟩ | ⟨L,C⟩
        · rw[hB2n i L]at hn⊢;exact hR'.fr i b C ho hn hf
        · rw[X i L]at hn⊢;exact hMF.fr i b C ho hn hf
      · rcases (Y i b).1 C with⟨L,C⟩ | ⟨L,C⟩
        · rw[hB2n i L]at hn⊢;exact hR'.fz i b C hn hf
        · rw[X i L]at hn⊢;exact hMF.fz i b C hn hf
    refine⟨x,rfl,fin hfinal ⟨hBold,hn'.fs,keepsF_below h.mem.lt U,hext,fun i C=>?_⟩ (Z.loc (D:=Live A) hBeq hbs) (hbs.mono hlv3)⟩;rcases hn'.fn i C with C | C
    · exact .inl C
    · exact .inr (xL h.mem.size C)
  | pick b x y L hp =>
    refine viaOp (k:=fun s m=>some (s,m)) ?_;have hp2:=(pickE_congr J).trans hp;simp only[opK,hp2,br_eq];cases b<;>rfl
  | new N y L hp hn M S =>
    obtain⟨hm2,hno,hid⟩:=W;obtain⟨hmid,hlt⟩:=hid rfl;have hnone:get2 mem2 mem.length=none:=by
      rw[hno];unfold get2;rw[yn (za _)];rfl
    have hnl:¬Live mem2 mem.length:=by
      rintro ⟨x,Z⟩;rw[get2_some.2 Z]at hnone;cases hnone
    have hup:upM mem2 (mem++[some (N.blk y)]) (.blk mem.length true)=mem2.set mem.length (some (N.blk y)):=by
      simp only[upM];congr 1;exact get2_some.2 ((get_push mem _ _ _).2 (.inr ⟨rfl,rfl⟩))
    rw[hup]at fin hK;have Y:∀ (i:Nat) (x:Blk),(mem2.set mem.length (some (N.blk y)))[i]? = some (some x)↔(i≠mem.length∧mem2[i]? = some (some x))∨(i=mem.length∧x=N.blk y):=by
      intro i x;rw[yd];by_cases e:mem.length=i
      · subst e
        simp only[if_true,hlt,y8.injEq,ne_eq,not_true,false_and,true_and,false_or];exact⟨fun h=>h.symm,fun h=>h.symm⟩
      · simp[e,Ne.symm e]
    have hlv:∀ i,Live mem2 i→Live (mem2.set mem.length (some (N.blk y))) i:=fun i ⟨x,Z⟩=>⟨x,(Y i x).2 (.inl ⟨fun e=>hnl (e▸⟨x,Z⟩),Z⟩)⟩
    have hlive:Live (mem2.set mem.length (some (N.blk y))) mem.length:=⟨_,(Y _ _).2 (.inr ⟨rfl,rfl⟩)⟩
    have key:∃ (w':World) (p:Place) (x:Value),(execOp a.eval o).run P w=.ok (.value x) w'∧Below w.heap.size w w'∧w.heap.size≤p.blk∧(∀ r,N.blk y≠.rnd r)∧(N.blk y).fz=false∧(∀ c∈(N.blk y).refs,Bd (Live mem2) c)∧
        (∀ B',(∀ i,Live mem2 i→B' i=B i)→BlkR B' F w' (N.blk y) p)∧∀ B':Loc,B' mem.length=p→VR B' F w' (N.sv mem.length) x:=by
      have cellsCase:∀ {cs:List SV} {t:TypeId} {ds:List Value},N.blk y=.cells cs t→N.row=false→VRs B F w cs ds→(∀ c∈cs,Bd (Live mem2) c)→(execOp a.eval o).run P w=.ok (.value (.pointer (some ⟨w.heap.size,0,none⟩))) (w.alloc (.cells ds.toArray t))→
          ∃ (w':World) (p:Place) (x:Value),(execOp a.eval o).run P w=.ok (.value x) w'∧Below w.heap.size w w'∧w.heap.size≤p.blk∧(∀ r,N.blk y≠.rnd r)∧(N.blk y).fz=false∧(∀ c∈(N.blk y).refs,Bd (Live mem2) c)∧
          (∀ B',(∀ i,Live mem2 i→B' i=B i)→BlkR B' F w' (N.blk y) p)∧∀ B':Loc,B' mem.length=p→VR B' F w' (N.sv mem.length) x:=by
        intro cs t ds V hrow hv hcs I;have U:Below w.heap.size w (w.alloc (.cells ds.toArray t)):=(Below.refl _ w).alloc (za _) _;have hk:KeepsF F w (w.alloc (.cells ds.toArray t)):=keepsF_below h.mem.lt U;refine⟨_,⟨w.heap.size,0,0,0,false,id⟩,_,I,U,za _,fun r e=>(by rw[V]at e;cases e),by rw[V];rfl,by rw[V];exact hcs,fun B' hB=>by rw[V];exact⟨rfl,rfl,ds,heap_alloc_new _ _,(hv.mono (fun _ h=>h) hk.f).loc hB hcs⟩,fun B' hB=>?_⟩;have:=VR.ptr (B:=B') (F:=F) (w:=w.alloc (.cells ds.toArray t)) mem.length 0;rw[hB]at this;simp only[NewT.sv,hrow,cond_false];simpa using this
      have rowCase:∀ {T:Ty} {l:List T.α} {e:TypeId} {q:Sem Value},N.blk y=.row T l e false→N.row=true→RowRun P F w q T l e→execOp a.eval o=(do pure (Next.value (←q)):Sem Next)→
          ∃ (w':World) (p:Place) (x:Value),(execOp a.eval o).run P w=.ok (.value x) w'∧Below w.heap.size w w'∧w.heap.size≤p.blk∧(∀ r,N.blk y≠.rnd r)∧(N.blk y).fz=false∧(∀ c∈(N.blk y).refs,Bd (Live mem2) c)∧
          (∀ B',(∀ i,Live mem2 i→B' i=B i)→BlkR B' F w' (N.blk y) p)∧∀ B':Loc,B' mem.length=p→VR B' F w' (N.sv mem.length) x:=by
        intro T l e q V hrow hrr he;obtain⟨w',p,h1,h2,h3,h4,h5⟩:=hrr;refine⟨w',p,p.val,by rw[he];exact Rx.run_v h1,h2,h3,fun r e=>(by rw[V]at e;cases e),by rw[V];rfl,(by rw[V];intro c L;cases L),fun B' _=>by rw[V];exact h5 B',fun B' hB=>?_⟩;have:=VR.row (B:=B') (F:=F) (w:=w') mem.length;rw[hB]at this;simp only[NewT.sv,hrow,cond_true];exact this
      cases O:o.op with
      | alloc t' =>
        simp only[newE,O]at M;split at M
        · rename_i z hz
          split at M
          · rename_i cs' hcs
            cases M;refine cellsCase rfl rfl ((vr_ofVal 5 z).cells hcs) (bd_cells (bd_ofVal 5 z) hcs) ?_;simp only[execOp,O];refine Rx.run_v ?_;simp only[Instr.alloc,Sem.run_bind,Rx.pureRun_run P _ _ hz w,Result.andThen_ok,newVar,newRow,run_newObj,Sem.run_pure];simp
          · cases M
        · cases M
      | box t' x =>
        simp only[newE,O]at M;split at M
        · rename_i Z
          split at M
          · rename_i cs' hcs
            cases M;have e0:=J x (by rw[O];simp[ya]);rw[←e0]at hcs;refine cellsCase rfl rfl ((ev_vr h.tmps Z).cells hcs) (bd_cells (ev_bd h.bd x) hcs) ?_;simp only[execOp,O];refine Rx.run_v ?_;simp only[Instr.box,Sem.run_bind,Result.andThen_ok,newVar,newRow,run_newObj,Sem.run_pure];simp
          · cases M
        · cases M
      | buildSlice t' len parts =>
        simp only[newE,O]at M;split at M
        · rename_i Z
          simp only[ym]at Z;have e:(parts.toList.map fun p=>(p.1,ev ts2 p.2))=parts.toList.map fun p=>(p.1,ev ts p.2):=rR fun p hp=>by rw[J p.2 (by rw[O];simp only[ya];simp;exact⟨p.1,by simpa using hp⟩)]
          rw[←e]at M;cases hN:buildSliceN P t' len (parts.toList.map fun p=>(p.1,ev ts2 p.2))with
          | none=>rw[hN]at M;cases M
          | some NR =>
            rw[hN]at M;cases M;have hpv:VRs B F w ((parts.toList.map fun p=>(p.1,ev ts2 p.2)).map (·.2)) ((parts.map fun x=>(x.1,a.eval x.2)).toList.map (·.2)):=by
              refine⟨ψ,fun i s d h1 h2=>?_⟩;simp only[rA,tA,yz]at h1 h2;cases hq:parts.toList[i]? with
              | none=>rw[hq]at h1;cases h1
              | some p=>rw[hq]at h1 h2;cases h1;cases h2;exact ev_vr h.tmps (Z p (xj hq))
            exact rowCase rfl rfl (buildSliceN_sound (xs:=parts.map fun x=>(x.1,a.eval x.2)) h.mem.lt hN S (by simp[rA,tA,Function.comp]) hpv) (by simp only[execOp,O])
        · cases M
      | makeSlice t' l' c' =>
        simp only[newE,O]at M;split at M
        · rename_i Z
          simp only[zm]at Z;rw[←J l' (by rw[O];simp[ya]),←J c' (by rw[O];simp[ya])]at M;cases hN:makeN P t' (ev ts2 l') (ev ts2 c')with
          | none=>rw[hN]at M;cases M
          | some NR =>
            rw[hN]at M;cases M;exact rowCase rfl rfl (makeN_sound h.mem.lt (ev_vr h.tmps Z.1) (ev_vr h.tmps Z.2) hN S) (by simp only[execOp,O])
        · cases M
      | _=>simp only[newE,O]at M;cases M
    obtain⟨w',p,x,I,U,hpb,hnr,hfz,hrf,V,hvr⟩:=key;have hext:Ext mem2 (mem2.set mem.length (some (N.blk y))):=⟨ψ,hlv,fun i r hr=>by
      rcases (Y i _).1 hr with⟨_,hr⟩ | ⟨_,hr⟩
      · exact⟨r,hr⟩
      · exact absurd hr.symm (hnr r)⟩
    have hold:∀ i,Live mem2 i→upd B mem.length p i=B i:=fun i C=>upd_old B (fun e=>hnl (e▸C));rw[I];refine fin (h.mem.put mem.length hnl (N.blk y) p U hfz (V _ hold) (fun _=>hpb) (fun c L=>(hrf c L).mono hlv) Y) ⟨hold,fun _ h=>h,keepsF_below h.mem.lt U,hext,fun _ h=>.inl h⟩ (hvr _ (upd_new _ _ _)) ?_;unfold NewT.sv;cases N.row
    · exact .ptr hlive
    · exact .row hlive
  | bar q s H L hp hib hle hm hq ho =>
    obtain⟨he2,_,hle2,hn2⟩:=W;have hlv:∀ i,Live mem2 i↔Live mem i:=fun i=>by rw[he2];exact live_pad
    have hRM:RM w0 m B F mem w:=by
      have:=h.mem;rw[he2]at this;exact rm_pad.1 this
    rw[←opS_bar hib J]at hq;obtain⟨B',w',nx,I,hout,h1,h2,h3,h4,h5⟩:=opS_sound (P:=P) hm hRM h.tmps (fun s hs=>(h.bd s hs).mono fun i C=>(hlv i).1 C) hq ho;have hRM':RM w0 m B' F (upM mem2 H (.app (barB ts o) mem.length H.length)) w':=by simp only[upM];exact rm_pad.2 h1
    have hlen:(upM mem2 H (.app (barB ts o) mem.length H.length)).length=mem2.length:=by simp only[upM,yo,vo];omega
    have hNx:Nx w0 mem2 B F w (upM mem2 H (.app (barB ts o) mem.length H.length)) B' F w':=by
      refine⟨fun i C=>h2 i ((hlv i).1 C),fun _ h=>h,h3,⟨ω,fun i C=>?_,fun i r hr=>?_⟩,fun _ h=>.inl h⟩
      · simp only[upM];exact live_pad.2 (h4.live i ((hlv i).1 C))
      · simp only[upM]at hr
        obtain⟨r',hr'⟩:=h4.old i r (get_pad.1 hr);exact⟨r',by rw[he2];exact get_pad.2 hr'⟩
    have hB:Bd (Live (upM mem2 H (.app (barB ts o) mem.length H.length))) s:=h5.mono fun i C=>by simp only[upM];exact live_pad.2 C
    rw[I];rcases hout with⟨x,rfl,hv⟩ | ⟨rfl,rfl⟩
    · exact fin hRM' hNx hv hB
    · exact fin hRM' hNx (.any _) hB
  | ins b H L hp C =>
    obtain⟨k,es,p,x,es2,p2,g1,g2,g3,g4⟩:=hins b rfl;obtain⟨t,ox,oy,oz,k',et,i,es',p',O,hok,hmt,Z,S,M,hmb,hall,rfl⟩:=insB_some C;rw[get2_some.2 M]at g1;cases g1;have hbl:b < mem.length:=(y6.1 M).1;rw[get2_set hbl]at g2;simp only[y8.injEq,Blk.map.injEq,true_and,and_true,List.append_cancel_left_eq,List.cons.injEq]at g2;subst g2;have hb2:=get2_some.1 g3;have hall2:(es2.all fun e=>!(i==e.1))=true:=by
      rw[ym];intro e he;have:=g4 e he;simp only at this;rw[this];rfl
    have hox:ev ts2 ox=.mp b:=by rw[J ox (by rw[O];simp[ya])];exact Z
    have hoy:ev ts2 oy=.v (.int k i):=by rw[J oy (by rw[O];simp[ya])];exact S
    have hoz:ev ts2 oz=ev ts oz:=J oz (by rw[O];simp[ya]);have hq:opS P m ts2 mem2 o=some (.det .any (mem2.set b (some (.map k (es2++[(i,ev ts oz)]) p2)))):=by
      simp only[opS,O,hok,if_true,insertE,hmt,hox,hoy,hoz,hb2,hmb,and_self,hall2]
    obtain⟨B',w',nx,I,hout,h1,h2,h3,h4,h5⟩:=opS_sound (P:=P) h.le h.mem h.tmps h.bd hq ⟨rfl,rfl⟩;have hbl2:b < mem2.length:=(y6.1 hb2).1;have hup:upM mem2 (mem.set b (some (.map k (es++[(i,ev ts oz)]) (es.length+1)))) (.ins b)=mem2.set b (some (.map k (es2++[(i,ev ts oz)]) (es2.length+1))):=by
      simp only[upM,get2_set hbl,g3,addL,List.getLast?_append,List.getLast?_singleton,Option.some_or]
    have hRM:RM w0 m B' F (mem2.set b (some (.map k (es2++[(i,ev ts oz)]) (es2.length+1)))) w':=by
      have:=h1.wide (b:=b) (p':=es2.length+1) (by rw[yd,gT rfl,gT hbl2]) ψ
      rwa [mz]at this
    have hlive:∀ j,Live (mem2.set b (some (.map k (es2++[(i,ev ts oz)]) p2))) j→Live (mem2.set b (some (.map k (es2++[(i,ev ts oz)]) (es2.length+1)))) j:=fun j ⟨y,S⟩=>by
      rw[yd]at S;by_cases e:b=j
      · subst e;exact⟨_,by rw[yd,gT rfl,gT hbl2]⟩
      · exact⟨y,by rw[yd,gR e];rw[gR e]at S;exact S⟩
    rw[←hup]at hRM hlive;have hNx:Nx w0 mem2 B F w (upM mem2 (mem.set b (some (.map k (es++[(i,ev ts oz)]) (es.length+1)))) (.ins b)) B' F w' :=
      ⟨h2,fun _ h=>h,h3,by rw[hup];exact ext_set hb2 (fun r h=>by cases h),fun _ h=>.inl h⟩
    rw[I];rcases hout with⟨x,rfl,hv⟩ | ⟨rfl,_⟩
    · exact fin hRM hNx hv .any
    · exact fin hRM hNx (.any _) .any
  | yl i args s H L hle hm hev =>
    obtain⟨he2,_,hle2,hn2⟩:=W;have hlv:∀ i,Live mem2 i↔Live mem i:=fun i=>by rw[he2];exact live_pad
    have hRM:RM w0 m B F mem w:=by
      have:=h.mem;rw[he2]at this;exact rm_pad.1 this
    have hc2:=(callE_congr J).trans L;obtain⟨vals,hv,hbd,hli,I⟩:=callE_yld (P:=P) h hc2;obtain⟨fn,tmps,assign,body,S,hround⟩:=hcl m _ (.yld i) args mem _ (s,H) hev w0 w B F vals hg hm hRM (fun u hu=>(hbd u hu).mono fun i C=>(hlv i).1 C) hv ((hlv i).1 hli);rw[I S,Oper.uponIn_round];refine⟨no_depth,hround.mono fun e w' hf=>?_⟩;obtain⟨s',mem3,B',F',x,hk,rfl,Z,hR',hn',hbs⟩:=hf;cases hk;have hRM':RM w0 m B' F' (upM mem2 H (.app none 0 H.length)) w':=by simp only[upM];exact rm_pad.2 hR'
    have hNx:Nx w0 mem2 B F w (upM mem2 H (.app none 0 H.length)) B' F' w':=by
      have hlen:(upM mem2 H (.app none 0 H.length)).length=mem2.length:=by simp only[upM,yo,vo];omega
      refine⟨fun i C=>hn'.loc i ((hlv i).1 C),hn'.fs,hn'.keep,⟨ω,fun i C=>?_,fun i r hr=>?_⟩,hn'.fn⟩
      · simp only[upM];exact live_pad.2 (hn'.ext.live i ((hlv i).1 C))
      · simp only[upM]at hr
        obtain⟨r',hr'⟩:=hn'.ext.old i r (get_pad.1 hr);exact⟨r',by rw[he2];exact get_pad.2 hr'⟩
    exact fin hRM' hNx Z (hbs.mono fun i C=>by simp only[upM];exact live_pad.2 C)
  | op q s H L hp hn hok hq ho =>
    refine viaOp (k:=fun s m=>some (s,m)) ?_;have hp2:=(pickE_congr J).trans hp;have hloc:=opS_local (P:=P) (m:=m) (mem:=mem) (mem2:=mem2) J hn fun b w M=>by rw[M]at W;exact W.2.1
    rw[hq]at hloc;simp only[opK,hp2,hloc,wj];clear hloc hq
    induction q with
    | det s0 m0 =>
      obtain⟨rfl,rfl⟩:=ho;rfl
    | part α x out =>
      obtain⟨y,S,he⟩:=ho;simp only[Res.map,resK,S,bd_eq,wT,he]
    | alt c x y ihx ihy =>
      simp only[Res.map,resK,br_eq];rcases ho with⟨rfl,ho⟩ | ⟨rfl,ho⟩
      · exact ihx ho
      · exact ihy ho
    | bnd α x out ih =>
      obtain⟨y,S,ho⟩:=ho;simp only[Res.map,resK,S,bd_eq,wT];exact ih y ho
end
end Go.Q
