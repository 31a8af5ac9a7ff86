import Derived.Test.YtkoahpnmchgliaaGreatDoorETG10
set_option linter.all false
set_option maxRecDepth 100000
set_option maxHeartbeats 40000000
open Go.Proofs.Tryz renaming prog→y5
namespace Go.Q
open Go.IntKind (i64)
open Go Go.RowKit
open Go.Rx (br bd sIdx sCat sCut iQuo iRem iShl)
noncomputable section
namespace eF
def r1{ρ:Type}(c:Nat)(m:Int→Int→fi→Int→(List EX)→Int→fi→Int→(List EX)→Int→Int→Int→fi→Int→(List EX)→Option (Bool×(Int×Unit)×(Unit)×Unit))(n:Int)(o:List EX)(p q:Int)(r:fi)(t:Int)(u:List EX)(v w b:Int)(d:fi)(e:Int)(f:List EX)(g:Int)(K:Int→Option ρ)(E0:Int→Option ρ)(k:Option ρ):Option ρ:=br (decide (g < p)) (bd (idxL o g) fun a=>bd (m (i64.wrap (n+1)) a.i a.s a.j a.l q r t u v w b d e f) fun h=>br h.1 (
 E0 h.2.1.1) (
 K (i64.wrap (g+1)))) (
 k)
def l1(c:Nat)(f:Int→Int→fi→Int→(List EX)→Int→fi→Int→(List EX)→Int→Int→Int→fi→Int→(List EX)→Option (Bool×(Int×Unit)×(Unit)×Unit))(g:Int)(h:List EX)(i j:Int)(k:fi)(l:Int)(m:List EX)(o p a:Int)(b:fi)(d:Int)(e:List EX):Nat→Int→Option (Bool×(Int×Unit)×(Unit)×Unit)
 | 0,_=>none
 | n+1,v3=>r1 c f g h i j k l m o p a b d e v3 (l1 c f g h i j k l m o p a b d e n) (fun q=>some (true,(q,()),((()),()))) (some (false,(0,()),((()),())))
def sh1:ShS:=⟨[.s (.int .i64),.a 2,.s (.ptr 6 0),.a 11,.s (.sl (.rc false)),.s (.int .i64),.s (.int .i64),.a 10],[.cells [.s (.int .i64),.s .str,.s (.int .i64),.s (.sl (.rc false))] 26,.cells [.s (.int .i64)] 3,.cells [.s (.int .i64)] 31,.cells [.s (.int .i64),.s .str,.s (.int .i64),.s (.sl (.rc false))] 26,.rnd [.a 3,.s (.ptr 1 0),.s (.ptr 2 0),.a 32] 24 0 .ready none,.cells [.s (.yld 4)] 117,.cells [.s (.fn 75 [] [.ptr 5 0,.ptr 6 0])] 117,.gone,.gone]⟩
def S1(p:Int×(List EX)×Int×Int×Int×fi×Int×(List EX)×Int×Int×Int×fi×Int×(List EX)×Unit):St:=sh1.b p
def xh0:ShS:=⟨[.a 6,.s .bool,.a 21],[.cells [.s (.int .i64),.s .str,.s (.int .i64),.s (.sl (.rc false))] 26,.cells [.s (.int .i64)] 3,.cells [.s (.int .i64)] 31,.cells [.s (.int .i64),.s .str,.s (.int .i64),.s (.sl (.rc false))] 26,.rnd [.a 3,.s (.ptr 1 0),.s (.ptr 2 0),.a 32] 24 0 .done (some .ret),.cells [.s (.yld 4)] 117,.cells [.s (.fn 75 [] [.ptr 5 0,.ptr 6 0])] 117,.gone,.gone]⟩
def xh1:ShS:=⟨[.a 28],[.cells [.s (.int .i64),.s .str,.s (.int .i64),.s (.sl (.rc false))] 26,.cells [.s (.int .i64)] 3,.cells [.s (.int .i64)] 31,.cells [.s (.int .i64),.s .str,.s (.int .i64),.s (.sl (.rc false))] 26,.rnd [.a 3,.s (.ptr 1 0),.s (.ptr 2 0),.a 32] 24 0 .ready none,.cells [.s (.yld 4)] 117,.cells [.s (.fn 75 [] [.ptr 5 0,.ptr 6 0])] 117,.gone,.gone]⟩
def o1(l:Int)(m:List EX)(n f:Int)(g:fi)(h:Int)(i:List EX)(j k a:Int)(c:fi)(d:Int)(e:List EX)(y:Bool×(Int×Unit)×(Unit)×Unit):Alt:=.two y.1 (.one .ret (xh0.b (false,f,g,h,i,j,y.2.1.1,a,c,d,e,()))) (.one (.exit 0) (xh1.b (f,g,h,i,j,k,a,c,d,e,())))
def gr0{ρ:Type}(c:Nat)(l:Int→Int→fi→Int→(List EX)→Int→fi→Int→(List EX)→Int→Int→Int→fi→Int→(List EX)→Option (Bool×(Int×Unit)×(Unit)×Unit))(m:Int)(n:Int)(o:fi)(p:Int)(h:List EX)(q:Int)(r:fi)(s:Int)(t:List EX)(i:Int)(a:Int)(b:Int)(d:fi)(e:Int)(g:List EX)(E0:Int→Option ρ)(k:Option ρ):Option ρ:=bd (uz.f c (EX.mk n o p h) i) fun r2=>br (r2.1 != 0) (
 E0 r2.1) (bd (l1 c l m h (h.length:Int) q r s t i a b d e g (c+40) 0) fun j=>br j.1 (
 E0 j.2.1.1) (
 k))
def g0(c:Nat):Nat→Int→Int→fi→Int→(List EX)→Int→fi→Int→(List EX)→Int→Int→Int→fi→Int→(List EX)→Option (Bool×(Int×Unit)×(Unit)×Unit)
 | 0,_,_,_,_,_,_,_,_,_,_,_,_,_,_,_=>none
 | n+1,v0,v1,v2,v3,v4,v5,v6,v7,v8,v9,v10,v11,v12,v13,v14=>gr0 c (g0 c n) v0 v1 v2 v3 v4 v5 v6 v7 v8 v9 v10 v11 v12 v13 v14 (fun a=>some (true,(a,()),((()),()))) (some (false,(0,()),((()),())))
def sh0:ShS:=⟨[.s (.int .i64),.s (.agg [.int .i64,.str,.int .i64,.sl (.rc false)]),.s (.ptr 5 0),.s (.ptr 6 0)],[.cells [.s (.int .i64),.s .str,.s (.int .i64),.s (.sl (.rc false))] 26,.cells [.s (.int .i64)] 3,.cells [.s (.int .i64)] 31,.cells [.s (.int .i64),.s .str,.s (.int .i64),.s (.sl (.rc false))] 26,.rnd [.a 3,.s (.ptr 1 0),.s (.ptr 2 0),.a 32] 24 0 .ready none,.cells [.s (.yld 4)] 117,.cells [.s (.fn 75 [] [.ptr 5 0,.ptr 6 0])] 117]⟩
def S0(p:Int×Int×fi×Int×(List EX)×Int×fi×Int×(List EX)×Int×Int×Int×fi×Int×(List EX)×Unit):St:=sh0.b p
def xh2:ShS:=⟨[.s .bool],[.cells [.s (.int .i64),.s .str,.s (.int .i64),.s (.sl (.rc false))] 26,.cells [.s (.int .i64)] 3,.cells [.s (.int .i64)] 31,.cells [.s (.int .i64),.s .str,.s (.int .i64),.s (.sl (.rc false))] 26,.rnd [.a 3,.s (.ptr 1 0),.s (.ptr 2 0),.a 32] 24 0 .done (some .ret),.cells [.s (.yld 4)] 117,.cells [.s (.fn 75 [] [.ptr 5 0,.ptr 6 0])] 117]⟩
def xh3:ShS:=⟨[.s .bool],[.cells [.s (.int .i64),.s .str,.s (.int .i64),.s (.sl (.rc false))] 26,.cells [.s (.int .i64)] 3,.cells [.s (.int .i64)] 31,.cells [.s (.int .i64),.s .str,.s (.int .i64),.s (.sl (.rc false))] 26,.rnd [.a 3,.s (.ptr 1 0),.s (.ptr 2 0),.a 32] 24 0 .ready none,.cells [.s (.yld 4)] 117,.cells [.s (.fn 75 [] [.ptr 5 0,.ptr 6 0])] 117]⟩
def go0(l:Int)(m:Int)(n:fi)(o:Int)(p:List EX)(g:Int)(h:fi)(i:Int)(j:List EX)(k:Int)(f:Int)(a:Int)(c:fi)(d:Int)(e:List EX)(y:Bool×(Int×Unit)×(Unit)×Unit):Res:=.alt y.1 (detG (xh2.b (false,g,h,i,j,k,y.2.1.1,a,c,d,e,()))) (detG (xh3.b (true,g,h,i,j,k,f,a,c,d,e,())))
def gG(c q:Nat):Nat→List SV→Mem→Option Res:=genE sh0 (fun(x:Int×Int×fi×Int×(List EX)×Int×fi×Int×(List EX)×Int×Int×Int×fi×Int×(List EX)×Unit)=>.bnd _ (g0 c q x.1 x.2.1 x.2.2.1 x.2.2.2.1 x.2.2.2.2.1 x.2.2.2.2.2.1 x.2.2.2.2.2.2.1 x.2.2.2.2.2.2.2.1 x.2.2.2.2.2.2.2.2.1 x.2.2.2.2.2.2.2.2.2.1 x.2.2.2.2.2.2.2.2.2.2.1 x.2.2.2.2.2.2.2.2.2.2.2.1 x.2.2.2.2.2.2.2.2.2.2.2.2.1 x.2.2.2.2.2.2.2.2.2.2.2.2.2.1 x.2.2.2.2.2.2.2.2.2.2.2.2.2.2.1) (go0 x.1 x.2.1 x.2.2.1 x.2.2.2.1 x.2.2.2.2.1 x.2.2.2.2.2.1 x.2.2.2.2.2.2.1 x.2.2.2.2.2.2.2.1 x.2.2.2.2.2.2.2.2.1 x.2.2.2.2.2.2.2.2.2.1 x.2.2.2.2.2.2.2.2.2.2.1 x.2.2.2.2.2.2.2.2.2.2.2.1 x.2.2.2.2.2.2.2.2.2.2.2.2.1 x.2.2.2.2.2.2.2.2.2.2.2.2.2.1 x.2.2.2.2.2.2.2.2.2.2.2.2.2.2.1)) genN
def anns(c q:Nat):FuncId→FA:=annsL [(24,⟨annOf [(0,⟨kx 37 [3,4],[],[]⟩,⟨[],[],[]⟩)],none,[]⟩),(75,⟨annOf [(0,⟨kx 28 [0,3,15,16,17],[],[7,8]⟩,⟨kx 28 [6],[],[7,8]⟩)],some (.gen (genT 7 (gG c q))),[]⟩)]
def tb(c:Nat):List (FuncId×Entry):=[(47,jM.E c),(49,uz.E c)]
def abJ(c q:Nat):List (Nat×(St→Option LTE)):=[(0,sumE sh1 fun(p:Int×(List EX)×Int×Int×Int×fi×Int×(List EX)×Int×Int×Int×fi×Int×(List EX)×Unit)=>⟨Bool×(Int×Unit)×(Unit)×Unit,l1 c (g0 c q) p.1 p.2.1 p.2.2.1 p.2.2.2.2.1 p.2.2.2.2.2.1 p.2.2.2.2.2.2.1 p.2.2.2.2.2.2.2.1 p.2.2.2.2.2.2.2.2.1 p.2.2.2.2.2.2.2.2.2.1 p.2.2.2.2.2.2.2.2.2.2.1 p.2.2.2.2.2.2.2.2.2.2.2.1 p.2.2.2.2.2.2.2.2.2.2.2.2.1 p.2.2.2.2.2.2.2.2.2.2.2.2.2.1 (c+40) p.2.2.2.1,o1 p.1 p.2.1 p.2.2.1 p.2.2.2.2.1 p.2.2.2.2.2.1 p.2.2.2.2.2.2.1 p.2.2.2.2.2.2.2.1 p.2.2.2.2.2.2.2.2.1 p.2.2.2.2.2.2.2.2.2.1 p.2.2.2.2.2.2.2.2.2.2.1 p.2.2.2.2.2.2.2.2.2.2.2.1 p.2.2.2.2.2.2.2.2.2.2.2.2.1 p.2.2.2.2.2.2.2.2.2.2.2.2.2.1⟩)]
def ls(c q:Nat):List (Nat×FuncId×Sums):=[(13,75,sumsL (abJ c q))]
def it1{ρ:Type}(c q n:Nat)(a:St)(k:KE ρ):Option ρ:=itG (anns c q) (ls c q) (tb c) c 13 75 0 9 (sumsL (abJ c q)) n a k
theorem t1{ρ:Type}(c q n:Nat)(o:Int)(p:List EX)(r s g:Int)(h:fi)(i:Int)(j:List EX)(l m a:Int)(d:fi)(e:Int)(f:List EX)(k:KE ρ):it1 c q (n+1) (S1 (o,p,r,s,g,h,i,j,l,m,a,d,e,f,())) k=r1 c (g0 c q) o p r g h i j l m a d e f s (fun u=>it1 c q n (S1 (o,p,r,u,g,h,i,j,l,m,a,d,e,f,())) k) (fun t=>k .ret (xh0.b (false,g,h,i,j,l,t,a,d,e,f,()))) (k (.exit 0) (xh1.b (g,h,i,j,l,m,a,d,e,f,()))):=θ
theorem u1{ρ:Type}(c q:Nat)(f:Int)(g:List EX)(h i:Int)(j:fi)(l:Int)(m:List EX)(o p a:Int)(b:fi)(d:Int)(e:List EX)(k:KE ρ):∀ (n:Nat) (r:Int),it1 c q n (S1 (f,g,h,r,i,j,l,m,o,p,a,b,d,e,())) k=bd (l1 c (g0 c q) f g h i j l m o p a b d e n r) fun y=>altK k (o1 f g h i j l m o p a b d e y)
 | 0,_=>by rw[l1,bd_none];rfl
 | n+1,r=>by
  rw[t1];simp only[l1,r1,u1 c q f g h i j l m o p a b d e k n,bd_br,bd_bd,bd_some',bd_none,br_t,br_f,o1,altK]
theorem sl(c q:Nat):SL (anns c q) (ls c q) (tb c) c (ls c q):=slC (laC (fun _=>θ) (fun _ (x:Int×(List EX)×Int×Int×Int×fi×Int×(List EX)×Int×Int×Int×fi×Int×(List EX)×Unit) k=>dN (u1 c q x.1 x.2.1 x.2.2.1 x.2.2.2.2.1 x.2.2.2.2.2.1 x.2.2.2.2.2.2.1 x.2.2.2.2.2.2.2.1 x.2.2.2.2.2.2.2.2.1 x.2.2.2.2.2.2.2.2.2.1 x.2.2.2.2.2.2.2.2.2.2.1 x.2.2.2.2.2.2.2.2.2.2.2.1 x.2.2.2.2.2.2.2.2.2.2.2.2.1 x.2.2.2.2.2.2.2.2.2.2.2.2.2.1 k (c+40) x.2.2.2.1)) laN) slN
theorem gt0{ρ:Type}(c q:Nat)(n:Int)(o:Int)(p:fi)(r:Int)(s:List EX)(h:Int)(i:fi)(j:Int)(l:List EX)(m:Int)(g:Int)(a:Int)(d:fi)(e:Int)(f:List EX)(k:KO ρ):bodyG (anns c q) (ls c q) (tb c) c 13 75 (S0 (n,o,p,r,s,h,i,j,l,m,g,a,d,e,f,())) (cutK 7 k)=gr0 c (g0 c q) n o p r s h i j l m g a d e f (fun t=>kG k (xh2.b (false,h,i,j,l,m,t,a,d,e,f,()))) (kG k (xh3.b (true,h,i,j,l,m,g,a,d,e,f,()))):=θ
theorem gu0{ρ:Type}(c q:Nat)(g:Int)(h:Int)(i:fi)(j:Int)(l:List EX)(m:Int)(n:fi)(o:Int)(p:List EX)(r:Int)(a:Int)(b:Int)(d:fi)(e:Int)(f:List EX)(k:KO ρ):bodyG (anns c q) (ls c q) (tb c) c 13 75 (S0 (g,h,i,j,l,m,n,o,p,r,a,b,d,e,f,())) (cutK 7 k)=resK (.bnd _ (g0 c (q+1) g h i j l m n o p r a b d e f) (go0 g h i j l m n o p r a b d e f)) k:=by
 rw[gt0];simp only[resK,g0,gr0,bd_br,bd_bd,bd_some',bd_none,br_t,br_f,go0,agJ]
theorem gz(c:Nat):Gen0 (gG c 0):=(agT (fun _=>rfl) agU)
theorem ga(c q:Nat):GenAt (anns c q) (ls c q) (tb c) c 13 75 7 (gG c (q+1)):=(aff (fun _=>θ) (fun _ (x:Int×Int×fi×Int×(List EX)×Int×fi×Int×(List EX)×Int×Int×Int×fi×Int×(List EX)×Unit) k=>dN (gu0 c q x.1 x.2.1 x.2.2.1 x.2.2.2.1 x.2.2.2.2.1 x.2.2.2.2.2.1 x.2.2.2.2.2.2.1 x.2.2.2.2.2.2.2.1 x.2.2.2.2.2.2.2.2.1 x.2.2.2.2.2.2.2.2.2.1 x.2.2.2.2.2.2.2.2.2.2.1 x.2.2.2.2.2.2.2.2.2.2.2.1 x.2.2.2.2.2.2.2.2.2.2.2.2.1 x.2.2.2.2.2.2.2.2.2.2.2.2.2.1 x.2.2.2.2.2.2.2.2.2.2.2.2.2.2.1 k)) afg)
theorem gok(c:Nat):∀ q,SpkOK y5 TabG (.gen (genT 7 (gG c q))) 75
 | 0=>aaZ (afh (gz c))
 | q+1=>aaZ (genOK (tC (jM.ok c) (tC (uz.ok c) tN)) (aoC (aoP (gok c q) aoN)) (sl c q) (ga c q))
def f(c:Nat)(a:EX)(b:Int):fo Int:=br (decide (b < 0)) (some (2,())) (br (decide (b > 12)) (some (2,())) (bd (jM.f c (EX.mk a.i a.s a.j a.l)) fun r1=>br (decide (r1.1 > 64)) (some (5,())) (br (decide (r1.2.1 > 16)) (some (12,())) (bd (g0 c (c+40) 1 a.i a.s a.j a.l a.i a.s a.j a.l b 0 a.i a.s a.j a.l) fun d=>br d.1 (some (d.2.1.1,())) (some (0,()))))))
def E(c:Nat):Entry:=⟨[(.rc false),(.int .i64)],[(.int .i64)],fun x=>f c x.1 x.2.1⟩
theorem ok(c:Nat):Ok 24 (E c):=okL (an:=anns c (c+40)) (ls:=ls c (c+40)) (tb:=tb c) (tC (jM.ok c) (tC (uz.ok c) tN)) (aoC (aoP (gok c (c+40)) aoN)) (sl c (c+40)) fun x=>θ
end eF
end
end Go.Q
namespace Go.Q
open Go Go.RowKit
open Go.Rx (br bd sIdx sCat sCut iQuo iRem iShl)
noncomputable section
namespace yg
def l:List ((EX×Unit)×(EX×Unit)):=[((ck_c.c1,()),(ck_c.c1,())),((ck_c.c42,()),(ck_c.c42,())),((ck_c.c3,()),(ck_c.c3,())),((ck_c.c38,()),(ck_c.c38,()))]
def f(c:Nat)(a:EX):fo EX:=pick [(.rc false)] l (a,())
def E(c:Nat):Entry:=⟨[(.rc false)],[(.rc false)],fun x=>f c x.1⟩
def tb(c:Nat):List (FuncId×Entry):=[]
abbrev an:FuncId→FA:=annsL [(192,⟨annOf [(0,⟨kx 24 [2,3,9,10,11],[⟨.ref 2 3,(.rc false),26⟩],[0]⟩,⟨kx 24 [2,3],[⟨.ref 2 3,(.rc false),26⟩],[0]⟩)],none,[]⟩)]
theorem ok(c:Nat):Ok 192 (E c):=okP (an:=an) (tb:=tb c) (lf:=c) tN (aoC aoN) (l:=l) (fun _=>rfl) (fun _=>rfl) ⟨by as_aux_lemma=>kernel_rfl,by as_aux_lemma=>kernel_rfl,by as_aux_lemma=>kernel_rfl,by as_aux_lemma=>kernel_rfl,trivial⟩
end yg
namespace aaA
def l:List ((Int×EX×EX×Unit)×(CX×Unit)):=[((3,ck_c.c1,ck_c.c42,()),(ck_c.c43,())),((4,ck_c.c1,ck_c.c3,()),(ck_c.c47,())),((4,ck_c.c38,ck_c.c1,()),(ck_c.c48,()))]
def f(c:Nat)(a:Int)(b:EX)(d:EX):fo CX:=pick [(.int .i64),(.rc false),(.rc false)] l (a,b,d,())
def E(c:Nat):Entry:=⟨[(.int .i64),(.rc false),(.rc false)],[(.rc true)],fun x=>f c x.1 x.2.1 x.2.2.1⟩
def tb(c:Nat):List (FuncId×Entry):=[(192,yg.E 1000)]
abbrev an:FuncId→FA:=annsL []
theorem ok(c:Nat):Ok 108 (E c):=okP (an:=an) (tb:=tb c) (lf:=c) (tC (yg.ok 1000) tN) aoN (l:=l) (fun _=>rfl) (fun _=>rfl) ⟨by as_aux_lemma=>kernel_rfl,by as_aux_lemma=>kernel_rfl,by as_aux_lemma=>kernel_rfl,trivial⟩
end aaA
namespace wM
def l:List ((CX×Bool×Unit)×(CX×Unit)):=[((ck_c.c43,false,()),(ck_c.c43,())),((ck_c.c49,false,()),(ck_c.c49,()))]
def f(c:Nat)(a:CX)(b:Bool):fo CX:=pick [(.rc true),.bool] l (a,b,())
def E(c:Nat):Entry:=⟨[(.rc true),.bool],[(.rc true)],fun x=>f c x.1 x.2.1⟩
def tb(c:Nat):List (FuncId×Entry):=[(108,aaA.E 1000)]
abbrev an:FuncId→FA:=annsL [(66,⟨annOf [(0,⟨kx 82 [1,4,6,34,35,36],[⟨.ref 2 2,(.rc true),56⟩],[0]⟩,⟨kx 82 [4,6],[⟨.ref 2 2,(.rc true),56⟩],[0]⟩)],none,[]⟩)]
theorem ok(c:Nat):Ok 66 (E c):=okP (an:=an) (tb:=tb c) (lf:=c) (tC (aaA.ok 1000) tN) (aoC aoN) (l:=l) (fun _=>rfl) (fun _=>rfl) ⟨by as_aux_lemma=>kernel_rfl,by as_aux_lemma=>kernel_rfl,trivial⟩
end wM
namespace wL
def l:List ((CX×Int×Unit)×(CX×Int×Unit)):=[((ck_c.c43,2,()),(ck_c.c43,0,())),((ck_c.c49,2,()),(ck_c.c49,0,()))]
def f(c:Nat)(a:CX)(b:Int):Option (CX×Int×Unit):=pick [(.rc true),(.int .i64)] l (a,b,())
def E(c:Nat):Entry:=⟨[(.rc true),(.int .i64)],[(.rc true),(.int .i64)],fun x=>f c x.1 x.2.1⟩
def tb(c:Nat):List (FuncId×Entry):=[(24,eF.E 1000),(47,jM.E 1000),(66,wM.E 1000)]
abbrev an:FuncId→FA:=annsL [(65,⟨annOf [(0,⟨kx 75 [3,4,7],[],[]⟩,⟨[],[],[]⟩)],none,[]⟩)]
theorem ok(c:Nat):Ok 37 (E c):=okP (an:=an) (tb:=tb c) (lf:=c) (tC (eF.ok 1000) (tC (jM.ok 1000) (tC (wM.ok 1000) tN))) (aoC aoN) (l:=l) (fun _=>rfl) (fun _=>rfl) ⟨by as_aux_lemma=>kernel_rfl,by as_aux_lemma=>kernel_rfl,trivial⟩
end wL
end
end Go.Q
namespace Go.Q
open Go Go.RowKit
open Go.Rx (br bd sIdx sCat sCut iQuo iRem iShl)
noncomputable section
namespace qY
def f(c:Nat)(m:Int)(l:TV)(j:TV)(k:TV):Option (TV×TV×Unit):=br (m==3) (bd (pK.f c 4 l k) fun a=>bd (gq.f c j a.1) fun b=>bd (pK.f c 4 l j) fun d=>bd (gq.f c k d.1) fun e=>some (b.1,e.1,())) (br (m==4) (bd (pK.f c 3 l k) fun a=>bd (gq.f c j a.1) fun b=>bd (pK.f c 4 j l) fun d=>bd (gq.f c k d.1) fun e=>some (b.1,e.1,())) (br (m==5) (bd (pW.f c j) fun a=>br (!(a.1.toList==(⟨#[]⟩:fi).toList)) (br (!(a.1.toList==(⟨#[48]⟩:fi).toList)) (bd (pV.f c l a.1) fun b=>bd (gq.f c k b.1) fun d=>bd (pW.f c k) fun e=>br (e.1.toList==(⟨#[]⟩:fi).toList) (some (j,d.1,())) (br (e.1.toList==(⟨#[48]⟩:fi).toList) (some (j,d.1,())) (br (m==5) (bd (pV.f c l e.1) fun g=>bd (gq.f c j g.1) fun h=>some (h.1,d.1,())) (bd (sIdx e.1 0) fun g=>br (((g.toNat:Nat):Int) != 45) (bd (pJ.f c l e.1) fun h=>bd (gq.f c j h.1) fun i=>some (i.1,d.1,())) (some (j,d.1,())))))) (bd (pW.f c k) fun b=>br (b.1.toList==(⟨#[]⟩:fi).toList) (some (j,k,())) (br (b.1.toList==(⟨#[48]⟩:fi).toList) (some (j,k,())) (br (m==5) (bd (pV.f c l b.1) fun d=>bd (gq.f c j d.1) fun e=>some (e.1,k,())) (bd (sIdx b.1 0) fun d=>br (((d.toNat:Nat):Int) != 45) (bd (pJ.f c l b.1) fun e=>bd (gq.f c j e.1) fun g=>some (g.1,k,())) (some (j,k,()))))))) (bd (pW.f c k) fun b=>br (b.1.toList==(⟨#[]⟩:fi).toList) (some (j,k,())) (br (b.1.toList==(⟨#[48]⟩:fi).toList) (some (j,k,())) (br (m==5) (bd (pV.f c l b.1) fun d=>bd (gq.f c j d.1) fun e=>some (e.1,k,())) (bd (sIdx b.1 0) fun d=>br (((d.toNat:Nat):Int) != 45) (bd (pJ.f c l b.1) fun e=>bd (gq.f c j e.1) fun g=>some (g.1,k,())) (some (j,k,()))))))) (br (m==6) (bd (pW.f c k) fun a=>br (a.1.toList==(⟨#[]⟩:fi).toList) (some (j,k,())) (br (a.1.toList==(⟨#[48]⟩:fi).toList) (some (j,k,())) (br (m==5) (bd (pV.f c l a.1) fun b=>bd (gq.f c j b.1) fun d=>some (d.1,k,())) (bd (sIdx a.1 0) fun b=>br (((b.toNat:Nat):Int) != 45) (bd (pJ.f c l a.1) fun d=>bd (gq.f c j d.1) fun e=>some (e.1,k,())) (some (j,k,())))))) (some (j,k,())))))
def E(c:Nat):Entry:=⟨[(.int .i64),yV,yV,yV],[yV,yV],fun x=>f c x.1 x.2.1 x.2.2.1 x.2.2.2.1⟩
theorem ok(c:Nat):Ok 70 (E c):=fp c (tC (gq.ok c) (tC (pK.ok c) (tC (pW.ok c) (tC (pV.ok c) (tC (pJ.ok c) tN))))) fun x=>θ
end qY
namespace bn
def fb(c:Nat)(u:(List TV)→EX→TV→Option ((List TV)×Bool×Unit))(t:List TV)(r:EX)(v:TV):Option ((List TV)×Bool×Unit):=bd (aY.f c t (EX.mk r.i r.s r.j r.l)) fun a=>bd (nS.f c v a.1) fun b=>bd (eG.f c b.1 b.2.1) fun d=>br d.1.1.1 (some ([],false,())) (br (r.i==0) (some (t,true,())) (br (r.i==1) (bd (jI.f c t r.j d.1) fun e=>some (e.1,e.2.1,())) (br (r.i==2) (bd (idxL r.l 0) fun e=>bd (uJ.f c d.1) fun g=>bd (eG.f c g.1 g.2.1) fun h=>bd (u t (EX.mk e.i e.s e.j e.l) h.1) fun k=>some (k.1,k.2.1,())) (bd (idxL r.l 0) fun e=>bd (aY.f c t (EX.mk e.i e.s e.j e.l)) fun g=>bd (idxL r.l 1) fun h=>bd (aY.f c t (EX.mk h.i h.s h.j h.l)) fun k=>bd (qY.f c r.i d.1 g.1 k.1) fun m=>bd (idxL r.l 0) fun n=>bd (u t (EX.mk n.i n.s n.j n.l) m.1) fun o=>br (!o.2.1) (some ([],false,())) (bd (idxL r.l 1) fun p=>bd (u o.1 (EX.mk p.i p.s p.j p.l) m.2.1) fun q=>some (q.1,q.2.1,()))))))
def f(c:Nat):(List TV)→EX→TV→Option ((List TV)×Bool×Unit):=c.rec (fun _ _ _=>none) fun c a=>fb c a
def E(c:Nat):Entry:=⟨[(.sl yV),(.rc false),yV],[(.sl yV),.bool],fun x=>f c x.1 x.2.1 x.2.2.1⟩
def anns:FuncId→FA:=annsL [(41,⟨annOf [],none,[13]⟩)]
theorem ok:∀ c:Nat,Ok 41 (E c)
 | 0=>okZ fun _=>rfl
 | c+1=>okT (an:=anns) (lf:=c) (tC (aY.ok c) (tC (jI.ok c) (tC (ok c) (tC (nS.ok c) (tC (eG.ok c) (tC (uJ.ok c) (tC (qY.ok c) tN))))))) (aoC aoN) fun x=>θ
end bn
namespace jH
def f(c:Nat)(m:List TV)(n:Int)(h:EX)(k:EX):Option ((List TV)×Bool×Unit):=bd (aY.f c m (EX.mk h.i h.s h.j h.l)) fun a=>bd (aY.f c m (EX.mk k.i k.s k.j k.l)) fun b=>bd (um.f c n a.1 b.1) fun d=>br d.1.1.1 (some ([],false,())) (bd (bn.f c m (EX.mk h.i h.s h.j h.l) d.1) fun e=>br (!e.2.1) (some ([],false,())) (bd (bn.f c e.1 (EX.mk k.i k.s k.j k.l) d.2.1) fun g=>some (g.1,g.2.1,())))
def E(c:Nat):Entry:=⟨[(.sl yV),(.int .i64),(.rc false),(.rc false)],[(.sl yV),.bool],fun x=>f c x.1 x.2.1 x.2.2.1 x.2.2.2.1⟩
theorem ok(c:Nat):Ok 26 (E c):=fp c (tC (aY.ok c) (tC (bn.ok c) (tC (um.ok c) tN))) fun x=>θ
end jH
namespace uS
def f(c:Nat)(m:List TV)(n:Int)(h:EX)(k:EX):Option ((List TV)×Bool×Int×Unit):=bd (jC.f c m) fun a=>br (a.1 != 0) (some ([],false,a.1,())) (br (decide (n < 2)) (some ([],false,1,())) (br (decide (n > 5)) (some ([],false,1,())) (bd (eF.f c (EX.mk h.i h.s h.j h.l) (m.length:Int)) fun b=>br (b.1 != 0) (some ([],false,b.1,())) (bd (eF.f c (EX.mk k.i k.s k.j k.l) (m.length:Int)) fun d=>br (d.1 != 0) (some ([],false,d.1,())) (bd (jH.f c m n (EX.mk h.i h.s h.j h.l) (EX.mk k.i k.s k.j k.l)) fun e=>bd (lH.f c e.1 e.2.1) fun g=>some (g.1,g.2.1,g.2.2.1,()))))))
def E(c:Nat):Entry:=⟨[(.sl yV),(.int .i64),(.rc false),(.rc false)],[(.sl yV),.bool,(.int .i64)],fun x=>f c x.1 x.2.1 x.2.2.1 x.2.2.2.1⟩
theorem ok(c:Nat):Ok 7 (E c):=fp c (tC (jC.ok c) (tC (eF.ok c) (tC (lH.ok c) (tC (jH.ok c) tN)))) fun x=>θ
end uS
namespace pU
def l:List (((List TV)×CX×Unit)×((List TV)×Bool×Unit)):=[((ck_c.c13,ck_c.c43,()),(ck_c.c46,true,())),((ck_c.c13,ck_c.c47,()),(ck_c.c51,true,())),((ck_c.c13,ck_c.c48,()),(ck_c.c54,true,())),((ck_c.c13,ck_c.c49,()),(ck_c.c13,true,()))]
def f(c:Nat)(a:List TV)(b:CX):Option ((List TV)×Bool×Unit):=pick [(.sl yV),(.rc true)] l (a,b,())
def E(c:Nat):Entry:=⟨[(.sl yV),(.rc true)],[(.sl yV),.bool],fun x=>f c x.1 x.2.1⟩
def tb(c:Nat):List (FuncId×Entry):=[(26,jH.E 1000),(62,eG.E 1000),(109,zM.E 1000)]
abbrev an:FuncId→FA:=annsL [(45,⟨annOf [(0,⟨kx 38 [0,1,2,8,12,13],[⟨.tmp 8,yV,44⟩],[]⟩,⟨kx 38 [6,7,8],[⟨.tmp 8,yV,44⟩],[]⟩)],none,[]⟩)]
theorem ok(c:Nat):Ok 38 (E c):=okP (an:=an) (tb:=tb c) (lf:=c) (tC (jH.ok 1000) (tC (eG.ok 1000) (tC (zM.ok 1000) tN))) (aoC aoN) (l:=l) (fun _=>rfl) (fun _=>rfl) ⟨by as_aux_lemma=>kernel_rfl,by as_aux_lemma=>kernel_rfl,by as_aux_lemma=>kernel_rfl,by as_aux_lemma=>kernel_rfl,trivial⟩
end pU
namespace zV
def l:List (((List TV)×EX×Unit)×(TV×Int×Unit)):=[((ck_c.c13,ck_c.c7,()),(ck_c.c19,0,())),((ck_c.c13,ck_c.c56,()),(ck_c.c57,0,()))]
def f(c:Nat)(a:List TV)(b:EX):Option (TV×Int×Unit):=pick [(.sl yV),(.rc false)] l (a,b,())
def E(c:Nat):Entry:=⟨[(.sl yV),(.rc false)],[yV,(.int .i64)],fun x=>f c x.1 x.2.1⟩
def tb(c:Nat):List (FuncId×Entry):=[(23,jC.E 1000),(24,eF.E 1000),(34,aY.E 1000)]
abbrev an:FuncId→FA:=annsL []
theorem ok(c:Nat):Ok 15 (E c):=okP (an:=an) (tb:=tb c) (lf:=c) (tC (jC.ok 1000) (tC (eF.ok 1000) (tC (aY.ok 1000) tN))) aoN (l:=l) (fun _=>rfl) (fun _=>rfl) ⟨by as_aux_lemma=>kernel_rfl,by as_aux_lemma=>kernel_rfl,trivial⟩
end zV
namespace zG
def l:List (((List TV)×Int×EX×Unit)×((List TV)×Bool×Int×Unit)):=[((ck_c.c13,0,ck_c.c21,()),(ck_c.c23,true,0,()))]
def f(c:Nat)(a:List TV)(b:Int)(d:EX):Option ((List TV)×Bool×Int×Unit):=pick [(.sl yV),(.int .i64),(.rc false)] l (a,b,d,())
def E(c:Nat):Entry:=⟨[(.sl yV),(.int .i64),(.rc false)],[(.sl yV),.bool,(.int .i64)],fun x=>f c x.1 x.2.1 x.2.2.1⟩
def tb(c:Nat):List (FuncId×Entry):=[(23,jC.E 1000),(24,eF.E 1000),(34,aY.E 1000),(36,jI.E 1000)]
abbrev an:FuncId→FA:=annsL []
theorem ok(c:Nat):Ok 17 (E c):=okP (an:=an) (tb:=tb c) (lf:=c) (tC (jC.ok 1000) (tC (eF.ok 1000) (tC (aY.ok 1000) (tC (jI.ok 1000) tN)))) aoN (l:=l) (fun _=>rfl) (fun _=>rfl) ⟨by as_aux_lemma=>kernel_rfl,trivial⟩
end zG
namespace xI
def l:List (((List TV)×CX×Unit)×((List TV)×Bool×Int×Unit)):=[((ck_c.c13,ck_c.c43,()),(ck_c.c46,true,0,())),((ck_c.c13,ck_c.c49,()),(ck_c.c13,true,0,()))]
def f(c:Nat)(a:List TV)(b:CX):Option ((List TV)×Bool×Int×Unit):=pick [(.sl yV),(.rc true)] l (a,b,())
def E(c:Nat):Entry:=⟨[(.sl yV),(.rc true)],[(.sl yV),.bool,(.int .i64)],fun x=>f c x.1 x.2.1⟩
def tb(c:Nat):List (FuncId×Entry):=[(23,jC.E 1000),(25,lH.E 1000),(37,wL.E 1000),(38,pU.E 1000)]
abbrev an:FuncId→FA:=annsL []
theorem ok(c:Nat):Ok 18 (E c):=okP (an:=an) (tb:=tb c) (lf:=c) (tC (jC.ok 1000) (tC (lH.ok 1000) (tC (wL.ok 1000) (tC (pU.ok 1000) tN)))) aoN (l:=l) (fun _=>rfl) (fun _=>rfl) ⟨by as_aux_lemma=>kernel_rfl,by as_aux_lemma=>kernel_rfl,trivial⟩
end xI
namespace zH
def l:List (((List TV)×EX×TV×Unit)×((List TV)×Bool×Int×Unit)):=[((ck_c.c13,ck_c.c58,ck_c.c57,()),(ck_c.c61,true,0,()))]
def f(c:Nat)(a:List TV)(b:EX)(d:TV):Option ((List TV)×Bool×Int×Unit):=pick [(.sl yV),(.rc false),yV] l (a,b,d,())
def E(c:Nat):Entry:=⟨[(.sl yV),(.rc false),yV],[(.sl yV),.bool,(.int .i64)],fun x=>f c x.1 x.2.1 x.2.2.1⟩
def tb(c:Nat):List (FuncId×Entry):=[(23,jC.E 1000),(24,eF.E 1000),(25,lH.E 1000),(40,iT.E 1000),(41,bn.E 1000)]
abbrev an:FuncId→FA:=annsL []
theorem ok(c:Nat):Ok 21 (E c):=okP (an:=an) (tb:=tb c) (lf:=c) (tC (jC.ok 1000) (tC (eF.ok 1000) (tC (lH.ok 1000) (tC (iT.ok 1000) (tC (bn.ok 1000) tN))))) aoN (l:=l) (fun _=>rfl) (fun _=>rfl) ⟨by as_aux_lemma=>kernel_rfl,trivial⟩
end zH
end
end Go.Q
namespace Go.Q
open Go Go.RowKit
open Go.Rx (br bd sIdx sCat sCut iQuo iRem iShl)
noncomputable section
namespace abu
def l:List (((List TV)×(List TV)×Int×EX×Unit)×((List TV)×Bool×Int×Unit)):=[((ck_c.c13,ck_c.c13,1,ck_c.c62,()),(ck_c.c69,true,0,()))]
def f(c:Nat)(a:List TV)(b:List TV)(d:Int)(e:EX):Option ((List TV)×Bool×Int×Unit):=pick [(.sl yV),(.sl yV),(.int .i64),(.rc false)] l (a,b,d,e,())
def E(c:Nat):Entry:=⟨[(.sl yV),(.sl yV),(.int .i64),(.rc false)],[(.sl yV),.bool,(.int .i64)],fun x=>f c x.1 x.2.1 x.2.2.1 x.2.2.2.1⟩
def tb(c:Nat):List (FuncId×Entry):=[(23,jC.E 1000),(24,eF.E 1000),(25,lH.E 1000),(41,bn.E 1000),(44,vK.E 1000),(46,nS.E 1000),(62,eG.E 1000)]
abbrev an:FuncId→FA:=annsL [(45,⟨annOf [(0,⟨kx 38 [0,1,2,8,12,13],[⟨.tmp 8,yV,44⟩],[]⟩,⟨kx 38 [6,7,8],[⟨.tmp 8,yV,44⟩],[]⟩)],none,[]⟩)]
theorem ok(c:Nat):Ok 22 (E c):=okP (an:=an) (tb:=tb c) (lf:=c) (tC (jC.ok 1000) (tC (eF.ok 1000) (tC (lH.ok 1000) (tC (bn.ok 1000) (tC (vK.ok 1000) (tC (nS.ok 1000) (tC (eG.ok 1000) tN))))))) (aoC aoN) (l:=l) (fun _=>rfl) (fun _=>rfl) ⟨by as_aux_lemma=>kernel_rfl,trivial⟩
end abu
end
end Go.Q
