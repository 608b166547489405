/-
  A condition generator for functions on trees of data, part 5 of 5: values in memory, contracts, soundness.
-/
import Derived.Test.YtniaaknbbceigaaGreatVD
set_option linter.all false
/-
 Trees of data: their size, marks written into all their rows.
-/
namespace Go.V
mutual
def cv :L->Nat
 | .s _ es=>es.length+aH es
 |_=>0
def bR :(List L)->Nat
 |[]=>0
 |l::ls=>cv l+bR ls
def aH :List (List L)->Nat
 |[]=>0
 |e::es=>bR e+aH es
end
def aj (es:List (List L)):Nat:=es.length+aH es
def ao :List (List (List L))->Nat
 |[]=>0
 |r::rs=>aj r+ao rs
def aZ (rs:List (List (List L)))(left:Int):Int:=if left<ao rs then-1 else left-ao rs
mutual
def eT :L->Int->L×Int
 | .v (.int kd _),k=>(.v (.int kd k),k+1)
 | .v (.bool _),k=>(.v (.bool (k.tmod 3==0)),k+1)
 | .s sz es,k=>(.s sz (cy es k).1,(cy es k).2)
 |l,k=>(l,k)
def fJ :(List L)->Int->(List L)×Int
 |[],k=>([],k)
 |l::ls,k=>((eT l k).1::(fJ ls (eT l k).2).1,(fJ ls (eT l k).2).2)
def cy :List (List L)->Int->List (List L)×Int
 |[],k=>([],k)
 |e::es,k=>((fJ e k).1::(cy es (fJ e k).2).1,(cy es (fJ e k).2).2)
end
def bN (es:List (List L))(k:Int):List (List L):=(cy es k).1
def aS :List (List (List L))->Int->Int
 |[],k=>k
 |r::rs,k=>aS rs (cy r k).2
theorem dV :∀ {a b:List (List L)},aH (a++b)=aH a+aH b
 |[],b=>by simp[aH]
 |e::a,b=>by simp[aH,dV (a:=a),Nat.add_assoc]
theorem iI :∀ {a b:List (List (List L))},ao (a++b)=ao a+ao b
 |[],b=>by simp[ao]
 |e::a,b=>by simp[ao,iI (a:=a),Nat.add_assoc]
theorem cz {r:List (List L)}:ao [r]=aj r:=by simp[ao]
theorem AU :∀ {ls:(List L)} {j:Nat} {l:L},ls[j]?=some l->cv l<=bR ls
 |[],j,l,h=>by simp at h
 |x::ls,0,l,h=>by simp at h;subst h;simp[bR]
 |x::ls,j+1,l,h=>by simp at h;have:=AU h;simp[bR];omega
theorem eo {a:List (List (List L))}{left:Int}:aZ a left<0↔left<ao a:=by
 unfold aZ;split<;>omega
theorem kM {a:List (List (List L))}{left:Int}(h:0<=aZ a left):aZ a left=left-ao a:=by
 unfold aZ at*;split at h
 ·omega
 ·rename_i c;rw[if_neg c]
theorem eh {a b:List (List (List L))}{left:Int}(h:0<=aZ a left):aZ b (aZ a left)=aZ (a++b) left:=by
 rw[kM h];unfold aZ;rw[iI];split<;>split<;>omega
theorem dC {a b:List (List (List L))}{left:Int}(h:aZ a left<0):aZ (a++b) left= -1:=by
 rw[eo]at h;unfold aZ;rw[iI,if_pos (by omega)]
theorem dD {a:List (List (List L))}{left:Int}(h:aZ a left<0):aZ a left= -1:=by
 rw[eo]at h;unfold aZ;rw[if_pos (by omega)]
theorem lO {a:List (List (List L))}{left:Int}(h:0<=aZ a left):aZ a left<=left:=by rw[kM h];omega
theorem gR :∀ {a b:List (List L)} {k:Int},cy (a++b) k=((cy a k).1++(cy b (cy a k).2).1,(cy b (cy a k).2).2)
 |[],b,k=>by simp[cy]
 |e::a,b,k=>by simp[cy,gR (a:=a)]
theorem dO :∀ {a b:List (List (List L))} {k:Int},aS b (aS a k)=aS (a++b) k
 |[],b,k=>rfl
 |r::a,b,k=>by simp only[aS,List.cons_append];exact dO
theorem ez :∀ {es:List (List L)} {k:Int},(cy es k).1.length=es.length
 |[],k=>rfl
 |e::es,k=>by simp[cy,ez (es:=es)]
theorem cB {es:List (List L)}{k:Int}:(bN es k).length=es.length:=ez
def dQ (es:List (List L))(k:Int)(n:Nat):List (List L):=(cy (es.take n) k).1++es.drop n
def gP (es:List (List L))(k:Int)(n:Nat):Int:=(cy (es.take n) k).2
theorem cU {es:List (List L)}{k:Int}:dQ es k 0=es:=by simp[dQ,cy]
theorem bB {es:List (List L)}{k:Int}:gP es k 0=k:=by simp[gP,cy]
theorem dz {es:List (List L)}{k:Int}:dQ es k es.length=bN es k:=by simp[dQ,bN]
theorem dY {es:List (List L)}{k:Int}:gP es k es.length=aS [es] k:=by simp[gP,aS]
theorem b9 {es:List (List L)}{k:Int}{n:Nat}(hn:n<=es.length):(dQ es k n).length=es.length:=by simp[dQ,ez];omega
theorem cT {es:List (List L)}{k:Int}{n:Nat}(hn:n<=es.length):(dQ es k n).getD n []=es.getD n []:=by
 unfold dQ;simp only[List.getD_eq_getElem?_getD];have hl:(cy (es.take n) k).1.length=n:=by rw[ez,List.length_take];omega
 rw[List.getElem?_append_right (by omega),hl];simp
theorem dA {es:List (List L)}{k:Int}{n:Nat}(hn:n<es.length):(dQ es k n).set n (fJ (es.getD n []) (gP es k n)).1=dQ es k (n+1):=by
 unfold dQ gP;have hl:(cy (es.take n) k).1.length=n:=by rw[ez,List.length_take];omega
 rw[List.set_append_right _ _ (by omega),hl,dM (d:=[]) hn,gR];simp only[Nat.sub_self];rw[List.drop_eq_getElem_cons hn,List.set_cons_zero];simp[cy]
theorem cX {es:List (List L)}{k:Int}{n:Nat}(hn:n<es.length):gP es k (n+1)=(fJ (es.getD n []) (gP es k n)).2:=by
 unfold gP;rw[dM (d:=[]) hn,gR];simp[cy]
theorem LR {es:List (List L)}{k:Int}{n:Nat}(hn:n<es.length):(bN es k).getD n []=(fJ (es.getD n []) (gP es k n)).1:=by
 have h1:es=es.take n++(es.getD n []::es.drop (n+1)):=by
  conv=>lhs;rw[<-List.take_append_drop n es,List.drop_eq_getElem_cons hn]
  simp[List.getD,hn]
 unfold bN gP
 conv=>lhs;rw[h1]
 rw[gR];simp only[List.getD_eq_getElem?_getD];have hl:(cy (es.take n) k).1.length=n:=by rw[ez,List.length_take];omega
 rw[List.getElem?_append_right (by omega),hl];simp[cy]
mutual
theorem OA :∀ (l:L) (k:Int),(eT l k).2=k+(eT l 0).2
 | .v x,k=>by cases x<;>simp[eT]
 | .s sz es,k=>by simp only[eT];exact iR es k
 | .g,k=>by simp[eT]
 | .m _ _,k=>by simp[eT]
theorem vi :∀ (ls:(List L)) (k:Int),(fJ ls k).2=k+(fJ ls 0).2
 |[],k=>by simp[fJ]
 | l::ls,k=>by
   simp only[fJ];rw[vi ls (eT l k).2,OA l k,vi ls (eT l 0).2];omega
theorem iR :∀ (es:List (List L)) (k:Int),(cy es k).2=k+(cy es 0).2
 |[],k=>by simp[cy]
 | e::es,k=>by
   simp only[cy];rw[iR es (fJ e k).2,vi e k,iR es (fJ e 0).2];omega
end
mutual
theorem LS :∀ (l:L) (k k':Int),(eT (eT l k).1 k').2=(eT l k').2
 | .v x,k,k'=>by cases x<;>simp[eT]
 | .s sz es,k,k'=>by simp only[eT];exact qW es k k'
 | .g,k,k'=>by simp[eT]
 | .m _ _,k,k'=>by simp[eT]
theorem Fg :∀ (ls:(List L)) (k k':Int),(fJ (fJ ls k).1 k').2=(fJ ls k').2
 |[],k,k'=>rfl
 |l::ls,k,k'=>by simp only[fJ];rw[Fg ls _ _,LS l k k']
theorem qW :∀ (es:List (List L)) (k k':Int),(cy (cy es k).1 k').2=(cy es k').2
 |[],k,k'=>rfl
 |e::es,k,k'=>by simp only[cy];rw[qW es _ _,Fg e k k']
end
theorem N0 {es:List (List L)}{k k':Int}:aS [bN es k] k'=aS [es] k':=qW es k k'
theorem bZ {es:List (List L)}{k:Int}{n:Nat}:gP es k n=k+gP es 0 n:=iR _ _
theorem CG :∀ {rs:List (List (List L))} {k:Int},aS rs k=k+aS rs 0
 |[],k=>by simp[aS]
 |r::rs,k=>by simp only[aS];rw[CG (k:=(cy r k).2),iR r k,CG (k:=(cy r 0).2)];omega
mutual
theorem Oz :∀ (l:L),0<=(eT l 0).2
 | .v x=>by cases x<;>simp[eT]
 | .s sz es=>by simp only[eT];exact zI es
 | .g=>by simp[eT]
 | .m _ _=>by simp[eT]
theorem Ff :∀ (ls:(List L)),0<=(fJ ls 0).2
 |[]=>by simp[fJ]
 |l::ls=>by simp only[fJ];rw[vi];have:=Oz l;have:=Ff ls;omega
theorem zI :∀ (es:List (List L)),0<=(cy es 0).2
 |[]=>by simp[cy]
 |e::es=>by simp only[cy];rw[iR];have:=Ff e;have:=zI es;omega
end
theorem HD :∀ {rs:List (List (List L))},0<=aS rs 0
 |[]=>by simp[aS]
 |r::rs=>by simp only[aS];rw[CG];have:=zI r;have:=HD (rs:=rs);omega
theorem cW {es:List (List L)}{n:Nat}(hn:n<es.length):gP es 0 n<=gP es 0 (n+1):=by
 rw[cX hn,vi];have:=Ff (es.getD n []);omega
theorem bu {es:List (List L)}:∀ {m n:Nat},n<=es.length->m<=n->gP es 0 m<=gP es 0 n
 |m,0,_,h=>by rw[show m=0 from by omega];exact Int.le_refl _
 | m,n+1,hn,h=>by
   rcases Nat.lt_or_ge m (n+1)with c|c
   ·have:=bu (es:=es) (m:=m) (n:=n) (by omega) (by omega);have:=cW (es:=es) (n:=n) (by omega);omega
   ·rw[show m=n+1 from by omega];exact Int.le_refl _
end Go.V
/-
 Rows of well-formed records; cells of rows that are written.
-/
namespace Go.V
abbrev Rw (fs:List Ty)(es:List (List L)):Prop:=es.length<=maxLen/\∀ e∈es,bS fs e
abbrev tI :Ty:=.int .i64
abbrev tB :Ty:=.bool
mutual
def zL :Ty->L
 | .int k=>.v (.int k 0)
 | .bool=>.v (.bool false)
 | .str=>.v (.string .empty)
 | .sl fs=>.s fs.length []
def zR :List Ty->(List L)
 |[]=>[]
 |t::ts=>zL t::zR ts
end
theorem xN :∀ {fs:List Ty} {e:(List L)},bS fs e->fF (zR fs) e=true
 |[],[],_=>rfl
 |[],_::_,h=>h.elim
 |_::_,[],h=>h.elim
 | t::ts,l::ls,h=>by
   obtain⟨h1,h2⟩:=h;simp only[zR,fF,Bool.and_eq_true];refine⟨?_,xN h2⟩;cases t with
   | int k=>cases l with
     | v x=>cases x with
       |int k' n=>simp only[bX]at h1;simp[zL,im,h1.1]
       |_=>simp[bX]at h1
     |_=>simp[bX]at h1
   | bool=>cases l with
     | v x=>cases x with
       |bool b=>rfl
       |_=>simp[bX]at h1
     |_=>simp[bX]at h1
   | str=>cases l with
     | v x=>cases x with
       |string b=>rfl
       |_=>simp[bX]at h1
     |_=>simp[bX]at h1
   | sl fs=>cases l with
     |s sz es=>simp only[bX]at h1;simp[zL,im,h1.1]
     |_=>simp[bX]at h1
theorem Rw.wf {fs:List Ty}{es:List (List L)}(h:Rw fs es):Wf (zR fs) es:=fun e he=>xN (h.2 e he)
theorem Rw.at {fs:List Ty}{es:List (List L)}(h:Rw fs es){n:Nat}(hn:n<es.length):bS fs (es.getD n []):=by
 refine h.2 _ ?_;rw[List.getD_eq_getElem?_getD,List.getElem?_eq_getElem hn];exact List.getElem_mem _
theorem Rw.eta {fs:List Ty}{es:List (List L)}(h:Rw fs es){i:Int}(h0:0<=i)(h1:i<es.length):es.getD i.toNat []=gX af es i 0 (zR fs):=(aw h.wf h0 h1).symm
theorem uY :∀ {fs:List Ty} {e:(List L)} {j:Nat} {gs:List Ty},bS fs e->fs[j]?=some (.sl gs)->∃ es',e[j]?=some (.s gs.length es')/\Rw gs es'
 |[],_,j,gs,_,h=>by simp at h
 |_::_,[],j,gs,h,_=>h.elim
 | t::ts,l::ls,0,gs,h,e=>by
   simp at e;subst e;have h1:=h.1;cases l with
   |s sz es=>simp only[bX]at h1;exact⟨es,by simp[h1.1],h1.2⟩
   |_=>simp[bX]at h1
 | t::ts,l::ls,j+1,gs,h,e=>by
   simp at e;obtain⟨es',h1,h2⟩:=uY h.2 e;exact⟨es',by simpa using h1,h2⟩
theorem Rw.sub {fs:List Ty}{es:List (List L)}(h:Rw fs es){i:Int}(hn:i.toNat<es.length){j:Nat}{gs:List Ty}(hj:fs[j]?=some (.sl gs)):Rw gs (ay es i j):=by
 obtain⟨es',h1,h2⟩:=uY (h.at hn) hj;unfold ay;rw[List.getD_eq_getElem?_getD (l:=es.getD i.toNat []),h1];exact h2
theorem Rw.nil {fs:List Ty}:Rw fs []:=⟨Nat.zero_le _,by simp⟩
theorem Rw.take {fs:List Ty}{es:List (List L)}(h:Rw fs es)(n:Nat):Rw fs (es.take n):=⟨by rw[List.length_take];exact Nat.le_trans (Nat.min_le_right _ _) h.1,fun e he=>h.2 e (List.mem_of_mem_take he)⟩
theorem Rw.drop {fs:List Ty}{es:List (List L)}(h:Rw fs es)(n:Nat):Rw fs (es.drop n):=⟨by rw[List.length_drop];exact Nat.le_trans (Nat.sub_le _ _) h.1,fun e he=>h.2 e (List.mem_of_mem_drop he)⟩
theorem Rw.append {fs:List Ty}{a b:List (List L)}(ha:Rw fs a)(hb:Rw fs b)(hl:a.length+b.length<=maxLen):Rw fs (a++b):=⟨by simpa using hl,fun e he=>by rcases List.mem_append.1 he with q|q;exact ha.2 e q;exact hb.2 e q⟩
theorem Rw.one {fs:List Ty}{e:(List L)}(h:bS fs e):Rw fs [e]:=⟨by simp[maxLen],by simpa using h⟩
theorem Rw.set {fs:List Ty}{es:List (List L)}(h:Rw fs es){e:(List L)}(he:bS fs e)(n:Nat):Rw fs (es.set n e):=⟨by simpa using h.1,fun x hx=>by rcases List.mem_or_eq_of_mem_set hx with q|q;exact h.2 x q;rw[q];exact he⟩
theorem Rw.replicate {fs:List Ty}{e:(List L)}(h:bS fs e){n:Nat}(hn:n<=maxLen):Rw fs (List.replicate n e):=⟨by simpa using hn,fun x hx=>by rw[List.eq_of_mem_replicate hx];exact h⟩
def oF :Ty->Bool
 | .sl _=>false
 |_=>true
theorem sx {t:Ty}{l:L}(h:bX t l)(hs:oF t=true):∃ x,l=.v x:=by
 cases t with
 |sl fs=>cases hs
 | int k=>cases l with
   |v x=>exact⟨x,rfl⟩
   |_=>simp[bX]at h
 | bool=>cases l with
   |v x=>exact⟨x,rfl⟩
   |_=>simp[bX]at h
 | str=>cases l with
   |v x=>exact⟨x,rfl⟩
   |_=>simp[bX]at h
theorem vd :∀ {fs:List Ty} {e:(List L)},fs.all oF=true->bS fs e->bR e=0
 |[],[],_,_=>rfl
 |[],_::_,_,h=>h.elim
 |_::_,[],_,h=>h.elim
 | t::ts,l::ls,hs,h=>by
   simp only[List.all_cons,Bool.and_eq_true]at hs;obtain⟨x,rfl⟩:=sx h.1 hs.1;simp only[bR,cv];rw[vd hs.2 h.2]
theorem xR {fs:List Ty}(hs:fs.all oF=true):∀ {es:List (List L)},(∀ e∈es,bS fs e)->aH es=0
 |[],_=>rfl
 |e::es,h=>by simp only[aH];rw[vd hs (h e (by simp)),xR hs (fun x hx=>h x (by simp[hx]))]
theorem Rw.cnt {fs:List Ty}{es:List (List L)}(h:Rw fs es)(hs:fs.all oF=true):aj es=es.length:=by unfold aj;rw[xR hs h.2];rfl
theorem Rw.scal {fs:List Ty}{es:List (List L)}(h:Rw fs es)(hs:fs.all oF=true):cZ es:=by
 have key:∀ {fs:List Ty} {e:(List L)},fs.all oF=true->bS fs e->mT e:=by
  intro fs
  induction fs with
  | nil=>intro e _ h;cases e with
    |nil=>trivial
    |cons _ _=>exact h.elim
  | cons t ts ih=>
    intro e hs h;cases e with
    |nil=>exact h.elim
    | cons l ls=>
      simp only[List.all_cons,Bool.and_eq_true]at hs;obtain⟨x,rfl⟩:=sx h.1 hs.1;exact(ih hs.2 h.2:mT ls)
 have:∀ {es:List (List L)},(∀ e∈es,bS fs e)->cZ es:=by
  intro es
  induction es with
  |nil=>intro _;trivial
  |cons e es ih=>intro h;exact⟨key hs (h e (by simp)),ih (fun x hx=>h x (by simp[hx]))⟩
 exact this h.2
theorem aX {es:List (List L)}{n:Nat}(hn:n<es.length):aH (es.take (n+1))=aH (es.take n)+bR (es.getD n []):=by
 rw[dM (d:=[]) hn,dV];simp[aH]
theorem ap {es:List (List L)}{n:Nat}:aH (es.take n)<=aH es:=by
 conv=>rhs;rw[<-List.take_append_drop n es,dV]
 omega
theorem dE {sz:Nat}{es:List (List L)}{n o:Nat}{new:(List L)}:CY (.s sz es) [(n,o)] new=es.set n ((es.getD n []).take o++new++(es.getD n []).drop (o+new.length)):=rfl
theorem dw {sz:Nat}{c:List (List L)}{n j:Nat}:pc (.s sz c) [(n,j)]=tV ((c.getD n []).getD j .g):=by
 unfold pc gJ;simp only[bL];cases h:c[n]? with
 |none=>simp[List.getD,h,tV]
 | some rec=>
   simp only[Option.map_some,List.getD,h,Option.getD_some];cases h2:rec[j]? with
   |none=>simp[tV]
   |some l=>cases l<;>simp[tV]
theorem aE {c:List (List L)}{n:Nat}{r:(List L)}(h:n<c.length):(c.set n r).getD n []=r:=by simp[List.getD,h]
theorem dp {sz:Nat}{c:List (List L)}{n j:Nat}{r:(List L)}(h:n<c.length):bL (.s sz (c.set n r)) [(n,j)]=some (r,j):=by simp[bL,h]
theorem dX {sz:Nat}{c:List (List L)}{n j:Nat}(h:n<c.length):bL (.s sz c) [(n,j)]=some (c.getD n [],j):=by simp[bL,List.getD,h]
theorem dy {sz:Nat}{c:List (List L)}{n j:Nat}{r:(List L)}(h:n<c.length):gJ (.s sz (c.set n r)) [(n,j)]=match r[j]? with
 |some (.s sz es)=>some (sz,es)
 |_=>none:=by unfold gJ;rw[dp h];rfl
theorem ef {sz:Nat}{c:List (List L)}{n j:Nat}(h:n<c.length):gJ (.s sz c) [(n,j)]=match(c.getD n [])[j]? with
 |some (.s sz es)=>some (sz,es)
 |_=>none:=by unfold gJ;rw[dX h];rfl
theorem ca {a b:List (List (List L))}{k:Int}(hk:0<=k):aS a k<=aS (a++b) k/\0<=aS a k:=by
 rw[<-dO,CG (rs:=b),CG (rs:=a)];have:=HD (rs:=a);have:=HD (rs:=b);omega
theorem Hq {l:L}{k:Int}{z:L}(h:im z l=true):im z (eT l k).1=true:=by
 cases l with
 |v x=>cases x<;>cases z<;>simp_all [eT,im]<;>(rename_i y;cases y<;>simp_all [im])
 |s sz es=>cases z<;>simp_all [eT,im]
 |g=>exact h
 |m _ _=>exact h
theorem A0 :∀ {z e:(List L)} {k:Int},fF z e=true->fF z (fJ e k).1=true
 |[],[],_,_=>rfl
 |[],_::_,_,h=>by simp[fF]at h
 |_::_,[],_,h=>by simp[fF]at h
 | z::zs,l::ls,k,h=>by
   simp only[fF,Bool.and_eq_true,fJ]at h ⊢;exact⟨Hq h.1,A0 h.2⟩
theorem xQ :∀ {z:(List L)} {es:List (List L)} {k:Int},Wf z es->Wf z (cy es k).1
 |z,[],_,_=>fun e he=>by cases he
 | z,e::es,k,h=>by
   intro x hx;simp only[cy,List.mem_cons]at hx;rcases hx with rfl|hx
   ·exact A0 (h e (by simp))
   ·exact xQ (fun y hy=>h y (by simp[hy])) x hx
theorem zh {fs:List Ty}{es:List (List L)}{k:Int}(h:Rw fs es):Wf (zR fs) (bN es k):=xQ h.wf
end Go.V
/-
 Marks are few; what the laws ask of rows.
-/
namespace Go.V
mutual
def Ir :Ty->Nat
 | .sl fs=>yT fs
 |_=>1
def yT :List Ty->Nat
 |[]=>0
 |t::ts=>Ir t+yT ts
end
mutual
theorem LK :∀ (t:Ty) (l:L),bX t l->(eT l 0).2<=(Ir t*(cv l+1):Nat)
 | .int k,.v x,h=>by cases x<;>simp[eT,cv,Ir]
 | .int k,.s _ _,h=>by simp[bX]at h
 | .int k,.g,h=>by simp[bX]at h
 | .bool,.v x,h=>by cases x<;>simp[eT,cv,Ir]
 | .bool,.s _ _,h=>by simp[bX]at h
 | .bool,.g,h=>by simp[bX]at h
 | .str,.v x,h=>by cases x<;>simp[eT,cv,Ir]
 | .str,.s _ _,h=>by simp[bX]at h
 | .str,.g,h=>by simp[bX]at h
 | .sl fs,.v x,h=>by simp[bX]at h
 | .sl fs,.g,h=>by simp[bX]at h
 | .sl fs,.s sz es,h=>by
   have h1:=wt fs es (by simp only[bX]at h;exact h.2.2);simp only[eT,cv,Ir];have:yT fs*(es.length+aH es)<=yT fs*(es.length+aH es+1):=Nat.mul_le_mul_left _ (by omega);omega
theorem EY :∀ (ts:List Ty) (ls:(List L)),bS ts ls->(fJ ls 0).2<=(yT ts*(bR ls+1):Nat)
 |[],[],_=>by simp only[fJ];exact Int.natCast_nonneg _
 |[],_::_,h=>h.elim
 |_::_,[],h=>h.elim
 | t::ts,l::ls,h=>by
   have h1:=LK t l h.1;have h2:=EY ts ls h.2;simp only[fJ];rw[vi];have e1:Ir t*(cv l+1)<=Ir t*(bR (l::ls)+1):=Nat.mul_le_mul_left _ (by simp[bR]);have e2:yT ts*(bR ls+1)<=yT ts*(bR (l::ls)+1):=Nat.mul_le_mul_left _ (by simp[bR]);have e3:yT (t::ts)*(bR (l::ls)+1)=Ir t*(bR (l::ls)+1)+yT ts*(bR (l::ls)+1):=by simp only[yT];rw[Nat.add_mul]
   omega
theorem wt :∀ (ts:List Ty) (es:List (List L)),(∀ e∈es,bS ts e)->(cy es 0).2<=(yT ts*(es.length+aH es):Nat)
 |ts,[],_=>by simp only[cy];exact Int.natCast_nonneg _
 | ts,e::es,h=>by
   have h1:=EY ts e (h e (by simp));have h2:=wt ts es (fun x hx=>h x (by simp[hx]));simp only[cy];rw[iR];have e3:yT ts*((e::es).length+aH (e::es))=yT ts*(bR e+1)+yT ts*(es.length+aH es):=by
    rw[<-Nat.mul_add];congr 1;simp[aH];omega
   omega
end
theorem Rw.marks {fs:List Ty}{es:List (List L)}(h:Rw fs es)(hw:yT fs<=64):(cy es 0).2<=(64*aj es:Nat):=by
 have:=wt fs es h.2;have h2:yT fs*(es.length+aH es)<=64*(es.length+aH es):=Nat.mul_le_mul_right _ hw;unfold aj;omega
theorem x7 :∀ {rs:List (List (List L))} {k:Int},(∀ r∈rs,(cy r 0).2<=(64*aj r:Nat))->aS rs k<=k+(64*ao rs:Nat)
 |[],k,_=>by simp[aS,ao]
 | r::rs,k,h=>by
   simp only[aS,ao];have h1:=h r (by simp);have h2:=x7 (rs:=rs) (k:=(cy r k).2) (fun x hx=>h x (by simp[hx]));rw[iR]at h2;rw[iR r k];have:64*(aj r+ao rs)=64*aj r+64*ao rs:=Nat.mul_add _ _ _;omega
theorem EE {rs:List (List (List L))}{k:Int}(h:∀ r∈rs,(cy r 0).2<=(64*aj r:Nat))(hk:0<=k/\k<=1000)(hc:ao rs<=1099511627776):aS rs k<=1152921504606846976:=by
 have:=x7 (k:=k) h;have:64*ao rs<=64*1099511627776:=Nat.mul_le_mul_left _ hc;omega
theorem ED {rs:List (List (List L))}{k:Int}(hk:0<=k):¬ aS rs k<0:=by
 rw[CG];have:=HD (rs:=rs);omega
theorem wR {rs:List (List (List L))}(h:ao rs<=1048576):¬ aZ rs 1048576<0:=by rw[eo];omega
theorem rc {es:List (List L)}{k:Int}:CU (bN es k) 0 es.length=bN es k:=by
 rw[<-cB (es:=es) (k:=k),sa]
end Go.V