/-
  A condition generator for functions on trees of data, part 5 of 5: values in memory, contracts, soundness.
-/
import Derived.Test.YticfhgfgobafbaaGreatVD
set_option linter.all false
namespace Go.V
mutual
def gO :L->Nat
 | .s _ es=>es.length+be es
 |_=>0
def dP :av->Nat
 |[]=>0
 |l::ls=>gO l+dP ls
def be :aa->Nat
 |[]=>0
 |e::es=>dP e+be es
end
def ak (es:aa):Nat:=es.length+be es
def am :List aa->Nat
 |[]=>0
 |r::rs=>ak r+am rs
def bA (rs:List aa)(left:Int):Int:=if left<am rs then-1 else left-am rs
mutual
def hC :L->Int->L×Int
 | .v (.int kd _),k=>(.v (.int kd k),k+1)
 | .v (.bool _),k=>(.v (.bool (k.tmod 3==0)),k+1)
 | .s sz es,k=>(.s sz (cy es k).1,(cy es k).2)
 |l,k=>(l,k)
def jk :av->Int->av×Int
 |[],k=>([],k)
 |l::ls,k=>((hC l k).1::(jk ls (hC l k).2).1,(jk ls (hC l k).2).2)
def cy :aa->Int->aa×Int
 |[],k=>([],k)
 |e::es,k=>((jk e k).1::(cy es (jk e k).2).1,(cy es (jk e k).2).2)
end
def bV (es:aa)(k:Int):aa:=(cy es k).1
def aX :List aa->Int->Int
 |[],k=>k
 |r::rs,k=>aX rs (cy r k).2
theorem de :∀ {a b:aa},be (a++b)=be a+be b
 |[],b=>by simp[be]
 |e::a,b=>by simp[be,de (a:=a),Nat.add_assoc]
theorem gP :∀ {a b:List aa},am (a++b)=am a+am b
 |[],b=>by simp[am]
 |e::a,b=>by simp[am,gP (a:=a),Nat.add_assoc]
theorem cG {r:aa}:am [r]=ak r:=by simp[am]
theorem yF :∀ {ls:av} {j:Nat} {l:L},ls[j]?=some l->gO l<=dP ls
 |[],j,l,h=>by simp at h
 |x::ls,0,l,h=>by simp at h;subst h;simp[dP]
 |x::ls,j+1,l,h=>by simp at h;have:=yF h;simp[dP];omega
theorem fX {a:List aa}{left:Int}:bA a left<0↔left<am a:=by
 unfold bA;split<;>omega
theorem lU {a:List aa}{left:Int}(h:0<=bA a left):bA a left=left-am a:=by
 unfold bA at*;split at h
 ·omega
 ·rename_i c;rw[if_neg c]
theorem fW {a b:List aa}{left:Int}(h:0<=bA a left):bA b (bA a left)=bA (a++b) left:=by
 rw[lU h];unfold bA;rw[gP];split<;>split<;>omega
theorem dD {a b:List aa}{left:Int}(h:bA a left<0):bA (a++b) left= -1:=by
 rw[fX]at h;unfold bA;rw[gP,if_pos (by omega)]
theorem fE {a:List aa}{left:Int}(h:bA a left<0):bA a left= -1:=by
 rw[fX]at h;unfold bA;rw[if_pos (by omega)]
theorem rO {a:List aa}{left:Int}(h:0<=bA a left):bA a left<=left:=by rw[lU h];omega
theorem fS :∀ {a b:aa} {k:Int},cy (a++b) k=((cy a k).1++(cy b (cy a k).2).1,(cy b (cy a k).2).2)
 |[],b,k=>by simp[cy]
 |e::a,b,k=>by simp[cy,fS (a:=a)]
theorem jc :∀ {a b:List aa} {k:Int},aX b (aX a k)=aX (a++b) k
 |[],b,k=>rfl
 |r::a,b,k=>by simp only[aX,List.cons_append];exact jc
theorem dX :∀ {es:aa} {k:Int},(cy es k).1.length=es.length
 |[],k=>rfl
 |e::es,k=>by simp[cy,dX (es:=es)]
theorem eC {es:aa}{k:Int}:(bV es k).length=es.length:=dX
def dA (es:aa)(k:Int)(n:Nat):aa:=(cy (es.take n) k).1++es.drop n
def fR (es:aa)(k:Int)(n:Nat):Int:=(cy (es.take n) k).2
theorem cM {es:aa}{k:Int}:dA es k 0=es:=by simp[dA,cy]
theorem cv {es:aa}{k:Int}:fR es k 0=k:=by simp[fR,cy]
theorem rq {es:aa}{k:Int}:dA es k es.length=bV es k:=by simp[dA,bV]
theorem pp {es:aa}{k:Int}:fR es k es.length=aX [es] k:=by simp[fR,aX]
theorem jh {es:aa}{k:Int}{n:Nat}(hn:n<=es.length):(dA es k n).length=es.length:=by simp[dA,dX];omega
theorem cL {es:aa}{k:Int}{n:Nat}(hn:n<=es.length):(dA es k n).getD n []=es.getD n []:=by
 unfold dA;simp only[List.getD_eq_getElem?_getD];have hl:(cy (es.take n) k).1.length=n:=by rw[dX,List.length_take];omega
 rw[List.getElem?_append_right (by omega),hl];simp
theorem rr {es:aa}{k:Int}{n:Nat}(hn:n<es.length):(dA es k n).set n (jk (es.getD n []) (fR es k n)).1=dA es k (n+1):=by
 unfold dA fR;have hl:(cy (es.take n) k).1.length=n:=by rw[dX,List.length_take];omega
 rw[List.set_append_right _ _ (by omega),hl,dx (d:=[]) hn,fS];simp only[Nat.sub_self];rw[List.drop_eq_getElem_cons hn,List.set_cons_zero];simp[cy]
theorem je {es:aa}{k:Int}{n:Nat}(hn:n<es.length):fR es k (n+1)=(jk (es.getD n []) (fR es k n)).2:=by
 unfold fR;rw[dx (d:=[]) hn,fS];simp[cy]
theorem HL {es:aa}{k:Int}{n:Nat}(hn:n<es.length):(bV es k).getD n []=(jk (es.getD n []) (fR es k n)).1:=by
 have h1:es=es.take n++(es.getD n []::es.drop (n+1)):=by
  conv=>lhs;rw[<-List.take_append_drop n es,List.drop_eq_getElem_cons hn]
  simp[List.getD,hn]
 unfold bV fR
 conv=>lhs;rw[h1]
 rw[fS];simp only[List.getD_eq_getElem?_getD];have hl:(cy (es.take n) k).1.length=n:=by rw[dX,List.length_take];omega
 rw[List.getElem?_append_right (by omega),hl];simp[cy]
mutual
theorem Ki :∀ (l:L) (k:Int),(hC l k).2=k+(hC l 0).2
 | .v x,k=>by cases x<;>simp[hC]
 | .s sz es,k=>by simp only[hC];exact gZ es k
 | .g,k=>by simp[hC]
 | .m _ _,k=>by simp[hC]
theorem tJ :∀ (ls:av) (k:Int),(jk ls k).2=k+(jk ls 0).2
 |[],k=>by simp[jk]
 | l::ls,k=>by
   simp only[jk];rw[tJ ls (hC l k).2,Ki l k,tJ ls (hC l 0).2];omega
theorem gZ :∀ (es:aa) (k:Int),(cy es k).2=k+(cy es 0).2
 |[],k=>by simp[cy]
 | e::es,k=>by
   simp only[cy];rw[gZ es (jk e k).2,tJ e k,gZ es (jk e 0).2];omega
end
mutual
theorem HR :∀ (l:L) (k k':Int),(hC (hC l k).1 k').2=(hC l k').2
 | .v x,k,k'=>by cases x<;>simp[hC]
 | .s sz es,k,k'=>by simp only[hC];exact pw es k k'
 | .g,k,k'=>by simp[hC]
 | .m _ _,k,k'=>by simp[hC]
theorem Cd :∀ (ls:av) (k k':Int),(jk (jk ls k).1 k').2=(jk ls k').2
 |[],k,k'=>rfl
 |l::ls,k,k'=>by simp only[jk];rw[Cd ls _ _,HR l k k']
theorem pw :∀ (es:aa) (k k':Int),(cy (cy es k).1 k').2=(cy es k').2
 |[],k,k'=>rfl
 |e::es,k,k'=>by simp only[cy];rw[pw es _ _,Cd e k k']
end
theorem JU {es:aa}{k k':Int}:aX [bV es k] k'=aX [es] k':=pw es k k'
theorem iy {es:aa}{k:Int}{n:Nat}:fR es k n=k+fR es 0 n:=gZ _ _
theorem Ag :∀ {rs:List aa} {k:Int},aX rs k=k+aX rs 0
 |[],k=>by simp[aX]
 |r::rs,k=>by simp only[aX];rw[Ag (k:=(cy r k).2),gZ r k,Ag (k:=(cy r 0).2)];omega
mutual
theorem Kh :∀ (l:L),0<=(hC l 0).2
 | .v x=>by cases x<;>simp[hC]
 | .s sz es=>by simp only[hC];exact xQ es
 | .g=>by simp[hC]
 | .m _ _=>by simp[hC]
theorem Cc :∀ (ls:av),0<=(jk ls 0).2
 |[]=>by simp[jk]
 |l::ls=>by simp only[jk];rw[tJ];have:=Kh l;have:=Cc ls;omega
theorem xQ :∀ (es:aa),0<=(cy es 0).2
 |[]=>by simp[cy]
 |e::es=>by simp only[cy];rw[gZ];have:=Cc e;have:=xQ es;omega
end
theorem D9 :∀ {rs:List aa},0<=aX rs 0
 |[]=>by simp[aX]
 |r::rs=>by simp only[aX];rw[Ag];have:=xQ r;have:=D9 (rs:=rs);omega
theorem jd {es:aa}{n:Nat}(hn:n<es.length):fR es 0 n<=fR es 0 (n+1):=by
 rw[je hn,tJ];have:=Cc (es.getD n []);omega
theorem ew {es:aa}:∀ {m n:Nat},n<=es.length->m<=n->fR es 0 m<=fR es 0 n
 |m,0,_,h=>by rw[show m=0 from by omega];exact Int.le_refl _
 | m,n+1,hn,h=>by
   rcases Nat.lt_or_ge m (n+1)with c|c
   ·have:=ew (es:=es) (m:=m) (n:=n) (by omega) (by omega);have:=jd (es:=es) (n:=n) (by omega);omega
   ·rw[show m=n+1 from by omega];exact Int.le_refl _
end Go.V
namespace Go.V
abbrev Rw (fs:List Ty)(es:aa):Prop:=es.length<=maxLen/\∀ e∈es,b9 fs e
abbrev tI :Ty:=.int .i64
abbrev tB :Ty:=.bool
mutual
def zL :Ty->L
 | .int k=>.v (.int k 0)
 | .bool=>.v (.bool false)
 | .str=>.v (.string .empty)
 | .sl fs=>.s fs.length []
def zR :List Ty->av
 |[]=>[]
 |t::ts=>zL t::zR ts
end
theorem v5 :∀ {fs:List Ty} {e:av},b9 fs e->eQ (zR fs) e=true
 |[],[],_=>rfl
 |[],_::_,h=>h.elim
 |_::_,[],h=>h.elim
 | t::ts,l::ls,h=>by
   obtain⟨h1,h2⟩:=h;simp only[zR,eQ,Bool.and_eq_true];refine⟨?_,v5 h2⟩;cases t with
   | int k=>cases l with
     | v x=>cases x with
       |int k' n=>simp only[cd]at h1;simp[zL,gB,h1.1]
       |_=>simp[cd]at h1
     |_=>simp[cd]at h1
   | bool=>cases l with
     | v x=>cases x with
       |bool b=>rfl
       |_=>simp[cd]at h1
     |_=>simp[cd]at h1
   | str=>cases l with
     | v x=>cases x with
       |string b=>rfl
       |_=>simp[cd]at h1
     |_=>simp[cd]at h1
   | sl fs=>cases l with
     |s sz es=>simp only[cd]at h1;simp[zL,gB,h1.1]
     |_=>simp[cd]at h1
theorem Rw.wf {fs:List Ty}{es:aa}(h:Rw fs es):Wf (zR fs) es:=fun e he=>v5 (h.2 e he)
theorem Rw.at {fs:List Ty}{es:aa}(h:Rw fs es){n:Nat}(hn:n<es.length):b9 fs (es.getD n []):=by
 refine h.2 _ ?_;rw[List.getD_eq_getElem?_getD,List.getElem?_eq_getElem hn];exact List.getElem_mem _
theorem Rw.eta {fs:List Ty}{es:aa}(h:Rw fs es){i:Int}(h0:0<=i)(h1:i<es.length):es.getD i.toNat []=gf ai es i 0 (zR fs):=(au h.wf h0 h1).symm
theorem tg :∀ {fs:List Ty} {e:av} {j:Nat} {gs:List Ty},b9 fs e->fs[j]?=some (.sl gs)->∃ es',e[j]?=some (.s gs.length es')/\Rw gs es'
 |[],_,j,gs,_,h=>by simp at h
 |_::_,[],j,gs,h,_=>h.elim
 | t::ts,l::ls,0,gs,h,e=>by
   simp at e;subst e;have h1:=h.1;cases l with
   |s sz es=>simp only[cd]at h1;exact⟨es,by simp[h1.1],h1.2⟩
   |_=>simp[cd]at h1
 | t::ts,l::ls,j+1,gs,h,e=>by
   simp at e;obtain⟨es',h1,h2⟩:=tg h.2 e;exact⟨es',by simpa using h1,h2⟩
theorem Rw.sub {fs:List Ty}{es:aa}(h:Rw fs es){i:Int}(hn:i.toNat<es.length){j:Nat}{gs:List Ty}(hj:fs[j]?=some (.sl gs)):Rw gs (ax es i j):=by
 obtain⟨es',h1,h2⟩:=tg (h.at hn) hj;unfold ax;rw[List.getD_eq_getElem?_getD (l:=es.getD i.toNat []),h1];exact h2
theorem Rw.nil {fs:List Ty}:Rw fs []:=⟨Nat.zero_le _,by simp⟩
theorem Rw.take {fs:List Ty}{es:aa}(h:Rw fs es)(n:Nat):Rw fs (es.take n):=⟨by rw[List.length_take];exact Nat.le_trans (Nat.min_le_right _ _) h.1,fun e he=>h.2 e (List.mem_of_mem_take he)⟩
theorem Rw.drop {fs:List Ty}{es:aa}(h:Rw fs es)(n:Nat):Rw fs (es.drop n):=⟨by rw[List.length_drop];exact Nat.le_trans (Nat.sub_le _ _) h.1,fun e he=>h.2 e (List.mem_of_mem_drop he)⟩
theorem Rw.append {fs:List Ty}{a b:aa}(ha:Rw fs a)(hb:Rw fs b)(hl:a.length+b.length<=maxLen):Rw fs (a++b):=⟨by simpa using hl,fun e he=>by rcases List.mem_append.1 he with q|q;exact ha.2 e q;exact hb.2 e q⟩
theorem Rw.one {fs:List Ty}{e:av}(h:b9 fs e):Rw fs [e]:=⟨by simp[maxLen],by simpa using h⟩
theorem Rw.set {fs:List Ty}{es:aa}(h:Rw fs es){e:av}(he:b9 fs e)(n:Nat):Rw fs (es.set n e):=⟨by simpa using h.1,fun x hx=>by rcases List.mem_or_eq_of_mem_set hx with q|q;exact h.2 x q;rw[q];exact he⟩
theorem Rw.replicate {fs:List Ty}{e:av}(h:b9 fs e){n:Nat}(hn:n<=maxLen):Rw fs (List.replicate n e):=⟨by simpa using hn,fun x hx=>by rw[List.eq_of_mem_replicate hx];exact h⟩
def mT :Ty->Bool
 | .sl _=>false
 |_=>true
theorem qN {t:Ty}{l:L}(h:cd t l)(hs:mT t=true):∃ x,l=.v x:=by
 cases t with
 |sl fs=>cases hs
 | int k=>cases l with
   |v x=>exact⟨x,rfl⟩
   |_=>simp[cd]at h
 | bool=>cases l with
   |v x=>exact⟨x,rfl⟩
   |_=>simp[cd]at h
 | str=>cases l with
   |v x=>exact⟨x,rfl⟩
   |_=>simp[cd]at h
theorem tz :∀ {fs:List Ty} {e:av},fs.all mT=true->b9 fs e->dP e=0
 |[],[],_,_=>rfl
 |[],_::_,_,h=>h.elim
 |_::_,[],_,h=>h.elim
 | t::ts,l::ls,hs,h=>by
   simp only[List.all_cons,Bool.and_eq_true]at hs;obtain⟨x,rfl⟩:=qN h.1 hs.1;simp only[dP,gO];rw[tz hs.2 h.2]
theorem v8 {fs:List Ty}(hs:fs.all mT=true):∀ {es:aa},(∀ e∈es,b9 fs e)->be es=0
 |[],_=>rfl
 |e::es,h=>by simp only[be];rw[tz hs (h e (by simp)),v8 hs (fun x hx=>h x (by simp[hx]))]
theorem Rw.cnt {fs:List Ty}{es:aa}(h:Rw fs es)(hs:fs.all mT=true):ak es=es.length:=by unfold ak;rw[v8 hs h.2];rfl
theorem Rw.scal {fs:List Ty}{es:aa}(h:Rw fs es)(hs:fs.all mT=true):cQ es:=by
 have key:∀ {fs:List Ty} {e:av},fs.all mT=true->b9 fs e->lS e:=by
  intro fs
  induction fs with
  | nil=>intro e _ h;cases e with
    |nil=>trivial
    |cons _ _=>exact h.elim
  | cons t ts ih=>
    intro e hs h;cases e with
    |nil=>exact h.elim
    | cons l ls=>
      simp only[List.all_cons,Bool.and_eq_true]at hs;obtain⟨x,rfl⟩:=qN h.1 hs.1;exact(ih hs.2 h.2:lS ls)
 have:∀ {es:aa},(∀ e∈es,b9 fs e)->cQ es:=by
  intro es
  induction es with
  |nil=>intro _;trivial
  |cons e es ih=>intro h;exact⟨key hs (h e (by simp)),ih (fun x hx=>h x (by simp[hx]))⟩
 exact this h.2
theorem eG {es:aa}{n:Nat}(hn:n<es.length):be (es.take (n+1))=be (es.take n)+dP (es.getD n []):=by
 rw[dx (d:=[]) hn,de];simp[be]
theorem bM {es:aa}{n:Nat}:be (es.take n)<=be es:=by
 conv=>rhs;rw[<-List.take_append_drop n es,de]
 omega
theorem rQ {sz:Nat}{es:aa}{n o:Nat}{new:av}:AG (.s sz es) [(n,o)] new=es.set n ((es.getD n []).take o++new++(es.getD n []).drop (o+new.length)):=rfl
theorem pz {sz:Nat}{c:aa}{n j:Nat}:py (.s sz c) [(n,j)]=BQ ((c.getD n []).getD j .g):=by
 unfold py fI;simp only[bR];cases h:c[n]? with
 |none=>simp[List.getD,h,BQ]
 | some rec=>
   simp only[Option.map_some,List.getD,h,Option.getD_some];cases h2:rec[j]? with
   |none=>simp[BQ]
   |some l=>cases l<;>simp[BQ]
theorem cU {c:aa}{n:Nat}{r:av}(h:n<c.length):(c.set n r).getD n []=r:=by simp[List.getD,h]
theorem lz {sz:Nat}{c:aa}{n j:Nat}{r:av}(h:n<c.length):bR (.s sz (c.set n r)) [(n,j)]=some (r,j):=by simp[bR,h]
theorem pj {sz:Nat}{c:aa}{n j:Nat}(h:n<c.length):bR (.s sz c) [(n,j)]=some (c.getD n [],j):=by simp[bR,List.getD,h]
theorem qW {sz:Nat}{c:aa}{n j:Nat}{r:av}(h:n<c.length):fI (.s sz (c.set n r)) [(n,j)]=match r[j]? with
 |some (.s sz es)=>some (sz,es)
 |_=>none:=by unfold fI;rw[lz h];rfl
theorem uA {sz:Nat}{c:aa}{n j:Nat}(h:n<c.length):fI (.s sz c) [(n,j)]=match(c.getD n [])[j]? with
 |some (.s sz es)=>some (sz,es)
 |_=>none:=by unfold fI;rw[pj h];rfl
theorem ca {a b:List aa}{k:Int}(hk:0<=k):aX a k<=aX (a++b) k/\0<=aX a k:=by
 rw[<-jc,Ag (rs:=b),Ag (rs:=a)];have:=D9 (rs:=a);have:=D9 (rs:=b);omega
theorem DZ {l:L}{k:Int}{z:L}(h:gB z l=true):gB z (hC l k).1=true:=by
 cases l with
 |v x=>cases x<;>cases z<;>simp_all [hC,gB]<;>(rename_i y;cases y<;>simp_all [gB])
 |s sz es=>cases z<;>simp_all [hC,gB]
 |g=>exact h
 |m _ _=>exact h
theorem yI :∀ {z e:av} {k:Int},eQ z e=true->eQ z (jk e k).1=true
 |[],[],_,_=>rfl
 |[],_::_,_,h=>by simp[eQ]at h
 |_::_,[],_,h=>by simp[eQ]at h
 | z::zs,l::ls,k,h=>by
   simp only[eQ,Bool.and_eq_true,jk]at h ⊢;exact⟨DZ h.1,yI h.2⟩
theorem v7 :∀ {z:av} {es:aa} {k:Int},Wf z es->Wf z (cy es k).1
 |z,[],_,_=>fun e he=>by cases he
 | z,e::es,k,h=>by
   intro x hx;simp only[cy,List.mem_cons]at hx;rcases hx with rfl|hx
   ·exact yI (h e (by simp))
   ·exact v7 (fun y hy=>h y (by simp[hy])) x hx
theorem xB {fs:List Ty}{es:aa}{k:Int}(h:Rw fs es):Wf (zR fs) (bV es k):=v7 h.wf
end Go.V
namespace Go.V
mutual
def EN :Ty->Nat
 | .sl fs=>xj fs
 |_=>1
def xj :List Ty->Nat
 |[]=>0
 |t::ts=>EN t+xj ts
end
mutual
theorem HJ :∀ (t:Ty) (l:L),cd t l->(hC l 0).2<=(EN t*(gO l+1):Nat)
 | .int k,.v x,h=>by cases x<;>simp[hC,gO,EN]
 | .int k,.s _ _,h=>by simp[cd]at h
 | .int k,.g,h=>by simp[cd]at h
 | .bool,.v x,h=>by cases x<;>simp[hC,gO,EN]
 | .bool,.s _ _,h=>by simp[cd]at h
 | .bool,.g,h=>by simp[cd]at h
 | .str,.v x,h=>by cases x<;>simp[hC,gO,EN]
 | .str,.s _ _,h=>by simp[cd]at h
 | .str,.g,h=>by simp[cd]at h
 | .sl fs,.v x,h=>by simp[cd]at h
 | .sl fs,.g,h=>by simp[cd]at h
 | .sl fs,.s sz es,h=>by
   have h1:=uO fs es (by simp only[cd]at h;exact h.2.2);simp only[hC,gO,EN];have:xj fs*(es.length+be es)<=xj fs*(es.length+be es+1):=Nat.mul_le_mul_left _ (by omega);omega
theorem B6 :∀ (ts:List Ty) (ls:av),b9 ts ls->(jk ls 0).2<=(xj ts*(dP ls+1):Nat)
 |[],[],_=>by simp only[jk];exact Int.natCast_nonneg _
 |[],_::_,h=>h.elim
 |_::_,[],h=>h.elim
 | t::ts,l::ls,h=>by
   have h1:=HJ t l h.1;have h2:=B6 ts ls h.2;simp only[jk];rw[tJ];have e1:EN t*(gO l+1)<=EN t*(dP (l::ls)+1):=Nat.mul_le_mul_left _ (by simp[dP]);have e2:xj ts*(dP ls+1)<=xj ts*(dP (l::ls)+1):=Nat.mul_le_mul_left _ (by simp[dP]);have e3:xj (t::ts)*(dP (l::ls)+1)=EN t*(dP (l::ls)+1)+xj ts*(dP (l::ls)+1):=by simp only[xj];rw[Nat.add_mul]
   omega
theorem uO :∀ (ts:List Ty) (es:aa),(∀ e∈es,b9 ts e)->(cy es 0).2<=(xj ts*(es.length+be es):Nat)
 |ts,[],_=>by simp only[cy];exact Int.natCast_nonneg _
 | ts,e::es,h=>by
   have h1:=B6 ts e (h e (by simp));have h2:=uO ts es (fun x hx=>h x (by simp[hx]));simp only[cy];rw[gZ];have e3:xj ts*((e::es).length+be (e::es))=xj ts*(dP e+1)+xj ts*(es.length+be es):=by
    rw[<-Nat.mul_add];congr 1;simp[be];omega
   omega
end
theorem Rw.marks {fs:List Ty}{es:aa}(h:Rw fs es)(hw:xj fs<=64):(cy es 0).2<=(64*ak es:Nat):=by
 have:=uO fs es h.2;have h2:xj fs*(es.length+be es)<=64*(es.length+be es):=Nat.mul_le_mul_right _ hw;unfold ak;omega
theorem wm :∀ {rs:List aa} {k:Int},(∀ r∈rs,(cy r 0).2<=(64*ak r:Nat))->aX rs k<=k+(64*am rs:Nat)
 |[],k,_=>by simp[aX,am]
 | r::rs,k,h=>by
   simp only[aX,am];have h1:=h r (by simp);have h2:=wm (rs:=rs) (k:=(cy r k).2) (fun x hx=>h x (by simp[hx]));rw[gZ]at h2;rw[gZ r k];have:64*(ak r+am rs)=64*ak r+64*am rs:=Nat.mul_add _ _ _;omega
theorem BI {rs:List aa}{k:Int}(h:∀ r∈rs,(cy r 0).2<=(64*ak r:Nat))(hk:0<=k/\k<=1000)(hc:am rs<=1099511627776):aX rs k<=1152921504606846976:=by
 have:=wm (k:=k) h;have:64*am rs<=64*1099511627776:=Nat.mul_le_mul_left _ hc;omega
theorem BH {rs:List aa}{k:Int}(hk:0<=k):¬ aX rs k<0:=by
 rw[Ag];have:=D9 (rs:=rs);omega
theorem C7 {rs:List aa}(h:am rs<=1048576):¬ bA rs 1048576<0:=by rw[fX];omega
theorem zN {es:aa}{k:Int}:Ar (bV es k) 0 es.length=bV es k:=by
 rw[<-eC (es:=es) (k:=k),sa]
abbrev kH (a0 a1 a2:aa)(a3:Int)(a4 a5 a6 a7 a8 a9 aA aB:aa)(aC:Int)(aD:aa)(aE aF aG aH:Int)(aI:Bool)(aJ aK:Int)(aL:aa)(aM aN:Int):av:=[.s 1 a0,.s 1 a1,.s 2 a2,.i a3,.s 1 a4,.s 2 a5,.s 3 a6,.s 3 a7,.s 4 a8,.s 1 a9,.s 1 aA,.s 1 aB,.i aC,.s 3 aD,.i aE,.i aF,.i aG,.i aH,.v (.bool aI),.i aJ,.i aK,.s 1 aL,.i aM,.i aN]
abbrev aO :=Unit
abbrev F0 :aO:=()
abbrev nB {P:Program}:TB P:={Φ:=Unit,F0:=()}
theorem dm {es:aa}{n:Nat}(h:ak es<=n):es.length<=n:=Nat.le_trans (Nat.le_add_right _ _) h
theorem Gj {p:Prop}(h:p:=by
 try rw[eg (n:=es.length) g0 hlt (by omega)]
 try have hlt':i.toNat<es.length:=by omega
 try have hct:=eG (es:=es) (n:=i.toNat) (by omega);rw[he]at hct;simp only[dP,gO,Nat.add_zero,Nat.zero_add]at hct
 try have hks:=je (es:=es) (k:=k) hlt';rw[he]at hks;simp only[jk,hC]at hks
 try have hms:=rr (es:=es) (k:=k) hlt';rw[he]at hms;simp only[jk,hC]at hms
 try have hcl:i.toNat<cur.length:=by rw[hc,jh g1];exact hlt'
 have hk1:=iy (es:=es) (k:=k) (n:=i.toNat)
 have hk2:=iy (es:=es) (k:=k) (n:=i.toNat+1)
 have hk3:=pp (es:=es) (k:=k)
 have hk4:=iy (es:=es) (k:=k) (n:=es.length)
 have hk5:=ew (es:=es) (m:=0) (n:=i.toNat) g1 (Nat.zero_le _)
 have hk6:=ew (es:=es) (m:=i.toNat) (n:=es.length) (Nat.le_refl _) g1
 try have hk7:=ew (es:=es) (m:=i.toNat+1) (n:=es.length) (Nat.le_refl _) hlt'
 have hle1:=bM (es:=es) (n:=i.toNat+1)
 have hcE:ak es=es.length+be es:=rfl
 rw[cv]at hk5
 try have hk8:=jd (es:=es) (n:=i.toNat) hlt'
 have ha1:bP .add .i64 k' 1=k'+1:=bC (by omega)
 have ha2:bP .add .i64 (k'+1) 1=k'+1+1:=bC (by omega)
 have ha3:bP .add .i64 (k'+1+1) 1=k'+1+1+1:=bC (by omega)
 have ha4:bP .add .i64 (k'+1+1+1) 1=k'+1+1+1+1:=bC (by omega)
 try simp only[ha1,ha2,ha3,ha4]
 try simp only[az]
 try simp only[rQ,hcg,List.take,List.drop,List.length_cons,List.length_nil,List.nil_append,List.cons_append,List.append_nil,Nat.zero_add,Nat.reduceAdd,cU hcl,List.set_set,List.append_assoc]
 try simp only[pz,hcg,cU hcl,List.getD_cons_zero,List.getD_cons_succ,BQ]
 try simp only[pj hcl,lz hcl,uA hcl,qW hcl,hcg,List.getElem?_cons_zero,List.getElem?_cons_succ]
 first|exact⟨g0,hlt⟩|(refine⟨_,_,rfl,?_⟩;simp;done)|omega|(rw[hk',show i.toNat=es.length from by omega,hk3];done)|(rw[hc,show i.toNat=es.length from by omega,rq];rfl)|(rw[show(i+1).toNat=i.toNat+1 from by omega,hks,hk'];done)|(rw[show(i+1).toNat=i.toNat+1 from by omega, <-hms,hc,hk'];done)|trace_state):p:=h
theorem EQ {p:Prop}(h:p:=by
 try rw[eg (n:=es.length) g0 hlt (by omega)]
 try have hct:=eG (es:=es) (n:=i.toNat) (by omega);rw[he]at hct;simp only[dP,gO,Nat.add_zero,Nat.zero_add]at hct
 have hle1:=bM (es:=es) (n:=i.toNat+1)
 have hcE:ak es=es.length+be es:=rfl
 first|exact js hwf g0 hlt|exact⟨g0,hlt⟩|(rw[hm];exact tC (by rw[fa g1];omega) (by rw[gR (by omega)];exact Nat.le_refl _))|omega|(rw[show(i+1).toNat=i.toNat+1 from by omega, <-tt (by omega), <-hm,zO (by rw[hm,gR (by omega)];rfl),he])|(rw[hm,fa g1];exact⟨trivial,rfl⟩)|(rw[hm,show i.toNat=es.length from by omega,tq])|trace_state):p:=h
theorem NA {p:Prop}(h:p:=by
 try have hct:=eG (es:=es) (n:=i.toNat) (by omega);rw[he]at hct;simp only[dP,gO,Nat.add_zero,Nat.zero_add]at hct
 try have hks:=je (es:=es) (k:=k) hlt';rw[he]at hks;simp only[jk,hC]at hks
 try have hms:=rr (es:=es) (k:=k) hlt';rw[he]at hms;simp only[jk,hC]at hms
 try have hcl:i.toNat<cur.length:=by rw[hc,jh g1];exact hlt'
 have hk1:=iy (es:=es) (k:=k) (n:=i.toNat)
 have hk2:=iy (es:=es) (k:=k) (n:=i.toNat+1)
 have hk3:=pp (es:=es) (k:=k)
 have hk4:=iy (es:=es) (k:=k) (n:=es.length)
 have hk5:=ew (es:=es) (m:=0) (n:=i.toNat) g1 (Nat.zero_le _)
 have hk6:=ew (es:=es) (m:=i.toNat) (n:=es.length) (Nat.le_refl _) g1
 try have hk7:=ew (es:=es) (m:=i.toNat+1) (n:=es.length) (Nat.le_refl _) hlt'
 have hle1:=bM (es:=es) (n:=i.toNat+1)
 have hcE:ak es=es.length+be es:=rfl
 rw[cv]at hk5
 try have hk8:=jd (es:=es) (n:=i.toNat) hlt'
 have ha1:bP .add .i64 k' 1=k'+1:=bC (by omega)
 have ha2:bP .add .i64 (k'+1) 1=k'+1+1:=bC (by omega)
 have ha3:bP .add .i64 (k'+1+1) 1=k'+1+1+1:=bC (by omega)
 have ha4:bP .add .i64 (k'+1+1+1) 1=k'+1+1+1+1:=bC (by omega)
 try simp only[ha1,ha2,ha3,ha4]
 try simp only[az]
 try simp only[rQ,hcg,List.take,List.drop,List.length_cons,List.length_nil,List.nil_append,List.cons_append,List.append_nil,Nat.zero_add,Nat.reduceAdd,cU hcl,List.set_set,List.append_assoc]
 try simp only[pz,hcg,cU hcl,List.getD_cons_zero,List.getD_cons_succ,BQ]
 try simp only[pj hcl,lz hcl,uA hcl,qW hcl,hcg,List.getElem?_cons_zero,List.getElem?_cons_succ]
 first|exact⟨g0,hlt⟩|(refine⟨_,_,rfl,by simp,?_⟩;show List.take _ (List.drop _ _)=[L.s _ (py _ _)];simp only[pI,pz,hcg,cU hcl,List.getD_cons_zero,List.getD_cons_succ,Nat.add_zero,BQ];rfl)|exact⟨trivial,_,rfl,rfl⟩|exact⟨_,rfl⟩|omega|(rw[hk',show i.toNat=es.length from by omega,hk3];done)|(rw[hc,show i.toNat=es.length from by omega,rq];rfl)|(rw[show(i+1).toNat=i.toNat+1 from by omega,hks,hk'];rfl)|(rw[show(i+1).toNat=i.toNat+1 from by omega, <-hms,hc,hk'];rfl)|(refine⟨hr0,?_,?_,?_⟩<;>(try simp only[ak,aX])<;>first|omega|(rw[hk'];omega))|trace_state):p:=h
theorem o9 {p:Prop}(h:p:=by
 intro O r F hO hr hF;cbv
 repeat' first|apply And.intro|(apply bi<;>intro hb<;>cbv)
 all_goals(subst hO hr hF;(try simp only[nc]at*);(try simp only[ai,SS,sa,az]at*))
 all_goals first|trivial|trace_state):p:=h
theorem Gl {p:Prop}(h:p:=by
 try rw[eg (n:=es.length) g0 hlt (by omega)]
 try have hct:=eG (es:=es) (n:=i.toNat) (by omega);rw[he]at hct;simp only[dP,gO,Nat.add_zero,Nat.zero_add]at hct
 have hle1:=bM (es:=es) (n:=i.toNat+1)
 have hcE:ak es=es.length+be es:=rfl
 first|omega|exact js hwf g0 hlt|trivial|trace_state):p:=h
theorem ES {p:Prop}(h:p:=by
 intro O r F hO hr hF;cbv
 repeat' first|apply And.intro|(apply bi<;>intro hb<;>cbv)
 all_goals(subst hO hr hF;(try simp only[nc]at*);(try simp only[ai,SS,sa,az]at*))
 all_goals(try simp only[hs]at*)
 all_goals first|trivial|(rw[hn,if_pos (by omega)])|(rw[hn,if_neg (by omega)])):p:=h
theorem NB {p:Prop}(h:p:=by
 try have hct:=eG (es:=es) (n:=i.toNat) (by omega);rw[he]at hct;simp only[dP,gO,Nat.add_zero,Nat.zero_add]at hct
 have hle1:=bM (es:=es) (n:=i.toNat+1)
 have hcE:ak es=es.length+be es:=rfl
 first|exact js hwf g0 hlt|exact⟨g0,hlt⟩|(rw[hm];exact tC (by rw[fa g1];omega) (by rw[gR (by omega)];exact Nat.le_refl _))|omega|(rw[show(i+1).toNat=i.toNat+1 from by omega, <-tt (by omega), <-hm,zO (by rw[hm,gR (by omega)];rfl),he])|(rw[hm,fa g1];exact⟨trivial,rfl⟩)|(rw[hm,show i.toNat=es.length from by omega,tq])|trivial|(refine⟨hr0,?_⟩;simp only[am,ak,Nat.add_zero];omega)|trace_state):p:=h
theorem L8 {p:Prop}(h:p:=by
 intro O r os F hO hr hos hF;cbv
 repeat' first|apply And.intro|(apply bi<;>intro hb<;>cbv)
 all_goals((try subst hos);subst hO hr hF;(try simp only[nc]at*);(try simp only[ai,SS,sa,az]at*))
 all_goals(try simp only[jc,List.cons_append,List.nil_append,eC]at*)
 all_goals first|trivial|(refine⟨by assumption,?_,?_,?_⟩<;>(try simp only[jc,List.cons_append,List.nil_append,am,Nat.add_zero])<;>omega)|trace_state):p:=h
theorem NC {p:Prop}(h:p:=by
 try have hct:=eG (es:=es) (n:=i.toNat) (by omega);rw[he]at hct;simp only[dP,gO,Nat.add_zero,Nat.zero_add]at hct
 have hle1:=bM (es:=es) (n:=i.toNat+1)
 simp only[am,ak,Nat.add_zero]at hsz hsz2
 first|exact js hwf g0 hlt|exact⟨hr0,by omega,by omega⟩|trivial|omega|(rw[hn,if_pos];omega)|(rw[hn,if_neg (by rw[show i.toNat=es.length from by omega,List.take_length]at g3;omega),show l=left-ak es from by rw[show i.toNat=es.length from by omega,List.take_length]at g3;omega])|(rw[show(i+1).toNat=i.toNat+1 from by omega,hct];omega)|trace_state):p:=h
theorem L9 {p:Prop}(h:p:=by
 intro O r os F hO hr hos hF;cbv
 repeat' first|apply And.intro|(apply bi<;>intro hb<;>cbv)
 all_goals((try subst hos);subst hO hr hF;(try simp only[nc]at*);(try simp only[ai,SS,sa,az]at*))
 all_goals(try simp only[jc,List.cons_append,List.nil_append,eC]at*)
 all_goals first|trivial|trace_state):p:=h
theorem Lw {p:Prop}(h:p:=by
 (try have z:=HQ (by assumption))
 (try have y2:=hp.xn j)
 (try have y1:=hp.bn i)
 (try have z6:bP .add .i64 k 1=k+1:=bC (by omega))
 (try simp only[z6]at*)
 first
  | (show(_:List DV)=_
     first
      |(refine hP ?_;exact ME (by assumption))
      |(refine hP ?_;exact G0 j2 (by assumption) j1 (by assumption))
      |done)
  |omega
  |exact eZ
  |exact Rw.scal (Rw.sub (fs:=[.sl [tI]]) hxw (by omega) rfl) rfl
  |(have q:=k2.l;constructor<;>(simp only[List.length_cons,List.length_nil];omega))
  |(have q:=j2.l;constructor<;>omega)
  |exact Jj k2 k0
  |exact GU k2 i0 y1 k1 (by omega)
  |exact Mn i2
  |exact Mo i2 i1 (by omega)
  |exact Jn j2 j0 y2
  |exact Mm
  |exact⟨True.intro,True.intro⟩
  |done):p:=h
theorem Lx {p:Prop}(h:p:=by
 (try simp only[z9]at*)
 first
  | (show(_:List DV)=_
     first
      |(refine ag ?_;symm;exact HN (by assumption))
      |(refine ag ?_;symm;exact HO (by assumption))
      |(refine ag ?_;symm;exact Ca i0 (by omega) k0 (by assumption) (KH (by assumption)))
      |(refine ag ?_;symm;exact Ca i0 (by omega) k0 (by assumption) (KI (by assumption)))
      |(refine ag ?_;symm;exact HP i0 (by omega) j0 (by assumption) (Md (by assumption)))
      |(refine ag ?_;rw[HM i2 (by assumption) (by omega) i1 (by omega)];rfl)
      |done)
  |omega
  |exact eZ
  |(show bz _ _=true;kernel_rfl)
  |exact aY
  |exact aP k2 (KJ (by assumption) (by assumption))
  |exact aP j2 (I2 (by assumption))
  |exact Kg i2 i0 k2 (by omega) j2 (by omega)
  |exact MQ
  |done):p:=h
theorem Ly {p:Prop}(h:p:=by
 (subst hO hr hF;(try simp only[nc]at*);(try simp only[ai,SS,sa,az]at*))
 try rw[cB (by omega) (by omega)]
 (try have z:=sY i0 (by omega))
 (try simp only[z]at*)
 first
  | (show(_:List DV)=_
     first
      |(refine ag ?_;symm;exact Ib i0 (by assumption) (by assumption))
      |(refine ag ?_;symm;exact Ic i0 (by assumption) (by assumption) (by assumption))
      |(refine ag ?_;exact Ia i2 (by omega))
      |(have q:false=true:=(by assumption);cases q)
      |done)
  |omega
  |exact eZ
  |(show bz _ _=true;kernel_rfl)
  |exact aY
  |exact aP i2 (EA (by assumption) (by omega))
  |exact aP i2 (EB (by assumption) (by assumption))
  |done):p:=h
theorem LA {p:Prop}(h:p:=by
 (subst hO hr hF;(try simp only[nc]at*);(try simp only[ai,SS,sa,az]at*))
 try rw[cB (by omega) (by omega)]
 first|omega|exact eZ|exact aY|contradiction|exact ag (GW (by assumption)).symm|exact ag (GX (by omega)).symm|exact ag (GY i0 (by omega) (by omega)).symm|exact ag (Bl i0 (by omega) k0 (by omega) (.inl (by assumption))).symm|exact ag (Bl i0 (by omega) k0 (by omega) (.inr ⟨by assumption,by assumption⟩)).symm|exact ag (GZ (by assumption) (by omega) i2 (by omega)).symm|exact aP i2 (Jm (by omega) k2 (by omega))|exact aP k2 (I6 (by assumption) (by first|exact .inl (by assumption)|exact .inr (by assumption)))|trace_state):p:=h
theorem Ir {p:Prop}(h:p:=by
 try have hct:=eG (es:=es) (n:=i.toNat) (by omega);rw[he]at hct;simp only[dP,gO,Nat.add_zero,Nat.zero_add]at hct
 have hle1:=bM (es:=es) (n:=i.toNat+1)
 have hcE:ak es=es.length+be es:=rfl
 first|omega|exact js hwf g0 hlt|trivial|(refine⟨trivial,hr0,?_⟩;simp only[am,ak,Nat.add_zero];omega)|trace_state):p:=h
theorem LB {p:Prop}(h:p:=by
 (subst hO hr hF;(try simp only[nc]at*);(try simp only[ai,SS,sa,az]at*))
 try rw[cB (by omega) (by omega)]
 try(have hpl:=uZ (es:=es) (f:=f) (n:=i.toNat);rw[<-i2]at hpl)
 first|omega|exact eZ|(exact⟨trivial,trivial⟩)|rfl|(simp only[List.length_cons,List.length_nil];omega)|(rw[Er i0 (by assumption) (by assumption), <-i2])|(rw[Cw i0 (.inl (by assumption)), <-i2])|(rw[Cw i0 (.inr (by assumption)), <-i2])|exact yb (by rw[i2,show i.toNat=es.length from by omega];rfl)|trace_state):p:=h
theorem ER {p:Prop}(h:p:=by
 intro O r F hO hr hF;cbv
 repeat' first|apply And.intro|(apply bi<;>intro hb<;>cbv)
 all_goals(subst hO hr hF;(try simp only[nc]at*);(try simp only[ai,SS,sa,az]at*))
 all_goals first|exact hp|exact rfl|trivial|done):p:=h
theorem LC {p:Prop}(h:p:=by
 intro O r F hO hr hF;cbv
 repeat' first|apply And.intro|(apply bi<;>intro hb<;>cbv)
 all_goals(subst hO hr hF;(try simp only[nc]at*);(try simp only[ai,SS,sa,az]at*))
 all_goals(try simp only[hsb]at*)
 all_goals(try simp only[bW,q9]at*)
 all_goals first|exact E5 (F1 (by omega)).1.symm (F1 (by omega)).2.symm|exact E5 (Cu (by omega)).1.symm (Cu (by omega)).2.symm|exact eZ|trace_state):p:=h
theorem LD {p:Prop}(h:p:=by
 intro O r F hO hr hF;cbv
 repeat' first|apply And.intro|(apply bi<;>intro hb<;>cbv)
 all_goals(subst hO hr hF;(try simp only[nc]at*);(try simp only[ai,SS,sa,az]at*))
 all_goals try(have hs:=Nz.1 (‹slB b i=true›);have hw:=Dj hs.2.1 hs.2.2;simp only[hw]at*)
 all_goals first
  | (show(_:List DV)=_
     first
      |exact ag (JK (by assumption)).symm
      |(refine ag (dr ?_);unfold hsB;rw[show slB b i=true from by assumption,Bool.true_and,decide_eq_true_eq];simp only[SS])
      |done)
  |omega
  |trace_state):p:=h
theorem LE {p:Prop}(h:p:=by
 (subst hO hr hF;(try simp only[nc]at*);(try simp only[ai,SS,sa,az]at*))
 try rw[cB (by omega) (by omega)]
 first|omega|exact eZ|exact aY|contradiction|exact ag (Ip i2 (by omega)).symm|(simp only[bW,q9]at*;first|exact ag (Lt i0 (by omega) (by omega)).symm|exact aP i2 (Ls (by omega)))|trace_state):p:=h
theorem LF {p:Prop}(h:p:=by
 (subst hO hr hF;(try simp only[nc]at*);(try simp only[ai,SS,sa,az]at*))
 try rw[cB (by omega) (by omega)]
 first|(show(_:List DV)=_;exact cr (H8 i2 i1 (by omega)))|omega|exact eZ|exact M6|exact K1 i2 i0 (by omega)|done):p:=h
theorem LG {p:Prop}(h:p:=by
 intro O r F hO hr hF;cbv
 repeat' first|apply And.intro|(apply bi<;>intro hb<;>cbv)
 all_goals(subst hO hr hF;(try simp only[nc]at*);(try simp only[ai,SS,sa,az]at*))
 all_goals(try have t:=bW.1 hb)
 all_goals(try have z:bP .sub .i64 n l=n-l:=cR (by omega))
 all_goals(try simp only[z]at*)
 all_goals first|(show(_:List DV)=_;refine ag ?_;unfold rngIn;simp[hb];done)|done):p:=h
theorem LH {p:Prop}(h:p:=by
 (try simp only[bW,q9]at*)
 (try rw[cB (by omega) (by omega)])
 first|trivial|omega|exact Fi (by omega) (by assumption) (by omega)|(have:=Fi (k:=k) (s:=s) (by omega) (by assumption) (by omega);omega)|exact cr (I7 (by omega)).symm|exact cr (GN (by omega) (by assumption) (by omega) (by assumption)).symm|exact .inl trivial|(rw[show k+1-1=k by omega];exact .inr (by assumption))|trace_state):p:=h
theorem LI {p:Prop}(h:p:=by
 intro O r F hO hr hF;cbv
 repeat' first|apply And.intro|(apply bi<;>intro hb<;>cbv)
 all_goals(subst hO hr hF;(try simp only[nc]at*);(try simp only[ai,SS,sa,az]at*))
 all_goals first
  | (show(_:List DV)=_
     first
      |exact yb (Bj (by assumption)).symm
      |exact yb (yK (by assumption)).symm
      |done)
  |exact⟨hw,hn⟩
  |exact hw
  |exact⟨True.intro,True.intro⟩
  |trace_state):p:=h
theorem LJ {p:Prop}(h:p:=by
 intro O r F hO hr hF;cbv
 repeat' first|apply And.intro|(apply bi<;>intro hb<;>cbv)
 all_goals(subst hO hr hF;(try simp only[nc]at*);(try simp only[ai,SS,sa,az]at*))
 all_goals first
  | (show(_:List DV)=_
     first
      |exact ag (by unfold slB;rw[decide_eq_true (by assumption)];rfl)
      |exact ag (by unfold slB;rw[decide_eq_false (by omega)];rfl)
      |done)
  |trace_state):p:=h
theorem LK {p:Prop}(h:p:=by
 intro O r F hO hr hF;cbv
 repeat' first|apply And.intro|(apply bi<;>intro hb<;>cbv)
 all_goals(subst hO hr hF;(try simp only[nc]at*);(try simp only[ai,SS,sa,az]at*))
 all_goals first|(show(_:List DV)=_;refine ag ?_;unfold mshB;simp[*];done)|(show(_:List DV)=_;refine ag ?_;unfold mshB;subst_vars;rw[cmp_eq];simp[*];done)|done):p:=h
theorem LL {p:Prop}(h:p:=by
 intro O r F hO hr hF;cbv
 repeat' first|apply And.intro|(apply bi<;>intro hb<;>cbv)
 all_goals(subst hO hr hF;(try simp only[nc]at*);(try simp only[ai,SS,sa,az]at*))
 all_goals iterate 1 (try simp(disch:=assumption) only[fW,List.cons_append,List.nil_append]at*)
 all_goals first|trivial|(rw[fE (by assumption)])|trace_state):p:=h
theorem LM {p:Prop}(h:p:=by
 intro O r F hO hr hF;cbv
 repeat' first|apply And.intro|(apply bi<;>intro hb<;>cbv)
 all_goals(subst hO hr hF;(try simp only[nc]at*);(try simp only[ai,SS,sa,az]at*))
 all_goals iterate 2 (try simp(disch:=assumption) only[fW,List.cons_append,List.nil_append]at*)
 all_goals first|trivial|(rw[fE (by assumption)])|trace_state):p:=h
theorem LN {p:Prop}(h:p:=by
 intro O r F hO hr hF;cbv
 repeat' first|apply And.intro|(apply bi<;>intro hb<;>cbv)
 all_goals(subst hO hr hF;(try simp only[nc]at*);(try simp only[ai,SS,sa,az]at*))
 all_goals first
  | (show(_:List DV)=_
     first
      |exact cr (H2 (by assumption))
      |exact cr (F2 (by assumption)).symm
      |done)
  |omega
  |done):p:=h
theorem Is {p:Prop}(h:p:=by
 (subst hO hr hF;(try simp only[nc]at*);(try simp only[ai,SS,sa,az]at*))
 (try simp only[hs]at*)
 first|trivial|(rw[hn,if_pos (by omega)])|trace_state):p:=h
theorem LO {p:Prop}(h:p:=by
 intro O r F hO hr hF;cbv
 repeat' first|apply And.intro|(apply bi<;>intro hb<;>cbv)
 all_goals(subst hO hr hF;(try simp only[nc]at*);(try simp only[ai,SS,sa,az]at*))
 all_goals first
  | (show(_:List DV)=_
     first
      |exact cr (J1 (by assumption))
      |exact cr (J2 (by assumption)).symm
      |done)
  |done):p:=h
theorem LP {p:Prop}(h:p:=by
 intro O r F hO hr hF;cbv
 repeat' first|apply And.intro|(apply bi<;>intro hb<;>cbv)
 all_goals(subst hO hr hF;(try simp only[nc]at*);(try simp only[ai,SS,sa,az]at*))
 all_goals first
  | (show(_:List DV)=_
     first
      |exact ag (dr (by unfold eqB;simp only[SS,decide_eq_true_eq]))
      |done)
  |done):p:=h
theorem LQ {p:Prop}(h:p:=by
 intro O r F hO hr hF;cbv
 repeat' first|apply And.intro|(apply bi<;>intro hb<;>cbv)
 all_goals(subst hO hr hF;(try simp only[nc]at*);(try simp only[ai,SS,sa,az]at*))
 all_goals first|trivial|(refine⟨trivial,by assumption,?_⟩;(try simp only[am,Nat.add_zero]);omega)|trace_state):p:=h
theorem LR {p:Prop}(h:p:=by
 intro O r F hO hr hF;cbv
 repeat' first|apply And.intro|(apply bi<;>intro hb<;>cbv)
 all_goals(subst hO hr hF;(try simp only[nc]at*);(try simp only[ai,SS,sa,az]at*))
 all_goals first|trivial|(refine⟨by assumption,?_⟩;(try simp only[am,Nat.add_zero]);omega)|trace_state):p:=h
theorem LS {p:Prop}(h:p:=by
 intro O r F hO hr hF;cbv
 repeat' first|apply And.intro|(apply bi<;>intro hb<;>cbv)
 all_goals(subst hO hr hF;(try simp only[nc]at*);(try simp only[ai,SS,sa,az]at*))
 all_goals first|exact hp|(show(_:List DV)=_;refine ag ?_;unfold jbOk;simp[*];done)|done):p:=h
theorem LU {p:Prop}(h:p:=by
 first|trivial|(refine⟨by assumption,by omega,by first|omega|exact Int.le_trans (rO (by assumption)) h1⟩)|(rw[fE (by assumption)])|exact congrArg (fun x=>[DV.one (L.v (Value.int IntKind.i64 x))]) (dD (a:=[a0]) (b:=[a1]) (by assumption)).symm|trace_state):p:=h
theorem LV {p:Prop}(h:p:=by
 intro O r F hO hr hF;cbv
 repeat' first|apply And.intro|(apply bi<;>intro hb<;>cbv)
 all_goals(subst hO hr hF;(try simp only[nc]at*);(try simp only[ai,SS,sa,az]at*))
 all_goals first|exact hp|exact rfl|done):p:=h
theorem LW {p:Prop}(h:p:=by
 intro O r F hO hr hF;cbv
 repeat' first|apply And.intro|(apply bi<;>intro hb<;>cbv)
 all_goals(subst hO hr hF;(try simp only[nc]at*);(try simp only[ai,SS,sa,az]at*))
 all_goals first|exact rfl|done):p:=h
theorem LX {p:Prop}(h:p:=by
 repeat' first|apply And.intro|(apply bi<;>intro hb<;>cbv)
 all_goals(subst hO hr hF;(try simp only[nc]at*);(try simp only[ai,SS,sa,az]at*))
 all_goals first|trivial|exact rfl):p:=h
theorem LY {p:Prop}(h:p:=by
 first|exact cr (Ja (by assumption)).symm|(refine cr ?_;rw[Fh (by assumption)])|(rw[bW]at*;omega)|trace_state):p:=h
theorem eZ {p:Prop}(h:p:=by
 refine⟨by omega,by omega,(Rw.eta (by first|assumption|exact Rw.sub (by first|assumption|exact Rw.sub (by assumption) (by omega) rfl) (by omega) rfl) (by omega) (by omega)).trans ?_⟩;rfl):p:=h
end Go.V