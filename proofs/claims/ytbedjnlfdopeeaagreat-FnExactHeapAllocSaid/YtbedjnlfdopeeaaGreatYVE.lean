/-
  A condition generator for functions on trees of data, part 5 of 5: values in memory, contracts, soundness.
-/
import Derived.Test.YtbedjnlfdopeeaaGreatYVD
set_option linter.all false
open Go
open Bool renaming and_eq_true->Zc
open Int renaming le_refl->Ye,natCast_nonneg->Vu
open List renaming getD_eq_getElem?_getD->Zr,length_take->Zk,getElem?_append_right->ZJ,drop_eq_getElem_cons->XJ,take_append_drop->ZL,getD->ZA,all_cons->XU
open Nat renaming add_assoc->Yy,le_trans->ZM,mul_le_mul_left->X3,mul_add->Vv
namespace Go.V
mutual
def gS:L->Nat
 | .s _ es=>es.length+bN es
 |_=>0
def dC:ay->Nat
 |[]=>0
 |l::ls=>gS l+dC ls
def bN:af->Nat
 |[]=>0
 |e::es=>dC e+bN es
end
def am (es:af):Nat:=es.length+bN es
def aR:List af->Nat
 |[]=>0
 |r::rs=>am r+aR rs
def dT (rs:List af)(left:Int):Int:=if left<aR rs then-1 else left-aR rs
mutual
def iI:L->Int->L×Int
 | .v (.int kd _),k=>(.v (.int kd k),k+1)
 | .v (.bool _),k=>(.v (.bool (k.tmod 3==0)),k+1)
 | .s sz es,k=>(.s sz (dP es k).1,(dP es k).2)
 |l,k=>(l,k)
def hJ:ay->Int->ay×Int
 |[],k=>([],k)
 |l::ls,k=>((iI l k).1::(hJ ls (iI l k).2).1,(hJ ls (iI l k).2).2)
def dP:af->Int->af×Int
 |[],k=>([],k)
 |e::es,k=>((hJ e k).1::(dP es (hJ e k).2).1,(dP es (hJ e k).2).2)
end
def dW (es:af)(k:Int):af:=(dP es k).1
def bg:List af->Int->Int
 |[],k=>k
 |r::rs,k=>bg rs (dP r k).2
theorem fO:∀ {a b:af},bN (a++b)=bN a+bN b
 |[],b=>by simp[bN]
 |e::a,b=>by simp[bN,fO (a:=a),Yy]
theorem o8:∀ {a b:List af},aR (a++b)=aR a+aR b
 |[],b=>by simp[aR]
 |e::a,b=>by simp[aR,o8 (a:=a),Yy]
theorem eM {r:af}:aR [r]=am r:=by simp[aR]
theorem Iz:∀ {ls:ay} {j:Nat} {l:L},ls[j]?=some l->gS l<=dC ls
 |[],j,l,h=>by simp at h
 |x::ls,0,l,h=>by simp at h;subst h;simp[dC]
 |x::ls,j+1,l,h=>by simp at h;have:=Iz h;simp[dC];omega
theorem pG {a:List af}{left:Int}:dT a left<0↔left<aR a:=by
 unfold dT;split<;>omega
theorem uB {a:List af}{left:Int}(h:0<=dT a left):dT a left=left-aR a:=by
 unfold dT at*;split at h
 ·omega
 ·rename_i c;rw[VT c]
theorem nu {a b:List af}{left:Int}(h:0<=dT a left):dT b (dT a left)=dT (a++b) left:=by
 rw[uB h];unfold dT;rw[o8];split<;>split<;>omega
theorem gO {a b:List af}{left:Int}(h:dT a left<0):dT (a++b) left= -1:=by
 rw[pG]at h;unfold dT;rw[o8,VR (by omega)]
theorem mR {a:List af}{left:Int}(h:dT a left<0):dT a left= -1:=by
 rw[pG]at h;unfold dT;rw[VR (by omega)]
theorem A2 {a:List af}{left:Int}(h:0<=dT a left):dT a left<=left:=by rw[uB h];omega
theorem no:∀ {a b:af} {k:Int},dP (a++b) k=((dP a k).1++(dP b (dP a k).2).1,(dP b (dP a k).2).2)
 |[],b,k=>by simp[dP]
 |e::a,b,k=>by simp[dP,no (a:=a)]
theorem jW:∀ {a b:List af} {k:Int},bg b (bg a k)=bg (a++b) k
 |[],b,k=>rfl
 |r::a,b,k=>by simp only[bg,List.cons_append];exact jW
theorem iE:∀ {es:af} {k:Int},(dP es k).1.length=es.length
 |[],k=>rfl
 |e::es,k=>by simp[dP,iE (es:=es)]
theorem cH {es:af}{k:Int}:(dW es k).length=es.length:=iE
def gK (es:af)(k:Int)(n:Nat):af:=(dP (es.take n) k).1++es.drop n
def fY (es:af)(k:Int)(n:Nat):Int:=(dP (es.take n) k).2
theorem eW {es:af}{k:Int}:gK es k 0=es:=by simp[gK,dP]
theorem bS {es:af}{k:Int}:fY es k 0=k:=by simp[fY,dP]
theorem AE {es:af}{k:Int}:gK es k es.length=dW es k:=by simp[gK,dW]
theorem rM {es:af}{k:Int}:fY es k es.length=bg [es] k:=by simp[fY,bg]
theorem ra {es:af}{k:Int}{n:Nat}(hn:n<=es.length):(gK es k n).length=es.length:=by simp[gK,iE];omega
theorem eV {es:af}{k:Int}{n:Nat}(hn:n<=es.length):(gK es k n).getD n []=es.getD n []:=by
 unfold gK;simp only[Zr];have hl:(dP (es.take n) k).1.length=n:=by rw[iE,Zk];omega
 rw[ZJ (by omega),hl];simp
theorem AF {es:af}{k:Int}{n:Nat}(hn:n<es.length):(gK es k n).set n (hJ (es.getD n []) (fY es k n)).1=gK es k (n+1):=by
 unfold gK fY;have hl:(dP (es.take n) k).1.length=n:=by rw[iE,Zk];omega
 rw[List.set_append_right _ _ (by omega),hl,fL (d:=[]) hn,no];simp only[Nat.sub_self];rw[XJ hn,List.set_cons_zero];simp[dP]
theorem dU {es:af}{k:Int}{n:Nat}(hn:n<es.length):fY es k (n+1)=(hJ (es.getD n []) (fY es k n)).2:=by
 unfold fY;rw[fL (d:=[]) hn,no];simp[dP]
theorem lx {es:af}{k:Int}{n:Nat}(hn:n<es.length):(dW es k).getD n []=(hJ (es.getD n []) (fY es k n)).1:=by
 have h1:es=es.take n++(es.getD n []::es.drop (n+1)):=by
  conv=>lhs;rw[<-ZL n es,XJ hn]
  simp[ZA,hn]
 unfold dW fY
 conv=>lhs;rw[h1]
 rw[no];simp only[Zr];have hl:(dP (es.take n) k).1.length=n:=by rw[iE,Zk];omega
 rw[ZJ (by omega),hl];simp[dP]
mutual
theorem adx:∀ (l:L) (k:Int),(iI l k).2=k+(iI l 0).2
 | .v x,k=>by cases x<;>simp[iI]
 | .s sz es,k=>by simp only[iI];exact pq es k
 | .g,k=>by simp[iI]
 | .m _ _,k=>by simp[iI]
theorem CG:∀ (ls:ay) (k:Int),(hJ ls k).2=k+(hJ ls 0).2
 |[],k=>by simp[hJ]
 | l::ls,k=>by
   simp only[hJ];rw[CG ls (iI l k).2,adx l k,CG ls (iI l 0).2];omega
theorem pq:∀ (es:af) (k:Int),(dP es k).2=k+(dP es 0).2
 |[],k=>by simp[dP]
 | e::es,k=>by
   simp only[dP];rw[pq es (hJ e k).2,CG e k,pq es (hJ e 0).2];omega
end
mutual
theorem aar:∀ (l:L) (k k':Int),(iI (iI l k).1 k').2=(iI l k').2
 | .v x,k,k'=>by cases x<;>simp[iI]
 | .s sz es,k,k'=>by simp only[iI];exact fu es k k'
 | .g,k,k'=>by simp[iI]
 | .m _ _,k,k'=>by simp[iI]
theorem Mq:∀ (ls:ay) (k k':Int),(hJ (hJ ls k).1 k').2=(hJ ls k').2
 |[],k,k'=>rfl
 |l::ls,k,k'=>by simp only[hJ];rw[Mq ls _ _,aar l k k']
theorem fu:∀ (es:af) (k k':Int),(dP (dP es k).1 k').2=(dP es k').2
 |[],k,k'=>rfl
 |e::es,k,k'=>by simp only[dP];rw[fu es _ _,Mq e k k']
end
theorem qe {es:af}{k k':Int}:bg [dW es k] k'=bg [es] k':=fu es k k'
theorem jB {es:af}{k:Int}{n:Nat}:fY es k n=k+fY es 0 n:=pq _ _
theorem JV:∀ {rs:List af} {k:Int},bg rs k=k+bg rs 0
 |[],k=>by simp[bg]
 |r::rs,k=>by simp only[bg];rw[JV (k:=(dP r k).2),pq r k,JV (k:=(dP r 0).2)];omega
mutual
theorem adw:∀ (l:L),0<=(iI l 0).2
 | .v x=>by cases x<;>simp[iI]
 | .s sz es=>by simp only[iI];exact HD es
 | .g=>by simp[iI]
 | .m _ _=>by simp[iI]
theorem Mp:∀ (ls:ay),0<=(hJ ls 0).2
 |[]=>by simp[hJ]
 |l::ls=>by simp only[hJ];rw[CG];have:=adw l;have:=Mp ls;omega
theorem HD:∀ (es:af),0<=(dP es 0).2
 |[]=>by simp[dP]
 |e::es=>by simp only[dP];rw[pq];have:=Mp e;have:=HD es;omega
end
theorem O0:∀ {rs:List af},0<=bg rs 0
 |[]=>by simp[bg]
 |r::rs=>by simp only[bg];rw[JV];have:=HD r;have:=O0 (rs:=rs);omega
theorem mL {es:af}{n:Nat}(hn:n<es.length):fY es 0 n<=fY es 0 (n+1):=by
 rw[dU hn,CG];have:=Mp (es.getD n []);omega
theorem fT {es:af}:∀ {m n:Nat},n<=es.length->m<=n->fY es 0 m<=fY es 0 n
 |m,0,_,h=>by rw[show m=0 from by omega];exact Ye _
 | m,n+1,hn,h=>by
   rcases Nat.lt_or_ge m (n+1)with c|c
   ·have:=fT (es:=es) (m:=m) (n:=n) (by omega) (by omega);have:=mL (es:=es) (n:=n) (by omega);omega
   ·rw[show m=n+1 from by omega];exact Ye _
def wid:Ty->Nat
 | .sl _=>0
 |_=>1
end Go.V
namespace Go.V
abbrev Rw (fs:List Ty)(es:af):Prop:=es.length<=maxLen/\∀ e∈es,cg fs e
abbrev tI:Ty:=.int .i64
abbrev tB:Ty:=.bool
mutual
def zL:Ty->L
 | .int k=>.v (.int k 0)
 | .bool=>.v (.bool false)
 | .str=>.v (.string .empty)
 | .sl fs=>.s fs.length []
def zR:List Ty->ay
 |[]=>[]
 |t::ts=>zL t::zR ts
end
theorem Fh:∀ {fs:List Ty} {e:ay},cg fs e->ka (zR fs) e=true
 |[],[],_=>rfl
 |[],_::_,h=>h.elim
 |_::_,[],h=>h.elim
 | t::ts,l::ls,h=>by
   obtain⟨h1,h2⟩:=h;simp only[zR,ka,Zc];refine⟨?_,Fh h2⟩;cases t with
   | int k=>cases l with
     | v x=>cases x with
       |int k' n=>simp only[dJ]at h1;simp[zL,oM,h1.1]
       |_=>simp[dJ]at h1
     |_=>simp[dJ]at h1
   | bool=>cases l with
     | v x=>cases x with
       |bool b=>rfl
       |_=>simp[dJ]at h1
     |_=>simp[dJ]at h1
   | str=>cases l with
     | v x=>cases x with
       |string b=>rfl
       |_=>simp[dJ]at h1
     |_=>simp[dJ]at h1
   | sl fs=>cases l with
     |s sz es=>simp only[dJ]at h1;simp[zL,oM,h1.1]
     |_=>simp[dJ]at h1
theorem Rw.wf {fs:List Ty}{es:af}(h:Rw fs es):Wf (zR fs) es:=fun e he=>Fh (h.2 e he)
theorem Rw.at {fs:List Ty}{es:af}(h:Rw fs es){n:Nat}(hn:n<es.length):cg fs (es.getD n []):=by
 refine h.2 _ ?_;rw[Zr,List.getElem?_eq_getElem hn];exact List.getElem_mem _
theorem Rw.eta {fs:List Ty}{es:af}(h:Rw fs es){i:Int}(h0:0<=i)(h1:i<es.length):es.getD i.toNat []=mW ai es i 0 (zR fs):=(au h.wf h0 h1).symm
theorem Cl:∀ {fs:List Ty} {e:ay} {j:Nat} {gs:List Ty},cg fs e->fs[j]?=some (.sl gs)->∃ es',e[j]?=some (.s gs.length es')/\Rw gs es'
 |[],_,j,gs,_,h=>by simp at h
 |_::_,[],j,gs,h,_=>h.elim
 | t::ts,l::ls,0,gs,h,e=>by
   simp at e;subst e;have h1:=h.1;cases l with
   |s sz es=>simp only[dJ]at h1;exact⟨es,by simp[h1.1],h1.2⟩
   |_=>simp[dJ]at h1
 | t::ts,l::ls,j+1,gs,h,e=>by
   simp at e;obtain⟨es',h1,h2⟩:=Cl h.2 e;exact⟨es',by simpa using h1,h2⟩
theorem Rw.sub {fs:List Ty}{es:af}(h:Rw fs es){i:Int}(hn:i.toNat<es.length){j:Nat}{gs:List Ty}(hj:fs[j]?=some (.sl gs)):Rw gs (ax es i j):=by
 obtain⟨es',h1,h2⟩:=Cl (h.at hn) hj;unfold ax;rw[Zr (l:=es.getD i.toNat []),h1];exact h2
theorem Rw.nil {fs:List Ty}:Rw fs []:=⟨Nat.zero_le _,by simp⟩
theorem Rw.take {fs:List Ty}{es:af}(h:Rw fs es)(n:Nat):Rw fs (es.take n):=⟨by rw[Zk];exact ZM (Nat.min_le_right _ _) h.1,fun e he=>h.2 e (List.mem_of_mem_take he)⟩
theorem Rw.drop {fs:List Ty}{es:af}(h:Rw fs es)(n:Nat):Rw fs (es.drop n):=⟨by rw[List.length_drop];exact ZM (Nat.sub_le _ _) h.1,fun e he=>h.2 e (List.mem_of_mem_drop he)⟩
theorem Rw.append {fs:List Ty}{a b:af}(ha:Rw fs a)(hb:Rw fs b)(hl:a.length+b.length<=maxLen):Rw fs (a++b):=⟨by simpa using hl,fun e he=>by rcases List.mem_append.1 he with q|q;exact ha.2 e q;exact hb.2 e q⟩
theorem Rw.one {fs:List Ty}{e:ay}(h:cg fs e):Rw fs [e]:=⟨by simp[maxLen],by simpa using h⟩
theorem Rw.set {fs:List Ty}{es:af}(h:Rw fs es){e:ay}(he:cg fs e)(n:Nat):Rw fs (es.set n e):=⟨by simpa using h.1,fun x hx=>by rcases List.mem_or_eq_of_mem_set hx with q|q;exact h.2 x q;rw[q];exact he⟩
theorem Rw.replicate {fs:List Ty}{e:ay}(h:cg fs e){n:Nat}(hn:n<=maxLen):Rw fs (List.replicate n e):=⟨by simpa using hn,fun x hx=>by rw[List.eq_of_mem_replicate hx];exact h⟩
def vZ:Ty->Bool
 | .sl _=>false
 |_=>true
theorem Af {t:Ty}{l:L}(h:dJ t l)(hs:vZ t=true):∃ x,l=.v x:=by
 cases t with
 |sl fs=>cases hs
 | int k=>cases l with
   |v x=>exact⟨x,rfl⟩
   |_=>simp[dJ]at h
 | bool=>cases l with
   |v x=>exact⟨x,rfl⟩
   |_=>simp[dJ]at h
 | str=>cases l with
   |v x=>exact⟨x,rfl⟩
   |_=>simp[dJ]at h
theorem Cv:∀ {fs:List Ty} {e:ay},fs.all vZ=true->cg fs e->dC e=0
 |[],[],_,_=>rfl
 |[],_::_,_,h=>h.elim
 |_::_,[],_,h=>h.elim
 | t::ts,l::ls,hs,h=>by
   simp only[XU,Zc]at hs;obtain⟨x,rfl⟩:=Af h.1 hs.1;simp only[dC,gS];rw[Cv hs.2 h.2]
theorem Fs {fs:List Ty}(hs:fs.all vZ=true):∀ {es:af},(∀ e∈es,cg fs e)->bN es=0
 |[],_=>rfl
 |e::es,h=>by simp only[bN];rw[Cv hs (h e (by simp)),Fs hs (fun x hx=>h x (by simp[hx]))]
theorem Rw.cnt {fs:List Ty}{es:af}(h:Rw fs es)(hs:fs.all vZ=true):am es=es.length:=by unfold am;rw[Fs hs h.2];rfl
theorem Rw.scal {fs:List Ty}{es:af}(h:Rw fs es)(hs:fs.all vZ=true):bJ es:=by
 have key:∀ {fs:List Ty} {e:ay},fs.all vZ=true->cg fs e->gX e:=by
  intro fs
  induction fs with
  | nil=>intro e _ h;cases e with
    |nil=>trivial
    |cons _ _=>exact h.elim
  | cons t ts ih=>
    intro e hs h;cases e with
    |nil=>exact h.elim
    | cons l ls=>
      simp only[XU,Zc]at hs;obtain⟨x,rfl⟩:=Af h.1 hs.1;exact(ih hs.2 h.2:gX ls)
 have:∀ {es:af},(∀ e∈es,cg fs e)->bJ es:=by
  intro es
  induction es with
  |nil=>intro _;trivial
  |cons e es ih=>intro h;exact⟨key hs (h e (by simp)),ih (fun x hx=>h x (by simp[hx]))⟩
 exact this h.2
theorem dx {es:af}{n:Nat}(hn:n<es.length):bN (es.take (n+1))=bN (es.take n)+dC (es.getD n []):=by
 rw[fL (d:=[]) hn,fO];simp[bN]
theorem bR {es:af}{n:Nat}:bN (es.take n)<=bN es:=by
 conv=>rhs;rw[<-ZL n es,fO]
 omega
theorem A7 {sz:Nat}{es:af}{n o:Nat}{new:ay}:sH (.s sz es) [(n,o)] new=es.set n ((es.getD n []).take o++new++(es.getD n []).drop (o+new.length)):=rfl
theorem uv {sz:Nat}{c:af}{n j:Nat}:pw (.s sz c) [(n,j)]=Ko ((c.getD n []).getD j .g):=by
 unfold pw iB;simp only[bX];cases h:c[n]? with
 |none=>simp[ZA,h,Ko]
 | some rec=>
   simp only[Option.map_some,ZA,h,Option.getD_some];cases h2:rec[j]? with
   |none=>simp[Ko]
   |some l=>cases l<;>simp[Ko]
theorem fk {c:af}{n:Nat}{r:ay}(h:n<c.length):(c.set n r).getD n []=r:=by simp[ZA,h]
theorem ua {sz:Nat}{c:af}{n j:Nat}{r:ay}(h:n<c.length):bX (.s sz (c.set n r)) [(n,j)]=some (r,j):=by simp[bX,h]
theorem yr {sz:Nat}{c:af}{n j:Nat}(h:n<c.length):bX (.s sz c) [(n,j)]=some (c.getD n [],j):=by simp[bX,ZA,h]
theorem Ak {sz:Nat}{c:af}{n j:Nat}{r:ay}(h:n<c.length):iB (.s sz (c.set n r)) [(n,j)]=match r[j]? with
 |some (.s sz es)=>some (sz,es)
 |_=>none:=by unfold iB;rw[ua h];rfl
theorem yt {sz:Nat}{c:af}{n j:Nat}(h:n<c.length):iB (.s sz c) [(n,j)]=match(c.getD n [])[j]? with
 |some (.s sz es)=>some (sz,es)
 |_=>none:=by unfold iB;rw[yr h];rfl
theorem bI {a b:List af}{k:Int}(hk:0<=k):bg a k<=bg (a++b) k/\0<=bg a k:=by
 rw[<-jW,JV (rs:=b),JV (rs:=a)];have:=O0 (rs:=a);have:=O0 (rs:=b);omega
theorem OL {l:L}{k:Int}{z:L}(h:oM z l=true):oM z (iI l k).1=true:=by
 cases l with
 |v x=>cases x<;>cases z<;>simp_all [iI,oM]<;>(rename_i y;cases y<;>simp_all [oM])
 |s sz es=>cases z<;>simp_all [iI,oM]
 |g=>exact h
 |m _ _=>exact h
theorem IF:∀ {z e:ay} {k:Int},ka z e=true->ka z (hJ e k).1=true
 |[],[],_,_=>rfl
 |[],_::_,_,h=>by simp[ka]at h
 |_::_,[],_,h=>by simp[ka]at h
 | z::zs,l::ls,k,h=>by
   simp only[ka,Zc,hJ]at h ⊢;exact⟨OL h.1,IF h.2⟩
theorem Fq:∀ {z:ay} {es:af} {k:Int},Wf z es->Wf z (dP es k).1
 |z,[],_,_=>fun e he=>by cases he
 | z,e::es,k,h=>by
   intro x hx;simp only[dP,List.mem_cons]at hx;rcases hx with rfl|hx;exact IF (h e (by simp));exact Fq (fun y hy=>h y (by simp[hy])) x hx
theorem dQ {fs:List Ty}{es:af}{k:Int}(h:Rw fs es):Wf (zR fs) (dW es k):=Fq h.wf
end Go.V
namespace Go.V
mutual
def PY:Ty->Nat
 | .sl fs=>GL fs
 |_=>1
def GL:List Ty->Nat
 |[]=>0
 |t::ts=>PY t+GL ts
end
mutual
theorem aai:∀ (t:Ty) (l:L),dJ t l->(iI l 0).2<=(PY t*(gS l+1):Nat)
 | .int k,.v x,h=>by cases x<;>simp[iI,gS,PY]
 | .int k,.s _ _,h=>by simp[dJ]at h
 | .int k,.g,h=>by simp[dJ]at h
 | .bool,.v x,h=>by cases x<;>simp[iI,gS,PY]
 | .bool,.s _ _,h=>by simp[dJ]at h
 | .bool,.g,h=>by simp[dJ]at h
 | .str,.v x,h=>by cases x<;>simp[iI,gS,PY]
 | .str,.s _ _,h=>by simp[dJ]at h
 | .str,.g,h=>by simp[dJ]at h
 | .sl fs,.v x,h=>by simp[dJ]at h
 | .sl fs,.g,h=>by simp[dJ]at h
 | .sl fs,.s sz es,h=>by
   have h1:=D2 fs es (by simp only[dJ]at h;exact h.2.2);simp only[iI,gS,PY];have:GL fs*(es.length+bN es)<=GL fs*(es.length+bN es+1):=X3 _ (by omega);omega
theorem Mi:∀ (ts:List Ty) (ls:ay),cg ts ls->(hJ ls 0).2<=(GL ts*(dC ls+1):Nat)
 |[],[],_=>by simp only[hJ];exact Vu _
 |[],_::_,h=>h.elim
 |_::_,[],h=>h.elim
 | t::ts,l::ls,h=>by
   have h1:=aai t l h.1;have h2:=Mi ts ls h.2;simp only[hJ];rw[CG];have e1:PY t*(gS l+1)<=PY t*(dC (l::ls)+1):=X3 _ (by simp[dC]);have e2:GL ts*(dC ls+1)<=GL ts*(dC (l::ls)+1):=X3 _ (by simp[dC]);have e3:GL (t::ts)*(dC (l::ls)+1)=PY t*(dC (l::ls)+1)+GL ts*(dC (l::ls)+1):=by simp only[GL];rw[Nat.add_mul]
   omega
theorem D2:∀ (ts:List Ty) (es:af),(∀ e∈es,cg ts e)->(dP es 0).2<=(GL ts*(es.length+bN es):Nat)
 |ts,[],_=>by simp only[dP];exact Vu _
 | ts,e::es,h=>by
   have h1:=Mi ts e (h e (by simp));have h2:=D2 ts es (fun x hx=>h x (by simp[hx]));simp only[dP];rw[pq];have e3:GL ts*((e::es).length+bN (e::es))=GL ts*(dC e+1)+GL ts*(es.length+bN es):=by
    rw[<-Vv];congr 1;simp[bN];omega
   omega
end
theorem Rw.marks {fs:List Ty}{es:af}(h:Rw fs es)(hw:GL fs<=64):(dP es 0).2<=(64*am es:Nat):=by
 have:=D2 fs es h.2;have h2:GL fs*(es.length+bN es)<=64*(es.length+bN es):=Nat.mul_le_mul_right _ hw;unfold am;omega
theorem FH:∀ {rs:List af} {k:Int},(∀ r∈rs,(dP r 0).2<=(64*am r:Nat))->bg rs k<=k+(64*aR rs:Nat)
 |[],k,_=>by simp[bg,aR]
 | r::rs,k,h=>by
   simp only[bg,aR];have h1:=h r (by simp);have h2:=FH (rs:=rs) (k:=(dP r k).2) (fun x hx=>h x (by simp[hx]));rw[pq]at h2;rw[pq r k];have:64*(am r+aR rs)=64*am r+64*aR rs:=Vv _ _ _;omega
theorem LV {rs:List af}{k:Int}(h:∀ r∈rs,(dP r 0).2<=(64*am r:Nat))(hk:0<=k/\k<=1000)(hc:aR rs<=1099511627776):bg rs k<=1152921504606846976:=by
 have:=FH (k:=k) h;have:64*aR rs<=64*1099511627776:=X3 _ hc;omega
theorem DU {rs:List af}{k:Int}(hk:0<=k):¬ bg rs k<0:=by
 rw[JV];have:=O0 (rs:=rs);omega
theorem aaY {rs:List af}(h:aR rs<=1048576):¬ dT rs 1048576<0:=by rw[pG];omega
theorem PU {es:af}{k:Int}:rB (dW es k) 0 es.length=dW es k:=by
 rw[<-cH (es:=es) (k:=k),sa]
abbrev hpL (a0 a1 a2:af)(a3:Int)(a4 a5 a6 a7 a8 a9 aA aB:af)(aC:Int)(aD:af)(aE aF aG aH:Int)(aI:Bool)(aJ aK:Int)(aL:af)(aM aN:Int):ay:=[.s 1 a0,.s 1 a1,.s 2 a2,.i a3,.s 1 a4,.s 2 a5,.s 3 a6,.s 3 a7,.s 4 a8,.s 1 a9,.s 1 aA,.s 1 aB,.i aC,.s 3 aD,.i aE,.i aF,.i aG,.i aH,.v (.bool aI),.i aJ,.i aK,.s 1 aL,.i aM,.i aN]
abbrev NY (a0 a1 a2:af)(a3:Int)(a4 a5 a6 a7 a8 a9 aA aB:af)(aC:Int)(aD:af)(aE aF aG aH:Int)(aI:Bool)(aJ aK:Int)(aL:af)(aM aN:Int):List H:=[.own (.s 1 a0),.own (.s 1 a1),.own (.s 2 a2),.own (.i a3),.own (.s 1 a4),.own (.s 2 a5),.own (.s 3 a6),.own (.s 3 a7),.own (.s 4 a8),.own (.s 1 a9),.own (.s 1 aA),.own (.s 1 aB),.own (.i aC),.own (.s 3 aD),.own (.i aE),.own (.i aF),.own (.i aG),.own (.i aH),.own (.v (.bool aI)),.own (.i aJ),.own (.i aK),.own (.s 1 aL),.own (.i aM),.own (.i aN)]
theorem eB {es:af}{n:Nat}(h:am es<=n):es.length<=n:=ZM (Nat.le_add_right _ _) h
theorem Sd {p:Prop}(h:p:=by
 try rw[fa (n:=es.length) g0 hlt (by omega)]
 try have hlt':i.toNat<es.length:=by omega
 try have hct:=dx (es:=es) (n:=i.toNat) (by omega);rw[he]at hct;simp only[dC,gS,Nat.add_zero,Nat.zero_add]at hct
 try have hks:=dU (es:=es) (k:=k) hlt';rw[he]at hks;simp only[hJ,iI]at hks
 try have hms:=AF (es:=es) (k:=k) hlt';rw[he]at hms;simp only[hJ,iI]at hms
 try have hcl:i.toNat<cur.length:=by rw[hc,ra g1];exact hlt'
 have hk1:=jB (es:=es) (k:=k) (n:=i.toNat)
 have hk2:=jB (es:=es) (k:=k) (n:=i.toNat+1)
 have hk3:=rM (es:=es) (k:=k)
 have hk4:=jB (es:=es) (k:=k) (n:=es.length)
 have hk5:=fT (es:=es) (m:=0) (n:=i.toNat) g1 (Nat.zero_le _)
 have hk6:=fT (es:=es) (m:=i.toNat) (n:=es.length) (Nat.le_refl _) g1
 try have hk7:=fT (es:=es) (m:=i.toNat+1) (n:=es.length) (Nat.le_refl _) hlt'
 have hle1:=bR (es:=es) (n:=i.toNat+1)
 have hcE:am es=es.length+bN es:=rfl
 rw[bS]at hk5
 try have hk8:=mL (es:=es) (n:=i.toNat) hlt'
 have ha1:bO .add .i64 k' 1=k'+1:=bF (by omega)
 have ha2:bO .add .i64 (k'+1) 1=k'+1+1:=bF (by omega)
 have ha3:bO .add .i64 (k'+1+1) 1=k'+1+1+1:=bF (by omega)
 have ha4:bO .add .i64 (k'+1+1+1) 1=k'+1+1+1+1:=bF (by omega)
 try simp only[ha1,ha2,ha3,ha4]
 try simp only[az]
 try simp only[A7,hcg,List.take,List.drop,List.length_cons,List.length_nil,List.nil_append,List.cons_append,List.append_nil,Nat.zero_add,Nat.reduceAdd,fk hcl,List.set_set,List.append_assoc]
 try simp only[uv,hcg,fk hcl,List.getD_cons_zero,List.getD_cons_succ,Ko]
 try simp only[yr hcl,ua hcl,yt hcl,Ak hcl,hcg,List.getElem?_cons_zero,List.getElem?_cons_succ]
 first|exact⟨g0,hlt⟩|(refine⟨_,_,rfl,?_⟩;simp;done)|omega|(rw[hk',show i.toNat=es.length from by omega,hk3];done)|(rw[hc,show i.toNat=es.length from by omega,AE];rfl)|(rw[show(i+1).toNat=i.toNat+1 from by omega,hks,hk'];done)|(rw[show(i+1).toNat=i.toNat+1 from by omega, <-hms,hc,hk'];done)|trace_state):p:=h
theorem Se {p:Prop}(h:p:=by
 have hk1:=jB (es:=es) (k:=k) (n:=i.toNat)
 have hk2:=jB (es:=es) (k:=k) (n:=i.toNat+1)
 have hk3:=rM (es:=es) (k:=k)
 have hk4:=jB (es:=es) (k:=k) (n:=es.length)
 have hk5:=fT (es:=es) (m:=0) (n:=i.toNat) g1 (Nat.zero_le _)
 have hk6:=fT (es:=es) (m:=i.toNat) (n:=es.length) (Nat.le_refl _) g1
 try have hk7:=fT (es:=es) (m:=i.toNat+1) (n:=es.length) (Nat.le_refl _) hlt'
 have hle1:=bR (es:=es) (n:=i.toNat+1)
 have hcE:am es=es.length+bN es:=rfl
 rw[bS]at hk5
 try have hk8:=mL (es:=es) (n:=i.toNat) hlt'
 try rw[<-hk']at hem hks
 have ha1:bO .add .i64 k' 1=k'+1:=bF (by omega)
 have ha2:bO .add .i64 (k'+1) 1=k'+1+1:=bF (by omega)
 have ha3:bO .add .i64 (k'+1+1) 1=k'+1+1+1:=bF (by omega)
 have ha4:bO .add .i64 (k'+1+1+1) 1=k'+1+1+1+1:=bF (by omega)
 try simp only[ha1,ha2,ha3,ha4]at*
 first|exact oy hwm g0 hltm|omega|(exfalso;revert hb;simp only[hem,dB,bO];simp;done)|(rw[hk',show i.toNat=es.length from by omega,hk3,hkk];done)|(rw[show(i+1).toNat=i.toNat+1 from by omega,hks];done)|(rw[show(i+1).toNat=i.toNat+1 from by omega,hks,hem];simp only[bg,fu];done)|(rw[show(i+1).toNat=i.toNat+1 from by omega,hks,hem.2];simp only[bg,fu];done)|(refine⟨_,by first|exact hem|exact hem.2|exact hem.1|rfl,?_,?_,?_⟩<;>(try simp only[bg,fu,am])<;>omega)|(refine⟨_,by first|exact hem|exact hem.2|exact hem.1|rfl,?_,?_,?_⟩<;>(try rw[hem])<;>(try rw[hem.2])<;>(try simp only[bg,fu,am])<;>omega)|(exfalso;simp only[bg,fu]at hb;omega)|(exfalso;(first|rw[hem]at hb|rw[hem.2]at hb);simp only[bg,fu]at hb;omega)|trivial|trace_state):p:=h
theorem Qd {p:Prop}(h:p:=by
 try rw[fa (n:=es.length) g0 hlt (by omega)]
 try have hct:=dx (es:=es) (n:=i.toNat) (by omega);rw[he]at hct;simp only[dC,gS,Nat.add_zero,Nat.zero_add]at hct
 have hle1:=bR (es:=es) (n:=i.toNat+1)
 have hcE:am es=es.length+bN es:=rfl
 first|exact oy hwf g0 hlt|exact⟨g0,hlt⟩|(rw[hm];exact gV (by rw[lC g1];omega) (by rw[pj (by omega)];exact Nat.le_refl _))|omega|(rw[show(i+1).toNat=i.toNat+1 from by omega, <-Cq (by omega), <-hm,ny (by rw[hm,pj (by omega)];rfl),he])|(rw[hm,lC g1];exact⟨trivial,rfl⟩)|(rw[hm,show i.toNat=es.length from by omega,Cp])|trace_state):p:=h
theorem zq3 {p:Prop}(h:p:=by
 try have hct:=dx (es:=es) (n:=i.toNat) (by omega);rw[he]at hct;simp only[dC,gS,Nat.add_zero,Nat.zero_add]at hct
 try have hks:=dU (es:=es) (k:=k) hlt';rw[he]at hks;simp only[hJ,iI]at hks
 try have hms:=AF (es:=es) (k:=k) hlt';rw[he]at hms;simp only[hJ,iI]at hms
 try have hcl:i.toNat<cur.length:=by rw[hc,ra g1];exact hlt'
 have hk1:=jB (es:=es) (k:=k) (n:=i.toNat)
 have hk2:=jB (es:=es) (k:=k) (n:=i.toNat+1)
 have hk3:=rM (es:=es) (k:=k)
 have hk4:=jB (es:=es) (k:=k) (n:=es.length)
 have hk5:=fT (es:=es) (m:=0) (n:=i.toNat) g1 (Nat.zero_le _)
 have hk6:=fT (es:=es) (m:=i.toNat) (n:=es.length) (Nat.le_refl _) g1
 try have hk7:=fT (es:=es) (m:=i.toNat+1) (n:=es.length) (Nat.le_refl _) hlt'
 have hle1:=bR (es:=es) (n:=i.toNat+1)
 have hcE:am es=es.length+bN es:=rfl
 rw[bS]at hk5
 try have hk8:=mL (es:=es) (n:=i.toNat) hlt'
 have ha1:bO .add .i64 k' 1=k'+1:=bF (by omega)
 have ha2:bO .add .i64 (k'+1) 1=k'+1+1:=bF (by omega)
 have ha3:bO .add .i64 (k'+1+1) 1=k'+1+1+1:=bF (by omega)
 have ha4:bO .add .i64 (k'+1+1+1) 1=k'+1+1+1+1:=bF (by omega)
 try simp only[ha1,ha2,ha3,ha4]
 try simp only[az]
 try simp only[A7,hcg,List.take,List.drop,List.length_cons,List.length_nil,List.nil_append,List.cons_append,List.append_nil,Nat.zero_add,Nat.reduceAdd,fk hcl,List.set_set,List.append_assoc]
 try simp only[uv,hcg,fk hcl,List.getD_cons_zero,List.getD_cons_succ,Ko]
 try simp only[yr hcl,ua hcl,yt hcl,Ak hcl,hcg,List.getElem?_cons_zero,List.getElem?_cons_succ]
 first|exact⟨g0,hlt⟩|(refine⟨_,_,rfl,by simp,?_⟩;show List.take _ (List.drop _ _)=[L.s _ (pw _ _)];simp only[yO,uv,hcg,fk hcl,List.getD_cons_zero,List.getD_cons_succ,Nat.add_zero,Ko];rfl)|exact⟨trivial,_,rfl,rfl⟩|exact⟨_,rfl⟩|omega|(rw[hk',show i.toNat=es.length from by omega,hk3];done)|(rw[hc,show i.toNat=es.length from by omega,AE];rfl)|(rw[show(i+1).toNat=i.toNat+1 from by omega,hks,hk'];rfl)|(rw[show(i+1).toNat=i.toNat+1 from by omega, <-hms,hc,hk'];rfl)|(refine⟨hr0,?_,?_,?_⟩<;>(try simp only[am,bg])<;>first|omega|(rw[hk'];omega))|trace_state):p:=h
theorem yl {p:Prop}(h:p:=by
 intro O r F hO hr hF;cbv
 repeat' first|apply And.intro|(apply bG<;>intro hb<;>cbv)
 all_goals(subst hO hr hF;(try simp only[nc]at*);(try simp only[ai,SS,sa,az]at*))
 all_goals first|trivial|trace_state):p:=h
theorem zq5 {p:Prop}(h:p:=by
 have hk1:=jB (es:=es) (k:=k) (n:=i.toNat)
 have hk2:=jB (es:=es) (k:=k) (n:=i.toNat+1)
 have hk3:=rM (es:=es) (k:=k)
 have hk4:=jB (es:=es) (k:=k) (n:=es.length)
 have hk5:=fT (es:=es) (m:=0) (n:=i.toNat) g1 (Nat.zero_le _)
 have hk6:=fT (es:=es) (m:=i.toNat) (n:=es.length) (Nat.le_refl _) g1
 try have hk7:=fT (es:=es) (m:=i.toNat+1) (n:=es.length) (Nat.le_refl _) hlt'
 have hle1:=bR (es:=es) (n:=i.toNat+1)
 have hcE:am es=es.length+bN es:=rfl
 rw[bS]at hk5
 try have hk8:=mL (es:=es) (n:=i.toNat) hlt'
 try rw[<-hk']at hem hks
 have ha1:bO .add .i64 k' 1=k'+1:=bF (by omega)
 have ha2:bO .add .i64 (k'+1) 1=k'+1+1:=bF (by omega)
 have ha3:bO .add .i64 (k'+1+1) 1=k'+1+1+1:=bF (by omega)
 have ha4:bO .add .i64 (k'+1+1+1) 1=k'+1+1+1+1:=bF (by omega)
 try simp only[ha1,ha2,ha3,ha4]at*
 first|exact oy hwm g0 hltm|omega|(exfalso;revert hb;simp only[hem,dB,bO];simp;done)|(rw[hk',show i.toNat=es.length from by omega,hk3,hkk];done)|(rw[show(i+1).toNat=i.toNat+1 from by omega,hks];done)|(rw[show(i+1).toNat=i.toNat+1 from by omega,hks,hem];simp only[bg,fu];done)|(rw[show(i+1).toNat=i.toNat+1 from by omega,hks,hem.2];simp only[bg,fu];done)|(refine⟨_,by first|exact hem|exact hem.2|exact hem.1|rfl,hr0,?_,?_,?_⟩<;>(try simp only[bg,fu,am])<;>omega)|(refine⟨_,by first|exact hem|exact hem.2|exact hem.1|rfl,hr0,?_,?_,?_⟩<;>(try rw[hem])<;>(try rw[hem.2])<;>(try simp only[bg,fu,am])<;>omega)|(exfalso;simp only[bg,fu]at hb;omega)|(exfalso;(first|rw[hem]at hb|rw[hem.2]at hb);simp only[bg,fu]at hb;omega)|trivial|trace_state):p:=h
theorem zq6 {p:Prop}(h:p:=by
 ((try subst hos);subst hO hr hF;(try simp only[nc]at*);(try simp only[ai,SS,sa,az]at*))
 (try simp only[sY]at*)
 try rw[cQ (by omega) (by omega)]
 (try simp only[iJ (l:=a6) (sz:=3) (j:=0) i0,iJ (l:=a6) (sz:=3) (j:=1) i0,iJ (l:=a6) (sz:=3) (j:=2) i0]at*)
 (try have xb:=abl (by assumption:xsI a1 a2 a3 a4 a5 a6 k<0))
 (try have xb:=abm (by assumption:0<=xsI a1 a2 a3 a4 a5 a6 k))
 (try simp only[(afe xb).1,(afe xb).2]at*)
 (try simp only[aht xb]at*)
 (try have xb:xpB a1 a2 a3 a4 a5 1=false:=(by assumption))
 (try have xb:xpB a1 a2 a3 a4 a5 1=true:=(by assumption))
 (try have cf:ctB (ax a9 t 0) k=false:=(by assumption))
 (try have q:=abe (a0:=a0) (a1:=a1) (a2:=a2) (a3:=a3) (a4:=a4) (a5:=a5) (a6:=a6) (a9:=a9) (aE:=aE) (aI:=aI) (aJ:=aJ) (aK:=aK) (by assumption:ctB (ax a9 t 0) k=true))
 (try have q:=abg (a0:=a0) (a1:=a1) (a2:=a2) (a3:=a3) (a4:=a4) (a5:=a5) (a6:=a6) (a9:=a9) (aE:=aE) (aI:=aI) (aJ:=aJ) (aK:=aK) (t:=t) (k:=k) cf (R7 i2 (by omega)) xb)
 (try have q:=abh (a0:=a0) (a1:=a1) (a2:=a2) (a3:=a3) (a4:=a4) (a5:=a5) (a6:=a6) (a9:=a9) (aE:=aE) (aI:=aI) (aJ:=aJ) (aK:=aK) (t:=t) (k:=k) cf (R7 i2 (by omega)) xb)
 (try have q:=abf (a0:=a0) (a1:=a1) (a2:=a2) (a3:=a3) (a4:=a4) (a5:=a5) (a6:=a6) (a9:=a9) (aE:=aE) (aI:=aI) (aJ:=aJ) (aK:=aK) (t:=t) (k:=k) cf i0 (aeY i2 i0 (by omega) (by assumption) (by assumption) (by assumption)))
 first
  | (show(_:List DV)=_
     first
      |(first|(rw[q.2.2.2.2.2.2.2.2.1,q.2.2.2.2.2.2.2.2.2];done)|(rw[q.2.2.2.2.2.2.2.2.1,q.2.2.2.2.2.2.2.2.2];exact rfl))
      |(first|(rw[q.2.2.2.2.2.2.2.2.1];done)|(rw[q.2.2.2.2.2.2.2.2.1];exact rfl))
      |(exfalso;omega)
      |done)
  | (show(_:List H)=_
     first
      |(first|(rw[q.1,q.2.1,q.2.2.1,q.2.2.2.1,q.2.2.2.2.1,q.2.2.2.2.2.1,q.2.2.2.2.2.2.1,q.2.2.2.2.2.2.2.1];done)|(rw[q.1,q.2.1,q.2.2.1,q.2.2.2.1,q.2.2.2.2.1,q.2.2.2.2.2.1,q.2.2.2.2.2.2.1,q.2.2.2.2.2.2.2.1];exact rfl))
      |(first|(rw[q.1,q.2.1,q.2.2.1,q.2.2.2.1,q.2.2.2.2.1,q.2.2.2.2.2.1,q.2.2.2.2.2.2.1,q.2.2.2.2.2.2.2.1,RV hp.r9 tr.1 (by omega)];done)|(rw[q.1,q.2.1,q.2.2.1,q.2.2.2.1,q.2.2.2.2.1,q.2.2.2.2.2.1,q.2.2.2.2.2.2.1,q.2.2.2.2.2.2.2.1,RV hp.r9 tr.1 (by omega)];exact rfl))
      |(exfalso;omega)
      |done)
  |omega
  |exact fU
  |exact LA hp.r9 tr.1 (by omega)
  |exact JO hp.r9 tr.1 (by omega)
  |exact⟨Eo hp.r9 tr.1 (by omega),Nat.le_trans oh (by omega)⟩
  |exact No hp.r9 tr.1 (by omega)
  |exact IX h6 i0 (by omega)
  |exact FK h6 i0 (by omega) (by decide)
  |exact bB
  |exact ae2 i2 (by assumption)
  |exact ae3 i2 (by assumption)
  |exact ae4 i2 (by assumption)
  |exact⟨hp,i0,by omega,GA hk i0 (by omega),HH.s⟩
  |exact⟨hp,i0,by omega,GA hk i0 (by omega),HH.s,by assumption⟩
  |exact⟨hp,HH.k,c0,c1,by omega,by omega⟩
  |exact⟨hp.r6,by omega⟩
  |exact abi hp km c6 kk HH.s xb
  |exact absurd ((by assumption:xcB a2 a6 i=true).symm.trans (by assumption:xcB a2 a6 i=false)) Bool.noConfusion
  |exact absurd (aeV (GA hk i0 (by omega)) HH.s (by assumption)) (by omega)
  |(show aP _ _=true;kernel_rfl)
  |exact⟨True.intro,True.intro⟩
  |exact True.intro
  |done):p:=h
theorem zq7 {p:Prop}(h:p:=by
 (subst hO hr hF;(try simp only[nc]at*);(try simp only[ai,SS,sa,az]at*))
 (try have ib:=abM i2 i0)
 try rw[cQ (by omega) (by omega)]
 (try have hk:rgOk p rs=true:=(by assumption))
 (try have eb:=Oh i2 i1 (by omega))
 (try have tb:=ahk hk (by omega) (by omega:0<=fe rs n))
 (try have T:=Er tb)
 (try have t0:=T.i0)
 (try have t1:=T.i1)
 (try have t2:=T.a0)
 (try have t3:=T.l0)
 (try have t4:=T.e)
 (try have t5:=T.p0)
 (try subst eb)
 (try have a1:bO .add .i64 (ah rs (fe rs n) 0) n=ah rs (fe rs n) 0+n:=bF (by omega))
 (try have a3:bO .add .i64 (fe rs n) 1=fe rs n+1:=bF (by omega))
 (try have U:=ahl hr T)
 (try have b1:bO .add .i64 i 1=i+1:=bF (by omega))
 (try simp only[U.g0]at*)
 (try simp only[a1,a3,b1]at*)
 (try simp only[U.u1]at*)
 (try simp only[U.g1]at*)
 (try have a2:bO .sub .i64 (ah rs (fe rs n) 1) n=ah rs (fe rs n) 1-n:=di (by omega))
 (try simp only[a2]at*)
 (try simp only[U.u2]at*)
 (try simp only[U.g2]at*)
 (try have w1:=U.w1)
 (try have w2:=U.w2)
 (try have l1:=U.l)
 (try have l2:=U.l2)
 (try simp only[yC,List.nil_append]at*)
 (try have sd:=Jt (l:=rs) (i:=fe rs n+1) (by omega) (by omega))
 (try simp only[sd]at*)
 first
  | (show(_:List DV)=_
     first
      |(have z:=aa2 (n:=n) (by assumption);exact ta (PW z) z)
      |(have z:=aa3 (p:=p) (rs:=rs) (by omega);exact ta (PW z) z)
      |(have z:=aa4 (p:=p) (by omega);exact ta (PW z) z)
      |(rw[aa1 t0];exact ta (aaZ tb (by omega)) tb)
      |exact ta (aa0 tb (by omega)) tb
      |exact ta (aaZ tb (by omega)) tb
      |(rw[aeD hr t0 t1];exact ta (aa0 tb (by omega)) tb)
      |done)
  | (show(_:List H)=_
     first
      |done)
  |omega
  |exact fU
  |exact⟨hr,by omega⟩
  |exact⟨p0,p1,hr,by omega⟩
  |exact Rw.scal (fs:=[tI,tI]) hr rfl
  |(show _/\_;simp only[List.length_nil,List.length_append,List.length_take,List.length_drop];omega)
  |exact abJ
  |exact abK i2 i0 (by omega) (by omega)
  |exact abL i2 i0 (by omega)
  |exact aaX hr (by omega) (by omega) (by decide)
  |exact aaX w1 t0 l1 (by decide)
  |exact L3 hr t0 t1 (by decide)
  |exact L3 w1 t0 l1 (by decide)
  |exact L3 w2 t0 l2 (by decide)
  |exact Np hr (by omega) (by omega)
  |exact⟨by omega,by omega,by omega⟩
  |exact⟨True.intro,by simp only[List.length_set]⟩
  |exact⟨True.intro,by rw[aeD hr t0 t1,List.length_set]⟩
  |exact absurd (by assumption:true=false) Bool.noConfusion
  |exact Rw.scal (fs:=[tI,tI]) (Rw.take hr _) rfl
  |exact Rw.scal (fs:=[tI,tI]) (Rw.drop hr _) rfl
  |(show aP _ _=true;kernel_rfl)
  |exact⟨True.intro,True.intro⟩
  |exact True.intro
  |done):p:=h
theorem Sf {p:Prop}(h:p:=by
 try rw[fa (n:=es.length) g0 hlt (by omega)]
 try have hct:=dx (es:=es) (n:=i.toNat) (by omega);rw[he]at hct;simp only[dC,gS,Nat.add_zero,Nat.zero_add]at hct
 have hle1:=bR (es:=es) (n:=i.toNat+1)
 have hcE:am es=es.length+bN es:=rfl
 first|omega|exact oy hwf g0 hlt|trivial|trace_state):p:=h
theorem Sg {p:Prop}(h:p:=by
 intro O r F hO hr hF;cbv
 repeat' first|apply And.intro|(apply bG<;>intro hb<;>cbv)
 all_goals(subst hO hr hF;(try simp only[nc]at*);(try simp only[ai,SS,sa,az]at*))
 all_goals first|exact hs|trivial|exact⟨trivial,trivial⟩|exact⟨hw,hl⟩|omega|(show aP _ _=true;kernel_rfl)|(simp only[List.length_nil];omega)|exact rfl|done):p:=h
theorem EY {p:Prop}(h:p:=by
 intro O r F hO hr hF;cbv
 repeat' first|apply And.intro|(apply bG<;>intro hb<;>cbv)
 all_goals(subst hO hr hF;(try simp only[nc]at*);(try simp only[ai,SS,sa,az]at*))
 all_goals(try simp only[hs]at*)
 all_goals first|trivial|(rw[hn,VR (by omega)])|(rw[hn,VT (by omega)])):p:=h
theorem aff {p:Prop}(h:p:=by
 intro O r F hO hr hF;cbv
 repeat' first|apply And.intro|(apply bG<;>intro hb<;>cbv)
 all_goals(subst hO hr hF;(try simp only[nc]at*);(try simp only[ai,SS,sa,az]at*))
 all_goals(try simp only[sY]at*)
 all_goals(try have ht:clB ls k=true:=(by assumption))
 all_goals(try have hi:=K9 ht)
 all_goals(try have k1:k<ls.length:=(by omega))
 all_goals(try have hg:=Eo hw hi.1 k1)
 all_goals(try have hz:=abZ (k:=k) ht (by omega))
 all_goals(try have e1:bO .sub .i64 ((ax ls k 0).length:Int) 1=(ax ls k 0).length-1:=di (by omega))
 all_goals(try simp only[e1]at*)
 all_goals(try simp only[yC,Nb,ahm,List.nil_append]at*)
 all_goals(try have hu:=af2 hw hc ht)
 all_goals first
  | (show(_:List DV)=_
     first
      |(have q:=SZ (QH (by assumption:clB ls k=false));rw[q.1,q.2,QH (by assumption:clB ls k=false)];exact rfl)
      |(have q:=SZ (QI (ls:=ls) (k:=k) (by omega));rw[q.1,q.2,QI (ls:=ls) (k:=k) (by omega)];exact rfl)
      |(rw[hz.1,hz.2.1,hz.2.2,Nt hw hi.1 k1];exact rfl)
      |(rw[hz.1,hz.2.1,hz.2.2];exact rfl)
      |done)
  | (show(_:List H)=_
     first
      |done)
  |omega
  |exact fU
  |exact N
  |exact⟨hw,by omega⟩
  |exact OO hw hi.1 k1
  |exact⟨hi.1,k1⟩
  |exact⟨by omega,by omega,by omega,Fy hw hi.1 k1⟩
  |exact⟨True.intro,rfl,hu.1,hu.2.1⟩
  |exact⟨hu.1,hu.2.1⟩
  |exact Rw.scal (fs:=[tI]) (Rw.take hg _) rfl
  |(show _/\_;simp only[List.length_nil,List.length_take];omega)
  |exact No hw hi.1 k1
  |(rw[show(ax ls k 0).length-1=(((ax ls k 0).length:Int)-1).toNat from by omega];exact fU)
  |(show aP _ _=true;kernel_rfl)
  |exact⟨True.intro,True.intro⟩
  |exact True.intro
  |done):p:=h
theorem afg {p:Prop}(h:p:=by
 intro O r os F hO hr hos hF;cbv
 repeat' first|apply And.intro|(apply bG<;>intro hb<;>cbv)
 all_goals((try subst hos);subst hO hr hF;(try simp only[nc]at*);(try simp only[ai,SS,sa,az]at*))
 all_goals(try simp only[g0,g1,g2]at*)
 all_goals(try simp only[gf]at*)
 all_goals(try have X:=Gz hs hd (by omega:¬ (qo a2 a6 i).length=0))
 all_goals(try have eT:GI (.s 1 (qo a2 a6 i)) [((cuI aE ((qo a2 a6 i).length:Int)).toNat,0)]=rH a2 a6 aE i:=iJ X.k0)
 all_goals(try simp only[eT]at*)
 all_goals(try have U:=aho h6 i0 i1 X)
 all_goals(try simp only[U.u]at*)
 all_goals(try simp only[U.g0,U.g1,U.g2]at*)
 all_goals(try have q:=NL (s:=aE) (by omega:¬ (qo a2 a6 i).length=0))
 all_goals first
  | (show(_:List DV)=_
     first
      |(have q:=NJ (s:=aE) (by omega:(qo a2 a6 i).length=0);first|(rw[q.2.2.2,q.1];done)|(rw[q.2.2.2,q.1];exact rfl))
      |(have q:=NJ (s:=aE) (by omega:(qo a2 a6 i).length=0);first|(rw[q.2.2.2];done)|(rw[q.2.2.2];exact rfl))
      |(first|(rw[q.2.2.2,q.1];done)|(rw[q.2.2.2,q.1];exact rfl))
      |(first|(rw[q.2.2.2,X.aa];done)|(rw[q.2.2.2,X.aa];exact rfl))
      |done)
  | (show(_:List H)=_
     first
      |(have q:=NJ (s:=aE) (by omega:(qo a2 a6 i).length=0);rw[q.2.1,q.2.2.1];exact rfl)
      |(rw[q.2.1,q.2.2.1];exact rfl)
      |done)
  |omega
  |exact fU
  |exact⟨X.k0,X.k1⟩
  |exact IX h6 i0 (by omega)
  |exact IX U.w i0 U.l
  |exact⟨hp.r2,hp.r6,by omega,by omega⟩
  |exact ac8 X.r X.k0 X.k1
  |exact aeG h6 i0 i1 (by decide)
  |exact⟨i0,U.l⟩
  |exact⟨i0,i1⟩
  |(show aP _ _=true;kernel_rfl)
  |exact⟨True.intro,True.intro⟩
  |exact True.intro
  |done):p:=h
theorem afh {p:Prop}(h:p:=by
 (subst hO hr hF;(try simp only[nc]at*);(try simp only[ai,SS,sa,az]at*))
 try rw[cQ (by omega) (by omega)]
 try(have hol:out.length=i.toNat:=(by rw[i2,List.length_take];omega))
 try(have hok:ou2.length=k.toNat:=(by rw[k2,List.length_take];omega))
 try(have hsc:=rY wb i0 (by assumption);have hsl:=aw (es:=ax b i 0))
 try(have hsd:=rY wx k0 (by assumption);have hsm:=aw (es:=ax x k 0))
 first
  | (show(_:List DV)=_
     first
      |exact rfl
      |(rw[i2,js (by omega)];rfl)
      |(rw[i2,k2,js (by omega),js (by omega)];rfl)
      |done)
  |omega
  |exact fU
  |(show aP _ _=true;kernel_rfl)
  |exact Rw.scal (fs:=[tI]) (by(first|assumption|exact Rw.sub (by first|assumption|exact Rw.sub (by assumption) (by omega) rfl) (by omega) rfl)) rfl
  |exact Rw.scal (fs:=[tI,tI]) (by(first|assumption|exact Rw.sub (by first|assumption|exact Rw.sub (by assumption) (by omega) rfl) (by omega) rfl)) rfl
  |exact⟨by(first|assumption|exact Rw.sub (by first|assumption|exact Rw.sub (by assumption) (by omega) rfl) (by omega) rfl),by omega⟩
  |(simp only[List.length_nil,List.length_cons];omega)
  |(rw[i2,List.nil_append];exact(jt wb i0 (by assumption)).symm)
  |(rw[k2];exact(jt wx k0 (by assumption)).symm)
  |(rw[k2,List.nil_append];exact(jt wx k0 (by assumption)).symm)
  |exact⟨trivial,trivial⟩
  |trivial
  |exact rfl
  |done):p:=h
theorem abn {p:Prop}(h:p:=by
 try have hct:=dx (es:=es) (n:=i.toNat) (by omega);rw[he]at hct;simp only[dC,gS,Nat.add_zero,Nat.zero_add]at hct
 have hle1:=bR (es:=es) (n:=i.toNat+1)
 have hcE:am es=es.length+bN es:=rfl
 first|exact oy hwf g0 hlt|exact⟨g0,hlt⟩|(rw[hm];exact gV (by rw[lC g1];omega) (by rw[pj (by omega)];exact Nat.le_refl _))|omega|(rw[show(i+1).toNat=i.toNat+1 from by omega, <-Cq (by omega), <-hm,ny (by rw[hm,pj (by omega)];rfl),he])|(rw[hm,lC g1];exact⟨trivial,rfl⟩)|(rw[hm,show i.toNat=es.length from by omega,Cp])|trivial|(refine⟨hr0,?_⟩;simp only[aR,am,Nat.add_zero];omega)|trace_state):p:=h
theorem afi {p:Prop}(h:p:=by
 (subst hO hr hF;(try simp only[nc]at*);(try simp only[ai,SS,sa,az]at*))
 try rw[cQ (by omega) (by omega)]
 try(have hol:out.length=i.toNat:=(by rw[i2,List.length_take];omega))
 try(have hsc:=rY hc i0 (by assumption);have hsl:=aw (es:=ax ls i 0))
 first
  | (show(_:List DV)=_
     first
      |exact rfl
      |(rw[i2,js (by omega)];rfl)
      |(rw[i2,k2,js (by omega),js (by omega)];rfl)
      |done)
  |omega
  |exact fU
  |(show aP _ _=true;kernel_rfl)
  |exact Rw.scal (fs:=[tI]) (by(first|assumption|exact Rw.sub (by first|assumption|exact Rw.sub (by assumption) (by omega) rfl) (by omega) rfl)) rfl
  |exact Rw.scal (fs:=[tI,tI]) (by(first|assumption|exact Rw.sub (by first|assumption|exact Rw.sub (by assumption) (by omega) rfl) (by omega) rfl)) rfl
  |exact⟨by(first|assumption|exact Rw.sub (by first|assumption|exact Rw.sub (by assumption) (by omega) rfl) (by omega) rfl),by omega⟩
  |(simp only[List.length_nil,List.length_cons];omega)
  |(rw[i2];exact(jt hc i0 (by assumption)).symm)
  |(rw[i2,List.nil_append];exact(jt hc i0 (by assumption)).symm)
  |exact⟨trivial,trivial⟩
  |trivial
  |exact rfl
  |done):p:=h
theorem Qb {p:Prop}(h:p:=by
 intro O r os F hO hr hos hF;cbv
 repeat' first|apply And.intro|(apply bG<;>intro hb<;>cbv)
 all_goals((try subst hos);subst hO hr hF;(try simp only[nc]at*);(try simp only[ai,SS,sa,az]at*))
 all_goals(try simp only[jW,List.cons_append,List.nil_append,cH]at*)
 all_goals first|trivial|(refine⟨by assumption,?_,?_,?_⟩<;>(try simp only[jW,List.cons_append,List.nil_append,aR,Nat.add_zero])<;>omega)|trace_state):p:=h
theorem Qc {p:Prop}(h:p:=by
 intro O r F hO hr hF;cbv
 repeat' first|apply And.intro|(apply bG<;>intro hb<;>cbv)
 all_goals(subst hO hr hF;(try simp only[nc]at*);(try simp only[ai,SS,sa,az]at*))
 all_goals(try simp only[jW,List.cons_append,List.nil_append]at*)
 all_goals first|trivial|(exfalso;omega)|(obtain⟨x,y1,y2,y3⟩:=e0;exact⟨x,y1,y2,y3,by omega,by omega⟩)|(refine⟨by assumption,by omega,by omega⟩)|trace_state):p:=h
theorem abo {p:Prop}(h:p:=by
 try have hct:=dx (es:=es) (n:=i.toNat) (by omega);rw[he]at hct;simp only[dC,gS,Nat.add_zero,Nat.zero_add]at hct
 have hle1:=bR (es:=es) (n:=i.toNat+1)
 simp only[aR,am,Nat.add_zero]at hsz hsz2
 first|exact oy hwf g0 hlt|exact⟨hr0,by omega,by omega⟩|trivial|omega|(rw[hn,VR];omega)|(rw[hn,VT (by rw[show i.toNat=es.length from by omega,List.take_length]at g3;omega),show l=left-am es from by rw[show i.toNat=es.length from by omega,List.take_length]at g3;omega])|(rw[show(i+1).toNat=i.toNat+1 from by omega,hct];omega)|trace_state):p:=h
theorem afj {p:Prop}(h:p:=by
 (subst hO hr hF;(try simp only[nc]at*);(try simp only[ai,SS,sa,az]at*))
 try rw[cQ (by omega) (by omega)]
 try(have hol:out.length=i.toNat:=(by rw[i2,List.length_take];omega))
 try(have hsc:=rY hr9 i0 (by assumption);have hsl:=aw (es:=ax a9 i 0))
 first
  | (show(_:List DV)=_
     first
      |exact rfl
      |(rw[i2,js (by omega)];rfl)
      |done)
  |omega
  |exact fU
  |(show aP _ _=true;kernel_rfl)
  |exact hs5
  |exact hs6
  |exact hs7
  |exact hs8
  |exact⟨hr0,hr1,hr2,hr4,by omega,by omega,by omega,by omega⟩
  |exact⟨hr5,by omega⟩
  |exact⟨hr10,hr11,by omega,by omega⟩
  |exact⟨hr13,by omega⟩
  |exact⟨hr21,by omega⟩
  |exact⟨Eo hr9 i0 (by assumption),by omega⟩
  |(simp only[List.length_nil,List.length_cons];omega)
  |(rw[i2];exact(jt hr9 i0 (by assumption)).symm)
  |exact⟨trivial,trivial⟩
  |trivial
  |exact rfl
  |done):p:=h
theorem Qe {p:Prop}(h:p:=by
 intro O r os F hO hr hos hF;cbv
 repeat' first|apply And.intro|(apply bG<;>intro hb<;>cbv)
 all_goals((try subst hos);subst hO hr hF;(try simp only[nc]at*);(try simp only[ai,SS,sa,az]at*))
 all_goals(try simp only[jW,List.cons_append,List.nil_append,cH]at*)
 all_goals first|trivial|trace_state):p:=h
theorem afk {p:Prop}(h:p:=by
 (try have z:=aaq (by assumption))
 (try have y2:=hp.xn j)
 (try have y1:=hp.bn i)
 (try have z6:bO .add .i64 k 1=k+1:=bF (by omega))
 (try simp only[z6]at*)
 first
  | (show(_:List DV)=_
     first
      |(refine vS ?_;exact ags (by assumption))
      |(refine vS ?_;exact To j2 (by assumption) j1 (by assumption))
      |done)
  |omega
  |exact fU
  |exact Rw.scal (Rw.sub (fs:=[.sl [tI]]) hxw (by omega) rfl) rfl
  |(have q:=k2.l;constructor<;>(simp only[List.length_cons,List.length_nil];omega))
  |(have q:=j2.l;constructor<;>omega)
  |exact acd k2 k0
  |exact Ti k2 i0 y1 k1 (by omega)
  |exact af9 i2
  |exact aga i2 i1 (by omega)
  |exact acl j2 j0 y2
  |exact af8
  |exact⟨True.intro,True.intro⟩
  |done):p:=h
theorem afl {p:Prop}(h:p:=by
 (try simp only[z9]at*)
 first
  | (show(_:List DV)=_
     first
      |(refine ak ?_;symm;exact aan (by assumption))
      |(refine ak ?_;symm;exact aao (by assumption))
      |(refine ak ?_;symm;exact Mn i0 (by omega) k0 (by assumption) (adP (by assumption)))
      |(refine ak ?_;symm;exact Mn i0 (by omega) k0 (by assumption) (adQ (by assumption)))
      |(refine ak ?_;symm;exact aap i0 (by omega) j0 (by assumption) (afU (by assumption)))
      |(refine ak ?_;rw[aam i2 (by assumption) (by omega) i1 (by omega)];rfl)
      |done)
  |omega
  |exact fU
  |(show aP _ _=true;kernel_rfl)
  |exact bB
  |exact aV k2 (adR (by assumption) (by assumption))
  |exact aV j2 (abC (by assumption))
  |exact adt i2 i0 k2 (by omega) j2 (by omega)
  |exact agG
  |done):p:=h
theorem afm {p:Prop}(h:p:=by
 intro O r F hO hr hF;cbv
 repeat' first|apply And.intro|(apply bG<;>intro hb<;>cbv)
 all_goals(subst hO hr hF;(try simp only[nc]at*);(try simp only[ai,SS,sa,az]at*))
 all_goals(try have hs:=aaU.1 (by assumption:slB b i=true))
 all_goals(try have hw:=Gy hs.2.1 hs.2.2)
 all_goals(try simp only[hw]at*)
 all_goals first
  | (show(_:List DV)=_
     first
      |(refine cv ?_;unfold wiN;rw[show slB b i=false from(by assumption)];exact rfl)
      |(refine cv ?_;unfold wiN;rw[VR (by assumption:slB b i=true)])
      |done)
  | (show(_:List H)=_
     first
      |done)
  |omega
  |exact fU
  |(show aP _ _=true;kernel_rfl)
  |exact⟨True.intro,True.intro⟩
  |exact True.intro
  |done):p:=h
theorem afn {p:Prop}(h:p:=by
 (subst hO hr hF;(try simp only[nc]at*);(try simp only[ai,SS,sa,az]at*))
 try rw[cQ (by omega) (by omega)]
 (try have z:=B7 i0 (by omega))
 (try simp only[z]at*)
 first
  | (show(_:List DV)=_
     first
      |(refine ak ?_;symm;exact aaK i0 (by assumption) (by assumption))
      |(refine ak ?_;symm;exact aaL i0 (by assumption) (by assumption) (by assumption))
      |(refine ak ?_;exact aaJ i2 (by omega))
      |(have q:false=true:=(by assumption);cases q)
      |done)
  |omega
  |exact fU
  |(show aP _ _=true;kernel_rfl)
  |exact bB
  |exact aV i2 (Pz (by assumption) (by omega))
  |exact aV i2 (PC (by assumption) (by assumption))
  |done):p:=h
theorem afo {p:Prop}(h:p:=by
 (subst hO hr hF;(try simp only[nc]at*);(try simp only[ai,SS,sa,az]at*))
 try rw[cQ (by omega) (by omega)]
 first|omega|exact fU|exact bB|contradiction|exact ak (Tl (by assumption)).symm|exact ak (Tm (by omega)).symm|exact ak (Tn i0 (by omega) (by omega)).symm|exact ak (Ls i0 (by omega) k0 (by omega) (.inl (by assumption))).symm|exact ak (Ls i0 (by omega) k0 (by omega) (.inr ⟨by assumption,by assumption⟩)).symm|exact ak (Lt (by assumption) (by omega) i2 (by omega)).symm|exact aV i2 (QS (by omega) k2 (by omega))|exact aV k2 (QD (by assumption) (by first|exact .inl (by assumption)|exact .inr (by assumption)))|trace_state):p:=h
theorem afp {p:Prop}(h:p:=by
 intro O r os F hO hr hos hF;cbv
 repeat' first|apply And.intro|(apply bG<;>intro hb<;>cbv)
 all_goals((try subst hos);subst hO hr hF;(try simp only[nc]at*);(try simp only[ai,SS,sa,az]at*))
 all_goals first
  |(show(_:List DV)=_;exact rfl)
  | (show(_:List H)=_
     first
      |(have q:=af3 (cs:=cs) (us:=us) (es:=es) (f:=f) (by assumption);first|(rw[q.1,q.2,Nt wc f0 f1,aeO wu f0 (by omega)];done)|(rw[q.1,q.2,Nt wc f0 f1,aeO wu f0 (by omega)];exact rfl))
      |(have q:=af4 (cs:=cs) (us:=us) (es:=es) (f:=f) (by assumption);first|(rw[q.1,q.2];done)|(rw[q.1,q.2];exact rfl))
      |done)
  |omega
  |exact⟨we,el⟩
  |(show aP _ _=true;kernel_rfl)
  |exact ahj wu f0 (by omega)
  |exact No wc f0 f1
  |exact⟨True.intro,True.intro⟩
  |exact True.intro
  |done):p:=h
theorem afq {p:Prop}(h:p:=by
 intro O r F hO hr hF;cbv
 repeat' first|apply And.intro|(apply bG<;>intro hb<;>cbv)
 all_goals(subst hO hr hF;(try simp only[nc]at*);(try simp only[ai,SS,sa,az]at*))
 all_goals(try simp only[g1]at*)
 all_goals(try simp only[gf]at*)
 all_goals first
  | (show(_:List DV)=_
     first
      |exact rfl
      |done)
  | (show(_:List H)=_
     first
      |done)
  |omega
  |exact fU
  |(exfalso;omega)
  |exact IX h6 i0 (by omega)
  |exact⟨hp.r2,hp.r6,by omega,by omega⟩
  |exact⟨i0,i1⟩
  |(show aP _ _=true;kernel_rfl)
  |exact⟨True.intro,True.intro⟩
  |exact True.intro
  |done):p:=h
theorem afs {p:Prop}(h:p:=by
 intro O r F hO hr hF;cbv
 repeat' first|apply And.intro|(apply bG<;>intro hb<;>cbv)
 all_goals(subst hO hr hF;(try simp only[nc]at*);(try simp only[ai,SS,sa,az]at*))
 all_goals first
  | (show(_:List DV)=_
     first
      |exact ak (abR (by assumption)).symm
      |exact ak (abS (by assumption)).symm
      |exact ak (abT (by assumption)).symm
      |exact ak (abU (by assumption)).symm
      |done)
  | (show(_:List H)=_
     first
      |done)
  |omega
  |exact fU
  |exact hp
  |(show aP _ _=true;kernel_rfl)
  |exact⟨True.intro,True.intro⟩
  |exact True.intro
  |done):p:=h
theorem abp {p:Prop}(h:p:=by
 try have hct:=dx (es:=es) (n:=i.toNat) (by omega);rw[he]at hct;simp only[dC,gS,Nat.add_zero,Nat.zero_add]at hct
 have hle1:=bR (es:=es) (n:=i.toNat+1)
 have hcE:am es=es.length+bN es:=rfl
 first|omega|exact oy hwf g0 hlt|trivial|(refine⟨trivial,hr0,?_⟩;simp only[aR,am,Nat.add_zero];omega)|trace_state):p:=h
theorem aft {p:Prop}(h:p:=by
 (subst hO hr hF;(try simp only[nc]at*);(try simp only[ai,SS,sa,az]at*))
 try rw[cQ (by omega) (by omega)]
 try(have hpl:=Ec (es:=es) (f:=f) (n:=i.toNat);rw[<-i2]at hpl)
 first|omega|exact fU|(exact⟨trivial,trivial⟩)|rfl|(simp only[List.length_cons,List.length_nil];omega)|(rw[Pp i0 (by assumption) (by assumption), <-i2])|(rw[MP i0 (.inl (by assumption)), <-i2])|(rw[MP i0 (.inr (by assumption)), <-i2])|exact HU (by rw[i2,show i.toNat=es.length from by omega];rfl)|trace_state):p:=h
theorem afu {p:Prop}(h:p:=by
 intro O r F hO hr hF;cbv
 repeat' first|apply And.intro|(apply bG<;>intro hb<;>cbv)
 all_goals(subst hO hr hF;(try simp only[nc]at*);(try simp only[ai,SS,sa,az]at*))
 all_goals first
  | (show(_:List DV)=_
     first
      |exact sE (OD (ab0 (by assumption))).1.symm (OD (ab0 (by assumption))).2.symm
      |exact sE (OD (ab1 (by assumption))).1.symm (OD (ab1 (by assumption))).2.symm
      |exact sE (ab3 (by assumption) (by assumption)).1.symm (ab3 (by assumption) (by assumption)).2.symm
      |done)
  |(show aP _ _=true;kernel_rfl)
  |exact True.intro
  |exact⟨True.intro,True.intro⟩
  |omega
  |(have q:=bA.1 (by assumption:inR n 1 1000=true);omega)
  |done):p:=h
theorem afv {p:Prop}(h:p:=by
 intro O r F hO hr hF;cbv
 repeat' first|apply And.intro|(apply bG<;>intro hb<;>cbv)
 all_goals(subst hO hr hF;(try simp only[nc]at*);(try simp only[ai,SS,sa,az]at*))
 all_goals(try simp only[hsb]at*)
 all_goals(try simp only[bA,Ar]at*)
 all_goals first|exact Qs (Jf (by omega)).1.symm (Jf (by omega)).2.symm|exact Qs (MN (by omega)).1.symm (MN (by omega)).2.symm|exact fU|trace_state):p:=h
theorem afw {p:Prop}(h:p:=by
 (subst hO hr hF;(try simp only[nc]at*);(try simp only[ai,SS,sa,az]at*))
 try rw[cQ (by omega) (by omega)]
 first
  | (show(_:List DV)=_
     first
      |exact cv (by rw[i2,show i.toNat=a8.length by omega];rfl)
      |done)
  | (show(_:Int)=_
     first
      |(rw[PV i0, <-i2];rfl)
      |exact(rfl:(0:Int)=B8 (szF a8) 0)
      |done)
  |omega
  |exact fU
  |trivial
  |exact⟨trivial,trivial⟩
  |trace_state):p:=h
theorem afx {p:Prop}(h:p:=by
 intro O r F hO hr hF;cbv
 repeat' first|apply And.intro|(apply bG<;>intro hb<;>cbv)
 all_goals(subst hO hr hF;(try simp only[nc]at*);(try simp only[ai,SS,sa,az]at*))
 all_goals(try simp only[jW,List.cons_append,List.nil_append]at*)
 all_goals first|trivial|(exfalso;omega)|(obtain⟨x,y1,y2,y3⟩:=e0;exact⟨x,y1,y2,y3,by omega,by omega⟩)|(obtain⟨x,y1,y2,y3⟩:=e1;exact⟨x,y1,y2,y3,by omega,by omega⟩)|(refine⟨by assumption,by omega,by omega⟩)|(refine⟨by assumption,by assumption,by omega,by omega⟩)|trace_state):p:=h
theorem afy {p:Prop}(h:p:=by
 intro O r F hO hr hF;cbv
 repeat' first|apply And.intro|(apply bG<;>intro hb<;>cbv)
 all_goals(subst hO hr hF;(try simp only[nc]at*);(try simp only[ai,SS,sa,az]at*))
 all_goals try(have hs:=aaU.1 (‹slB b i=true›);have hw:=Gy hs.2.1 hs.2.2;simp only[hw]at*)
 all_goals first
  | (show(_:List DV)=_
     first
      |exact ak (acL (by assumption)).symm
      |(refine ak (hE ?_);unfold hsB;rw[show slB b i=true from by assumption,Bool.true_and,VQ];simp only[SS])
      |done)
  |omega
  |trace_state):p:=h
theorem afz {p:Prop}(h:p:=by
 (subst hO hr hF;(try simp only[nc]at*);(try simp only[ai,SS,sa,az]at*))
 try rw[cQ (by omega) (by omega)]
 first|omega|exact fU|exact bB|contradiction|exact ak (Nr i2 (by omega)).symm|(simp only[bA,Ar]at*;first|exact ak (aeJ i0 (by omega) (by omega)).symm|exact aV i2 (RN (by omega)))|trace_state):p:=h
theorem afA {p:Prop}(h:p:=by
 intro O r F hO hr hF;cbv
 repeat' first|apply And.intro|(apply bG<;>intro hb<;>cbv)
 all_goals(subst hO hr hF;(try simp only[nc]at*);(try simp only[ai,SS,sa,az]at*))
 all_goals first
  | (show(_:List DV)=_
     first
      |exact cv (agJ (by assumption)).symm
      |exact cv (agI (by assumption)).symm
      |done)
  |(show aP _ _=true;kernel_rfl)
  | (show(_:Int)≠0
     decide)
  |omega
  |exact True.intro
  |done):p:=h
theorem afB {p:Prop}(h:p:=by
 (subst hO hr hF;(try simp only[nc]at*);(try simp only[ai,SS,sa,az]at*))
 try rw[cQ (by omega) (by omega)]
 first|(show(_:List DV)=_;exact cv (aaE i2 i1 (by omega)))|omega|exact fU|exact agP|exact aec i2 i0 (by omega)|done):p:=h
theorem afC {p:Prop}(h:p:=by
 intro O r F hO hr hF;cbv
 repeat' first|apply And.intro|(apply bG<;>intro hb<;>cbv)
 all_goals(subst hO hr hF;(try simp only[nc]at*);(try simp only[ai,SS,sa,az]at*))
 all_goals(try have t:=bA.1 hb)
 all_goals(try have z:bO .sub .i64 n l=n-l:=di (by omega))
 all_goals(try simp only[z]at*)
 all_goals first|(show(_:List DV)=_;refine ak ?_;unfold rngIn;simp[hb];done)|done):p:=h
theorem afD {p:Prop}(h:p:=by
 (try simp only[bA,Ar]at*)
 (try rw[cQ (by omega) (by omega)])
 first|trivial|omega|exact QF (by omega) (by assumption) (by omega)|(have:=QF (k:=k) (s:=s) (by omega) (by assumption) (by omega);omega)|exact cv (abV (by omega)).symm|exact cv (SX (by omega) (by assumption) (by omega) (by assumption)).symm|exact .inl trivial|(rw[show k+1-1=k by omega];exact .inr (by assumption))|trace_state):p:=h
theorem abq {p:Prop}(h:p:=by
 intro O r F hO hr hF;cbv
 repeat' first|apply And.intro|(apply bG<;>intro hb<;>cbv)
 all_goals(subst hO hr hF;(try simp only[nc]at*);(try simp only[ai,SS,sa,az]at*))
 all_goals first|exact rfl|done):p:=h
theorem afE {p:Prop}(h:p:=by
 intro O r F hO hr hF;cbv
 repeat' first|apply And.intro|(apply bG<;>intro hb<;>cbv)
 all_goals(subst hO hr hF;(try simp only[nc]at*);(try simp only[ai,SS,sa,az]at*))
 all_goals first
  | (show(_:List DV)=_
     first
      |exact HU (Lr (by assumption)).symm
      |exact HU (IG (by assumption)).symm
      |done)
  |exact⟨hw,hn⟩
  |exact hw
  |exact⟨True.intro,True.intro⟩
  |trace_state):p:=h
theorem afF {p:Prop}(h:p:=by
 intro O r F hO hr hF;cbv
 repeat' first|apply And.intro|(apply bG<;>intro hb<;>cbv)
 all_goals(subst hO hr hF;(try simp only[nc]at*);(try simp only[ai,SS,sa,az]at*))
 all_goals first
  | (show(_:List DV)=_
     first
      |exact ak (by unfold slB;rw[VO (by assumption)];rfl)
      |exact ak (by unfold slB;rw[VP (by omega)];rfl)
      |done)
  |trace_state):p:=h
theorem afG {p:Prop}(h:p:=by
 intro O r F hO hr hF;cbv
 repeat' first|apply And.intro|(apply bG<;>intro hb<;>cbv)
 all_goals(subst hO hr hF;(try simp only[nc]at*);(try simp only[ai,SS,sa,az]at*))
 all_goals first|(show aP _ _=true;kernel_rfl)|exact hs|exact⟨hc,hu,he,hn,hm,hk⟩|exact⟨hr,by omega⟩|exact⟨trivial,trivial⟩|trivial|(simp only[List.length_nil];omega)|exact rfl|done):p:=h
theorem afH {p:Prop}(h:p:=by
 intro O r F hO hr hF;cbv
 repeat' first|apply And.intro|(apply bG<;>intro hb<;>cbv)
 all_goals(subst hO hr hF;(try simp only[nc]at*);(try simp only[ai,SS,sa,az]at*))
 all_goals first|(show(_:List DV)=_;refine ak ?_;unfold mshB;simp[*];done)|(show(_:List DV)=_;refine ak ?_;unfold mshB;subst_vars;rw[cmp_eq];simp[*];done)|done):p:=h
theorem afI {p:Prop}(h:p:=by
 intro O r F hO hr hF;cbv
 repeat' first|apply And.intro|(apply bG<;>intro hb<;>cbv)
 all_goals(subst hO hr hF;(try simp only[nc]at*);(try simp only[ai,SS,sa,az]at*))
 all_goals iterate 1 (try simp(disch:=assumption) only[nu,List.cons_append,List.nil_append]at*)
 all_goals first|trivial|(rw[mR (by assumption)])|trace_state):p:=h
theorem afJ {p:Prop}(h:p:=by
 intro O r F hO hr hF;cbv
 repeat' first|apply And.intro|(apply bG<;>intro hb<;>cbv)
 all_goals(subst hO hr hF;(try simp only[nc]at*);(try simp only[ai,SS,sa,az]at*))
 all_goals iterate 2 (try simp(disch:=assumption) only[nu,List.cons_append,List.nil_append]at*)
 all_goals first|trivial|(rw[mR (by assumption)])|trace_state):p:=h
theorem afK {p:Prop}(h:p:=by
 intro O r F hO hr hF;cbv
 repeat' first|apply And.intro|(apply bG<;>intro hb<;>cbv)
 all_goals(subst hO hr hF;(try simp only[nc]at*);(try simp only[ai,SS,sa,az]at*))
 all_goals first|(show aP _ _=true;kernel_rfl)|exact⟨hc,hu,hn,hm⟩|exact⟨he,by omega⟩|exact⟨trivial,trivial⟩|trivial|exact rfl|trace_state):p:=h
theorem afL {p:Prop}(h:p:=by
 intro O r F hO hr hF;cbv
 repeat' first|apply And.intro|(apply bG<;>intro hb<;>cbv)
 all_goals(subst hO hr hF;(try simp only[nc]at*);(try simp only[ai,SS,sa,az]at*))
 all_goals first
  | (show(_:List DV)=_
     first
      |exact cv (aaz (by assumption))
      |exact cv (Rx (by assumption)).symm
      |done)
  |omega
  |done):p:=h
theorem abr {p:Prop}(h:p:=by
 (subst hO hr hF;(try simp only[nc]at*);(try simp only[ai,SS,sa,az]at*))
 (try simp only[hs]at*)
 first|trivial|(rw[hn,VR (by omega)])|trace_state):p:=h
theorem afM {p:Prop}(h:p:=by
 intro O r F hO hr hF;cbv
 repeat' first|apply And.intro|(apply bG<;>intro hb<;>cbv)
 all_goals(subst hO hr hF;(try simp only[nc]at*);(try simp only[ai,SS,sa,az]at*))
 all_goals first
  | (show(_:List DV)=_
     first
      |exact cv (ade (by assumption))
      |exact cv (adf (by assumption)).symm
      |done)
  |done):p:=h
theorem afN {p:Prop}(h:p:=by
 intro O r F hO hr hF;cbv
 repeat' first|apply And.intro|(apply bG<;>intro hb<;>cbv)
 all_goals(subst hO hr hF;(try simp only[nc]at*);(try simp only[ai,SS,sa,az]at*))
 all_goals first
  | (show(_:List DV)=_
     first
      |exact ak (hE (by unfold eqB;simp only[SS,VQ]))
      |done)
  |done):p:=h
theorem afO {p:Prop}(h:p:=by
 intro O r F hO hr hF;cbv
 repeat' first|apply And.intro|(apply bG<;>intro hb<;>cbv)
 all_goals(subst hO hr hF;(try simp only[nc]at*);(try simp only[ai,SS,sa,az]at*))
 all_goals first|trivial|(refine⟨trivial,by assumption,?_⟩;(try simp only[aR,Nat.add_zero]);omega)|trace_state):p:=h
theorem afP {p:Prop}(h:p:=by
 intro O r F hO hr hF;cbv
 repeat' first|apply And.intro|(apply bG<;>intro hb<;>cbv)
 all_goals(subst hO hr hF;(try simp only[nc]at*);(try simp only[ai,SS,sa,az]at*))
 all_goals first|trivial|(refine⟨by assumption,?_⟩;(try simp only[aR,Nat.add_zero]);omega)|trace_state):p:=h
theorem afQ {p:Prop}(h:p:=by
 intro O r F hO hr hF;cbv
 repeat' first|apply And.intro|(apply bG<;>intro hb<;>cbv)
 all_goals(subst hO hr hF;(try simp only[nc]at*);(try simp only[ai,SS,sa,az]at*))
 all_goals first|exact hp|(show(_:List DV)=_;refine ak ?_;unfold jbOk;simp[*];done)|done):p:=h
theorem afR {p:Prop}(h:p:=by
 first|trivial|(refine⟨by assumption,by omega,by first|omega|exact Int.le_trans (A2 (by assumption)) h1⟩)|(rw[mR (by assumption)])|exact congrArg (fun x=>[DV.one (L.v (Value.int IntKind.i64 x))]) (gO (a:=[a0]) (b:=[a1]) (by assumption)).symm|trace_state):p:=h
theorem afS {p:Prop}(h:p:=by
 intro O r F hO hr hF;cbv
 repeat' first|apply And.intro|(apply bG<;>intro hb<;>cbv)
 all_goals(subst hO hr hF;(try simp only[nc]at*);(try simp only[ai,SS,sa,az]at*))
 all_goals first|exact hp|exact rfl|done):p:=h
theorem afT {p:Prop}(h:p:=by
 first|exact cv (abW (by assumption)).symm|(refine cv ?_;rw[QE (by assumption)])|(rw[bA]at*;omega)|trace_state):p:=h
theorem fU {p:Prop}(h:p:=by
 refine⟨by omega,by omega,(Rw.eta (by first|assumption|exact Rw.sub (by first|assumption|exact Rw.sub (by assumption) (by omega) rfl) (by omega) rfl) (by omega) (by omega)).trans ?_⟩;rfl):p:=h
end Go.V