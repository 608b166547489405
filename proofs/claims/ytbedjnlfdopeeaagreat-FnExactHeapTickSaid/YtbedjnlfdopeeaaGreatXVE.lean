/-
  A condition generator for functions on trees of data, part 5 of 5: values in memory, contracts, soundness.
-/
import Derived.Test.YtbedjnlfdopeeaaGreatXVD
set_option linter.all false
open Go
open Bool renaming and_eq_true->Zc
open Int renaming le_refl->Yn,natCast_nonneg->aan
open List renaming getD_eq_getElem?_getD->Zp,length_take->Zl,getElem?_append_right->ZS,drop_eq_getElem_cons->Xx,take_append_drop->ZN,getD->Zu,all_cons->XL
open Nat renaming add_assoc->Yw,le_trans->Z4,mul_le_mul_left->XW,mul_add->aao
namespace Go.V
mutual
def eA:L->Nat
 | .s _ es=>es.length+bG es
 |_=>0
def cP:ay->Nat
 |[]=>0
 |l::ls=>eA l+cP ls
def bG:aa->Nat
 |[]=>0
 |e::es=>cP e+bG es
end
def ah (es:aa):Nat:=es.length+bG es
def av:List aa->Nat
 |[]=>0
 |r::rs=>ah r+av rs
def bN (rs:List aa)(left:Int):Int:=if left<av rs then-1 else left-av rs
mutual
def eN:L->Int->L×Int
 | .v (.int kd _),k=>(.v (.int kd k),k+1)
 | .v (.bool _),k=>(.v (.bool (k.tmod 3==0)),k+1)
 | .s sz es,k=>(.s sz (cH es k).1,(cH es k).2)
 |l,k=>(l,k)
def eh:ay->Int->ay×Int
 |[],k=>([],k)
 |l::ls,k=>((eN l k).1::(eh ls (eN l k).2).1,(eh ls (eN l k).2).2)
def cH:aa->Int->aa×Int
 |[],k=>([],k)
 |e::es,k=>((eh e k).1::(cH es (eh e k).2).1,(cH es (eh e k).2).2)
end
def aU (es:aa)(k:Int):aa:=(cH es k).1
def au:List aa->Int->Int
 |[],k=>k
 |r::rs,k=>au rs (cH r k).2
theorem d7:∀ {a b:aa},bG (a++b)=bG a+bG b
 |[],b=>by simp[bG]
 |e::a,b=>by simp[bG,d7 (a:=a),Yw]
theorem iZ:∀ {a b:List aa},av (a++b)=av a+av b
 |[],b=>by simp[av]
 |e::a,b=>by simp[av,iZ (a:=a),Yw]
theorem cZ {r:aa}:av [r]=ah r:=by simp[av]
theorem CG:∀ {ls:ay} {j:Nat} {l:L},ls[j]?=some l->eA l<=cP ls
 |[],j,l,h=>by simp at h
 |x::ls,0,l,h=>by simp at h;subst h;simp[cP]
 |x::ls,j+1,l,h=>by simp at h;have:=CG h;simp[cP];omega
theorem jv {a:List aa}{left:Int}:bN a left<0↔left<av a:=by
 unfold bN;split<;>omega
theorem nW {a:List aa}{left:Int}(h:0<=bN a left):bN a left=left-av a:=by
 unfold bN at*;split at h
 ·omega
 ·rename_i c;rw[aa4 c]
theorem ia {a b:List aa}{left:Int}(h:0<=bN a left):bN b (bN a left)=bN (a++b) left:=by
 rw[nW h];unfold bN;rw[iZ];split<;>split<;>omega
theorem dX {a b:List aa}{left:Int}(h:bN a left<0):bN (a++b) left= -1:=by
 rw[jv]at h;unfold bN;rw[iZ,aa3 (by omega)]
theorem gO {a:List aa}{left:Int}(h:bN a left<0):bN a left= -1:=by
 rw[jv]at h;unfold bN;rw[aa3 (by omega)]
theorem vq {a:List aa}{left:Int}(h:0<=bN a left):bN a left<=left:=by rw[nW h];omega
theorem hP:∀ {a b:aa} {k:Int},cH (a++b) k=((cH a k).1++(cH b (cH a k).2).1,(cH b (cH a k).2).2)
 |[],b,k=>by simp[cH]
 |e::a,b,k=>by simp[cH,hP (a:=a)]
theorem fo:∀ {a b:List aa} {k:Int},au b (au a k)=au (a++b) k
 |[],b,k=>rfl
 |r::a,b,k=>by simp only[au,List.cons_append];exact fo
theorem eI:∀ {es:aa} {k:Int},(cH es k).1.length=es.length
 |[],k=>rfl
 |e::es,k=>by simp[cH,eI (es:=es)]
theorem ca {es:aa}{k:Int}:(aU es k).length=es.length:=eI
def dT (es:aa)(k:Int)(n:Nat):aa:=(cH (es.take n) k).1++es.drop n
def dH (es:aa)(k:Int)(n:Nat):Int:=(cH (es.take n) k).2
theorem db {es:aa}{k:Int}:dT es k 0=es:=by simp[dT,cH]
theorem bJ {es:aa}{k:Int}:dH es k 0=k:=by simp[dH,cH]
theorem uO {es:aa}{k:Int}:dT es k es.length=aU es k:=by simp[dT,aU]
theorem kT {es:aa}{k:Int}:dH es k es.length=au [es] k:=by simp[dH,au]
theorem kw {es:aa}{k:Int}{n:Nat}(hn:n<=es.length):(dT es k n).length=es.length:=by simp[dT,eI];omega
theorem da {es:aa}{k:Int}{n:Nat}(hn:n<=es.length):(dT es k n).getD n []=es.getD n []:=by
 unfold dT;simp only[Zp];have hl:(cH (es.take n) k).1.length=n:=by rw[eI,Zl];omega
 rw[ZS (by omega),hl];simp
theorem uQ {es:aa}{k:Int}{n:Nat}(hn:n<es.length):(dT es k n).set n (eh (es.getD n []) (dH es k n)).1=dT es k (n+1):=by
 unfold dT dH;have hl:(cH (es.take n) k).1.length=n:=by rw[eI,Zl];omega
 rw[List.set_append_right _ _ (by omega),hl,dA (d:=[]) hn,hP];simp only[Nat.sub_self];rw[Xx hn,List.set_cons_zero];simp[cH]
theorem cK {es:aa}{k:Int}{n:Nat}(hn:n<es.length):dH es k (n+1)=(eh (es.getD n []) (dH es k n)).2:=by
 unfold dH;rw[dA (d:=[]) hn,hP];simp[cH]
theorem fX {es:aa}{k:Int}{n:Nat}(hn:n<es.length):(aU es k).getD n []=(eh (es.getD n []) (dH es k n)).1:=by
 have h1:es=es.take n++(es.getD n []::es.drop (n+1)):=by
  conv=>lhs;rw[<-ZN n es,Xx hn]
  simp[Zu,hn]
 unfold aU dH
 conv=>lhs;rw[h1]
 rw[hP];simp only[Zp];have hl:(cH (es.take n) k).1.length=n:=by rw[eI,Zl];omega
 rw[ZS (by omega),hl];simp[cH]
mutual
theorem QD:∀ (l:L) (k:Int),(eN l k).2=k+(eN l 0).2
 | .v x,k=>by cases x<;>simp[eN]
 | .s sz es,k=>by simp only[eN];exact jh es k
 | .g,k=>by simp[eN]
 | .m _ _,k=>by simp[eN]
theorem xu:∀ (ls:ay) (k:Int),(eh ls k).2=k+(eh ls 0).2
 |[],k=>by simp[eh]
 | l::ls,k=>by
   simp only[eh];rw[xu ls (eN l k).2,QD l k,xu ls (eN l 0).2];omega
theorem jh:∀ (es:aa) (k:Int),(cH es k).2=k+(cH es 0).2
 |[],k=>by simp[cH]
 | e::es,k=>by
   simp only[cH];rw[jh es (eh e k).2,xu e k,jh es (eh e 0).2];omega
end
mutual
theorem Nb:∀ (l:L) (k k':Int),(eN (eN l k).1 k').2=(eN l k').2
 | .v x,k,k'=>by cases x<;>simp[eN]
 | .s sz es,k,k'=>by simp only[eN];exact dq es k k'
 | .g,k,k'=>by simp[eN]
 | .m _ _,k,k'=>by simp[eN]
theorem Gw:∀ (ls:ay) (k k':Int),(eh (eh ls k).1 k').2=(eh ls k').2
 |[],k,k'=>rfl
 |l::ls,k,k'=>by simp only[eh];rw[Gw ls _ _,Nb l k k']
theorem dq:∀ (es:aa) (k k':Int),(cH (cH es k).1 k').2=(cH es k').2
 |[],k,k'=>rfl
 |e::es,k,k'=>by simp only[cH];rw[dq es _ _,Gw e k k']
end
theorem jM {es:aa}{k k':Int}:au [aU es k] k'=au [es] k':=dq es k k'
theorem fb {es:aa}{k:Int}{n:Nat}:dH es k n=k+dH es 0 n:=jh _ _
theorem Ed:∀ {rs:List aa} {k:Int},au rs k=k+au rs 0
 |[],k=>by simp[au]
 |r::rs,k=>by simp only[au];rw[Ed (k:=(cH r k).2),jh r k,Ed (k:=(cH r 0).2)];omega
mutual
theorem QC:∀ (l:L),0<=(eN l 0).2
 | .v x=>by cases x<;>simp[eN]
 | .s sz es=>by simp only[eN];exact BM es
 | .g=>by simp[eN]
 | .m _ _=>by simp[eN]
theorem Gv:∀ (ls:ay),0<=(eh ls 0).2
 |[]=>by simp[eh]
 |l::ls=>by simp only[eh];rw[xu];have:=QC l;have:=Gv ls;omega
theorem BM:∀ (es:aa),0<=(cH es 0).2
 |[]=>by simp[cH]
 |e::es=>by simp only[cH];rw[jh];have:=Gv e;have:=BM es;omega
end
theorem IE:∀ {rs:List aa},0<=au rs 0
 |[]=>by simp[au]
 |r::rs=>by simp only[au];rw[Ed];have:=BM r;have:=IE (rs:=rs);omega
theorem gF {es:aa}{n:Nat}(hn:n<es.length):dH es 0 n<=dH es 0 (n+1):=by
 rw[cK hn,xu];have:=Gv (es.getD n []);omega
theorem dF {es:aa}:∀ {m n:Nat},n<=es.length->m<=n->dH es 0 m<=dH es 0 n
 |m,0,_,h=>by rw[show m=0 from by omega];exact Yn _
 | m,n+1,hn,h=>by
   rcases Nat.lt_or_ge m (n+1)with c|c
   ·have:=dF (es:=es) (m:=m) (n:=n) (by omega) (by omega);have:=gF (es:=es) (n:=n) (by omega);omega
   ·rw[show m=n+1 from by omega];exact Yn _
end Go.V
namespace Go.V
abbrev Rw (fs:List Ty)(es:aa):Prop:=es.length<=maxLen/\∀ e∈es,cf fs e
abbrev tI:Ty:=.int .i64
abbrev tB:Ty:=.bool
mutual
def zL:Ty->L
 | .int k=>.v (.int k 0)
 | .bool=>.v (.bool false)
 | .str=>.v (.string .empty)
 | .sl fs=>.s fs.length []
def zR:List Ty->ay
 |[]=>[]
 |t::ts=>zL t::zR ts
end
theorem zW:∀ {fs:List Ty} {e:ay},cf fs e->fH (zR fs) e=true
 |[],[],_=>rfl
 |[],_::_,h=>h.elim
 |_::_,[],h=>h.elim
 | t::ts,l::ls,h=>by
   obtain⟨h1,h2⟩:=h;simp only[zR,fH,Zc];refine⟨?_,zW h2⟩;cases t with
   | int k=>cases l with
     | v x=>cases x with
       |int k' n=>simp only[cD]at h1;simp[zL,iN,h1.1]
       |_=>simp[cD]at h1
     |_=>simp[cD]at h1
   | bool=>cases l with
     | v x=>cases x with
       |bool b=>rfl
       |_=>simp[cD]at h1
     |_=>simp[cD]at h1
   | str=>cases l with
     | v x=>cases x with
       |string b=>rfl
       |_=>simp[cD]at h1
     |_=>simp[cD]at h1
   | sl fs=>cases l with
     |s sz es=>simp only[cD]at h1;simp[zL,iN,h1.1]
     |_=>simp[cD]at h1
theorem Rw.wf {fs:List Ty}{es:aa}(h:Rw fs es):Wf (zR fs) es:=fun e he=>zW (h.2 e he)
theorem Rw.at {fs:List Ty}{es:aa}(h:Rw fs es){n:Nat}(hn:n<es.length):cf fs (es.getD n []):=by
 refine h.2 _ ?_;rw[Zp,List.getElem?_eq_getElem hn];exact List.getElem_mem _
theorem Rw.eta {fs:List Ty}{es:aa}(h:Rw fs es){i:Int}(h0:0<=i)(h1:i<es.length):es.getD i.toNat []=gT ak es i 0 (zR fs):=(ao h.wf h0 h1).symm
theorem wT:∀ {fs:List Ty} {e:ay} {j:Nat} {gs:List Ty},cf fs e->fs[j]?=some (.sl gs)->∃ es',e[j]?=some (.s gs.length es')/\Rw gs es'
 |[],_,j,gs,_,h=>by simp at h
 |_::_,[],j,gs,h,_=>h.elim
 | t::ts,l::ls,0,gs,h,e=>by
   simp at e;subst e;have h1:=h.1;cases l with
   |s sz es=>simp only[cD]at h1;exact⟨es,by simp[h1.1],h1.2⟩
   |_=>simp[cD]at h1
 | t::ts,l::ls,j+1,gs,h,e=>by
   simp at e;obtain⟨es',h1,h2⟩:=wT h.2 e;exact⟨es',by simpa using h1,h2⟩
theorem Rw.sub {fs:List Ty}{es:aa}(h:Rw fs es){i:Int}(hn:i.toNat<es.length){j:Nat}{gs:List Ty}(hj:fs[j]?=some (.sl gs)):Rw gs (aR es i j):=by
 obtain⟨es',h1,h2⟩:=wT (h.at hn) hj;unfold aR;rw[Zp (l:=es.getD i.toNat []),h1];exact h2
theorem Rw.nil {fs:List Ty}:Rw fs []:=⟨Nat.zero_le _,by simp⟩
theorem Rw.take {fs:List Ty}{es:aa}(h:Rw fs es)(n:Nat):Rw fs (es.take n):=⟨by rw[Zl];exact Z4 (Nat.min_le_right _ _) h.1,fun e he=>h.2 e (List.mem_of_mem_take he)⟩
theorem Rw.drop {fs:List Ty}{es:aa}(h:Rw fs es)(n:Nat):Rw fs (es.drop n):=⟨by rw[List.length_drop];exact Z4 (Nat.sub_le _ _) h.1,fun e he=>h.2 e (List.mem_of_mem_drop he)⟩
theorem Rw.append {fs:List Ty}{a b:aa}(ha:Rw fs a)(hb:Rw fs b)(hl:a.length+b.length<=maxLen):Rw fs (a++b):=⟨by simpa using hl,fun e he=>by rcases List.mem_append.1 he with q|q;exact ha.2 e q;exact hb.2 e q⟩
theorem Rw.one {fs:List Ty}{e:ay}(h:cf fs e):Rw fs [e]:=⟨by simp[maxLen],by simpa using h⟩
theorem Rw.set {fs:List Ty}{es:aa}(h:Rw fs es){e:ay}(he:cf fs e)(n:Nat):Rw fs (es.set n e):=⟨by simpa using h.1,fun x hx=>by rcases List.mem_or_eq_of_mem_set hx with q|q;exact h.2 x q;rw[q];exact he⟩
theorem Rw.replicate {fs:List Ty}{e:ay}(h:cf fs e){n:Nat}(hn:n<=maxLen):Rw fs (List.replicate n e):=⟨by simpa using hn,fun x hx=>by rw[List.eq_of_mem_replicate hx];exact h⟩
def po:Ty->Bool
 | .sl _=>false
 |_=>true
theorem ue {t:Ty}{l:L}(h:cD t l)(hs:po t=true):∃ x,l=.v x:=by
 cases t with
 |sl fs=>cases hs
 | int k=>cases l with
   |v x=>exact⟨x,rfl⟩
   |_=>simp[cD]at h
 | bool=>cases l with
   |v x=>exact⟨x,rfl⟩
   |_=>simp[cD]at h
 | str=>cases l with
   |v x=>exact⟨x,rfl⟩
   |_=>simp[cD]at h
theorem xh:∀ {fs:List Ty} {e:ay},fs.all po=true->cf fs e->cP e=0
 |[],[],_,_=>rfl
 |[],_::_,_,h=>h.elim
 |_::_,[],_,h=>h.elim
 | t::ts,l::ls,hs,h=>by
   simp only[XL,Zc]at hs;obtain⟨x,rfl⟩:=ue h.1 hs.1;simp only[cP,eA];rw[xh hs.2 h.2]
theorem Ac {fs:List Ty}(hs:fs.all po=true):∀ {es:aa},(∀ e∈es,cf fs e)->bG es=0
 |[],_=>rfl
 |e::es,h=>by simp only[bG];rw[xh hs (h e (by simp)),Ac hs (fun x hx=>h x (by simp[hx]))]
theorem Rw.cnt {fs:List Ty}{es:aa}(h:Rw fs es)(hs:fs.all po=true):ah es=es.length:=by unfold ah;rw[Ac hs h.2];rfl
theorem Rw.scal {fs:List Ty}{es:aa}(h:Rw fs es)(hs:fs.all po=true):cM es:=by
 have key:∀ {fs:List Ty} {e:ay},fs.all po=true->cf fs e->fC e:=by
  intro fs
  induction fs with
  | nil=>intro e _ h;cases e with
    |nil=>trivial
    |cons _ _=>exact h.elim
  | cons t ts ih=>
    intro e hs h;cases e with
    |nil=>exact h.elim
    | cons l ls=>
      simp only[XL,Zc]at hs;obtain⟨x,rfl⟩:=ue h.1 hs.1;exact(ih hs.2 h.2:fC ls)
 have:∀ {es:aa},(∀ e∈es,cf fs e)->cM es:=by
  intro es
  induction es with
  |nil=>intro _;trivial
  |cons e es ih=>intro h;exact⟨key hs (h e (by simp)),ih (fun x hx=>h x (by simp[hx]))⟩
 exact this h.2
theorem cu {es:aa}{n:Nat}(hn:n<es.length):bG (es.take (n+1))=bG (es.take n)+cP (es.getD n []):=by
 rw[dA (d:=[]) hn,d7];simp[bG]
theorem bH {es:aa}{n:Nat}:bG (es.take n)<=bG es:=by
 conv=>rhs;rw[<-ZN n es,d7]
 omega
theorem vA {sz:Nat}{es:aa}{n o:Nat}{new:ay}:AO (.s sz es) [(n,o)] new=es.set n ((es.getD n []).take o++new++(es.getD n []).drop (o+new.length)):=rfl
theorem so {sz:Nat}{c:aa}{n j:Nat}:sn (.s sz c) [(n,j)]=EG ((c.getD n []).getD j .g):=by
 unfold sn gU;simp only[bR];cases h:c[n]? with
 |none=>simp[Zu,h,EG]
 | some rec=>
   simp only[Option.map_some,Zu,h,Option.getD_some];cases h2:rec[j]? with
   |none=>simp[EG]
   |some l=>cases l<;>simp[EG]
theorem dk {c:aa}{n:Nat}{r:ay}(h:n<c.length):(c.set n r).getD n []=r:=by simp[Zu,h]
theorem nA {sz:Nat}{c:aa}{n j:Nat}{r:ay}(h:n<c.length):bR (.s sz (c.set n r)) [(n,j)]=some (r,j):=by simp[bR,h]
theorem sd {sz:Nat}{c:aa}{n j:Nat}(h:n<c.length):bR (.s sz c) [(n,j)]=some (c.getD n [],j):=by simp[bR,Zu,h]
theorem ut {sz:Nat}{c:aa}{n j:Nat}{r:ay}(h:n<c.length):gU (.s sz (c.set n r)) [(n,j)]=match r[j]? with
 |some (.s sz es)=>some (sz,es)
 |_=>none:=by unfold gU;rw[nA h];rfl
theorem yj {sz:Nat}{c:aa}{n j:Nat}(h:n<c.length):gU (.s sz c) [(n,j)]=match(c.getD n [])[j]? with
 |some (.s sz es)=>some (sz,es)
 |_=>none:=by unfold gU;rw[sd h];rfl
theorem bz {a b:List aa}{k:Int}(hk:0<=k):au a k<=au (a++b) k/\0<=au a k:=by
 rw[<-fo,Ed (rs:=b),Ed (rs:=a)];have:=IE (rs:=a);have:=IE (rs:=b);omega
theorem Iq {l:L}{k:Int}{z:L}(h:iN z l=true):iN z (eN l k).1=true:=by
 cases l with
 |v x=>cases x<;>cases z<;>simp_all [eN,iN]<;>(rename_i y;cases y<;>simp_all [iN])
 |s sz es=>cases z<;>simp_all [eN,iN]
 |g=>exact h
 |m _ _=>exact h
theorem CO:∀ {z e:ay} {k:Int},fH z e=true->fH z (eh e k).1=true
 |[],[],_,_=>rfl
 |[],_::_,_,h=>by simp[fH]at h
 |_::_,[],_,h=>by simp[fH]at h
 | z::zs,l::ls,k,h=>by
   simp only[fH,Zc,eh]at h ⊢;exact⟨Iq h.1,CO h.2⟩
theorem Ab:∀ {z:ay} {es:aa} {k:Int},Wf z es->Wf z (cH es k).1
 |z,[],_,_=>fun e he=>by cases he
 | z,e::es,k,h=>by
   intro x hx;simp only[cH,List.mem_cons]at hx;rcases hx with rfl|hx;exact CO (h e (by simp));exact Ab (fun y hy=>h y (by simp[hy])) x hx
theorem cI {fs:List Ty}{es:aa}{k:Int}(h:Rw fs es):Wf (zR fs) (aU es k):=Ab h.wf
end Go.V
namespace Go.V
mutual
def Jv:Ty->Nat
 | .sl fs=>Ba fs
 |_=>1
def Ba:List Ty->Nat
 |[]=>0
 |t::ts=>Jv t+Ba ts
end
mutual
theorem M2:∀ (t:Ty) (l:L),cD t l->(eN l 0).2<=(Jv t*(eA l+1):Nat)
 | .int k,.v x,h=>by cases x<;>simp[eN,eA,Jv]
 | .int k,.s _ _,h=>by simp[cD]at h
 | .int k,.g,h=>by simp[cD]at h
 | .bool,.v x,h=>by cases x<;>simp[eN,eA,Jv]
 | .bool,.s _ _,h=>by simp[cD]at h
 | .bool,.g,h=>by simp[cD]at h
 | .str,.v x,h=>by cases x<;>simp[eN,eA,Jv]
 | .str,.s _ _,h=>by simp[cD]at h
 | .str,.g,h=>by simp[cD]at h
 | .sl fs,.v x,h=>by simp[cD]at h
 | .sl fs,.g,h=>by simp[cD]at h
 | .sl fs,.s sz es,h=>by
   have h1:=yA fs es (by simp only[cD]at h;exact h.2.2);simp only[eN,eA,Jv];have:Ba fs*(es.length+bG es)<=Ba fs*(es.length+bG es+1):=XW _ (by omega);omega
theorem Gn:∀ (ts:List Ty) (ls:ay),cf ts ls->(eh ls 0).2<=(Ba ts*(cP ls+1):Nat)
 |[],[],_=>by simp only[eh];exact aan _
 |[],_::_,h=>h.elim
 |_::_,[],h=>h.elim
 | t::ts,l::ls,h=>by
   have h1:=M2 t l h.1;have h2:=Gn ts ls h.2;simp only[eh];rw[xu];have e1:Jv t*(eA l+1)<=Jv t*(cP (l::ls)+1):=XW _ (by simp[cP]);have e2:Ba ts*(cP ls+1)<=Ba ts*(cP (l::ls)+1):=XW _ (by simp[cP]);have e3:Ba (t::ts)*(cP (l::ls)+1)=Jv t*(cP (l::ls)+1)+Ba ts*(cP (l::ls)+1):=by simp only[Ba];rw[Nat.add_mul]
   omega
theorem yA:∀ (ts:List Ty) (es:aa),(∀ e∈es,cf ts e)->(cH es 0).2<=(Ba ts*(es.length+bG es):Nat)
 |ts,[],_=>by simp only[cH];exact aan _
 | ts,e::es,h=>by
   have h1:=Gn ts e (h e (by simp));have h2:=yA ts es (fun x hx=>h x (by simp[hx]));simp only[cH];rw[jh];have e3:Ba ts*((e::es).length+bG (e::es))=Ba ts*(cP e+1)+Ba ts*(es.length+bG es):=by
    rw[<-aao];congr 1;simp[bG];omega
   omega
end
theorem Rw.marks {fs:List Ty}{es:aa}(h:Rw fs es)(hw:Ba fs<=64):(cH es 0).2<=(64*ah es:Nat):=by
 have:=yA fs es h.2;have h2:Ba fs*(es.length+bG es)<=64*(es.length+bG es):=Nat.mul_le_mul_right _ hw;unfold ah;omega
theorem Ao:∀ {rs:List aa} {k:Int},(∀ r∈rs,(cH r 0).2<=(64*ah r:Nat))->au rs k<=k+(64*av rs:Nat)
 |[],k,_=>by simp[au,av]
 | r::rs,k,h=>by
   simp only[au,av];have h1:=h r (by simp);have h2:=Ao (rs:=rs) (k:=(cH r k).2) (fun x hx=>h x (by simp[hx]));rw[jh]at h2;rw[jh r k];have:64*(ah r+av rs)=64*ah r+64*av rs:=aao _ _ _;omega
theorem FU {rs:List aa}{k:Int}(h:∀ r∈rs,(cH r 0).2<=(64*ah r:Nat))(hk:0<=k/\k<=1000)(hc:av rs<=1099511627776):au rs k<=1152921504606846976:=by
 have:=Ao (k:=k) h;have:64*av rs<=64*1099511627776:=XW _ hc;omega
theorem FT {rs:List aa}{k:Int}(hk:0<=k):¬ au rs k<0:=by
 rw[Ed];have:=IE (rs:=rs);omega
theorem NS {rs:List aa}(h:av rs<=1048576):¬ bN rs 1048576<0:=by rw[jv];omega
theorem Jt {es:aa}{k:Int}:jU (aU es k) 0 es.length=aU es k:=by
 rw[<-ca (es:=es) (k:=k),sa]
abbrev iF (a0 a1 a2:aa)(a3:Int)(a4 a5 a6 a7 a8 a9 aA aB:aa)(aC:Int)(aD:aa)(aE aF aG aH:Int)(aI:Bool)(aJ aK:Int)(aL:aa)(aM aN:Int):ay:=[.s 1 a0,.s 1 a1,.s 2 a2,.i a3,.s 1 a4,.s 2 a5,.s 3 a6,.s 3 a7,.s 4 a8,.s 1 a9,.s 1 aA,.s 1 aB,.i aC,.s 3 aD,.i aE,.i aF,.i aG,.i aH,.v (.bool aI),.i aJ,.i aK,.s 1 aL,.i aM,.i aN]
abbrev zz (a0 a1 a2:aa)(a3:Int)(a4 a5 a6 a7 a8 a9 aA aB:aa)(aC:Int)(aD:aa)(aE aF aG aH:Int)(aI:Bool)(aJ aK:Int)(aL:aa)(aM aN:Int):List H:=[.own (.s 1 a0),.own (.s 1 a1),.own (.s 2 a2),.own (.i a3),.own (.s 1 a4),.own (.s 2 a5),.own (.s 3 a6),.own (.s 3 a7),.own (.s 4 a8),.own (.s 1 a9),.own (.s 1 aA),.own (.s 1 aB),.own (.i aC),.own (.s 3 aD),.own (.i aE),.own (.i aF),.own (.i aG),.own (.i aH),.own (.v (.bool aI)),.own (.i aJ),.own (.i aK),.own (.s 1 aL),.own (.i aM),.own (.i aN)]
abbrev aP :=Unit
abbrev F0:aP:=()
abbrev nB {P:Program}:TB P:={Φ:=Unit,F0:=()}
theorem cS {es:aa}{n:Nat}(h:ah es<=n):es.length<=n:=Z4 (Nat.le_add_right _ _) h
theorem Ll {p:Prop}(h:p:=by
 try rw[de (n:=es.length) g0 hlt (by omega)]
 try have hlt':i.toNat<es.length:=by omega
 try have hct:=cu (es:=es) (n:=i.toNat) (by omega);rw[he]at hct;simp only[cP,eA,Nat.add_zero,Nat.zero_add]at hct
 try have hks:=cK (es:=es) (k:=k) hlt';rw[he]at hks;simp only[eh,eN]at hks
 try have hms:=uQ (es:=es) (k:=k) hlt';rw[he]at hms;simp only[eh,eN]at hms
 try have hcl:i.toNat<cur.length:=by rw[hc,kw g1];exact hlt'
 have hk1:=fb (es:=es) (k:=k) (n:=i.toNat)
 have hk2:=fb (es:=es) (k:=k) (n:=i.toNat+1)
 have hk3:=kT (es:=es) (k:=k)
 have hk4:=fb (es:=es) (k:=k) (n:=es.length)
 have hk5:=dF (es:=es) (m:=0) (n:=i.toNat) g1 (Nat.zero_le _)
 have hk6:=dF (es:=es) (m:=i.toNat) (n:=es.length) (Nat.le_refl _) g1
 try have hk7:=dF (es:=es) (m:=i.toNat+1) (n:=es.length) (Nat.le_refl _) hlt'
 have hle1:=bH (es:=es) (n:=i.toNat+1)
 have hcE:ah es=es.length+bG es:=rfl
 rw[bJ]at hk5
 try have hk8:=gF (es:=es) (n:=i.toNat) hlt'
 have ha1:bK .add .i64 k' 1=k'+1:=bh (by omega)
 have ha2:bK .add .i64 (k'+1) 1=k'+1+1:=bh (by omega)
 have ha3:bK .add .i64 (k'+1+1) 1=k'+1+1+1:=bh (by omega)
 have ha4:bK .add .i64 (k'+1+1+1) 1=k'+1+1+1+1:=bh (by omega)
 try simp only[ha1,ha2,ha3,ha4]
 try simp only[az]
 try simp only[vA,hcg,List.take,List.drop,List.length_cons,List.length_nil,List.nil_append,List.cons_append,List.append_nil,Nat.zero_add,Nat.reduceAdd,dk hcl,List.set_set,List.append_assoc]
 try simp only[so,hcg,dk hcl,List.getD_cons_zero,List.getD_cons_succ,EG]
 try simp only[sd hcl,nA hcl,yj hcl,ut hcl,hcg,List.getElem?_cons_zero,List.getElem?_cons_succ]
 first|exact⟨g0,hlt⟩|(refine⟨_,_,rfl,?_⟩;simp;done)|omega|(rw[hk',show i.toNat=es.length from by omega,hk3];done)|(rw[hc,show i.toNat=es.length from by omega,uO];rfl)|(rw[show(i+1).toNat=i.toNat+1 from by omega,hks,hk'];done)|(rw[show(i+1).toNat=i.toNat+1 from by omega, <-hms,hc,hk'];done)|trace_state):p:=h
theorem Lm {p:Prop}(h:p:=by
 have hk1:=fb (es:=es) (k:=k) (n:=i.toNat)
 have hk2:=fb (es:=es) (k:=k) (n:=i.toNat+1)
 have hk3:=kT (es:=es) (k:=k)
 have hk4:=fb (es:=es) (k:=k) (n:=es.length)
 have hk5:=dF (es:=es) (m:=0) (n:=i.toNat) g1 (Nat.zero_le _)
 have hk6:=dF (es:=es) (m:=i.toNat) (n:=es.length) (Nat.le_refl _) g1
 try have hk7:=dF (es:=es) (m:=i.toNat+1) (n:=es.length) (Nat.le_refl _) hlt'
 have hle1:=bH (es:=es) (n:=i.toNat+1)
 have hcE:ah es=es.length+bG es:=rfl
 rw[bJ]at hk5
 try have hk8:=gF (es:=es) (n:=i.toNat) hlt'
 try rw[<-hk']at hem hks
 have ha1:bK .add .i64 k' 1=k'+1:=bh (by omega)
 have ha2:bK .add .i64 (k'+1) 1=k'+1+1:=bh (by omega)
 have ha3:bK .add .i64 (k'+1+1) 1=k'+1+1+1:=bh (by omega)
 have ha4:bK .add .i64 (k'+1+1+1) 1=k'+1+1+1+1:=bh (by omega)
 try simp only[ha1,ha2,ha3,ha4]at*
 first|exact iC hwm g0 hltm|omega|(exfalso;revert hb;simp only[hem,cA,bK];simp;done)|(rw[hk',show i.toNat=es.length from by omega,hk3,hkk];done)|(rw[show(i+1).toNat=i.toNat+1 from by omega,hks];done)|(rw[show(i+1).toNat=i.toNat+1 from by omega,hks,hem];simp only[au,dq];done)|(rw[show(i+1).toNat=i.toNat+1 from by omega,hks,hem.2];simp only[au,dq];done)|(refine⟨_,by first|exact hem|exact hem.2|exact hem.1|rfl,?_,?_,?_⟩<;>(try simp only[au,dq,ah])<;>omega)|(refine⟨_,by first|exact hem|exact hem.2|exact hem.1|rfl,?_,?_,?_⟩<;>(try rw[hem])<;>(try rw[hem.2])<;>(try simp only[au,dq,ah])<;>omega)|(exfalso;simp only[au,dq]at hb;omega)|(exfalso;(first|rw[hem]at hb|rw[hem.2]at hb);simp only[au,dq]at hb;omega)|trivial|trace_state):p:=h
theorem JB {p:Prop}(h:p:=by
 try rw[de (n:=es.length) g0 hlt (by omega)]
 try have hct:=cu (es:=es) (n:=i.toNat) (by omega);rw[he]at hct;simp only[cP,eA,Nat.add_zero,Nat.zero_add]at hct
 have hle1:=bH (es:=es) (n:=i.toNat+1)
 have hcE:ah es=es.length+bG es:=rfl
 first|exact iC hwf g0 hlt|exact⟨g0,hlt⟩|(rw[hm];exact fm (by rw[f9 g1];omega) (by rw[jc (by omega)];exact Nat.le_refl _))|omega|(rw[show(i+1).toNat=i.toNat+1 from by omega, <-wZ (by omega), <-hm,lp (by rw[hm,jc (by omega)];rfl),he])|(rw[hm,f9 g1];exact⟨trivial,rfl⟩)|(rw[hm,show i.toNat=es.length from by omega,wY])|trace_state):p:=h
theorem Vb {p:Prop}(h:p:=by
 try have hct:=cu (es:=es) (n:=i.toNat) (by omega);rw[he]at hct;simp only[cP,eA,Nat.add_zero,Nat.zero_add]at hct
 try have hks:=cK (es:=es) (k:=k) hlt';rw[he]at hks;simp only[eh,eN]at hks
 try have hms:=uQ (es:=es) (k:=k) hlt';rw[he]at hms;simp only[eh,eN]at hms
 try have hcl:i.toNat<cur.length:=by rw[hc,kw g1];exact hlt'
 have hk1:=fb (es:=es) (k:=k) (n:=i.toNat)
 have hk2:=fb (es:=es) (k:=k) (n:=i.toNat+1)
 have hk3:=kT (es:=es) (k:=k)
 have hk4:=fb (es:=es) (k:=k) (n:=es.length)
 have hk5:=dF (es:=es) (m:=0) (n:=i.toNat) g1 (Nat.zero_le _)
 have hk6:=dF (es:=es) (m:=i.toNat) (n:=es.length) (Nat.le_refl _) g1
 try have hk7:=dF (es:=es) (m:=i.toNat+1) (n:=es.length) (Nat.le_refl _) hlt'
 have hle1:=bH (es:=es) (n:=i.toNat+1)
 have hcE:ah es=es.length+bG es:=rfl
 rw[bJ]at hk5
 try have hk8:=gF (es:=es) (n:=i.toNat) hlt'
 have ha1:bK .add .i64 k' 1=k'+1:=bh (by omega)
 have ha2:bK .add .i64 (k'+1) 1=k'+1+1:=bh (by omega)
 have ha3:bK .add .i64 (k'+1+1) 1=k'+1+1+1:=bh (by omega)
 have ha4:bK .add .i64 (k'+1+1+1) 1=k'+1+1+1+1:=bh (by omega)
 try simp only[ha1,ha2,ha3,ha4]
 try simp only[az]
 try simp only[vA,hcg,List.take,List.drop,List.length_cons,List.length_nil,List.nil_append,List.cons_append,List.append_nil,Nat.zero_add,Nat.reduceAdd,dk hcl,List.set_set,List.append_assoc]
 try simp only[so,hcg,dk hcl,List.getD_cons_zero,List.getD_cons_succ,EG]
 try simp only[sd hcl,nA hcl,yj hcl,ut hcl,hcg,List.getElem?_cons_zero,List.getElem?_cons_succ]
 first|exact⟨g0,hlt⟩|(refine⟨_,_,rfl,by simp,?_⟩;show List.take _ (List.drop _ _)=[L.s _ (sn _ _)];simp only[sH,so,hcg,dk hcl,List.getD_cons_zero,List.getD_cons_succ,Nat.add_zero,EG];rfl)|exact⟨trivial,_,rfl,rfl⟩|exact⟨_,rfl⟩|omega|(rw[hk',show i.toNat=es.length from by omega,hk3];done)|(rw[hc,show i.toNat=es.length from by omega,uO];rfl)|(rw[show(i+1).toNat=i.toNat+1 from by omega,hks,hk'];rfl)|(rw[show(i+1).toNat=i.toNat+1 from by omega, <-hms,hc,hk'];rfl)|(refine⟨hr0,?_,?_,?_⟩<;>(try simp only[ah,au])<;>first|omega|(rw[hk'];omega))|trace_state):p:=h
theorem rU {p:Prop}(h:p:=by
 intro O r F hO hr hF;cbv
 repeat' first|apply And.intro|(apply bu<;>intro hb<;>cbv)
 all_goals(subst hO hr hF;(try simp only[nc]at*);(try simp only[ak,SS,sa,az]at*))
 all_goals first|trivial|trace_state):p:=h
theorem Vd {p:Prop}(h:p:=by
 have hk1:=fb (es:=es) (k:=k) (n:=i.toNat)
 have hk2:=fb (es:=es) (k:=k) (n:=i.toNat+1)
 have hk3:=kT (es:=es) (k:=k)
 have hk4:=fb (es:=es) (k:=k) (n:=es.length)
 have hk5:=dF (es:=es) (m:=0) (n:=i.toNat) g1 (Nat.zero_le _)
 have hk6:=dF (es:=es) (m:=i.toNat) (n:=es.length) (Nat.le_refl _) g1
 try have hk7:=dF (es:=es) (m:=i.toNat+1) (n:=es.length) (Nat.le_refl _) hlt'
 have hle1:=bH (es:=es) (n:=i.toNat+1)
 have hcE:ah es=es.length+bG es:=rfl
 rw[bJ]at hk5
 try have hk8:=gF (es:=es) (n:=i.toNat) hlt'
 try rw[<-hk']at hem hks
 have ha1:bK .add .i64 k' 1=k'+1:=bh (by omega)
 have ha2:bK .add .i64 (k'+1) 1=k'+1+1:=bh (by omega)
 have ha3:bK .add .i64 (k'+1+1) 1=k'+1+1+1:=bh (by omega)
 have ha4:bK .add .i64 (k'+1+1+1) 1=k'+1+1+1+1:=bh (by omega)
 try simp only[ha1,ha2,ha3,ha4]at*
 first|exact iC hwm g0 hltm|omega|(exfalso;revert hb;simp only[hem,cA,bK];simp;done)|(rw[hk',show i.toNat=es.length from by omega,hk3,hkk];done)|(rw[show(i+1).toNat=i.toNat+1 from by omega,hks];done)|(rw[show(i+1).toNat=i.toNat+1 from by omega,hks,hem];simp only[au,dq];done)|(rw[show(i+1).toNat=i.toNat+1 from by omega,hks,hem.2];simp only[au,dq];done)|(refine⟨_,by first|exact hem|exact hem.2|exact hem.1|rfl,hr0,?_,?_,?_⟩<;>(try simp only[au,dq,ah])<;>omega)|(refine⟨_,by first|exact hem|exact hem.2|exact hem.1|rfl,hr0,?_,?_,?_⟩<;>(try rw[hem])<;>(try rw[hem.2])<;>(try simp only[au,dq,ah])<;>omega)|(exfalso;simp only[au,dq]at hb;omega)|(exfalso;(first|rw[hem]at hb|rw[hem.2]at hb);simp only[au,dq]at hb;omega)|trivial|trace_state):p:=h
theorem Ln {p:Prop}(h:p:=by
 try rw[de (n:=es.length) g0 hlt (by omega)]
 try have hct:=cu (es:=es) (n:=i.toNat) (by omega);rw[he]at hct;simp only[cP,eA,Nat.add_zero,Nat.zero_add]at hct
 have hle1:=bH (es:=es) (n:=i.toNat+1)
 have hcE:ah es=es.length+bG es:=rfl
 first|omega|exact iC hwf g0 hlt|trivial|trace_state):p:=h
theorem Lo {p:Prop}(h:p:=by
 intro O r F hO hr hF;cbv
 repeat' first|apply And.intro|(apply bu<;>intro hb<;>cbv)
 all_goals(subst hO hr hF;(try simp only[nc]at*);(try simp only[ak,SS,sa,az]at*))
 all_goals first|exact hs|trivial|exact⟨trivial,trivial⟩|exact⟨hw,hl⟩|omega|(show aV _ _=true;kernel_rfl)|(simp only[List.length_nil];omega)|exact rfl|done):p:=h
theorem JC {p:Prop}(h:p:=by
 intro O r F hO hr hF;cbv
 repeat' first|apply And.intro|(apply bu<;>intro hb<;>cbv)
 all_goals(subst hO hr hF;(try simp only[nc]at*);(try simp only[ak,SS,sa,az]at*))
 all_goals(try simp only[hs]at*)
 all_goals first|trivial|(rw[hn,aa3 (by omega)])|(rw[hn,aa4 (by omega)])):p:=h
theorem VK {p:Prop}(h:p:=by
 (subst hO hr hF;(try simp only[nc]at*);(try simp only[ak,SS,sa,az]at*))
 try rw[cy (by omega) (by omega)]
 (try have bq:quarOk rm qs=true:=(by assumption))
 (try have bn:=bB.1 (by assumption:inR now 0 1000000=true))
 (try have ba:=bB.1 (by assumption:inR age 0 1000000=true))
 (try have lm:qs.length<=1099511627776:=(by omega))
 (try have qb:=Ro bq hw i0 (by omega))
 (try have e1:bK .sub .i64 now (ag qs i 2)=now-ag qs i 2:=cN (by omega))
 (try have e2:bK .sub .i64 now age=now-age:=cN (by omega))
 (try simp only[e1]at*)
 (try simp only[e2]at*)
 first
  | (show(_:List DV)=_
     first
      |(have q:=Nu (Uu (rm:=rm) (qs:=qs) (now:=now) (age:=age) (by assumption));rw[q.1,q.2];exact rfl)
      |(have q:=Nu (Uv (rm:=rm) (qs:=qs) (now:=now) (age:=age) (by assumption));rw[q.1,q.2];exact rfl)
      |(have q:=Nu (Uw (rm:=rm) (qs:=qs) (now:=now) (age:=age) (by assumption));rw[q.1,q.2];exact rfl)
      |(have n:=I4 i2 i0 (by omega);have q:=Ri (Rh (rm:=rm) (qs:=qs) (now:=now) (age:=age) bq (by assumption) (by assumption));rw[q.1,q.2, <-n,Jh i0 (by omega),Ji];exact rfl)
      |done)
  |omega
  |exact eF
  |exact⟨hw,by omega⟩
  |exact⟨(vk hw).1,Nat.le_trans (vk hw).2 lm⟩
  |exact Rj
  |exact Nv i2 i0 (by omega) (by omega)
  |exact(vk hw).1.scal rfl
  |(simp only[List.length_nil];have w:=(vk (a:=i.toNat) (b:=Bs (qs.length:Int) i) hw).2;omega)
  |(simp only[List.length_nil];have w:=(vk (a:=Int.toNat 0) (b:=Bs i 0) hw).2;omega)
  |(refine⟨?_,?_⟩<;>(simp only[List.length_nil];have w:=(vk (a:=i.toNat) (b:=Bs (qs.length:Int) i) hw).2;have w2:=(vk (a:=Int.toNat 0) (b:=Bs i 0) hw).2;omega))
  |(show aV _ _=true;kernel_rfl)
  |exact⟨True.intro,True.intro⟩
  |exact True.intro
  |done):p:=h
theorem Sg {p:Prop}(h:p:=by
 (subst hO hr hF;(try simp only[nc]at*);(try simp only[ak,SS,sa,az]at*))
 try rw[cy (by omega) (by omega)]
 try(have hol:out.length=i.toNat:=(by rw[i2,List.length_take];omega))
 try(have hok:ou2.length=k.toNat:=(by rw[k2,List.length_take];omega))
 try(have hsc:=lh wb i0 (by assumption);have hsl:=aO (es:=aR b i 0))
 try(have hsd:=lh wx k0 (by assumption);have hsm:=aO (es:=aR x k 0))
 first
  | (show(_:List DV)=_
     first
      |exact rfl
      |(rw[i2,eW (by omega)];rfl)
      |(rw[i2,k2,eW (by omega),eW (by omega)];rfl)
      |done)
  |omega
  |exact eF
  |(show aV _ _=true;kernel_rfl)
  |exact Rw.scal (fs:=[tI]) (by(first|assumption|exact Rw.sub (by first|assumption|exact Rw.sub (by assumption) (by omega) rfl) (by omega) rfl)) rfl
  |exact Rw.scal (fs:=[tI,tI]) (by(first|assumption|exact Rw.sub (by first|assumption|exact Rw.sub (by assumption) (by omega) rfl) (by omega) rfl)) rfl
  |exact⟨by(first|assumption|exact Rw.sub (by first|assumption|exact Rw.sub (by assumption) (by omega) rfl) (by omega) rfl),by omega⟩
  |(simp only[List.length_nil,List.length_cons];omega)
  |(rw[i2,List.nil_append];exact(eX wb i0 (by assumption)).symm)
  |(rw[k2];exact(eX wx k0 (by assumption)).symm)
  |(rw[k2,List.nil_append];exact(eX wx k0 (by assumption)).symm)
  |exact⟨trivial,trivial⟩
  |trivial
  |exact rfl
  |done):p:=h
theorem NZ {p:Prop}(h:p:=by
 try have hct:=cu (es:=es) (n:=i.toNat) (by omega);rw[he]at hct;simp only[cP,eA,Nat.add_zero,Nat.zero_add]at hct
 have hle1:=bH (es:=es) (n:=i.toNat+1)
 have hcE:ah es=es.length+bG es:=rfl
 first|exact iC hwf g0 hlt|exact⟨g0,hlt⟩|(rw[hm];exact fm (by rw[f9 g1];omega) (by rw[jc (by omega)];exact Nat.le_refl _))|omega|(rw[show(i+1).toNat=i.toNat+1 from by omega, <-wZ (by omega), <-hm,lp (by rw[hm,jc (by omega)];rfl),he])|(rw[hm,f9 g1];exact⟨trivial,rfl⟩)|(rw[hm,show i.toNat=es.length from by omega,wY])|trivial|(refine⟨hr0,?_⟩;simp only[av,ah,Nat.add_zero];omega)|trace_state):p:=h
theorem Si {p:Prop}(h:p:=by
 (subst hO hr hF;(try simp only[nc]at*);(try simp only[ak,SS,sa,az]at*))
 try rw[cy (by omega) (by omega)]
 try(have hol:out.length=i.toNat:=(by rw[i2,List.length_take];omega))
 try(have hsc:=lh hc i0 (by assumption);have hsl:=aO (es:=aR ls i 0))
 first
  | (show(_:List DV)=_
     first
      |exact rfl
      |(rw[i2,eW (by omega)];rfl)
      |(rw[i2,k2,eW (by omega),eW (by omega)];rfl)
      |done)
  |omega
  |exact eF
  |(show aV _ _=true;kernel_rfl)
  |exact Rw.scal (fs:=[tI]) (by(first|assumption|exact Rw.sub (by first|assumption|exact Rw.sub (by assumption) (by omega) rfl) (by omega) rfl)) rfl
  |exact Rw.scal (fs:=[tI,tI]) (by(first|assumption|exact Rw.sub (by first|assumption|exact Rw.sub (by assumption) (by omega) rfl) (by omega) rfl)) rfl
  |exact⟨by(first|assumption|exact Rw.sub (by first|assumption|exact Rw.sub (by assumption) (by omega) rfl) (by omega) rfl),by omega⟩
  |(simp only[List.length_nil,List.length_cons];omega)
  |(rw[i2];exact(eX hc i0 (by assumption)).symm)
  |(rw[i2,List.nil_append];exact(eX hc i0 (by assumption)).symm)
  |exact⟨trivial,trivial⟩
  |trivial
  |exact rfl
  |done):p:=h
theorem Jy {p:Prop}(h:p:=by
 intro O r os F hO hr hos hF;cbv
 repeat' first|apply And.intro|(apply bu<;>intro hb<;>cbv)
 all_goals((try subst hos);subst hO hr hF;(try simp only[nc]at*);(try simp only[ak,SS,sa,az]at*))
 all_goals(try simp only[fo,List.cons_append,List.nil_append,ca]at*)
 all_goals first|trivial|(refine⟨by assumption,?_,?_,?_⟩<;>(try simp only[fo,List.cons_append,List.nil_append,av,Nat.add_zero])<;>omega)|trace_state):p:=h
theorem Jz {p:Prop}(h:p:=by
 intro O r F hO hr hF;cbv
 repeat' first|apply And.intro|(apply bu<;>intro hb<;>cbv)
 all_goals(subst hO hr hF;(try simp only[nc]at*);(try simp only[ak,SS,sa,az]at*))
 all_goals(try simp only[fo,List.cons_append,List.nil_append]at*)
 all_goals first|trivial|(exfalso;omega)|(obtain⟨x,y1,y2,y3⟩:=e0;exact⟨x,y1,y2,y3,by omega,by omega⟩)|(refine⟨by assumption,by omega,by omega⟩)|trace_state):p:=h
theorem N0 {p:Prop}(h:p:=by
 try have hct:=cu (es:=es) (n:=i.toNat) (by omega);rw[he]at hct;simp only[cP,eA,Nat.add_zero,Nat.zero_add]at hct
 have hle1:=bH (es:=es) (n:=i.toNat+1)
 simp only[av,ah,Nat.add_zero]at hsz hsz2
 first|exact iC hwf g0 hlt|exact⟨hr0,by omega,by omega⟩|trivial|omega|(rw[hn,aa3];omega)|(rw[hn,aa4 (by rw[show i.toNat=es.length from by omega,List.take_length]at g3;omega),show l=left-ah es from by rw[show i.toNat=es.length from by omega,List.take_length]at g3;omega])|(rw[show(i+1).toNat=i.toNat+1 from by omega,hct];omega)|trace_state):p:=h
theorem Sj {p:Prop}(h:p:=by
 intro O r os F hO hr hos hF;cbv
 repeat' first|apply And.intro|(apply bu<;>intro hb<;>cbv)
 all_goals((try subst hos);subst hO hr hF;(try simp only[nc]at*);(try simp only[ak,SS,sa,az]at*))
 all_goals(try simp only[e1]at*)
 all_goals(try simp only[jm (l:=a6) (sz:=3) (j:=0) (i:=i) i0]at*)
 all_goals first
  |(show(_:List DV)=_;exact rfl)
  | (show(_:List H)=_
     first
      |exact rfl
      |(have d:=Ff (a0:=a0) (a1:=a1) (a2:=a2) (a6:=a6) (i:=i);rw[d.1,d.2.1,d.2.2,TC, <-L0 i0 i1];exact rfl)
      |done)
  |omega
  |exact eF
  |(show aV _ _=true;kernel_rfl)
  |exact uI hp.r6 i0 i1 (by decide)
  |exact hs6
  |(show _/\_;simp only[Bs,jU,List.length_nil,List.length_append,List.length_take,List.length_drop];omega)
  |exact⟨O7 hp,hk,hn,h5,g0,by omega,by omega⟩
  |exact⟨by omega,by omega,by omega⟩
  |exact⟨hp.r0,hp.r1,hp.r2,hp.r4,km⟩
  |exact⟨by unfold zlI;omega,by unfold zlI;omega,hp.r5,by omega⟩
  |exact⟨True.intro,True.intro⟩
  |exact True.intro
  |done):p:=h
theorem Sk {p:Prop}(h:p:=by
 (subst hO hr hF;(try simp only[nc]at*);(try simp only[ak,SS,sa,az]at*))
 try rw[cy (by omega) (by omega)]
 try(have hol:out.length=i.toNat:=(by rw[i2,List.length_take];omega))
 try(have hsc:=lh hr9 i0 (by assumption);have hsl:=aO (es:=aR a9 i 0))
 first
  | (show(_:List DV)=_
     first
      |exact rfl
      |(rw[i2,eW (by omega)];rfl)
      |done)
  |omega
  |exact eF
  |(show aV _ _=true;kernel_rfl)
  |exact hs5
  |exact hs6
  |exact hs7
  |exact hs8
  |exact⟨hr0,hr1,hr2,hr4,by omega,by omega,by omega,by omega⟩
  |exact⟨hr5,by omega⟩
  |exact⟨hr10,hr11,by omega,by omega⟩
  |exact⟨hr13,by omega⟩
  |exact⟨hr21,by omega⟩
  |exact⟨NR hr9 i0 (by assumption),by omega⟩
  |(simp only[List.length_nil,List.length_cons];omega)
  |(rw[i2];exact(eX hr9 i0 (by assumption)).symm)
  |exact⟨trivial,trivial⟩
  |trivial
  |exact rfl
  |done):p:=h
theorem JA {p:Prop}(h:p:=by
 intro O r os F hO hr hos hF;cbv
 repeat' first|apply And.intro|(apply bu<;>intro hb<;>cbv)
 all_goals((try subst hos);subst hO hr hF;(try simp only[nc]at*);(try simp only[ak,SS,sa,az]at*))
 all_goals(try simp only[fo,List.cons_append,List.nil_append,ca]at*)
 all_goals first|trivial|trace_state):p:=h
theorem Sl {p:Prop}(h:p:=by
 (try have z:=Na (by assumption))
 (try have y2:=hp.xn j)
 (try have y1:=hp.bn i)
 (try have z6:bK .add .i64 k 1=k+1:=bh (by omega))
 (try simp only[z6]at*)
 first
  | (show(_:List DV)=_
     first
      |(refine pd ?_;exact T5 (by assumption))
      |(refine pd ?_;exact Mf j2 (by assumption) j1 (by assumption))
      |done)
  |omega
  |exact eF
  |exact Rw.scal (Rw.sub (fs:=[.sl [tI]]) hxw (by omega) rfl) rfl
  |(have q:=k2.l;constructor<;>(simp only[List.length_cons,List.length_nil];omega))
  |(have q:=j2.l;constructor<;>omega)
  |exact Pg k2 k0
  |exact L9 k2 i0 y1 k1 (by omega)
  |exact TG i2
  |exact TK i2 i1 (by omega)
  |exact Po j2 j0 y2
  |exact TF
  |exact⟨True.intro,True.intro⟩
  |done):p:=h
theorem Sn {p:Prop}(h:p:=by
 (try simp only[z9]at*)
 first
  | (show(_:List DV)=_
     first
      |(refine ai ?_;symm;exact M7 (by assumption))
      |(refine ai ?_;symm;exact M8 (by assumption))
      |(refine ai ?_;symm;exact Gt i0 (by omega) k0 (by assumption) (QU (by assumption)))
      |(refine ai ?_;symm;exact Gt i0 (by omega) k0 (by assumption) (QV (by assumption)))
      |(refine ai ?_;symm;exact M9 i0 (by omega) j0 (by assumption) (Tq (by assumption)))
      |(refine ai ?_;rw[M6 i2 (by assumption) (by omega) i1 (by omega)];rfl)
      |done)
  |omega
  |exact eF
  |(show aV _ _=true;kernel_rfl)
  |exact bC
  |exact aW k2 (QW (by assumption) (by assumption))
  |exact aW j2 (OJ (by assumption))
  |exact QB i2 i0 k2 (by omega) j2 (by omega)
  |exact Um
  |done):p:=h
theorem Sv {p:Prop}(h:p:=by
 (subst hO hr hF;(try simp only[nc]at*);(try simp only[ak,SS,sa,az]at*))
 try rw[cy (by omega) (by omega)]
 (try have z:=wK i0 (by omega))
 (try simp only[z]at*)
 first
  | (show(_:List DV)=_
     first
      |(refine ai ?_;symm;exact Ny i0 (by assumption) (by assumption))
      |(refine ai ?_;symm;exact Nz i0 (by assumption) (by assumption) (by assumption))
      |(refine ai ?_;exact Nx i2 (by omega))
      |(have q:false=true:=(by assumption);cases q)
      |done)
  |omega
  |exact eF
  |(show aV _ _=true;kernel_rfl)
  |exact bC
  |exact aW i2 (Ja (by assumption) (by omega))
  |exact aW i2 (Jb (by assumption) (by assumption))
  |done):p:=h
theorem Sw {p:Prop}(h:p:=by
 intro O r F hO hr hF;cbv
 repeat' first|apply And.intro|(apply bu<;>intro hb<;>cbv)
 all_goals(subst hO hr hF;(try simp only[nc]at*);(try simp only[ak,SS,sa,az]at*))
 all_goals(try have hs:=Er.1 (by assumption:slB b i=true))
 all_goals(try have hw:=A4 hs.2.1 hs.2.2)
 all_goals(try simp only[hw]at*)
 all_goals first
  | (show(_:List DV)=_
     first
      |(refine cT ?_;unfold woN;rw[show slB b i=false from(by assumption)];exact rfl)
      |(refine cT ?_;unfold woN;rw[aa3 (by assumption:slB b i=true)])
      |done)
  |omega
  |exact eF
  |(show aV _ _=true;kernel_rfl)
  |exact⟨True.intro,True.intro⟩
  |exact True.intro
  |done):p:=h
theorem SA {p:Prop}(h:p:=by
 (subst hO hr hF;(try simp only[nc]at*);(try simp only[ak,SS,sa,az]at*))
 try rw[cy (by omega) (by omega)]
 first|omega|exact eF|exact bC|contradiction|exact ai (Mc (by assumption)).symm|exact ai (Md (by omega)).symm|exact ai (Me i0 (by omega) (by omega)).symm|exact ai (Fu i0 (by omega) k0 (by omega) (.inl (by assumption))).symm|exact ai (Fu i0 (by omega) k0 (by omega) (.inr ⟨by assumption,by assumption⟩)).symm|exact ai (Fv (by assumption) (by omega) i2 (by omega)).symm|exact aW i2 (Kh (by omega) k2 (by omega))|exact aW k2 (J0 (by assumption) (by first|exact .inl (by assumption)|exact .inr (by assumption)))|trace_state):p:=h
theorem SB {p:Prop}(h:p:=by
 intro O r F hO hr hF;cbv
 repeat' first|apply And.intro|(apply bu<;>intro hb<;>cbv)
 all_goals(subst hO hr hF;(try simp only[nc]at*);(try simp only[ak,SS,sa,az]at*))
 all_goals first
  | (show(_:List DV)=_
     first
      |(have q:=U0 (p:=p) (k:=k) (b:=b) (x:=s) (by assumption);rw[q.1,q.2];exact rfl)
      |(have q:=U2 (p:=p) (k:=k) (b:=b) (x:=s) (by assumption);rw[q.1,q.2];exact rfl)
      |(have q:=RX (p:=p) (k:=k) (b:=b) (x:=s) (by assumption) (by assumption);rw[q.1,q.2];exact rfl)
      |done)
  |omega
  |exact eF
  |(show aV _ _=true;kernel_rfl)
  |exact⟨True.intro,True.intro⟩
  |exact True.intro
  |done):p:=h
theorem SC {p:Prop}(h:p:=by
 intro O r os F hO hr hos hF;cbv
 repeat' first|apply And.intro|(apply bu<;>intro hb<;>cbv)
 all_goals((try subst hos);subst hO hr hF;(try simp only[nc]at*);(try simp only[ak,SS,sa,az]at*))
 all_goals first
  |(show(_:List DV)=_;exact rfl)
  | (show(_:List H)=_
     first
      |(have q:=Tx (cs:=cs) (us:=us) (es:=es) (f:=f) (by assumption);first|(rw[q.1,q.2,Lj wc f0 f1,Sc wu f0 (by omega)];done)|(rw[q.1,q.2,Lj wc f0 f1,Sc wu f0 (by omega)];exact rfl))
      |(have q:=Tz (cs:=cs) (us:=us) (es:=es) (f:=f) (by assumption);first|(rw[q.1,q.2];done)|(rw[q.1,q.2];exact rfl))
      |done)
  |omega
  |exact⟨we,el⟩
  |(show aV _ _=true;kernel_rfl)
  |exact U3 wu f0 (by omega)
  |exact R0 wc f0 f1
  |exact⟨True.intro,True.intro⟩
  |exact True.intro
  |done):p:=h
theorem N1 {p:Prop}(h:p:=by
 try have hct:=cu (es:=es) (n:=i.toNat) (by omega);rw[he]at hct;simp only[cP,eA,Nat.add_zero,Nat.zero_add]at hct
 have hle1:=bH (es:=es) (n:=i.toNat+1)
 have hcE:ah es=es.length+bG es:=rfl
 first|omega|exact iC hwf g0 hlt|trivial|(refine⟨trivial,hr0,?_⟩;simp only[av,ah,Nat.add_zero];omega)|trace_state):p:=h
theorem SD {p:Prop}(h:p:=by
 (subst hO hr hF;(try simp only[nc]at*);(try simp only[ak,SS,sa,az]at*))
 try rw[cy (by omega) (by omega)]
 try(have hpl:=yJ (es:=es) (f:=f) (n:=i.toNat);rw[<-i2]at hpl)
 first|omega|exact eF|(exact⟨trivial,trivial⟩)|rfl|(simp only[List.length_cons,List.length_nil];omega)|(rw[I1 i0 (by assumption) (by assumption), <-i2])|(rw[GO i0 (.inl (by assumption)), <-i2])|(rw[GO i0 (.inr (by assumption)), <-i2])|exact B8 (by rw[i2,show i.toNat=es.length from by omega];rfl)|trace_state):p:=h
theorem SE {p:Prop}(h:p:=by
 intro O r F hO hr hF;cbv
 repeat' first|apply And.intro|(apply bu<;>intro hb<;>cbv)
 all_goals(subst hO hr hF;(try simp only[nc]at*);(try simp only[ak,SS,sa,az]at*))
 all_goals(try simp only[hsb]at*)
 all_goals(try simp only[bB,pM]at*)
 all_goals first|exact JN (Do (by omega)).1.symm (Do (by omega)).2.symm|exact JN (GM (by omega)).1.symm (GM (by omega)).2.symm|exact eF|trace_state):p:=h
theorem SF {p:Prop}(h:p:=by
 intro O r F hO hr hF;cbv
 repeat' first|apply And.intro|(apply bu<;>intro hb<;>cbv)
 all_goals(subst hO hr hF;(try simp only[nc]at*);(try simp only[ak,SS,sa,az]at*))
 all_goals(try simp only[fo,List.cons_append,List.nil_append]at*)
 all_goals first|trivial|(exfalso;omega)|(obtain⟨x,y1,y2,y3⟩:=e0;exact⟨x,y1,y2,y3,by omega,by omega⟩)|(obtain⟨x,y1,y2,y3⟩:=e1;exact⟨x,y1,y2,y3,by omega,by omega⟩)|(refine⟨by assumption,by omega,by omega⟩)|(refine⟨by assumption,by assumption,by omega,by omega⟩)|trace_state):p:=h
theorem SG {p:Prop}(h:p:=by
 intro O r F hO hr hF;cbv
 repeat' first|apply And.intro|(apply bu<;>intro hb<;>cbv)
 all_goals(subst hO hr hF;(try simp only[nc]at*);(try simp only[ak,SS,sa,az]at*))
 all_goals try(have hs:=Er.1 (‹slB b i=true›);have hw:=A4 hs.2.1 hs.2.2;simp only[hw]at*)
 all_goals first
  | (show(_:List DV)=_
     first
      |exact ai (FD (by assumption)).symm
      |(refine ai (er ?_);unfold hsB;rw[show slB b i=true from by assumption,Bool.true_and,aa2];simp only[SS])
      |done)
  |omega
  |trace_state):p:=h
theorem SH {p:Prop}(h:p:=by
 (subst hO hr hF;(try simp only[nc]at*);(try simp only[ak,SS,sa,az]at*))
 try rw[cy (by omega) (by omega)]
 first|omega|exact eF|exact bC|contradiction|exact ai (Hq i2 (by omega)).symm|(simp only[bB,pM]at*;first|exact ai (R4 i0 (by omega) (by omega)).symm|exact aW i2 (Lf (by omega)))|trace_state):p:=h
theorem SI {p:Prop}(h:p:=by
 (subst hO hr hF;(try simp only[nc]at*);(try simp only[ak,SS,sa,az]at*))
 try rw[cy (by omega) (by omega)]
 first|(show(_:List DV)=_;exact cT (Nt i2 i1 (by omega)))|omega|exact eF|exact Us|exact Rf i2 i0 (by omega)|done):p:=h
theorem SJ {p:Prop}(h:p:=by
 intro O r F hO hr hF;cbv
 repeat' first|apply And.intro|(apply bu<;>intro hb<;>cbv)
 all_goals(subst hO hr hF;(try simp only[nc]at*);(try simp only[ak,SS,sa,az]at*))
 all_goals(try have t:=bB.1 hb)
 all_goals(try have z:bK .sub .i64 n l=n-l:=cN (by omega))
 all_goals(try simp only[z]at*)
 all_goals first|(show(_:List DV)=_;refine ai ?_;unfold rngIn;simp[hb];done)|done):p:=h
theorem SK {p:Prop}(h:p:=by
 (try simp only[bB,pM]at*)
 (try rw[cy (by omega) (by omega)])
 first|trivial|omega|exact J2 (by omega) (by assumption) (by omega)|(have:=J2 (k:=k) (s:=s) (by omega) (by assumption) (by omega);omega)|exact cT (OY (by omega)).symm|exact cT (LW (by omega) (by assumption) (by omega) (by assumption)).symm|exact .inl trivial|(rw[show k+1-1=k by omega];exact .inr (by assumption))|trace_state):p:=h
theorem N2 {p:Prop}(h:p:=by
 intro O r F hO hr hF;cbv
 repeat' first|apply And.intro|(apply bu<;>intro hb<;>cbv)
 all_goals(subst hO hr hF;(try simp only[nc]at*);(try simp only[ak,SS,sa,az]at*))
 all_goals first|exact rfl|done):p:=h
theorem SL {p:Prop}(h:p:=by
 intro O r F hO hr hF;cbv
 repeat' first|apply And.intro|(apply bu<;>intro hb<;>cbv)
 all_goals(subst hO hr hF;(try simp only[nc]at*);(try simp only[ak,SS,sa,az]at*))
 all_goals first
  | (show(_:List DV)=_
     first
      |exact B8 (Ft (by assumption)).symm
      |exact B8 (CP (by assumption)).symm
      |done)
  |exact⟨hw,hn⟩
  |exact hw
  |exact⟨True.intro,True.intro⟩
  |trace_state):p:=h
theorem SN {p:Prop}(h:p:=by
 intro O r F hO hr hF;cbv
 repeat' first|apply And.intro|(apply bu<;>intro hb<;>cbv)
 all_goals(subst hO hr hF;(try simp only[nc]at*);(try simp only[ak,SS,sa,az]at*))
 all_goals first
  | (show(_:List DV)=_
     first
      |exact ai (by unfold slB;rw[aa0 (by assumption)];rfl)
      |exact ai (by unfold slB;rw[aa1 (by omega)];rfl)
      |done)
  |trace_state):p:=h
theorem SO {p:Prop}(h:p:=by
 intro O r F hO hr hF;cbv
 repeat' first|apply And.intro|(apply bu<;>intro hb<;>cbv)
 all_goals(subst hO hr hF;(try simp only[nc]at*);(try simp only[ak,SS,sa,az]at*))
 all_goals first|(show aV _ _=true;kernel_rfl)|exact hs|exact⟨hc,hu,he,hn,hm,hk⟩|exact⟨hr,by omega⟩|exact⟨trivial,trivial⟩|trivial|(simp only[List.length_nil];omega)|exact rfl|done):p:=h
theorem SP {p:Prop}(h:p:=by
 intro O r F hO hr hF;cbv
 repeat' first|apply And.intro|(apply bu<;>intro hb<;>cbv)
 all_goals(subst hO hr hF;(try simp only[nc]at*);(try simp only[ak,SS,sa,az]at*))
 all_goals first|(show(_:List DV)=_;refine ai ?_;unfold mshB;simp[*];done)|(show(_:List DV)=_;refine ai ?_;unfold mshB;subst_vars;rw[cmp_eq];simp[*];done)|done):p:=h
theorem SQ {p:Prop}(h:p:=by
 intro O r F hO hr hF;cbv
 repeat' first|apply And.intro|(apply bu<;>intro hb<;>cbv)
 all_goals(subst hO hr hF;(try simp only[nc]at*);(try simp only[ak,SS,sa,az]at*))
 all_goals iterate 1 (try simp(disch:=assumption) only[ia,List.cons_append,List.nil_append]at*)
 all_goals first|trivial|(rw[gO (by assumption)])|trace_state):p:=h
theorem SR {p:Prop}(h:p:=by
 intro O r F hO hr hF;cbv
 repeat' first|apply And.intro|(apply bu<;>intro hb<;>cbv)
 all_goals(subst hO hr hF;(try simp only[nc]at*);(try simp only[ak,SS,sa,az]at*))
 all_goals iterate 2 (try simp(disch:=assumption) only[ia,List.cons_append,List.nil_append]at*)
 all_goals first|trivial|(rw[gO (by assumption)])|trace_state):p:=h
theorem SU {p:Prop}(h:p:=by
 intro O r F hO hr hF;cbv
 repeat' first|apply And.intro|(apply bu<;>intro hb<;>cbv)
 all_goals(subst hO hr hF;(try simp only[nc]at*);(try simp only[ak,SS,sa,az]at*))
 all_goals first|(show aV _ _=true;kernel_rfl)|exact⟨hc,hu,hn,hm⟩|exact⟨he,by omega⟩|exact⟨trivial,trivial⟩|trivial|exact rfl|trace_state):p:=h
theorem SV {p:Prop}(h:p:=by
 intro O r F hO hr hF;cbv
 repeat' first|apply And.intro|(apply bu<;>intro hb<;>cbv)
 all_goals(subst hO hr hF;(try simp only[nc]at*);(try simp only[ak,SS,sa,az]at*))
 all_goals first
  | (show(_:List DV)=_
     first
      |exact cT (Nn (by assumption))
      |exact cT (KP (by assumption)).symm
      |done)
  |omega
  |done):p:=h
theorem N4 {p:Prop}(h:p:=by
 (subst hO hr hF;(try simp only[nc]at*);(try simp only[ak,SS,sa,az]at*))
 (try simp only[hs]at*)
 first|trivial|(rw[hn,aa3 (by omega)])|trace_state):p:=h
theorem SX {p:Prop}(h:p:=by
 intro O r F hO hr hF;cbv
 repeat' first|apply And.intro|(apply bu<;>intro hb<;>cbv)
 all_goals(subst hO hr hF;(try simp only[nc]at*);(try simp only[ak,SS,sa,az]at*))
 all_goals first
  | (show(_:List DV)=_
     first
      |exact cT (Ql (by assumption))
      |exact cT (Qm (by assumption)).symm
      |done)
  |done):p:=h
theorem SY {p:Prop}(h:p:=by
 intro O r F hO hr hF;cbv
 repeat' first|apply And.intro|(apply bu<;>intro hb<;>cbv)
 all_goals(subst hO hr hF;(try simp only[nc]at*);(try simp only[ak,SS,sa,az]at*))
 all_goals first
  | (show(_:List DV)=_
     first
      |exact ai (er (by unfold eqB;simp only[SS,aa2]))
      |done)
  |done):p:=h
theorem SZ {p:Prop}(h:p:=by
 intro O r F hO hr hF;cbv
 repeat' first|apply And.intro|(apply bu<;>intro hb<;>cbv)
 all_goals(subst hO hr hF;(try simp only[nc]at*);(try simp only[ak,SS,sa,az]at*))
 all_goals first|trivial|(refine⟨trivial,by assumption,?_⟩;(try simp only[av,Nat.add_zero]);omega)|trace_state):p:=h
theorem S7 {p:Prop}(h:p:=by
 intro O r F hO hr hF;cbv
 repeat' first|apply And.intro|(apply bu<;>intro hb<;>cbv)
 all_goals(subst hO hr hF;(try simp only[nc]at*);(try simp only[ak,SS,sa,az]at*))
 all_goals first|trivial|(refine⟨by assumption,?_⟩;(try simp only[av,Nat.add_zero]);omega)|trace_state):p:=h
theorem S8 {p:Prop}(h:p:=by
 intro O r F hO hr hF;cbv
 repeat' first|apply And.intro|(apply bu<;>intro hb<;>cbv)
 all_goals(subst hO hr hF;(try simp only[nc]at*);(try simp only[ak,SS,sa,az]at*))
 all_goals first|exact hp|(show(_:List DV)=_;refine ai ?_;unfold jbOk;simp[*];done)|done):p:=h
theorem S9 {p:Prop}(h:p:=by
 first|trivial|(refine⟨by assumption,by omega,by first|omega|exact Int.le_trans (vq (by assumption)) h1⟩)|(rw[gO (by assumption)])|exact congrArg (fun x=>[DV.one (L.v (Value.int IntKind.i64 x))]) (dX (a:=[a0]) (b:=[a1]) (by assumption)).symm|trace_state):p:=h
theorem Tc {p:Prop}(h:p:=by
 intro O r F hO hr hF;cbv
 repeat' first|apply And.intro|(apply bu<;>intro hb<;>cbv)
 all_goals(subst hO hr hF;(try simp only[nc]at*);(try simp only[ak,SS,sa,az]at*))
 all_goals first|exact hp|exact rfl|done):p:=h
theorem Td {p:Prop}(h:p:=by
 first|exact cT (O1 (by assumption)).symm|(refine cT ?_;rw[J1 (by assumption)])|(rw[bB]at*;omega)|trace_state):p:=h
theorem eF {p:Prop}(h:p:=by
 refine⟨by omega,by omega,(Rw.eta (by first|assumption|exact Rw.sub (by first|assumption|exact Rw.sub (by assumption) (by omega) rfl) (by omega) rfl) (by omega) (by omega)).trans ?_⟩;rfl):p:=h
end Go.V