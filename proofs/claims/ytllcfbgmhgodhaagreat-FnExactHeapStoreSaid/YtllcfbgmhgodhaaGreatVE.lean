/-
  A condition generator for functions on trees of data, part 5 of 5: values in memory, contracts, soundness.
-/
import Derived.Test.YtllcfbgmhgodhaaGreatVD
set_option linter.all false
namespace Go.V
mutual
def eC :L->Nat
 | .s _ es=>es.length+bD es
 |_=>0
def cI :aP->Nat
 |[]=>0
 |l::ls=>eC l+cI ls
def bD :aa->Nat
 |[]=>0
 |e::es=>cI e+bD es
end
def ah (es:aa):Nat:=es.length+bD es
def aw :List aa->Nat
 |[]=>0
 |r::rs=>ah r+aw rs
def bK (rs:List aa)(left:Int):Int:=if left<aw rs then-1 else left-aw rs
mutual
def eQ :L->Int->L×Int
 | .v (.int kd _),k=>(.v (.int kd k),k+1)
 | .v (.bool _),k=>(.v (.bool (k.tmod 3==0)),k+1)
 | .s sz es,k=>(.s sz (cL es k).1,(cL es k).2)
 |l,k=>(l,k)
def eA :aP->Int->aP×Int
 |[],k=>([],k)
 |l::ls,k=>((eQ l k).1::(eA ls (eQ l k).2).1,(eA ls (eQ l k).2).2)
def cL :aa->Int->aa×Int
 |[],k=>([],k)
 |e::es,k=>((eA e k).1::(cL es (eA e k).2).1,(cL es (eA e k).2).2)
end
def am (es:aa)(k:Int):aa:=(cL es k).1
def ao :List aa->Int->Int
 |[],k=>k
 |r::rs,k=>ao rs (cL r k).2
theorem ea :∀ {a b:aa},bD (a++b)=bD a+bD b
 |[],b=>by simp[bD]
 |e::a,b=>by simp[bD,ea (a:=a),Nat.add_assoc]
theorem js :∀ {a b:List aa},aw (a++b)=aw a+aw b
 |[],b=>by simp[aw]
 |e::a,b=>by simp[aw,js (a:=a),Nat.add_assoc]
theorem dd {r:aa}:aw [r]=ah r:=by simp[aw]
theorem C8 :∀ {ls:aP} {j:Nat} {l:L},ls[j]?=some l->eC l<=cI ls
 |[],j,l,h=>by simp at h
 |x::ls,0,l,h=>by simp at h;subst h;simp[cI]
 |x::ls,j+1,l,h=>by simp at h;have:=C8 h;simp[cI];omega
theorem gy {a:List aa}{left:Int}:bK a left<0↔left<aw a:=by
 unfold bK;split<;>omega
theorem oH {a:List aa}{left:Int}(h:0<=bK a left):bK a left=left-aw a:=by
 unfold bK at*;split at h
 ·omega
 ·rename_i c;rw[if_neg c]
theorem iy {a b:List aa}{left:Int}(h:0<=bK a left):bK b (bK a left)=bK (a++b) left:=by
 rw[oH h];unfold bK;rw[js];split<;>split<;>omega
theorem d5 {a b:List aa}{left:Int}(h:bK a left<0):bK (a++b) left= -1:=by
 rw[gy]at h;unfold bK;rw[js,if_pos (by omega)]
theorem hH {a:List aa}{left:Int}(h:bK a left<0):bK a left= -1:=by
 rw[gy]at h;unfold bK;rw[if_pos (by omega)]
theorem vQ {a:List aa}{left:Int}(h:0<=bK a left):bK a left<=left:=by rw[oH h];omega
theorem ir :∀ {a b:aa} {k:Int},cL (a++b) k=((cL a k).1++(cL b (cL a k).2).1,(cL b (cL a k).2).2)
 |[],b,k=>by simp[cL]
 |e::a,b,k=>by simp[cL,ir (a:=a)]
theorem fq :∀ {a b:List aa} {k:Int},ao b (ao a k)=ao (a++b) k
 |[],b,k=>rfl
 |r::a,b,k=>by simp only[ao,List.cons_append];exact fq
theorem eL :∀ {es:aa} {k:Int},(cL es k).1.length=es.length
 |[],k=>rfl
 |e::es,k=>by simp[cL,eL (es:=es)]
theorem bZ {es:aa}{k:Int}:(am es k).length=es.length:=eL
def dW (es:aa)(k:Int)(n:Nat):aa:=(cL (es.take n) k).1++es.drop n
def dL (es:aa)(k:Int)(n:Nat):Int:=(cL (es.take n) k).2
theorem dh {es:aa}{k:Int}:dW es k 0=es:=by simp[dW,cL]
theorem bJ {es:aa}{k:Int}:dL es k 0=k:=by simp[dL,cL]
theorem vp {es:aa}{k:Int}:dW es k es.length=am es k:=by simp[dW,am]
theorem lD {es:aa}{k:Int}:dL es k es.length=ao [es] k:=by simp[dL,ao]
theorem kS {es:aa}{k:Int}{n:Nat}(hn:n<=es.length):(dW es k n).length=es.length:=by simp[dW,eL];omega
theorem de {es:aa}{k:Int}{n:Nat}(hn:n<=es.length):(dW es k n).getD n []=es.getD n []:=by
 unfold dW;simp only[List.getD_eq_getElem?_getD];have hl:(cL (es.take n) k).1.length=n:=by rw[eL,List.length_take];omega
 rw[List.getElem?_append_right (by omega),hl];simp
theorem vq {es:aa}{k:Int}{n:Nat}(hn:n<es.length):(dW es k n).set n (eA (es.getD n []) (dL es k n)).1=dW es k (n+1):=by
 unfold dW dL;have hl:(cL (es.take n) k).1.length=n:=by rw[eL,List.length_take];omega
 rw[List.set_append_right _ _ (by omega),hl,dF (d:=[]) hn,ir];simp only[Nat.sub_self];rw[List.drop_eq_getElem_cons hn,List.set_cons_zero];simp[cL]
theorem cP {es:aa}{k:Int}{n:Nat}(hn:n<es.length):dL es k (n+1)=(eA (es.getD n []) (dL es k n)).2:=by
 unfold dL;rw[dF (d:=[]) hn,ir];simp[cL]
theorem gd {es:aa}{k:Int}{n:Nat}(hn:n<es.length):(am es k).getD n []=(eA (es.getD n []) (dL es k n)).1:=by
 have h1:es=es.take n++(es.getD n []::es.drop (n+1)):=by
  conv=>lhs;rw[<-List.take_append_drop n es,List.drop_eq_getElem_cons hn]
  simp[List.getD,hn]
 unfold am dL
 conv=>lhs;rw[h1]
 rw[ir];simp only[List.getD_eq_getElem?_getD];have hl:(cL (es.take n) k).1.length=n:=by rw[eL,List.length_take];omega
 rw[List.getElem?_append_right (by omega),hl];simp[cL]
mutual
theorem QN :∀ (l:L) (k:Int),(eQ l k).2=k+(eQ l 0).2
 | .v x,k=>by cases x<;>simp[eQ]
 | .s sz es,k=>by simp only[eQ];exact jE es k
 | .g,k=>by simp[eQ]
 | .m _ _,k=>by simp[eQ]
theorem xT :∀ (ls:aP) (k:Int),(eA ls k).2=k+(eA ls 0).2
 |[],k=>by simp[eA]
 | l::ls,k=>by
   simp only[eA];rw[xT ls (eQ l k).2,QN l k,xT ls (eQ l 0).2];omega
theorem jE :∀ (es:aa) (k:Int),(cL es k).2=k+(cL es 0).2
 |[],k=>by simp[cL]
 | e::es,k=>by
   simp only[cL];rw[jE es (eA e k).2,xT e k,jE es (eA e 0).2];omega
end
mutual
theorem ND :∀ (l:L) (k k':Int),(eQ (eQ l k).1 k').2=(eQ l k').2
 | .v x,k,k'=>by cases x<;>simp[eQ]
 | .s sz es,k,k'=>by simp only[eQ];exact dx es k k'
 | .g,k,k'=>by simp[eQ]
 | .m _ _,k,k'=>by simp[eQ]
theorem GW :∀ (ls:aP) (k k':Int),(eA (eA ls k).1 k').2=(eA ls k').2
 |[],k,k'=>rfl
 |l::ls,k,k'=>by simp only[eA];rw[GW ls _ _,ND l k k']
theorem dx :∀ (es:aa) (k k':Int),(cL (cL es k).1 k').2=(cL es k').2
 |[],k,k'=>rfl
 |e::es,k,k'=>by simp only[cL];rw[dx es _ _,GW e k k']
end
theorem j9 {es:aa}{k k':Int}:ao [am es k] k'=ao [es] k':=dx es k k'
theorem fg {es:aa}{k:Int}{n:Nat}:dL es k n=k+dL es 0 n:=jE _ _
theorem EE :∀ {rs:List aa} {k:Int},ao rs k=k+ao rs 0
 |[],k=>by simp[ao]
 |r::rs,k=>by simp only[ao];rw[EE (k:=(cL r k).2),jE r k,EE (k:=(cL r 0).2)];omega
mutual
theorem QM :∀ (l:L),0<=(eQ l 0).2
 | .v x=>by cases x<;>simp[eQ]
 | .s sz es=>by simp only[eQ];exact Cc es
 | .g=>by simp[eQ]
 | .m _ _=>by simp[eQ]
theorem GV :∀ (ls:aP),0<=(eA ls 0).2
 |[]=>by simp[eA]
 |l::ls=>by simp only[eA];rw[xT];have:=QM l;have:=GV ls;omega
theorem Cc :∀ (es:aa),0<=(cL es 0).2
 |[]=>by simp[cL]
 |e::es=>by simp only[cL];rw[jE];have:=GV e;have:=Cc es;omega
end
theorem I5 :∀ {rs:List aa},0<=ao rs 0
 |[]=>by simp[ao]
 |r::rs=>by simp only[ao];rw[EE];have:=Cc r;have:=I5 (rs:=rs);omega
theorem gV {es:aa}{n:Nat}(hn:n<es.length):dL es 0 n<=dL es 0 (n+1):=by
 rw[cP hn,xT];have:=GV (es.getD n []);omega
theorem dJ {es:aa}:∀ {m n:Nat},n<=es.length->m<=n->dL es 0 m<=dL es 0 n
 |m,0,_,h=>by rw[show m=0 from by omega];exact Int.le_refl _
 | m,n+1,hn,h=>by
   rcases Nat.lt_or_ge m (n+1)with c|c
   ·have:=dJ (es:=es) (m:=m) (n:=n) (by omega) (by omega);have:=gV (es:=es) (n:=n) (by omega);omega
   ·rw[show m=n+1 from by omega];exact Int.le_refl _
def wid :Ty->Nat
 | .sl _=>0
 |_=>1
end Go.V
namespace Go.V
abbrev Rw (fs:List Ty)(es:aa):Prop:=es.length<=maxLen/\∀ e∈es,b9 fs e
abbrev tI :Ty:=.int .i64
abbrev tB :Ty:=.bool
mutual
def zL :Ty->L
 | .int k=>.v (.int k 0)
 | .bool=>.v (.bool false)
 | .str=>.v (.string .empty)
 | .sl fs=>.s fs.length []
def zR :List Ty->aP
 |[]=>[]
 |t::ts=>zL t::zR ts
end
theorem Au :∀ {fs:List Ty} {e:aP},b9 fs e->fJ (zR fs) e=true
 |[],[],_=>rfl
 |[],_::_,h=>h.elim
 |_::_,[],h=>h.elim
 | t::ts,l::ls,h=>by
   obtain⟨h1,h2⟩:=h;simp only[zR,fJ,Bool.and_eq_true];refine⟨?_,Au h2⟩;cases t with
   | int k=>cases l with
     | v x=>cases x with
       |int k' n=>simp only[cz]at h1;simp[zL,jd,h1.1]
       |_=>simp[cz]at h1
     |_=>simp[cz]at h1
   | bool=>cases l with
     | v x=>cases x with
       |bool b=>rfl
       |_=>simp[cz]at h1
     |_=>simp[cz]at h1
   | str=>cases l with
     | v x=>cases x with
       |string b=>rfl
       |_=>simp[cz]at h1
     |_=>simp[cz]at h1
   | sl fs=>cases l with
     |s sz es=>simp only[cz]at h1;simp[zL,jd,h1.1]
     |_=>simp[cz]at h1
theorem Rw.wf {fs:List Ty}{es:aa}(h:Rw fs es):Wf (zR fs) es:=fun e he=>Au (h.2 e he)
theorem Rw.at {fs:List Ty}{es:aa}(h:Rw fs es){n:Nat}(hn:n<es.length):b9 fs (es.getD n []):=by
 refine h.2 _ ?_;rw[List.getD_eq_getElem?_getD,List.getElem?_eq_getElem hn];exact List.getElem_mem _
theorem Rw.eta {fs:List Ty}{es:aa}(h:Rw fs es){i:Int}(h0:0<=i)(h1:i<es.length):es.getD i.toNat []=hY aj es i 0 (zR fs):=(av h.wf h0 h1).symm
theorem xA :∀ {fs:List Ty} {e:aP} {j:Nat} {gs:List Ty},b9 fs e->fs[j]?=some (.sl gs)->∃ es',e[j]?=some (.s gs.length es')/\Rw gs es'
 |[],_,j,gs,_,h=>by simp at h
 |_::_,[],j,gs,h,_=>h.elim
 | t::ts,l::ls,0,gs,h,e=>by
   simp at e;subst e;have h1:=h.1;cases l with
   |s sz es=>simp only[cz]at h1;exact⟨es,by simp[h1.1],h1.2⟩
   |_=>simp[cz]at h1
 | t::ts,l::ls,j+1,gs,h,e=>by
   simp at e;obtain⟨es',h1,h2⟩:=xA h.2 e;exact⟨es',by simpa using h1,h2⟩
theorem Rw.sub {fs:List Ty}{es:aa}(h:Rw fs es){i:Int}(hn:i.toNat<es.length){j:Nat}{gs:List Ty}(hj:fs[j]?=some (.sl gs)):Rw gs (aR es i j):=by
 obtain⟨es',h1,h2⟩:=xA (h.at hn) hj;unfold aR;rw[List.getD_eq_getElem?_getD (l:=es.getD i.toNat []),h1];exact h2
theorem Rw.nil {fs:List Ty}:Rw fs []:=⟨Nat.zero_le _,by simp⟩
theorem Rw.take {fs:List Ty}{es:aa}(h:Rw fs es)(n:Nat):Rw fs (es.take n):=⟨by rw[List.length_take];exact Nat.le_trans (Nat.min_le_right _ _) h.1,fun e he=>h.2 e (List.mem_of_mem_take he)⟩
theorem Rw.drop {fs:List Ty}{es:aa}(h:Rw fs es)(n:Nat):Rw fs (es.drop n):=⟨by rw[List.length_drop];exact Nat.le_trans (Nat.sub_le _ _) h.1,fun e he=>h.2 e (List.mem_of_mem_drop he)⟩
theorem Rw.append {fs:List Ty}{a b:aa}(ha:Rw fs a)(hb:Rw fs b)(hl:a.length+b.length<=maxLen):Rw fs (a++b):=⟨by simpa using hl,fun e he=>by rcases List.mem_append.1 he with q|q;exact ha.2 e q;exact hb.2 e q⟩
theorem Rw.one {fs:List Ty}{e:aP}(h:b9 fs e):Rw fs [e]:=⟨by simp[maxLen],by simpa using h⟩
theorem Rw.set {fs:List Ty}{es:aa}(h:Rw fs es){e:aP}(he:b9 fs e)(n:Nat):Rw fs (es.set n e):=⟨by simpa using h.1,fun x hx=>by rcases List.mem_or_eq_of_mem_set hx with q|q;exact h.2 x q;rw[q];exact he⟩
theorem Rw.replicate {fs:List Ty}{e:aP}(h:b9 fs e){n:Nat}(hn:n<=maxLen):Rw fs (List.replicate n e):=⟨by simpa using hn,fun x hx=>by rw[List.eq_of_mem_replicate hx];exact h⟩
def pZ :Ty->Bool
 | .sl _=>false
 |_=>true
theorem uQ {t:Ty}{l:L}(h:cz t l)(hs:pZ t=true):∃ x,l=.v x:=by
 cases t with
 |sl fs=>cases hs
 | int k=>cases l with
   |v x=>exact⟨x,rfl⟩
   |_=>simp[cz]at h
 | bool=>cases l with
   |v x=>exact⟨x,rfl⟩
   |_=>simp[cz]at h
 | str=>cases l with
   |v x=>exact⟨x,rfl⟩
   |_=>simp[cz]at h
theorem xJ :∀ {fs:List Ty} {e:aP},fs.all pZ=true->b9 fs e->cI e=0
 |[],[],_,_=>rfl
 |[],_::_,_,h=>h.elim
 |_::_,[],_,h=>h.elim
 | t::ts,l::ls,hs,h=>by
   simp only[List.all_cons,Bool.and_eq_true]at hs;obtain⟨x,rfl⟩:=uQ h.1 hs.1;simp only[cI,eC];rw[xJ hs.2 h.2]
theorem AA {fs:List Ty}(hs:fs.all pZ=true):∀ {es:aa},(∀ e∈es,b9 fs e)->bD es=0
 |[],_=>rfl
 |e::es,h=>by simp only[bD];rw[xJ hs (h e (by simp)),AA hs (fun x hx=>h x (by simp[hx]))]
theorem Rw.cnt {fs:List Ty}{es:aa}(h:Rw fs es)(hs:fs.all pZ=true):ah es=es.length:=by unfold ah;rw[AA hs h.2];rfl
theorem Rw.scal {fs:List Ty}{es:aa}(h:Rw fs es)(hs:fs.all pZ=true):dn es:=by
 have key:∀ {fs:List Ty} {e:aP},fs.all pZ=true->b9 fs e->oF e:=by
  intro fs
  induction fs with
  | nil=>intro e _ h;cases e with
    |nil=>trivial
    |cons _ _=>exact h.elim
  | cons t ts ih=>
    intro e hs h;cases e with
    |nil=>exact h.elim
    | cons l ls=>
      simp only[List.all_cons,Bool.and_eq_true]at hs;obtain⟨x,rfl⟩:=uQ h.1 hs.1;exact(ih hs.2 h.2:oF ls)
 have:∀ {es:aa},(∀ e∈es,b9 fs e)->dn es:=by
  intro es
  induction es with
  |nil=>intro _;trivial
  |cons e es ih=>intro h;exact⟨key hs (h e (by simp)),ih (fun x hx=>h x (by simp[hx]))⟩
 exact this h.2
theorem cB {es:aa}{n:Nat}(hn:n<es.length):bD (es.take (n+1))=bD (es.take n)+cI (es.getD n []):=by
 rw[dF (d:=[]) hn,ea];simp[bD]
theorem bH {es:aa}{n:Nat}:bD (es.take n)<=bD es:=by
 conv=>rhs;rw[<-List.take_append_drop n es,ea]
 omega
theorem vV {sz:Nat}{es:aa}{n o:Nat}{new:aP}:zA (.s sz es) [(n,o)] new=es.set n ((es.getD n []).take o++new++(es.getD n []).drop (o+new.length)):=rfl
theorem ou {sz:Nat}{c:aa}{n j:Nat}:qM (.s sz c) [(n,j)]=E7 ((c.getD n []).getD j .g):=by
 unfold qM gT;simp only[bN];cases h:c[n]? with
 |none=>simp[List.getD,h,E7]
 | some rec=>
   simp only[Option.map_some,List.getD,h,Option.getD_some];cases h2:rec[j]? with
   |none=>simp[E7]
   |some l=>cases l<;>simp[E7]
theorem dr {c:aa}{n:Nat}{r:aP}(h:n<c.length):(c.set n r).getD n []=r:=by simp[List.getD,h]
theorem nU {sz:Nat}{c:aa}{n j:Nat}{r:aP}(h:n<c.length):bN (.s sz (c.set n r)) [(n,j)]=some (r,j):=by simp[bN,h]
theorem sR {sz:Nat}{c:aa}{n j:Nat}(h:n<c.length):bN (.s sz c) [(n,j)]=some (c.getD n [],j):=by simp[bN,List.getD,h]
theorem uZ {sz:Nat}{c:aa}{n j:Nat}{r:aP}(h:n<c.length):gT (.s sz (c.set n r)) [(n,j)]=match r[j]? with
 |some (.s sz es)=>some (sz,es)
 |_=>none:=by unfold gT;rw[nU h];rfl
theorem sS {sz:Nat}{c:aa}{n j:Nat}(h:n<c.length):gT (.s sz c) [(n,j)]=match(c.getD n [])[j]? with
 |some (.s sz es)=>some (sz,es)
 |_=>none:=by unfold gT;rw[sR h];rfl
theorem bu {a b:List aa}{k:Int}(hk:0<=k):ao a k<=ao (a++b) k/\0<=ao a k:=by
 rw[<-fq,EE (rs:=b),EE (rs:=a)];have:=I5 (rs:=a);have:=I5 (rs:=b);omega
theorem IV {l:L}{k:Int}{z:L}(h:jd z l=true):jd z (eQ l k).1=true:=by
 cases l with
 |v x=>cases x<;>cases z<;>simp_all [eQ,jd]<;>(rename_i y;cases y<;>simp_all [jd])
 |s sz es=>cases z<;>simp_all [eQ,jd]
 |g=>exact h
 |m _ _=>exact h
theorem Df :∀ {z e:aP} {k:Int},fJ z e=true->fJ z (eA e k).1=true
 |[],[],_,_=>rfl
 |[],_::_,_,h=>by simp[fJ]at h
 |_::_,[],_,h=>by simp[fJ]at h
 | z::zs,l::ls,k,h=>by
   simp only[fJ,Bool.and_eq_true,eA]at h ⊢;exact⟨IV h.1,Df h.2⟩
theorem Az :∀ {z:aP} {es:aa} {k:Int},Wf z es->Wf z (cL es k).1
 |z,[],_,_=>fun e he=>by cases he
 | z,e::es,k,h=>by
   intro x hx;simp only[cL,List.mem_cons]at hx;rcases hx with rfl|hx
   ·exact Df (h e (by simp))
   ·exact Az (fun y hy=>h y (by simp[hy])) x hx
theorem cN {fs:List Ty}{es:aa}{k:Int}(h:Rw fs es):Wf (zR fs) (am es k):=Az h.wf
end Go.V
namespace Go.V
mutual
def JU :Ty->Nat
 | .sl fs=>BB fs
 |_=>1
def BB :List Ty->Nat
 |[]=>0
 |t::ts=>JU t+BB ts
end
mutual
theorem Nt :∀ (t:Ty) (l:L),cz t l->(eQ l 0).2<=(JU t*(eC l+1):Nat)
 | .int k,.v x,h=>by cases x<;>simp[eQ,eC,JU]
 | .int k,.s _ _,h=>by simp[cz]at h
 | .int k,.g,h=>by simp[cz]at h
 | .bool,.v x,h=>by cases x<;>simp[eQ,eC,JU]
 | .bool,.s _ _,h=>by simp[cz]at h
 | .bool,.g,h=>by simp[cz]at h
 | .str,.v x,h=>by cases x<;>simp[eQ,eC,JU]
 | .str,.s _ _,h=>by simp[cz]at h
 | .str,.g,h=>by simp[cz]at h
 | .sl fs,.v x,h=>by simp[cz]at h
 | .sl fs,.g,h=>by simp[cz]at h
 | .sl fs,.s sz es,h=>by
   have h1:=yY fs es (by simp only[cz]at h;exact h.2.2);simp only[eQ,eC,JU];have:BB fs*(es.length+bD es)<=BB fs*(es.length+bD es+1):=Nat.mul_le_mul_left _ (by omega);omega
theorem GL :∀ (ts:List Ty) (ls:aP),b9 ts ls->(eA ls 0).2<=(BB ts*(cI ls+1):Nat)
 |[],[],_=>by simp only[eA];exact Int.natCast_nonneg _
 |[],_::_,h=>h.elim
 |_::_,[],h=>h.elim
 | t::ts,l::ls,h=>by
   have h1:=Nt t l h.1;have h2:=GL ts ls h.2;simp only[eA];rw[xT];have e1:JU t*(eC l+1)<=JU t*(cI (l::ls)+1):=Nat.mul_le_mul_left _ (by simp[cI]);have e2:BB ts*(cI ls+1)<=BB ts*(cI (l::ls)+1):=Nat.mul_le_mul_left _ (by simp[cI]);have e3:BB (t::ts)*(cI (l::ls)+1)=JU t*(cI (l::ls)+1)+BB ts*(cI (l::ls)+1):=by simp only[BB];rw[Nat.add_mul]
   omega
theorem yY :∀ (ts:List Ty) (es:aa),(∀ e∈es,b9 ts e)->(cL es 0).2<=(BB ts*(es.length+bD es):Nat)
 |ts,[],_=>by simp only[cL];exact Int.natCast_nonneg _
 | ts,e::es,h=>by
   have h1:=GL ts e (h e (by simp));have h2:=yY ts es (fun x hx=>h x (by simp[hx]));simp only[cL];rw[jE];have e3:BB ts*((e::es).length+bD (e::es))=BB ts*(cI e+1)+BB ts*(es.length+bD es):=by
    rw[<-Nat.mul_add];congr 1;simp[bD];omega
   omega
end
theorem Rw.marks {fs:List Ty}{es:aa}(h:Rw fs es)(hw:BB fs<=64):(cL es 0).2<=(64*ah es:Nat):=by
 have:=yY fs es h.2;have h2:BB fs*(es.length+bD es)<=64*(es.length+bD es):=Nat.mul_le_mul_right _ hw;unfold ah;omega
theorem AM :∀ {rs:List aa} {k:Int},(∀ r∈rs,(cL r 0).2<=(64*ah r:Nat))->ao rs k<=k+(64*aw rs:Nat)
 |[],k,_=>by simp[ao,aw]
 | r::rs,k,h=>by
   simp only[ao,aw];have h1:=h r (by simp);have h2:=AM (rs:=rs) (k:=(cL r k).2) (fun x hx=>h x (by simp[hx]));rw[jE]at h2;rw[jE r k];have:64*(ah r+aw rs)=64*ah r+64*aw rs:=Nat.mul_add _ _ _;omega
theorem Gq {rs:List aa}{k:Int}(h:∀ r∈rs,(cL r 0).2<=(64*ah r:Nat))(hk:0<=k/\k<=1000)(hc:aw rs<=1099511627776):ao rs k<=1152921504606846976:=by
 have:=AM (k:=k) h;have:64*aw rs<=64*1099511627776:=Nat.mul_le_mul_left _ hc;omega
theorem yS {rs:List aa}{k:Int}(hk:0<=k):¬ ao rs k<0:=by
 rw[EE];have:=I5 (rs:=rs);omega
theorem CB {rs:List aa}(h:aw rs<=1048576):¬ bK rs 1048576<0:=by rw[gy];omega
theorem Em {es:aa}{k:Int}:xj (am es k) 0 es.length=am es k:=by
 rw[<-bZ (es:=es) (k:=k),sa]
abbrev eD (a0 a1 a2:aa)(a3:Int)(a4 a5 a6 a7 a8 a9 aA aB:aa)(aC:Int)(aD:aa)(aE aF aG aH:Int)(aI:Bool)(aJ aK:Int)(aL:aa)(aM aN:Int):aP:=[.s 1 a0,.s 1 a1,.s 2 a2,.i a3,.s 1 a4,.s 2 a5,.s 3 a6,.s 3 a7,.s 4 a8,.s 1 a9,.s 1 aA,.s 1 aB,.i aC,.s 3 aD,.i aE,.i aF,.i aG,.i aH,.v (.bool aI),.i aJ,.i aK,.s 1 aL,.i aM,.i aN]
abbrev Bz (a0 a1 a2:aa)(a3:Int)(a4 a5 a6 a7 a8 a9 aA aB:aa)(aC:Int)(aD:aa)(aE aF aG aH:Int)(aI:Bool)(aJ aK:Int)(aL:aa)(aM aN:Int):List H:=[.own (.s 1 a0),.own (.s 1 a1),.own (.s 2 a2),.own (.i a3),.own (.s 1 a4),.own (.s 2 a5),.own (.s 3 a6),.own (.s 3 a7),.own (.s 4 a8),.own (.s 1 a9),.own (.s 1 aA),.own (.s 1 aB),.own (.i aC),.own (.s 3 aD),.own (.i aE),.own (.i aF),.own (.i aG),.own (.i aH),.own (.v (.bool aI)),.own (.i aJ),.own (.i aK),.own (.s 1 aL),.own (.i aM),.own (.i aN)]
abbrev aQ :=Unit
abbrev F0 :aQ:=()
abbrev nB {P:Program}:TB P:={Φ:=Unit,F0:=()}
theorem cV {es:aa}{n:Nat}(h:ah es<=n):es.length<=n:=Nat.le_trans (Nat.le_add_right _ _) h
theorem LM {p:Prop}(h:p:=by
 try rw[dj (n:=es.length) g0 hlt (by omega)]
 try have hlt':i.toNat<es.length:=by omega
 try have hct:=cB (es:=es) (n:=i.toNat) (by omega);rw[he]at hct;simp only[cI,eC,Nat.add_zero,Nat.zero_add]at hct
 try have hks:=cP (es:=es) (k:=k) hlt';rw[he]at hks;simp only[eA,eQ]at hks
 try have hms:=vq (es:=es) (k:=k) hlt';rw[he]at hms;simp only[eA,eQ]at hms
 try have hcl:i.toNat<cur.length:=by rw[hc,kS g1];exact hlt'
 have hk1:=fg (es:=es) (k:=k) (n:=i.toNat)
 have hk2:=fg (es:=es) (k:=k) (n:=i.toNat+1)
 have hk3:=lD (es:=es) (k:=k)
 have hk4:=fg (es:=es) (k:=k) (n:=es.length)
 have hk5:=dJ (es:=es) (m:=0) (n:=i.toNat) g1 (Nat.zero_le _)
 have hk6:=dJ (es:=es) (m:=i.toNat) (n:=es.length) (Nat.le_refl _) g1
 try have hk7:=dJ (es:=es) (m:=i.toNat+1) (n:=es.length) (Nat.le_refl _) hlt'
 have hle1:=bH (es:=es) (n:=i.toNat+1)
 have hcE:ah es=es.length+bD es:=rfl
 rw[bJ]at hk5
 try have hk8:=gV (es:=es) (n:=i.toNat) hlt'
 have ha1:bF .add .i64 k' 1=k'+1:=bc (by omega)
 have ha2:bF .add .i64 (k'+1) 1=k'+1+1:=bc (by omega)
 have ha3:bF .add .i64 (k'+1+1) 1=k'+1+1+1:=bc (by omega)
 have ha4:bF .add .i64 (k'+1+1+1) 1=k'+1+1+1+1:=bc (by omega)
 try simp only[ha1,ha2,ha3,ha4]
 try simp only[az]
 try simp only[vV,hcg,List.take,List.drop,List.length_cons,List.length_nil,List.nil_append,List.cons_append,List.append_nil,Nat.zero_add,Nat.reduceAdd,dr hcl,List.set_set,List.append_assoc]
 try simp only[ou,hcg,dr hcl,List.getD_cons_zero,List.getD_cons_succ,E7]
 try simp only[sR hcl,nU hcl,sS hcl,uZ hcl,hcg,List.getElem?_cons_zero,List.getElem?_cons_succ]
 first|exact⟨g0,hlt⟩|(refine⟨_,_,rfl,?_⟩;simp;done)|omega|(rw[hk',show i.toNat=es.length from by omega,hk3];done)|(rw[hc,show i.toNat=es.length from by omega,vp];rfl)|(rw[show(i+1).toNat=i.toNat+1 from by omega,hks,hk'];done)|(rw[show(i+1).toNat=i.toNat+1 from by omega, <-hms,hc,hk'];done)|trace_state):p:=h
theorem LN {p:Prop}(h:p:=by
 have hk1:=fg (es:=es) (k:=k) (n:=i.toNat)
 have hk2:=fg (es:=es) (k:=k) (n:=i.toNat+1)
 have hk3:=lD (es:=es) (k:=k)
 have hk4:=fg (es:=es) (k:=k) (n:=es.length)
 have hk5:=dJ (es:=es) (m:=0) (n:=i.toNat) g1 (Nat.zero_le _)
 have hk6:=dJ (es:=es) (m:=i.toNat) (n:=es.length) (Nat.le_refl _) g1
 try have hk7:=dJ (es:=es) (m:=i.toNat+1) (n:=es.length) (Nat.le_refl _) hlt'
 have hle1:=bH (es:=es) (n:=i.toNat+1)
 have hcE:ah es=es.length+bD es:=rfl
 rw[bJ]at hk5
 try have hk8:=gV (es:=es) (n:=i.toNat) hlt'
 try rw[<-hk']at hem hks
 have ha1:bF .add .i64 k' 1=k'+1:=bc (by omega)
 have ha2:bF .add .i64 (k'+1) 1=k'+1+1:=bc (by omega)
 have ha3:bF .add .i64 (k'+1+1) 1=k'+1+1+1:=bc (by omega)
 have ha4:bF .add .i64 (k'+1+1+1) 1=k'+1+1+1+1:=bc (by omega)
 try simp only[ha1,ha2,ha3,ha4]at*
 first|exact iR hwm g0 hltm|omega|(exfalso;revert hb;simp only[hem,cD,bF];simp;done)|(rw[hk',show i.toNat=es.length from by omega,hk3,hkk];done)|(rw[show(i+1).toNat=i.toNat+1 from by omega,hks];done)|(rw[show(i+1).toNat=i.toNat+1 from by omega,hks,hem];simp only[ao,dx];done)|(rw[show(i+1).toNat=i.toNat+1 from by omega,hks,hem.2];simp only[ao,dx];done)|(refine⟨_,by first|exact hem|exact hem.2|exact hem.1|rfl,?_,?_,?_⟩<;>(try simp only[ao,dx,ah])<;>omega)|(refine⟨_,by first|exact hem|exact hem.2|exact hem.1|rfl,?_,?_,?_⟩<;>(try rw[hem])<;>(try rw[hem.2])<;>(try simp only[ao,dx,ah])<;>omega)|(exfalso;simp only[ao,dx]at hb;omega)|(exfalso;(first|rw[hem]at hb|rw[hem.2]at hb);simp only[ao,dx]at hb;omega)|trivial|trace_state):p:=h
theorem JZ {p:Prop}(h:p:=by
 try rw[dj (n:=es.length) g0 hlt (by omega)]
 try have hct:=cB (es:=es) (n:=i.toNat) (by omega);rw[he]at hct;simp only[cI,eC,Nat.add_zero,Nat.zero_add]at hct
 have hle1:=bH (es:=es) (n:=i.toNat+1)
 have hcE:ah es=es.length+bD es:=rfl
 first|exact iR hwf g0 hlt|exact⟨g0,hlt⟩|(rw[hm];exact eK (by rw[gu g1];omega) (by rw[jv (by omega)];exact Nat.le_refl _))|omega|(rw[show(i+1).toNat=i.toNat+1 from by omega, <-xE (by omega), <-hm,lO (by rw[hm,jv (by omega)];rfl),he])|(rw[hm,gu g1];exact⟨trivial,rfl⟩)|(rw[hm,show i.toNat=es.length from by omega,xD])|trace_state):p:=h
theorem Vi {p:Prop}(h:p:=by
 try have hct:=cB (es:=es) (n:=i.toNat) (by omega);rw[he]at hct;simp only[cI,eC,Nat.add_zero,Nat.zero_add]at hct
 try have hks:=cP (es:=es) (k:=k) hlt';rw[he]at hks;simp only[eA,eQ]at hks
 try have hms:=vq (es:=es) (k:=k) hlt';rw[he]at hms;simp only[eA,eQ]at hms
 try have hcl:i.toNat<cur.length:=by rw[hc,kS g1];exact hlt'
 have hk1:=fg (es:=es) (k:=k) (n:=i.toNat)
 have hk2:=fg (es:=es) (k:=k) (n:=i.toNat+1)
 have hk3:=lD (es:=es) (k:=k)
 have hk4:=fg (es:=es) (k:=k) (n:=es.length)
 have hk5:=dJ (es:=es) (m:=0) (n:=i.toNat) g1 (Nat.zero_le _)
 have hk6:=dJ (es:=es) (m:=i.toNat) (n:=es.length) (Nat.le_refl _) g1
 try have hk7:=dJ (es:=es) (m:=i.toNat+1) (n:=es.length) (Nat.le_refl _) hlt'
 have hle1:=bH (es:=es) (n:=i.toNat+1)
 have hcE:ah es=es.length+bD es:=rfl
 rw[bJ]at hk5
 try have hk8:=gV (es:=es) (n:=i.toNat) hlt'
 have ha1:bF .add .i64 k' 1=k'+1:=bc (by omega)
 have ha2:bF .add .i64 (k'+1) 1=k'+1+1:=bc (by omega)
 have ha3:bF .add .i64 (k'+1+1) 1=k'+1+1+1:=bc (by omega)
 have ha4:bF .add .i64 (k'+1+1+1) 1=k'+1+1+1+1:=bc (by omega)
 try simp only[ha1,ha2,ha3,ha4]
 try simp only[az]
 try simp only[vV,hcg,List.take,List.drop,List.length_cons,List.length_nil,List.nil_append,List.cons_append,List.append_nil,Nat.zero_add,Nat.reduceAdd,dr hcl,List.set_set,List.append_assoc]
 try simp only[ou,hcg,dr hcl,List.getD_cons_zero,List.getD_cons_succ,E7]
 try simp only[sR hcl,nU hcl,sS hcl,uZ hcl,hcg,List.getElem?_cons_zero,List.getElem?_cons_succ]
 first|exact⟨g0,hlt⟩|(refine⟨_,_,rfl,by simp,?_⟩;show List.take _ (List.drop _ _)=[L.s _ (qM _ _)];simp only[tw,ou,hcg,dr hcl,List.getD_cons_zero,List.getD_cons_succ,Nat.add_zero,E7];rfl)|exact⟨trivial,_,rfl,rfl⟩|exact⟨_,rfl⟩|omega|(rw[hk',show i.toNat=es.length from by omega,hk3];done)|(rw[hc,show i.toNat=es.length from by omega,vp];rfl)|(rw[show(i+1).toNat=i.toNat+1 from by omega,hks,hk'];rfl)|(rw[show(i+1).toNat=i.toNat+1 from by omega, <-hms,hc,hk'];rfl)|(refine⟨hr0,?_,?_,?_⟩<;>(try simp only[ah,ao])<;>first|omega|(rw[hk'];omega))|trace_state):p:=h
theorem sK {p:Prop}(h:p:=by
 intro O r F hO hr hF;cbv
 repeat' first|apply And.intro|(apply be<;>intro hb<;>cbv)
 all_goals(subst hO hr hF;(try simp only[nc]at*);(try simp only[aj,SS,sa,az]at*))
 all_goals first|trivial|trace_state):p:=h
theorem Vj {p:Prop}(h:p:=by
 have hk1:=fg (es:=es) (k:=k) (n:=i.toNat)
 have hk2:=fg (es:=es) (k:=k) (n:=i.toNat+1)
 have hk3:=lD (es:=es) (k:=k)
 have hk4:=fg (es:=es) (k:=k) (n:=es.length)
 have hk5:=dJ (es:=es) (m:=0) (n:=i.toNat) g1 (Nat.zero_le _)
 have hk6:=dJ (es:=es) (m:=i.toNat) (n:=es.length) (Nat.le_refl _) g1
 try have hk7:=dJ (es:=es) (m:=i.toNat+1) (n:=es.length) (Nat.le_refl _) hlt'
 have hle1:=bH (es:=es) (n:=i.toNat+1)
 have hcE:ah es=es.length+bD es:=rfl
 rw[bJ]at hk5
 try have hk8:=gV (es:=es) (n:=i.toNat) hlt'
 try rw[<-hk']at hem hks
 have ha1:bF .add .i64 k' 1=k'+1:=bc (by omega)
 have ha2:bF .add .i64 (k'+1) 1=k'+1+1:=bc (by omega)
 have ha3:bF .add .i64 (k'+1+1) 1=k'+1+1+1:=bc (by omega)
 have ha4:bF .add .i64 (k'+1+1+1) 1=k'+1+1+1+1:=bc (by omega)
 try simp only[ha1,ha2,ha3,ha4]at*
 first|exact iR hwm g0 hltm|omega|(exfalso;revert hb;simp only[hem,cD,bF];simp;done)|(rw[hk',show i.toNat=es.length from by omega,hk3,hkk];done)|(rw[show(i+1).toNat=i.toNat+1 from by omega,hks];done)|(rw[show(i+1).toNat=i.toNat+1 from by omega,hks,hem];simp only[ao,dx];done)|(rw[show(i+1).toNat=i.toNat+1 from by omega,hks,hem.2];simp only[ao,dx];done)|(refine⟨_,by first|exact hem|exact hem.2|exact hem.1|rfl,hr0,?_,?_,?_⟩<;>(try simp only[ao,dx,ah])<;>omega)|(refine⟨_,by first|exact hem|exact hem.2|exact hem.1|rfl,hr0,?_,?_,?_⟩<;>(try rw[hem])<;>(try rw[hem.2])<;>(try simp only[ao,dx,ah])<;>omega)|(exfalso;simp only[ao,dx]at hb;omega)|(exfalso;(first|rw[hem]at hb|rw[hem.2]at hb);simp only[ao,dx]at hb;omega)|trivial|trace_state):p:=h
theorem VO {p:Prop}(h:p:=by
 intro O r F hO hr hF;cbv
 repeat' first|apply And.intro|(apply be<;>intro hb<;>cbv)
 all_goals(subst hO hr hF;(try simp only[nc]at*);(try simp only[aj,SS,sa,az]at*))
 all_goals(try have g:0<=spI a6 p:=(by omega))
 all_goals(try have b:=Ly g)
 all_goals(try have hk:hpI a0 a1 a2 a3 a4 a5 a6 a7 a8 a9 aA aB aC aD aE aF aG aH aI aJ aK aL aM aN=true:=(by assumption))
 all_goals(try have pg:=Rc hk g b)
 all_goals(try have fl:=FR hk)
 all_goals(try have kk:=(mf hk).k)
 all_goals(try have cc:=FE (cs:=a0) (us:=a1) (es:=a2) (c:=a3) (rs:=a4) (by assumption))
 all_goals(try have c3:=cc.1)
 all_goals first
  | (show(_:List DV)=_
     first
      |(have q:=TQ (k:=hpI a0 a1 a2 a3 a4 a5 a6 a7 a8 a9 aA aB aC aD aE aF aG aH aI aJ aK aL aM aN) (c:=a3) (sp:=a6) (m:=aI) (x:=aJ) (y:=aK) (p:=p) (by omega);rw[q];exact rfl)
      |(have q:=TR (k:=hpI a0 a1 a2 a3 a4 a5 a6 a7 a8 a9 aA aB aC aD aE aF aG aH aI aJ aK aL aM aN) (c:=a3) (sp:=a6) (m:=aI) (x:=aJ) (y:=aK) (p:=p) (by assumption);rw[q];exact rfl)
      |(have q:=Pz (k:=hpI a0 a1 a2 a3 a4 a5 a6 a7 a8 a9 aA aB aC aD aE aF aG aH aI aJ aK aL aM aN) (c:=a3) (sp:=a6) (m:=aI) (x:=aJ) (y:=aK) (p:=p) (by assumption);rw[q];exact rfl)
      |(have q:=Pz (k:=hpI a0 a1 a2 a3 a4 a5 a6 a7 a8 a9 aA aB aC aD aE aF aG aH aI aJ aK aL aM aN) (c:=a3) (sp:=a6) (m:=aI) (x:=aJ) (y:=aK) (p:=p) (FD kk (by assumption));rw[q];exact rfl)
      |(have q:=TS (k:=hpI a0 a1 a2 a3 a4 a5 a6 a7 a8 a9 aA aB aC aD aE aF aG aH aI aJ aK aL aM aN) (c:=a3) (sp:=a6) (m:=aI) (x:=aJ) (y:=aK) (p:=p) (by assumption);rw[q];exact rfl)
      |(have q:=TT (k:=hpI a0 a1 a2 a3 a4 a5 a6 a7 a8 a9 aA aB aC aD aE aF aG aH aI aJ aK aL aM aN) (c:=a3) (sp:=a6) (m:=aI) (x:=aJ) (y:=aK) (p:=p) (by assumption);rw[q];exact rfl)
      |(have q:=TV (k:=hpI a0 a1 a2 a3 a4 a5 a6 a7 a8 a9 aA aB aC aD aE aF aG aH aI aJ aK aL aM aN) (c:=a3) (sp:=a6) (m:=aI) (x:=aJ) (y:=aK) (p:=p) g hk (by assumption) (by assumption) (by assumption);rw[q];exact rfl)
      |done)
  |omega
  |exact hp
  |exact hp.hp
  |exact⟨hp.r6,by omega⟩
  |exact⟨hp.r0,hp.r1,hp.r2,hp.r4⟩
  |exact⟨hp,kk,by assumption,by omega,g,b,pg.1,pg.2⟩
  |exact Ku hp (by omega) (mg kk).1
  |exact eR
  |(show aW _ _=true;kernel_rfl)
  |exact⟨True.intro,True.intro⟩
  |exact True.intro
  |done):p:=h
theorem LO {p:Prop}(h:p:=by
 try rw[dj (n:=es.length) g0 hlt (by omega)]
 try have hct:=cB (es:=es) (n:=i.toNat) (by omega);rw[he]at hct;simp only[cI,eC,Nat.add_zero,Nat.zero_add]at hct
 have hle1:=bH (es:=es) (n:=i.toNat+1)
 have hcE:ah es=es.length+bD es:=rfl
 first|omega|exact iR hwf g0 hlt|trivial|trace_state):p:=h
theorem LP {p:Prop}(h:p:=by
 intro O r F hO hr hF;cbv
 repeat' first|apply And.intro|(apply be<;>intro hb<;>cbv)
 all_goals(subst hO hr hF;(try simp only[nc]at*);(try simp only[aj,SS,sa,az]at*))
 all_goals first|exact hs|trivial|exact⟨trivial,trivial⟩|exact⟨hw,hl⟩|omega|(show aW _ _=true;kernel_rfl)|(simp only[List.length_nil];omega)|exact rfl|done):p:=h
theorem J2 {p:Prop}(h:p:=by
 intro O r F hO hr hF;cbv
 repeat' first|apply And.intro|(apply be<;>intro hb<;>cbv)
 all_goals(subst hO hr hF;(try simp only[nc]at*);(try simp only[aj,SS,sa,az]at*))
 all_goals(try simp only[hs]at*)
 all_goals first|trivial|(rw[hn,if_pos (by omega)])|(rw[hn,if_neg (by omega)])):p:=h
theorem Sn {p:Prop}(h:p:=by
 (subst hO hr hF;(try simp only[nc]at*);(try simp only[aj,SS,sa,az]at*))
 (try simp only[Em]at*)
 first|exact True.intro|(show aW _ _=true;kernel_rfl)|exact⟨True.intro,True.intro⟩|exact⟨ha0,ha1,ha2,ha4,ha5,ha6,ha7,ha8,ha9,ha10,ha11,ha13,ha21,by omega,by omega⟩|exact⟨ha0,ha1,ha2,ha4,ha5,ha6,ha7,ha8,ha9,ha10,ha11,ha13,ha21,hs⟩|exact⟨ha0,ha1,ha2,ha4,ha5,ha6,ha7,ha8,ha9,ha10,ha11,ha13,ha21⟩|exact⟨trivial,ha0,ha1,ha2,ha4,ha5,ha6,ha7,ha8,ha9,ha10,ha11,ha13,ha21,by omega⟩|exact⟨rfl,ha0,ha1,ha2,ha4,ha5,ha6,ha7,ha8,ha9,ha10,ha11,ha13,ha21,by omega⟩|exact⟨ha0,ha1,ha2,ha4,ha5,ha6,ha7,ha8,ha9,ha10,ha11,ha13,ha21,by omega,by omega,hAk⟩|exact⟨trivial,hR0,hR1,hR2,hR3,hR4,hR5,hR6,hR7,hR8,hR9,hR10,hR11,hR12,hRc⟩|exact⟨rfl,hR0,hR1,hR2,hR3,hR4,hR5,hR6,hR7,hR8,hR9,hR10,hR11,hR12,hRc⟩|exact⟨hR0,hR1,hR2,hR3,hR4,hR5,hR6,hR7,hR8,hR9,hR10,hR11,hR12,hRc,by omega,hRk⟩|exact⟨⟨_,rfl,hR0,hRm.1⟩,⟨_,hE1,hR1,hRm.2.1⟩,⟨_,hE2,hR2,hRm.2.2.1⟩,⟨_,hE3,hR3,hRm.2.2.2.1⟩,⟨_,hE4,hR4,hRm.2.2.2.2.1⟩,⟨_,hE5,hR5,hRm.2.2.2.2.2.1⟩,⟨_,hE6,hR6,hRm.2.2.2.2.2.2.1⟩,⟨_,hE7,hR7,hRm.2.2.2.2.2.2.2.1⟩,⟨_,hE8,hR8,hRm.2.2.2.2.2.2.2.2.1⟩,⟨_,hE9,hR9,hRm.2.2.2.2.2.2.2.2.2.1⟩,⟨_,hE10,hR10,hRm.2.2.2.2.2.2.2.2.2.2.1⟩,⟨_,hE11,hR11,hRm.2.2.2.2.2.2.2.2.2.2.2.1⟩,⟨_,hE12,hR12,hRm.2.2.2.2.2.2.2.2.2.2.2.2⟩,by omega,le_of_eq_of_le hM hRk⟩|exact bZ|exact absurd (by assumption) (yS (by omega))|exact absurd hM (by assumption)|exact absurd (by assumption) (by rw[hM];exact yS (by omega))|exact hC|exact rfl|exact absurd rfl (by assumption)|(exfalso;omega)|trivial|trace_state):p:=h
theorem Sv {p:Prop}(h:p:=by
 (subst hO hr hF;(try simp only[nc]at*);(try simp only[aj,SS,sa,az]at*))
 try rw[cv (by omega) (by omega)]
 try(have hol:out.length=i.toNat:=(by rw[i2,List.length_take];omega))
 try(have hok:ou2.length=k.toNat:=(by rw[k2,List.length_take];omega))
 try(have hsc:=jP wb i0 (by assumption);have hsl:=ay (es:=aR b i 0))
 try(have hsd:=jP wx k0 (by assumption);have hsm:=ay (es:=aR x k 0))
 first
  | (show(_:List DV)=_
     first
      |exact rfl
      |(rw[i2,fa (by omega)];rfl)
      |(rw[i2,k2,fa (by omega),fa (by omega)];rfl)
      |done)
  |omega
  |exact eR
  |(show aW _ _=true;kernel_rfl)
  |exact Rw.scal (fs:=[tI]) (by(first|assumption|exact Rw.sub (by first|assumption|exact Rw.sub (by assumption) (by omega) rfl) (by omega) rfl)) rfl
  |exact Rw.scal (fs:=[tI,tI]) (by(first|assumption|exact Rw.sub (by first|assumption|exact Rw.sub (by assumption) (by omega) rfl) (by omega) rfl)) rfl
  |exact⟨by(first|assumption|exact Rw.sub (by first|assumption|exact Rw.sub (by assumption) (by omega) rfl) (by omega) rfl),by omega⟩
  |(simp only[List.length_nil,List.length_cons];omega)
  |(rw[i2,List.nil_append];exact(fb wb i0 (by assumption)).symm)
  |(rw[k2];exact(fb wx k0 (by assumption)).symm)
  |(rw[k2,List.nil_append];exact(fb wx k0 (by assumption)).symm)
  |exact⟨trivial,trivial⟩
  |trivial
  |exact rfl
  |done):p:=h
theorem Oj {p:Prop}(h:p:=by
 try have hct:=cB (es:=es) (n:=i.toNat) (by omega);rw[he]at hct;simp only[cI,eC,Nat.add_zero,Nat.zero_add]at hct
 have hle1:=bH (es:=es) (n:=i.toNat+1)
 have hcE:ah es=es.length+bD es:=rfl
 first|exact iR hwf g0 hlt|exact⟨g0,hlt⟩|(rw[hm];exact eK (by rw[gu g1];omega) (by rw[jv (by omega)];exact Nat.le_refl _))|omega|(rw[show(i+1).toNat=i.toNat+1 from by omega, <-xE (by omega), <-hm,lO (by rw[hm,jv (by omega)];rfl),he])|(rw[hm,gu g1];exact⟨trivial,rfl⟩)|(rw[hm,show i.toNat=es.length from by omega,xD])|trivial|(refine⟨hr0,?_⟩;simp only[aw,ah,Nat.add_zero];omega)|trace_state):p:=h
theorem Sw {p:Prop}(h:p:=by
 (subst hO hr hF;(try simp only[nc]at*);(try simp only[aj,SS,sa,az]at*))
 try rw[cv (by omega) (by omega)]
 try(have hol:out.length=i.toNat:=(by rw[i2,List.length_take];omega))
 try(have hsc:=jP hc i0 (by assumption);have hsl:=ay (es:=aR ls i 0))
 first
  | (show(_:List DV)=_
     first
      |exact rfl
      |(rw[i2,fa (by omega)];rfl)
      |(rw[i2,k2,fa (by omega),fa (by omega)];rfl)
      |done)
  |omega
  |exact eR
  |(show aW _ _=true;kernel_rfl)
  |exact Rw.scal (fs:=[tI]) (by(first|assumption|exact Rw.sub (by first|assumption|exact Rw.sub (by assumption) (by omega) rfl) (by omega) rfl)) rfl
  |exact Rw.scal (fs:=[tI,tI]) (by(first|assumption|exact Rw.sub (by first|assumption|exact Rw.sub (by assumption) (by omega) rfl) (by omega) rfl)) rfl
  |exact⟨by(first|assumption|exact Rw.sub (by first|assumption|exact Rw.sub (by assumption) (by omega) rfl) (by omega) rfl),by omega⟩
  |(simp only[List.length_nil,List.length_cons];omega)
  |(rw[i2];exact(fb hc i0 (by assumption)).symm)
  |(rw[i2,List.nil_append];exact(fb hc i0 (by assumption)).symm)
  |exact⟨trivial,trivial⟩
  |trivial
  |exact rfl
  |done):p:=h
theorem JX {p:Prop}(h:p:=by
 intro O r os F hO hr hos hF;cbv
 repeat' first|apply And.intro|(apply be<;>intro hb<;>cbv)
 all_goals((try subst hos);subst hO hr hF;(try simp only[nc]at*);(try simp only[aj,SS,sa,az]at*))
 all_goals(try simp only[fq,List.cons_append,List.nil_append,bZ]at*)
 all_goals first|trivial|(refine⟨by assumption,?_,?_,?_⟩<;>(try simp only[fq,List.cons_append,List.nil_append,aw,Nat.add_zero])<;>omega)|trace_state):p:=h
theorem JY {p:Prop}(h:p:=by
 intro O r F hO hr hF;cbv
 repeat' first|apply And.intro|(apply be<;>intro hb<;>cbv)
 all_goals(subst hO hr hF;(try simp only[nc]at*);(try simp only[aj,SS,sa,az]at*))
 all_goals(try simp only[fq,List.cons_append,List.nil_append]at*)
 all_goals first|trivial|(exfalso;omega)|(obtain⟨x,y1,y2,y3⟩:=e0;exact⟨x,y1,y2,y3,by omega,by omega⟩)|(refine⟨by assumption,by omega,by omega⟩)|trace_state):p:=h
theorem SA {p:Prop}(h:p:=by
 intro O r F hO hr hF;cbv
 repeat' first|apply And.intro|(apply be<;>intro hb<;>cbv)
 all_goals(subst hO hr hF;(try simp only[nc]at*);(try simp only[aj,SS,sa,az]at*))
 all_goals(try have b:=Uu (p:=p) (n:=n) (s:=s) (z:=z) (by assumption) (by assumption))
 all_goals(try have T:=Ur b)
 all_goals(try have p0:=T.p0)
 all_goals(try have n1:=T.n1)
 all_goals(try have m0:=T.m0)
 all_goals(try have e1:bF .add .i64 p (pfN z)=p+pfN z:=bc (by omega))
 all_goals(try have e2:bF .sub .i64 n (pfN z)=n-pfN z:=cR (by omega))
 all_goals(try simp only[e1,e2]at*)
 all_goals first
  | (show(_:List DV)=_
     first
      |(have f:=Us (p:=p) (n:=n) (s:=s) (z:=z) (by assumption);have q:=Qz f;exact DC rfl q.1.symm q.2.1.symm q.2.2.1.symm q.2.2.2.symm f.symm)
      |(have f:=Ut (p:=p) (n:=n) (s:=s) (z:=z) (by assumption);have q:=Qz f;exact DC rfl q.1.symm q.2.1.symm q.2.2.1.symm q.2.2.2.symm f.symm)
      |(have q:=Qy b (by omega);exact DC rfl (by omega) q.2.1.symm q.2.2.1.symm q.2.2.2.symm b.symm)
      |(have q:=QA b (by omega);exact DC rfl q.1.symm q.2.1.symm q.2.2.1.symm q.2.2.2.symm b.symm)
      |done)
  |exact True.intro
  |(show aW _ _=true;kernel_rfl)
  |done):p:=h
theorem Ol {p:Prop}(h:p:=by
 try have hct:=cB (es:=es) (n:=i.toNat) (by omega);rw[he]at hct;simp only[cI,eC,Nat.add_zero,Nat.zero_add]at hct
 have hle1:=bH (es:=es) (n:=i.toNat+1)
 simp only[aw,ah,Nat.add_zero]at hsz hsz2
 first|exact iR hwf g0 hlt|exact⟨hr0,by omega,by omega⟩|trivial|omega|(rw[hn,if_pos];omega)|(rw[hn,if_neg (by rw[show i.toNat=es.length from by omega,List.take_length]at g3;omega),show l=left-ah es from by rw[show i.toNat=es.length from by omega,List.take_length]at g3;omega])|(rw[show(i+1).toNat=i.toNat+1 from by omega,hct];omega)|trace_state):p:=h
theorem SB {p:Prop}(h:p:=by
 intro O r os F hO hr hos hF;cbv
 repeat' first|apply And.intro|(apply be<;>intro hb<;>cbv)
 all_goals((try subst hos);subst hO hr hF;(try simp only[nc]at*);(try simp only[aj,SS,sa,az]at*))
 all_goals(try simp only[e1]at*)
 all_goals(try simp only[AW (l:=a6) (sz:=3) (j:=0) (i:=i) i0]at*)
 all_goals first
  |(show(_:List DV)=_;exact rfl)
  | (show(_:List H)=_
     first
      |exact rfl
      |(have d:=Kv (a0:=a0) (a1:=a1) (a2:=a2) (a6:=a6) (i:=i);rw[d.1,d.2.1,d.2.2,TJ, <-Mr i0 i1];exact rfl)
      |done)
  |omega
  |exact eR
  |(show aW _ _=true;kernel_rfl)
  |exact Gw hp.r6 i0 i1 (by decide)
  |exact hs6
  |(show _/\_;simp only[Mo,xj,List.length_nil,List.length_append,List.length_take,List.length_drop];omega)
  |exact⟨Pm hp,hk,hn,h5,g0,by omega,by omega⟩
  |exact⟨by omega,by omega,by omega⟩
  |exact⟨hp.r0,hp.r1,hp.r2,hp.r4,km⟩
  |exact⟨by unfold zlI;omega,by unfold zlI;omega,hp.r5,by omega⟩
  |exact⟨True.intro,True.intro⟩
  |exact True.intro
  |done):p:=h
theorem SC {p:Prop}(h:p:=by
 (subst hO hr hF;(try simp only[nc]at*);(try simp only[aj,SS,sa,az]at*))
 try rw[cv (by omega) (by omega)]
 try(have hol:out.length=i.toNat:=(by rw[i2,List.length_take];omega))
 try(have hsc:=jP hr9 i0 (by assumption);have hsl:=ay (es:=aR a9 i 0))
 first
  | (show(_:List DV)=_
     first
      |exact rfl
      |(rw[i2,fa (by omega)];rfl)
      |done)
  |omega
  |exact eR
  |(show aW _ _=true;kernel_rfl)
  |exact hs5
  |exact hs6
  |exact hs7
  |exact hs8
  |exact⟨hr0,hr1,hr2,hr4,by omega,by omega,by omega,by omega⟩
  |exact⟨hr5,by omega⟩
  |exact⟨hr10,hr11,by omega,by omega⟩
  |exact⟨hr13,by omega⟩
  |exact⟨hr21,by omega⟩
  |exact⟨Oe hr9 i0 (by assumption),by omega⟩
  |(simp only[List.length_nil,List.length_cons];omega)
  |(rw[i2];exact(fb hr9 i0 (by assumption)).symm)
  |exact⟨trivial,trivial⟩
  |trivial
  |exact rfl
  |done):p:=h
theorem J0 {p:Prop}(h:p:=by
 intro O r os F hO hr hos hF;cbv
 repeat' first|apply And.intro|(apply be<;>intro hb<;>cbv)
 all_goals((try subst hos);subst hO hr hF;(try simp only[nc]at*);(try simp only[aj,SS,sa,az]at*))
 all_goals(try simp only[fq,List.cons_append,List.nil_append,bZ]at*)
 all_goals first|trivial|trace_state):p:=h
theorem SD {p:Prop}(h:p:=by
 (try have z:=NC (by assumption))
 (try have y2:=hp.xn j)
 (try have y1:=hp.bn i)
 (try have z6:bF .add .i64 k 1=k+1:=bc (by omega))
 (try simp only[z6]at*)
 first
  | (show(_:List DV)=_
     first
      |(refine pS ?_;exact Ug (by assumption))
      |(refine pS ?_;exact MC j2 (by assumption) j1 (by assumption))
      |done)
  |omega
  |exact eR
  |exact Rw.scal (Rw.sub (fs:=[.sl [tI]]) hxw (by omega) rfl) rfl
  |(have q:=k2.l;constructor<;>(simp only[List.length_cons,List.length_nil];omega))
  |(have q:=j2.l;constructor<;>omega)
  |exact Ps k2 k0
  |exact Mx k2 i0 y1 k1 (by omega)
  |exact TN i2
  |exact TP i2 i1 (by omega)
  |exact Pw j2 j0 y2
  |exact TM
  |exact⟨True.intro,True.intro⟩
  |done):p:=h
theorem SE {p:Prop}(h:p:=by
 (try simp only[z9]at*)
 first
  | (show(_:List DV)=_
     first
      |(refine ak ?_;symm;exact Nz (by assumption))
      |(refine ak ?_;symm;exact NA (by assumption))
      |(refine ak ?_;symm;exact GR i0 (by omega) k0 (by assumption) (Q7 (by assumption)))
      |(refine ak ?_;symm;exact GR i0 (by omega) k0 (by assumption) (Q8 (by assumption)))
      |(refine ak ?_;symm;exact NB i0 (by omega) j0 (by assumption) (Tx (by assumption)))
      |(refine ak ?_;rw[Ny i2 (by assumption) (by omega) i1 (by omega)];rfl)
      |done)
  |omega
  |exact eR
  |(show aW _ _=true;kernel_rfl)
  |exact bi
  |exact aV k2 (Q9 (by assumption) (by assumption))
  |exact aV j2 (O1 (by assumption))
  |exact QL i2 i0 k2 (by omega) j2 (by omega)
  |exact Ux
  |done):p:=h
theorem SF {p:Prop}(h:p:=by
 (subst hO hr hF;(try simp only[nc]at*);(try simp only[aj,SS,sa,az]at*))
 try rw[cv (by omega) (by omega)]
 (try have z:=xi i0 (by omega))
 (try simp only[z]at*)
 first
  | (show(_:List DV)=_
     first
      |(refine ak ?_;symm;exact NX i0 (by assumption) (by assumption))
      |(refine ak ?_;symm;exact NY i0 (by assumption) (by assumption) (by assumption))
      |(refine ak ?_;exact NW i2 (by omega))
      |(have q:false=true:=(by assumption);cases q)
      |done)
  |omega
  |exact eR
  |(show aW _ _=true;kernel_rfl)
  |exact bi
  |exact aV i2 (Jx (by assumption) (by omega))
  |exact aV i2 (Jy (by assumption) (by assumption))
  |done):p:=h
theorem SG {p:Prop}(h:p:=by
 (subst hO hr hF;(try simp only[nc]at*);(try simp only[aj,SS,sa,az]at*))
 try rw[cv (by omega) (by omega)]
 first|omega|exact eR|exact bi|contradiction|exact ak (Mz (by assumption)).symm|exact ak (MA (by omega)).symm|exact ak (MB i0 (by omega) (by omega)).symm|exact ak (FU i0 (by omega) k0 (by omega) (.inl (by assumption))).symm|exact ak (FU i0 (by omega) k0 (by omega) (.inr ⟨by assumption,by assumption⟩)).symm|exact ak (FV (by assumption) (by omega) i2 (by omega)).symm|exact aV i2 (KG (by omega) k2 (by omega))|exact aV k2 (Kn (by assumption) (by first|exact .inl (by assumption)|exact .inr (by assumption)))|trace_state):p:=h
theorem SH {p:Prop}(h:p:=by
 intro O r os F hO hr hos hF;cbv
 repeat' first|apply And.intro|(apply be<;>intro hb<;>cbv)
 all_goals((try subst hos);subst hO hr hF;(try simp only[nc]at*);(try simp only[aj,SS,sa,az]at*))
 all_goals first
  |(show(_:List DV)=_;exact rfl)
  | (show(_:List H)=_
     first
      |(have q:=TF (cs:=cs) (us:=us) (es:=es) (f:=f) (by assumption);first|(rw[q.1,q.2,LK wc f0 f1,Si wu f0 (by omega)];done)|(rw[q.1,q.2,LK wc f0 f1,Si wu f0 (by omega)];exact rfl))
      |(have q:=TG (cs:=cs) (us:=us) (es:=es) (f:=f) (by assumption);first|(rw[q.1,q.2];done)|(rw[q.1,q.2];exact rfl))
      |done)
  |omega
  |exact⟨we,el⟩
  |(show aW _ _=true;kernel_rfl)
  |exact Vf wu f0 (by omega)
  |exact R6 wc f0 f1
  |exact⟨True.intro,True.intro⟩
  |exact True.intro
  |done):p:=h
theorem Om {p:Prop}(h:p:=by
 try have hct:=cB (es:=es) (n:=i.toNat) (by omega);rw[he]at hct;simp only[cI,eC,Nat.add_zero,Nat.zero_add]at hct
 have hle1:=bH (es:=es) (n:=i.toNat+1)
 have hcE:ah es=es.length+bD es:=rfl
 first|omega|exact iR hwf g0 hlt|trivial|(refine⟨trivial,hr0,?_⟩;simp only[aw,ah,Nat.add_zero];omega)|trace_state):p:=h
theorem SI {p:Prop}(h:p:=by
 (subst hO hr hF;(try simp only[nc]at*);(try simp only[aj,SS,sa,az]at*))
 try rw[cv (by omega) (by omega)]
 try(have hpl:=zg (es:=es) (f:=f) (n:=i.toNat);rw[<-i2]at hpl)
 first|omega|exact eR|(exact⟨trivial,trivial⟩)|rfl|(simp only[List.length_cons,List.length_nil];omega)|(rw[Jp i0 (by assumption) (by assumption), <-i2])|(rw[Hh i0 (.inl (by assumption)), <-i2])|(rw[Hh i0 (.inr (by assumption)), <-i2])|exact Cu (by rw[i2,show i.toNat=es.length from by omega];rfl)|trace_state):p:=h
theorem J1 {p:Prop}(h:p:=by
 intro O r F hO hr hF;cbv
 repeat' first|apply And.intro|(apply be<;>intro hb<;>cbv)
 all_goals(subst hO hr hF;(try simp only[nc]at*);(try simp only[aj,SS,sa,az]at*))
 all_goals first|exact rfl|done):p:=h
theorem SJ {p:Prop}(h:p:=by
 intro O r F hO hr hF;cbv
 repeat' first|apply And.intro|(apply be<;>intro hb<;>cbv)
 all_goals(subst hO hr hF;(try simp only[nc]at*);(try simp only[aj,SS,sa,az]at*))
 all_goals(try simp only[hsb]at*)
 all_goals(try simp only[bE,qB]at*)
 all_goals first|exact Ai (AV (by omega)).1.symm (AV (by omega)).2.symm|exact Ai (ze (by omega)).1.symm (ze (by omega)).2.symm|exact eR|trace_state):p:=h
theorem SK {p:Prop}(h:p:=by
 intro O r F hO hr hF;cbv
 repeat' first|apply And.intro|(apply be<;>intro hb<;>cbv)
 all_goals(subst hO hr hF;(try simp only[nc]at*);(try simp only[aj,SS,sa,az]at*))
 all_goals(try simp only[fq,List.cons_append,List.nil_append]at*)
 all_goals first|trivial|(exfalso;omega)|(obtain⟨x,y1,y2,y3⟩:=e0;exact⟨x,y1,y2,y3,by omega,by omega⟩)|(obtain⟨x,y1,y2,y3⟩:=e1;exact⟨x,y1,y2,y3,by omega,by omega⟩)|(refine⟨by assumption,by omega,by omega⟩)|(refine⟨by assumption,by assumption,by omega,by omega⟩)|trace_state):p:=h
theorem SL {p:Prop}(h:p:=by
 intro O r F hO hr hF;cbv
 repeat' first|apply And.intro|(apply be<;>intro hb<;>cbv)
 all_goals(subst hO hr hF;(try simp only[nc]at*);(try simp only[aj,SS,sa,az]at*))
 all_goals try(have hs:=Ve.1 (‹slB b i=true›);have hw:=H7 hs.2.1 hs.2.2;simp only[hw]at*)
 all_goals first
  | (show(_:List DV)=_
     first
      |exact ak (P0 (by assumption)).symm
      |(refine ak (ew ?_);unfold hsB;rw[show slB b i=true from by assumption,Bool.true_and,decide_eq_true_eq];simp only[SS])
      |done)
  |omega
  |trace_state):p:=h
theorem SN {p:Prop}(h:p:=by
 (subst hO hr hF;(try simp only[nc]at*);(try simp only[aj,SS,sa,az]at*))
 try rw[cv (by omega) (by omega)]
 first|omega|exact eR|exact bi|contradiction|exact ak (HP i2 (by omega)).symm|(simp only[bE,qB]at*;first|exact ak (R8 i0 (by omega) (by omega)).symm|exact aV i2 (LE (by omega)))|trace_state):p:=h
theorem SO {p:Prop}(h:p:=by
 (subst hO hr hF;(try simp only[nc]at*);(try simp only[aj,SS,sa,az]at*))
 try rw[cv (by omega) (by omega)]
 first|(show(_:List DV)=_;exact cp (NU i2 i1 (by omega)))|omega|exact eR|exact UG|exact Ru i2 i0 (by omega)|done):p:=h
theorem SP {p:Prop}(h:p:=by
 intro O r F hO hr hF;cbv
 repeat' first|apply And.intro|(apply be<;>intro hb<;>cbv)
 all_goals(subst hO hr hF;(try simp only[nc]at*);(try simp only[aj,SS,sa,az]at*))
 all_goals(try have t:=bE.1 hb)
 all_goals(try have z:bF .sub .i64 n l=n-l:=cR (by omega))
 all_goals(try simp only[z]at*)
 all_goals first|(show(_:List DV)=_;refine ak ?_;unfold rngIn;simp[hb];done)|done):p:=h
theorem SQ {p:Prop}(h:p:=by
 (try simp only[bE,qB]at*)
 (try rw[cv (by omega) (by omega)])
 first|trivial|omega|exact Kq (by omega) (by assumption) (by omega)|(have:=Kq (k:=k) (s:=s) (by omega) (by assumption) (by omega);omega)|exact cp (Pe (by omega)).symm|exact cp (Mm (by omega) (by assumption) (by omega) (by assumption)).symm|exact .inl trivial|(rw[show k+1-1=k by omega];exact .inr (by assumption))|trace_state):p:=h
theorem SR {p:Prop}(h:p:=by
 intro O r F hO hr hF;cbv
 repeat' first|apply And.intro|(apply be<;>intro hb<;>cbv)
 all_goals(subst hO hr hF;(try simp only[nc]at*);(try simp only[aj,SS,sa,az]at*))
 all_goals first
  | (show(_:List DV)=_
     first
      |exact Cu (FT (by assumption)).symm
      |exact Cu (Dg (by assumption)).symm
      |done)
  |exact⟨hw,hn⟩
  |exact hw
  |exact⟨True.intro,True.intro⟩
  |trace_state):p:=h
theorem SU {p:Prop}(h:p:=by
 intro O r F hO hr hF;cbv
 repeat' first|apply And.intro|(apply be<;>intro hb<;>cbv)
 all_goals(subst hO hr hF;(try simp only[nc]at*);(try simp only[aj,SS,sa,az]at*))
 all_goals first
  | (show(_:List DV)=_
     first
      |exact ak (by unfold slB;rw[decide_eq_true (by assumption)];rfl)
      |exact ak (by unfold slB;rw[decide_eq_false (by omega)];rfl)
      |done)
  |trace_state):p:=h
theorem SV {p:Prop}(h:p:=by
 intro O r F hO hr hF;cbv
 repeat' first|apply And.intro|(apply be<;>intro hb<;>cbv)
 all_goals(subst hO hr hF;(try simp only[nc]at*);(try simp only[aj,SS,sa,az]at*))
 all_goals first|(show aW _ _=true;kernel_rfl)|exact hs|exact⟨hc,hu,he,hn,hm,hk⟩|exact⟨hr,by omega⟩|exact⟨trivial,trivial⟩|trivial|(simp only[List.length_nil];omega)|exact rfl|done):p:=h
theorem SX {p:Prop}(h:p:=by
 intro O r F hO hr hF;cbv
 repeat' first|apply And.intro|(apply be<;>intro hb<;>cbv)
 all_goals(subst hO hr hF;(try simp only[nc]at*);(try simp only[aj,SS,sa,az]at*))
 all_goals first|(show(_:List DV)=_;refine ak ?_;unfold mshB;simp[*];done)|(show(_:List DV)=_;refine ak ?_;unfold mshB;subst_vars;rw[cmp_eq];simp[*];done)|done):p:=h
theorem SY {p:Prop}(h:p:=by
 intro O r F hO hr hF;cbv
 repeat' first|apply And.intro|(apply be<;>intro hb<;>cbv)
 all_goals(subst hO hr hF;(try simp only[nc]at*);(try simp only[aj,SS,sa,az]at*))
 all_goals iterate 1 (try simp(disch:=assumption) only[iy,List.cons_append,List.nil_append]at*)
 all_goals first|trivial|(rw[hH (by assumption)])|trace_state):p:=h
theorem SZ {p:Prop}(h:p:=by
 intro O r F hO hr hF;cbv
 repeat' first|apply And.intro|(apply be<;>intro hb<;>cbv)
 all_goals(subst hO hr hF;(try simp only[nc]at*);(try simp only[aj,SS,sa,az]at*))
 all_goals iterate 2 (try simp(disch:=assumption) only[iy,List.cons_append,List.nil_append]at*)
 all_goals first|trivial|(rw[hH (by assumption)])|trace_state):p:=h
theorem On {p:Prop}(h:p:=by
 repeat' first|apply And.intro|(apply be<;>intro hb<;>cbv)
 all_goals(subst hO hr hF;(try simp only[nc]at*);(try simp only[aj,SS,sa,az]at*))
 all_goals first|trivial|exact rfl):p:=h
theorem S7 {p:Prop}(h:p:=by
 intro O r F hO hr hF;cbv
 repeat' first|apply And.intro|(apply be<;>intro hb<;>cbv)
 all_goals(subst hO hr hF;(try simp only[nc]at*);(try simp only[aj,SS,sa,az]at*))
 all_goals first|(show aW _ _=true;kernel_rfl)|exact⟨hc,hu,hn,hm⟩|exact⟨he,by omega⟩|exact⟨trivial,trivial⟩|trivial|exact rfl|trace_state):p:=h
theorem S8 {p:Prop}(h:p:=by
 intro O r F hO hr hF;cbv
 repeat' first|apply And.intro|(apply be<;>intro hb<;>cbv)
 all_goals(subst hO hr hF;(try simp only[nc]at*);(try simp only[aj,SS,sa,az]at*))
 all_goals first
  | (show(_:List DV)=_
     first
      |exact cp (NO (by assumption))
      |exact cp (Le (by assumption)).symm
      |done)
  |omega
  |done):p:=h
theorem Oo {p:Prop}(h:p:=by
 (subst hO hr hF;(try simp only[nc]at*);(try simp only[aj,SS,sa,az]at*))
 (try simp only[hs]at*)
 first|trivial|(rw[hn,if_pos (by omega)])|trace_state):p:=h
theorem S9 {p:Prop}(h:p:=by
 intro O r F hO hr hF;cbv
 repeat' first|apply And.intro|(apply be<;>intro hb<;>cbv)
 all_goals(subst hO hr hF;(try simp only[nc]at*);(try simp only[aj,SS,sa,az]at*))
 all_goals first
  | (show(_:List DV)=_
     first
      |exact cp (Qu (by assumption))
      |exact cp (Qv (by assumption)).symm
      |done)
  |done):p:=h
theorem Tc {p:Prop}(h:p:=by
 intro O r F hO hr hF;cbv
 repeat' first|apply And.intro|(apply be<;>intro hb<;>cbv)
 all_goals(subst hO hr hF;(try simp only[nc]at*);(try simp only[aj,SS,sa,az]at*))
 all_goals first
  | (show(_:List DV)=_
     first
      |exact ak (ew (by unfold eqB;simp only[SS,decide_eq_true_eq]))
      |done)
  |done):p:=h
theorem Td {p:Prop}(h:p:=by
 intro O r F hO hr hF;cbv
 repeat' first|apply And.intro|(apply be<;>intro hb<;>cbv)
 all_goals(subst hO hr hF;(try simp only[nc]at*);(try simp only[aj,SS,sa,az]at*))
 all_goals first|trivial|(refine⟨trivial,by assumption,?_⟩;(try simp only[aw,Nat.add_zero]);omega)|trace_state):p:=h
theorem Te {p:Prop}(h:p:=by
 intro O r F hO hr hF;cbv
 repeat' first|apply And.intro|(apply be<;>intro hb<;>cbv)
 all_goals(subst hO hr hF;(try simp only[nc]at*);(try simp only[aj,SS,sa,az]at*))
 all_goals first|trivial|(refine⟨by assumption,?_⟩;(try simp only[aw,Nat.add_zero]);omega)|trace_state):p:=h
theorem Tf {p:Prop}(h:p:=by
 intro O r F hO hr hF;cbv
 repeat' first|apply And.intro|(apply be<;>intro hb<;>cbv)
 all_goals(subst hO hr hF;(try simp only[nc]at*);(try simp only[aj,SS,sa,az]at*))
 all_goals first|exact hp|(show(_:List DV)=_;refine ak ?_;unfold jbOk;simp[*];done)|done):p:=h
theorem Tg {p:Prop}(h:p:=by
 first|trivial|(refine⟨by assumption,by omega,by first|omega|exact Int.le_trans (vQ (by assumption)) h1⟩)|(rw[hH (by assumption)])|exact congrArg (fun x=>[DV.one (L.v (Value.int IntKind.i64 x))]) (d5 (a:=[a0]) (b:=[a1]) (by assumption)).symm|trace_state):p:=h
theorem Ti {p:Prop}(h:p:=by
 intro O r F hO hr hF;cbv
 repeat' first|apply And.intro|(apply be<;>intro hb<;>cbv)
 all_goals(subst hO hr hF;(try simp only[nc]at*);(try simp only[aj,SS,sa,az]at*))
 all_goals first|exact hp|exact rfl|done):p:=h
theorem Tj {p:Prop}(h:p:=by
 first|exact cp (Pi (by assumption)).symm|(refine cp ?_;rw[Kp (by assumption)])|(rw[bE]at*;omega)|trace_state):p:=h
theorem eR {p:Prop}(h:p:=by
 refine⟨by omega,by omega,(Rw.eta (by first|assumption|exact Rw.sub (by first|assumption|exact Rw.sub (by assumption) (by omega) rfl) (by omega) rfl) (by omega) (by omega)).trans ?_⟩;rfl):p:=h
end Go.V