/-
  A condition generator for functions on trees of data, part 5 of 5: values in memory, contracts, soundness.
-/
import Derived.Test.YtniaaknbbceigaaGreatVD
set_option linter.all false
namespace Go.V
mutual
def gN :L->Nat
 | .s _ es=>es.length+bA es
 |_=>0
def dV :ay->Nat
 |[]=>0
 |l::ls=>gN l+dV ls
def bA :aa->Nat
 |[]=>0
 |e::es=>dV e+bA es
end
def ak (es:aa):Nat:=es.length+bA es
def ao :List aa->Nat
 |[]=>0
 |r::rs=>ak r+ao rs
def bi (rs:List aa)(left:Int):Int:=if left<ao rs then-1 else left-ao rs
mutual
def jf :L->Int->L×Int
 | .v (.int kd _),k=>(.v (.int kd k),k+1)
 | .v (.bool _),k=>(.v (.bool (k.tmod 3==0)),k+1)
 | .s sz es,k=>(.s sz (cD es k).1,(cD es k).2)
 |l,k=>(l,k)
def kD :ay->Int->ay×Int
 |[],k=>([],k)
 |l::ls,k=>((jf l k).1::(kD ls (jf l k).2).1,(kD ls (jf l k).2).2)
def cD :aa->Int->aa×Int
 |[],k=>([],k)
 |e::es,k=>((kD e k).1::(cD es (kD e k).2).1,(cD es (kD e k).2).2)
end
def bV (es:aa)(k:Int):aa:=(cD es k).1
def bc :List aa->Int->Int
 |[],k=>k
 |r::rs,k=>bc rs (cD r k).2
theorem dU :∀ {a b:aa},bA (a++b)=bA a+bA b
 |[],b=>by simp[bA]
 |e::a,b=>by simp[bA,dU (a:=a),Nat.add_assoc]
theorem iT :∀ {a b:List aa},ao (a++b)=ao a+ao b
 |[],b=>by simp[ao]
 |e::a,b=>by simp[ao,iT (a:=a),Nat.add_assoc]
theorem cE {r:aa}:ao [r]=ak r:=by simp[ao]
theorem BC :∀ {ls:ay} {j:Nat} {l:L},ls[j]?=some l->gN l<=dV ls
 |[],j,l,h=>by simp at h
 |x::ls,0,l,h=>by simp at h;subst h;simp[dV]
 |x::ls,j+1,l,h=>by simp at h;have:=BC h;simp[dV];omega
theorem dB {a:List aa}{left:Int}:bi a left<0↔left<ao a:=by
 unfold bi;split<;>omega
theorem lq {a:List aa}{left:Int}(h:0<=bi a left):bi a left=left-ao a:=by
 unfold bi at*;split at h
 ·omega
 ·rename_i c;rw[if_neg c]
theorem hJ {a b:List aa}{left:Int}(h:0<=bi a left):bi b (bi a left)=bi (a++b) left:=by
 rw[lq h];unfold bi;rw[iT];split<;>split<;>omega
theorem dP {a b:List aa}{left:Int}(h:bi a left<0):bi (a++b) left= -1:=by
 rw[dB]at h;unfold bi;rw[iT,if_pos (by omega)]
theorem gI {a:List aa}{left:Int}(h:bi a left<0):bi a left= -1:=by
 rw[dB]at h;unfold bi;rw[if_pos (by omega)]
theorem o8 {a:List aa}{left:Int}(h:0<=bi a left):bi a left<=left:=by rw[lq h];omega
theorem gZ :∀ {a b:aa} {k:Int},cD (a++b) k=((cD a k).1++(cD b (cD a k).2).1,(cD b (cD a k).2).2)
 |[],b,k=>by simp[cD]
 |e::a,b,k=>by simp[cD,gZ (a:=a)]
theorem kv :∀ {a b:List aa} {k:Int},bc b (bc a k)=bc (a++b) k
 |[],b,k=>rfl
 |r::a,b,k=>by simp only[bc,List.cons_append];exact kv
theorem eA :∀ {es:aa} {k:Int},(cD es k).1.length=es.length
 |[],k=>rfl
 |e::es,k=>by simp[cD,eA (es:=es)]
theorem ff {es:aa}{k:Int}:(bV es k).length=es.length:=eA
def dM (es:aa)(k:Int)(n:Nat):aa:=(cD (es.take n) k).1++es.drop n
def gX (es:aa)(k:Int)(n:Nat):Int:=(cD (es.take n) k).2
theorem da {es:aa}{k:Int}:dM es k 0=es:=by simp[dM,cD]
theorem cC {es:aa}{k:Int}:gX es k 0=k:=by simp[gX,cD]
theorem tV {es:aa}{k:Int}:dM es k es.length=bV es k:=by simp[dM,bV]
theorem rH {es:aa}{k:Int}:gX es k es.length=bc [es] k:=by simp[gX,bc]
theorem kB {es:aa}{k:Int}{n:Nat}(hn:n<=es.length):(dM es k n).length=es.length:=by simp[dM,eA];omega
theorem cZ {es:aa}{k:Int}{n:Nat}(hn:n<=es.length):(dM es k n).getD n []=es.getD n []:=by
 unfold dM;simp only[List.getD_eq_getElem?_getD];have hl:(cD (es.take n) k).1.length=n:=by rw[eA,List.length_take];omega
 rw[List.getElem?_append_right (by omega),hl];simp
theorem tW {es:aa}{k:Int}{n:Nat}(hn:n<es.length):(dM es k n).set n (kD (es.getD n []) (gX es k n)).1=dM es k (n+1):=by
 unfold dM gX;have hl:(cD (es.take n) k).1.length=n:=by rw[eA,List.length_take];omega
 rw[List.set_append_right _ _ (by omega),hl,dJ (d:=[]) hn,gZ];simp only[Nat.sub_self];rw[List.drop_eq_getElem_cons hn,List.set_cons_zero];simp[cD]
theorem kx {es:aa}{k:Int}{n:Nat}(hn:n<es.length):gX es k (n+1)=(kD (es.getD n []) (gX es k n)).2:=by
 unfold gX;rw[dJ (d:=[]) hn,gZ];simp[cD]
theorem Ms {es:aa}{k:Int}{n:Nat}(hn:n<es.length):(bV es k).getD n []=(kD (es.getD n []) (gX es k n)).1:=by
 have h1:es=es.take n++(es.getD n []::es.drop (n+1)):=by
  conv=>lhs;rw[<-List.take_append_drop n es,List.drop_eq_getElem_cons hn]
  simp[List.getD,hn]
 unfold bV gX
 conv=>lhs;rw[h1]
 rw[gZ];simp only[List.getD_eq_getElem?_getD];have hl:(cD (es.take n) k).1.length=n:=by rw[eA,List.length_take];omega
 rw[List.getElem?_append_right (by omega),hl];simp[cD]
mutual
theorem PE :∀ (l:L) (k:Int),(jf l k).2=k+(jf l 0).2
 | .v x,k=>by cases x<;>simp[jf]
 | .s sz es,k=>by simp only[jf];exact je es k
 | .g,k=>by simp[jf]
 | .m _ _,k=>by simp[jf]
theorem vY :∀ (ls:ay) (k:Int),(kD ls k).2=k+(kD ls 0).2
 |[],k=>by simp[kD]
 | l::ls,k=>by
   simp only[kD];rw[vY ls (jf l k).2,PE l k,vY ls (jf l 0).2];omega
theorem je :∀ (es:aa) (k:Int),(cD es k).2=k+(cD es 0).2
 |[],k=>by simp[cD]
 | e::es,k=>by
   simp only[cD];rw[je es (kD e k).2,vY e k,je es (kD e 0).2];omega
end
mutual
theorem MA :∀ (l:L) (k k':Int),(jf (jf l k).1 k').2=(jf l k').2
 | .v x,k,k'=>by cases x<;>simp[jf]
 | .s sz es,k,k'=>by simp only[jf];exact rL es k k'
 | .g,k,k'=>by simp[jf]
 | .m _ _,k,k'=>by simp[jf]
theorem FI :∀ (ls:ay) (k k':Int),(kD (kD ls k).1 k').2=(kD ls k').2
 |[],k,k'=>rfl
 |l::ls,k,k'=>by simp only[kD];rw[FI ls _ _,MA l k k']
theorem rL :∀ (es:aa) (k k':Int),(cD (cD es k).1 k').2=(cD es k').2
 |[],k,k'=>rfl
 |e::es,k,k'=>by simp only[cD];rw[rL es _ _,FI e k k']
end
theorem OV {es:aa}{k k':Int}:bc [bV es k] k'=bc [es] k':=rL es k k'
theorem jK {es:aa}{k:Int}{n:Nat}:gX es k n=k+gX es 0 n:=je _ _
theorem Dg :∀ {rs:List aa} {k:Int},bc rs k=k+bc rs 0
 |[],k=>by simp[bc]
 |r::rs,k=>by simp only[bc];rw[Dg (k:=(cD r k).2),je r k,Dg (k:=(cD r 0).2)];omega
mutual
theorem PD :∀ (l:L),0<=(jf l 0).2
 | .v x=>by cases x<;>simp[jf]
 | .s sz es=>by simp only[jf];exact AE es
 | .g=>by simp[jf]
 | .m _ _=>by simp[jf]
theorem FH :∀ (ls:ay),0<=(kD ls 0).2
 |[]=>by simp[kD]
 |l::ls=>by simp only[kD];rw[vY];have:=PD l;have:=FH ls;omega
theorem AE :∀ (es:aa),0<=(cD es 0).2
 |[]=>by simp[cD]
 |e::es=>by simp only[cD];rw[je];have:=FH e;have:=AE es;omega
end
theorem H3 :∀ {rs:List aa},0<=bc rs 0
 |[]=>by simp[bc]
 |r::rs=>by simp only[bc];rw[Dg];have:=AE r;have:=H3 (rs:=rs);omega
theorem kw {es:aa}{n:Nat}(hn:n<es.length):gX es 0 n<=gX es 0 (n+1):=by
 rw[kx hn,vY];have:=FH (es.getD n []);omega
theorem eZ {es:aa}:∀ {m n:Nat},n<=es.length->m<=n->gX es 0 m<=gX es 0 n
 |m,0,_,h=>by rw[show m=0 from by omega];exact Int.le_refl _
 | m,n+1,hn,h=>by
   rcases Nat.lt_or_ge m (n+1)with c|c
   ·have:=eZ (es:=es) (m:=m) (n:=n) (by omega) (by omega);have:=kw (es:=es) (n:=n) (by omega);omega
   ·rw[show m=n+1 from by omega];exact Int.le_refl _
end Go.V
namespace Go.V
abbrev Rw (fs:List Ty)(es:aa):Prop:=es.length<=maxLen/\∀ e∈es,bY fs e
abbrev tI :Ty:=.int .i64
abbrev tB :Ty:=.bool
mutual
def zL :Ty->L
 | .int k=>.v (.int k 0)
 | .bool=>.v (.bool false)
 | .str=>.v (.string .empty)
 | .sl fs=>.s fs.length []
def zR :List Ty->ay
 |[]=>[]
 |t::ts=>zL t::zR ts
end
theorem yD :∀ {fs:List Ty} {e:ay},bY fs e->fF (zR fs) e=true
 |[],[],_=>rfl
 |[],_::_,h=>h.elim
 |_::_,[],h=>h.elim
 | t::ts,l::ls,h=>by
   obtain⟨h1,h2⟩:=h;simp only[zR,fF,Bool.and_eq_true];refine⟨?_,yD h2⟩;cases t with
   | int k=>cases l with
     | v x=>cases x with
       |int k' n=>simp only[b8]at h1;simp[zL,iB,h1.1]
       |_=>simp[b8]at h1
     |_=>simp[b8]at h1
   | bool=>cases l with
     | v x=>cases x with
       |bool b=>rfl
       |_=>simp[b8]at h1
     |_=>simp[b8]at h1
   | str=>cases l with
     | v x=>cases x with
       |string b=>rfl
       |_=>simp[b8]at h1
     |_=>simp[b8]at h1
   | sl fs=>cases l with
     |s sz es=>simp only[b8]at h1;simp[zL,iB,h1.1]
     |_=>simp[b8]at h1
theorem Rw.wf {fs:List Ty}{es:aa}(h:Rw fs es):Wf (zR fs) es:=fun e he=>yD (h.2 e he)
theorem Rw.at {fs:List Ty}{es:aa}(h:Rw fs es){n:Nat}(hn:n<es.length):bY fs (es.getD n []):=by
 refine h.2 _ ?_;rw[List.getD_eq_getElem?_getD,List.getElem?_eq_getElem hn];exact List.getElem_mem _
theorem Rw.eta {fs:List Ty}{es:aa}(h:Rw fs es){i:Int}(h0:0<=i)(h1:i<es.length):es.getD i.toNat []=hY ai es i 0 (zR fs):=(aw h.wf h0 h1).symm
theorem vL :∀ {fs:List Ty} {e:ay} {j:Nat} {gs:List Ty},bY fs e->fs[j]?=some (.sl gs)->∃ es',e[j]?=some (.s gs.length es')/\Rw gs es'
 |[],_,j,gs,_,h=>by simp at h
 |_::_,[],j,gs,h,_=>h.elim
 | t::ts,l::ls,0,gs,h,e=>by
   simp at e;subst e;have h1:=h.1;cases l with
   |s sz es=>simp only[b8]at h1;exact⟨es,by simp[h1.1],h1.2⟩
   |_=>simp[b8]at h1
 | t::ts,l::ls,j+1,gs,h,e=>by
   simp at e;obtain⟨es',h1,h2⟩:=vL h.2 e;exact⟨es',by simpa using h1,h2⟩
theorem Rw.sub {fs:List Ty}{es:aa}(h:Rw fs es){i:Int}(hn:i.toNat<es.length){j:Nat}{gs:List Ty}(hj:fs[j]?=some (.sl gs)):Rw gs (ax es i j):=by
 obtain⟨es',h1,h2⟩:=vL (h.at hn) hj;unfold ax;rw[List.getD_eq_getElem?_getD (l:=es.getD i.toNat []),h1];exact h2
theorem Rw.nil {fs:List Ty}:Rw fs []:=⟨Nat.zero_le _,by simp⟩
theorem Rw.take {fs:List Ty}{es:aa}(h:Rw fs es)(n:Nat):Rw fs (es.take n):=⟨by rw[List.length_take];exact Nat.le_trans (Nat.min_le_right _ _) h.1,fun e he=>h.2 e (List.mem_of_mem_take he)⟩
theorem Rw.drop {fs:List Ty}{es:aa}(h:Rw fs es)(n:Nat):Rw fs (es.drop n):=⟨by rw[List.length_drop];exact Nat.le_trans (Nat.sub_le _ _) h.1,fun e he=>h.2 e (List.mem_of_mem_drop he)⟩
theorem Rw.append {fs:List Ty}{a b:aa}(ha:Rw fs a)(hb:Rw fs b)(hl:a.length+b.length<=maxLen):Rw fs (a++b):=⟨by simpa using hl,fun e he=>by rcases List.mem_append.1 he with q|q;exact ha.2 e q;exact hb.2 e q⟩
theorem Rw.one {fs:List Ty}{e:ay}(h:bY fs e):Rw fs [e]:=⟨by simp[maxLen],by simpa using h⟩
theorem Rw.set {fs:List Ty}{es:aa}(h:Rw fs es){e:ay}(he:bY fs e)(n:Nat):Rw fs (es.set n e):=⟨by simpa using h.1,fun x hx=>by rcases List.mem_or_eq_of_mem_set hx with q|q;exact h.2 x q;rw[q];exact he⟩
theorem Rw.replicate {fs:List Ty}{e:ay}(h:bY fs e){n:Nat}(hn:n<=maxLen):Rw fs (List.replicate n e):=⟨by simpa using hn,fun x hx=>by rw[List.eq_of_mem_replicate hx];exact h⟩
def pa :Ty->Bool
 | .sl _=>false
 |_=>true
theorem te {t:Ty}{l:L}(h:b8 t l)(hs:pa t=true):∃ x,l=.v x:=by
 cases t with
 |sl fs=>cases hs
 | int k=>cases l with
   |v x=>exact⟨x,rfl⟩
   |_=>simp[b8]at h
 | bool=>cases l with
   |v x=>exact⟨x,rfl⟩
   |_=>simp[b8]at h
 | str=>cases l with
   |v x=>exact⟨x,rfl⟩
   |_=>simp[b8]at h
theorem vR :∀ {fs:List Ty} {e:ay},fs.all pa=true->bY fs e->dV e=0
 |[],[],_,_=>rfl
 |[],_::_,_,h=>h.elim
 |_::_,[],_,h=>h.elim
 | t::ts,l::ls,hs,h=>by
   simp only[List.all_cons,Bool.and_eq_true]at hs;obtain⟨x,rfl⟩:=te h.1 hs.1;simp only[dV,gN];rw[vR hs.2 h.2]
theorem yH {fs:List Ty}(hs:fs.all pa=true):∀ {es:aa},(∀ e∈es,bY fs e)->bA es=0
 |[],_=>rfl
 |e::es,h=>by simp only[bA];rw[vR hs (h e (by simp)),yH hs (fun x hx=>h x (by simp[hx]))]
theorem Rw.cnt {fs:List Ty}{es:aa}(h:Rw fs es)(hs:fs.all pa=true):ak es=es.length:=by unfold ak;rw[yH hs h.2];rfl
theorem Rw.scal {fs:List Ty}{es:aa}(h:Rw fs es)(hs:fs.all pa=true):dc es:=by
 have key:∀ {fs:List Ty} {e:ay},fs.all pa=true->bY fs e->nC e:=by
  intro fs
  induction fs with
  | nil=>intro e _ h;cases e with
    |nil=>trivial
    |cons _ _=>exact h.elim
  | cons t ts ih=>
    intro e hs h;cases e with
    |nil=>exact h.elim
    | cons l ls=>
      simp only[List.all_cons,Bool.and_eq_true]at hs;obtain⟨x,rfl⟩:=te h.1 hs.1;exact(ih hs.2 h.2:nC ls)
 have:∀ {es:aa},(∀ e∈es,bY fs e)->dc es:=by
  intro es
  induction es with
  |nil=>intro _;trivial
  |cons e es ih=>intro h;exact⟨key hs (h e (by simp)),ih (fun x hx=>h x (by simp[hx]))⟩
 exact this h.2
theorem dT {es:aa}{n:Nat}(hn:n<es.length):bA (es.take (n+1))=bA (es.take n)+dV (es.getD n []):=by
 rw[dJ (d:=[]) hn,dU];simp[bA]
theorem bF {es:aa}{n:Nat}:bA (es.take n)<=bA es:=by
 conv=>rhs;rw[<-List.take_append_drop n es,dU]
 omega
theorem uu {sz:Nat}{es:aa}{n o:Nat}{new:ay}:Dy (.s sz es) [(n,o)] new=es.set n ((es.getD n []).take o++new++(es.getD n []).drop (o+new.length)):=rfl
theorem rO {sz:Nat}{c:aa}{n j:Nat}:rN (.s sz c) [(n,j)]=Fg ((c.getD n []).getD j .g):=by
 unfold rN gO;simp only[bT];cases h:c[n]? with
 |none=>simp[List.getD,h,Fg]
 | some rec=>
   simp only[Option.map_some,List.getD,h,Option.getD_some];cases h2:rec[j]? with
   |none=>simp[Fg]
   |some l=>cases l<;>simp[Fg]
theorem dm {c:aa}{n:Nat}{r:ay}(h:n<c.length):(c.set n r).getD n []=r:=by simp[List.getD,h]
theorem mU {sz:Nat}{c:aa}{n j:Nat}{r:ay}(h:n<c.length):bT (.s sz (c.set n r)) [(n,j)]=some (r,j):=by simp[bT,h]
theorem rD {sz:Nat}{c:aa}{n j:Nat}(h:n<c.length):bT (.s sz c) [(n,j)]=some (c.getD n [],j):=by simp[bT,List.getD,h]
theorem tu {sz:Nat}{c:aa}{n j:Nat}{r:ay}(h:n<c.length):gO (.s sz (c.set n r)) [(n,j)]=match r[j]? with
 |some (.s sz es)=>some (sz,es)
 |_=>none:=by unfold gO;rw[mU h];rfl
theorem wU {sz:Nat}{c:aa}{n j:Nat}(h:n<c.length):gO (.s sz c) [(n,j)]=match(c.getD n [])[j]? with
 |some (.s sz es)=>some (sz,es)
 |_=>none:=by unfold gO;rw[rD h];rfl
theorem cn {a b:List aa}{k:Int}(hk:0<=k):bc a k<=bc (a++b) k/\0<=bc a k:=by
 rw[<-kv,Dg (rs:=b),Dg (rs:=a)];have:=H3 (rs:=a);have:=H3 (rs:=b);omega
theorem HS {l:L}{k:Int}{z:L}(h:iB z l=true):iB z (jf l k).1=true:=by
 cases l with
 |v x=>cases x<;>cases z<;>simp_all [jf,iB]<;>(rename_i y;cases y<;>simp_all [iB])
 |s sz es=>cases z<;>simp_all [jf,iB]
 |g=>exact h
 |m _ _=>exact h
theorem BH :∀ {z e:ay} {k:Int},fF z e=true->fF z (kD e k).1=true
 |[],[],_,_=>rfl
 |[],_::_,_,h=>by simp[fF]at h
 |_::_,[],_,h=>by simp[fF]at h
 | z::zs,l::ls,k,h=>by
   simp only[fF,Bool.and_eq_true,kD]at h ⊢;exact⟨HS h.1,BH h.2⟩
theorem yG :∀ {z:ay} {es:aa} {k:Int},Wf z es->Wf z (cD es k).1
 |z,[],_,_=>fun e he=>by cases he
 | z,e::es,k,h=>by
   intro x hx;simp only[cD,List.mem_cons]at hx;rcases hx with rfl|hx
   ·exact BH (h e (by simp))
   ·exact yG (fun y hy=>h y (by simp[hy])) x hx
theorem Al {fs:List Ty}{es:aa}{k:Int}(h:Rw fs es):Wf (zR fs) (bV es k):=yG h.wf
end Go.V
namespace Go.V
mutual
def IZ :Ty->Nat
 | .sl fs=>zU fs
 |_=>1
def zU :List Ty->Nat
 |[]=>0
 |t::ts=>IZ t+zU ts
end
mutual
theorem Ml :∀ (t:Ty) (l:L),b8 t l->(jf l 0).2<=(IZ t*(gN l+1):Nat)
 | .int k,.v x,h=>by cases x<;>simp[jf,gN,IZ]
 | .int k,.s _ _,h=>by simp[b8]at h
 | .int k,.g,h=>by simp[b8]at h
 | .bool,.v x,h=>by cases x<;>simp[jf,gN,IZ]
 | .bool,.s _ _,h=>by simp[b8]at h
 | .bool,.g,h=>by simp[b8]at h
 | .str,.v x,h=>by cases x<;>simp[jf,gN,IZ]
 | .str,.s _ _,h=>by simp[b8]at h
 | .str,.g,h=>by simp[b8]at h
 | .sl fs,.v x,h=>by simp[b8]at h
 | .sl fs,.g,h=>by simp[b8]at h
 | .sl fs,.s sz es,h=>by
   have h1:=xi fs es (by simp only[b8]at h;exact h.2.2);simp only[jf,gN,IZ];have:zU fs*(es.length+bA es)<=zU fs*(es.length+bA es+1):=Nat.mul_le_mul_left _ (by omega);omega
theorem Fv :∀ (ts:List Ty) (ls:ay),bY ts ls->(kD ls 0).2<=(zU ts*(dV ls+1):Nat)
 |[],[],_=>by simp only[kD];exact Int.natCast_nonneg _
 |[],_::_,h=>h.elim
 |_::_,[],h=>h.elim
 | t::ts,l::ls,h=>by
   have h1:=Ml t l h.1;have h2:=Fv ts ls h.2;simp only[kD];rw[vY];have e1:IZ t*(gN l+1)<=IZ t*(dV (l::ls)+1):=Nat.mul_le_mul_left _ (by simp[dV]);have e2:zU ts*(dV ls+1)<=zU ts*(dV (l::ls)+1):=Nat.mul_le_mul_left _ (by simp[dV]);have e3:zU (t::ts)*(dV (l::ls)+1)=IZ t*(dV (l::ls)+1)+zU ts*(dV (l::ls)+1):=by simp only[zU];rw[Nat.add_mul]
   omega
theorem xi :∀ (ts:List Ty) (es:aa),(∀ e∈es,bY ts e)->(cD es 0).2<=(zU ts*(es.length+bA es):Nat)
 |ts,[],_=>by simp only[cD];exact Int.natCast_nonneg _
 | ts,e::es,h=>by
   have h1:=Fv ts e (h e (by simp));have h2:=xi ts es (fun x hx=>h x (by simp[hx]));simp only[cD];rw[je];have e3:zU ts*((e::es).length+bA (e::es))=zU ts*(dV e+1)+zU ts*(es.length+bA es):=by
    rw[<-Nat.mul_add];congr 1;simp[bA];omega
   omega
end
theorem Rw.marks {fs:List Ty}{es:aa}(h:Rw fs es)(hw:zU fs<=64):(cD es 0).2<=(64*ak es:Nat):=by
 have:=xi fs es h.2;have h2:zU fs*(es.length+bA es)<=64*(es.length+bA es):=Nat.mul_le_mul_right _ hw;unfold ak;omega
theorem yS :∀ {rs:List aa} {k:Int},(∀ r∈rs,(cD r 0).2<=(64*ak r:Nat))->bc rs k<=k+(64*ao rs:Nat)
 |[],k,_=>by simp[bc,ao]
 | r::rs,k,h=>by
   simp only[bc,ao];have h1:=h r (by simp);have h2:=yS (rs:=rs) (k:=(cD r k).2) (fun x hx=>h x (by simp[hx]));rw[je]at h2;rw[je r k];have:64*(ak r+ao rs)=64*ak r+64*ao rs:=Nat.mul_add _ _ _;omega
theorem E4 {rs:List aa}{k:Int}(h:∀ r∈rs,(cD r 0).2<=(64*ak r:Nat))(hk:0<=k/\k<=1000)(hc:ao rs<=1099511627776):bc rs k<=1152921504606846976:=by
 have:=yS (k:=k) h;have:64*ao rs<=64*1099511627776:=Nat.mul_le_mul_left _ hc;omega
theorem E3 {rs:List aa}{k:Int}(hk:0<=k):¬ bc rs k<0:=by
 rw[Dg];have:=H3 (rs:=rs);omega
theorem md {rs:List aa}(h:ao rs<=1048576):¬ bi rs 1048576<0:=by rw[dB];omega
theorem nF {es:aa}{k:Int}:Du (bV es k) 0 es.length=bV es k:=by
 rw[<-ff (es:=es) (k:=k),sa]
abbrev ez (a0 a1 a2:aa)(a3:Int)(a4 a5 a6 a7 a8 a9 aA aB:aa)(aC:Int)(aD:aa)(aE aF aG aH:Int)(aI:Bool)(aJ aK:Int)(aL:aa)(aM aN:Int):ay:=[.s 1 a0,.s 1 a1,.s 2 a2,.i a3,.s 1 a4,.s 2 a5,.s 3 a6,.s 3 a7,.s 4 a8,.s 1 a9,.s 1 aA,.s 1 aB,.i aC,.s 3 aD,.i aE,.i aF,.i aG,.i aH,.v (.bool aI),.i aJ,.i aK,.s 1 aL,.i aM,.i aN]
abbrev av :=Unit
abbrev F0 :av:=()
abbrev nB {P:Program}:TB P:={Φ:=Unit,F0:=()}
theorem dA {es:aa}{n:Nat}(h:ak es<=n):es.length<=n:=Nat.le_trans (Nat.le_add_right _ _) h
theorem KT {p:Prop}(h:p:=by
 try rw[ee (n:=es.length) g0 hlt (by omega)]
 try have hlt':i.toNat<es.length:=by omega
 try have hct:=dT (es:=es) (n:=i.toNat) (by omega);rw[he]at hct;simp only[dV,gN,Nat.add_zero,Nat.zero_add]at hct
 try have hks:=kx (es:=es) (k:=k) hlt';rw[he]at hks;simp only[kD,jf]at hks
 try have hms:=tW (es:=es) (k:=k) hlt';rw[he]at hms;simp only[kD,jf]at hms
 try have hcl:i.toNat<cur.length:=by rw[hc,kB g1];exact hlt'
 have hk1:=jK (es:=es) (k:=k) (n:=i.toNat)
 have hk2:=jK (es:=es) (k:=k) (n:=i.toNat+1)
 have hk3:=rH (es:=es) (k:=k)
 have hk4:=jK (es:=es) (k:=k) (n:=es.length)
 have hk5:=eZ (es:=es) (m:=0) (n:=i.toNat) g1 (Nat.zero_le _)
 have hk6:=eZ (es:=es) (m:=i.toNat) (n:=es.length) (Nat.le_refl _) g1
 try have hk7:=eZ (es:=es) (m:=i.toNat+1) (n:=es.length) (Nat.le_refl _) hlt'
 have hle1:=bF (es:=es) (n:=i.toNat+1)
 have hcE:ak es=es.length+bA es:=rfl
 rw[cC]at hk5
 try have hk8:=kw (es:=es) (n:=i.toNat) hlt'
 have ha1:bu .add .i64 k' 1=k'+1:=bj (by omega)
 have ha2:bu .add .i64 (k'+1) 1=k'+1+1:=bj (by omega)
 have ha3:bu .add .i64 (k'+1+1) 1=k'+1+1+1:=bj (by omega)
 have ha4:bu .add .i64 (k'+1+1+1) 1=k'+1+1+1+1:=bj (by omega)
 try simp only[ha1,ha2,ha3,ha4]
 try simp only[az]
 try simp only[uu,hcg,List.take,List.drop,List.length_cons,List.length_nil,List.nil_append,List.cons_append,List.append_nil,Nat.zero_add,Nat.reduceAdd,dm hcl,List.set_set,List.append_assoc]
 try simp only[rO,hcg,dm hcl,List.getD_cons_zero,List.getD_cons_succ,Fg]
 try simp only[rD hcl,mU hcl,wU hcl,tu hcl,hcg,List.getElem?_cons_zero,List.getElem?_cons_succ]
 first|exact⟨g0,hlt⟩|(refine⟨_,_,rfl,?_⟩;simp;done)|omega|(rw[hk',show i.toNat=es.length from by omega,hk3];done)|(rw[hc,show i.toNat=es.length from by omega,tV];rfl)|(rw[show(i+1).toNat=i.toNat+1 from by omega,hks,hk'];done)|(rw[show(i+1).toNat=i.toNat+1 from by omega, <-hms,hc,hk'];done)|trace_state):p:=h
theorem mh {p:Prop}(h:p:=by
 intro O r F hO hr hF;cbv
 repeat' first|apply And.intro|(apply be<;>intro hb<;>cbv)
 all_goals(subst hO hr hF;(try simp only[nc]at*);(try simp only[ai,SS,sa,az]at*))
 all_goals first|trivial|trace_state):p:=h
theorem I5 {p:Prop}(h:p:=by
 try rw[ee (n:=es.length) g0 hlt (by omega)]
 try have hct:=dT (es:=es) (n:=i.toNat) (by omega);rw[he]at hct;simp only[dV,gN,Nat.add_zero,Nat.zero_add]at hct
 have hle1:=bF (es:=es) (n:=i.toNat+1)
 have hcE:ak es=es.length+bA es:=rfl
 first|exact gG hwf g0 hlt|exact⟨g0,hlt⟩|(rw[hm];exact kW (by rw[dW g1];omega) (by rw[eY (by omega)];exact Nat.le_refl _))|omega|(rw[show(i+1).toNat=i.toNat+1 from by omega, <-oH (by omega), <-hm,rS (by rw[hm,eY (by omega)];rfl),he])|(rw[hm,dW g1];exact⟨trivial,rfl⟩)|(rw[hm,show i.toNat=es.length from by omega,oG])|trace_state):p:=h
theorem TH {p:Prop}(h:p:=by
 try have hct:=dT (es:=es) (n:=i.toNat) (by omega);rw[he]at hct;simp only[dV,gN,Nat.add_zero,Nat.zero_add]at hct
 try have hks:=kx (es:=es) (k:=k) hlt';rw[he]at hks;simp only[kD,jf]at hks
 try have hms:=tW (es:=es) (k:=k) hlt';rw[he]at hms;simp only[kD,jf]at hms
 try have hcl:i.toNat<cur.length:=by rw[hc,kB g1];exact hlt'
 have hk1:=jK (es:=es) (k:=k) (n:=i.toNat)
 have hk2:=jK (es:=es) (k:=k) (n:=i.toNat+1)
 have hk3:=rH (es:=es) (k:=k)
 have hk4:=jK (es:=es) (k:=k) (n:=es.length)
 have hk5:=eZ (es:=es) (m:=0) (n:=i.toNat) g1 (Nat.zero_le _)
 have hk6:=eZ (es:=es) (m:=i.toNat) (n:=es.length) (Nat.le_refl _) g1
 try have hk7:=eZ (es:=es) (m:=i.toNat+1) (n:=es.length) (Nat.le_refl _) hlt'
 have hle1:=bF (es:=es) (n:=i.toNat+1)
 have hcE:ak es=es.length+bA es:=rfl
 rw[cC]at hk5
 try have hk8:=kw (es:=es) (n:=i.toNat) hlt'
 have ha1:bu .add .i64 k' 1=k'+1:=bj (by omega)
 have ha2:bu .add .i64 (k'+1) 1=k'+1+1:=bj (by omega)
 have ha3:bu .add .i64 (k'+1+1) 1=k'+1+1+1:=bj (by omega)
 have ha4:bu .add .i64 (k'+1+1+1) 1=k'+1+1+1+1:=bj (by omega)
 try simp only[ha1,ha2,ha3,ha4]
 try simp only[az]
 try simp only[uu,hcg,List.take,List.drop,List.length_cons,List.length_nil,List.nil_append,List.cons_append,List.append_nil,Nat.zero_add,Nat.reduceAdd,dm hcl,List.set_set,List.append_assoc]
 try simp only[rO,hcg,dm hcl,List.getD_cons_zero,List.getD_cons_succ,Fg]
 try simp only[rD hcl,mU hcl,wU hcl,tu hcl,hcg,List.getElem?_cons_zero,List.getElem?_cons_succ]
 first|exact⟨g0,hlt⟩|(refine⟨_,_,rfl,by simp,?_⟩;show List.take _ (List.drop _ _)=[L.s _ (rN _ _)];simp only[rY,rO,hcg,dm hcl,List.getD_cons_zero,List.getD_cons_succ,Nat.add_zero,Fg];rfl)|exact⟨trivial,_,rfl,rfl⟩|exact⟨_,rfl⟩|omega|(rw[hk',show i.toNat=es.length from by omega,hk3];done)|(rw[hc,show i.toNat=es.length from by omega,tV];rfl)|(rw[show(i+1).toNat=i.toNat+1 from by omega,hks,hk'];rfl)|(rw[show(i+1).toNat=i.toNat+1 from by omega, <-hms,hc,hk'];rfl)|(refine⟨hr0,?_,?_,?_⟩<;>(try simp only[ak,bc])<;>first|omega|(rw[hk'];omega))|trace_state):p:=h
theorem KU {p:Prop}(h:p:=by
 try rw[ee (n:=es.length) g0 hlt (by omega)]
 try have hct:=dT (es:=es) (n:=i.toNat) (by omega);rw[he]at hct;simp only[dV,gN,Nat.add_zero,Nat.zero_add]at hct
 have hle1:=bF (es:=es) (n:=i.toNat+1)
 have hcE:ak es=es.length+bA es:=rfl
 first|omega|exact gG hwf g0 hlt|trivial|trace_state):p:=h
theorem I7 {p:Prop}(h:p:=by
 intro O r F hO hr hF;cbv
 repeat' first|apply And.intro|(apply be<;>intro hb<;>cbv)
 all_goals(subst hO hr hF;(try simp only[nc]at*);(try simp only[ai,SS,sa,az]at*))
 all_goals(try simp only[hs]at*)
 all_goals first|trivial|(rw[hn,if_pos (by omega)])|(rw[hn,if_neg (by omega)])):p:=h
theorem TJ {p:Prop}(h:p:=by
 intro O r F hO hr hF;cbv
 repeat' first|apply And.intro|(apply be<;>intro hb<;>cbv)
 all_goals(subst hO hr hF;(try simp only[nc]at*);(try simp only[ai,SS,sa,az]at*))
 all_goals(try simp only[nF]at*)
 all_goals first|exact True.intro|(show aU _ _=true;kernel_rfl)|exact⟨True.intro,True.intro⟩|exact⟨ha0,ha1,ha2,ha4,ha5,ha6,ha7,ha8,ha9,ha10,ha11,ha13,ha21,by omega,by omega⟩|exact⟨ha0,ha1,ha2,ha4,ha5,ha6,ha7,ha8,ha9,ha10,ha11,ha13,ha21,hs⟩|exact⟨ha0,ha1,ha2,ha4,ha5,ha6,ha7,ha8,ha9,ha10,ha11,ha13,ha21⟩|exact⟨trivial,ha0,ha1,ha2,ha4,ha5,ha6,ha7,ha8,ha9,ha10,ha11,ha13,ha21,by omega⟩|exact⟨rfl,ha0,ha1,ha2,ha4,ha5,ha6,ha7,ha8,ha9,ha10,ha11,ha13,ha21,by omega⟩|exact hN|exact rfl|exact absurd rfl (by assumption)|(exfalso;omega)|trivial|trace_state):p:=h
theorem TK {p:Prop}(h:p:=by
 try have hct:=dT (es:=es) (n:=i.toNat) (by omega);rw[he]at hct;simp only[dV,gN,Nat.add_zero,Nat.zero_add]at hct
 have hle1:=bF (es:=es) (n:=i.toNat+1)
 have hcE:ak es=es.length+bA es:=rfl
 first|exact gG hwf g0 hlt|exact⟨g0,hlt⟩|(rw[hm];exact kW (by rw[dW g1];omega) (by rw[eY (by omega)];exact Nat.le_refl _))|omega|(rw[show(i+1).toNat=i.toNat+1 from by omega, <-oH (by omega), <-hm,rS (by rw[hm,eY (by omega)];rfl),he])|(rw[hm,dW g1];exact⟨trivial,rfl⟩)|(rw[hm,show i.toNat=es.length from by omega,oG])|trivial|(refine⟨hr0,?_⟩;simp only[ao,ak,Nat.add_zero];omega)|trace_state):p:=h
theorem TL {p:Prop}(h:p:=by
 have hle:=bF (es:=es) (n:=i.toNat)
 try have hct:=dT (es:=es) (n:=i.toNat) (by omega);rw[he]at hct;simp only[dV,gN,Nat.add_zero,Nat.zero_add]at hct
 have hle1:=bF (es:=es) (n:=i.toNat+1)
 simp only[ao,ak,Nat.add_zero]at hsz hsz2
 first|exact gG hwf g0 hlt|exact⟨hr0,by omega,by omega⟩|trivial|omega|(rw[hn,if_pos];omega)|(rw[hn,if_neg (by rw[show i.toNat=es.length from by omega,List.take_length]at g3;omega),show l=left-ak es from by rw[show i.toNat=es.length from by omega,List.take_length]at g3;omega])|(rw[show(i+1).toNat=i.toNat+1 from by omega,hct];omega)|trace_state):p:=h
theorem RL {p:Prop}(h:p:=by
 intro O r os F hO hr hos hF;cbv
 repeat' first|apply And.intro|(apply be<;>intro hb<;>cbv)
 all_goals((try subst hos);subst hO hr hF;(try simp only[nc]at*);(try simp only[ai,SS,sa,az]at*))
 all_goals(try simp only[kv,List.cons_append,List.nil_append,ff]at*)
 all_goals first|trivial|(refine⟨by assumption,?_,?_,?_⟩<;>(try simp only[kv,List.cons_append,List.nil_append,ao,Nat.add_zero])<;>omega)|trace_state):p:=h
theorem zS {p:Prop}(h:p:=by
 repeat' first|apply And.intro|(apply be<;>intro hb<;>cbv)
 all_goals(subst hO hr hF;(try simp only[nc]at*);(try simp only[ai,SS,sa,az]at*))
 all_goals first|trivial|exact rfl):p:=h
theorem I3 {p:Prop}(h:p:=by
 intro O r F hO hr hF;cbv
 repeat' first|apply And.intro|(apply be<;>intro hb<;>cbv)
 all_goals(subst hO hr hF;(try simp only[nc]at*);(try simp only[ai,SS,sa,az]at*))
 all_goals iterate 1 (try simp(disch:=assumption) only[hJ,List.cons_append,List.nil_append]at*)
 all_goals first|trivial|(rw[gI (by assumption)])|trace_state):p:=h
theorem I4 {p:Prop}(h:p:=by
 intro O r os F hO hr hos hF;cbv
 repeat' first|apply And.intro|(apply be<;>intro hb<;>cbv)
 all_goals((try subst hos);subst hO hr hF;(try simp only[nc]at*);(try simp only[ai,SS,sa,az]at*))
 all_goals(try simp only[kv,List.cons_append,List.nil_append,ff]at*)
 all_goals first|trivial|trace_state):p:=h
theorem Q4 {p:Prop}(h:p:=by
 (try have z:=Mx (by assumption))
 (try have y2:=hp.xn j)
 (try have y1:=hp.bn i)
 (try have z6:bu .add .i64 k 1=k+1:=bj (by omega))
 (try simp only[z6]at*)
 first
  | (show(_:List DV)=_
     first
      |(refine gH ?_;exact SA (by assumption))
      |(refine gH ?_;exact LC j2 (by assumption) j1 (by assumption))
      |done)
  |omega
  |exact d9
  |exact Rw.scal (Rw.sub (fs:=[.sl [tI]]) hxw (by omega) rfl) rfl
  |(have q:=k2.l;constructor<;>(simp only[List.length_cons,List.length_nil];omega))
  |(have q:=j2.l;constructor<;>omega)
  |exact Of k2 k0
  |exact Lw k2 i0 y1 k1 (by omega)
  |exact R5 i2
  |exact R6 i2 i1 (by omega)
  |exact Oj j2 j0 y2
  |exact R4
  |exact⟨True.intro,True.intro⟩
  |done):p:=h
theorem Q5 {p:Prop}(h:p:=by
 (try simp only[z9]at*)
 first
  | (show(_:List DV)=_
     first
      |(refine ag ?_;symm;exact Mu (by assumption))
      |(refine ag ?_;symm;exact Mv (by assumption))
      |(refine ag ?_;symm;exact FE i0 (by omega) k0 (by assumption) (P3 (by assumption)))
      |(refine ag ?_;symm;exact FE i0 (by omega) k0 (by assumption) (P4 (by assumption)))
      |(refine ag ?_;symm;exact Mw i0 (by omega) j0 (by assumption) (RR (by assumption)))
      |(refine ag ?_;rw[Mt i2 (by assumption) (by omega) i1 (by omega)];rfl)
      |done)
  |omega
  |exact d9
  |(show aU _ _=true;kernel_rfl)
  |exact aX
  |exact aP k2 (P5 (by assumption) (by assumption))
  |exact aP j2 (NS (by assumption))
  |exact Pz i2 i0 k2 (by omega) j2 (by omega)
  |exact SN
  |done):p:=h
theorem Q6 {p:Prop}(h:p:=by
 (subst hO hr hF;(try simp only[nc]at*);(try simp only[ai,SS,sa,az]at*))
 (try have cb:=hC.b)
 (try have z:=N1 hC i0 (by assumption))
 (try rw[z.2.1,z.2.2.1]at*)
 (try have f:=hC.f i i0 (by assumption))
 (try have hr:Rw [tI] (ax a0 (peF a2 ((a+i)/16)) 0):=Rw.sub (fs:=[.sl [tI]]) hc (by omega) rfl)
 (try have w1:=HK i2 i0)
 try rw[bX (by omega) (by omega)]
 first
  | (show(_:List DV)=_
     first
      |exact gH (HJ i2 i1 (by omega))
      |done)
  |omega
  |exact d9
  |exact Li i2 i0
  |exact RY
  |(constructor<;>(simp only[List.length_cons,List.length_nil];omega))
  |exact⟨True.intro,True.intro⟩
  |done):p:=h
theorem Q7 {p:Prop}(h:p:=by
 (subst hO hr hF;(try simp only[nc]at*);(try simp only[ai,SS,sa,az]at*))
 try rw[bX (by omega) (by omega)]
 (try have z:=vB i0 (by omega))
 (try simp only[z]at*)
 first
  | (show(_:List DV)=_
     first
      |(refine ag ?_;symm;exact MZ i0 (by assumption) (by assumption))
      |(refine ag ?_;symm;exact M0 i0 (by assumption) (by assumption) (by assumption))
      |(refine ag ?_;exact MY i2 (by omega))
      |(have q:false=true:=(by assumption);cases q)
      |done)
  |omega
  |exact d9
  |(show aU _ _=true;kernel_rfl)
  |exact aX
  |exact aP i2 (IE (by assumption) (by omega))
  |exact aP i2 (IF (by assumption) (by assumption))
  |done):p:=h
theorem Q8 {p:Prop}(h:p:=by
 (subst hO hr hF;(try simp only[nc]at*);(try simp only[ai,SS,sa,az]at*))
 try rw[bX (by omega) (by omega)]
 first|omega|exact d9|exact aX|contradiction|exact ag (Lx (by assumption)).symm|exact ag (Ly (by omega)).symm|exact ag (LA i0 (by omega) (by omega)).symm|exact ag (EK i0 (by omega) k0 (by omega) (.inl (by assumption))).symm|exact ag (EK i0 (by omega) k0 (by omega) (.inr ⟨by assumption,by assumption⟩)).symm|exact ag (LB (by assumption) (by omega) i2 (by omega)).symm|exact aP i2 (Oi (by omega) k2 (by omega))|exact aP k2 (N2 (by assumption) (by first|exact .inl (by assumption)|exact .inr (by assumption)))|trace_state):p:=h
theorem G8 {p:Prop}(h:p:=by
 intro O r F hO hr hF;cbv
 repeat' first|apply And.intro|(apply be<;>intro hb<;>cbv)
 all_goals(subst hO hr hF;(try simp only[nc]at*);(try simp only[ai,SS,sa,az]at*))
 all_goals first|exact rfl|done):p:=h
theorem Nq {p:Prop}(h:p:=by
 try have hct:=dT (es:=es) (n:=i.toNat) (by omega);rw[he]at hct;simp only[dV,gN,Nat.add_zero,Nat.zero_add]at hct
 have hle1:=bF (es:=es) (n:=i.toNat+1)
 have hcE:ak es=es.length+bA es:=rfl
 first|omega|exact gG hwf g0 hlt|trivial|(refine⟨trivial,hr0,?_⟩;simp only[ao,ak,Nat.add_zero];omega)|trace_state):p:=h
theorem Q9 {p:Prop}(h:p:=by
 (subst hO hr hF;(try simp only[nc]at*);(try simp only[ai,SS,sa,az]at*))
 try rw[bX (by omega) (by omega)]
 try(have hpl:=xz (es:=es) (f:=f) (n:=i.toNat);rw[<-i2]at hpl)
 first|omega|exact d9|(exact⟨trivial,trivial⟩)|rfl|(simp only[List.length_cons,List.length_nil];omega)|(rw[Iw i0 (by assumption) (by assumption), <-i2])|(rw[Gc i0 (.inl (by assumption)), <-i2])|(rw[Gc i0 (.inr (by assumption)), <-i2])|exact xD (by rw[i2,show i.toNat=es.length from by omega];rfl)|trace_state):p:=h
theorem Ra {p:Prop}(h:p:=by
 (subst hO hr hF;(try simp only[nc]at*);(try simp only[ai,SS,sa,az]at*))
 try rw[bX (by omega) (by omega)]
 try(have un:=FG (es:=es) (n:=i.toNat);have en:bu .add .i64 n 1=n+1:=bj (by omega);simp only[en])
 first
  | (show(_:List DV)=_
     first
      |exact bJ (i2.trans (My i1 (by omega)))
      |done)
  |exact d9
  |omega
  |(rw[bX (by omega) (by omega),Mz i0 (by assumption), <-i2])
  |exact i2.trans (PC i0 (by assumption)).symm
  |exact rfl
  |done):p:=h
theorem Rb {p:Prop}(h:p:=by
 (subst hO hr hF;(try simp only[nc]at*);(try simp only[ai,SS,sa,az]at*))
 try rw[bX (by omega) (by omega)]
 first
  | (show(_:List DV)=_
     first
      |exact bJ (OZ (by assumption)).symm
      |exact bJ (H9 j2 (by assumption) j1 (by omega))
      |done)
  |omega
  |exact d9
  |exact⟨hs,hl,ns,nl⟩
  |exact Na i2 i0 (by omega)
  |exact Mc j2 (Dj (by assumption)) j0 (by omega) (by omega) (by omega)
  |exact QQ
  |exact O3 i2 i1 (by omega)
  |done):p:=h
theorem Rc {p:Prop}(h:p:=by
 (subst hO hr hF;(try simp only[nc]at*);(try simp only[ai,SS,sa,az]at*))
 try rw[bX (by omega) (by omega)]
 first
  | (show(_:List DV)=_
     first
      |exact ag (Ls (by omega)).symm
      |exact ag (Lt i0 (by omega) (by assumption)).symm
      |exact ag (Lu (by omega) i2 (by omega)).symm
      |done)
  |omega
  |exact d9
  |(show aU _ _=true;kernel_rfl)
  |exact aX
  |exact aP i2 (kj (by assumption))
  |done):p:=h
theorem Re {p:Prop}(h:p:=by
 intro O r F hO hr hF;cbv
 repeat' first|apply And.intro|(apply be<;>intro hb<;>cbv)
 all_goals(subst hO hr hF;(try simp only[nc]at*);(try simp only[ai,SS,sa,az]at*))
 all_goals(try simp only[hsb]at*)
 all_goals(try simp only[bE,tJ]at*)
 all_goals first|exact yt (za (by omega)).1.symm (za (by omega)).2.symm|exact yt (xx (by omega)).1.symm (xx (by omega)).2.symm|exact d9|trace_state):p:=h
theorem Rf {p:Prop}(h:p:=by
 intro O r F hO hr hF;cbv
 repeat' first|apply And.intro|(apply be<;>intro hb<;>cbv)
 all_goals(subst hO hr hF;(try simp only[nc]at*);(try simp only[ai,SS,sa,az]at*))
 all_goals try(have hs:=QT.1 (‹slB b i=true›);have hw:=G6 hs.2.1 hs.2.2;simp only[hw]at*)
 all_goals first
  | (show(_:List DV)=_
     first
      |exact ag (OK (by assumption)).symm
      |(refine ag (ec ?_);unfold hsB;rw[show slB b i=true from by assumption,Bool.true_and,decide_eq_true_eq];simp only[SS])
      |done)
  |omega
  |trace_state):p:=h
theorem Rh {p:Prop}(h:p:=by
 (subst hO hr hF;(try simp only[nc]at*);(try simp only[ai,SS,sa,az]at*))
 try rw[bX (by omega) (by omega)]
 first|omega|exact d9|exact aX|contradiction|exact ag (Nj i2 (by omega)).symm|(simp only[bE,tJ]at*;first|exact ag (QZ i0 (by omega) (by omega)).symm|exact aP i2 (QY (by omega)))|trace_state):p:=h
theorem I6 {p:Prop}(h:p:=by
 (subst hO hr hF;(try simp only[nc]at*);(try simp only[ai,SS,sa,az]at*))
 (try simp only[hs]at*)
 first|trivial|(rw[hn,if_pos (by omega)])|trace_state):p:=h
theorem Ri {p:Prop}(h:p:=by
 (subst hO hr hF;(try simp only[nc]at*);(try simp only[ai,SS,sa,az]at*))
 try rw[bX (by omega) (by omega)]
 first|(show(_:List DV)=_;exact bJ (MV i2 i1 (by omega)))|omega|exact d9|exact S7|exact Qp i2 i0 (by omega)|done):p:=h
theorem Rj {p:Prop}(h:p:=by
 intro O r F hO hr hF;cbv
 repeat' first|apply And.intro|(apply be<;>intro hb<;>cbv)
 all_goals(subst hO hr hF;(try simp only[nc]at*);(try simp only[ai,SS,sa,az]at*))
 all_goals(try have t:=bE.1 hb)
 all_goals(try have z:bu .sub .i64 n l=n-l:=cL (by omega))
 all_goals(try simp only[z]at*)
 all_goals first|(show(_:List DV)=_;refine ag ?_;unfold rngIn;simp[hb];done)|done):p:=h
theorem Rk {p:Prop}(h:p:=by
 (try simp only[bE,tJ]at*)
 (try rw[bX (by omega) (by omega)])
 first|trivial|omega|exact JF (by omega) (by assumption) (by omega)|(have:=JF (k:=k) (s:=s) (by omega) (by assumption) (by omega);omega)|exact bJ (N4 (by omega)).symm|exact bJ (Lj (by omega) (by assumption) (by omega) (by assumption)).symm|exact .inl trivial|(rw[show k+1-1=k by omega];exact .inr (by assumption))|trace_state):p:=h
theorem Rl {p:Prop}(h:p:=by
 intro O r F hO hr hF;cbv
 repeat' first|apply And.intro|(apply be<;>intro hb<;>cbv)
 all_goals(subst hO hr hF;(try simp only[nc]at*);(try simp only[ai,SS,sa,az]at*))
 all_goals first
  | (show(_:List DV)=_
     first
      |exact xD (EJ (by assumption)).symm
      |exact xD (BI (by assumption)).symm
      |done)
  |exact⟨hw,hn⟩
  |exact hw
  |exact⟨True.intro,True.intro⟩
  |trace_state):p:=h
theorem Rm {p:Prop}(h:p:=by
 intro O r F hO hr hF;cbv
 repeat' first|apply And.intro|(apply be<;>intro hb<;>cbv)
 all_goals(subst hO hr hF;(try simp only[nc]at*);(try simp only[ai,SS,sa,az]at*))
 all_goals first
  | (show(_:List DV)=_
     first
      |exact ag (by unfold slB;rw[decide_eq_true (by assumption)];rfl)
      |exact ag (by unfold slB;rw[decide_eq_false (by omega)];rfl)
      |done)
  |trace_state):p:=h
theorem Rn {p:Prop}(h:p:=by
 intro O r F hO hr hF;cbv
 repeat' first|apply And.intro|(apply be<;>intro hb<;>cbv)
 all_goals(subst hO hr hF;(try simp only[nc]at*);(try simp only[ai,SS,sa,az]at*))
 all_goals first|exact hp|exact bJ (TF (by assumption)).symm|exact bJ (TE (by assumption)).symm|exact⟨hp.e,by have:=hp.el;omega⟩|exact⟨hp.c,hp.u⟩|(show aU _ _=true;kernel_rfl)|done):p:=h
theorem Ro {p:Prop}(h:p:=by
 intro O r F hO hr hF;cbv
 repeat' first|apply And.intro|(apply be<;>intro hb<;>cbv)
 all_goals(subst hO hr hF;(try simp only[nc]at*);(try simp only[ai,SS,sa,az]at*))
 all_goals first|exact hp|exact gW (EO (by omega)).1.symm (EO (v:=0) (by omega)).2.symm|exact gW (JW (by omega)).1.symm (JW (v:=0) (by omega)).2.symm|exact⟨hp.c,hp.u,hp.e,hB⟩|done):p:=h
theorem Rp {p:Prop}(h:p:=by
 intro O r F hO hr hF;cbv
 repeat' first|apply And.intro|(apply be<;>intro hb<;>cbv)
 all_goals(subst hO hr hF;(try simp only[nc]at*);(try simp only[ai,SS,sa,az]at*))
 all_goals first|(show(_:List DV)=_;refine ag ?_;unfold mshB;simp[*];done)|(show(_:List DV)=_;refine ag ?_;unfold mshB;subst_vars;rw[cmp_eq];simp[*];done)|done):p:=h
theorem Rq {p:Prop}(h:p:=by
 intro O r F hO hr hF;cbv
 repeat' first|apply And.intro|(apply be<;>intro hb<;>cbv)
 all_goals(subst hO hr hF;(try simp only[nc]at*);(try simp only[ai,SS,sa,az]at*))
 all_goals iterate 2 (try simp(disch:=assumption) only[hJ,List.cons_append,List.nil_append]at*)
 all_goals first|trivial|(rw[gI (by assumption)])|trace_state):p:=h
theorem Rr {p:Prop}(h:p:=by
 intro O r F hO hr hF;cbv
 repeat' first|apply And.intro|(apply be<;>intro hb<;>cbv)
 all_goals(subst hO hr hF;(try simp only[nc]at*);(try simp only[ai,SS,sa,az]at*))
 all_goals first
  | (show(_:List DV)=_
     first
      |exact bJ (MP (by assumption))
      |exact bJ (Kv (by assumption)).symm
      |done)
  |omega
  |done):p:=h
theorem Rs {p:Prop}(h:p:=by
 intro O r F hO hr hF;cbv
 repeat' first|apply And.intro|(apply be<;>intro hb<;>cbv)
 all_goals(subst hO hr hF;(try simp only[nc]at*);(try simp only[ai,SS,sa,az]at*))
 all_goals first
  | (show(_:List DV)=_
     first
      |exact bJ (O7 (by assumption))
      |exact bJ (O8 (by assumption)).symm
      |done)
  |done):p:=h
theorem Rt {p:Prop}(h:p:=by
 intro O r F hO hr hF;cbv
 repeat' first|apply And.intro|(apply be<;>intro hb<;>cbv)
 all_goals(subst hO hr hF;(try simp only[nc]at*);(try simp only[ai,SS,sa,az]at*))
 all_goals first
  | (show(_:List DV)=_
     first
      |exact ag (ec (by unfold eqB;simp only[SS,decide_eq_true_eq]))
      |done)
  |done):p:=h
theorem Ru {p:Prop}(h:p:=by
 intro O r F hO hr hF;cbv
 repeat' first|apply And.intro|(apply be<;>intro hb<;>cbv)
 all_goals(subst hO hr hF;(try simp only[nc]at*);(try simp only[ai,SS,sa,az]at*))
 all_goals first|trivial|(refine⟨trivial,by assumption,?_⟩;(try simp only[ao,Nat.add_zero]);omega)|trace_state):p:=h
theorem Rv {p:Prop}(h:p:=by
 intro O r F hO hr hF;cbv
 repeat' first|apply And.intro|(apply be<;>intro hb<;>cbv)
 all_goals(subst hO hr hF;(try simp only[nc]at*);(try simp only[ai,SS,sa,az]at*))
 all_goals first|trivial|(refine⟨by assumption,?_⟩;(try simp only[ao,Nat.add_zero]);omega)|trace_state):p:=h
theorem Rx {p:Prop}(h:p:=by
 intro O r F hO hr hF;cbv
 repeat' first|apply And.intro|(apply be<;>intro hb<;>cbv)
 all_goals(subst hO hr hF;(try simp only[nc]at*);(try simp only[ai,SS,sa,az]at*))
 all_goals first|exact hp|(show(_:List DV)=_;refine ag ?_;unfold jbOk;simp[*];done)|done):p:=h
theorem Ry {p:Prop}(h:p:=by
 first|trivial|(refine⟨by assumption,by omega,by first|omega|exact Int.le_trans (o8 (by assumption)) h1⟩)|(rw[gI (by assumption)])|exact congrArg (fun x=>[DV.one (L.v (Value.int IntKind.i64 x))]) (dP (a:=[a0]) (b:=[a1]) (by assumption)).symm|trace_state):p:=h
theorem Rz {p:Prop}(h:p:=by
 intro O r F hO hr hF;cbv
 repeat' first|apply And.intro|(apply be<;>intro hb<;>cbv)
 all_goals(subst hO hr hF;(try simp only[nc]at*);(try simp only[ai,SS,sa,az]at*))
 all_goals first|exact hp|exact rfl|done):p:=h
theorem RA {p:Prop}(h:p:=by
 first|exact bJ (N7 (by assumption)).symm|(refine bJ ?_;rw[JE (by assumption)])|(rw[bE]at*;omega)|trace_state):p:=h
theorem d9 {p:Prop}(h:p:=by
 refine⟨by omega,by omega,(Rw.eta (by first|assumption|exact Rw.sub (by first|assumption|exact Rw.sub (by assumption) (by omega) rfl) (by omega) rfl) (by omega) (by omega)).trans ?_⟩;rfl):p:=h
end Go.V