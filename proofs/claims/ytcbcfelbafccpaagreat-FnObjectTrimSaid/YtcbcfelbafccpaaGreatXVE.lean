/-
  A condition generator for functions on trees of data, part 5 of 5: values in memory, contracts, soundness.
-/
import Derived.Test.YtcbcfelbafccpaaGreatXVD
set_option linter.all false
open Go
open Bool renaming and_eq_true->Zb
open List renaming getD_eq_getElem?_getD->Zp,all_cons->Xn,getD->ZE
open Nat renaming le_trans->ZA
namespace Go.V
mutual
def Gn:L->Nat
 | .s _ es=>es.length+dk es
 |_=>0
def mY:ax->Nat
 |[]=>0
 |l::ls=>Gn l+mY ls
def dk:af->Nat
 |[]=>0
 |e::es=>mY e+dk es
end
def bC (es:af):Nat:=es.length+dk es
def xf:List af->Nat
 |[]=>0
 |r::rs=>bC r+xf rs
def fg:∀ {a b:af},dk (a++b)=dk a+dk b
 |[],b=>by simp[dk]
 |e::a,b=>by simp[dk,fg (a:=a),Nat.add_assoc]
def Dy:∀ {ls:ax} {j:Nat} {l:L},ls[j]?=some l->Gn l<=mY ls
 |[],j,l,h=>by simp at h
 |x::ls,0,l,h=>by simp at h;subst h;simp[mY]
 |x::ls,j+1,l,h=>by simp at h;have:=Dy h;simp[mY];omega
def wid:Ty->Nat
 | .sl _=>0
 |_=>1
end Go.V
namespace Go.V
abbrev Rw (fs:List Ty)(es:af):Prop:=es.length<=maxLen/\∀ e∈es,bU fs e
abbrev tI:Ty:=.int .i64
abbrev tB:Ty:=.bool
mutual
def zL:Ty->L
 | .int k=>.v (.int k 0)
 | .bool=>.v (.bool false)
 | .str=>.v (.string .empty)
 | .sl fs=>.s fs.length []
def zR:List Ty->ax
 |[]=>[]
 |t::ts=>zL t::zR ts
end
def Ak:∀ {fs:List Ty} {e:ax},bU fs e->kU (zR fs) e=true
 |[],[],_=>rfl
 |[],_::_,h=>h.elim
 |_::_,[],h=>h.elim
 | t::ts,l::ls,h=>by
   obtain⟨h1,h2⟩:=h;simp only[zR,kU,Zb];refine⟨?_,Ak h2⟩;cases t with
   | int k=>cases l with
     | v x=>cases x with
       |int k' n=>simp only[dm]at h1;simp[zL,pw,h1.1]
       |_=>simp[dm]at h1
     |_=>simp[dm]at h1
   | bool=>cases l with
     | v x=>cases x with
       |bool b=>rfl
       |_=>simp[dm]at h1
     |_=>simp[dm]at h1
   | str=>cases l with
     | v x=>cases x with
       |string b=>rfl
       |_=>simp[dm]at h1
     |_=>simp[dm]at h1
   | sl fs=>cases l with
     |s sz es=>simp only[dm]at h1;simp[zL,pw,h1.1]
     |_=>simp[dm]at h1
def Rw.wf {fs:List Ty}{es:af}(h:Rw fs es):Wf (zR fs) es:=fun e he=>Ak (h.2 e he)
def Rw.at {fs:List Ty}{es:af}(h:Rw fs es){n:Nat}(hn:n<es.length):bU fs (es.getD n []):=by
 refine h.2 _ ?_;rw[Zp,List.getElem?_eq_getElem hn];exact List.getElem_mem _
def Rw.eta {fs:List Ty}{es:af}(h:Rw fs es){i:Int}(h0:0<=i)(h1:i<es.length):es.getD i.toNat []=ky am es i 0 (zR fs):=(B5 h.wf h0 h1).symm
def xi:∀ {fs:List Ty} {e:ax} {j:Nat} {gs:List Ty},bU fs e->fs[j]?=some (.sl gs)->∃ es',e[j]?=some (.s gs.length es')/\Rw gs es'
 |[],_,j,gs,_,h=>by simp at h
 |_::_,[],j,gs,h,_=>h.elim
 | t::ts,l::ls,0,gs,h,e=>by
   simp at e;subst e;have h1:=h.1;cases l with
   |s sz es=>simp only[dm]at h1;exact⟨es,by simp[h1.1],h1.2⟩
   |_=>simp[dm]at h1
 | t::ts,l::ls,j+1,gs,h,e=>by
   simp at e;obtain⟨es',h1,h2⟩:=xi h.2 e;exact⟨es',by simpa using h1,h2⟩
def Rw.sub {fs:List Ty}{es:af}(h:Rw fs es){i:Int}(hn:i.toNat<es.length){j:Nat}{gs:List Ty}(hj:fs[j]?=some (.sl gs)):Rw gs (aO es i j):=by
 obtain⟨es',h1,h2⟩:=xi (h.at hn) hj;unfold aO;rw[Zp (l:=es.getD i.toNat []),h1];exact h2
def Rw.nil {fs:List Ty}:Rw fs []:=⟨Nat.zero_le _,by simp⟩
def Rw.take {fs:List Ty}{es:af}(h:Rw fs es)(n:Nat):Rw fs (es.take n):=⟨by rw[List.length_take];exact ZA (Nat.min_le_right _ _) h.1,fun e he=>h.2 e (List.mem_of_mem_take he)⟩
def Rw.drop {fs:List Ty}{es:af}(h:Rw fs es)(n:Nat):Rw fs (es.drop n):=⟨by rw[List.length_drop];exact ZA (Nat.sub_le _ _) h.1,fun e he=>h.2 e (List.mem_of_mem_drop he)⟩
def Rw.append {fs:List Ty}{a b:af}(ha:Rw fs a)(hb:Rw fs b)(hl:a.length+b.length<=maxLen):Rw fs (a++b):=⟨by simpa using hl,fun e he=>by rcases List.mem_append.1 he with q|q;exact ha.2 e q;exact hb.2 e q⟩
def Rw.one {fs:List Ty}{e:ax}(h:bU fs e):Rw fs [e]:=⟨by simp[maxLen],by simpa using h⟩
def Rw.set {fs:List Ty}{es:af}(h:Rw fs es){e:ax}(he:bU fs e)(n:Nat):Rw fs (es.set n e):=⟨by simpa using h.1,fun x hx=>by rcases List.mem_or_eq_of_mem_set hx with q|q;exact h.2 x q;rw[q];exact he⟩
def Rw.replicate {fs:List Ty}{e:ax}(h:bU fs e){n:Nat}(hn:n<=maxLen):Rw fs (List.replicate n e):=⟨by simpa using hn,fun x hx=>by rw[List.eq_of_mem_replicate hx];exact h⟩
def su:Ty->Bool
 | .sl _=>false
 |_=>true
def vd {t:Ty}{l:L}(h:dm t l)(hs:su t=true):∃ x,l=.v x:=by
 cases t with
 |sl fs=>cases hs
 | int k=>cases l with
   |v x=>exact⟨x,rfl⟩
   |_=>simp[dm]at h
 | bool=>cases l with
   |v x=>exact⟨x,rfl⟩
   |_=>simp[dm]at h
 | str=>cases l with
   |v x=>exact⟨x,rfl⟩
   |_=>simp[dm]at h
def xr:∀ {fs:List Ty} {e:ax},fs.all su=true->bU fs e->mY e=0
 |[],[],_,_=>rfl
 |[],_::_,_,h=>h.elim
 |_::_,[],_,h=>h.elim
 | t::ts,l::ls,hs,h=>by
   simp only[Xn,Zb]at hs;obtain⟨x,rfl⟩:=vd h.1 hs.1;simp only[mY,Gn];rw[xr hs.2 h.2]
def Aq {fs:List Ty}(hs:fs.all su=true):∀ {es:af},(∀ e∈es,bU fs e)->dk es=0
 |[],_=>rfl
 |e::es,h=>by simp only[dk];rw[xr hs (h e (by simp)),Aq hs (fun x hx=>h x (by simp[hx]))]
def Rw.cnt {fs:List Ty}{es:af}(h:Rw fs es)(hs:fs.all su=true):bC es=es.length:=by unfold bC;rw[Aq hs h.2];rfl
def Rw.scal {fs:List Ty}{es:af}(h:Rw fs es)(hs:fs.all su=true):bN es:=by
 have key:∀ {fs:List Ty} {e:ax},fs.all su=true->bU fs e->iS e:=by
  intro fs
  induction fs with
  | nil=>intro e _ h;cases e with
    |nil=>trivial
    |cons _ _=>exact h.elim
  | cons t ts ih=>
    intro e hs h;cases e with
    |nil=>exact h.elim
    | cons l ls=>
      simp only[Xn,Zb]at hs;obtain⟨x,rfl⟩:=vd h.1 hs.1;exact(ih hs.2 h.2:iS ls)
 have:∀ {es:af},(∀ e∈es,bU fs e)->bN es:=by
  intro es
  induction es with
  |nil=>intro _;trivial
  |cons e es ih=>intro h;exact⟨key hs (h e (by simp)),ih (fun x hx=>h x (by simp[hx]))⟩
 exact this h.2
def Jt {es:af}{n:Nat}(hn:n<es.length):dk (es.take (n+1))=dk (es.take n)+mY (es.getD n []):=by
 rw[kf (d:=[]) hn,fg];simp[dk]
def wO {es:af}{n:Nat}:dk (es.take n)<=dk es:=by
 conv=>rhs;rw[<-List.take_append_drop n es,fg]
 omega
def Kx {sz:Nat}{c:af}{n j:Nat}:mT (.s sz c) [(n,j)]=LP ((c.getD n []).getD j .g):=by
 unfold mT gT;simp only[bP];cases h:c[n]? with
 |none=>simp[ZE,h,LP]
 | some rec=>
   simp only[Option.map_some,ZE,h,Option.getD_some];cases h2:rec[j]? with
   |none=>simp[LP]
   |some l=>cases l<;>simp[LP]
def JN {sz:Nat}{c:af}{n j:Nat}(h:n<c.length):bP (.s sz c) [(n,j)]=some (c.getD n [],j):=by simp[bP,ZE,h]
def JO {sz:Nat}{c:af}{n j:Nat}(h:n<c.length):gT (.s sz c) [(n,j)]=match(c.getD n [])[j]? with
 |some (.s sz es)=>some (sz,es)
 |_=>none:=by unfold gT;rw[JN h];rfl
end Go.V
namespace Go.V
abbrev LH (a0 a1 a2:af)(a3:Int)(a4 a5 a6 a7 a8 a9 aA aB:af)(aC:Int)(aD:af)(aE aF aG aH:Int)(aI:Bool)(aJ aK:Int)(aL:af)(aM aN:Int):ax:=[.s 1 a0,.s 1 a1,.s 2 a2,.i a3,.s 1 a4,.s 2 a5,.s 3 a6,.s 3 a7,.s 4 a8,.s 1 a9,.s 1 aA,.s 1 aB,.i aC,.s 3 aD,.i aE,.i aF,.i aG,.i aH,.v (.bool aI),.i aJ,.i aK,.s 1 aL,.i aM,.i aN]
abbrev Qw (a0 a1 a2:af)(a3:Int)(a4 a5 a6 a7 a8 a9 aA aB:af)(aC:Int)(aD:af)(aE aF aG aH:Int)(aI:Bool)(aJ aK:Int)(aL:af)(aM aN:Int):List H:=[.own (.s 1 a0),.own (.s 1 a1),.own (.s 2 a2),.own (.i a3),.own (.s 1 a4),.own (.s 2 a5),.own (.s 3 a6),.own (.s 3 a7),.own (.s 4 a8),.own (.s 1 a9),.own (.s 1 aA),.own (.s 1 aB),.own (.i aC),.own (.s 3 aD),.own (.i aE),.own (.i aF),.own (.i aG),.own (.i aH),.own (.v (.bool aI)),.own (.i aJ),.own (.i aK),.own (.s 1 aL),.own (.i aM),.own (.i aN)]
def ad4 {es:af}{n:Nat}(h:bC es<=n):es.length<=n:=ZA (Nat.le_add_right _ _) h
def zq0 {p:Prop}(h:p:=by
 intro O r F hO hr hF;cbv
 repeat' first|apply And.intro|(apply cN<;>intro hb<;>cbv)
 all_goals(subst hO hr hF;(try simp only[nc]at*);(try simp only[am,SS,sa,az]at*))
 all_goals first|exact hs|trivial|exact⟨trivial,trivial⟩|exact⟨hw,hl⟩|omega|(show ay _ _=true;kernel_rfl)|(simp only[List.length_nil];omega)|exact rfl|done):p:=h
def zq1 {p:Prop}(h:p:=by
 intro O r F hO hr hF;cbv
 repeat' first|apply And.intro|(apply cN<;>intro hb<;>cbv)
 all_goals(subst hO hr hF;(try simp only[nc]at*);(try simp only[am,SS,sa,az]at*))
 all_goals first|exact rfl|done):p:=h
def zq2 {p:Prop}(h:p:=by
 intro O r F hO hr hF;cbv
 repeat' first|apply And.intro|(apply cN<;>intro hb<;>cbv)
 all_goals(subst hO hr hF;(try simp only[nc]at*);(try simp only[am,SS,sa,az]at*))
 all_goals first
  | (show(_:List DV)=_
     first
      |exact cg (Pe Ud)
      |exact cg (TZ Ud).symm
      |done)
  |omega
  |done):p:=h
def zq3 {p:Prop}(h:p:=by
 intro O r F hO hr hF;cbv
 repeat' first|apply And.intro|(apply cN<;>intro hb<;>cbv)
 all_goals(subst hO hr hF;(try simp only[nc]at*);(try simp only[am,SS,sa,az]at*))
 all_goals first
  | (show(_:List DV)=_
     first
      |exact au (k8 (by unfold eqB;simp only[SS,VI]))
      |done)
  |done):p:=h
def zq4 {p:Prop}(h:p:=by
 intro O r F hO hr hF;cbv
 repeat' first|apply And.intro|(apply cN<;>intro hb<;>cbv)
 all_goals(subst hO hr hF;(try simp only[nc]at*);(try simp only[am,SS,sa,az]at*))
 all_goals first|exact hp|exact rfl|done):p:=h
def ga {p:Prop}(h:p:=by
 refine⟨Uc,Uc,(Rw.eta (by first|assumption|exact Rw.sub (by first|assumption|exact Rw.sub Ud Uc rfl) Uc rfl) Uc Uc).trans ?_⟩;rfl):p:=h
end Go.V