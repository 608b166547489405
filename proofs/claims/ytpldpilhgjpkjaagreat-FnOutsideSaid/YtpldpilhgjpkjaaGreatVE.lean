/-
  A condition generator for functions on trees of data, part 5 of 5: values in memory, contracts, soundness.
-/
import Derived.Test.YtpldpilhgjpkjaaGreatVD
set_option linter.all false
open Go
open Bool renaming and_eq_true->Zc
open List renaming getD_eq_getElem?_getD->Zo,all_cons->Xp,getD->ZC
open Nat renaming le_trans->ZN
namespace Go.V
mutual
def GY:L->Nat
 | .s _ es=>es.length+dy es
 |_=>0
def mW:aO->Nat
 |[]=>0
 |l::ls=>GY l+mW ls
def dy:af->Nat
 |[]=>0
 |e::es=>mW e+dy es
end
def bj (es:af):Nat:=es.length+dy es
def xK:List af->Nat
 |[]=>0
 |r::rs=>bj r+xK rs
theorem fK:∀ {a b:af},dy (a++b)=dy a+dy b
 |[],b=>by simp[dy]
 |e::a,b=>by simp[dy,fK (a:=a),Nat.add_assoc]
theorem DF:∀ {ls:aO} {j:Nat} {l:L},ls[j]?=some l->GY l<=mW ls
 |[],j,l,h=>by simp at h
 |x::ls,0,l,h=>by simp at h;subst h;simp[mW]
 |x::ls,j+1,l,h=>by simp at h;have:=DF h;simp[mW];omega
def wid:Ty->Nat
 | .sl _=>0
 |_=>1
end Go.V
namespace Go.V
abbrev Rw (fs:List Ty)(es:af):Prop:=es.length<=maxLen/\∀ e∈es,cy fs e
abbrev tI:Ty:=.int .i64
abbrev tB:Ty:=.bool
mutual
def zL:Ty->L
 | .int k=>.v (.int k 0)
 | .bool=>.v (.bool false)
 | .str=>.v (.string .empty)
 | .sl fs=>.s fs.length []
def zR:List Ty->aO
 |[]=>[]
 |t::ts=>zL t::zR ts
end
theorem AF:∀ {fs:List Ty} {e:aO},cy fs e->kX (zR fs) e=true
 |[],[],_=>rfl
 |[],_::_,h=>h.elim
 |_::_,[],h=>h.elim
 | t::ts,l::ls,h=>by
   obtain⟨h1,h2⟩:=h;simp only[zR,kX,Zc];refine⟨?_,AF h2⟩;cases t with
   | int k=>cases l with
     | v x=>cases x with
       |int k' n=>simp only[dz]at h1;simp[zL,pC,h1.1]
       |_=>simp[dz]at h1
     |_=>simp[dz]at h1
   | bool=>cases l with
     | v x=>cases x with
       |bool b=>rfl
       |_=>simp[dz]at h1
     |_=>simp[dz]at h1
   | str=>cases l with
     | v x=>cases x with
       |string b=>rfl
       |_=>simp[dz]at h1
     |_=>simp[dz]at h1
   | sl fs=>cases l with
     |s sz es=>simp only[dz]at h1;simp[zL,pC,h1.1]
     |_=>simp[dz]at h1
theorem Rw.wf {fs:List Ty}{es:af}(h:Rw fs es):Wf (zR fs) es:=fun e he=>AF (h.2 e he)
theorem Rw.at {fs:List Ty}{es:af}(h:Rw fs es){n:Nat}(hn:n<es.length):cy fs (es.getD n []):=by
 refine h.2 _ ?_;rw[Zo,List.getElem?_eq_getElem hn];exact List.getElem_mem _
theorem Rw.eta {fs:List Ty}{es:af}(h:Rw fs es){i:Int}(h0:0<=i)(h1:i<es.length):es.getD i.toNat []=ko am es i 0 (zR fs):=(Ci h.wf h0 h1).symm
theorem xN:∀ {fs:List Ty} {e:aO} {j:Nat} {gs:List Ty},cy fs e->fs[j]?=some (.sl gs)->∃ es',e[j]?=some (.s gs.length es')/\Rw gs es'
 |[],_,j,gs,_,h=>by simp at h
 |_::_,[],j,gs,h,_=>h.elim
 | t::ts,l::ls,0,gs,h,e=>by
   simp at e;subst e;have h1:=h.1;cases l with
   |s sz es=>simp only[dz]at h1;exact⟨es,by simp[h1.1],h1.2⟩
   |_=>simp[dz]at h1
 | t::ts,l::ls,j+1,gs,h,e=>by
   simp at e;obtain⟨es',h1,h2⟩:=xN h.2 e;exact⟨es',by simpa using h1,h2⟩
theorem Rw.sub {fs:List Ty}{es:af}(h:Rw fs es){i:Int}(hn:i.toNat<es.length){j:Nat}{gs:List Ty}(hj:fs[j]?=some (.sl gs)):Rw gs (ax es i j):=by
 obtain⟨es',h1,h2⟩:=xN (h.at hn) hj;unfold ax;rw[Zo (l:=es.getD i.toNat []),h1];exact h2
theorem Rw.nil {fs:List Ty}:Rw fs []:=⟨Nat.zero_le _,by simp⟩
theorem Rw.take {fs:List Ty}{es:af}(h:Rw fs es)(n:Nat):Rw fs (es.take n):=⟨by rw[List.length_take];exact ZN (Nat.min_le_right _ _) h.1,fun e he=>h.2 e (List.mem_of_mem_take he)⟩
theorem Rw.drop {fs:List Ty}{es:af}(h:Rw fs es)(n:Nat):Rw fs (es.drop n):=⟨by rw[List.length_drop];exact ZN (Nat.sub_le _ _) h.1,fun e he=>h.2 e (List.mem_of_mem_drop he)⟩
theorem Rw.append {fs:List Ty}{a b:af}(ha:Rw fs a)(hb:Rw fs b)(hl:a.length+b.length<=maxLen):Rw fs (a++b):=⟨by simpa using hl,fun e he=>by rcases List.mem_append.1 he with q|q;exact ha.2 e q;exact hb.2 e q⟩
theorem Rw.one {fs:List Ty}{e:aO}(h:cy fs e):Rw fs [e]:=⟨by simp[maxLen],by simpa using h⟩
theorem Rw.set {fs:List Ty}{es:af}(h:Rw fs es){e:aO}(he:cy fs e)(n:Nat):Rw fs (es.set n e):=⟨by simpa using h.1,fun x hx=>by rcases List.mem_or_eq_of_mem_set hx with q|q;exact h.2 x q;rw[q];exact he⟩
theorem Rw.replicate {fs:List Ty}{e:aO}(h:cy fs e){n:Nat}(hn:n<=maxLen):Rw fs (List.replicate n e):=⟨by simpa using hn,fun x hx=>by rw[List.eq_of_mem_replicate hx];exact h⟩
def sg:Ty->Bool
 | .sl _=>false
 |_=>true
theorem vy {t:Ty}{l:L}(h:dz t l)(hs:sg t=true):∃ x,l=.v x:=by
 cases t with
 |sl fs=>cases hs
 | int k=>cases l with
   |v x=>exact⟨x,rfl⟩
   |_=>simp[dz]at h
 | bool=>cases l with
   |v x=>exact⟨x,rfl⟩
   |_=>simp[dz]at h
 | str=>cases l with
   |v x=>exact⟨x,rfl⟩
   |_=>simp[dz]at h
theorem xV:∀ {fs:List Ty} {e:aO},fs.all sg=true->cy fs e->mW e=0
 |[],[],_,_=>rfl
 |[],_::_,_,h=>h.elim
 |_::_,[],_,h=>h.elim
 | t::ts,l::ls,hs,h=>by
   simp only[Xp,Zc]at hs;obtain⟨x,rfl⟩:=vy h.1 hs.1;simp only[mW,GY];rw[xV hs.2 h.2]
theorem AL {fs:List Ty}(hs:fs.all sg=true):∀ {es:af},(∀ e∈es,cy fs e)->dy es=0
 |[],_=>rfl
 |e::es,h=>by simp only[dy];rw[xV hs (h e (by simp)),AL hs (fun x hx=>h x (by simp[hx]))]
theorem Rw.cnt {fs:List Ty}{es:af}(h:Rw fs es)(hs:fs.all sg=true):bj es=es.length:=by unfold bj;rw[AL hs h.2];rfl
theorem Rw.scal {fs:List Ty}{es:af}(h:Rw fs es)(hs:fs.all sg=true):bM es:=by
 have key:∀ {fs:List Ty} {e:aO},fs.all sg=true->cy fs e->iR e:=by
  intro fs
  induction fs with
  | nil=>intro e _ h;cases e with
    |nil=>trivial
    |cons _ _=>exact h.elim
  | cons t ts ih=>
    intro e hs h;cases e with
    |nil=>exact h.elim
    | cons l ls=>
      simp only[Xp,Zc]at hs;obtain⟨x,rfl⟩:=vy h.1 hs.1;exact(ih hs.2 h.2:iR ls)
 have:∀ {es:af},(∀ e∈es,cy fs e)->bM es:=by
  intro es
  induction es with
  |nil=>intro _;trivial
  |cons e es ih=>intro h;exact⟨key hs (h e (by simp)),ih (fun x hx=>h x (by simp[hx]))⟩
 exact this h.2
theorem Kb {es:af}{n:Nat}(hn:n<es.length):dy (es.take (n+1))=dy (es.take n)+mW (es.getD n []):=by
 rw[j7 (d:=[]) hn,fK];simp[dy]
theorem xr {es:af}{n:Nat}:dy (es.take n)<=dy es:=by
 conv=>rhs;rw[<-List.take_append_drop n es,fK]
 omega
theorem KY {sz:Nat}{c:af}{n j:Nat}:mR (.s sz c) [(n,j)]=MB ((c.getD n []).getD j .g):=by
 unfold mR gW;simp only[bQ];cases h:c[n]? with
 |none=>simp[ZC,h,MB]
 | some rec=>
   simp only[Option.map_some,ZC,h,Option.getD_some];cases h2:rec[j]? with
   |none=>simp[MB]
   |some l=>cases l<;>simp[MB]
theorem Kl {sz:Nat}{c:af}{n j:Nat}(h:n<c.length):bQ (.s sz c) [(n,j)]=some (c.getD n [],j):=by simp[bQ,ZC,h]
theorem Km {sz:Nat}{c:af}{n j:Nat}(h:n<c.length):gW (.s sz c) [(n,j)]=match(c.getD n [])[j]? with
 |some (.s sz es)=>some (sz,es)
 |_=>none:=by unfold gW;rw[Kl h];rfl
end Go.V
namespace Go.V
abbrev QG (a0 a1 a2:af)(a3:Int)(a4 a5 a6 a7 a8 a9 aA aB:af)(aC:Int)(aD:af)(aE aF aG aH:Int)(aI:Bool)(aJ aK:Int)(aL:af)(aM aN:Int):aO:=[.s 1 a0,.s 1 a1,.s 2 a2,.i a3,.s 1 a4,.s 2 a5,.s 3 a6,.s 3 a7,.s 4 a8,.s 1 a9,.s 1 aA,.s 1 aB,.i aC,.s 3 aD,.i aE,.i aF,.i aG,.i aH,.v (.bool aI),.i aJ,.i aK,.s 1 aL,.i aM,.i aN]
abbrev R7 (a0 a1 a2:af)(a3:Int)(a4 a5 a6 a7 a8 a9 aA aB:af)(aC:Int)(aD:af)(aE aF aG aH:Int)(aI:Bool)(aJ aK:Int)(aL:af)(aM aN:Int):List H:=[.own (.s 1 a0),.own (.s 1 a1),.own (.s 2 a2),.own (.i a3),.own (.s 1 a4),.own (.s 2 a5),.own (.s 3 a6),.own (.s 3 a7),.own (.s 4 a8),.own (.s 1 a9),.own (.s 1 aA),.own (.s 1 aB),.own (.i aC),.own (.s 3 aD),.own (.i aE),.own (.i aF),.own (.i aG),.own (.i aH),.own (.v (.bool aI)),.own (.i aJ),.own (.i aK),.own (.s 1 aL),.own (.i aM),.own (.i aN)]
theorem aev {es:af}{n:Nat}(h:bj es<=n):es.length<=n:=ZN (Nat.le_add_right _ _) h
theorem Nk {p:Prop}(h:p:=by
 intro O r F hO hr hF;cbv
 repeat' first|apply And.intro|(apply b8<;>intro hb<;>cbv)
 all_goals(subst hO hr hF;(try simp only[nc]at*);(try simp only[am,SS,sa,az]at*))
 all_goals first|exact hs|trivial|exact⟨trivial,trivial⟩|exact⟨hw,hl⟩|omega|(show aw _ _=true;kernel_rfl)|(simp only[List.length_nil];omega)|exact rfl|done):p:=h
theorem zq1 {p:Prop}(h:p:=by
 (subst hO hr hF;(try simp only[nc]at*);(try simp only[am,SS,sa,az]at*))
 try rw[cJ (by omega) (by omega)]
 try(have hol:out.length=i.toNat:=(by rw[i2,List.length_take];omega))
 try(have hok:ou2.length=k.toNat:=(by rw[k2,List.length_take];omega))
 try(have hsc:=oO wb i0 (by assumption);have hsl:=av (es:=ax b i 0))
 try(have hsd:=oO wx k0 (by assumption);have hsm:=av (es:=ax x k 0))
 first
  | (show(_:List DV)=_
     first
      |exact rfl
      |(rw[i2,hZ (by omega)];rfl)
      |(rw[i2,k2,hZ (by omega),hZ (by omega)];rfl)
      |done)
  |omega
  |exact fg
  |(show aw _ _=true;kernel_rfl)
  |exact Rw.scal (fs:=[tI]) (by(first|assumption|exact Rw.sub (by first|assumption|exact Rw.sub (by assumption) (by omega) rfl) (by omega) rfl)) rfl
  |exact Rw.scal (fs:=[tI,tI]) (by(first|assumption|exact Rw.sub (by first|assumption|exact Rw.sub (by assumption) (by omega) rfl) (by omega) rfl)) rfl
  |exact⟨by(first|assumption|exact Rw.sub (by first|assumption|exact Rw.sub (by assumption) (by omega) rfl) (by omega) rfl),by omega⟩
  |(simp only[List.length_nil,List.length_cons];omega)
  |(rw[i2,List.nil_append];exact(ia wb i0 (by assumption)).symm)
  |(rw[k2];exact(ia wx k0 (by assumption)).symm)
  |(rw[k2,List.nil_append];exact(ia wx k0 (by assumption)).symm)
  |exact⟨trivial,trivial⟩
  |trivial
  |exact rfl
  |done):p:=h
theorem zq2 {p:Prop}(h:p:=by
 (subst hO hr hF;(try simp only[nc]at*);(try simp only[am,SS,sa,az]at*))
 try rw[cJ (by omega) (by omega)]
 try(have hol:out.length=i.toNat:=(by rw[i2,List.length_take];omega))
 try(have hsc:=oO hc i0 (by assumption);have hsl:=av (es:=ax ls i 0))
 first
  | (show(_:List DV)=_
     first
      |exact rfl
      |(rw[i2,hZ (by omega)];rfl)
      |(rw[i2,k2,hZ (by omega),hZ (by omega)];rfl)
      |done)
  |omega
  |exact fg
  |(show aw _ _=true;kernel_rfl)
  |exact Rw.scal (fs:=[tI]) (by(first|assumption|exact Rw.sub (by first|assumption|exact Rw.sub (by assumption) (by omega) rfl) (by omega) rfl)) rfl
  |exact Rw.scal (fs:=[tI,tI]) (by(first|assumption|exact Rw.sub (by first|assumption|exact Rw.sub (by assumption) (by omega) rfl) (by omega) rfl)) rfl
  |exact⟨by(first|assumption|exact Rw.sub (by first|assumption|exact Rw.sub (by assumption) (by omega) rfl) (by omega) rfl),by omega⟩
  |(simp only[List.length_nil,List.length_cons];omega)
  |(rw[i2];exact(ia hc i0 (by assumption)).symm)
  |(rw[i2,List.nil_append];exact(ia hc i0 (by assumption)).symm)
  |exact⟨trivial,trivial⟩
  |trivial
  |exact rfl
  |done):p:=h
theorem zq3 {p:Prop}(h:p:=by
 (subst hO hr hF;(try simp only[nc]at*);(try simp only[am,SS,sa,az]at*))
 try rw[cJ (by omega) (by omega)]
 try(have hol:out.length=i.toNat:=(by rw[i2,List.length_take];omega))
 try(have hsc:=oO hr9 i0 (by assumption);have hsl:=av (es:=ax a9 i 0))
 first
  | (show(_:List DV)=_
     first
      |exact rfl
      |(rw[i2,hZ (by omega)];rfl)
      |done)
  |omega
  |exact fg
  |(show aw _ _=true;kernel_rfl)
  |exact hs5
  |exact hs6
  |exact hs7
  |exact hs8
  |exact⟨hr0,hr1,hr2,hr4,by omega,by omega,by omega,by omega⟩
  |exact⟨hr5,by omega⟩
  |exact⟨hr10,hr11,by omega,by omega⟩
  |exact⟨hr13,by omega⟩
  |exact⟨hr21,by omega⟩
  |exact⟨C8 hr9 i0 (by assumption),by omega⟩
  |(simp only[List.length_nil,List.length_cons];omega)
  |(rw[i2];exact(ia hr9 i0 (by assumption)).symm)
  |exact⟨trivial,trivial⟩
  |trivial
  |exact rfl
  |done):p:=h
theorem zq4 {p:Prop}(h:p:=by
 (try have z:=Pe (by assumption))
 (try have y2:=hp.xn j)
 (try have y1:=hp.bn i)
 (try have z6:bK .add .i64 k 1=k+1:=bT (by omega))
 (try simp only[z6]at*)
 first
  | (show(_:List DV)=_
     first
      |(refine rT ?_;exact acU (by assumption))
      |(refine rT ?_;exact N8 j2 (by assumption) j1 (by assumption))
      |done)
  |omega
  |exact fg
  |exact Rw.scal (Rw.sub (fs:=[.sl [tI]]) hxw (by omega) rfl) rfl
  |(have q:=k2.l;constructor<;>(simp only[List.length_cons,List.length_nil];omega))
  |(have q:=j2.l;constructor<;>omega)
  |exact RE k2 k0
  |exact NX k2 i0 y1 k1 (by omega)
  |exact acv i2
  |exact acx i2 i1 (by omega)
  |exact RQ j2 j0 y2
  |exact acu
  |exact⟨True.intro,True.intro⟩
  |done):p:=h
theorem zq5 {p:Prop}(h:p:=by
 (try simp only[z9]at*)
 first
  | (show(_:List DV)=_
     first
      |(refine aj ?_;symm;exact O9 (by assumption))
      |(refine aj ?_;symm;exact Pb (by assumption))
      |(refine aj ?_;symm;exact Ia i0 (by omega) k0 (by assumption) (T7 (by assumption)))
      |(refine aj ?_;symm;exact Ia i0 (by omega) k0 (by assumption) (T8 (by assumption)))
      |(refine aj ?_;symm;exact Pd i0 (by omega) j0 (by assumption) (acb (by assumption)))
      |(refine aj ?_;rw[O8 i2 (by assumption) (by omega) i1 (by omega)];rfl)
      |done)
  |omega
  |exact fg
  |(show aw _ _=true;kernel_rfl)
  |exact bD
  |exact aU k2 (T9 (by assumption) (by assumption))
  |exact aU j2 (QY (by assumption))
  |exact TA i2 i0 k2 (by omega) j2 (by omega)
  |exact adk
  |done):p:=h
theorem zq6 {p:Prop}(h:p:=by
 (subst hO hr hF;(try simp only[nc]at*);(try simp only[am,SS,sa,az]at*))
 try rw[cJ (by omega) (by omega)]
 (try have z:=xA i0 (by omega))
 (try simp only[z]at*)
 first
  | (show(_:List DV)=_
     first
      |(refine aj ?_;symm;exact PO i0 (by assumption) (by assumption))
      |(refine aj ?_;symm;exact PP i0 (by assumption) (by assumption) (by assumption))
      |(refine aj ?_;exact PN i2 (by omega))
      |(have q:false=true:=(by assumption);cases q)
      |done)
  |omega
  |exact fg
  |(show aw _ _=true;kernel_rfl)
  |exact bD
  |exact aU i2 (K8 (by assumption) (by omega))
  |exact aU i2 (K9 (by assumption) (by assumption))
  |done):p:=h
theorem zq7 {p:Prop}(h:p:=by
 (subst hO hr hF;(try simp only[nc]at*);(try simp only[am,SS,sa,az]at*))
 try rw[cJ (by omega) (by omega)]
 first|omega|exact fg|exact bD|contradiction|exact aj (NZ (by assumption)).symm|exact aj (N0 (by omega)).symm|exact aj (N6 i0 (by omega) (by omega)).symm|exact aj (Hh i0 (by omega) k0 (by omega) (.inl (by assumption))).symm|exact aj (Hh i0 (by omega) k0 (by omega) (.inr ⟨by assumption,by assumption⟩)).symm|exact aj (Cl (by assumption) (by omega) i2 (by omega)).symm|exact aU i2 (Hg (by omega) k2 (by omega))|exact aU k2 (GQ (by assumption) (by first|exact .inl (by assumption)|exact .inr (by assumption)))|trace_state):p:=h
theorem zq8 {p:Prop}(h:p:=by
 (subst hO hr hF;(try simp only[nc]at*);(try simp only[am,SS,sa,az]at*))
 try rw[cJ (by omega) (by omega)]
 try(have hpl:=zk (es:=es) (f:=f) (n:=i.toNat);rw[<-i2]at hpl)
 first|omega|exact fg|(exact⟨trivial,trivial⟩)|rfl|(simp only[List.length_cons,List.length_nil];omega)|(rw[KX i0 (by assumption) (by assumption), <-i2])|(rw[IB i0 (.inl (by assumption)), <-i2])|(rw[IB i0 (.inr (by assumption)), <-i2])|exact C5 (by rw[i2,show i.toNat=es.length from by omega];rfl)|trace_state):p:=h
theorem zq9 {p:Prop}(h:p:=by
 intro O r F hO hr hF;cbv
 repeat' first|apply And.intro|(apply b8<;>intro hb<;>cbv)
 all_goals(subst hO hr hF;(try simp only[nc]at*);(try simp only[am,SS,sa,az]at*))
 all_goals first
  | (show(_:List DV)=_
     first
      |exact kE (Kc (Rn (by assumption))).1.symm (Kc (Rn (by assumption))).2.symm
      |exact kE (Kc (Ro (by assumption))).1.symm (Kc (Ro (by assumption))).2.symm
      |exact kE (Rq (by assumption) (by assumption)).1.symm (Rq (by assumption) (by assumption)).2.symm
      |done)
  |(show aw _ _=true;kernel_rfl)
  |exact True.intro
  |exact⟨True.intro,True.intro⟩
  |omega
  |(have q:=bz.1 (by assumption:inR n 1 1000=true);omega)
  |done):p:=h
theorem Ly {p:Prop}(h:p:=by
 intro O r F hO hr hF;cbv
 repeat' first|apply And.intro|(apply b8<;>intro hb<;>cbv)
 all_goals(subst hO hr hF;(try simp only[nc]at*);(try simp only[am,SS,sa,az]at*))
 all_goals first|exact rfl|done):p:=h
theorem abT {p:Prop}(h:p:=by
 intro O r F hO hr hF;cbv
 repeat' first|apply And.intro|(apply b8<;>intro hb<;>cbv)
 all_goals(subst hO hr hF;(try simp only[nc]at*);(try simp only[am,SS,sa,az]at*))
 all_goals(try simp only[hsb]at*)
 all_goals(try simp only[bz,vK]at*)
 all_goals first|exact Av (A9 (by omega)).1.symm (A9 (by omega)).2.symm|exact Av (zg (by omega)).1.symm (zg (by omega)).2.symm|exact fg|trace_state):p:=h
theorem abU {p:Prop}(h:p:=by
 intro O r F hO hr hF;cbv
 repeat' first|apply And.intro|(apply b8<;>intro hb<;>cbv)
 all_goals(subst hO hr hF;(try simp only[nc]at*);(try simp only[am,SS,sa,az]at*))
 all_goals try(have hs:=P2.1 (‹slB b i=true›);have hw:=BN hs.2.1 hs.2.2;simp only[hw]at*)
 all_goals first
  | (show(_:List DV)=_
     first
      |exact aj (SA (by assumption)).symm
      |(refine aj (fU ?_);unfold hsB;rw[show slB b i=true from by assumption,Bool.true_and,VM];simp only[SS])
      |done)
  |omega
  |trace_state):p:=h
theorem abV {p:Prop}(h:p:=by
 (subst hO hr hF;(try simp only[nc]at*);(try simp only[am,SS,sa,az]at*))
 try rw[cJ (by omega) (by omega)]
 first|omega|exact fg|exact bD|contradiction|exact aj (Da i2 (by omega)).symm|(simp only[bz,vK]at*;first|exact aj (aa8 i0 (by omega) (by omega)).symm|exact aU i2 (I9 (by omega)))|trace_state):p:=h
theorem abW {p:Prop}(h:p:=by
 intro O r F hO hr hF;cbv
 repeat' first|apply And.intro|(apply b8<;>intro hb<;>cbv)
 all_goals(subst hO hr hF;(try simp only[nc]at*);(try simp only[am,SS,sa,az]at*))
 all_goals first
  | (show(_:List DV)=_
     first
      |exact bV (ado (by assumption)).symm
      |exact bV (adn (by assumption)).symm
      |done)
  |(show aw _ _=true;kernel_rfl)
  | (show(_:Int)≠0
     decide)
  |omega
  |exact True.intro
  |done):p:=h
theorem abX {p:Prop}(h:p:=by
 (subst hO hr hF;(try simp only[nc]at*);(try simp only[am,SS,sa,az]at*))
 try rw[cJ (by omega) (by omega)]
 first|(show(_:List DV)=_;exact bV (PH i2 i1 (by omega)))|omega|exact fg|exact adz|exact aas i2 i0 (by omega)|done):p:=h
theorem abY {p:Prop}(h:p:=by
 intro O r F hO hr hF;cbv
 repeat' first|apply And.intro|(apply b8<;>intro hb<;>cbv)
 all_goals(subst hO hr hF;(try simp only[nc]at*);(try simp only[am,SS,sa,az]at*))
 all_goals(try have t:=bz.1 hb)
 all_goals(try have z:bK .sub .i64 n l=n-l:=fG (by omega))
 all_goals(try simp only[z]at*)
 all_goals first|(show(_:List DV)=_;refine aj ?_;unfold rngIn;simp[hb];done)|done):p:=h
theorem abZ {p:Prop}(h:p:=by
 (try simp only[bz,vK]at*)
 (try rw[cJ (by omega) (by omega)])
 first|trivial|omega|exact L0 (by omega) (by assumption) (by omega)|(have:=L0 (k:=k) (s:=s) (by omega) (by assumption) (by omega);omega)|exact bV (Rh (by omega)).symm|exact bV (NM (by omega) (by assumption) (by omega) (by assumption)).symm|exact .inl trivial|(rw[show k+1-1=k by omega];exact .inr (by assumption))|trace_state):p:=h
theorem ab0 {p:Prop}(h:p:=by
 intro O r F hO hr hF;cbv
 repeat' first|apply And.intro|(apply b8<;>intro hb<;>cbv)
 all_goals(subst hO hr hF;(try simp only[nc]at*);(try simp only[am,SS,sa,az]at*))
 all_goals first
  | (show(_:List DV)=_
     first
      |exact C5 (He (by assumption)).symm
      |exact C5 (DO (by assumption)).symm
      |done)
  |exact⟨hw,hn⟩
  |exact hw
  |exact⟨True.intro,True.intro⟩
  |trace_state):p:=h
theorem ab1 {p:Prop}(h:p:=by
 intro O r F hO hr hF;cbv
 repeat' first|apply And.intro|(apply b8<;>intro hb<;>cbv)
 all_goals(subst hO hr hF;(try simp only[nc]at*);(try simp only[am,SS,sa,az]at*))
 all_goals first
  | (show(_:List DV)=_
     first
      |exact aj (by unfold slB;rw[VK (by assumption)];rfl)
      |exact aj (by unfold slB;rw[VL (by omega)];rfl)
      |done)
  |trace_state):p:=h
theorem ab2 {p:Prop}(h:p:=by
 intro O r F hO hr hF;cbv
 repeat' first|apply And.intro|(apply b8<;>intro hb<;>cbv)
 all_goals(subst hO hr hF;(try simp only[nc]at*);(try simp only[am,SS,sa,az]at*))
 all_goals first|(show aw _ _=true;kernel_rfl)|exact hs|exact⟨hc,hu,he,hn,hm,hk⟩|exact⟨hr,by omega⟩|exact⟨trivial,trivial⟩|trivial|(simp only[List.length_nil];omega)|exact rfl|done):p:=h
theorem ab3 {p:Prop}(h:p:=by
 intro O r F hO hr hF;cbv
 repeat' first|apply And.intro|(apply b8<;>intro hb<;>cbv)
 all_goals(subst hO hr hF;(try simp only[nc]at*);(try simp only[am,SS,sa,az]at*))
 all_goals first|(show(_:List DV)=_;refine aj ?_;unfold mshB;simp[*];done)|(show(_:List DV)=_;refine aj ?_;unfold mshB;subst_vars;rw[cmp_eq];simp[*];done)|done):p:=h
theorem ab4 {p:Prop}(h:p:=by
 intro O r F hO hr hF;cbv
 repeat' first|apply And.intro|(apply b8<;>intro hb<;>cbv)
 all_goals(subst hO hr hF;(try simp only[nc]at*);(try simp only[am,SS,sa,az]at*))
 all_goals first|(show aw _ _=true;kernel_rfl)|exact⟨hc,hu,hn,hm⟩|exact⟨he,by omega⟩|exact⟨trivial,trivial⟩|trivial|exact rfl|trace_state):p:=h
theorem ab5 {p:Prop}(h:p:=by
 intro O r F hO hr hF;cbv
 repeat' first|apply And.intro|(apply b8<;>intro hb<;>cbv)
 all_goals(subst hO hr hF;(try simp only[nc]at*);(try simp only[am,SS,sa,az]at*))
 all_goals first
  | (show(_:List DV)=_
     first
      |exact bV (PC (by assumption))
      |exact bV (MP (by assumption)).symm
      |done)
  |omega
  |done):p:=h
theorem ab6 {p:Prop}(h:p:=by
 intro O r F hO hr hF;cbv
 repeat' first|apply And.intro|(apply b8<;>intro hb<;>cbv)
 all_goals(subst hO hr hF;(try simp only[nc]at*);(try simp only[am,SS,sa,az]at*))
 all_goals first
  | (show(_:List DV)=_
     first
      |exact bV (Ti (by assumption))
      |exact bV (Tj (by assumption)).symm
      |done)
  |done):p:=h
theorem ab7 {p:Prop}(h:p:=by
 intro O r F hO hr hF;cbv
 repeat' first|apply And.intro|(apply b8<;>intro hb<;>cbv)
 all_goals(subst hO hr hF;(try simp only[nc]at*);(try simp only[am,SS,sa,az]at*))
 all_goals first
  | (show(_:List DV)=_
     first
      |exact aj (fU (by unfold eqB;simp only[SS,VM]))
      |done)
  |done):p:=h
theorem ab8 {p:Prop}(h:p:=by
 intro O r F hO hr hF;cbv
 repeat' first|apply And.intro|(apply b8<;>intro hb<;>cbv)
 all_goals(subst hO hr hF;(try simp only[nc]at*);(try simp only[am,SS,sa,az]at*))
 all_goals first|exact hp|(show(_:List DV)=_;refine aj ?_;unfold jbOk;simp[*];done)|done):p:=h
theorem ab9 {p:Prop}(h:p:=by
 intro O r F hO hr hF;cbv
 repeat' first|apply And.intro|(apply b8<;>intro hb<;>cbv)
 all_goals(subst hO hr hF;(try simp only[nc]at*);(try simp only[am,SS,sa,az]at*))
 all_goals first|exact hp|exact rfl|done):p:=h
theorem aca {p:Prop}(h:p:=by
 first|exact bV (Ri (by assumption)).symm|(refine bV ?_;rw[LZ (by assumption)])|(rw[bz]at*;omega)|trace_state):p:=h
theorem fg {p:Prop}(h:p:=by
 refine⟨by omega,by omega,(Rw.eta (by first|assumption|exact Rw.sub (by first|assumption|exact Rw.sub (by assumption) (by omega) rfl) (by omega) rfl) (by omega) (by omega)).trans ?_⟩;rfl):p:=h
end Go.V