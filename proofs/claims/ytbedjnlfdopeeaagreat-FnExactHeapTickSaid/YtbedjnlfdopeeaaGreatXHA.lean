/- Plain facts. -/
import Derived.Test.YtbedjnlfdopeeaaGreatXVE
set_option linter.all false
open Go
open Bool renaming and_eq_true->Zc,and_false->Ya
open Int renaming toNat_of_nonneg->Zt,toNat_natCast->ZG,le_refl->Yn
open IntKind renaming wrap->YT,bits->aaq,signed->aar,i64->Za
open IntWalk renaming i64_in->Xw
open List renaming range->Zm,mem_range->Yg,length_append->Zg,mem_cons->Zi,mem_append->Ze,find?_range_eq_some->WO,find?_range_eq_none->aap,append_assoc->Zj,nodup_append->Zr,nodup_nil->ZL
namespace Go.V
theorem rJ {n:Int}(h:IntKind.has Za n): -9223372036854775808<=n/\n<=9223372036854775807:=h
theorem cy {i:Int}(h0:0<=i)(h1:i<9223372036854775807):bK .add Za i 1=i+1:=bh (by omega)
def inR (x a b:Int):Bool:=decide (a<=x)&&decide (x<=b)
theorem bB {x a b:Int}:inR x a b=true↔a<=x/\x<=b:=by simp[inR]
theorem pM {x a b:Int}:inR x a b=false↔x<a\/b<x:=by
 cases h:inR x a b
 ·simp only[true_iff];unfold inR at h;simp only[Bool.and_eq_false_iff,decide_eq_false_iff_not]at h;omega
 ·rw[bB]at h;constructor
  ·intro q;cases q
  ·omega
def cd (p:Int->Bool)(n:Nat):Bool:=(Zm n).all fun j=>p (j:Int)
def upto (p:Int->Bool)(i:Int):Prop:=∀ j:Int,0<=j->j<i->p j=true
theorem bC {p:Int->Bool}:upto p 0:=fun j h0 h1=>absurd h1 (by omega)
theorem aW {p:Int->Bool}{i:Int}(h:upto p i)(hp:p i=true):upto p (i+1):=fun j h0 h1=>by
 by_cases q:j=i
 ·subst q;exact hp
 ·exact h j h0 (by omega)
theorem cG {p:Int->Bool}{n:Nat}:cd p n=true↔upto p n:=by
 simp only[cd,List.all_eq_true,Yg];exact⟨fun h j h0 h1=>by have:=h j.toNat (by omega);rwa [Zt h0]at this,fun h x hx=>h x (by omega) (by omega)⟩
theorem bD {p:Int->Bool}{n:Nat}{i:Int}(h:upto p i)(hi:(n:Int)<=i):cd p n=true:=cG.2 fun j h0 h1=>h j h0 (by omega)
theorem bM {p:Int->Bool}{n:Nat}{i:Int}(h0:0<=i)(h:i<n)(hp:p i=false):cd p n=false:=by
 cases q:cd p n
 ·rfl
 ·rw[cG.1 q i h0 h]at hp;cases hp
theorem er {a b:Bool}(h:a=true↔b=true):a=b:=by cases a<;>cases b<;>simp_all
theorem ai {a b:Bool}(h:a=b):[DV.k a]=[DV.k b]:=by rw[h]
def ip (cs us:aa)(i k:Int):Bool:=inR (ag (aR cs i 0) k 0) 0 999&&(od us i 0||decide (ag (aR cs i 0) k 0=0))
def eD (cs us:aa)(i:Int):Bool:=decide ((aR cs i 0).length=16)&&cd (ip cs us i) 16
def framesOk (cs us:aa):Bool:=inR cs.length 1 32&&decide (us.length=cs.length)&&cd (eD cs us) cs.length
def kh (es:aa)(fr i:Int):Bool:=inR (ag es i 0) 0 2&&decide (ag es i 0=0->ag es i 1=0)&&decide (0<ag es i 0->0<=ag es i 1/\ag es i 1<fr)
def tableOk (es:aa)(fr:Int):Bool:=cd (kh es fr) es.length&&inR es.length 1 32
def rL (es:aa)(f:Int):Nat->aa
 |0=>[]
 |n+1=>if ag es n 0≠0/\ag es n 1=f then rL es f n++[[.i n]]else rL es f n
def pagesOn (es:aa)(f:Int):aa:=rL es f es.length
theorem yJ {es:aa}{f:Int}:∀ {n:Nat},(rL es f n).length<=n
 |0=>Nat.zero_le _
 | n+1=>by
   have:=yJ (es:=es) (f:=f) (n:=n);unfold rL;split
   ·rw[Zg];simp;omega
   ·omega
theorem Dq {es:aa}{f:Int}{n:Nat}(h0:ag es n 0≠0)(h1:ag es n 1=f):rL es f (n+1)=rL es f n++[[.i n]]:=by rw[rL,aa3 ⟨h0,h1⟩]
theorem GP {es:aa}{f:Int}{n:Nat}(h:ag es n 0=0\/ag es n 1≠f):rL es f (n+1)=rL es f n:=by rw[rL,aa4 (by rintro⟨a,b⟩;rcases h with q|q;exact a q;exact q b)]
theorem I1 {es:aa}{f i:Int}(hi:0<=i)(h0:ag es i 0≠0)(h1:ag es i 1=f):rL es f (i+1).toNat=rL es f i.toNat++[[.i i]]:=by
 have e:((i.toNat:Nat):Int)=i:=Zt hi;rw[show(i+1).toNat=i.toNat+1 from by omega,Dq (by rw[e];exact h0) (by rw[e];exact h1),e]
theorem GO {es:aa}{f i:Int}(hi:0<=i)(h:ag es i 0=0\/ag es i 1≠f):rL es f (i+1).toNat=rL es f i.toNat:=by
 have e:((i.toNat:Nat):Int)=i:=Zt hi;rw[show(i+1).toNat=i.toNat+1 from by omega,GP (by rw[e];exact h)]
theorem xC {es:aa}{f:Int}:(pagesOn es f).length<=es.length:=yJ
def eg (es:aa)(f:Int):Bool:=decide (0<(pagesOn es f).length)
theorem yz {es:aa}{f:Int}:eg es f=true↔0<(pagesOn es f).length:=by simp[eg]
theorem Mc {cs us:aa}(h:inR cs.length 1 32=false):framesOk cs us=false:=by unfold framesOk;rw[h];rfl
theorem Md {cs us:aa}(h:us.length≠cs.length):framesOk cs us=false:=by unfold framesOk;rw[aa1 h];simp
theorem Me {cs us:aa}{i:Int}(h0:0<=i)(h1:i<cs.length)(h:(aR cs i 0).length≠16):framesOk cs us=false:=by
 unfold framesOk;rw[bM h0 h1 (by unfold eD;rw[aa1 h];rfl)];simp
theorem Fu {cs us:aa}{i k:Int}(h0:0<=i)(h1:i<cs.length)(k0:0<=k)(k1:k<16)(h:inR (ag (aR cs i 0) k 0) 0 999=false\/od us i 0=false/\ag (aR cs i 0) k 0≠0):framesOk cs us=false:=by
 unfold framesOk;rw[bM h0 h1 (by unfold eD;rw[bM k0 (by simpa using k1) (by unfold ip;rcases h with q|⟨q,q'⟩;rw[q];rfl;rw[q,aa1 q'];simp)];simp)];simp
theorem Fv {cs us:aa}{i:Int}(h1:inR cs.length 1 32=true)(h2:us.length=cs.length)(h:upto (eD cs us) i)(hi:(cs.length:Int)<=i):framesOk cs us=true:=by
 unfold framesOk;rw[h1,aa0 h2,bD h hi];rfl
theorem Kh {cs us:aa}{i k:Int}(hl:(aR cs i 0).length=16)(h:upto (ip cs us i) k)(hk:16<=k):eD cs us i=true:=by
 unfold eD;rw[aa0 hl,bD h (by simpa using hk)];rfl
theorem J0 {cs us:aa}{i k:Int}(h:inR (ag (aR cs i 0) k 0) 0 999=true)(h':od us i 0=true\/ag (aR cs i 0) k 0=0):ip cs us i k=true:=by
 unfold ip;rw[h];rcases h' with q|q
 ·rw[q];rfl
 ·rw[aa0 q];simp
theorem B8 {k:Nat}{a b:aa}(h:a=b):[DV.one (.s k a)]=[DV.one (.s k b)]:=by rw[h]
theorem R4 {es:aa}{n i:Int}(h0:0<=i)(h1:i<es.length)(h:¬ (0<=ag es i 0/\ag es i 0<=2/\(ag es i 0=0->ag es i 1=0)/\(0<ag es i 0->0<=ag es i 1/\ag es i 1<n))):tableOk es n=false:=by
 unfold tableOk;rw[bM h0 h1];rfl;cases q:kh es n i;rfl
 ·refine absurd ?_ h;unfold kh at q;simp only[Zc,aa2,bB]at q;exact⟨q.1.1.1,q.1.1.2,q.1.2,q.2⟩
theorem Lf {es:aa}{n i:Int}(h:0<=ag es i 0/\ag es i 0<=2/\(ag es i 0=0->ag es i 1=0)/\(0<ag es i 0->0<=ag es i 1/\ag es i 1<n)):kh es n i=true:=by
 unfold kh;simp only[Zc,aa2,bB];exact⟨⟨⟨h.1,h.2.1⟩,h.2.2.1⟩,h.2.2.2⟩
theorem Hq {es:aa}{n i:Int}(h:upto (kh es n) i)(hi:(es.length:Int)<=i):tableOk es n=inR es.length 1 32:=by unfold tableOk;rw[bD h hi];rfl
theorem vz {es:aa}{n:Int}(h:tableOk es n=true):1<=es.length/\es.length<=32:=by
 unfold tableOk at h;simp only[Zc,bB]at h;omega
theorem R3 {es:aa}{n i:Int}(h:tableOk es n=true)(h0:0<=i)(h1:i<es.length):0<=ag es i 0/\ag es i 0<=2/\(ag es i 0=0->ag es i 1=0)/\(0<ag es i 0->0<=ag es i 1/\ag es i 1<n):=by
 unfold tableOk at h;simp only[Zc]at h;have q:=cG.1 h.1 i h0 h1;unfold kh at q;simp only[Zc,aa2,bB]at q;exact⟨q.1.1.1,q.1.1.2,q.1.2,q.2⟩
theorem uo {cs us:aa}(h:framesOk cs us=true):us.length=cs.length/\1<=cs.length/\cs.length<=32:=by
 unfold framesOk at h;simp only[Zc,aa2,bB]at h;omega
theorem Pm {cs us:aa}{i:Int}(h:framesOk cs us=true)(h0:0<=i)(h1:i<cs.length):(aR cs i 0).length=16:=by
 unfold framesOk at h;simp only[Zc,aa2,bB]at h;have q:=cG.1 h.2 i h0 h1;unfold eD at q;simp only[Zc,aa2]at q;exact q.1
end Go.V
namespace Go.V
theorem xD {a n:Int}(h0:0<=a)(h1:a<=9223372036854775807)(hn:0<n):bK .quo Za a n=a/n:=by
 show YT Za (a.tdiv n)=_;rw[Int.tdiv_eq_ediv_of_nonneg h0];have h2:0<=a/n:=Int.ediv_nonneg h0 (by omega);have h3:a/n<=a:=Int.ediv_le_self _ h0;exact Xw _ (by omega)
theorem G4 {a n:Int}(h0:0<=a):bK .rem Za a n=a%n:=Int.tmod_eq_emod_of_nonneg h0
theorem C8 {a:aa}{f:Int}:cA .gtr (pagesOn a f).length 0=eg a f:=er (by rw[yz];simp only[SS];omega)
theorem IM {a:aa}{f:Int}(h:(pagesOn a f).length=0):eg a f=false:=by unfold eg;rw[h];rfl
theorem JN {a b a' b':Int}(h:a=a')(h':b=b'):[DV.agg [.i a,.i b]]=[DV.agg [.i a',.i b']]:=by rw[h,h']
theorem ug {a b a' b':Int}(h:a=a')(h':b=b'):[DV.j a,DV.j b]=[DV.j a',DV.j b']:=by rw[h,h']
theorem cT {a b:Int}(h:a=b):[DV.j a]=[DV.j b]:=by rw[h]
def peM (es:aa)(p:Int):Int:=if 0<=p/\p<es.length then ag es p 0 else 0
def peF (es:aa)(p:Int):Int:=if 0<=p/\p<es.length then ag es p 1 else 0
theorem GM {es:aa}{p:Int}(h:0<=p/\p<es.length):peM es p=ag es p 0/\peF es p=ag es p 1:=by unfold peM peF;rw[aa3 h,aa3 h];exact⟨rfl,rfl⟩
theorem Do {es:aa}{p:Int}(h:¬ (0<=p/\p<es.length)):peM es p=0/\peF es p=0:=by unfold peM peF;rw[aa4 h,aa4 h];exact⟨rfl,rfl⟩
def VZ (es:aa)(a:Int):Int:=if a<0 then 0 else peM es (a/16)
def VY (es:aa)(a:Int):Int:=if a<0 then 0 else peF es (a/16)
end Go.V
namespace Go.V
theorem eX {fs:List Ty}{es:aa}{i:Int}(h:Rw [.sl fs] es)(h0:0<=i)(h1:i<es.length):es.take (i+1).toNat=es.take i.toNat++[[.s fs.length (aR es i 0)]]:=by
 rw[show(i+1).toNat=i.toNat+1 from by omega,dA (d:=[]) (show i.toNat<es.length by omega)];have e:=h.eta h0 h1;rw[e];rfl
theorem lh {fs:List Ty}{es:aa}{i:Int}(h:Rw [.sl fs] es)(h0:0<=i)(h1:i<es.length):ah (aR es i 0)+es.length<=ah es:=by
 have e:=h.eta h0 h1;have h2:=cu (es:=es) (n:=i.toNat) (by omega);have h3:=bH (es:=es) (n:=i.toNat+1);rw[e]at h2;have h4:cP (gT ak es i 0 (zR [Ty.sl fs]))=ah (aR es i 0):=by
  show cP [.s fs.length (aR es i 0)]=_;simp only[cP,eA,ah];omega
 rw[h4]at h2;show _<=es.length+bG es;omega
theorem aO {es:aa}:es.length<=ah es:=Nat.le_add_right _ _
theorem eW {es:aa}{i:Int}(h:(es.length:Int)<=i):es.take i.toNat=es:=List.take_of_length_le (by omega)
def iw (us es:aa)(i:Int):Bool:=od us i 0==eg es i
def machOk (cs us es:aa):Bool:=framesOk cs us&&tableOk es cs.length&&cd (iw us es) cs.length
theorem Dd {cs us es:aa}(h:framesOk cs us=false\/tableOk es cs.length=false):machOk cs us es=false:=by
 unfold machOk;rcases h with h|h<;>rw[h]<;>simp
theorem M3 {cs us es:aa}(hf:framesOk cs us=true)(h:tableOk es us.length=false):machOk cs us es=false:=by
 rw[(uo hf).1]at h;exact Dd (.inr h)
theorem Gq {cs us es:aa}{i:Int}(h0:0<=i)(h1:i<cs.length)(h:od us i 0≠eg es i):machOk cs us es=false:=by
 unfold machOk;rw[bM h0 h1 (by unfold iw;simpa using h)];simp
theorem Gp {us es:aa}{i:Int}(h:od us i 0=eg es i):iw us es i=true:=by unfold iw;simpa using h
theorem BL {cs us es:aa}{i:Int}(h:framesOk cs us=true)(h2:tableOk es us.length=true)(hu:upto (iw us es) i)(hi:(us.length:Int)<=i):machOk cs us es=true:=by
 rw[(uo h).1]at h2 hi;unfold machOk;rw[h,h2,bD hu hi];rfl
theorem Qz {cs us es:aa}(q:machOk cs us es=true):framesOk cs us=true/\tableOk es cs.length=true/\∀ i:Int,0<=i->i<cs.length->od us i 0=eg es i:=by
 unfold machOk at q;simp only[Zc]at q;refine⟨q.1.1,q.1.2,fun i h0 h1=>?_⟩;have:=cG.1 q.2 i h0 h1;unfold iw at this;simpa using this
def Au:List aa->Int->List aa
 |[],_=>[]
 |r::rs,k=>aU r k::Au rs (au [r] k)
theorem uG:∀ {rs:List aa} {k k':Int},au (Au rs k) k'=au rs k'
 |[],_,_=>rfl
 | r::rs,k,k'=>by
   show au (Au rs (au [r] k)) (cH (cH r k).1 k').2=au rs (cH r k').2;rw[dq];exact uG
theorem Gl {rs:List aa}(h:∀ r∈rs,(cH r 0).2<=(64*ah r:Nat))(hc:av rs<=1099511627776):au rs 1<=1152921504606846976:=FU h (by omega) hc
theorem dK:∀ {rs:List aa} {r:aa} {n:Nat},av rs<=n->r∈rs->ah r<=n
 | a::rs,r,n,h,hr=>by
   simp only[av]at h;rcases Zi.1 hr with rfl|q;omega;exact dK (rs:=rs) (by omega) q
end Go.V
namespace Go.V
end Go.V
namespace Go.V
def Lc (cs:aa)(fr k v:Int):aa:=cs.set fr.toNat [.s 1 ((aR cs fr 0).set k.toNat [.i v])]
def VH (cs us es:aa)(a:Int):Int:=if machOk cs us es=true then VZ es a else 0
def V6 (cs us es:aa)(a:Int):Int:=if machOk cs us es=true then VY es a else 0
def clsSz (k:Int):Int:=if k=0 then 1 else if k=1 then 2 else if k=2 then 4 else if k=3 then 8 else 0
def clsOf (s:Int):Int:=if s<1 then-1 else if s<=1 then 0 else if s<=2 then 1 else if s<=4 then 2 else if s<=8 then 3 else-1
theorem O1 {k:Int}(h:inR k 0 3=false):clsSz k=0:=by rw[pM]at h;unfold clsSz;repeat' split<;>omega
theorem J1 {k:Int}(h:inR k 0 3=true):Jk .shl Za 1 k=clsSz k:=by
 rw[bB]at h;rcases(show k=0\/k=1\/k=2\/k=3 by omega)with rfl|rfl|rfl|rfl<;>decide
theorem J3 {k:Int}(h:inR k 0 3=true):Oz .u64 k=k:=by
 rw[bB]at h;rcases(show k=0\/k=1\/k=2\/k=3 by omega)with rfl|rfl|rfl|rfl<;>decide
theorem J2 {k s:Int}(h0:0<=k/\k<=3)(h:clsSz k<s)(hs:1<=s/\s<=8):k+1<=3:=by
 rcases(show k=0\/k=1\/k=2\/k=3 by omega)with rfl|rfl|rfl|rfl<;>simp[clsSz]at h<;>omega
theorem OY {s:Int}(h:s<1\/8<s):clsOf s= -1:=by unfold clsOf;repeat' split<;>omega
theorem LW {k s:Int}(h0:0<=k/\k<=3)(h:s<=clsSz k)(hs:1<=s/\s<=8)(hp:k=0\/clsSz (k-1)<s):clsOf s=k:=by
 rcases(show k=0\/k=1\/k=2\/k=3 by omega)with rfl|rfl|rfl|rfl<;>simp[clsSz]at h hp<;>unfold clsOf<;>repeat' split<;>omega
end Go.V
namespace Go.V
theorem o6 {l:aa}{i:Int}(h0:0<=i):KR (.s 1 l) [(i.toNat,0)]=ag l i 0:=by
 rw[BW];unfold ag;rw[ZG]
end Go.V
namespace Go.V
theorem yK {es:aa}{f:Int}:∀ {n:Nat} {e:ay},e∈rL es f n->∃ k:Nat,k<n/\e=[.i k]
 |0,e,h=>by cases h
 | n+1,e,h=>by
   unfold rL at h;split at h
   ·rcases Ze.1 h with q|q
    ·obtain⟨k,hk,e⟩:=yK q;exact⟨k,by omega,e⟩
    ·rw[List.mem_singleton]at q;exact⟨n,by omega,q⟩
   ·obtain⟨k,hk,e⟩:=yK h;exact⟨k,by omega,e⟩
theorem GL {es:aa}{f:Int}(h:es.length<=1099511627776):Rw [tI] (pagesOn es f):=by
 have hl:=xC (es:=es) (f:=f);refine⟨by simp[maxLen];omega,fun e he=>?_⟩;obtain⟨k,hk,rfl⟩:=yK he;exact⟨⟨rfl,(show-9223372036854775808<=(k:Int)/\(k:Int)<=9223372036854775807 by omega)⟩,trivial⟩
end Go.V
namespace Go.V
def cr (p:Int->Bool)(n:Nat):Int:=match(Zm n).find? (fun j:Nat=>p (j:Int))with
 |some j=>(j:Int)
 |none=> -1
def cv (p:Int->Bool)(j:Int):Bool:= !p j
theorem iz {p:Int->Bool}{i:Int}(h:p i=false):cv p i=true:=by unfold cv;rw[h];rfl
theorem dz {p:Int->Bool}{n:Nat}{i:Int}(h:upto (cv p) i)(h0:0<=i)(h1:i<n)(h2:p i=true):cr p n=i:=by
 have e:((i.toNat:Nat):Int)=i:=Zt h0;have:(Zm n).find? (fun j:Nat=>p (j:Int))=some i.toNat:=by
  rw[WO];refine⟨by rw[e];exact h2,Yg.2 (by omega),fun j hj=>?_⟩;exact h j (by omega) (by omega)
 unfold cr;rw[this];exact e
theorem dP {p:Int->Bool}{n:Nat}{i:Int}(h:upto (cv p) i)(h1:(n:Int)<=i):cr p n= -1:=by
 have:(Zm n).find? (fun j:Nat=>p (j:Int))=none:=by
  rw[aap];intro j hj;exact h j (by omega) (by omega)
 unfold cr;rw[this]
theorem np {p:Int->Bool}{n:Nat}:cr p n= -1\/0<=cr p n/\cr p n<n:=by
 unfold cr;split
 ·rename_i j h;rw[WO]at h;have:=Yg.1 h.2.1;omega
 ·exact .inl rfl
def eqB (a b:Int):Bool:=decide (a=b)
theorem ui {a b:Int}(h:a=b):eqB a b=true:=aa0 h
theorem wW {a b:Int}(h:a≠b):eqB a b=false:=aa1 h
end Go.V
namespace Go.V
def BF (os:aa)(a j:Int):Bool:=eqB (ag os j 1) a
def obI (os:aa)(a:Int):Int:=cr (BF os a) os.length
def isSp (ss:aa)(p j:Int):Bool:=eqB (ag ss j 0) p
def spI (ss:aa)(p:Int):Int:=cr (isSp ss p) ss.length
end Go.V
namespace Go.V
def sJ (x:Int):BitVec 64:=BitVec.ofInt 64 x
theorem DZ (x:BitVec 64):YT Za (x.toNat:Int)=x.toInt:=by
 have h:=x.isLt;rw[BitVec.toInt_eq_toNat_cond];simp only[YT,aaq,aar,Bool.true_and,aa2,show(64-1:Nat)=63 from rfl];split<;>split<;>omega
theorem LN {x:BitVec 64}:sJ x.toInt=x:=BitVec.ofInt_toInt
def fpg (es:aa)(p:Int):aa:=if peM es p=0 then[]else pagesOn es (peF es p)
theorem Ft {es:aa}{p:Int}(h:peM es p=0):fpg es p=[]:=by unfold fpg;rw[aa3 h]
theorem CP {es:aa}{p:Int}(h:peM es p≠0):fpg es p=pagesOn es (peF es p):=by unfold fpg;rw[aa4 h]
theorem Ma {es:aa}{p:Int}(h:es.length<=1099511627776):Rw [tI] (fpg es p)/\(fpg es p).length<=1099511627776:=by
 unfold fpg;split;exact⟨Rw.nil,by simp⟩;exact⟨GL h,Nat.le_trans xC h⟩
def Kr (l:aa)(x j:Int):Bool:=eqB x (ag l j 0)
def MD (l:aa)(x:Int):Int:=cr (Kr l x) l.length
def hasB (l:aa)(x:Int):Bool:=decide (0<=MD l x)
theorem CR {l:aa}{x:Int}:hasB l x=true↔∃ k:Nat,k<l.length/\ag l k 0=x:=by
 unfold hasB MD;rw[aa2]
 constructor
 ·intro h;unfold cr at h;split at h
  ·rename_i j hj;rw[WO]at hj;refine⟨j,Yg.1 hj.2.1,?_⟩;have:=hj.1;unfold Kr eqB at this;exact(aa5 this).symm
  ·omega
 ·rintro⟨k,hk,e⟩;rcases np (p:=Kr l x) (n:=l.length)with q|q
  ·exfalso;unfold cr at q;split at q
   ·omega
   ·rename_i hn;rw[aap]at hn;have:=hn k hk;unfold Kr eqB at this;rw[e]at this;simp at this
  ·exact q.1
end Go.V
namespace Go.V
def slB (b i:Int):Bool:=decide (0<=b)&&inR i 0 15
def hsB (b i:Int):Bool:=slB b i&&decide (bK .and Za (Jk .shr Za b i) 1=1)
theorem Er {b i:Int}:slB b i=true↔0<=b/\0<=i/\i<=15:=by simp[slB,inR]
theorem FD {b i:Int}(h:slB b i=false):hsB b i=false:=by unfold hsB;rw[h];rfl
theorem A4 {i:Int}(h0:0<=i)(h1:i<=15):Oz .u64 i=i:=by
 show YT .u64 i=i;simp only[YT,aaq,aar,Bool.false_and];rw[aa4 (by simp)];omega
end Go.V
namespace Go.V
def Ay (rs:aa)(i:Int):Bool:=decide (0<=ag rs i 0)
def kE (rs:aa):Bool:=cd (Ay rs) rs.length&&decide (rs.length<=40)
def kerOk (cs us es:aa)(c:Int)(rs:aa):Bool:=machOk cs us es&&inR c 0 100000&&kE rs
theorem G0 {rs:aa}{i:Int}(h:0<=ag rs i 0):Ay rs i=true:=aa0 h
theorem G3 {cs us es rs:aa}{c i:Int}(h0:0<=i)(h1:i<rs.length)(h:ag rs i 0<0):kerOk cs us es c rs=false:=by
 unfold kerOk kE;rw[bM h0 h1 (by unfold Ay;exact aa1 (by omega))];simp
theorem I9 {rs:aa}{i:Int}(h:upto (Ay rs) i)(hi:(rs.length:Int)<=i)(hl:(rs.length:Int)<=40):kE rs=true:=by
 unfold kE;rw[bD h hi,aa0 (by omega)];rfl
theorem I8 {rs:aa}(hl:¬ (rs.length:Int)<=40):kE rs=false:=by
 unfold kE;rw[aa1 (by omega)];simp
theorem IH {cs us es rs:aa}{c:Int}(h1:machOk cs us es=true)(h2:inR c 0 100000=true)(h3:kE rs=true):kerOk cs us es c rs=true:=by unfold kerOk;rw[h1,h2,h3];rfl
theorem IF {cs us es rs:aa}{c:Int}(h1:machOk cs us es=false):kerOk cs us es c rs=false:=by unfold kerOk;rw[h1];rfl
theorem CZ {cs us es rs:aa}{c:Int}(h1:inR c 0 100000=false):kerOk cs us es c rs=false:=by unfold kerOk;rw[h1];simp
theorem IG {cs us es rs:aa}{c:Int}(h1:kE rs=false):kerOk cs us es c rs=false:=by unfold kerOk;rw[h1];simp
end Go.V
namespace Go.V
end Go.V
namespace Go.V
end Go.V
namespace Go.V
def slN (k:Int):Int:=if inR k 0 3=true then 16/clsSz k else 0
theorem Ie {k:Int}(h:inR k 0 3=true):k=0\/k=1\/k=2\/k=3:=by have:=bB.1 h;omega
theorem gC {k:Int}(h:inR k 0 3=true):1<=clsSz k/\clsSz k<=8/\2<=slN k/\slN k<=16/\slN k*clsSz k=16:=by
 rcases Ie h with rfl|rfl|rfl|rfl<;>decide
theorem Hj {k:Int}(h:inR k 0 3=true):bK .quo Za 16 (clsSz k)=slN k:=by
 rcases Ie h with rfl|rfl|rfl|rfl<;>decide
theorem Hk {k:Int}(h:inR k 0 3=true):Jk .shr Za 16 (Oz .u64 k)=slN k:=by
 rcases Ie h with rfl|rfl|rfl|rfl<;>decide
theorem Cb {k:Int}(h:inR k 0 3=false):slN k=0:=by unfold slN;rw[h];rfl
def bmOk (n b:Int):Bool:=inR n 1 16&&inR b 0 (2^n.toNat-1)
theorem Hi {n:Int}(h:inR n 1 16=true):bK .sub Za (Jk .shl Za 1 n) 1=2^n.toNat-1/\bK .sub Za (Jk .shl Za 1 (Oz .u64 n)) 1=2^n.toNat-1/\0<=Oz .u64 n:=by
 have q:=bB.1 h;have:n=1\/n=2\/n=3\/n=4\/n=5\/n=6\/n=7\/n=8\/n=9\/n=10\/n=11\/n=12\/n=13\/n=14\/n=15\/n=16:=by omega
 rcases this with rfl|rfl|rfl|rfl|rfl|rfl|rfl|rfl|rfl|rfl|rfl|rfl|rfl|rfl|rfl|rfl<;>decide
theorem JP {n b:Int}(h:inR n 1 16=false):bmOk n b=false:=by unfold bmOk;rw[h];rfl
theorem EW {n b:Int}(h:inR n 1 16=true):bmOk n b=inR b 0 (2^n.toNat-1):=by unfold bmOk;rw[h];rfl
def spOk (p k b:Int):Bool:=inR p 0 31&&bmOk (slN k) b
theorem EV {k b:Int}(h:inR k 0 3=false):bmOk (slN k) b=false:=by rw[Cb h];rfl
theorem Hn {p k b:Int}(h:inR p 0 31=false):spOk p k b=false:=by unfold spOk;rw[h];rfl
theorem NP {p k b:Int}(h:inR k 0 3=false):spOk p k b=false:=by unfold spOk;rw[EV h,Ya]
theorem Ho {p k b:Int}(h:inR p 0 31=true):spOk p k b=bmOk (slN k) b:=by unfold spOk;rw[h];rfl
theorem gW {p k b:Int}(h:spOk p k b=true):0<=p/\p<=31/\inR k 0 3=true/\bmOk (slN k) b=true:=by
 unfold spOk at h;simp only[Zc,bB]at h;refine⟨h.1.1,h.1.2,?_,h.2⟩;cases q:inR k 0 3
 ·rw[EV q]at h;exact absurd h.2 (by decide)
 ·rfl
def pfN (s:Int):Int:=if inR s 9 1000=true then(s+15)/16 else 0
theorem Nn {s:Int}(h:inR s 9 1000=true):bK .quo Za (bK .sub Za (bK .add Za s 16) 1) 16=pfN s:=by
 have q:=bB.1 h;have e1:bK .add Za s 16=s+16:=bh (by omega);have e2:bK .sub Za (s+16) 1=s+16-1:=cN (by omega);unfold pfN;rw[aa3 h,e1,e2,xD (by omega) (by omega) (by omega),show s+16-1=s+15 from by omega]
theorem KP {s:Int}(h:inR s 9 1000=false):pfN s=0:=by unfold pfN;rw[h];rfl
theorem gV {s:Int}(h:inR s 9 1000=true):1<=pfN s/\pfN s<=63/\s<=pfN s*16:=by
 have q:=bB.1 h;unfold pfN;rw[aa3 h];omega
theorem GN {s:Int}:0<pfN s↔inR s 9 1000=true:=by
 constructor
 ·intro h;cases q:inR s 9 1000
  ·rw[KP q]at h;omega
  ·rfl
 ·intro h;have:=gV h;omega
def lgOk (p n s:Int):Bool:=inR s 9 1000&&(decide (n=pfN s)&&inR p 0 (32-n))
theorem F9 {p n s:Int}(h:inR s 9 1000=false):lgOk p n s=false:=by unfold lgOk;rw[h];rfl
theorem Ga {p n s:Int}(h:n≠pfN s):lgOk p n s=false:=by unfold lgOk;rw[aa1 h];simp
theorem Gb {p n s:Int}(h:inR s 9 1000=true)(h2:n=pfN s):lgOk p n s=inR p 0 (32-n):=by unfold lgOk;rw[h,aa0 h2];rfl
theorem iu {p n s:Int}(h:lgOk p n s=true):inR s 9 1000=true/\n=pfN s/\0<=p/\p<=32-n:=by
 unfold lgOk at h;simp only[Zc,aa2,bB]at h;exact⟨bB.2 h.1,h.2.1,h.2.2⟩
def zC (p k b a:Int):Bool:=spOk p k b&&inR a (p*16) (p*16+15)
def saS (p k b a:Int):Int:=if zC p k b a=true then(a-p*16)/clsSz k else-1
def saO (p k b a:Int):Int:=if zC p k b a=true then(a-p*16)%clsSz k else-1
theorem xH {p k b a:Int}(h:zC p k b a=false):saS p k b a= -1/\saO p k b a= -1:=by unfold saS saO;rw[h];exact⟨rfl,rfl⟩
theorem vj {p k b a:Int}(h:zC p k b a=true):saS p k b a=(a-p*16)/clsSz k/\saO p k b a=(a-p*16)%clsSz k:=by unfold saS saO;rw[aa3 h,aa3 h];exact⟨rfl,rfl⟩
theorem rQ {p k b a:Int}:zC p k b a=true↔spOk p k b=true/\p*16<=a/\a<=p*16+15:=by unfold zC;rw[Zc,bB]
def LH (p k b s:Int):Bool:=spOk p k b&&inR s 0 (slN k-1)
def aaI (p k b s:Int):Int:=if LH p k b s=true then p*16+s*clsSz k else-1
def lhB (p n s a:Int):Bool:=lgOk p n s&&inR a (p*16) (p*16+s-1)
def loI (p n s a:Int):Int:=if lhB p n s a=true then a-p*16 else-1
theorem Gd {p n s a:Int}(h:lgOk p n s=false):lhB p n s a=false:=by unfold lhB;rw[h];rfl
theorem BJ {p n s a:Int}(h:lgOk p n s=true):lhB p n s a=inR a (p*16) (p*16+s-1):=by unfold lhB;rw[h];rfl
theorem Qm {p n s a:Int}(h:lhB p n s a=false):loI p n s a= -1:=by unfold loI;rw[h];rfl
theorem MX {p n s a:Int}(h:lhB p n s a=true):loI p n s a=a-p*16:=by unfold loI;rw[aa3 h]
theorem BN {a b:Int}(h: -9223372036854775808<=a*b/\a*b<=9223372036854775807):bK .mul Za a b=a*b:=Xw _ h
theorem QY {p:Int}(h:0<=p/\p<=31):bK .mul Za p 16=p*16/\bK .sub Za (bK .add Za (p*16) 16) 1=p*16+15:=by
 have e1:bK .mul Za p 16=p*16:=BN (by omega);have e2:bK .add Za (p*16) 16=p*16+16:=bh (by omega);have e3:bK .sub Za (p*16+16) 1=p*16+16-1:=cN (by omega);rw[e1,e2,e3];omega
theorem Jf {p k b a:Int}(h:spOk p k b=true)(h1:inR a (p*16) (p*16+15)=true):saS p k b a=bK .quo Za (bK .sub Za a (p*16)) (clsSz k)/\saO p k b a=bK .rem Za (bK .sub Za a (p*16)) (clsSz k):=by
 have t:=gW h;have q:=bB.1 h1;have c:=gC t.2.2.1;have y:=vj (rQ.2 ⟨h,q⟩);have e:bK .sub Za a (p*16)=a-p*16:=cN (by omega);rw[y.1,y.2,e,xD (by omega) (by omega) (by omega),G4 (by omega)];exact⟨rfl,rfl⟩
theorem K8 {p k b a:Int}(h:spOk p k b=false):zC p k b a=false:=by unfold zC;rw[h];rfl
theorem RP {p k b a:Int}(h:inR a (p*16) (p*16+15)=false):zC p k b a=false:=by unfold zC;rw[h,Ya]
theorem Jg {p k b a:Int}(h:spOk p k b=true)(h0:¬ a<0)(h1:bK .quo Za a 16=p)(ha:a<=9223372036854775807):saS p k b a=bK .quo Za (bK .rem Za a 16) (clsSz k)/\saO p k b a=bK .rem Za (bK .rem Za a 16) (clsSz k):=by
 have t:=gW h;have c:=gC t.2.2.1;rw[xD (by omega) ha (by omega)]at h1;have e:bK .rem Za a 16=a%16:=G4 (by omega);have y:=vj (rQ.2 ⟨h,show p*16<=a/\a<=p*16+15 by omega⟩);rw[y.1,y.2,e,xD (by omega) (by omega) (by omega),G4 (by omega),show a-p*16=a%16 by omega];exact⟨rfl,rfl⟩
theorem K9 {p k b a:Int}(h0:a<0\/bK .quo Za a 16≠p)(ha:a<=9223372036854775807):zC p k b a=false:=by
 cases q:zC p k b a
 ·rfl
 ·obtain⟨h,h1⟩:=rQ.1 q;have t:=gW h;rcases h0 with h0|h0;omega
  ·rw[xD (by omega) ha (by omega)]at h0;omega
theorem LI {p k b s:Int}(h:spOk p k b=true)(h1:inR s 0 (slN k-1)=true):bK .add Za (bK .mul Za p 16) (bK .mul Za s (clsSz k))=aaI p k b s:=by
 have t:=gW h;have c:=gC t.2.2.1;have q:=bB.1 h1;have m1:0<=s*clsSz k:=Int.mul_nonneg q.1 (by omega);have m2:s*clsSz k<=(slN k-1)*clsSz k:=Int.mul_le_mul_of_nonneg_right q.2 (by omega);have m3:(slN k-1)*clsSz k=16-clsSz k:=by rw[Int.sub_mul,c.2.2.2.2,Int.one_mul]
 have e:bK .mul Za s (clsSz k)=s*clsSz k:=BN (by omega);rw[(QY ⟨t.1,t.2.1⟩).1,e];unfold aaI LH;rw[h,h1];exact bh (by omega)
theorem JM {p k b s:Int}(h:spOk p k b=false\/inR s 0 (slN k-1)=false):aaI p k b s= -1:=by
 unfold aaI LH;rcases h with h|h
 ·rw[h];rfl
 ·rw[h,Ya];rfl
theorem Gc {p n s:Int}(h:lgOk p n s=true):bK .mul Za p 16=p*16/\bK .add Za (bK .mul Za p 16) s=p*16+s/\bK .sub Za (bK .add Za (bK .mul Za p 16) s) 1=p*16+s-1:=by
 have t:=iu h;have b:=gV t.1;have q:=bB.1 t.1;have e1:bK .mul Za p 16=p*16:=BN (by omega);have e2:bK .add Za (p*16) s=p*16+s:=bh (by omega);have e3:bK .sub Za (p*16+s) 1=p*16+s-1:=cN (by omega);rw[e1,e2,e3];exact⟨rfl,rfl,rfl⟩
theorem MS {p n s a:Int}:lhB p n s a=true↔lgOk p n s=true/\p*16<=a/\a<=p*16+s-1:=by unfold lhB;rw[Zc,bB]
theorem Ql {p n s a:Int}(h:lhB p n s a=true):bK .sub Za a (bK .mul Za p 16)=loI p n s a:=by
 obtain⟨h1,h2,h3⟩:=MS.1 h;have t:=iu h1;have b:=gV t.1;have q:=bB.1 t.1;rw[(Gc h1).1,MX h];exact cN (by omega)
end Go.V
namespace Go.V
def eU (l:List Int):aa:=l.map fun x=>[.i x]
theorem bV {l:List Int}:(eU l).length=l.length:=by unfold eU;rw[List.length_map]
theorem eE {a b:List Int}:eU (a++b)=eU a++eU b:=by unfold eU;rw[List.map_append]
theorem pe {l:List Int}{k:Nat}(h:k<l.length):ag (eU l) k 0=l[k]:=by
 have e:(eU l).getD k []=[.i l[k]]:=by
  unfold eU;rw[List.getD_eq_getElem?_getD,List.getElem?_map,List.getElem?_eq_getElem h];rfl
 unfold ag;rw[ZG,e];rfl
theorem kS {l:List Int}{x:Int}:hasB (eU l) x=true↔x∈l:=by
 rw[CR]
 constructor
 ·rintro⟨k,hk,e⟩;rw[bV]at hk;rw[pe hk]at e;rw[<-e];exact List.getElem_mem hk
 ·intro h;obtain⟨k,hk,e⟩:=List.getElem_of_mem h;exact⟨k,by rw[bV];exact hk,by rw[pe hk];exact e⟩
theorem sf {l:List Int}{x:Int}(h:hasB (eU l) x=false):x∉l:=fun m=>by rw[kS.2 m]at h;cases h
theorem pf {l:List Int}(h:∀ x∈l,-9223372036854775808<=x/\x<=9223372036854775807)(hl:l.length<=70368744177664):Rw [tI] (eU l):=by
 refine⟨by rw[bV];unfold maxLen;omega,fun e he=>?_⟩;obtain⟨x,hx,rfl⟩:=List.mem_map.1 he;have q:=h x hx;exact⟨⟨rfl,by show-9223372036854775808<=x/\x<=(9223372036854775807:Int);exact q⟩,trivial⟩
theorem Mi {l:aa}{x i:Int}(h:upto (cv (Kr l x)) i)(hi:(l.length:Int)<=i):hasB l x=false:=by
 unfold hasB MD;rw[dP h hi];rfl
def Lb (sp:aa)(i:Int):Bool:=spOk (ag sp i 0) (ag sp i 1) (ag sp i 2)
def MR (lg:aa)(i:Int):Bool:=lgOk (ag lg i 0) (ag lg i 1) (ag lg i 2)
def iH (sp:aa):Nat->List Int
 |0=>[]
 |n+1=>iH sp n++[ag sp n 0]
def kZ (p:Int):Nat->List Int
 |0=>[]
 |n+1=>kZ p n++[p+n]
def iG (lg:aa):Nat->List Int
 |0=>[]
 |n+1=>iG lg n++kZ (ag lg n 0) (ag lg n 1).toNat
def uZ (sp lg:aa):List Int:=iH sp sp.length++iG lg lg.length
def layOk (sp lg:aa):Bool:=(cd (Lb sp) sp.length&&cd (MR lg) lg.length)&&decide (uZ sp lg).Nodup
theorem kI {sp:aa}{i:Int}(h:0<=i):iH sp (i+1).toNat=iH sp i.toNat++[ag sp i 0]:=by
 rw[show(i+1).toNat=i.toNat+1 from by omega,iH,Zt h]
theorem mh {lg:aa}{i:Int}(h:0<=i):iG lg (i+1).toNat=iG lg i.toNat++kZ (ag lg i 0) (ag lg i 1).toNat:=by
 rw[show(i+1).toNat=i.toNat+1 from by omega,iG,Zt h]
theorem u6 {p i:Int}(h:0<=i):kZ p (i+1).toNat=kZ p i.toNat++[p+i]:=by
 rw[show(i+1).toNat=i.toNat+1 from by omega,kZ,Zt h]
theorem lc {sp:aa}:∀ {n:Nat},(iH sp n).length=n
 |0=>rfl
 |n+1=>by rw[iH,Zg,lc];rfl
theorem nP {p:Int}:∀ {n:Nat},(kZ p n).length=n
 |0=>rfl
 |n+1=>by rw[kZ,Zg,nP];rfl
theorem DR {sp:aa}:∀ (m n:Nat),n<=m->∃ r,iH sp m=iH sp n++r
 |0,n,h=>⟨[],by rw[show n=0 by omega];rfl⟩
 | m+1,n,h=>by
   by_cases c:n=m+1
   ·subst c;exact⟨[],by simp⟩
   ·obtain⟨r,e⟩:=DR (sp:=sp) m n (by omega);exact⟨r++[ag sp m 0],by rw[iH,e,Zj]⟩
theorem Du {p:Int}:∀ (m n:Nat),n<=m->∃ r,kZ p m=kZ p n++r
 |0,n,h=>⟨[],by rw[show n=0 by omega];rfl⟩
 | m+1,n,h=>by
   by_cases c:n=m+1
   ·subst c;exact⟨[],by simp⟩
   ·obtain⟨r,e⟩:=Du (p:=p) m n (by omega);exact⟨r++[p+m],by rw[kZ,e,Zj]⟩
theorem C9 {lg:aa}:∀ (m n:Nat),n<=m->∃ r,iG lg m=iG lg n++r
 |0,n,h=>⟨[],by rw[show n=0 by omega];rfl⟩
 | m+1,n,h=>by
   by_cases c:n=m+1
   ·subst c;exact⟨[],by simp⟩
   ·obtain⟨r,e⟩:=C9 (lg:=lg) m n (by omega);exact⟨r++kZ (ag lg m 0) (ag lg m 1).toNat,by rw[iG,e,Zj]⟩
theorem dup {a b l:List Int}{x:Int}(h:l=a++x::b)(hm:x∈a):¬ l.Nodup:=by
 rw[h,Zr];rintro⟨_,_,q⟩;exact q x hm x (by simp) rfl
theorem hY {a:List Int}{x:Int}(h:a.Nodup)(hx:x∉a):(a++[x]).Nodup:=by
 rw[Zr];exact⟨h,by simp,fun y hy z hz e=>by simp at hz;subst hz;subst e;exact hx hy⟩
theorem C3 {sp lg:aa}{i:Int}(h0:0<=i)(h1:i<sp.length)(h:spOk (ag sp i 0) (ag sp i 1) (ag sp i 2)=false):layOk sp lg=false:=by
 unfold layOk;rw[bM h0 h1 h];rfl
theorem C4 {sp lg:aa}{i:Int}(h0:0<=i)(h1:i<lg.length)(h:lgOk (ag lg i 0) (ag lg i 1) (ag lg i 2)=false):layOk sp lg=false:=by
 unfold layOk;rw[bM (p:=MR lg) h0 h1 h,Ya];rfl
theorem C5 {sp lg:aa}{i:Int}(h0:0<=i)(h1:i<sp.length)(h:ag sp i 0∈iH sp i.toNat):layOk sp lg=false:=by
 obtain⟨r,e⟩:=DR (sp:=sp) sp.length (i+1).toNat (by omega);rw[kI h0,Zj]at e;have:¬ (uZ sp lg).Nodup:=dup (a:=iH sp i.toNat) (b:=r++iG lg lg.length) (x:=ag sp i 0) (by unfold uZ;rw[e,Zj];rfl) h;unfold layOk;rw[aa1 this,Ya]
theorem C6 {sp lg:aa}{i k:Int}(h0:0<=i)(h1:i<lg.length)(k0:0<=k)(k1:k<ag lg i 1)(h:ag lg i 0+k∈iH sp sp.length++iG lg i.toNat++kZ (ag lg i 0) k.toNat):layOk sp lg=false:=by
 obtain⟨r,e⟩:=C9 (lg:=lg) lg.length (i+1).toNat (by omega);obtain⟨r2,e2⟩:=Du (p:=ag lg i 0) (ag lg i 1).toNat (k+1).toNat (by omega);rw[mh h0,e2,u6 k0]at e;have:¬ (uZ sp lg).Nodup:=dup (a:=iH sp sp.length++iG lg i.toNat++kZ (ag lg i 0) k.toNat) (b:=r2++r) (x:=ag lg i 0+k) (by unfold uZ;rw[e];simp only[Zj];rfl) h;unfold layOk;rw[aa1 this,Ya]
theorem C7 {sp lg:aa}{i j:Int}(h:upto (Lb sp) i)(hi:(sp.length:Int)<=i)(h2:upto (MR lg) j)(hj:(lg.length:Int)<=j)(hn:(uZ sp lg).Nodup):layOk sp lg=true:=by
 unfold layOk;rw[bD h hi,bD h2 hj,aa0 hn];rfl
theorem F1 {sp lg:aa}(h:layOk sp lg=true):(∀ i:Int,0<=i->i<sp.length->spOk (ag sp i 0) (ag sp i 1) (ag sp i 2)=true)/\(∀ i:Int,0<=i->i<lg.length->lgOk (ag lg i 0) (ag lg i 1) (ag lg i 2)=true)/\(uZ sp lg).Nodup:=by
 unfold layOk at h;simp only[Zc,aa2]at h;exact⟨cG.1 h.1.1,cG.1 h.1.2,h.2⟩
def Oo (es:aa):Prop:=∀ e∈es,∃ (k:Int) (b:Bool),e=[.i k,.v (.bool b)]
theorem uM {k:Int}{b:Bool}{es:aa}{n:Int}:dh ([.i k,.v (.bool b)]::es) n=if k=n then some (0,.bool b)else(dh es n).map fun p=>(p.1+1,p.2):=rfl
theorem ku {k:Int}{b:Bool}{es:aa}{n:Int}:mgbI ([.i k,.v (.bool b)]::es) n=if k=n then b else mgbI es n:=by
 unfold mgbI;rw[uM];by_cases c:k=n
 ·rw[aa3 c,aa3 c]
 ·rw[aa4 c,aa4 c];cases dh es n with
  |none=>rfl
  |some p=>obtain⟨j,v⟩:=p;cases v<;>rfl
theorem Dg {k:Int}{b x:Bool}{es:aa}{n:Int}:iT ([.i k,.v (.bool b)]::es) n (.v (.bool x))=if k=n then[.i n,.v (.bool x)]::es else[.i k,.v (.bool b)]::iT es n (.v (.bool x)):=by
 unfold iT;rw[uM];by_cases c:k=n
 ·rw[aa3 c,aa3 c];rfl
 ·rw[aa4 c,aa4 c];cases dh es n with
  |none=>rfl
  |some p=>rfl
theorem Vv {x:Bool}{n:Int}:∀ {es:aa},Oo es->Oo (iT es n (.v (.bool x)))/\∀ m,mgbI (iT es n (.v (.bool x))) m=if m=n then x else mgbI es m
 | [],_=>by
   refine⟨fun e he=>?_,fun m=>?_⟩
   ·have:e=[.i n,.v (.bool x)]:=by simpa[iT,dh]using he
    exact⟨n,x,this⟩
   ·show mgbI [[.i n,.v (.bool x)]] m=_;rw[ku];by_cases c:m=n
    ·rw[aa3 c.symm,aa3 c]
    ·rw[aa4 (fun e=>c e.symm),aa4 c]
 | e::es,h=>by
   obtain⟨k,b,rfl⟩:=h e (by simp);have h':Oo es:=fun e he=>h e (by simp[he])
   obtain⟨a1,a2⟩:=Vv (x:=x) (n:=n) h';rw[Dg];by_cases c:k=n
   ·rw[aa3 c];refine⟨fun e he=>?_,fun m=>?_⟩
    ·rcases Zi.1 he with rfl|he;exact⟨n,x,rfl⟩;exact h' e he
    ·rw[ku,ku];by_cases d:m=n
     ·rw[aa3 d.symm,aa3 d]
     ·rw[aa4 (fun e=>d e.symm),aa4 d,aa4 (fun e=>d (by rw[<-e,c]))]
   ·rw[aa4 c];refine⟨fun e he=>?_,fun m=>?_⟩
    ·rcases Zi.1 he with rfl|he;exact⟨k,b,rfl⟩;exact a1 e he
    ·rw[ku,ku,a2 m];by_cases d:k=m
     ·rw[aa3 d,aa3 d,aa4 (fun e=>c (d.trans e))]
     ·rw[aa4 d,aa4 d]
def muT (es:aa)(n:Int):aa:=iT es n (.v (.bool true))
structure lC (es:aa)(l:List Int):Prop where
 wf:Oo es
 at_:∀ m,mgbI es m=true↔m∈l
theorem Ca:lC [] []:=⟨(fun e he=>by cases he),fun m=>by simp[mgbI,dh]⟩
theorem sx {es:aa}{l:List Int}{n:Int}(h:lC es l):lC (iT es n (.v (.bool true))) (l++[n]):=by
 have q:=Vv (x:=true) (n:=n) h.wf;refine⟨q.1,fun m=>?_⟩;rw[q.2 m];by_cases c:m=n
 ·rw[aa3 c];simp[c]
 ·rw[aa4 c,h.at_ m];simp[c]
def one (x:Int):aa:=[[.i x]]
structure HT (sp:aa)(i:Int)(o:aa):Prop where
 e:o=eU (iH sp i.toNat)
 nd:(iH sp i.toNat).Nodup
 ok:upto (Lb sp) i
 b:∀ x∈iH sp i.toNat,0<=x/\x<=64
structure Og (sp lg:aa)(j:Int)(o:aa):Prop where
 e:o=eU (iH sp sp.length++iG lg j.toNat)
 nd:(iH sp sp.length++iG lg j.toNat).Nodup
 oks:upto (Lb sp) sp.length
 ok:upto (MR lg) j
 b:∀ x∈iH sp sp.length++iG lg j.toNat,0<=x/\x<=64
 l:(iG lg j.toNat).length<=64*j.toNat
structure HS (sp lg:aa)(j k:Int)(o:aa):Prop where
 e:o=eU (iH sp sp.length++iG lg j.toNat++kZ (ag lg j 0) k.toNat)
 nd:(iH sp sp.length++iG lg j.toNat++kZ (ag lg j 0) k.toNat).Nodup
 oks:upto (Lb sp) sp.length
 ok:upto (MR lg) j
 b:∀ x∈iH sp sp.length++iG lg j.toNat++kZ (ag lg j 0) k.toNat,0<=x/\x<=64
 l:(iG lg j.toNat).length<=64*j.toNat
theorem EX {l:List Int}(h:∀ x∈l,0<=x/\x<=64)(hl:l.length<=70368744177664):Rw [tI] (eU l):=pf (fun x hx=>by have:=h x hx;omega) hl
theorem zP {l:List Int}{x:Int}(h:∀ x∈l,0<=x/\x<=64)(hx:0<=x/\x<=64):∀ y∈l++[x],0<=y/\y<=64:=by
 intro y hy;rcases Ze.1 hy with q|q;exact h y q
 ·simp at q;rw[q];exact hx
theorem Uh {sp:aa}:HT sp 0 []:=⟨rfl,ZL,bC,fun x hx=>by cases hx⟩
theorem Gf {sp o:aa}{i:Int}(h:HT sp i o):o.length=i.toNat:=by rw[h.e,bV,lc]
theorem Qn {sp o:aa}{i:Int}(h:HT sp i o)(hi:i<=1073741824):Rw [tI] o:=by
 have l:=Gf h;have e:=h.e;rw[e,bV]at l;rw[e];exact EX h.b (by omega)
theorem MY {sp lg o:aa}{i:Int}(h:HT sp i o)(h0:0<=i)(h1:i<sp.length)(hh:hasB o (ag sp i 0)=true):layOk sp lg=false:=by
 rw[h.e,kS]at hh;exact C5 h0 h1 hh
theorem Qo {sp o:aa}{i:Int}(h:HT sp i o)(h0:0<=i)(hs:spOk (ag sp i 0) (ag sp i 1) (ag sp i 2)=true)(hh:hasB o (ag sp i 0)=false):HT sp (i+1) (o++[[.i (ag sp i 0)]]):=by
 have t:=gW hs;have e:=h.e;rw[e]at hh;have hm:=sf hh;exact⟨by rw[kI h0,eE,e];rfl,by rw[kI h0];exact hY h.nd hm,aW h.ok hs,by rw[kI h0];exact zP h.b (by omega)⟩
theorem MZ {sp lg o:aa}{i:Int}(h:HT sp i o)(h1:i<=sp.length)(h2:(sp.length:Int)<=i):Og sp lg 0 o:=by
 have e:i.toNat=sp.length:=by omega
 have ei:i=sp.length:=by omega
 have q1:=h.e;have q2:=h.nd;have q3:=h.ok;have q4:=h.b;rw[e]at q1 q2 q4;rw[ei]at q3;exact⟨by rw[q1];simp[iG],by simpa[iG]using q2,q3,bC,by simpa[iG]using q4,by simp[iG]⟩
theorem Ug {sp lg o:aa}{j:Int}(h:Og sp lg j o):HS sp lg j 0 o:=by
 refine⟨by rw[h.e];simp[kZ],by simpa[kZ]using h.nd,h.oks,h.ok,by simpa[kZ]using h.b,h.l⟩
theorem Ge {sp lg o:aa}{j k:Int}(h:HS sp lg j k o):o.length<=sp.length+64*j.toNat+k.toNat:=by
 have l:=h.l;rw[h.e,bV,Zg,Zg,lc,nP];omega
theorem Qj {sp lg o:aa}{j k:Int}(h:HS sp lg j k o)(h1:sp.length<=1073741824)(h2:j<=1073741824)(h3:k<=64):Rw [tI] o:=by
 have l:=Ge h;have e:=h.e;rw[e,bV]at l;rw[e];exact EX h.b (by omega)
theorem MU {sp lg o:aa}{j k:Int}(h:HS sp lg j k o)(h0:0<=j)(h1:j<lg.length)(k0:0<=k)(k1:k<ag lg j 1)(hh:hasB o (ag lg j 0+k)=true):layOk sp lg=false:=by
 rw[h.e,kS]at hh;exact C6 h0 h1 k0 k1 hh
theorem Qh {p n s k:Int}(h:lgOk p n s=true)(k0:0<=k)(k1:k<n):0<=p/\p+k<=32/\bK .add Za p k=p+k/\1<=n/\n<=32:=by
 have t:=iu h;have b:=gV t.1;have e:bK .add Za p k=p+k:=bh (by omega);exact⟨by omega,by omega,e,by omega,by omega⟩
theorem Qk {sp lg o:aa}{j k:Int}(h:HS sp lg j k o)(k0:0<=k)(hx:0<=ag lg j 0+k/\ag lg j 0+k<=64)(hh:hasB o (ag lg j 0+k)=false):HS sp lg j (k+1) (o++[[.i (ag lg j 0+k)]]):=by
 have e:=h.e;rw[e]at hh;have hm:=sf hh;have q:∀ A:List Int,A++kZ (ag lg j 0) (k+1).toNat=A++kZ (ag lg j 0) k.toNat++[ag lg j 0+k]:=fun A=>by rw[u6 k0,Zj]
 exact⟨by rw[q,eE,e];rfl,by rw[q];exact hY h.nd hm,h.oks,h.ok,by rw[q];exact zP h.b hx,h.l⟩
theorem MV {sp lg o:aa}{j k:Int}(h:HS sp lg j k o)(j0:0<=j)(hl:lgOk (ag lg j 0) (ag lg j 1) (ag lg j 2)=true)(k0:0<=k)(k1:k<=ag lg j 1)(k2:ag lg j 1<=k):Og sp lg (j+1) o:=by
 have t:=iu hl;have b:=gV t.1;have ek:k.toNat=(ag lg j 1).toNat:=by omega
 have q1:=h.e;have q2:=h.nd;have q4:=h.b;have q5:=h.l;rw[ek,Zj, <-mh j0]at q1 q2 q4;refine⟨q1,q2,h.oks,aW h.ok hl,q4,?_⟩;rw[mh j0,Zg,nP];omega
theorem MW {sp lg o:aa}{j:Int}(h:Og sp lg j o)(j1:j<=lg.length)(j2:(lg.length:Int)<=j):layOk sp lg=true:=by
 have e:j.toNat=lg.length:=by omega
 have q:=h.nd;rw[e]at q;exact C7 h.oks (Yn _) h.ok j2 q
end Go.V
namespace Go.V
structure Lu (sp:aa)(i:Int)(es:aa):Prop where
 s:lC es (iH sp i.toNat)
 nd:(iH sp i.toNat).Nodup
 ok:upto (Lb sp) i
structure Of (sp lg:aa)(j:Int)(es:aa):Prop where
 s:lC es (iH sp sp.length++iG lg j.toNat)
 nd:(iH sp sp.length++iG lg j.toNat).Nodup
 oks:upto (Lb sp) sp.length
 ok:upto (MR lg) j
structure Ls (sp lg:aa)(j k:Int)(es:aa):Prop where
 s:lC es (iH sp sp.length++iG lg j.toNat++kZ (ag lg j 0) k.toNat)
 nd:(iH sp sp.length++iG lg j.toNat++kZ (ag lg j 0) k.toNat).Nodup
 oks:upto (Lb sp) sp.length
 ok:upto (MR lg) j
theorem Hf {es:aa}{l:List Int}{n:Int}(h:lC es l)(e:mgbI es n=false):n∉l:=fun m=>by rw[(h.at_ n).2 m]at e;cases e
theorem T8 {sp:aa}:Lu sp 0 []:=⟨Ca,ZL,bC⟩
theorem ML {sp lg es:aa}{i:Int}(h:Lu sp i es)(h0:0<=i)(h1:i<sp.length)(hh:mgbI es (ag sp i 0)=true):layOk sp lg=false:=
 C5 h0 h1 ((h.s.at_ _).1 hh)
theorem P1 {sp es:aa}{i:Int}(h:Lu sp i es)(h0:0<=i)(hs:spOk (ag sp i 0) (ag sp i 1) (ag sp i 2)=true)(hh:mgbI es (ag sp i 0)=false):Lu sp (i+1) (muT es (ag sp i 0)):=
 ⟨by rw[kI h0];exact sx h.s,by rw[kI h0];exact hY h.nd (Hf h.s hh),aW h.ok hs⟩
theorem MM {sp lg es:aa}{i:Int}(h:Lu sp i es)(h1:i<=sp.length)(h2:(sp.length:Int)<=i):Of sp lg 0 es:=by
 have e:i.toNat=sp.length:=by omega
 have ei:i=sp.length:=by omega
 have q1:=h.s;have q2:=h.nd;have q3:=h.ok;rw[e]at q1 q2;rw[ei]at q3;exact⟨by simpa[iG]using q1,by simpa[iG]using q2,q3,bC⟩
theorem T6 {sp lg es:aa}{j:Int}(h:Of sp lg j es):Ls sp lg j 0 es:=
 ⟨by simpa[kZ]using h.s,by simpa[kZ]using h.nd,h.oks,h.ok⟩
theorem ME {sp lg es:aa}{j k:Int}(h:Ls sp lg j k es)(h0:0<=j)(h1:j<lg.length)(k0:0<=k)(k1:k<ag lg j 1)(hh:mgbI es (ag lg j 0+k)=true):layOk sp lg=false:=
 C6 h0 h1 k0 k1 ((h.s.at_ _).1 hh)
theorem P0 {sp lg es:aa}{j k:Int}(h:Ls sp lg j k es)(k0:0<=k)(hh:mgbI es (ag lg j 0+k)=false):Ls sp lg j (k+1) (muT es (ag lg j 0+k)):=by
 have q:∀ A:List Int,A++kZ (ag lg j 0) (k+1).toNat=A++kZ (ag lg j 0) k.toNat++[ag lg j 0+k]:=fun A=>by rw[u6 k0,Zj]
 exact⟨by rw[q];exact sx h.s,by rw[q];exact hY h.nd (Hf h.s hh),h.oks,h.ok⟩
theorem MF {sp lg es:aa}{j k:Int}(h:Ls sp lg j k es)(j0:0<=j)(hl:lgOk (ag lg j 0) (ag lg j 1) (ag lg j 2)=true)(k1:k<=ag lg j 1)(k2:ag lg j 1<=k):Of sp lg (j+1) es:=by
 have ek:k.toNat=(ag lg j 1).toNat:=by omega
 have q1:=h.s;have q2:=h.nd;rw[ek,Zj, <-mh j0]at q1 q2;exact⟨q1,q2,h.oks,aW h.ok hl⟩
theorem MG {sp lg es:aa}{j:Int}(h:Of sp lg j es)(j1:j<=lg.length)(j2:(lg.length:Int)<=j):layOk sp lg=true:=by
 have e:j.toNat=lg.length:=by omega
 have q:=h.nd;rw[e]at q;exact C7 h.oks (Yn _) h.ok j2 q
theorem QH {b:Bool}(h:(!b)=false):b=true:=by cases b<;>simp_all
theorem QI {b:Bool}(h:(!b)=true):b=false:=by cases b<;>simp_all
end Go.V
namespace Go.V
def wJ (sp:aa)(a i:Int):Bool:=decide (0<=saS (ag sp i 0) (ag sp i 1) (ag sp i 2) a)
def Ap (lg:aa)(a i:Int):Bool:=lhB (ag lg i 0) (ag lg i 1) (ag lg i 2) a
def fk (sp:aa)(a:Int):Int:=cr (wJ sp a) sp.length
def wF (lg:aa)(a:Int):Int:=cr (Ap lg a) lg.length
def sy (sp:aa)(a i:Int):Int:=saS (ag sp i 0) (ag sp i 1) (ag sp i 2) a
def NN (sp:aa)(a i:Int):Int:=saO (ag sp i 0) (ag sp i 1) (ag sp i 2) a
def Tm (lg:aa)(a i:Int):Int:=loI (ag lg i 0) (ag lg i 1) (ag lg i 2) a
def dnK (sp lg:aa)(a:Int):Int:=if 0<=fk sp a then(if hsB (ag sp (fk sp a) 2) (sy sp a (fk sp a))then 1 else 2)else if 0<=wF lg a then 3 else 0
def dnI (sp lg:aa)(a:Int):Int:=if 0<=fk sp a then fk sp a else if 0<=wF lg a then wF lg a else 0
def dnS (sp:aa)(a:Int):Int:=if 0<=fk sp a then sy sp a (fk sp a)else 0
def dnO (sp lg:aa)(a:Int):Int:=if 0<=fk sp a then NN sp a (fk sp a)else if 0<=wF lg a then Tm lg a (wF lg a)else 0
def dzK (sp lg:aa)(a:Int):Int:=if layOk sp lg then dnK sp lg a else 0
def dzI (sp lg:aa)(a:Int):Int:=if layOk sp lg then dnI sp lg a else 0
def dzS (sp lg:aa)(a:Int):Int:=if layOk sp lg then dnS sp a else 0
def dzO (sp lg:aa)(a:Int):Int:=if layOk sp lg then dnO sp lg a else 0
theorem RO {sp:aa}{a i:Int}(h:upto (cv (wJ sp a)) i)(hs:saS (ag sp i 0) (ag sp i 1) (ag sp i 2) a<0):upto (cv (wJ sp a)) (i+1):=
 aW h (by unfold cv wJ;rw[aa1 (by omega)];rfl)
theorem Qd {lg:aa}{a i:Int}(h:upto (cv (Ap lg a)) i)(hs:lhB (ag lg i 0) (ag lg i 1) (ag lg i 2) a=false):upto (cv (Ap lg a)) (i+1):=
 aW h (by unfold cv Ap;rw[hs];rfl)
theorem Ki {sp:aa}{a i:Int}(h:upto (cv (wJ sp a)) i)(h0:0<=i)(h1:i<sp.length)(hs:0<=saS (ag sp i 0) (ag sp i 1) (ag sp i 2) a):fk sp a=i:=
 dz h h0 h1 (aa0 hs)
theorem Kj {sp:aa}{a i:Int}(h:upto (cv (wJ sp a)) i)(h1:(sp.length:Int)<=i):fk sp a= -1:=dP h h1
theorem Ph {lg:aa}{a i:Int}(h:upto (cv (Ap lg a)) i)(h0:0<=i)(h1:i<lg.length)(hs:lhB (ag lg i 0) (ag lg i 1) (ag lg i 2) a=true):wF lg a=i:=
 dz h h0 h1 hs
theorem Pi {lg:aa}{a i:Int}(h:upto (cv (Ap lg a)) i)(h1:(lg.length:Int)<=i):wF lg a= -1:=dP h h1
def Nl (k i s o:Int):List DV:=[DV.agg [.i k,.i i,.i s,.i o]]
def HK (sp lg:aa)(a:Int):List DV:=Nl (dnK sp lg a) (dnI sp lg a) (dnS sp a) (dnO sp lg a)
def Ti (sp lg:aa)(a:Int):List DV:=Nl (dzK sp lg a) (dzI sp lg a) (dzS sp lg a) (dzO sp lg a)
theorem Vz {sp lg:aa}{a i:Int}(h:upto (cv (wJ sp a)) i)(h0:0<=i)(h1:i<sp.length)(hs:0<=saS (ag sp i 0) (ag sp i 1) (ag sp i 2) a)(hh:hsB (ag sp i 2) (saS (ag sp i 0) (ag sp i 1) (ag sp i 2) a)=true):
 Nl 1 i (saS (ag sp i 0) (ag sp i 1) (ag sp i 2) a) (saO (ag sp i 0) (ag sp i 1) (ag sp i 2) a)=HK sp lg a:=by
 have e:=Ki h h0 h1 hs;unfold HK dnK dnI dnS dnO sy NN;rw[e,aa3 h0,aa3 h0,aa3 h0,aa3 h0,hh];rfl
theorem VA {sp lg:aa}{a i:Int}(h:upto (cv (wJ sp a)) i)(h0:0<=i)(h1:i<sp.length)(hs:0<=saS (ag sp i 0) (ag sp i 1) (ag sp i 2) a)(hh:hsB (ag sp i 2) (saS (ag sp i 0) (ag sp i 1) (ag sp i 2) a)=false):
 Nl 2 i (saS (ag sp i 0) (ag sp i 1) (ag sp i 2) a) (saO (ag sp i 0) (ag sp i 1) (ag sp i 2) a)=HK sp lg a:=by
 have e:=Ki h h0 h1 hs;unfold HK dnK dnI dnS dnO sy NN;rw[e,aa3 h0,aa3 h0,aa3 h0,aa3 h0,hh];rfl
theorem VB {sp lg:aa}{a i j:Int}(h:upto (cv (wJ sp a)) i)(h1:(sp.length:Int)<=i)(g:upto (cv (Ap lg a)) j)(j0:0<=j)(j1:j<lg.length)(hh:lhB (ag lg j 0) (ag lg j 1) (ag lg j 2) a=true):
 Nl 3 j 0 (loI (ag lg j 0) (ag lg j 1) (ag lg j 2) a)=HK sp lg a:=by
 have e:=Kj h h1;have f:=Ph g j0 j1 hh;have n:¬ (0:Int)<= -1:=by omega
 unfold HK dnK dnI dnS dnO Tm;rw[e,f,aa4 n,aa4 n,aa4 n,aa4 n,aa3 j0,aa3 j0,aa3 j0]
theorem VC {sp lg:aa}{a i j:Int}(h:upto (cv (wJ sp a)) i)(h1:(sp.length:Int)<=i)(g:upto (cv (Ap lg a)) j)(j1:(lg.length:Int)<=j):
 Nl 0 0 0 0=HK sp lg a:=by
 have e:=Kj h h1;have f:=Pi g j1;have n:¬ (0:Int)<= -1:=by omega
 unfold HK dnK dnI dnS dnO;rw[e,f,aa4 n,aa4 n,aa4 n,aa4 n,aa4 n,aa4 n,aa4 n]
theorem Ik {sp lg:aa}{a:Int}(h:layOk sp lg=true):HK sp lg a=Ti sp lg a:=by
 unfold Ti HK dzK dzI dzS dzO;rw[aa3 h,aa3 h,aa3 h,aa3 h]
theorem TE {sp lg:aa}{a:Int}(h:layOk sp lg=false):Nl 0 0 0 0=Ti sp lg a:=by
 have n:¬ layOk sp lg=true:=by rw[h];decide
 unfold Ti dzK dzI dzS dzO;rw[aa4 n,aa4 n,aa4 n,aa4 n]
end Go.V
namespace Go.V
def rK (sp lg:aa)(a:Int):Bool:=decide (dzO sp lg a=0)&&(decide (dzK sp lg a=1)||decide (dzK sp lg a=3))
def HM (sp lg:aa):Nat->aa
 |0=>[]
 |n+1=>HM sp lg n++(if rK sp lg n then[[.i n]]else[])
def laL (sp lg:aa):aa:=if layOk sp lg then HM sp lg 512 else[]
structure HR (sp lg:aa)(i:Int)(o:aa):Prop where
 e:o=HM sp lg i.toNat
 l:o.length<=i.toNat
 y:0<i->layOk sp lg=true
theorem Uc {sp lg:aa}:HR sp lg 0 []:=⟨rfl,Nat.le_refl _,fun h=>absurd h (by omega)⟩
theorem FX {sp lg:aa}{i:Int}(h:0<=i):HM sp lg (i+1).toNat=HM sp lg i.toNat++(if rK sp lg i then[[.i i]]else[]):=by
 rw[show(i+1).toNat=i.toNat+1 from by omega,HM,Zt h]
theorem FZ {sp lg o:aa}{i:Int}(h:HR sp lg i o)(h0:0<=i)(hl:layOk sp lg=true)(hv:rK sp lg i=true):HR sp lg (i+1) (o++[[.i i]]):=by
 have e:=h.e;have l:=h.l;refine⟨by rw[FX h0,aa3 hv, <-e],?_,fun _=>hl⟩;rw[Zg,List.length_cons,List.length_nil];omega
theorem Kw {sp lg o:aa}{i:Int}(h:HR sp lg i o)(h0:0<=i)(hl:layOk sp lg=true)(hv:rK sp lg i=false):HR sp lg (i+1) o:=by
 have e:=h.e;have l:=h.l;refine⟨by rw[FX h0,hv, <-e];simp,?_,fun _=>hl⟩;omega
theorem MP {sp lg o:aa}{i:Int}(h:HR sp lg i o)(h1:i<=512)(h2:512<=i):o=laL sp lg:=by
 have e:i=512:=by omega
 subst e;unfold laL;rw[aa3 (h.y (by omega))];exact h.e
theorem MO {sp lg o:aa}{i:Int}(h:HR sp lg i o)(h0:0<=i)(hl:layOk sp lg=false):o=laL sp lg:=by
 have z:i=0:=by
  by_cases c:0<i
  ·have:=h.y c;rw[hl]at this;cases this
  ·omega
 subst z;unfold laL;rw[hl];exact h.e
theorem Qs {sp lg:aa}{a:Int}(h:dzO sp lg a=0)(k:dzK sp lg a=1):rK sp lg a=true:=by unfold rK;rw[h,k];rfl
theorem Qt {sp lg:aa}{a:Int}(h:dzO sp lg a=0)(k:dzK sp lg a=3):rK sp lg a=true:=by unfold rK;rw[h,k];rfl
theorem Qp {sp lg:aa}{a:Int}(h:dzO sp lg a≠0):rK sp lg a=false:=by unfold rK;rw[aa1 h];rfl
theorem Qq {sp lg:aa}{a:Int}(h:dzK sp lg a≠1)(k:dzK sp lg a≠3):rK sp lg a=false:=by unfold rK;rw[aa1 h,aa1 k,Bool.or_false,Ya]
theorem pd {a b:aa}(h:a=b):[DV.one (.s 1 a)]=[DV.one (.s 1 b)]:=by rw[h]
end Go.V