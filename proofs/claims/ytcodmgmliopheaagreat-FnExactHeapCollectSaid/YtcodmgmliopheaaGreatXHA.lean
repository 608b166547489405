/- Plain facts. -/
import Derived.Test.YtcodmgmliopheaaGreatXVE
set_option linter.all false
open Go
open Bool renaming and_eq_true->AI,and_false->adN
open Int renaming toNat_of_nonneg->IS,toNat_natCast->ac4,le_refl->aev
open IntKind renaming wrap->aeE,bits->agA,signed->ago
open IntWalk renaming i64_in->afv
open List renaming range->adb,mem_range->ad2,length_append->AT,mem_cons->acZ,getD_eq_getElem?_getD->BY,getElem?_eq_getElem->IT,mem_append->If,find?_range_eq_some->aeZ,find?_range_eq_none->afS,append_assoc->IN,nodup_append->ac3,nodup_nil->adz
open Nat renaming le_refl->No
namespace Go.V
theorem mJ {n:Int}(h:IntKind.has .i64 n): -9223372036854775808<=n/\n<=9223372036854775807:=h
theorem di {i:Int}(h0:0<=i)(h1:i<9223372036854775807):bR .add .i64 i 1=i+1:=bE (by omega)
def inR (x a b:Int):Bool:=decide (a<=x)&&decide (x<=b)
theorem bP {x a b:Int}:inR x a b=true↔a<=x/\x<=b:=by simp[inR]
theorem AR {x a b:Int}:inR x a b=false↔x<a\/b<x:=by
 cases h:inR x a b
 ·simp only[true_iff];unfold inR at h;simp only[Bool.and_eq_false_iff,decide_eq_false_iff_not]at h;omega
 ·rw[bP]at h;constructor
  ·intro q;cases q
  ·omega
def cF (p:Int->Bool)(n:Nat):Bool:=(adb n).all fun j=>p (j:Int)
def upto (p:Int->Bool)(i:Int):Prop:=∀ j:Int,0<=j->j<i->p j=true
theorem bM {p:Int->Bool}:upto p 0:=fun j h0 h1=>absurd h1 (by omega)
theorem bj {p:Int->Bool}{i:Int}(h:upto p i)(hp:p i=true):upto p (i+1):=fun j h0 h1=>by
 by_cases q:j=i
 ·subst q;exact hp
 ·exact h j h0 (by omega)
theorem cJ {p:Int->Bool}{n:Nat}:cF p n=true↔upto p n:=by
 simp only[cF,List.all_eq_true,ad2];exact⟨fun h j h0 h1=>by have:=h j.toNat (by omega);rwa [IS h0]at this,fun h x hx=>h x (by omega) (by omega)⟩
theorem bN {p:Int->Bool}{n:Nat}{i:Int}(h:upto p i)(hi:(n:Int)<=i):cF p n=true:=cJ.2 fun j h0 h1=>h j h0 (by omega)
theorem bW {p:Int->Bool}{n:Nat}{i:Int}(h0:0<=i)(h:i<n)(hp:p i=false):cF p n=false:=by
 cases q:cF p n
 ·rfl
 ·rw[cJ.1 q i h0 h]at hp;cases hp
theorem gY {a b:Bool}(h:a=true↔b=true):a=b:=by cases a<;>cases b<;>simp_all
theorem ai {a b:Bool}(h:a=b):[DV.k a]=[DV.k b]:=by rw[h]
def nP (cs us:aa)(i k:Int):Bool:=inR (ag (ap cs i 0) k 0) 0 999&&(uX us i 0||decide (ag (ap cs i 0) k 0=0))
def ie (cs us:aa)(i:Int):Bool:=decide ((ap cs i 0).length=16)&&cF (nP cs us i) 16
def framesOk (cs us:aa):Bool:=inR cs.length 1 32&&decide (us.length=cs.length)&&cF (ie cs us) cs.length
def qM (es:aa)(fr i:Int):Bool:=inR (ag es i 0) 0 2&&decide (ag es i 0=0->ag es i 1=0)&&decide (0<ag es i 0->0<=ag es i 1/\ag es i 1<fr)
def tableOk (es:aa)(fr:Int):Bool:=cF (qM es fr) es.length&&inR es.length 1 32
def ym (es:aa)(f:Int):Nat->aa
 |0=>[]
 |n+1=>if ag es n 0≠0/\ag es n 1=f then ym es f n++[[.i n]]else ym es f n
def pagesOn (es:aa)(f:Int):aa:=ym es f es.length
theorem E2 {es:aa}{f:Int}:∀ {n:Nat},(ym es f n).length<=n
 |0=>Nat.zero_le _
 | n+1=>by
   have:=E2 (es:=es) (f:=f) (n:=n);unfold ym;split
   ·rw[AT];simp;omega
   ·omega
theorem J0 {es:aa}{f:Int}{n:Nat}(h0:ag es n 0≠0)(h1:ag es n 1=f):ym es f (n+1)=ym es f n++[[.i n]]:=by rw[ym,if_pos ⟨h0,h1⟩]
theorem NI {es:aa}{f:Int}{n:Nat}(h:ag es n 0=0\/ag es n 1≠f):ym es f (n+1)=ym es f n:=by rw[ym,if_neg (by rintro⟨a,b⟩;rcases h with q|q;exact a q;exact q b)]
theorem Qb {es:aa}{f i:Int}(hi:0<=i)(h0:ag es i 0≠0)(h1:ag es i 1=f):ym es f (i+1).toNat=ym es f i.toNat++[[.i i]]:=by
 have e:((i.toNat:Nat):Int)=i:=IS hi;rw[show(i+1).toNat=i.toNat+1 from by omega,J0 (by rw[e];exact h0) (by rw[e];exact h1),e]
theorem NH {es:aa}{f i:Int}(hi:0<=i)(h:ag es i 0=0\/ag es i 1≠f):ym es f (i+1).toNat=ym es f i.toNat:=by
 have e:((i.toNat:Nat):Int)=i:=IS hi;rw[show(i+1).toNat=i.toNat+1 from by omega,NI (by rw[e];exact h)]
theorem Dq {es:aa}{f:Int}:(pagesOn es f).length<=es.length:=E2
def gW (es:aa)(f:Int):Bool:=decide (0<(pagesOn es f).length)
theorem ES {es:aa}{f:Int}:gW es f=true↔0<(pagesOn es f).length:=by simp[gW]
theorem Ur {cs us:aa}(h:inR cs.length 1 32=false):framesOk cs us=false:=by unfold framesOk;rw[h];rfl
theorem Us {cs us:aa}(h:us.length≠cs.length):framesOk cs us=false:=by unfold framesOk;rw[decide_eq_false h];simp
theorem Ut {cs us:aa}{i:Int}(h0:0<=i)(h1:i<cs.length)(h:(ap cs i 0).length≠16):framesOk cs us=false:=by
 unfold framesOk;rw[bW h0 h1 (by unfold ie;rw[decide_eq_false h];rfl)];simp
theorem Mf {cs us:aa}{i k:Int}(h0:0<=i)(h1:i<cs.length)(k0:0<=k)(k1:k<16)(h:inR (ag (ap cs i 0) k 0) 0 999=false\/uX us i 0=false/\ag (ap cs i 0) k 0≠0):framesOk cs us=false:=by
 unfold framesOk;rw[bW h0 h1 (by unfold ie;rw[bW k0 (by simpa using k1) (by unfold nP;rcases h with q|⟨q,q'⟩;rw[q];rfl;rw[q,decide_eq_false q'];simp)];simp)];simp
theorem Mg {cs us:aa}{i:Int}(h1:inR cs.length 1 32=true)(h2:us.length=cs.length)(h:upto (ie cs us) i)(hi:(cs.length:Int)<=i):framesOk cs us=true:=by
 unfold framesOk;rw[h1,decide_eq_true h2,bN h hi];rfl
theorem RB {cs us:aa}{i k:Int}(hl:(ap cs i 0).length=16)(h:upto (nP cs us i) k)(hk:16<=k):ie cs us i=true:=by
 unfold ie;rw[decide_eq_true hl,bN h (by simpa using hk)];rfl
theorem Re {cs us:aa}{i k:Int}(h:inR (ag (ap cs i 0) k 0) 0 999=true)(h':uX us i 0=true\/ag (ap cs i 0) k 0=0):nP cs us i k=true:=by
 unfold nP;rw[h];rcases h' with q|q
 ·rw[q];rfl
 ·rw[decide_eq_true q];simp
theorem Ir {k:Nat}{a b:aa}(h:a=b):[DV.one (.s k a)]=[DV.one (.s k b)]:=by rw[h]
theorem aao {es:aa}{n i:Int}(h0:0<=i)(h1:i<es.length)(h:¬ (0<=ag es i 0/\ag es i 0<=2/\(ag es i 0=0->ag es i 1=0)/\(0<ag es i 0->0<=ag es i 1/\ag es i 1<n))):tableOk es n=false:=by
 unfold tableOk;rw[bW h0 h1];rfl;cases q:qM es n i;rfl
 ·refine absurd ?_ h;unfold qM at q;simp only[AI,decide_eq_true_eq,bP]at q;exact⟨q.1.1.1,q.1.1.2,q.1.2,q.2⟩
theorem Tf {es:aa}{n i:Int}(h:0<=ag es i 0/\ag es i 0<=2/\(ag es i 0=0->ag es i 1=0)/\(0<ag es i 0->0<=ag es i 1/\ag es i 1<n)):qM es n i=true:=by
 unfold qM;simp only[AI,decide_eq_true_eq,bP];exact⟨⟨⟨h.1,h.2.1⟩,h.2.2.1⟩,h.2.2.2⟩
theorem Oq {es:aa}{n i:Int}(h:upto (qM es n) i)(hi:(es.length:Int)<=i):tableOk es n=inR es.length 1 32:=by unfold tableOk;rw[bN h hi];rfl
theorem BC {es:aa}{n:Int}(h:tableOk es n=true):1<=es.length/\es.length<=32:=by
 unfold tableOk at h;simp only[AI,bP]at h;omega
theorem aan {es:aa}{n i:Int}(h:tableOk es n=true)(h0:0<=i)(h1:i<es.length):0<=ag es i 0/\ag es i 0<=2/\(ag es i 0=0->ag es i 1=0)/\(0<ag es i 0->0<=ag es i 1/\ag es i 1<n):=by
 unfold tableOk at h;simp only[AI]at h;have q:=cJ.1 h.1 i h0 h1;unfold qM at q;simp only[AI,decide_eq_true_eq,bP]at q;exact⟨q.1.1.1,q.1.1.2,q.1.2,q.2⟩
theorem AD {cs us:aa}(h:framesOk cs us=true):us.length=cs.length/\1<=cs.length/\cs.length<=32:=by
 unfold framesOk at h;simp only[AI,decide_eq_true_eq,bP]at h;omega
theorem XG {cs us:aa}{i:Int}(h:framesOk cs us=true)(h0:0<=i)(h1:i<cs.length):(ap cs i 0).length=16:=by
 unfold framesOk at h;simp only[AI,decide_eq_true_eq,bP]at h;have q:=cJ.1 h.2 i h0 h1;unfold ie at q;simp only[AI,decide_eq_true_eq]at q;exact q.1
end Go.V
namespace Go.V
theorem Bg {a n:Int}(h0:0<=a)(h1:a<=9223372036854775807)(hn:0<n):bR .quo .i64 a n=a/n:=by
 show aeE .i64 (a.tdiv n)=_;rw[Int.tdiv_eq_ediv_of_nonneg h0];have h2:0<=a/n:=Int.ediv_nonneg h0 (by omega);have h3:a/n<=a:=Int.ediv_le_self _ h0;exact afv _ (by omega)
theorem NX {a n:Int}(h0:0<=a):bR .rem .i64 a n=a%n:=Int.tmod_eq_emod_of_nonneg h0
theorem JH {a:aa}{f:Int}:dx .gtr (pagesOn a f).length 0=gW a f:=gY (by rw[ES];simp only[SS];omega)
theorem P0 {a:aa}{f:Int}(h:(pagesOn a f).length=0):gW a f=false:=by unfold gW;rw[h];rfl
theorem Q1 {a b a' b':Int}(h:a=a')(h':b=b'):[DV.agg [.i a,.i b]]=[DV.agg [.i a',.i b']]:=by rw[h,h']
theorem Aw {a b a' b':Int}(h:a=a')(h':b=b'):[DV.j a,DV.j b]=[DV.j a',DV.j b']:=by rw[h,h']
theorem dZ {a b:Int}(h:a=b):[DV.j a]=[DV.j b]:=by rw[h]
def peM (es:aa)(p:Int):Int:=if 0<=p/\p<es.length then ag es p 0 else 0
def peF (es:aa)(p:Int):Int:=if 0<=p/\p<es.length then ag es p 1 else 0
theorem NF {es:aa}{p:Int}(h:0<=p/\p<es.length):peM es p=ag es p 0/\peF es p=ag es p 1:=by unfold peM peF;rw[if_pos h,if_pos h];exact⟨rfl,rfl⟩
theorem JY {es:aa}{p:Int}(h:¬ (0<=p/\p<es.length)):peM es p=0/\peF es p=0:=by unfold peM peF;rw[if_neg h,if_neg h];exact⟨rfl,rfl⟩
def leM (es:aa)(a:Int):Int:=if a<0 then 0 else peM es (a/16)
def leF (es:aa)(a:Int):Int:=if a<0 then 0 else peF es (a/16)
def leK (a:Int):Int:=if a<0 then 0 else a%16
end Go.V
namespace Go.V
theorem jf {fs:List Ty}{es:aa}{i:Int}(h:Rw [.sl fs] es)(h0:0<=i)(h1:i<es.length):es.take (i+1).toNat=es.take i.toNat++[[.s fs.length (ap es i 0)]]:=by
 rw[show(i+1).toNat=i.toNat+1 from by omega,fG (d:=[]) (show i.toNat<es.length by omega)];have e:=h.eta h0 h1;rw[e];rfl
theorem rL {fs:List Ty}{es:aa}{i:Int}(h:Rw [.sl fs] es)(h0:0<=i)(h1:i<es.length):ak (ap es i 0)+es.length<=ak es:=by
 have e:=h.eta h0 h1;have h2:=dq (es:=es) (n:=i.toNat) (by omega);have h3:=bS (es:=es) (n:=i.toNat+1);rw[e]at h2;have h4:cS (mZ ah es i 0 (zR [Ty.sl fs]))=ak (ap es i 0):=by
  show cS [.s fs.length (ap es i 0)]=_;simp only[cS,fQ,ak];omega
 rw[h4]at h2;show _<=es.length+bK es;omega
theorem av {es:aa}:es.length<=ak es:=Nat.le_add_right _ _
theorem je {es:aa}{i:Int}(h:(es.length:Int)<=i):es.take i.toNat=es:=List.take_of_length_le (by omega)
def oA (us es:aa)(i:Int):Bool:=uX us i 0==gW es i
def machOk (cs us es:aa):Bool:=framesOk cs us&&tableOk es cs.length&&cF (oA us es) cs.length
theorem JM {cs us es:aa}(h:framesOk cs us=false\/tableOk es cs.length=false):machOk cs us es=false:=by
 unfold machOk;rcases h with h|h<;>rw[h]<;>simp
theorem Vi {cs us es:aa}(hf:framesOk cs us=true)(h:tableOk es us.length=false):machOk cs us es=false:=by
 rw[(AD hf).1]at h;exact JM (.inr h)
theorem Nf {cs us es:aa}{i:Int}(h0:0<=i)(h1:i<cs.length)(h:uX us i 0≠gW es i):machOk cs us es=false:=by
 unfold machOk;rw[bW h0 h1 (by unfold oA;simpa using h)];simp
theorem Nc {us es:aa}{i:Int}(h:uX us i 0=gW es i):oA us es i=true:=by unfold oA;simpa using h
theorem H5 {cs us es:aa}{i:Int}(h:framesOk cs us=true)(h2:tableOk es us.length=true)(hu:upto (oA us es) i)(hi:(us.length:Int)<=i):machOk cs us es=true:=by
 rw[(AD h).1]at h2 hi;unfold machOk;rw[h,h2,bN hu hi];rfl
theorem YX {cs us es:aa}(q:machOk cs us es=true):framesOk cs us=true/\tableOk es cs.length=true/\∀ i:Int,0<=i->i<cs.length->uX us i 0=gW es i:=by
 unfold machOk at q;simp only[AI]at q;refine⟨q.1.1,q.1.2,fun i h0 h1=>?_⟩;have:=cJ.1 q.2 i h0 h1;unfold oA at this;simpa using this
def Nh :List aa->Int->List aa
 |[],_=>[]
 |r::rs,k=>aT r k::Nh rs (aw [r] k)
theorem eZ :∀ {rs:List aa} {k k':Int},aw (Nh rs k) k'=aw rs k'
 |[],_,_=>rfl
 | r::rs,k,k'=>by
   show aw (Nh rs (aw [r] k)) (dN (dN r k).1 k').2=aw rs (dN r k').2;rw[fj];exact eZ
theorem Na {rs:List aa}(h:∀ r∈rs,(dN r 0).2<=(64*ak r:Nat))(hc:aQ rs<=1099511627776):aw rs 1<=1152921504606846976:=MS h (by omega) hc
theorem gj :∀ {rs:List aa} {r:aa} {n:Nat},aQ rs<=n->r∈rs->ak r<=n
 | a::rs,r,n,h,hr=>by
   simp only[aQ]at h;rcases acZ.1 hr with rfl|q;omega;exact gj (rs:=rs) (by omega) q
end Go.V
namespace Go.V
theorem CQ :∀ {es:aa} {n:Nat} {e:ay},bK (es.set n e)<=bK es+cS e
 |[],_,_=>by simp[bK]
 |a::es,0,e=>by simp only[List.set_cons_zero,bK];omega
 | a::es,n+1,e=>by
   have:=CQ (es:=es) (n:=n) (e:=e);simp only[List.set_cons_succ,bK];omega
theorem tY {es:aa}{n:Nat}{e:ay}:ak (es.set n e)<=ak es+cS e:=by
 unfold ak;rw[List.length_set];have:=CQ (es:=es) (n:=n) (e:=e);omega
end Go.V
namespace Go.V
def Om (cs:aa)(fr k v:Int):aa:=cs.set fr.toNat [.s 1 ((ap cs fr 0).set k.toNat [.i v])]
theorem N1 {cs:aa}{fr:Int}(h:Rw [.sl [tI]] cs)(h0:0<=fr)(h1:fr<cs.length):cs.getD fr.toNat []=[.s 1 (ap cs fr 0)]:=h.eta h0 h1
theorem lp {cs:aa}{fr:Int}:mW (.s 1 cs) [(fr.toNat,0)]=ap cs fr 0:=uC
theorem TS {cs:aa}{fr:Int}(h:Rw [.sl [tI]] cs)(h0:0<=fr)(h1:fr<cs.length):cs[fr.toNat]?=some [.s 1 (ap cs fr 0)]:=by
 have e:=N1 h h0 h1;rw[BY,IT (by omega)]at e;rw[IT (by omega)];simpa using e
theorem Eu {cs:aa}{fr:Int}(h:Rw [.sl [tI]] cs)(h0:0<=fr)(h1:fr<cs.length):∃ rec o,bX (.s 1 cs) [(fr.toNat,0)]=some (rec,o)/\o+[L.s 1 []].length<=rec.length/\List.take [L.s 1 []].length (List.drop o rec)=ou ah (.s 1 cs) [(fr.toNat,0)] 0 [L.s 1 []]:=by
 refine⟨[.s 1 (ap cs fr 0)],0,?_,No _,?_⟩
 ·show(cs[fr.toNat]?).map (·,0)=_;rw[TS h h0 h1];rfl
 ·show[L.s 1 (ap cs fr 0)]=[L.s 1 (mW (.s 1 cs) [(fr.toNat,0)])];rw[lp]
theorem Gg {cs:aa}{fr:Int}(h:Rw [.sl [tI]] cs)(h0:0<=fr)(h1:fr<cs.length):∃ es,gQ (.s 1 cs) [(fr.toNat,0)]=some (1,es):=by
 refine⟨ap cs fr 0,?_⟩;rw[yB (by omega),N1 h h0 h1];rfl
def WB (cs us es:aa)(a:Int):Int:=if machOk cs us es=true then leM es a else 0
def smF (cs us es:aa)(a:Int):Int:=if machOk cs us es=true then leF es a else 0
def stK (cs us es:aa)(a v:Int):Int:=if WB cs us es a=0 then 1 else if WB cs us es a=1 then 2 else if inR v 0 999=true then 0 else 3
def stC (cs us es:aa)(a v:Int):aa:=if stK cs us es a v=0 then Om cs (smF cs us es a) (a%16) v else cs
def clsSz (k:Int):Int:=if k=0 then 1 else if k=1 then 2 else if k=2 then 4 else if k=3 then 8 else 0
def clsOf (s:Int):Int:=if s<1 then-1 else if s<=1 then 0 else if s<=2 then 1 else if s<=4 then 2 else if s<=8 then 3 else-1
theorem Xn {k:Int}(h:inR k 0 3=false):clsSz k=0:=by rw[AR]at h;unfold clsSz;repeat' split<;>omega
theorem Rh {k:Int}(h:inR k 0 3=true):Qs .shl .i64 1 k=clsSz k:=by
 rw[bP]at h;rcases(show k=0\/k=1\/k=2\/k=3 by omega)with rfl|rfl|rfl|rfl<;>decide
theorem Rj {k:Int}(h:inR k 0 3=true):WF .u64 k=k:=by
 rw[bP]at h;rcases(show k=0\/k=1\/k=2\/k=3 by omega)with rfl|rfl|rfl|rfl<;>decide
theorem Ri {k s:Int}(h0:0<=k/\k<=3)(h:clsSz k<s)(hs:1<=s/\s<=8):k+1<=3:=by
 rcases(show k=0\/k=1\/k=2\/k=3 by omega)with rfl|rfl|rfl|rfl<;>simp[clsSz]at h<;>omega
theorem Xe {s:Int}(h:s<1\/8<s):clsOf s= -1:=by unfold clsOf;repeat' split<;>omega
theorem T7 {k s:Int}(h0:0<=k/\k<=3)(h:s<=clsSz k)(hs:1<=s/\s<=8)(hp:k=0\/clsSz (k-1)<s):clsOf s=k:=by
 rcases(show k=0\/k=1\/k=2\/k=3 by omega)with rfl|rfl|rfl|rfl<;>simp[clsSz]at h hp<;>unfold clsOf<;>repeat' split<;>omega
end Go.V
namespace Go.V
theorem vU {l:aa}{i:Int}(h0:0<=i):SC (.s 1 l) [(i.toNat,0)]=ag l i 0:=by
 rw[Ii];unfold ag;rw[ac4]
end Go.V
namespace Go.V
theorem IZ {fs:List Ty}{cs:aa}{fr:Int}(h:Rw [.sl fs] cs)(h0:0<=fr)(h1:fr<cs.length):cs[fr.toNat]?=some [.s fs.length (ap cs fr 0)]:=by
 have e:cs.getD fr.toNat []=[.s fs.length (ap cs fr 0)]:=h.eta h0 h1;rw[BY,IT (by omega)]at e;rw[IT (by omega)];simpa using e
theorem Ms {cs r:aa}{n:Int}{sz:Nat}(h1:n.toNat<cs.length):ap (cs.set n.toNat [.s sz r]) n 0=r:=by
 unfold ap;rw[d7 h1];rfl
theorem E3 {es:aa}{f:Int}:∀ {n:Nat} {e:ay},e∈ym es f n->∃ k:Nat,k<n/\e=[.i k]
 |0,e,h=>by cases h
 | n+1,e,h=>by
   unfold ym at h;split at h
   ·rcases If.1 h with q|q
    ·obtain⟨k,hk,e⟩:=E3 q;exact⟨k,by omega,e⟩
    ·rw[List.mem_singleton]at q;exact⟨n,by omega,q⟩
   ·obtain⟨k,hk,e⟩:=E3 h;exact⟨k,by omega,e⟩
theorem ND {es:aa}{f:Int}(h:es.length<=1099511627776):Rw [tI] (pagesOn es f):=by
 have hl:=Dq (es:=es) (f:=f);refine⟨by simp[maxLen];omega,fun e he=>?_⟩;obtain⟨k,hk,rfl⟩:=E3 he;exact⟨⟨rfl,(show-9223372036854775808<=(k:Int)/\(k:Int)<=9223372036854775807 by omega)⟩,trivial⟩
end Go.V
namespace Go.V
def dL (p:Int->Bool)(n:Nat):Int:=match(adb n).find? (fun j:Nat=>p (j:Int))with
 |some j=>(j:Int)
 |none=> -1
def dt (p:Int->Bool)(j:Int):Bool:= !p j
theorem oD {p:Int->Bool}{i:Int}(h:p i=false):dt p i=true:=by unfold dt;rw[h];rfl
theorem fF {p:Int->Bool}{n:Nat}{i:Int}(h:upto (dt p) i)(h0:0<=i)(h1:i<n)(h2:p i=true):dL p n=i:=by
 have e:((i.toNat:Nat):Int)=i:=IS h0;have:(adb n).find? (fun j:Nat=>p (j:Int))=some i.toNat:=by
  rw[aeZ];refine⟨by rw[e];exact h2,ad2.2 (by omega),fun j hj=>?_⟩;exact h j (by omega) (by omega)
 unfold dL;rw[this];exact e
theorem gB {p:Int->Bool}{n:Nat}{i:Int}(h:upto (dt p) i)(h1:(n:Int)<=i):dL p n= -1:=by
 have:(adb n).find? (fun j:Nat=>p (j:Int))=none:=by
  rw[afS];intro j hj;exact h j (by omega) (by omega)
 unfold dL;rw[this]
theorem ua {p:Int->Bool}{n:Nat}:dL p n= -1\/0<=dL p n/\dL p n<n:=by
 unfold dL;split
 ·rename_i j h;rw[aeZ]at h;have:=ad2.1 h.2.1;omega
 ·exact .inl rfl
def eqB (a b:Int):Bool:=decide (a=b)
theorem Ay {a b:Int}(h:a=b):eqB a b=true:=decide_eq_true h
theorem CX {a b:Int}(h:a≠b):eqB a b=false:=decide_eq_false h
end Go.V
namespace Go.V
def aak (f:Int->Int):Nat->Int
 |0=>0
 |n+1=>bR .add .i64 (aak f n) (f n)
def szF (os:aa)(i:Int):Int:=ag os i 2
def lsI (os:aa):Int:=aak (szF os) os.length
def HV (os:aa)(a j:Int):Bool:=eqB (ag os j 1) a
def obI (os:aa)(a:Int):Int:=dL (HV os a) os.length
def isSp (ss:aa)(p j:Int):Bool:=eqB (ag ss j 0) p
def spI (ss:aa)(p:Int):Int:=dL (isSp ss p) ss.length
end Go.V
namespace Go.V
def y7 (x:Int):BitVec 64:=BitVec.ofInt 64 x
theorem Kt (x:BitVec 64):aeE .i64 (x.toNat:Int)=x.toInt:=by
 have h:=x.isLt;rw[BitVec.toInt_eq_toNat_cond];simp only[aeE,agA,ago,Bool.true_and,decide_eq_true_eq,show(64-1:Nat)=63 from rfl];split<;>split<;>omega
theorem TX {x:BitVec 64}:y7 x.toInt=x:=BitVec.ofInt_toInt
def fpg (es:aa)(p:Int):aa:=if peM es p=0 then[]else pagesOn es (peF es p)
theorem Me {es:aa}{p:Int}(h:peM es p=0):fpg es p=[]:=by unfold fpg;rw[if_pos h]
theorem Ji {es:aa}{p:Int}(h:peM es p≠0):fpg es p=pagesOn es (peF es p):=by unfold fpg;rw[if_neg h]
theorem Up {es:aa}{p:Int}(h:es.length<=1099511627776):Rw [tI] (fpg es p)/\(fpg es p).length<=1099511627776:=by
 unfold fpg;split;exact⟨Rw.nil,by simp⟩;exact⟨ND h,Nat.le_trans Dq h⟩
def R1 (l:aa)(x j:Int):Bool:=eqB x (ag l j 0)
def MI (l:aa)(x:Int):Int:=dL (R1 l x) l.length
def hasB (l:aa)(x:Int):Bool:=decide (0<=MI l x)
theorem Jn {l:aa}{x:Int}:hasB l x=true↔∃ k:Nat,k<l.length/\ag l k 0=x:=by
 unfold hasB MI;rw[decide_eq_true_eq]
 constructor
 ·intro h;unfold dL at h;split at h
  ·rename_i j hj;rw[aeZ]at hj;refine⟨j,ad2.1 hj.2.1,?_⟩;have:=hj.1;unfold R1 eqB at this;exact(of_decide_eq_true this).symm
  ·omega
 ·rintro⟨k,hk,e⟩;rcases ua (p:=R1 l x) (n:=l.length)with q|q
  ·exfalso;unfold dL at q;split at q
   ·omega
   ·rename_i hn;rw[afS]at hn;have:=hn k hk;unfold R1 eqB at this;rw[e]at this;simp at this
  ·exact q.1
def ubI (ss l:aa)(b:Int):Nat->Int
 |0=>b
 |n+1=>if hasB l (ag ss n 0)=true then bR .or .i64 (ubI ss l b n) (ag ss n 2)else ubI ss l b n
def ubB (es ss:aa)(i:Int):Int:=if inR i 0 (ss.length-1)=true then ubI ss (fpg es (ag ss i 0)) (ag ss i 2) ss.length else 0
end Go.V
namespace Go.V
def slB (b i:Int):Bool:=decide (0<=b)&&inR i 0 15
def hsB (b i:Int):Bool:=slB b i&&decide (bR .and .i64 (Qs .shr .i64 b i) 1=1)
theorem KY {b i:Int}:slB b i=true↔0<=b/\0<=i/\i<=15:=by simp[slB,inR]
theorem MB {b i:Int}(h:slB b i=false):hsB b i=false:=by unfold hsB;rw[h];rfl
theorem Hc {i:Int}(h0:0<=i)(h1:i<=15):WF .u64 i=i:=by
 show aeE .u64 i=i;simp only[aeE,agA,ago,Bool.false_and];rw[if_neg (by simp)];omega
def ctN (b:Int):Nat->Int
 |0=>0
 |n+1=>if hsB b n=true then bR .add .i64 (ctN b n) 1 else ctN b n
def ctI (b:Int):Int:=ctN b 16
def ab2 (ss:aa)(i:Int):ay:=[.i (ag ss i 0),.i (ag ss i 1),.i (ag ss i 2)]
def msN (es ss:aa):Nat->aa
 |0=>[]
 |n+1=>if 0<ctI (ag ss n 2)/\(fpg es (ag ss n 0)).length=1 then msN es ss n++[ab2 ss n]else msN es ss n
def msS (es ss:aa):aa:=msN es ss ss.length
end Go.V
namespace Go.V
def GA (rs:aa)(i:Int):Bool:=decide (0<=ag rs i 0)
def q8 (rs:aa):Bool:=cF (GA rs) rs.length&&decide (rs.length<=40)
def kerOk (cs us es:aa)(c:Int)(rs:aa):Bool:=machOk cs us es&&inR c 0 100000&&q8 rs
theorem NV {rs:aa}{i:Int}(h:0<=ag rs i 0):GA rs i=true:=decide_eq_true h
theorem NW {cs us es rs:aa}{c i:Int}(h0:0<=i)(h1:i<rs.length)(h:ag rs i 0<0):kerOk cs us es c rs=false:=by
 unfold kerOk q8;rw[bW h0 h1 (by unfold GA;exact decide_eq_false (by omega))];simp
theorem Qj {rs:aa}{i:Int}(h:upto (GA rs) i)(hi:(rs.length:Int)<=i)(hl:(rs.length:Int)<=40):q8 rs=true:=by
 unfold q8;rw[bN h hi,decide_eq_true (by omega)];rfl
theorem Qi {rs:aa}(hl:¬ (rs.length:Int)<=40):q8 rs=false:=by
 unfold q8;rw[decide_eq_false (by omega)];simp
theorem PV {cs us es rs:aa}{c:Int}(h1:machOk cs us es=true)(h2:inR c 0 100000=true)(h3:q8 rs=true):kerOk cs us es c rs=true:=by unfold kerOk;rw[h1,h2,h3];rfl
theorem PS {cs us es rs:aa}{c:Int}(h1:machOk cs us es=false):kerOk cs us es c rs=false:=by unfold kerOk;rw[h1];rfl
theorem Jy {cs us es rs:aa}{c:Int}(h1:inR c 0 100000=false):kerOk cs us es c rs=false:=by unfold kerOk;rw[h1];simp
theorem PU {cs us es rs:aa}{c:Int}(h1:q8 rs=false):kerOk cs us es c rs=false:=by unfold kerOk;rw[h1];simp
end Go.V
namespace Go.V
end Go.V
namespace Go.V
theorem FW {a b:aa}:ak (a++b)=ak a+ak b:=by unfold ak;rw[fI,AT];omega
end Go.V
namespace Go.V
def slN (k:Int):Int:=if inR k 0 3=true then 16/clsSz k else 0
theorem Po {k:Int}(h:inR k 0 3=true):k=0\/k=1\/k=2\/k=3:=by have:=bP.1 h;omega
theorem ma {k:Int}(h:inR k 0 3=true):1<=clsSz k/\clsSz k<=8/\2<=slN k/\slN k<=16/\slN k*clsSz k=16:=by
 rcases Po h with rfl|rfl|rfl|rfl<;>decide
theorem Of {k:Int}(h:inR k 0 3=true):bR .quo .i64 16 (clsSz k)=slN k:=by
 rcases Po h with rfl|rfl|rfl|rfl<;>decide
theorem Og {k:Int}(h:inR k 0 3=true):Qs .shr .i64 16 (WF .u64 k)=slN k:=by
 rcases Po h with rfl|rfl|rfl|rfl<;>decide
theorem Ix {k:Int}(h:inR k 0 3=false):slN k=0:=by unfold slN;rw[h];rfl
def bmOk (n b:Int):Bool:=inR n 1 16&&inR b 0 (2^n.toNat-1)
theorem Oe {n:Int}(h:inR n 1 16=true):bR .sub .i64 (Qs .shl .i64 1 n) 1=2^n.toNat-1/\bR .sub .i64 (Qs .shl .i64 1 (WF .u64 n)) 1=2^n.toNat-1/\0<=WF .u64 n:=by
 have q:=bP.1 h;have:n=1\/n=2\/n=3\/n=4\/n=5\/n=6\/n=7\/n=8\/n=9\/n=10\/n=11\/n=12\/n=13\/n=14\/n=15\/n=16:=by omega
 rcases this with rfl|rfl|rfl|rfl|rfl|rfl|rfl|rfl|rfl|rfl|rfl|rfl|rfl|rfl|rfl|rfl<;>decide
theorem Q4 {n b:Int}(h:inR n 1 16=false):bmOk n b=false:=by unfold bmOk;rw[h];rfl
theorem LB {n b:Int}(h:inR n 1 16=true):bmOk n b=inR b 0 (2^n.toNat-1):=by unfold bmOk;rw[h];rfl
def spOk (p k b:Int):Bool:=inR p 0 31&&bmOk (slN k) b
theorem LA {k b:Int}(h:inR k 0 3=false):bmOk (slN k) b=false:=by rw[Ix h];rfl
theorem Oj {p k b:Int}(h:inR p 0 31=false):spOk p k b=false:=by unfold spOk;rw[h];rfl
theorem V2 {p k b:Int}(h:inR k 0 3=false):spOk p k b=false:=by unfold spOk;rw[LA h,adN]
theorem Ol {p k b:Int}(h:inR p 0 31=true):spOk p k b=bmOk (slN k) b:=by unfold spOk;rw[h];rfl
theorem nh {p k b:Int}(h:spOk p k b=true):0<=p/\p<=31/\inR k 0 3=true/\bmOk (slN k) b=true:=by
 unfold spOk at h;simp only[AI,bP]at h;refine⟨h.1.1,h.1.2,?_,h.2⟩;cases q:inR k 0 3
 ·rw[LA q]at h;exact absurd h.2 (by decide)
 ·rfl
def pfN (s:Int):Int:=if inR s 9 1000=true then(s+15)/16 else 0
theorem Vy {s:Int}(h:inR s 9 1000=true):bR .quo .i64 (bR .sub .i64 (bR .add .i64 s 16) 1) 16=pfN s:=by
 have q:=bP.1 h;have e1:bR .add .i64 s 16=s+16:=bE (by omega);have e2:bR .sub .i64 (s+16) 1=s+16-1:=dD (by omega);unfold pfN;rw[if_pos h,e1,e2,Bg (by omega) (by omega) (by omega),show s+16-1=s+15 from by omega]
theorem SA {s:Int}(h:inR s 9 1000=false):pfN s=0:=by unfold pfN;rw[h];rfl
theorem na {s:Int}(h:inR s 9 1000=true):1<=pfN s/\pfN s<=63/\s<=pfN s*16:=by
 have q:=bP.1 h;unfold pfN;rw[if_pos h];omega
theorem NG {s:Int}:0<pfN s↔inR s 9 1000=true:=by
 constructor
 ·intro h;cases q:inR s 9 1000
  ·rw[SA q]at h;omega
  ·rfl
 ·intro h;have:=na h;omega
def lgOk (p n s:Int):Bool:=inR s 9 1000&&(decide (n=pfN s)&&inR p 0 (32-n))
theorem M2 {p n s:Int}(h:inR s 9 1000=false):lgOk p n s=false:=by unfold lgOk;rw[h];rfl
theorem M3 {p n s:Int}(h:n≠pfN s):lgOk p n s=false:=by unfold lgOk;rw[decide_eq_false h];simp
theorem M4 {p n s:Int}(h:inR s 9 1000=true)(h2:n=pfN s):lgOk p n s=inR p 0 (32-n):=by unfold lgOk;rw[h,decide_eq_true h2];rfl
theorem oz {p n s:Int}(h:lgOk p n s=true):inR s 9 1000=true/\n=pfN s/\0<=p/\p<=32-n:=by
 unfold lgOk at h;simp only[AI,decide_eq_true_eq,bP]at h;exact⟨bP.2 h.1,h.2.1,h.2.2⟩
def FE (p k b a:Int):Bool:=spOk p k b&&inR a (p*16) (p*16+15)
def saS (p k b a:Int):Int:=if FE p k b a=true then(a-p*16)/clsSz k else-1
def saO (p k b a:Int):Int:=if FE p k b a=true then(a-p*16)%clsSz k else-1
theorem Du {p k b a:Int}(h:FE p k b a=false):saS p k b a= -1/\saO p k b a= -1:=by unfold saS saO;rw[h];exact⟨rfl,rfl⟩
theorem Bq {p k b a:Int}(h:FE p k b a=true):saS p k b a=(a-p*16)/clsSz k/\saO p k b a=(a-p*16)%clsSz k:=by unfold saS saO;rw[if_pos h,if_pos h];exact⟨rfl,rfl⟩
theorem yr {p k b a:Int}:FE p k b a=true↔spOk p k b=true/\p*16<=a/\a<=p*16+15:=by unfold FE;rw[AI,bP]
def TP (p k b s:Int):Bool:=spOk p k b&&inR s 0 (slN k-1)
def aaI (p k b s:Int):Int:=if TP p k b s=true then p*16+s*clsSz k else-1
def lhB (p n s a:Int):Bool:=lgOk p n s&&inR a (p*16) (p*16+s-1)
def loI (p n s a:Int):Int:=if lhB p n s a=true then a-p*16 else-1
theorem M6 {p n s a:Int}(h:lgOk p n s=false):lhB p n s a=false:=by unfold lhB;rw[h];rfl
theorem H3 {p n s a:Int}(h:lgOk p n s=true):lhB p n s a=inR a (p*16) (p*16+s-1):=by unfold lhB;rw[h];rfl
theorem YK {p n s a:Int}(h:lhB p n s a=false):loI p n s a= -1:=by unfold loI;rw[h];rfl
theorem Va {p n s a:Int}(h:lhB p n s a=true):loI p n s a=a-p*16:=by unfold loI;rw[if_pos h]
theorem H7 {a b:Int}(h: -9223372036854775808<=a*b/\a*b<=9223372036854775807):bR .mul .i64 a b=a*b:=afv _ h
theorem Zn {p:Int}(h:0<=p/\p<=31):bR .mul .i64 p 16=p*16/\bR .sub .i64 (bR .add .i64 (p*16) 16) 1=p*16+15:=by
 have e1:bR .mul .i64 p 16=p*16:=H7 (by omega);have e2:bR .add .i64 (p*16) 16=p*16+16:=bE (by omega);have e3:bR .sub .i64 (p*16+16) 1=p*16+16-1:=dD (by omega);rw[e1,e2,e3];omega
theorem Qp {p k b a:Int}(h:spOk p k b=true)(h1:inR a (p*16) (p*16+15)=true):saS p k b a=bR .quo .i64 (bR .sub .i64 a (p*16)) (clsSz k)/\saO p k b a=bR .rem .i64 (bR .sub .i64 a (p*16)) (clsSz k):=by
 have t:=nh h;have q:=bP.1 h1;have c:=ma t.2.2.1;have y:=Bq (yr.2 ⟨h,q⟩);have e:bR .sub .i64 a (p*16)=a-p*16:=dD (by omega);rw[y.1,y.2,e,Bg (by omega) (by omega) (by omega),NX (by omega)];exact⟨rfl,rfl⟩
theorem SZ {p k b a:Int}(h:spOk p k b=false):FE p k b a=false:=by unfold FE;rw[h];rfl
theorem aaa {p k b a:Int}(h:inR a (p*16) (p*16+15)=false):FE p k b a=false:=by unfold FE;rw[h,adN]
theorem Qq {p k b a:Int}(h:spOk p k b=true)(h0:¬ a<0)(h1:bR .quo .i64 a 16=p)(ha:a<=9223372036854775807):saS p k b a=bR .quo .i64 (bR .rem .i64 a 16) (clsSz k)/\saO p k b a=bR .rem .i64 (bR .rem .i64 a 16) (clsSz k):=by
 have t:=nh h;have c:=ma t.2.2.1;rw[Bg (by omega) ha (by omega)]at h1;have e:bR .rem .i64 a 16=a%16:=NX (by omega);have y:=Bq (yr.2 ⟨h,show p*16<=a/\a<=p*16+15 by omega⟩);rw[y.1,y.2,e,Bg (by omega) (by omega) (by omega),NX (by omega),show a-p*16=a%16 by omega];exact⟨rfl,rfl⟩
theorem S7 {p k b a:Int}(h0:a<0\/bR .quo .i64 a 16≠p)(ha:a<=9223372036854775807):FE p k b a=false:=by
 cases q:FE p k b a
 ·rfl
 ·obtain⟨h,h1⟩:=yr.1 q;have t:=nh h;rcases h0 with h0|h0;omega
  ·rw[Bg (by omega) ha (by omega)]at h0;omega
theorem TQ {p k b s:Int}(h:spOk p k b=true)(h1:inR s 0 (slN k-1)=true):bR .add .i64 (bR .mul .i64 p 16) (bR .mul .i64 s (clsSz k))=aaI p k b s:=by
 have t:=nh h;have c:=ma t.2.2.1;have q:=bP.1 h1;have m1:0<=s*clsSz k:=Int.mul_nonneg q.1 (by omega);have m2:s*clsSz k<=(slN k-1)*clsSz k:=Int.mul_le_mul_of_nonneg_right q.2 (by omega);have m3:(slN k-1)*clsSz k=16-clsSz k:=by rw[Int.sub_mul,c.2.2.2.2,Int.one_mul]
 have e:bR .mul .i64 s (clsSz k)=s*clsSz k:=H7 (by omega);rw[(Zn ⟨t.1,t.2.1⟩).1,e];unfold aaI TP;rw[h,h1];exact bE (by omega)
theorem Q0 {p k b s:Int}(h:spOk p k b=false\/inR s 0 (slN k-1)=false):aaI p k b s= -1:=by
 unfold aaI TP;rcases h with h|h
 ·rw[h];rfl
 ·rw[h,adN];rfl
theorem M5 {p n s:Int}(h:lgOk p n s=true):bR .mul .i64 p 16=p*16/\bR .add .i64 (bR .mul .i64 p 16) s=p*16+s/\bR .sub .i64 (bR .add .i64 (bR .mul .i64 p 16) s) 1=p*16+s-1:=by
 have t:=oz h;have b:=na t.1;have q:=bP.1 t.1;have e1:bR .mul .i64 p 16=p*16:=H7 (by omega);have e2:bR .add .i64 (p*16) s=p*16+s:=bE (by omega);have e3:bR .sub .i64 (p*16+s) 1=p*16+s-1:=dD (by omega);rw[e1,e2,e3];exact⟨rfl,rfl,rfl⟩
theorem U6 {p n s a:Int}:lhB p n s a=true↔lgOk p n s=true/\p*16<=a/\a<=p*16+s-1:=by unfold lhB;rw[AI,bP]
theorem YJ {p n s a:Int}(h:lhB p n s a=true):bR .sub .i64 a (bR .mul .i64 p 16)=loI p n s a:=by
 obtain⟨h1,h2,h3⟩:=U6.1 h;have t:=oz h1;have b:=na t.1;have q:=bP.1 t.1;rw[(M5 h1).1,Va h];exact dD (by omega)
end Go.V
namespace Go.V
def jc (l:List Int):aa:=l.map fun x=>[.i x]
theorem cg {l:List Int}:(jc l).length=l.length:=by unfold jc;rw[List.length_map]
theorem ig {a b:List Int}:jc (a++b)=jc a++jc b:=by unfold jc;rw[List.map_append]
theorem v6 {l:List Int}{k:Nat}(h:k<l.length):ag (jc l) k 0=l[k]:=by
 have e:(jc l).getD k []=[.i l[k]]:=by
  unfold jc;rw[BY,List.getElem?_map,IT h];rfl
 unfold ag;rw[ac4,e];rfl
theorem ry {l:List Int}{x:Int}:hasB (jc l) x=true↔x∈l:=by
 rw[Jn]
 constructor
 ·rintro⟨k,hk,e⟩;rw[cg]at hk;rw[v6 hk]at e;rw[<-e];exact List.getElem_mem hk
 ·intro h;obtain⟨k,hk,e⟩:=List.getElem_of_mem h;exact⟨k,by rw[cg];exact hk,by rw[v6 hk];exact e⟩
theorem yD {l:List Int}{x:Int}(h:hasB (jc l) x=false):x∉l:=fun m=>by rw[ry.2 m]at h;cases h
theorem v7 {l:List Int}(h:∀ x∈l,-9223372036854775808<=x/\x<=9223372036854775807)(hl:l.length<=70368744177664):Rw [tI] (jc l):=by
 refine⟨by rw[cg];unfold maxLen;omega,fun e he=>?_⟩;obtain⟨x,hx,rfl⟩:=List.mem_map.1 he;have q:=h x hx;exact⟨⟨rfl,by show-9223372036854775808<=x/\x<=(9223372036854775807:Int);exact q⟩,trivial⟩
theorem Ux {l:aa}{x i:Int}(h:upto (dt (R1 l x)) i)(hi:(l.length:Int)<=i):hasB l x=false:=by
 unfold hasB MI;rw[gB h hi];rfl
def S9 (sp:aa)(i:Int):Bool:=spOk (ag sp i 0) (ag sp i 1) (ag sp i 2)
def U5 (lg:aa)(i:Int):Bool:=lgOk (ag lg i 0) (ag lg i 1) (ag lg i 2)
def oJ (sp:aa):Nat->List Int
 |0=>[]
 |n+1=>oJ sp n++[ag sp n 0]
def rE (p:Int):Nat->List Int
 |0=>[]
 |n+1=>rE p n++[p+n]
def oI (lg:aa):Nat->List Int
 |0=>[]
 |n+1=>oI lg n++rE (ag lg n 0) (ag lg n 1).toNat
def Bd (sp lg:aa):List Int:=oJ sp sp.length++oI lg lg.length
def layOk (sp lg:aa):Bool:=(cF (S9 sp) sp.length&&cF (U5 lg) lg.length)&&decide (Bd sp lg).Nodup
theorem rh {sp:aa}{i:Int}(h:0<=i):oJ sp (i+1).toNat=oJ sp i.toNat++[ag sp i 0]:=by
 rw[show(i+1).toNat=i.toNat+1 from by omega,oJ,IS h]
theorem sO {lg:aa}{i:Int}(h:0<=i):oI lg (i+1).toNat=oI lg i.toNat++rE (ag lg i 0) (ag lg i 1).toNat:=by
 rw[show(i+1).toNat=i.toNat+1 from by omega,oI,IS h]
theorem Be {p i:Int}(h:0<=i):rE p (i+1).toNat=rE p i.toNat++[p+i]:=by
 rw[show(i+1).toNat=i.toNat+1 from by omega,rE,IS h]
theorem rK {sp:aa}:∀ {n:Nat},(oJ sp n).length=n
 |0=>rfl
 |n+1=>by rw[oJ,AT,rK];rfl
theorem uD {p:Int}:∀ {n:Nat},(rE p n).length=n
 |0=>rfl
 |n+1=>by rw[rE,AT,uD];rfl
theorem Ko {sp:aa}:∀ (m n:Nat),n<=m->∃ r,oJ sp m=oJ sp n++r
 |0,n,h=>⟨[],by rw[show n=0 by omega];rfl⟩
 | m+1,n,h=>by
   by_cases c:n=m+1
   ·subst c;exact⟨[],by simp⟩
   ·obtain⟨r,e⟩:=Ko (sp:=sp) m n (by omega);exact⟨r++[ag sp m 0],by rw[oJ,e,IN]⟩
theorem J4 {p:Int}:∀ (m n:Nat),n<=m->∃ r,rE p m=rE p n++r
 |0,n,h=>⟨[],by rw[show n=0 by omega];rfl⟩
 | m+1,n,h=>by
   by_cases c:n=m+1
   ·subst c;exact⟨[],by simp⟩
   ·obtain⟨r,e⟩:=J4 (p:=p) m n (by omega);exact⟨r++[p+m],by rw[rE,e,IN]⟩
theorem JI {lg:aa}:∀ (m n:Nat),n<=m->∃ r,oI lg m=oI lg n++r
 |0,n,h=>⟨[],by rw[show n=0 by omega];rfl⟩
 | m+1,n,h=>by
   by_cases c:n=m+1
   ·subst c;exact⟨[],by simp⟩
   ·obtain⟨r,e⟩:=JI (lg:=lg) m n (by omega);exact⟨r++rE (ag lg m 0) (ag lg m 1).toNat,by rw[oI,e,IN]⟩
theorem dup {a b l:List Int}{x:Int}(h:l=a++x::b)(hm:x∈a):¬ l.Nodup:=by
 rw[h,ac3];rintro⟨_,_,q⟩;exact q x hm x (by simp) rfl
theorem nF {a:List Int}{x:Int}(h:a.Nodup)(hx:x∉a):(a++[x]).Nodup:=by
 rw[ac3];exact⟨h,by simp,fun y hy z hz e=>by simp at hz;subst hz;subst e;exact hx hy⟩
theorem JA {sp lg:aa}{i:Int}(h0:0<=i)(h1:i<sp.length)(h:spOk (ag sp i 0) (ag sp i 1) (ag sp i 2)=false):layOk sp lg=false:=by
 unfold layOk;rw[bW h0 h1 h];rfl
theorem JB {sp lg:aa}{i:Int}(h0:0<=i)(h1:i<lg.length)(h:lgOk (ag lg i 0) (ag lg i 1) (ag lg i 2)=false):layOk sp lg=false:=by
 unfold layOk;rw[bW (p:=U5 lg) h0 h1 h,adN];rfl
theorem JC {sp lg:aa}{i:Int}(h0:0<=i)(h1:i<sp.length)(h:ag sp i 0∈oJ sp i.toNat):layOk sp lg=false:=by
 obtain⟨r,e⟩:=Ko (sp:=sp) sp.length (i+1).toNat (by omega);rw[rh h0,IN]at e;have:¬ (Bd sp lg).Nodup:=dup (a:=oJ sp i.toNat) (b:=r++oI lg lg.length) (x:=ag sp i 0) (by unfold Bd;rw[e,IN];rfl) h;unfold layOk;rw[decide_eq_false this,adN]
theorem JD {sp lg:aa}{i k:Int}(h0:0<=i)(h1:i<lg.length)(k0:0<=k)(k1:k<ag lg i 1)(h:ag lg i 0+k∈oJ sp sp.length++oI lg i.toNat++rE (ag lg i 0) k.toNat):layOk sp lg=false:=by
 obtain⟨r,e⟩:=JI (lg:=lg) lg.length (i+1).toNat (by omega);obtain⟨r2,e2⟩:=J4 (p:=ag lg i 0) (ag lg i 1).toNat (k+1).toNat (by omega);rw[sO h0,e2,Be k0]at e;have:¬ (Bd sp lg).Nodup:=dup (a:=oJ sp sp.length++oI lg i.toNat++rE (ag lg i 0) k.toNat) (b:=r2++r) (x:=ag lg i 0+k) (by unfold Bd;rw[e];simp only[IN];rfl) h;unfold layOk;rw[decide_eq_false this,adN]
theorem JE {sp lg:aa}{i j:Int}(h:upto (S9 sp) i)(hi:(sp.length:Int)<=i)(h2:upto (U5 lg) j)(hj:(lg.length:Int)<=j)(hn:(Bd sp lg).Nodup):layOk sp lg=true:=by
 unfold layOk;rw[bN h hi,bN h2 hj,decide_eq_true hn];rfl
theorem MY {sp lg:aa}(h:layOk sp lg=true):(∀ i:Int,0<=i->i<sp.length->spOk (ag sp i 0) (ag sp i 1) (ag sp i 2)=true)/\(∀ i:Int,0<=i->i<lg.length->lgOk (ag lg i 0) (ag lg i 1) (ag lg i 2)=true)/\(Bd sp lg).Nodup:=by
 unfold layOk at h;simp only[AI,decide_eq_true_eq]at h;exact⟨cJ.1 h.1.1,cJ.1 h.1.2,h.2⟩
def Wt (es:aa):Prop:=∀ e∈es,∃ (k:Int) (b:Bool),e=[.i k,.v (.bool b)]
theorem A4 {k:Int}{b:Bool}{es:aa}{n:Int}:fa ([.i k,.v (.bool b)]::es) n=if k=n then some (0,.bool b)else(fa es n).map fun p=>(p.1+1,p.2):=rfl
theorem qS {k:Int}{b:Bool}{es:aa}{n:Int}:mgbI ([.i k,.v (.bool b)]::es) n=if k=n then b else mgbI es n:=by
 unfold mgbI;rw[A4];by_cases c:k=n
 ·rw[if_pos c,if_pos c]
 ·rw[if_neg c,if_neg c];cases fa es n with
  |none=>rfl
  |some p=>obtain⟨j,v⟩:=p;cases v<;>rfl
theorem JP {k:Int}{b x:Bool}{es:aa}{n:Int}:o6 ([.i k,.v (.bool b)]::es) n (.v (.bool x))=if k=n then[.i n,.v (.bool x)]::es else[.i k,.v (.bool b)]::o6 es n (.v (.bool x)):=by
 unfold o6;rw[A4];by_cases c:k=n
 ·rw[if_pos c,if_pos c];rfl
 ·rw[if_neg c,if_neg c];cases fa es n with
  |none=>rfl
  |some p=>rfl
theorem mub {x:Bool}{n:Int}:∀ {es:aa},Wt es->Wt (o6 es n (.v (.bool x)))/\∀ m,mgbI (o6 es n (.v (.bool x))) m=if m=n then x else mgbI es m
 | [],_=>by
   refine⟨fun e he=>?_,fun m=>?_⟩
   ·have:e=[.i n,.v (.bool x)]:=by simpa[o6,fa]using he
    exact⟨n,x,this⟩
   ·show mgbI [[.i n,.v (.bool x)]] m=_;rw[qS];by_cases c:m=n
    ·rw[if_pos c.symm,if_pos c]
    ·rw[if_neg (fun e=>c e.symm),if_neg c]
 | e::es,h=>by
   obtain⟨k,b,rfl⟩:=h e (by simp);have h':Wt es:=fun e he=>h e (by simp[he])
   obtain⟨a1,a2⟩:=mub (x:=x) (n:=n) h';rw[JP];by_cases c:k=n
   ·rw[if_pos c];refine⟨fun e he=>?_,fun m=>?_⟩
    ·rcases acZ.1 he with rfl|he;exact⟨n,x,rfl⟩;exact h' e he
    ·rw[qS,qS];by_cases d:m=n
     ·rw[if_pos d.symm,if_pos d]
     ·rw[if_neg (fun e=>d e.symm),if_neg d,if_neg (fun e=>d (by rw[<-e,c]))]
   ·rw[if_neg c];refine⟨fun e he=>?_,fun m=>?_⟩
    ·rcases acZ.1 he with rfl|he;exact⟨k,b,rfl⟩;exact a1 e he
    ·rw[qS,qS,a2 m];by_cases d:k=m
     ·rw[if_pos d,if_pos d,if_neg (fun e=>c (d.trans e))]
     ·rw[if_neg d,if_neg d]
def muT (es:aa)(n:Int):aa:=o6 es n (.v (.bool true))
structure rX (es:aa)(l:List Int):Prop where
 wf:Wt es
 at_:∀ m,mgbI es m=true↔m∈l
theorem Iu :rX [] []:=⟨(fun e he=>by cases he),fun m=>by simp[mgbI,fa]⟩
theorem yM {es:aa}{l:List Int}{n:Int}(h:rX es l):rX (o6 es n (.v (.bool true))) (l++[n]):=by
 have q:=mub (x:=true) (n:=n) h.wf;refine⟨q.1,fun m=>?_⟩;rw[q.2 m];by_cases c:m=n
 ·rw[if_pos c];simp[c]
 ·rw[if_neg c,h.at_ m];simp[c]
def one (x:Int):aa:=[[.i x]]
structure OX (sp:aa)(i:Int)(o:aa):Prop where
 e:o=jc (oJ sp i.toNat)
 nd:(oJ sp i.toNat).Nodup
 ok:upto (S9 sp) i
 b:∀ x∈oJ sp i.toNat,0<=x/\x<=64
structure Wo (sp lg:aa)(j:Int)(o:aa):Prop where
 e:o=jc (oJ sp sp.length++oI lg j.toNat)
 nd:(oJ sp sp.length++oI lg j.toNat).Nodup
 oks:upto (S9 sp) sp.length
 ok:upto (U5 lg) j
 b:∀ x∈oJ sp sp.length++oI lg j.toNat,0<=x/\x<=64
 l:(oI lg j.toNat).length<=64*j.toNat
structure OW (sp lg:aa)(j k:Int)(o:aa):Prop where
 e:o=jc (oJ sp sp.length++oI lg j.toNat++rE (ag lg j 0) k.toNat)
 nd:(oJ sp sp.length++oI lg j.toNat++rE (ag lg j 0) k.toNat).Nodup
 oks:upto (S9 sp) sp.length
 ok:upto (U5 lg) j
 b:∀ x∈oJ sp sp.length++oI lg j.toNat++rE (ag lg j 0) k.toNat,0<=x/\x<=64
 l:(oI lg j.toNat).length<=64*j.toNat
theorem LC {l:List Int}(h:∀ x∈l,0<=x/\x<=64)(hl:l.length<=70368744177664):Rw [tI] (jc l):=v7 (fun x hx=>by have:=h x hx;omega) hl
theorem FO {l:List Int}{x:Int}(h:∀ x∈l,0<=x/\x<=64)(hx:0<=x/\x<=64):∀ y∈l++[x],0<=y/\y<=64:=by
 intro y hy;rcases If.1 hy with q|q;exact h y q
 ·simp at q;rw[q];exact hx
theorem abY {sp:aa}:OX sp 0 []:=⟨rfl,adz,bM,fun x hx=>by cases hx⟩
theorem M8 {sp o:aa}{i:Int}(h:OX sp i o):o.length=i.toNat:=by rw[h.e,cg,rK]
theorem YL {sp o:aa}{i:Int}(h:OX sp i o)(hi:i<=1073741824):Rw [tI] o:=by
 have l:=M8 h;have e:=h.e;rw[e,cg]at l;rw[e];exact LC h.b (by omega)
theorem Vb {sp lg o:aa}{i:Int}(h:OX sp i o)(h0:0<=i)(h1:i<sp.length)(hh:hasB o (ag sp i 0)=true):layOk sp lg=false:=by
 rw[h.e,ry]at hh;exact JC h0 h1 hh
theorem YM {sp o:aa}{i:Int}(h:OX sp i o)(h0:0<=i)(hs:spOk (ag sp i 0) (ag sp i 1) (ag sp i 2)=true)(hh:hasB o (ag sp i 0)=false):OX sp (i+1) (o++[[.i (ag sp i 0)]]):=by
 have t:=nh hs;have e:=h.e;rw[e]at hh;have hm:=yD hh;exact⟨by rw[rh h0,ig,e];rfl,by rw[rh h0];exact nF h.nd hm,bj h.ok hs,by rw[rh h0];exact FO h.b (by omega)⟩
theorem Vd {sp lg o:aa}{i:Int}(h:OX sp i o)(h1:i<=sp.length)(h2:(sp.length:Int)<=i):Wo sp lg 0 o:=by
 have e:i.toNat=sp.length:=by omega
 have ei:i=sp.length:=by omega
 have q1:=h.e;have q2:=h.nd;have q3:=h.ok;have q4:=h.b;rw[e]at q1 q2 q4;rw[ei]at q3;exact⟨by rw[q1];simp[oI],by simpa[oI]using q2,q3,bM,by simpa[oI]using q4,by simp[oI]⟩
theorem abX {sp lg o:aa}{j:Int}(h:Wo sp lg j o):OW sp lg j 0 o:=by
 refine⟨by rw[h.e];simp[rE],by simpa[rE]using h.nd,h.oks,h.ok,by simpa[rE]using h.b,h.l⟩
theorem M7 {sp lg o:aa}{j k:Int}(h:OW sp lg j k o):o.length<=sp.length+64*j.toNat+k.toNat:=by
 have l:=h.l;rw[h.e,cg,AT,AT,rK,uD];omega
theorem YH {sp lg o:aa}{j k:Int}(h:OW sp lg j k o)(h1:sp.length<=1073741824)(h2:j<=1073741824)(h3:k<=64):Rw [tI] o:=by
 have l:=M7 h;have e:=h.e;rw[e,cg]at l;rw[e];exact LC h.b (by omega)
theorem U7 {sp lg o:aa}{j k:Int}(h:OW sp lg j k o)(h0:0<=j)(h1:j<lg.length)(k0:0<=k)(k1:k<ag lg j 1)(hh:hasB o (ag lg j 0+k)=true):layOk sp lg=false:=by
 rw[h.e,ry]at hh;exact JD h0 h1 k0 k1 hh
theorem YF {p n s k:Int}(h:lgOk p n s=true)(k0:0<=k)(k1:k<n):0<=p/\p+k<=32/\bR .add .i64 p k=p+k/\1<=n/\n<=32:=by
 have t:=oz h;have b:=na t.1;have e:bR .add .i64 p k=p+k:=bE (by omega);exact⟨by omega,by omega,e,by omega,by omega⟩
theorem YI {sp lg o:aa}{j k:Int}(h:OW sp lg j k o)(k0:0<=k)(hx:0<=ag lg j 0+k/\ag lg j 0+k<=64)(hh:hasB o (ag lg j 0+k)=false):OW sp lg j (k+1) (o++[[.i (ag lg j 0+k)]]):=by
 have e:=h.e;rw[e]at hh;have hm:=yD hh;have q:∀ A:List Int,A++rE (ag lg j 0) (k+1).toNat=A++rE (ag lg j 0) k.toNat++[ag lg j 0+k]:=fun A=>by rw[Be k0,IN]
 exact⟨by rw[q,ig,e];rfl,by rw[q];exact nF h.nd hm,h.oks,h.ok,by rw[q];exact FO h.b hx,h.l⟩
theorem U8 {sp lg o:aa}{j k:Int}(h:OW sp lg j k o)(j0:0<=j)(hl:lgOk (ag lg j 0) (ag lg j 1) (ag lg j 2)=true)(k0:0<=k)(k1:k<=ag lg j 1)(k2:ag lg j 1<=k):Wo sp lg (j+1) o:=by
 have t:=oz hl;have b:=na t.1;have ek:k.toNat=(ag lg j 1).toNat:=by omega
 have q1:=h.e;have q2:=h.nd;have q4:=h.b;have q5:=h.l;rw[ek,IN, <-sO j0]at q1 q2 q4;refine⟨q1,q2,h.oks,bj h.ok hl,q4,?_⟩;rw[sO j0,AT,uD];omega
theorem U9 {sp lg o:aa}{j:Int}(h:Wo sp lg j o)(j1:j<=lg.length)(j2:(lg.length:Int)<=j):layOk sp lg=true:=by
 have e:j.toNat=lg.length:=by omega
 have q:=h.nd;rw[e]at q;exact JE h.oks (aev _) h.ok j2 q
end Go.V
namespace Go.V
structure Tv (sp:aa)(i:Int)(es:aa):Prop where
 s:rX es (oJ sp i.toNat)
 nd:(oJ sp i.toNat).Nodup
 ok:upto (S9 sp) i
structure Wn (sp lg:aa)(j:Int)(es:aa):Prop where
 s:rX es (oJ sp sp.length++oI lg j.toNat)
 nd:(oJ sp sp.length++oI lg j.toNat).Nodup
 oks:upto (S9 sp) sp.length
 ok:upto (U5 lg) j
structure Tt (sp lg:aa)(j k:Int)(es:aa):Prop where
 s:rX es (oJ sp sp.length++oI lg j.toNat++rE (ag lg j 0) k.toNat)
 nd:(oJ sp sp.length++oI lg j.toNat++rE (ag lg j 0) k.toNat).Nodup
 oks:upto (S9 sp) sp.length
 ok:upto (U5 lg) j
theorem Oa {es:aa}{l:List Int}{n:Int}(h:rX es l)(e:mgbI es n=false):n∉l:=fun m=>by rw[(h.at_ n).2 m]at e;cases e
theorem abT {sp:aa}:Tv sp 0 []:=⟨Iu,adz,bM⟩
theorem UY {sp lg es:aa}{i:Int}(h:Tv sp i es)(h0:0<=i)(h1:i<sp.length)(hh:mgbI es (ag sp i 0)=true):layOk sp lg=false:=
 JC h0 h1 ((h.s.at_ _).1 hh)
theorem Yp {sp es:aa}{i:Int}(h:Tv sp i es)(h0:0<=i)(hs:spOk (ag sp i 0) (ag sp i 1) (ag sp i 2)=true)(hh:mgbI es (ag sp i 0)=false):Tv sp (i+1) (muT es (ag sp i 0)):=
 ⟨by rw[rh h0];exact yM h.s,by rw[rh h0];exact nF h.nd (Oa h.s hh),bj h.ok hs⟩
theorem UZ {sp lg es:aa}{i:Int}(h:Tv sp i es)(h1:i<=sp.length)(h2:(sp.length:Int)<=i):Wn sp lg 0 es:=by
 have e:i.toNat=sp.length:=by omega
 have ei:i=sp.length:=by omega
 have q1:=h.s;have q2:=h.nd;have q3:=h.ok;rw[e]at q1 q2;rw[ei]at q3;exact⟨by simpa[oI]using q1,by simpa[oI]using q2,q3,bM⟩
theorem abR {sp lg es:aa}{j:Int}(h:Wn sp lg j es):Tt sp lg j 0 es:=
 ⟨by simpa[rE]using h.s,by simpa[rE]using h.nd,h.oks,h.ok⟩
theorem US {sp lg es:aa}{j k:Int}(h:Tt sp lg j k es)(h0:0<=j)(h1:j<lg.length)(k0:0<=k)(k1:k<ag lg j 1)(hh:mgbI es (ag lg j 0+k)=true):layOk sp lg=false:=
 JD h0 h1 k0 k1 ((h.s.at_ _).1 hh)
theorem Yo {sp lg es:aa}{j k:Int}(h:Tt sp lg j k es)(k0:0<=k)(hh:mgbI es (ag lg j 0+k)=false):Tt sp lg j (k+1) (muT es (ag lg j 0+k)):=by
 have q:∀ A:List Int,A++rE (ag lg j 0) (k+1).toNat=A++rE (ag lg j 0) k.toNat++[ag lg j 0+k]:=fun A=>by rw[Be k0,IN]
 exact⟨by rw[q];exact yM h.s,by rw[q];exact nF h.nd (Oa h.s hh),h.oks,h.ok⟩
theorem UT {sp lg es:aa}{j k:Int}(h:Tt sp lg j k es)(j0:0<=j)(hl:lgOk (ag lg j 0) (ag lg j 1) (ag lg j 2)=true)(k1:k<=ag lg j 1)(k2:ag lg j 1<=k):Wn sp lg (j+1) es:=by
 have ek:k.toNat=(ag lg j 1).toNat:=by omega
 have q1:=h.s;have q2:=h.nd;rw[ek,IN, <-sO j0]at q1 q2;exact⟨q1,q2,h.oks,bj h.ok hl⟩
theorem UU {sp lg es:aa}{j:Int}(h:Wn sp lg j es)(j1:j<=lg.length)(j2:(lg.length:Int)<=j):layOk sp lg=true:=by
 have e:j.toNat=lg.length:=by omega
 have q:=h.nd;rw[e]at q;exact JE h.oks (aev _) h.ok j2 q
theorem Y6 {b:Bool}(h:(!b)=false):b=true:=by cases b<;>simp_all
theorem Y7 {b:Bool}(h:(!b)=true):b=false:=by cases b<;>simp_all
end Go.V
namespace Go.V
def CE (sp:aa)(a i:Int):Bool:=decide (0<=saS (ag sp i 0) (ag sp i 1) (ag sp i 2) a)
def Gr (lg:aa)(a i:Int):Bool:=lhB (ag lg i 0) (ag lg i 1) (ag lg i 2) a
def jk (sp:aa)(a:Int):Int:=dL (CE sp a) sp.length
def Cy (lg:aa)(a:Int):Int:=dL (Gr lg a) lg.length
def yN (sp:aa)(a i:Int):Int:=saS (ag sp i 0) (ag sp i 1) (ag sp i 2) a
def V0 (sp:aa)(a i:Int):Int:=saO (ag sp i 0) (ag sp i 1) (ag sp i 2) a
def loA (lg:aa)(a i:Int):Int:=loI (ag lg i 0) (ag lg i 1) (ag lg i 2) a
def dnK (sp lg:aa)(a:Int):Int:=if 0<=jk sp a then(if hsB (ag sp (jk sp a) 2) (yN sp a (jk sp a))then 1 else 2)else if 0<=Cy lg a then 3 else 0
def dnI (sp lg:aa)(a:Int):Int:=if 0<=jk sp a then jk sp a else if 0<=Cy lg a then Cy lg a else 0
def dnS (sp:aa)(a:Int):Int:=if 0<=jk sp a then yN sp a (jk sp a)else 0
def dnO (sp lg:aa)(a:Int):Int:=if 0<=jk sp a then V0 sp a (jk sp a)else if 0<=Cy lg a then loA lg a (Cy lg a)else 0
def dzK (sp lg:aa)(a:Int):Int:=if layOk sp lg then dnK sp lg a else 0
def dzI (sp lg:aa)(a:Int):Int:=if layOk sp lg then dnI sp lg a else 0
def dzS (sp lg:aa)(a:Int):Int:=if layOk sp lg then dnS sp a else 0
def dzO (sp lg:aa)(a:Int):Int:=if layOk sp lg then dnO sp lg a else 0
theorem Z9 {sp:aa}{a i:Int}(h:upto (dt (CE sp a)) i)(hs:saS (ag sp i 0) (ag sp i 1) (ag sp i 2) a<0):upto (dt (CE sp a)) (i+1):=
 bj h (by unfold dt CE;rw[decide_eq_false (by omega)];rfl)
theorem YB {lg:aa}{a i:Int}(h:upto (dt (Gr lg a)) i)(hs:lhB (ag lg i 0) (ag lg i 1) (ag lg i 2) a=false):upto (dt (Gr lg a)) (i+1):=
 bj h (by unfold dt Gr;rw[hs];rfl)
theorem RD {sp:aa}{a i:Int}(h:upto (dt (CE sp a)) i)(h0:0<=i)(h1:i<sp.length)(hs:0<=saS (ag sp i 0) (ag sp i 1) (ag sp i 2) a):jk sp a=i:=
 fF h h0 h1 (decide_eq_true hs)
theorem RE {sp:aa}{a i:Int}(h:upto (dt (CE sp a)) i)(h1:(sp.length:Int)<=i):jk sp a= -1:=gB h h1
theorem XD {lg:aa}{a i:Int}(h:upto (dt (Gr lg a)) i)(h0:0<=i)(h1:i<lg.length)(hs:lhB (ag lg i 0) (ag lg i 1) (ag lg i 2) a=true):Cy lg a=i:=
 fF h h0 h1 hs
theorem XE {lg:aa}{a i:Int}(h:upto (dt (Gr lg a)) i)(h1:(lg.length:Int)<=i):Cy lg a= -1:=gB h h1
def Vw (k i s o:Int):List DV:=[DV.agg [.i k,.i i,.i s,.i o]]
def OM (sp lg:aa)(a:Int):List DV:=Vw (dnK sp lg a) (dnI sp lg a) (dnS sp a) (dnO sp lg a)
def dzL (sp lg:aa)(a:Int):List DV:=Vw (dzK sp lg a) (dzI sp lg a) (dzS sp lg a) (dzO sp lg a)
theorem ow1 {sp lg:aa}{a i:Int}(h:upto (dt (CE sp a)) i)(h0:0<=i)(h1:i<sp.length)(hs:0<=saS (ag sp i 0) (ag sp i 1) (ag sp i 2) a)(hh:hsB (ag sp i 2) (saS (ag sp i 0) (ag sp i 1) (ag sp i 2) a)=true):
 Vw 1 i (saS (ag sp i 0) (ag sp i 1) (ag sp i 2) a) (saO (ag sp i 0) (ag sp i 1) (ag sp i 2) a)=OM sp lg a:=by
 have e:=RD h h0 h1 hs;unfold OM dnK dnI dnS dnO yN V0;rw[e,if_pos h0,if_pos h0,if_pos h0,if_pos h0,hh];rfl
theorem ow2 {sp lg:aa}{a i:Int}(h:upto (dt (CE sp a)) i)(h0:0<=i)(h1:i<sp.length)(hs:0<=saS (ag sp i 0) (ag sp i 1) (ag sp i 2) a)(hh:hsB (ag sp i 2) (saS (ag sp i 0) (ag sp i 1) (ag sp i 2) a)=false):
 Vw 2 i (saS (ag sp i 0) (ag sp i 1) (ag sp i 2) a) (saO (ag sp i 0) (ag sp i 1) (ag sp i 2) a)=OM sp lg a:=by
 have e:=RD h h0 h1 hs;unfold OM dnK dnI dnS dnO yN V0;rw[e,if_pos h0,if_pos h0,if_pos h0,if_pos h0,hh];rfl
theorem ow3 {sp lg:aa}{a i j:Int}(h:upto (dt (CE sp a)) i)(h1:(sp.length:Int)<=i)(g:upto (dt (Gr lg a)) j)(j0:0<=j)(j1:j<lg.length)(hh:lhB (ag lg j 0) (ag lg j 1) (ag lg j 2) a=true):
 Vw 3 j 0 (loI (ag lg j 0) (ag lg j 1) (ag lg j 2) a)=OM sp lg a:=by
 have e:=RE h h1;have f:=XD g j0 j1 hh;have n:¬ (0:Int)<= -1:=by omega
 unfold OM dnK dnI dnS dnO loA;rw[e,f,if_neg n,if_neg n,if_neg n,if_neg n,if_pos j0,if_pos j0,if_pos j0]
theorem ow4 {sp lg:aa}{a i j:Int}(h:upto (dt (CE sp a)) i)(h1:(sp.length:Int)<=i)(g:upto (dt (Gr lg a)) j)(j1:(lg.length:Int)<=j):
 Vw 0 0 0 0=OM sp lg a:=by
 have e:=RE h h1;have f:=XE g j1;have n:¬ (0:Int)<= -1:=by omega
 unfold OM dnK dnI dnS dnO;rw[e,f,if_neg n,if_neg n,if_neg n,if_neg n,if_neg n,if_neg n,if_neg n]
theorem Pw {sp lg:aa}{a:Int}(h:layOk sp lg=true):OM sp lg a=dzL sp lg a:=by
 unfold dzL OM dzK dzI dzS dzO;rw[if_pos h,if_pos h,if_pos h,if_pos h]
theorem abv {sp lg:aa}{a:Int}(h:layOk sp lg=false):Vw 0 0 0 0=dzL sp lg a:=by
 have n:¬ layOk sp lg=true:=by rw[h];decide
 unfold dzL dzK dzI dzS dzO;rw[if_neg n,if_neg n,if_neg n,if_neg n]
end Go.V
namespace Go.V
def yl (sp lg:aa)(a:Int):Bool:=decide (dzO sp lg a=0)&&(decide (dzK sp lg a=1)||decide (dzK sp lg a=3))
def ON (sp lg:aa):Nat->aa
 |0=>[]
 |n+1=>ON sp lg n++(if yl sp lg n then[[.i n]]else[])
def laL (sp lg:aa):aa:=if layOk sp lg then ON sp lg 512 else[]
structure OV (sp lg:aa)(i:Int)(o:aa):Prop where
 e:o=ON sp lg i.toNat
 l:o.length<=i.toNat
 y:0<i->layOk sp lg=true
theorem abV {sp lg:aa}:OV sp lg 0 []:=⟨rfl,No _,fun h=>absurd h (by omega)⟩
theorem MV {sp lg:aa}{i:Int}(h:0<=i):ON sp lg (i+1).toNat=ON sp lg i.toNat++(if yl sp lg i then[[.i i]]else[]):=by
 rw[show(i+1).toNat=i.toNat+1 from by omega,ON,IS h]
theorem MX {sp lg o:aa}{i:Int}(h:OV sp lg i o)(h0:0<=i)(hl:layOk sp lg=true)(hv:yl sp lg i=true):OV sp lg (i+1) (o++[[.i i]]):=by
 have e:=h.e;have l:=h.l;refine⟨by rw[MV h0,if_pos hv, <-e],?_,fun _=>hl⟩;rw[AT,List.length_cons,List.length_nil];omega
theorem R6 {sp lg o:aa}{i:Int}(h:OV sp lg i o)(h0:0<=i)(hl:layOk sp lg=true)(hv:yl sp lg i=false):OV sp lg (i+1) o:=by
 have e:=h.e;have l:=h.l;refine⟨by rw[MV h0,hv, <-e];simp,?_,fun _=>hl⟩;omega
theorem U3 {sp lg o:aa}{i:Int}(h:OV sp lg i o)(h1:i<=512)(h2:512<=i):o=laL sp lg:=by
 have e:i=512:=by omega
 subst e;unfold laL;rw[if_pos (h.y (by omega))];exact h.e
theorem U2 {sp lg o:aa}{i:Int}(h:OV sp lg i o)(h0:0<=i)(hl:layOk sp lg=false):o=laL sp lg:=by
 have z:i=0:=by
  by_cases c:0<i
  ·have:=h.y c;rw[hl]at this;cases this
  ·omega
 subst z;unfold laL;rw[hl];exact h.e
theorem YQ {sp lg:aa}{a:Int}(h:dzO sp lg a=0)(k:dzK sp lg a=1):yl sp lg a=true:=by unfold yl;rw[h,k];rfl
theorem YR {sp lg:aa}{a:Int}(h:dzO sp lg a=0)(k:dzK sp lg a=3):yl sp lg a=true:=by unfold yl;rw[h,k];rfl
theorem YN {sp lg:aa}{a:Int}(h:dzO sp lg a≠0):yl sp lg a=false:=by unfold yl;rw[decide_eq_false h];rfl
theorem YO {sp lg:aa}{a:Int}(h:dzK sp lg a≠1)(k:dzK sp lg a≠3):yl sp lg a=false:=by unfold yl;rw[decide_eq_false h,decide_eq_false k,Bool.or_false,adN]
theorem v5 {a b:aa}(h:a=b):[DV.one (.s 1 a)]=[DV.one (.s 1 b)]:=by rw[h]
end Go.V