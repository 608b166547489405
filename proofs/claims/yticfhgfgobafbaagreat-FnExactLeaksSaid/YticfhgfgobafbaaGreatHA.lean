/- Plain facts. -/
import Derived.Test.YticfhgfgobafbaaGreatVE
set_option linter.all false
namespace Go.V
theorem q8 {n:Int}(h:IntKind.has .i64 n): -9223372036854775808<=n/\n<=9223372036854775807:=h
theorem cB {i:Int}(h0:0<=i)(h1:i<9223372036854775807):bP .add .i64 i 1=i+1:=bC (by omega)
def inR (x a b:Int):Bool:=decide (a<=x)&&decide (x<=b)
theorem bW {x a b:Int}:inR x a b=true↔a<=x/\x<=b:=by simp[inR]
theorem q9 {x a b:Int}:inR x a b=false↔x<a\/b<x:=by
 cases h:inR x a b
 ·simp only[true_iff];unfold inR at h;simp only[Bool.and_eq_false_iff,decide_eq_false_iff_not]at h;omega
 ·rw[bW]at h;constructor
  ·intro q;cases q
  ·omega
def bU (p:Int->Bool)(n:Nat):Bool:=(List.range n).all fun j=>p (j:Int)
def upto (p:Int->Bool)(i:Int):Prop:=∀ j:Int,0<=j->j<i->p j=true
theorem aY {p:Int->Bool}:upto p 0:=fun j h0 h1=>absurd h1 (by omega)
theorem aP {p:Int->Bool}{i:Int}(h:upto p i)(hp:p i=true):upto p (i+1):=fun j h0 h1=>by
 by_cases q:j=i
 ·subst q;exact hp
 ·exact h j h0 (by omega)
theorem dq {p:Int->Bool}{n:Nat}:bU p n=true↔upto p n:=by
 simp only[bU,List.all_eq_true,List.mem_range];exact⟨fun h j h0 h1=>by have:=h j.toNat (by omega);rwa [Int.toNat_of_nonneg h0]at this,fun h x hx=>h x (by omega) (by omega)⟩
theorem bc {p:Int->Bool}{n:Nat}{i:Int}(h:upto p i)(hi:(n:Int)<=i):bU p n=true:=dq.2 fun j h0 h1=>h j h0 (by omega)
theorem bB {p:Int->Bool}{n:Nat}{i:Int}(h0:0<=i)(h:i<n)(hp:p i=false):bU p n=false:=by
 cases q:bU p n
 ·rfl
 ·rw[dq.1 q i h0 h]at hp;cases hp
theorem dr {a b:Bool}(h:a=true↔b=true):a=b:=by cases a<;>cases b<;>simp_all
theorem ag {a b:Bool}(h:a=b):[DV.k a]=[DV.k b]:=by rw[h]
def gN (cs us:aa)(i k:Int):Bool:=inR (af (ax cs i 0) k 0) 0 999&&(vJ us i 0||decide (af (ax cs i 0) k 0=0))
def eI (cs us:aa)(i:Int):Bool:=decide ((ax cs i 0).length=16)&&bU (gN cs us i) 16
def framesOk (cs us:aa):Bool:=inR cs.length 1 32&&decide (us.length=cs.length)&&bU (eI cs us) cs.length
def j9 (es:aa)(fr i:Int):Bool:=inR (af es i 0) 0 2&&decide (af es i 0=0->af es i 1=0)&&decide (0<af es i 0->0<=af es i 1/\af es i 1<fr)
def tableOk (es:aa)(fr:Int):Bool:=bU (j9 es fr) es.length&&inR es.length 1 32
def r8 (es:aa)(f:Int):Nat->aa
 |0=>[]
 |n+1=>if af es n 0≠0/\af es n 1=f then r8 es f n++[[.i n]]else r8 es f n
def pagesOn (es:aa)(f:Int):aa:=r8 es f es.length
theorem uZ {es:aa}{f:Int}:∀ {n:Nat},(r8 es f n).length<=n
 |0=>Nat.zero_le _
 | n+1=>by
   have:=uZ (es:=es) (f:=f) (n:=n);unfold r8;split
   ·rw[List.length_append];simp;omega
   ·omega
theorem zu {es:aa}{f:Int}{n:Nat}(h0:af es n 0≠0)(h1:af es n 1=f):r8 es f (n+1)=r8 es f n++[[.i n]]:=by rw[r8,if_pos ⟨h0,h1⟩]
theorem Cy {es:aa}{f:Int}{n:Nat}(h:af es n 0=0\/af es n 1≠f):r8 es f (n+1)=r8 es f n:=by rw[r8,if_neg (by rintro⟨a,b⟩;rcases h with q|q;exact a q;exact q b)]
theorem Er {es:aa}{f i:Int}(hi:0<=i)(h0:af es i 0≠0)(h1:af es i 1=f):r8 es f (i+1).toNat=r8 es f i.toNat++[[.i i]]:=by
 have e:((i.toNat:Nat):Int)=i:=Int.toNat_of_nonneg hi;rw[show(i+1).toNat=i.toNat+1 from by omega,zu (by rw[e];exact h0) (by rw[e];exact h1),e]
theorem Cw {es:aa}{f i:Int}(hi:0<=i)(h:af es i 0=0\/af es i 1≠f):r8 es f (i+1).toNat=r8 es f i.toNat:=by
 have e:((i.toNat:Nat):Int)=i:=Int.toNat_of_nonneg hi;rw[show(i+1).toNat=i.toNat+1 from by omega,Cy (by rw[e];exact h)]
theorem tP {es:aa}{f:Int}:(pagesOn es f).length<=es.length:=uZ
def tH (es:aa)(f:Int):Bool:=decide (0<(pagesOn es f).length)
theorem Ee {es:aa}{f:Int}:tH es f=true↔0<(pagesOn es f).length:=by simp[tH]
theorem GW {cs us:aa}(h:inR cs.length 1 32=false):framesOk cs us=false:=by unfold framesOk;rw[h];rfl
theorem GX {cs us:aa}(h:us.length≠cs.length):framesOk cs us=false:=by unfold framesOk;rw[decide_eq_false h];simp
theorem GY {cs us:aa}{i:Int}(h0:0<=i)(h1:i<cs.length)(h:(ax cs i 0).length≠16):framesOk cs us=false:=by
 unfold framesOk;rw[bB h0 h1 (by unfold eI;rw[decide_eq_false h];rfl)];simp
theorem Bl {cs us:aa}{i k:Int}(h0:0<=i)(h1:i<cs.length)(k0:0<=k)(k1:k<16)(h:inR (af (ax cs i 0) k 0) 0 999=false\/vJ us i 0=false/\af (ax cs i 0) k 0≠0):framesOk cs us=false:=by
 unfold framesOk;rw[bB h0 h1 (by unfold eI;rw[bB k0 (by simpa using k1) (by unfold gN;rcases h with q|⟨q,q'⟩;rw[q];rfl;rw[q,decide_eq_false q'];simp)];simp)];simp
theorem GZ {cs us:aa}{i:Int}(h1:inR cs.length 1 32=true)(h2:us.length=cs.length)(h:upto (eI cs us) i)(hi:(cs.length:Int)<=i):framesOk cs us=true:=by
 unfold framesOk;rw[h1,decide_eq_true h2,bc h hi];rfl
theorem Jm {cs us:aa}{i k:Int}(hl:(ax cs i 0).length=16)(h:upto (gN cs us i) k)(hk:16<=k):eI cs us i=true:=by
 unfold eI;rw[decide_eq_true hl,bc h (by simpa using hk)];rfl
theorem I6 {cs us:aa}{i k:Int}(h:inR (af (ax cs i 0) k 0) 0 999=true)(h':vJ us i 0=true\/af (ax cs i 0) k 0=0):gN cs us i k=true:=by
 unfold gN;rw[h];rcases h' with q|q
 ·rw[q];rfl
 ·rw[decide_eq_true q];simp
theorem yb {k:Nat}{a b:aa}(h:a=b):[DV.one (.s k a)]=[DV.one (.s k b)]:=by rw[h]
theorem Lt {es:aa}{n i:Int}(h0:0<=i)(h1:i<es.length)(h:¬ (0<=af es i 0/\af es i 0<=2/\(af es i 0=0->af es i 1=0)/\(0<af es i 0->0<=af es i 1/\af es i 1<n))):tableOk es n=false:=by
 unfold tableOk;rw[bB h0 h1];rfl;cases q:j9 es n i
 ·rfl
 ·refine absurd ?_ h;unfold j9 at q;simp only[Bool.and_eq_true,decide_eq_true_eq,bW]at q;exact⟨q.1.1.1,q.1.1.2,q.1.2,q.2⟩
theorem Ls {es:aa}{n i:Int}(h:0<=af es i 0/\af es i 0<=2/\(af es i 0=0->af es i 1=0)/\(0<af es i 0->0<=af es i 1/\af es i 1<n)):j9 es n i=true:=by
 unfold j9;simp only[Bool.and_eq_true,decide_eq_true_eq,bW];exact⟨⟨⟨h.1,h.2.1⟩,h.2.2.1⟩,h.2.2.2⟩
theorem Ip {es:aa}{n i:Int}(h:upto (j9 es n) i)(hi:(es.length:Int)<=i):tableOk es n=inR es.length 1 32:=by unfold tableOk;rw[bc h hi];rfl
theorem vi {es:aa}{n:Int}(h:tableOk es n=true):1<=es.length/\es.length<=32:=by
 unfold tableOk at h;simp only[Bool.and_eq_true,bW]at h;omega
theorem uz {cs us:aa}(h:framesOk cs us=true):us.length=cs.length/\1<=cs.length/\cs.length<=32:=by
 unfold framesOk at h;simp only[Bool.and_eq_true,decide_eq_true_eq,bW]at h;omega
end Go.V
namespace Go.V
theorem wC {a n:Int}(h0:0<=a)(h1:a<=9223372036854775807)(hn:0<n):bP .quo .i64 a n=a/n:=by
 show IntKind.wrap .i64 (a.tdiv n)=_;rw[Int.tdiv_eq_ediv_of_nonneg h0];have h2:0<=a/n:=Int.ediv_nonneg h0 (by omega);have h3:a/n<=a:=Int.ediv_le_self _ h0;exact IntWalk.i64_in _ (by omega)
theorem CO {a n:Int}(h0:0<=a):bP .rem .i64 a n=a%n:=Int.tmod_eq_emod_of_nonneg h0
theorem y9 {a:aa}{f:Int}:cp .gtr (pagesOn a f).length 0=tH a f:=dr (by rw[Ee];simp only[SS];omega)
theorem E5 {a b a' b':Int}(h:a=a')(h':b=b'):[DV.agg [.i a,.i b]]=[DV.agg [.i a',.i b']]:=by rw[h,h']
theorem qQ {a b a' b':Int}(h:a=a')(h':b=b'):[DV.j a,DV.j b]=[DV.j a',DV.j b']:=by rw[h,h']
theorem cr {a b:Int}(h:a=b):[DV.j a]=[DV.j b]:=by rw[h]
def peM (es:aa)(p:Int):Int:=if 0<=p/\p<es.length then af es p 0 else 0
def peF (es:aa)(p:Int):Int:=if 0<=p/\p<es.length then af es p 1 else 0
theorem Cu {es:aa}{p:Int}(h:0<=p/\p<es.length):peM es p=af es p 0/\peF es p=af es p 1:=by unfold peM peF;rw[if_pos h,if_pos h];exact⟨rfl,rfl⟩
theorem F1 {es:aa}{p:Int}(h:¬ (0<=p/\p<es.length)):peM es p=0/\peF es p=0:=by unfold peM peF;rw[if_neg h,if_neg h];exact⟨rfl,rfl⟩
end Go.V
namespace Go.V
theorem gW {es:aa}:es.length<=ak es:=Nat.le_add_right _ _
def gY (us es:aa)(i:Int):Bool:=vJ us i 0==tH es i
def machOk (cs us es:aa):Bool:=framesOk cs us&&tableOk es cs.length&&bU (gY us es) cs.length
theorem zd {cs us es:aa}(h:framesOk cs us=false\/tableOk es cs.length=false):machOk cs us es=false:=by
 unfold machOk;rcases h with h|h<;>rw[h]<;>simp
theorem HK {cs us es:aa}(hf:framesOk cs us=true)(h:tableOk es us.length=false):machOk cs us es=false:=by
 rw[(uz hf).1]at h;exact zd (.inr h)
theorem B7 {cs us es:aa}{i:Int}(h0:0<=i)(h1:i<cs.length)(h:vJ us i 0≠tH es i):machOk cs us es=false:=by
 unfold machOk;rw[bB h0 h1 (by unfold gY;simpa using h)];simp
theorem FO {us es:aa}{i:Int}(h:vJ us i 0=tH es i):gY us es i=true:=by unfold gY;simpa using h
theorem B8 {cs us es:aa}{i:Int}(h:framesOk cs us=true)(h2:tableOk es us.length=true)(hu:upto (gY us es) i)(hi:(us.length:Int)<=i):machOk cs us es=true:=by
 rw[(uz h).1]at h2 hi;unfold machOk;rw[h,h2,bc hu hi];rfl
def B9 :List aa->Int->List aa
 |[],_=>[]
 |r::rs,k=>bV r k::B9 rs (aX [r] k)
theorem wn :∀ {rs:List aa} {k k':Int},aX (B9 rs k) k'=aX rs k'
 |[],_,_=>rfl
 | r::rs,k,k'=>by
   show aX (B9 rs (aX [r] k)) (cy (cy r k).1 k').2=aX rs (cy r k').2;rw[pw];exact wn
theorem wt {rs:List aa}(h:∀ r∈rs,(cy r 0).2<=(64*ak r:Nat))(hc:am rs<=1099511627776):aX rs 1<=1152921504606846976:=BI h (by omega) hc
theorem bu :∀ {rs:List aa} {r:aa} {n:Nat},am rs<=n->r∈rs->ak r<=n
 | a::rs,r,n,h,hr=>by
   simp only[am]at h;rcases List.mem_cons.1 hr with rfl|q
   ·omega
   ·exact bu (rs:=rs) (by omega) q
end Go.V
namespace Go.V
end Go.V
namespace Go.V
def clsSz (k:Int):Int:=if k=0 then 1 else if k=1 then 2 else if k=2 then 4 else if k=3 then 8 else 0
def clsOf (s:Int):Int:=if s<1 then-1 else if s<=1 then 0 else if s<=2 then 1 else if s<=4 then 2 else if s<=8 then 3 else-1
theorem Ja {k:Int}(h:inR k 0 3=false):clsSz k=0:=by rw[q9]at h;unfold clsSz;repeat' split<;>omega
theorem Fh {k:Int}(h:inR k 0 3=true):IU .shl .i64 1 k=clsSz k:=by
 rw[bW]at h;rcases(show k=0\/k=1\/k=2\/k=3 by omega)with rfl|rfl|rfl|rfl<;>decide
theorem Fj {k:Int}(h:inR k 0 3=true):IX .u64 k=k:=by
 rw[bW]at h;rcases(show k=0\/k=1\/k=2\/k=3 by omega)with rfl|rfl|rfl|rfl<;>decide
theorem Fi {k s:Int}(h0:0<=k/\k<=3)(h:clsSz k<s)(hs:1<=s/\s<=8):k+1<=3:=by
 rcases(show k=0\/k=1\/k=2\/k=3 by omega)with rfl|rfl|rfl|rfl<;>simp[clsSz]at h<;>omega
theorem I7 {s:Int}(h:s<1\/8<s):clsOf s= -1:=by unfold clsOf;repeat' split<;>omega
theorem GN {k s:Int}(h0:0<=k/\k<=3)(h:s<=clsSz k)(hs:1<=s/\s<=8)(hp:k=0\/clsSz (k-1)<s):clsOf s=k:=by
 rcases(show k=0\/k=1\/k=2\/k=3 by omega)with rfl|rfl|rfl|rfl<;>simp[clsSz]at h hp<;>unfold clsOf<;>repeat' split<;>omega
end Go.V
namespace Go.V
theorem jq {l:aa}{i:Int}(h0:0<=i):H3 (.s 1 l) [(i.toNat,0)]=af l i 0:=by
 rw[CB];unfold af;rw[Int.toNat_natCast]
end Go.V
namespace Go.V
theorem u6 {es:aa}{f:Int}:∀ {n:Nat} {e:av},e∈r8 es f n->∃ k:Nat,k<n/\e=[.i k]
 |0,e,h=>by cases h
 | n+1,e,h=>by
   unfold r8 at h;split at h
   ·rcases List.mem_append.1 h with q|q
    ·obtain⟨k,hk,e⟩:=u6 q;exact⟨k,by omega,e⟩
    ·rw[List.mem_singleton]at q;exact⟨n,by omega,q⟩
   ·obtain⟨k,hk,e⟩:=u6 h;exact⟨k,by omega,e⟩
theorem Ct {es:aa}{f:Int}(h:es.length<=1099511627776):Rw [tI] (pagesOn es f):=by
 have hl:=tP (es:=es) (f:=f);refine⟨by simp[maxLen];omega,fun e he=>?_⟩;obtain⟨k,hk,rfl⟩:=u6 he;exact⟨⟨rfl,(show-9223372036854775808<=(k:Int)/\(k:Int)<=9223372036854775807 by omega)⟩,trivial⟩
end Go.V
namespace Go.V
def cf (p:Int->Bool)(n:Nat):Int:=match(List.range n).find? (fun j:Nat=>p (j:Int))with
 |some j=>(j:Int)
 |none=> -1
def bY (p:Int->Bool)(j:Int):Bool:= !p j
theorem fB {p:Int->Bool}{i:Int}(h:p i=false):bY p i=true:=by unfold bY;rw[h];rfl
theorem cN {p:Int->Bool}{n:Nat}{i:Int}(h:upto (bY p) i)(h0:0<=i)(h1:i<n)(h2:p i=true):cf p n=i:=by
 have e:((i.toNat:Nat):Int)=i:=Int.toNat_of_nonneg h0;have:(List.range n).find? (fun j:Nat=>p (j:Int))=some i.toNat:=by
  rw[List.find?_range_eq_some];refine⟨by rw[e];exact h2,List.mem_range.2 (by omega),fun j hj=>?_⟩;exact h j (by omega) (by omega)
 unfold cf;rw[this];exact e
theorem cO {p:Int->Bool}{n:Nat}{i:Int}(h:upto (bY p) i)(h1:(n:Int)<=i):cf p n= -1:=by
 have:(List.range n).find? (fun j:Nat=>p (j:Int))=none:=by
  rw[List.find?_range_eq_none];intro j hj;exact h j (by omega) (by omega)
 unfold cf;rw[this]
theorem lq {p:Int->Bool}{n:Nat}:cf p n= -1\/0<=cf p n/\cf p n<n:=by
 unfold cf;split
 ·rename_i j h;rw[List.find?_range_eq_some]at h;have:=List.mem_range.1 h.2.1;omega
 ·exact .inl rfl
def eqB (a b:Int):Bool:=decide (a=b)
theorem lh {a b:Int}(h:a=b):eqB a b=true:=decide_eq_true h
theorem qS {a b:Int}(h:a≠b):eqB a b=false:=decide_eq_false h
theorem Mi {a:aa}:am [a]=ak a:=cG
end Go.V
namespace Go.V
def wj (os:aa)(a j:Int):Bool:=eqB (af os j 1) a
def obI (os:aa)(a:Int):Int:=cf (wj os a) os.length
def isSp (ss:aa)(p j:Int):Bool:=eqB (af ss j 0) p
def spI (ss:aa)(p:Int):Int:=cf (isSp ss p) ss.length
end Go.V
namespace Go.V
def fpg (es:aa)(p:Int):aa:=if peM es p=0 then[]else pagesOn es (peF es p)
theorem Bj {es:aa}{p:Int}(h:peM es p=0):fpg es p=[]:=by unfold fpg;rw[if_pos h]
theorem yK {es:aa}{p:Int}(h:peM es p≠0):fpg es p=pagesOn es (peF es p):=by unfold fpg;rw[if_neg h]
theorem GV {es:aa}{p:Int}(h:es.length<=1099511627776):Rw [tI] (fpg es p)/\(fpg es p).length<=1099511627776:=by
 unfold fpg;split
 ·exact⟨Rw.nil,by simp⟩
 ·exact⟨Ct h,Nat.le_trans tP h⟩
def AC (l:aa)(x j:Int):Bool:=eqB x (af l j 0)
def idxI (l:aa)(x:Int):Int:=cf (AC l x) l.length
def hasB (l:aa)(x:Int):Bool:=decide (0<=idxI l x)
theorem yO {l:aa}{x:Int}:hasB l x=true↔∃ k:Nat,k<l.length/\af l k 0=x:=by
 unfold hasB idxI;rw[decide_eq_true_eq]
 constructor
 ·intro h;unfold cf at h;split at h
  ·rename_i j hj;rw[List.find?_range_eq_some]at hj;refine⟨j,List.mem_range.1 hj.2.1,?_⟩;have:=hj.1;unfold AC eqB at this;exact(of_decide_eq_true this).symm
  ·omega
 ·rintro⟨k,hk,e⟩;rcases lq (p:=AC l x) (n:=l.length)with q|q
  ·exfalso;unfold cf at q;split at q
   ·omega
   ·rename_i hn;rw[List.find?_range_eq_none]at hn;have:=hn k hk;unfold AC eqB at this;rw[e]at this;simp at this
  ·exact q.1
end Go.V
namespace Go.V
def slB (b i:Int):Bool:=decide (0<=b)&&inR i 0 15
def hsB (b i:Int):Bool:=slB b i&&decide (bP .and .i64 (IU .shr .i64 b i) 1=1)
theorem Nz {b i:Int}:slB b i=true↔0<=b/\0<=i/\i<=15:=by simp[slB,inR]
theorem JK {b i:Int}(h:slB b i=false):hsB b i=false:=by unfold hsB;rw[h];rfl
theorem Dj {i:Int}(h0:0<=i)(h1:i<=15):IX .u64 i=i:=by
 show IntKind.wrap .u64 i=i;simp only[IntKind.wrap,IntKind.bits,IntKind.signed,Bool.false_and];rw[if_neg (by simp)];omega
end Go.V
namespace Go.V
def wz (rs:aa)(i:Int):Bool:=decide (0<=af rs i 0)
def nH (rs:aa):Bool:=bU (wz rs) rs.length&&decide (rs.length<=40)
def kerOk (cs us es:aa)(c:Int)(rs:aa):Bool:=machOk cs us es&&inR c 0 100000&&nH rs
theorem CM {rs:aa}{i:Int}(h:0<=af rs i 0):wz rs i=true:=decide_eq_true h
theorem CN {cs us es rs:aa}{c i:Int}(h0:0<=i)(h1:i<rs.length)(h:af rs i 0<0):kerOk cs us es c rs=false:=by
 unfold kerOk nH;rw[bB h0 h1 (by unfold wz;exact decide_eq_false (by omega))];simp
theorem Ez {rs:aa}{i:Int}(h:upto (wz rs) i)(hi:(rs.length:Int)<=i)(hl:(rs.length:Int)<=40):nH rs=true:=by
 unfold nH;rw[bc h hi,decide_eq_true (by omega)];rfl
theorem Ey {rs:aa}(hl:¬ (rs.length:Int)<=40):nH rs=false:=by
 unfold nH;rw[decide_eq_false (by omega)];simp
theorem Ea {cs us es rs:aa}{c:Int}(h1:machOk cs us es=false):kerOk cs us es c rs=false:=by unfold kerOk;rw[h1];rfl
theorem yU {cs us es rs:aa}{c:Int}(h1:inR c 0 100000=false):kerOk cs us es c rs=false:=by unfold kerOk;rw[h1];simp
theorem Eb {cs us es rs:aa}{c:Int}(h1:nH rs=false):kerOk cs us es c rs=false:=by unfold kerOk;rw[h1];simp
end Go.V
namespace Go.V
def slN (k:Int):Int:=if inR k 0 3=true then 16/clsSz k else 0
theorem DU {k:Int}(h:inR k 0 3=true):k=0\/k=1\/k=2\/k=3:=by have:=bW.1 h;omega
theorem fu {k:Int}(h:inR k 0 3=true):1<=clsSz k/\clsSz k<=8/\2<=slN k/\slN k<=16/\slN k*clsSz k=16:=by
 rcases DU h with rfl|rfl|rfl|rfl<;>decide
theorem C0 {k:Int}(h:inR k 0 3=true):bP .quo .i64 16 (clsSz k)=slN k:=by
 rcases DU h with rfl|rfl|rfl|rfl<;>decide
theorem C3 {k:Int}(h:inR k 0 3=true):IU .shr .i64 16 (IX .u64 k)=slN k:=by
 rcases DU h with rfl|rfl|rfl|rfl<;>decide
theorem yd {k:Int}(h:inR k 0 3=false):slN k=0:=by unfold slN;rw[h];rfl
def bmOk (n b:Int):Bool:=inR n 1 16&&inR b 0 (2^n.toNat-1)
theorem CZ {n:Int}(h:inR n 1 16=true):bP .sub .i64 (IU .shl .i64 1 n) 1=2^n.toNat-1/\bP .sub .i64 (IU .shl .i64 1 (IX .u64 n)) 1=2^n.toNat-1/\0<=IX .u64 n:=by
 have q:=bW.1 h;have:n=1\/n=2\/n=3\/n=4\/n=5\/n=6\/n=7\/n=8\/n=9\/n=10\/n=11\/n=12\/n=13\/n=14\/n=15\/n=16:=by omega
 rcases this with rfl|rfl|rfl|rfl|rfl|rfl|rfl|rfl|rfl|rfl|rfl|rfl|rfl|rfl|rfl|rfl<;>decide
theorem E7 {n b:Int}(h:inR n 1 16=false):bmOk n b=false:=by unfold bmOk;rw[h];rfl
theorem AW {n b:Int}(h:inR n 1 16=true):bmOk n b=inR b 0 (2^n.toNat-1):=by unfold bmOk;rw[h];rfl
def spOk (p k b:Int):Bool:=inR p 0 31&&bmOk (slN k) b
theorem AV {k b:Int}(h:inR k 0 3=false):bmOk (slN k) b=false:=by rw[yd h];rfl
theorem C5 {p k b:Int}(h:inR p 0 31=false):spOk p k b=false:=by unfold spOk;rw[h];rfl
theorem Io {p k b:Int}(h:inR k 0 3=false):spOk p k b=false:=by unfold spOk;rw[AV h,Bool.and_false]
theorem C6 {p k b:Int}(h:inR p 0 31=true):spOk p k b=bmOk (slN k) b:=by unfold spOk;rw[h];rfl
theorem ic {p k b:Int}(h:spOk p k b=true):0<=p/\p<=31/\inR k 0 3=true/\bmOk (slN k) b=true:=by
 unfold spOk at h;simp only[Bool.and_eq_true,bW]at h;refine⟨h.1.1,h.1.2,?_,h.2⟩;cases q:inR k 0 3
 ·rw[AV q]at h;exact absurd h.2 (by decide)
 ·rfl
def pfN (s:Int):Int:=if inR s 9 1000=true then(s+15)/16 else 0
theorem H2 {s:Int}(h:inR s 9 1000=true):bP .quo .i64 (bP .sub .i64 (bP .add .i64 s 16) 1) 16=pfN s:=by
 have q:=bW.1 h;have e1:bP .add .i64 s 16=s+16:=bC (by omega);have e2:bP .sub .i64 (s+16) 1=s+16-1:=cR (by omega);unfold pfN;rw[if_pos h,e1,e2,wC (by omega) (by omega) (by omega),show s+16-1=s+15 from by omega]
theorem F2 {s:Int}(h:inR s 9 1000=false):pfN s=0:=by unfold pfN;rw[h];rfl
theorem fJ {s:Int}(h:inR s 9 1000=true):1<=pfN s/\pfN s<=63/\s<=pfN s*16:=by
 have q:=bW.1 h;unfold pfN;rw[if_pos h];omega
theorem Cv {s:Int}:0<pfN s↔inR s 9 1000=true:=by
 constructor
 ·intro h;cases q:inR s 9 1000
  ·rw[F2 q]at h;omega
  ·rfl
 ·intro h;have:=fJ h;omega
def lgOk (p n s:Int):Bool:=inR s 9 1000&&(decide (n=pfN s)&&inR p 0 (32-n))
theorem BS {p n s:Int}(h:inR s 9 1000=false):lgOk p n s=false:=by unfold lgOk;rw[h];rfl
theorem BU {p n s:Int}(h:n≠pfN s):lgOk p n s=false:=by unfold lgOk;rw[decide_eq_false h];simp
theorem BV {p n s:Int}(h:inR s 9 1000=true)(h2:n=pfN s):lgOk p n s=inR p 0 (32-n):=by unfold lgOk;rw[h,decide_eq_true h2];rfl
theorem gn {p n s:Int}(h:lgOk p n s=true):inR s 9 1000=true/\n=pfN s/\0<=p/\p<=32-n:=by
 unfold lgOk at h;simp only[Bool.and_eq_true,decide_eq_true_eq,bW]at h;exact⟨bW.2 h.1,h.2.1,h.2.2⟩
def xi (p k b a:Int):Bool:=spOk p k b&&inR a (p*16) (p*16+15)
def saS (p k b a:Int):Int:=if xi p k b a=true then(a-p*16)/clsSz k else-1
def saO (p k b a:Int):Int:=if xi p k b a=true then(a-p*16)%clsSz k else-1
theorem tT {p k b a:Int}(h:xi p k b a=false):saS p k b a= -1/\saO p k b a= -1:=by unfold saS saO;rw[h];exact⟨rfl,rfl⟩
theorem rL {p k b a:Int}(h:xi p k b a=true):saS p k b a=(a-p*16)/clsSz k/\saO p k b a=(a-p*16)%clsSz k:=by unfold saS saO;rw[if_pos h,if_pos h];exact⟨rfl,rfl⟩
theorem wI {p k b a:Int}:xi p k b a=true↔spOk p k b=true/\p*16<=a/\a<=p*16+15:=by unfold xi;rw[Bool.and_eq_true,bW]
def GF (p k b s:Int):Bool:=spOk p k b&&inR s 0 (slN k-1)
def aaI (p k b s:Int):Int:=if GF p k b s=true then p*16+s*clsSz k else-1
def lhB (p n s a:Int):Bool:=lgOk p n s&&inR a (p*16) (p*16+s-1)
def loI (p n s a:Int):Int:=if lhB p n s a=true then a-p*16 else-1
theorem BX {p n s a:Int}(h:lgOk p n s=false):lhB p n s a=false:=by unfold lhB;rw[h];rfl
theorem xO {p n s a:Int}(h:lgOk p n s=true):lhB p n s a=inR a (p*16) (p*16+s-1):=by unfold lhB;rw[h];rfl
theorem J2 {p n s a:Int}(h:lhB p n s a=false):loI p n s a= -1:=by unfold loI;rw[h];rfl
theorem HF {p n s a:Int}(h:lhB p n s a=true):loI p n s a=a-p*16:=by unfold loI;rw[if_pos h]
theorem xR {a b:Int}(h: -9223372036854775808<=a*b/\a*b<=9223372036854775807):bP .mul .i64 a b=a*b:=IntWalk.i64_in _ h
theorem KL {p:Int}(h:0<=p/\p<=31):bP .mul .i64 p 16=p*16/\bP .sub .i64 (bP .add .i64 (p*16) 16) 1=p*16+15:=by
 have e1:bP .mul .i64 p 16=p*16:=xR (by omega);have e2:bP .add .i64 (p*16) 16=p*16+16:=bC (by omega);have e3:bP .sub .i64 (p*16+16) 1=p*16+16-1:=cR (by omega);rw[e1,e2,e3];omega
theorem EC {p k b a:Int}(h:spOk p k b=true)(h1:inR a (p*16) (p*16+15)=true):saS p k b a=bP .quo .i64 (bP .sub .i64 a (p*16)) (clsSz k)/\saO p k b a=bP .rem .i64 (bP .sub .i64 a (p*16)) (clsSz k):=by
 have t:=ic h;have q:=bW.1 h1;have c:=fu t.2.2.1;have y:=rL (wI.2 ⟨h,q⟩);have e:bP .sub .i64 a (p*16)=a-p*16:=cR (by omega);rw[y.1,y.2,e,wC (by omega) (by omega) (by omega),CO (by omega)];exact⟨rfl,rfl⟩
theorem Ge {p k b a:Int}(h:spOk p k b=false):xi p k b a=false:=by unfold xi;rw[h];rfl
theorem Ln {p k b a:Int}(h:inR a (p*16) (p*16+15)=false):xi p k b a=false:=by unfold xi;rw[h,Bool.and_false]
theorem ED {p k b a:Int}(h:spOk p k b=true)(h0:¬ a<0)(h1:bP .quo .i64 a 16=p)(ha:a<=9223372036854775807):saS p k b a=bP .quo .i64 (bP .rem .i64 a 16) (clsSz k)/\saO p k b a=bP .rem .i64 (bP .rem .i64 a 16) (clsSz k):=by
 have t:=ic h;have c:=fu t.2.2.1;rw[wC (by omega) ha (by omega)]at h1;have e:bP .rem .i64 a 16=a%16:=CO (by omega);have y:=rL (wI.2 ⟨h,show p*16<=a/\a<=p*16+15 by omega⟩);rw[y.1,y.2,e,wC (by omega) (by omega) (by omega),CO (by omega),show a-p*16=a%16 by omega];exact⟨rfl,rfl⟩
theorem Gf {p k b a:Int}(h0:a<0\/bP .quo .i64 a 16≠p)(ha:a<=9223372036854775807):xi p k b a=false:=by
 cases q:xi p k b a
 ·rfl
 ·obtain⟨h,h1⟩:=wI.1 q;have t:=ic h;rcases h0 with h0|h0
  ·omega
  ·rw[wC (by omega) ha (by omega)]at h0;omega
theorem GG {p k b s:Int}(h:spOk p k b=true)(h1:inR s 0 (slN k-1)=true):bP .add .i64 (bP .mul .i64 p 16) (bP .mul .i64 s (clsSz k))=aaI p k b s:=by
 have t:=ic h;have c:=fu t.2.2.1;have q:=bW.1 h1;have m1:0<=s*clsSz k:=Int.mul_nonneg q.1 (by omega);have m2:s*clsSz k<=(slN k-1)*clsSz k:=Int.mul_le_mul_of_nonneg_right q.2 (by omega);have m3:(slN k-1)*clsSz k=16-clsSz k:=by rw[Int.sub_mul,c.2.2.2.2,Int.one_mul]
 have e:bP .mul .i64 s (clsSz k)=s*clsSz k:=xR (by omega);rw[(KL ⟨t.1,t.2.1⟩).1,e];unfold aaI GF;rw[h,h1];exact bC (by omega)
theorem E4 {p k b s:Int}(h:spOk p k b=false\/inR s 0 (slN k-1)=false):aaI p k b s= -1:=by
 unfold aaI GF;rcases h with h|h
 ·rw[h];rfl
 ·rw[h,Bool.and_false];rfl
theorem BW {p n s:Int}(h:lgOk p n s=true):bP .mul .i64 p 16=p*16/\bP .add .i64 (bP .mul .i64 p 16) s=p*16+s/\bP .sub .i64 (bP .add .i64 (bP .mul .i64 p 16) s) 1=p*16+s-1:=by
 have t:=gn h;have b:=fJ t.1;have q:=bW.1 t.1;have e1:bP .mul .i64 p 16=p*16:=xR (by omega);have e2:bP .add .i64 (p*16) s=p*16+s:=bC (by omega);have e3:bP .sub .i64 (p*16+s) 1=p*16+s-1:=cR (by omega);rw[e1,e2,e3];exact⟨rfl,rfl,rfl⟩
theorem HA {p n s a:Int}:lhB p n s a=true↔lgOk p n s=true/\p*16<=a/\a<=p*16+s-1:=by unfold lhB;rw[Bool.and_eq_true,bW]
theorem J1 {p n s a:Int}(h:lhB p n s a=true):bP .sub .i64 a (bP .mul .i64 p 16)=loI p n s a:=by
 obtain⟨h1,h2,h3⟩:=HA.1 h;have t:=gn h1;have b:=fJ t.1;have q:=bW.1 t.1;rw[(BW h1).1,HF h];exact cR (by omega)
end Go.V
namespace Go.V
def eK (l:List Int):aa:=l.map fun x=>[.i x]
theorem bS {l:List Int}:(eK l).length=l.length:=by unfold eK;rw[List.length_map]
theorem dU {a b:List Int}:eK (a++b)=eK a++eK b:=by unfold eK;rw[List.map_append]
theorem mO {l:List Int}{k:Nat}(h:k<l.length):af (eK l) k 0=l[k]:=by
 have e:(eK l).getD k []=[.i l[k]]:=by
  unfold eK;rw[List.getD_eq_getElem?_getD,List.getElem?_map,List.getElem?_eq_getElem h];rfl
 unfold af;rw[Int.toNat_natCast,e];rfl
theorem jF {l:List Int}{x:Int}:hasB (eK l) x=true↔x∈l:=by
 rw[yO]
 constructor
 ·rintro⟨k,hk,e⟩;rw[bS]at hk;rw[mO hk]at e;rw[<-e];exact List.getElem_mem hk
 ·intro h;obtain⟨k,hk,e⟩:=List.getElem_of_mem h;exact⟨k,by rw[bS];exact hk,by rw[mO hk];exact e⟩
theorem pm {l:List Int}{x:Int}(h:hasB (eK l) x=false):x∉l:=fun m=>by rw[jF.2 m]at h;cases h
theorem mP {l:List Int}(h:∀ x∈l,-9223372036854775808<=x/\x<=9223372036854775807)(hl:l.length<=70368744177664):Rw [tI] (eK l):=by
 refine⟨by rw[bS];unfold maxLen;omega,fun e he=>?_⟩;obtain⟨x,hx,rfl⟩:=List.mem_map.1 he;have q:=h x hx;exact⟨⟨rfl,by show-9223372036854775808<=x/\x<=(9223372036854775807:Int);exact q⟩,trivial⟩
theorem G3 {l:aa}{x i:Int}(h:upto (bY (AC l x)) i)(hi:(l.length:Int)<=i):hasB l x=false:=by
 unfold hasB idxI;rw[cO h hi];rfl
def Gg (sp:aa)(i:Int):Bool:=spOk (af sp i 0) (af sp i 1) (af sp i 2)
def Hz (lg:aa)(i:Int):Bool:=lgOk (af lg i 0) (af lg i 1) (af lg i 2)
def gu (sp:aa):Nat->List Int
 |0=>[]
 |n+1=>gu sp n++[af sp n 0]
def jL (p:Int):Nat->List Int
 |0=>[]
 |n+1=>jL p n++[p+n]
def gr (lg:aa):Nat->List Int
 |0=>[]
 |n+1=>gr lg n++jL (af lg n 0) (af lg n 1).toNat
def sW (sp lg:aa):List Int:=gu sp sp.length++gr lg lg.length
def layOk (sp lg:aa):Bool:=(bU (Gg sp) sp.length&&bU (Hz lg) lg.length)&&decide (sW sp lg).Nodup
theorem jv {sp:aa}{i:Int}(h:0<=i):gu sp (i+1).toNat=gu sp i.toNat++[af sp i 0]:=by
 rw[show(i+1).toNat=i.toNat+1 from by omega,gu,Int.toNat_of_nonneg h]
theorem kw {lg:aa}{i:Int}(h:0<=i):gr lg (i+1).toNat=gr lg i.toNat++jL (af lg i 0) (af lg i 1).toNat:=by
 rw[show(i+1).toNat=i.toNat+1 from by omega,gr,Int.toNat_of_nonneg h]
theorem rC {p i:Int}(h:0<=i):jL p (i+1).toNat=jL p i.toNat++[p+i]:=by
 rw[show(i+1).toNat=i.toNat+1 from by omega,jL,Int.toNat_of_nonneg h]
theorem jO {sp:aa}:∀ {n:Nat},(gu sp n).length=n
 |0=>rfl
 |n+1=>by rw[gu,List.length_append,jO];rfl
theorem lO {p:Int}:∀ {n:Nat},(jL p n).length=n
 |0=>rfl
 |n+1=>by rw[jL,List.length_append,lO];rfl
theorem zM {sp:aa}:∀ (m n:Nat),n<=m->∃ r,gu sp m=gu sp n++r
 |0,n,h=>⟨[],by rw[show n=0 by omega];rfl⟩
 | m+1,n,h=>by
   by_cases c:n=m+1
   ·subst c;exact⟨[],by simp⟩
   ·obtain⟨r,e⟩:=zM (sp:=sp) m n (by omega);exact⟨r++[af sp m 0],by rw[gu,e,List.append_assoc]⟩
theorem zz {p:Int}:∀ (m n:Nat),n<=m->∃ r,jL p m=jL p n++r
 |0,n,h=>⟨[],by rw[show n=0 by omega];rfl⟩
 | m+1,n,h=>by
   by_cases c:n=m+1
   ·subst c;exact⟨[],by simp⟩
   ·obtain⟨r,e⟩:=zz (p:=p) m n (by omega);exact⟨r++[p+m],by rw[jL,e,List.append_assoc]⟩
theorem za {lg:aa}:∀ (m n:Nat),n<=m->∃ r,gr lg m=gr lg n++r
 |0,n,h=>⟨[],by rw[show n=0 by omega];rfl⟩
 | m+1,n,h=>by
   by_cases c:n=m+1
   ·subst c;exact⟨[],by simp⟩
   ·obtain⟨r,e⟩:=za (lg:=lg) m n (by omega);exact⟨r++jL (af lg m 0) (af lg m 1).toNat,by rw[gr,e,List.append_assoc]⟩
theorem dup {a b l:List Int}{x:Int}(h:l=a++x::b)(hm:x∈a):¬ l.Nodup:=by
 rw[h,List.nodup_append];rintro⟨_,_,q⟩;exact q x hm x (by simp) rfl
theorem fT {a:List Int}{x:Int}(h:a.Nodup)(hx:x∉a):(a++[x]).Nodup:=by
 rw[List.nodup_append];exact⟨h,by simp,fun y hy z hz e=>by simp at hz;subst hz;subst e;exact hx hy⟩
theorem yX {sp lg:aa}{i:Int}(h0:0<=i)(h1:i<sp.length)(h:spOk (af sp i 0) (af sp i 1) (af sp i 2)=false):layOk sp lg=false:=by
 unfold layOk;rw[bB h0 h1 h];rfl
theorem yY {sp lg:aa}{i:Int}(h0:0<=i)(h1:i<lg.length)(h:lgOk (af lg i 0) (af lg i 1) (af lg i 2)=false):layOk sp lg=false:=by
 unfold layOk;rw[bB (p:=Hz lg) h0 h1 h,Bool.and_false];rfl
theorem yZ {sp lg:aa}{i:Int}(h0:0<=i)(h1:i<sp.length)(h:af sp i 0∈gu sp i.toNat):layOk sp lg=false:=by
 obtain⟨r,e⟩:=zM (sp:=sp) sp.length (i+1).toNat (by omega);rw[jv h0,List.append_assoc]at e;have:¬ (sW sp lg).Nodup:=dup (a:=gu sp i.toNat) (b:=r++gr lg lg.length) (x:=af sp i 0) (by unfold sW;rw[e,List.append_assoc];rfl) h;unfold layOk;rw[decide_eq_false this,Bool.and_false]
theorem y7 {sp lg:aa}{i k:Int}(h0:0<=i)(h1:i<lg.length)(k0:0<=k)(k1:k<af lg i 1)(h:af lg i 0+k∈gu sp sp.length++gr lg i.toNat++jL (af lg i 0) k.toNat):layOk sp lg=false:=by
 obtain⟨r,e⟩:=za (lg:=lg) lg.length (i+1).toNat (by omega);obtain⟨r2,e2⟩:=zz (p:=af lg i 0) (af lg i 1).toNat (k+1).toNat (by omega);rw[kw h0,e2,rC k0]at e;have:¬ (sW sp lg).Nodup:=dup (a:=gu sp sp.length++gr lg i.toNat++jL (af lg i 0) k.toNat) (b:=r2++r) (x:=af lg i 0+k) (by unfold sW;rw[e];simp only[List.append_assoc];rfl) h;unfold layOk;rw[decide_eq_false this,Bool.and_false]
theorem y8 {sp lg:aa}{i j:Int}(h:upto (Gg sp) i)(hi:(sp.length:Int)<=i)(h2:upto (Hz lg) j)(hj:(lg.length:Int)<=j)(hn:(sW sp lg).Nodup):layOk sp lg=true:=by
 unfold layOk;rw[bc h hi,bc h2 hj,decide_eq_true hn];rfl
theorem BM {sp lg:aa}(h:layOk sp lg=true):(∀ i:Int,0<=i->i<sp.length->spOk (af sp i 0) (af sp i 1) (af sp i 2)=true)/\(∀ i:Int,0<=i->i<lg.length->lgOk (af lg i 0) (af lg i 1) (af lg i 2)=true)/\(sW sp lg).Nodup:=by
 unfold layOk at h;simp only[Bool.and_eq_true,decide_eq_true_eq]at h;exact⟨dq.1 h.1.1,dq.1 h.1.2,h.2⟩
def IK (es:aa):Prop:=∀ e∈es,∃ (k:Int) (b:Bool),e=[.i k,.v (.bool b)]
theorem rl {k:Int}{b:Bool}{es:aa}{n:Int}:cP ([.i k,.v (.bool b)]::es) n=if k=n then some (0,.bool b)else(cP es n).map fun p=>(p.1+1,p.2):=rfl
theorem jf {k:Int}{b:Bool}{es:aa}{n:Int}:mgbI ([.i k,.v (.bool b)]::es) n=if k=n then b else mgbI es n:=by
 unfold mgbI;rw[rl];by_cases c:k=n
 ·rw[if_pos c,if_pos c]
 ·rw[if_neg c,if_neg c];cases cP es n with
  |none=>rfl
  |some p=>obtain⟨j,v⟩:=p;cases v<;>rfl
theorem zf {k:Int}{b x:Bool}{es:aa}{n:Int}:gK ([.i k,.v (.bool b)]::es) n (.v (.bool x))=if k=n then[.i n,.v (.bool x)]::es else[.i k,.v (.bool b)]::gK es n (.v (.bool x)):=by
 unfold gK;rw[rl];by_cases c:k=n
 ·rw[if_pos c,if_pos c];rfl
 ·rw[if_neg c,if_neg c];cases cP es n with
  |none=>rfl
  |some p=>rfl
theorem NL {x:Bool}{n:Int}:∀ {es:aa},IK es->IK (gK es n (.v (.bool x)))/\∀ m,mgbI (gK es n (.v (.bool x))) m=if m=n then x else mgbI es m
 | [],_=>by
   refine⟨fun e he=>?_,fun m=>?_⟩
   ·have:e=[.i n,.v (.bool x)]:=by simpa[gK,cP]using he
    exact⟨n,x,this⟩
   ·show mgbI [[.i n,.v (.bool x)]] m=_;rw[jf];by_cases c:m=n
    ·rw[if_pos c.symm,if_pos c]
    ·rw[if_neg (fun e=>c e.symm),if_neg c]
 | e::es,h=>by
   obtain⟨k,b,rfl⟩:=h e (by simp);have h':IK es:=fun e he=>h e (by simp[he])
   obtain⟨a1,a2⟩:=NL (x:=x) (n:=n) h';rw[zf];by_cases c:k=n
   ·rw[if_pos c];refine⟨fun e he=>?_,fun m=>?_⟩
    ·rcases List.mem_cons.1 he with rfl|he
     ·exact⟨n,x,rfl⟩
     ·exact h' e he
    ·rw[jf,jf];by_cases d:m=n
     ·rw[if_pos d.symm,if_pos d]
     ·rw[if_neg (fun e=>d e.symm),if_neg d,if_neg (fun e=>d (by rw[<-e,c]))]
   ·rw[if_neg c];refine⟨fun e he=>?_,fun m=>?_⟩
    ·rcases List.mem_cons.1 he with rfl|he
     ·exact⟨k,b,rfl⟩
     ·exact a1 e he
    ·rw[jf,jf,a2 m];by_cases d:k=m
     ·rw[if_pos d,if_pos d,if_neg (fun e=>c (d.trans e))]
     ·rw[if_neg d,if_neg d]
def muT (es:aa)(n:Int):aa:=gK es n (.v (.bool true))
structure jZ (es:aa)(l:List Int):Prop where
 wf:IK es
 at_:∀ m,mgbI es m=true↔m∈l
theorem yc :jZ [] []:=⟨(fun e he=>by cases he),fun m=>by simp[mgbI,cP]⟩
theorem pC {es:aa}{l:List Int}{n:Int}(h:jZ es l):jZ (gK es n (.v (.bool true))) (l++[n]):=by
 have q:=NL (x:=true) (n:=n) h.wf;refine⟨q.1,fun m=>?_⟩;rw[q.2 m];by_cases c:m=n
 ·rw[if_pos c];simp[c]
 ·rw[if_neg c,h.at_ m];simp[c]
def one (x:Int):aa:=[[.i x]]
structure Du (sp:aa)(i:Int)(o:aa):Prop where
 e:o=eK (gu sp i.toNat)
 nd:(gu sp i.toNat).Nodup
 ok:upto (Gg sp) i
 b:∀ x∈gu sp i.toNat,0<=x/\x<=64
structure ID (sp lg:aa)(j:Int)(o:aa):Prop where
 e:o=eK (gu sp sp.length++gr lg j.toNat)
 nd:(gu sp sp.length++gr lg j.toNat).Nodup
 oks:upto (Gg sp) sp.length
 ok:upto (Hz lg) j
 b:∀ x∈gu sp sp.length++gr lg j.toNat,0<=x/\x<=64
 l:(gr lg j.toNat).length<=64*j.toNat
structure Dt (sp lg:aa)(j k:Int)(o:aa):Prop where
 e:o=eK (gu sp sp.length++gr lg j.toNat++jL (af lg j 0) k.toNat)
 nd:(gu sp sp.length++gr lg j.toNat++jL (af lg j 0) k.toNat).Nodup
 oks:upto (Gg sp) sp.length
 ok:upto (Hz lg) j
 b:∀ x∈gu sp sp.length++gr lg j.toNat++jL (af lg j 0) k.toNat,0<=x/\x<=64
 l:(gr lg j.toNat).length<=64*j.toNat
theorem AX {l:List Int}(h:∀ x∈l,0<=x/\x<=64)(hl:l.length<=70368744177664):Rw [tI] (eK l):=mP (fun x hx=>by have:=h x hx;omega) hl
theorem vX {l:List Int}{x:Int}(h:∀ x∈l,0<=x/\x<=64)(hx:0<=x/\x<=64):∀ y∈l++[x],0<=y/\y<=64:=by
 intro y hy;rcases List.mem_append.1 hy with q|q
 ·exact h y q
 ·simp at q;rw[q];exact hx
theorem MN {sp:aa}:Du sp 0 []:=⟨rfl,List.nodup_nil,aY,fun x hx=>by cases hx⟩
theorem B4 {sp o:aa}{i:Int}(h:Du sp i o):o.length=i.toNat:=by rw[h.e,bS,jO]
theorem J3 {sp o:aa}{i:Int}(h:Du sp i o)(hi:i<=1073741824):Rw [tI] o:=by
 have l:=B4 h;have e:=h.e;rw[e,bS]at l;rw[e];exact AX h.b (by omega)
theorem HG {sp lg o:aa}{i:Int}(h:Du sp i o)(h0:0<=i)(h1:i<sp.length)(hh:hasB o (af sp i 0)=true):layOk sp lg=false:=by
 rw[h.e,jF]at hh;exact yZ h0 h1 hh
theorem J4 {sp o:aa}{i:Int}(h:Du sp i o)(h0:0<=i)(hs:spOk (af sp i 0) (af sp i 1) (af sp i 2)=true)(hh:hasB o (af sp i 0)=false):Du sp (i+1) (o++[[.i (af sp i 0)]]):=by
 have t:=ic hs;have e:=h.e;rw[e]at hh;have hm:=pm hh;exact⟨by rw[jv h0,dU,e];rfl,by rw[jv h0];exact fT h.nd hm,aP h.ok hs,by rw[jv h0];exact vX h.b (by omega)⟩
theorem HH {sp lg o:aa}{i:Int}(h:Du sp i o)(h1:i<=sp.length)(h2:(sp.length:Int)<=i):ID sp lg 0 o:=by
 have e:i.toNat=sp.length:=by omega
 have ei:i=sp.length:=by omega
 have q1:=h.e;have q2:=h.nd;have q3:=h.ok;have q4:=h.b;rw[e]at q1 q2 q4;rw[ei]at q3;exact⟨by rw[q1];simp[gr],by simpa[gr]using q2,q3,aY,by simpa[gr]using q4,by simp[gr]⟩
theorem MM {sp lg o:aa}{j:Int}(h:ID sp lg j o):Dt sp lg j 0 o:=by
 refine⟨by rw[h.e];simp[jL],by simpa[jL]using h.nd,h.oks,h.ok,by simpa[jL]using h.b,h.l⟩
theorem B0 {sp lg o:aa}{j k:Int}(h:Dt sp lg j k o):o.length<=sp.length+64*j.toNat+k.toNat:=by
 have l:=h.l;rw[h.e,bS,List.length_append,List.length_append,jO,lO];omega
theorem JZ {sp lg o:aa}{j k:Int}(h:Dt sp lg j k o)(h1:sp.length<=1073741824)(h2:j<=1073741824)(h3:k<=64):Rw [tI] o:=by
 have l:=B0 h;have e:=h.e;rw[e,bS]at l;rw[e];exact AX h.b (by omega)
theorem HB {sp lg o:aa}{j k:Int}(h:Dt sp lg j k o)(h0:0<=j)(h1:j<lg.length)(k0:0<=k)(k1:k<af lg j 1)(hh:hasB o (af lg j 0+k)=true):layOk sp lg=false:=by
 rw[h.e,jF]at hh;exact y7 h0 h1 k0 k1 hh
theorem JY {p n s k:Int}(h:lgOk p n s=true)(k0:0<=k)(k1:k<n):0<=p/\p+k<=32/\bP .add .i64 p k=p+k/\1<=n/\n<=32:=by
 have t:=gn h;have b:=fJ t.1;have e:bP .add .i64 p k=p+k:=bC (by omega);exact⟨by omega,by omega,e,by omega,by omega⟩
theorem J0 {sp lg o:aa}{j k:Int}(h:Dt sp lg j k o)(k0:0<=k)(hx:0<=af lg j 0+k/\af lg j 0+k<=64)(hh:hasB o (af lg j 0+k)=false):Dt sp lg j (k+1) (o++[[.i (af lg j 0+k)]]):=by
 have e:=h.e;rw[e]at hh;have hm:=pm hh;have q:∀ A:List Int,A++jL (af lg j 0) (k+1).toNat=A++jL (af lg j 0) k.toNat++[af lg j 0+k]:=fun A=>by rw[rC k0,List.append_assoc]
 exact⟨by rw[q,dU,e];rfl,by rw[q];exact fT h.nd hm,h.oks,h.ok,by rw[q];exact vX h.b hx,h.l⟩
theorem HC {sp lg o:aa}{j k:Int}(h:Dt sp lg j k o)(j0:0<=j)(hl:lgOk (af lg j 0) (af lg j 1) (af lg j 2)=true)(k0:0<=k)(k1:k<=af lg j 1)(k2:af lg j 1<=k):ID sp lg (j+1) o:=by
 have t:=gn hl;have b:=fJ t.1;have ek:k.toNat=(af lg j 1).toNat:=by omega
 have q1:=h.e;have q2:=h.nd;have q4:=h.b;have q5:=h.l;rw[ek,List.append_assoc, <-kw j0]at q1 q2 q4;refine⟨q1,q2,h.oks,aP h.ok hl,q4,?_⟩;rw[kw j0,List.length_append,lO];omega
theorem HE {sp lg o:aa}{j:Int}(h:ID sp lg j o)(j1:j<=lg.length)(j2:(lg.length:Int)<=j):layOk sp lg=true:=by
 have e:j.toNat=lg.length:=by omega
 have q:=h.nd;rw[e]at q;exact y8 h.oks (Int.le_refl _) h.ok j2 q
end Go.V
namespace Go.V
structure Gs (sp:aa)(i:Int)(es:aa):Prop where
 s:jZ es (gu sp i.toNat)
 nd:(gu sp i.toNat).Nodup
 ok:upto (Gg sp) i
structure IC (sp lg:aa)(j:Int)(es:aa):Prop where
 s:jZ es (gu sp sp.length++gr lg j.toNat)
 nd:(gu sp sp.length++gr lg j.toNat).Nodup
 oks:upto (Gg sp) sp.length
 ok:upto (Hz lg) j
structure Gq (sp lg:aa)(j k:Int)(es:aa):Prop where
 s:jZ es (gu sp sp.length++gr lg j.toNat++jL (af lg j 0) k.toNat)
 nd:(gu sp sp.length++gr lg j.toNat++jL (af lg j 0) k.toNat).Nodup
 oks:upto (Gg sp) sp.length
 ok:upto (Hz lg) j
theorem CW {es:aa}{l:List Int}{n:Int}(h:jZ es l)(e:mgbI es n=false):n∉l:=fun m=>by rw[(h.at_ n).2 m]at e;cases e
theorem MG {sp:aa}:Gs sp 0 []:=⟨yc,List.nodup_nil,aY⟩
theorem Ht {sp lg es:aa}{i:Int}(h:Gs sp i es)(h0:0<=i)(h1:i<sp.length)(hh:mgbI es (af sp i 0)=true):layOk sp lg=false:=
 yZ h0 h1 ((h.s.at_ _).1 hh)
theorem JS {sp es:aa}{i:Int}(h:Gs sp i es)(h0:0<=i)(hs:spOk (af sp i 0) (af sp i 1) (af sp i 2)=true)(hh:mgbI es (af sp i 0)=false):Gs sp (i+1) (muT es (af sp i 0)):=
 ⟨by rw[jv h0];exact pC h.s,by rw[jv h0];exact fT h.nd (CW h.s hh),aP h.ok hs⟩
theorem Hu {sp lg es:aa}{i:Int}(h:Gs sp i es)(h1:i<=sp.length)(h2:(sp.length:Int)<=i):IC sp lg 0 es:=by
 have e:i.toNat=sp.length:=by omega
 have ei:i=sp.length:=by omega
 have q1:=h.s;have q2:=h.nd;have q3:=h.ok;rw[e]at q1 q2;rw[ei]at q3;exact⟨by simpa[gr]using q1,by simpa[gr]using q2,q3,aY⟩
theorem MF {sp lg es:aa}{j:Int}(h:IC sp lg j es):Gq sp lg j 0 es:=
 ⟨by simpa[jL]using h.s,by simpa[jL]using h.nd,h.oks,h.ok⟩
theorem Hn {sp lg es:aa}{j k:Int}(h:Gq sp lg j k es)(h0:0<=j)(h1:j<lg.length)(k0:0<=k)(k1:k<af lg j 1)(hh:mgbI es (af lg j 0+k)=true):layOk sp lg=false:=
 y7 h0 h1 k0 k1 ((h.s.at_ _).1 hh)
theorem JR {sp lg es:aa}{j k:Int}(h:Gq sp lg j k es)(k0:0<=k)(hh:mgbI es (af lg j 0+k)=false):Gq sp lg j (k+1) (muT es (af lg j 0+k)):=by
 have q:∀ A:List Int,A++jL (af lg j 0) (k+1).toNat=A++jL (af lg j 0) k.toNat++[af lg j 0+k]:=fun A=>by rw[rC k0,List.append_assoc]
 exact⟨by rw[q];exact pC h.s,by rw[q];exact fT h.nd (CW h.s hh),h.oks,h.ok⟩
theorem Ho {sp lg es:aa}{j k:Int}(h:Gq sp lg j k es)(j0:0<=j)(hl:lgOk (af lg j 0) (af lg j 1) (af lg j 2)=true)(k1:k<=af lg j 1)(k2:af lg j 1<=k):IC sp lg (j+1) es:=by
 have ek:k.toNat=(af lg j 1).toNat:=by omega
 have q1:=h.s;have q2:=h.nd;rw[ek,List.append_assoc, <-kw j0]at q1 q2;exact⟨q1,q2,h.oks,aP h.ok hl⟩
theorem Hp {sp lg es:aa}{j:Int}(h:IC sp lg j es)(j1:j<=lg.length)(j2:(lg.length:Int)<=j):layOk sp lg=true:=by
 have e:j.toNat=lg.length:=by omega
 have q:=h.nd;rw[e]at q;exact y8 h.oks (Int.le_refl _) h.ok j2 q
theorem Km {b:Bool}(h:(!b)=false):b=true:=by cases b<;>simp_all
theorem Kn {b:Bool}(h:(!b)=true):b=false:=by cases b<;>simp_all
end Go.V
namespace Go.V
def vd (sp:aa)(a i:Int):Bool:=decide (0<=saS (af sp i 0) (af sp i 1) (af sp i 2) a)
def wo (lg:aa)(a i:Int):Bool:=lhB (af lg i 0) (af lg i 1) (af lg i 2) a
def kG (sp:aa)(a:Int):Int:=cf (vd sp a) sp.length
def sU (lg:aa)(a:Int):Int:=cf (wo lg a) lg.length
def EE (sp:aa)(a i:Int):Int:=saS (af sp i 0) (af sp i 1) (af sp i 2) a
def IV (sp:aa)(a i:Int):Int:=saO (af sp i 0) (af sp i 1) (af sp i 2) a
def L4 (lg:aa)(a i:Int):Int:=loI (af lg i 0) (af lg i 1) (af lg i 2) a
def dnK (sp lg:aa)(a:Int):Int:=if 0<=kG sp a then(if hsB (af sp (kG sp a) 2) (EE sp a (kG sp a))then 1 else 2)else if 0<=sU lg a then 3 else 0
def dnI (sp lg:aa)(a:Int):Int:=if 0<=kG sp a then kG sp a else if 0<=sU lg a then sU lg a else 0
def dnS (sp:aa)(a:Int):Int:=if 0<=kG sp a then EE sp a (kG sp a)else 0
def dnO (sp lg:aa)(a:Int):Int:=if 0<=kG sp a then IV sp a (kG sp a)else if 0<=sU lg a then L4 lg a (sU lg a)else 0
def dzK (sp lg:aa)(a:Int):Int:=if layOk sp lg then dnK sp lg a else 0
def dzI (sp lg:aa)(a:Int):Int:=if layOk sp lg then dnI sp lg a else 0
def dzS (sp lg:aa)(a:Int):Int:=if layOk sp lg then dnS sp a else 0
def dzO (sp lg:aa)(a:Int):Int:=if layOk sp lg then dnO sp lg a else 0
theorem Lm {sp:aa}{a i:Int}(h:upto (bY (vd sp a)) i)(hs:saS (af sp i 0) (af sp i 1) (af sp i 2) a<0):upto (bY (vd sp a)) (i+1):=
 aP h (by unfold bY vd;rw[decide_eq_false (by omega)];rfl)
theorem JV {lg:aa}{a i:Int}(h:upto (bY (wo lg a)) i)(hs:lhB (af lg i 0) (af lg i 1) (af lg i 2) a=false):upto (bY (wo lg a)) (i+1):=
 aP h (by unfold bY wo;rw[hs];rfl)
theorem Fy {sp:aa}{a i:Int}(h:upto (bY (vd sp a)) i)(h0:0<=i)(h1:i<sp.length)(hs:0<=saS (af sp i 0) (af sp i 1) (af sp i 2) a):kG sp a=i:=
 cN h h0 h1 (decide_eq_true hs)
theorem Fz {sp:aa}{a i:Int}(h:upto (bY (vd sp a)) i)(h1:(sp.length:Int)<=i):kG sp a= -1:=cO h h1
theorem Jk {lg:aa}{a i:Int}(h:upto (bY (wo lg a)) i)(h0:0<=i)(h1:i<lg.length)(hs:lhB (af lg i 0) (af lg i 1) (af lg i 2) a=true):sU lg a=i:=
 cN h h0 h1 hs
theorem Jl {lg:aa}{a i:Int}(h:upto (bY (wo lg a)) i)(h1:(lg.length:Int)<=i):sU lg a= -1:=cO h h1
def H0 (k i s o:Int):List DV:=[DV.agg [.i k,.i i,.i s,.i o]]
def Dm (sp lg:aa)(a:Int):List DV:=H0 (dnK sp lg a) (dnI sp lg a) (dnS sp a) (dnO sp lg a)
def L2 (sp lg:aa)(a:Int):List DV:=H0 (dzK sp lg a) (dzI sp lg a) (dzS sp lg a) (dzO sp lg a)
theorem NO {sp lg:aa}{a i:Int}(h:upto (bY (vd sp a)) i)(h0:0<=i)(h1:i<sp.length)(hs:0<=saS (af sp i 0) (af sp i 1) (af sp i 2) a)(hh:hsB (af sp i 2) (saS (af sp i 0) (af sp i 1) (af sp i 2) a)=true):
 H0 1 i (saS (af sp i 0) (af sp i 1) (af sp i 2) a) (saO (af sp i 0) (af sp i 1) (af sp i 2) a)=Dm sp lg a:=by
 have e:=Fy h h0 h1 hs;unfold Dm dnK dnI dnS dnO EE IV;rw[e,if_pos h0,if_pos h0,if_pos h0,if_pos h0,hh];rfl
theorem NP {sp lg:aa}{a i:Int}(h:upto (bY (vd sp a)) i)(h0:0<=i)(h1:i<sp.length)(hs:0<=saS (af sp i 0) (af sp i 1) (af sp i 2) a)(hh:hsB (af sp i 2) (saS (af sp i 0) (af sp i 1) (af sp i 2) a)=false):
 H0 2 i (saS (af sp i 0) (af sp i 1) (af sp i 2) a) (saO (af sp i 0) (af sp i 1) (af sp i 2) a)=Dm sp lg a:=by
 have e:=Fy h h0 h1 hs;unfold Dm dnK dnI dnS dnO EE IV;rw[e,if_pos h0,if_pos h0,if_pos h0,if_pos h0,hh];rfl
theorem NQ {sp lg:aa}{a i j:Int}(h:upto (bY (vd sp a)) i)(h1:(sp.length:Int)<=i)(g:upto (bY (wo lg a)) j)(j0:0<=j)(j1:j<lg.length)(hh:lhB (af lg j 0) (af lg j 1) (af lg j 2) a=true):
 H0 3 j 0 (loI (af lg j 0) (af lg j 1) (af lg j 2) a)=Dm sp lg a:=by
 have e:=Fz h h1;have f:=Jk g j0 j1 hh;have n:¬ (0:Int)<= -1:=by omega
 unfold Dm dnK dnI dnS dnO L4;rw[e,f,if_neg n,if_neg n,if_neg n,if_neg n,if_pos j0,if_pos j0,if_pos j0]
theorem NR {sp lg:aa}{a i j:Int}(h:upto (bY (vd sp a)) i)(h1:(sp.length:Int)<=i)(g:upto (bY (wo lg a)) j)(j1:(lg.length:Int)<=j):
 H0 0 0 0 0=Dm sp lg a:=by
 have e:=Fz h h1;have f:=Jl g j1;have n:¬ (0:Int)<= -1:=by omega
 unfold Dm dnK dnI dnS dnO;rw[e,f,if_neg n,if_neg n,if_neg n,if_neg n,if_neg n,if_neg n,if_neg n]
theorem DW {sp lg:aa}{a:Int}(h:layOk sp lg=true):Dm sp lg a=L2 sp lg a:=by
 unfold L2 Dm dzK dzI dzS dzO;rw[if_pos h,if_pos h,if_pos h,if_pos h]
theorem Ml {sp lg:aa}{a:Int}(h:layOk sp lg=false):H0 0 0 0 0=L2 sp lg a:=by
 have n:¬ layOk sp lg=true:=by rw[h];decide
 unfold L2 dzK dzI dzS dzO;rw[if_neg n,if_neg n,if_neg n,if_neg n]
end Go.V
namespace Go.V
def oV (sp lg:aa)(a:Int):Bool:=decide (dzO sp lg a=0)&&(decide (dzK sp lg a=1)||decide (dzK sp lg a=3))
def Do (sp lg:aa):Nat->aa
 |0=>[]
 |n+1=>Do sp lg n++(if oV sp lg n then[[.i n]]else[])
def laL (sp lg:aa):aa:=if layOk sp lg then Do sp lg 512 else[]
structure Ds (sp lg:aa)(i:Int)(o:aa):Prop where
 e:o=Do sp lg i.toNat
 l:o.length<=i.toNat
 y:0<i->layOk sp lg=true
theorem MH {sp lg:aa}:Ds sp lg 0 []:=⟨rfl,Nat.le_refl _,fun h=>absurd h (by omega)⟩
theorem BK {sp lg:aa}{i:Int}(h:0<=i):Do sp lg (i+1).toNat=Do sp lg i.toNat++(if oV sp lg i then[[.i i]]else[]):=by
 rw[show(i+1).toNat=i.toNat+1 from by omega,Do,Int.toNat_of_nonneg h]
theorem BL {sp lg o:aa}{i:Int}(h:Ds sp lg i o)(h0:0<=i)(hl:layOk sp lg=true)(hv:oV sp lg i=true):Ds sp lg (i+1) (o++[[.i i]]):=by
 have e:=h.e;have l:=h.l;refine⟨by rw[BK h0,if_pos hv, <-e],?_,fun _=>hl⟩;rw[List.length_append,List.length_cons,List.length_nil];omega
theorem FI {sp lg o:aa}{i:Int}(h:Ds sp lg i o)(h0:0<=i)(hl:layOk sp lg=true)(hv:oV sp lg i=false):Ds sp lg (i+1) o:=by
 have e:=h.e;have l:=h.l;refine⟨by rw[BK h0,hv, <-e];simp,?_,fun _=>hl⟩;omega
theorem Hy {sp lg o:aa}{i:Int}(h:Ds sp lg i o)(h1:i<=512)(h2:512<=i):o=laL sp lg:=by
 have e:i=512:=by omega
 subst e;unfold laL;rw[if_pos (h.y (by omega))];exact h.e
theorem Hw {sp lg o:aa}{i:Int}(h:Ds sp lg i o)(h0:0<=i)(hl:layOk sp lg=false):o=laL sp lg:=by
 have z:i=0:=by
  by_cases c:0<i
  ·have:=h.y c;rw[hl]at this;cases this
  ·omega
 subst z;unfold laL;rw[hl];exact h.e
theorem J8 {sp lg:aa}{a:Int}(h:dzO sp lg a=0)(k:dzK sp lg a=1):oV sp lg a=true:=by unfold oV;rw[h,k];rfl
theorem J9 {sp lg:aa}{a:Int}(h:dzO sp lg a=0)(k:dzK sp lg a=3):oV sp lg a=true:=by unfold oV;rw[h,k];rfl
theorem J5 {sp lg:aa}{a:Int}(h:dzO sp lg a≠0):oV sp lg a=false:=by unfold oV;rw[decide_eq_false h];rfl
theorem J6 {sp lg:aa}{a:Int}(h:dzK sp lg a≠1)(k:dzK sp lg a≠3):oV sp lg a=false:=by unfold oV;rw[decide_eq_false h,decide_eq_false k,Bool.or_false,Bool.and_false]
theorem hP {a b:aa}(h:a=b):[DV.one (.s 1 a)]=[DV.one (.s 1 b)]:=by rw[h]
end Go.V