/- Contracts. -/
import Derived.Test.YtniaaknbbceigaaGreatHeapCq
set_option linter.all false
namespace Go.V
open Go Go.Proofs
set_option maxRecDepth 1000000
set_option maxHeartbeats 8000000
namespace La0
structure av where
 inR:Int->Int->Int->Bool
 clsSz:Int->Int
abbrev F0 :av:=⟨inR,clsSz⟩
def ct (F:av):CT:=fun f ds=>match f,ds with
 |187,[.one (.v (.int .i64 k))]=>some (fun _=>True,[.k (F.inR k 0 3)])
 |95,[.one (.v (.int .i64 k))]=>some (fun _=>True,[.j (F.clsSz k)])
 |126,[.one (.v (.int .i64 x)),.one (.v (.int .i64 a)),.one (.v (.int .i64 b))]=>some (fun _=>True,[.k (F.inR x a b)])
 |_,_=>none
theorem ah :aO (ct F0):=by
 intro f ds pre res h hp;unfold ct at h;split at h<;>cases h
 exact dH hp;exact ca hp;exact bh hp
abbrev B :ce:=tb ah
end La0
theorem gj {k:Int}(hp:True):ap 251 [.j k] [.j (slN k)]:=by
 refine cb La0.B Tryz.func251 ?_
 intro O r F hO hr hF;cbv
 repeat' first|apply And.intro|(apply be<;>intro hb<;>cbv)
 all_goals(subst hO hr hF;(try simp only[nc]at*);(try simp only[ai,SS,sa,az]at*))
 all_goals first
  | (show(_:List DV)=_
     first
      |exact bJ (GI (by assumption))
      |exact bJ (A0 (by assumption)).symm
      |done)
  |(have:=fD (k:=k) (by assumption);omega)
  |done
theorem sU {k:Int}(hp:True):ap 245 [.j k] [.j (slN k)]:=by
 refine cb La0.B Tryz.func245 ?_
 intro O r F hO hr hF;cbv
 repeat' first|apply And.intro|(apply be<;>intro hb<;>cbv)
 all_goals(subst hO hr hF;(try simp only[nc]at*);(try simp only[ai,SS,sa,az]at*))
 all_goals first
  | (show(_:List DV)=_
     first
      |exact bJ (GJ (by assumption))
      |exact bJ (A0 (by assumption)).symm
      |done)
  |(rcases HL (k:=k) (by assumption)with rfl|rfl|rfl|rfl<;>decide)
  |done
namespace La1
structure av where
 inR:Int->Int->Int->Bool
abbrev F0 :av:=⟨inR⟩
def ct (F:av):CT:=fun f ds=>match f,ds with
 |152,[.one (.v (.int .i64 x)),.one (.v (.int .i64 a)),.one (.v (.int .i64 b))]=>some (fun _=>True,[.k (F.inR x a b)])
 |126,[.one (.v (.int .i64 x)),.one (.v (.int .i64 a)),.one (.v (.int .i64 b))]=>some (fun _=>True,[.k (F.inR x a b)])
 |_,_=>none
theorem ah :aO (ct F0):=by
 intro f ds pre res h hp;unfold ct at h;split at h<;>cases h
 exact aV hp;exact bh hp
abbrev B :ce:=tb ah
end La1
theorem pQ {n b:Int}(hp:True):ap 250 [.j n,.j b] [.k (bmOk n b)]:=by
 refine cb La1.B Tryz.func250 ?_
 intro O r F hO hr hF;cbv
 repeat' first|apply And.intro|(apply be<;>intro hb<;>cbv)
 all_goals(subst hO hr hF;(try simp only[nc]at*);(try simp only[ai,SS,sa,az]at*);(try(have e:=GH (n:=n) (by assumption);simp only[e.1])))
 all_goals first
  | (show(_:List DV)=_
     first
      |exact ag (Eb (by assumption)).symm
      |exact ag (Jq (by assumption)).symm
      |done)
  |(have:=bE.1 (‹inR n 1 16=true›);omega)
  |done
theorem qR {n b:Int}(hp:True):ap 244 [.j n,.j b] [.k (bmOk n b)]:=by
 refine cb La1.B Tryz.func244 ?_
 intro O r F hO hr hF;cbv
 repeat' first|apply And.intro|(apply be<;>intro hb<;>cbv)
 all_goals(subst hO hr hF;(try simp only[nc]at*);(try simp only[ai,SS,sa,az]at*);(try(have e:=GH (n:=n) (by assumption);simp only[e.2.1])))
 all_goals first
  | (show(_:List DV)=_
     first
      |exact ag (Eb (by assumption)).symm
      |exact ag (Jq (by assumption)).symm
      |done)
  |exact(GH (by assumption)).2.2
  |done
namespace La2
structure av where
 inR:Int->Int->Int->Bool
 slN:Int->Int
 bmOk:Int->Int->Bool
abbrev F0 :av:=⟨inR,slN,bmOk⟩
def ct (F:av):CT:=fun f ds=>match f,ds with
 |152,[.one (.v (.int .i64 x)),.one (.v (.int .i64 a)),.one (.v (.int .i64 b))]=>some (fun _=>True,[.k (F.inR x a b)])
 |187,[.one (.v (.int .i64 k))]=>some (fun _=>True,[.k (F.inR k 0 3)])
 |251,[.one (.v (.int .i64 k))]=>some (fun _=>True,[.j (F.slN k)])
 |250,[.one (.v (.int .i64 n)),.one (.v (.int .i64 b))]=>some (fun _=>True,[.k (F.bmOk n b)])
 |126,[.one (.v (.int .i64 x)),.one (.v (.int .i64 a)),.one (.v (.int .i64 b))]=>some (fun _=>True,[.k (F.inR x a b)])
 |245,[.one (.v (.int .i64 k))]=>some (fun _=>True,[.j (F.slN k)])
 |244,[.one (.v (.int .i64 n)),.one (.v (.int .i64 b))]=>some (fun _=>True,[.k (F.bmOk n b)])
 |_,_=>none
theorem ah :aO (ct F0):=by
 intro f ds pre res h hp;unfold ct at h;split at h<;>cases h
 exact aV hp;exact dH hp;exact gj hp;exact pQ hp;exact bh hp;exact sU hp;exact qR hp
abbrev B :ce:=tb ah
end La2
theorem fj {p k b:Int}(hp:True):ap 216 [.agg [.i p,.i k,.i b]] [.k (spOk p k b)]:=by
 refine cb La2.B Tryz.func216 ?_
 intro O r F hO hr hF;cbv
 repeat' first|apply And.intro|(apply be<;>intro hb<;>cbv)
 all_goals(subst hO hr hF;(try simp only[nc]at*);(try simp only[ai,SS,sa,az]at*))
 all_goals first
  | (show(_:List DV)=_
     first
      |exact ag (GO (by assumption)).symm
      |exact ag (GN (by assumption)).symm
      |exact ag (Nh (by assumption)).symm
      |done)
  |(show aU _ _=true;kernel_rfl)
  |done
theorem fo {p k b:Int}(hp:True):ap 200 [.agg [.i p,.i k,.i b]] [.k (spOk p k b)]:=by
 refine cb La2.B Tryz.func200 ?_
 intro O r F hO hr hF;cbv
 repeat' first|apply And.intro|(apply be<;>intro hb<;>cbv)
 all_goals(subst hO hr hF;(try simp only[nc]at*);(try simp only[ai,SS,sa,az]at*))
 all_goals first
  | (show(_:List DV)=_
     first
      |exact ag (GO (by assumption)).symm
      |exact ag (GN (by assumption)).symm
      |done)
  |(show aU _ _=true;kernel_rfl)
  |done
theorem pV {s:Int}(hp:True):ap 252 [.j s] [.j (pfN s)]:=by
 refine cb La1.B Tryz.func252 ?_
 exact Rr
theorem qW {s:Int}(hp:True):ap 246 [.j s] [.j (pfN s)]:=by
 refine cb La1.B Tryz.func246 ?_
 exact Rr
namespace La3
structure av where
 inR:Int->Int->Int->Bool
 pfN:Int->Int
abbrev F0 :av:=⟨inR,pfN⟩
def ct (F:av):CT:=fun f ds=>match f,ds with
 |152,[.one (.v (.int .i64 x)),.one (.v (.int .i64 a)),.one (.v (.int .i64 b))]=>some (fun _=>True,[.k (F.inR x a b)])
 |252,[.one (.v (.int .i64 s))]=>some (fun _=>True,[.j (F.pfN s)])
 |246,[.one (.v (.int .i64 s))]=>some (fun _=>True,[.j (F.pfN s)])
 |126,[.one (.v (.int .i64 x)),.one (.v (.int .i64 a)),.one (.v (.int .i64 b))]=>some (fun _=>True,[.k (F.inR x a b)])
 |_,_=>none
theorem ah :aO (ct F0):=by
 intro f ds pre res h hp;unfold ct at h;split at h<;>cases h
 exact aV hp;exact pV hp;exact qW hp;exact bh hp
abbrev B :ce:=tb ah
end La3
theorem j5 {p n s:Int}(hp:True):ap 217 [.agg [.i p,.i n,.i s]] [.k (lgOk p n s)]:=by
 refine cb La3.B Tryz.func217 ?_
 intro O r F hO hr hF;cbv
 repeat' first|apply And.intro|(apply be<;>intro hb<;>cbv)
 all_goals(subst hO hr hF;(try simp only[nc]at*);(try simp only[ai,SS,sa,az]at*))
 all_goals first
  | (show(_:List DV)=_
     first
      |(have b:=gP (s:=s) (by assumption);rw[show bu .sub .i64 32 n=32-n from cL (by omega)];exact ag (Fo (by assumption) (by assumption)).symm)
      |exact ag (Fj (by assumption)).symm
      |exact ag (Fl (by assumption)).symm
      |done)
  |(show aU _ _=true;kernel_rfl)
  |done
theorem j9 {p n s:Int}(hp:True):ap 202 [.agg [.i p,.i n,.i s]] [.k (lgOk p n s)]:=by
 refine cb La3.B Tryz.func202 ?_
 intro O r F hO hr hF;cbv
 repeat' first|apply And.intro|(apply be<;>intro hb<;>cbv)
 all_goals(subst hO hr hF;(try simp only[nc]at*);(try simp only[ai,SS,sa,az]at*))
 all_goals first
  | (show(_:List DV)=_
     first
      |(have q:=Gb.1 (‹0<pfN s›);have b:=gP q;rw[show bu .sub .i64 32 (pfN s)=32-pfN s from cL (by omega), ‹n=pfN s›];exact ag (Fo q rfl).symm)
      |(refine ag (Fj ?_).symm;cases q:inR s 9 1000;rfl;have:=Gb.2 q;omega)
      |exact ag (Fl (by assumption)).symm
      |done)
  |done
namespace La4
structure av where
 inR:Int->Int->Int->Bool
 spOk:Int->Int->Int->Bool
 clsSz:Int->Int
 slN:Int->Int
 lgOk:Int->Int->Int->Bool
abbrev F0 :av:=⟨inR,spOk,clsSz,slN,lgOk⟩
def ct (F:av):CT:=fun f ds=>match f,ds with
 |152,[.one (.v (.int .i64 x)),.one (.v (.int .i64 a)),.one (.v (.int .i64 b))]=>some (fun _=>True,[.k (F.inR x a b)])
 |216,[.agg [.v (.int .i64 p),.v (.int .i64 k),.v (.int .i64 b)]]=>some (fun _=>True,[.k (F.spOk p k b)])
 |95,[.one (.v (.int .i64 k))]=>some (fun _=>True,[.j (F.clsSz k)])
 |251,[.one (.v (.int .i64 k))]=>some (fun _=>True,[.j (F.slN k)])
 |217,[.agg [.v (.int .i64 p),.v (.int .i64 n),.v (.int .i64 s)]]=>some (fun _=>True,[.k (F.lgOk p n s)])
 |200,[.agg [.v (.int .i64 p),.v (.int .i64 k),.v (.int .i64 b)]]=>some (fun _=>True,[.k (F.spOk p k b)])
 |76,[.one (.v (.int .i64 k))]=>some (fun _=>True,[.j (F.clsSz k)])
 |202,[.agg [.v (.int .i64 p),.v (.int .i64 n),.v (.int .i64 s)]]=>some (fun _=>True,[.k (F.lgOk p n s)])
 |_,_=>none
theorem ah :aO (ct F0):=by
 intro f ds pre res h hp;unfold ct at h;split at h<;>cases h
 exact aV hp;exact fj hp;exact ca hp;exact gj hp;exact j5 hp;exact fo hp;exact cp hp;exact j9 hp
abbrev B :ce:=tb ah
end La4
theorem uM {p k b a:Int}(hp:True):ap 188 [.agg [.i p,.i k,.i b],.j a] [.j (saS p k b a),.j (saO p k b a)]:=by
 refine cb La4.B Tryz.func188 ?_
 intro O r F hO hr hF;cbv
 repeat' first|apply And.intro|(apply be<;>intro hb<;>cbv)
 all_goals(subst hO hr hF;(try simp only[nc]at*);(try simp only[ai,SS,sa,az]at*);(try(have t:=fh (p:=p) (k:=k) (b:=b) (by assumption);have c:=fD t.2.2.1;have e:=P8 (p:=p) ⟨t.1,t.2.1⟩;try simp only[e.1,e.2]at*)))
 all_goals first
  | (show(_:List DV)=_
     first
      |(have q:=II (p:=p) (k:=k) (b:=b) (a:=a) (by assumption) (by assumption);exact gW q.1.symm q.2.symm)
      |(have q:=wh (KI (p:=p) (k:=k) (b:=b) (a:=a) (by assumption));exact gW q.1.symm q.2.symm)
      |(have q:=wh (QO (p:=p) (k:=k) (b:=b) (a:=a) (by assumption));exact gW q.1.symm q.2.symm)
      |done)
  |(show aU _ _=true;kernel_rfl)
  |omega
  |done
theorem vm {p k b a:Int}(hp:(-9223372036854775808<=a/\a<=9223372036854775807)):ap 173 [.agg [.i p,.i k,.i b],.j a] [.j (saS p k b a),.j (saO p k b a)]:=by
 refine cb La4.B Tryz.func173 ?_
 intro O r F hO hr hF;cbv
 repeat' first|apply And.intro|(apply be<;>intro hb<;>cbv)
 all_goals(subst hO hr hF;(try simp only[nc]at*);(try simp only[ai,SS,sa,az]at*);(try(have t:=fh (p:=p) (k:=k) (b:=b) (by assumption);have c:=fD t.2.2.1)))
 all_goals first
  | (show(_:List DV)=_
     first
      |(have q:=IJ (p:=p) (k:=k) (b:=b) (a:=a) (by assumption) (by omega) (by assumption) (by omega);exact gW q.1.symm q.2.symm)
      |(have q:=wh (KI (p:=p) (k:=k) (b:=b) (a:=a) (by assumption));exact gW q.1.symm q.2.symm)
      |(have q:=wh (KJ (p:=p) (k:=k) (b:=b) (a:=a) (.inl (by omega)) (by omega));exact gW q.1.symm q.2.symm)
      |(have q:=wh (KJ (p:=p) (k:=k) (b:=b) (a:=a) (.inr (by assumption)) (by omega));exact gW q.1.symm q.2.symm)
      |done)
  |(show aU _ _=true;kernel_rfl)
  |omega
  |done
theorem pY {p k b s:Int}(hp:True):ap 256 [.agg [.i p,.i k,.i b],.j s] [.j (aaI p k b s)]:=by
 refine cb La4.B Tryz.func256 ?_
 intro O r F hO hr hF;cbv
 repeat' first|apply And.intro|(apply be<;>intro hb<;>cbv)
 all_goals(subst hO hr hF;(try simp only[nc]at*);(try simp only[ai,SS,sa,az]at*);(try(have t:=fh (p:=p) (k:=k) (b:=b) (by assumption);have c:=fD t.2.2.1;have e:bu .sub .i64 (slN k) 1=slN k-1:=cL (by omega);try simp only[e]at*)))
 all_goals first
  | (show(_:List DV)=_
     first
      |exact bJ (La (by assumption) (by assumption))
      |exact bJ (Jn (.inl (by assumption))).symm
      |exact bJ (Jn (.inr (by assumption))).symm
      |done)
  |(show aU _ _=true;kernel_rfl)
  |done
theorem fL {p n s a:Int}(hp:True):ap 182 [.agg [.i p,.i n,.i s],.j a] [.k (lhB p n s a)]:=by
 refine cb La4.B Tryz.func182 ?_
 intro O r F hO hr hF;cbv
 repeat' first|apply And.intro|(apply be<;>intro hb<;>cbv)
 all_goals(subst hO hr hF;(try simp only[nc]at*);(try simp only[ai,SS,sa,az]at*);(try(have e:=Fp (p:=p) (n:=n) (s:=s) (by assumption);try simp only[e.2.2])))
 all_goals first
  | (show(_:List DV)=_
     first
      |(rw[e.1];exact ag (AB (by assumption)).symm)
      |exact ag (Fq (by assumption)).symm
      |done)
  |done
theorem jE {p n s a:Int}(hp:True):ap 174 [.agg [.i p,.i n,.i s],.j a] [.k (lhB p n s a)]:=by
 refine cb La4.B Tryz.func174 ?_
 intro O r F hO hr hF;cbv
 repeat' first|apply And.intro|(apply be<;>intro hb<;>cbv)
 all_goals(subst hO hr hF;(try simp only[nc]at*);(try simp only[ai,SS,sa,az]at*);(try(have e:=Fp (p:=p) (n:=n) (s:=s) (by assumption);try simp only[e.1]at*)))
 all_goals first
  | (show(_:List DV)=_
     first
      |exact ag (Fq (by assumption)).symm
      |(refine ag (ec ?_);rw[AB (by assumption),bE];simp only[SS,cg,decide_eq_true_eq];omega)
      |(refine ag (ec ?_);rw[AB (by assumption),bE];simp only[Bool.false_eq_true,false_iff];omega)
      |done)
  |done
namespace La5
structure av where
 lhB:Int->Int->Int->Int->Bool
abbrev F0 :av:=⟨lhB⟩
def ct (F:av):CT:=fun f ds=>match f,ds with
 |182,[.agg [.v (.int .i64 p),.v (.int .i64 n),.v (.int .i64 s)],.one (.v (.int .i64 a))]=>some (fun _=>True,[.k (F.lhB p n s a)])
 |174,[.agg [.v (.int .i64 p),.v (.int .i64 n),.v (.int .i64 s)],.one (.v (.int .i64 a))]=>some (fun _=>True,[.k (F.lhB p n s a)])
 |_,_=>none
theorem ah :aO (ct F0):=by
 intro f ds pre res h hp;unfold ct at h;split at h<;>cases h
 exact fL hp;exact jE hp
abbrev B :ce:=tb ah
end La5
theorem lL {p n s a:Int}(hp:True):ap 190 [.agg [.i p,.i n,.i s],.j a] [.j (loI p n s a)]:=by
 refine cb La5.B Tryz.func190 ?_
 exact Rs
theorem lP {p n s a:Int}(hp:True):ap 175 [.agg [.i p,.i n,.i s],.j a] [.j (loI p n s a)]:=by
 refine cb La5.B Tryz.func175 ?_
 exact Rs
end Go.V