/- Contracts. -/
import Derived.Test.YtbedjnlfdopeeaaGreatXHeapCu
set_option linter.all false
open Go
open And renaming intro->Zb
open IntKind renaming i64->Za
namespace Go.V
open Go Go.Proofs
set_option maxRecDepth 1000000
set_option maxHeartbeats 8000000
namespace La0
structure aP where
 inR:Int->Int->Int->Bool
 clsSz:Int->Int
abbrev F0:aP:=⟨inR,clsSz⟩
def ct (F:aP):CT:=fun f ds=>match f,ds with
 |193,[.one (.v (.int Za k))]=>some (fun _=>True,[.k (F.inR k 0 3)])
 |84,[.one (.v (.int Za k))]=>some (fun _=>True,[.j (F.clsSz k)])
 |28,[.one (.v (.int Za x)),.one (.v (.int Za a)),.one (.v (.int Za b))]=>some (fun _=>True,[.k (F.inR x a b)])
 |_,_=>none
theorem aj:aT (ct F0):=by
 intro f ds pre res h hp;unfold ct at h;split at h<;>cases h
 exact dM hp;exact cz hp;exact be hp
abbrev B:cF:=tb aj
end La0
theorem gr {k:Int}(hp:True):ap 290 [.j k] [.j (slN k)]:=by
 refine cb La0.B Tryz.func290 ?_
 intro O r F hO hr hF;cbv
 repeat' first|apply Zb|(apply bu<;>intro hb<;>cbv)
 all_goals(subst hO hr hF;(try simp only[nc]at*);(try simp only[ak,SS,sa,az]at*))
 all_goals first
  | (show(_:List DV)=_
     first
      |exact cT (Hj (by assumption))
      |exact cT (Cb (by assumption)).symm
      |done)
  |(have:=gC (k:=k) (by assumption);omega)
  |done
theorem tE {k:Int}(hp:True):ap 333 [.j k] [.j (slN k)]:=by
 refine cb La0.B Tryz.func333 ?_
 intro O r F hO hr hF;cbv
 repeat' first|apply Zb|(apply bu<;>intro hb<;>cbv)
 all_goals(subst hO hr hF;(try simp only[nc]at*);(try simp only[ak,SS,sa,az]at*))
 all_goals first
  | (show(_:List DV)=_
     first
      |exact cT (Hk (by assumption))
      |exact cT (Cb (by assumption)).symm
      |done)
  |(rcases Ie (k:=k) (by assumption)with rfl|rfl|rfl|rfl<;>decide)
  |done
namespace La1
structure aP where
 inR:Int->Int->Int->Bool
abbrev F0:aP:=⟨inR⟩
def ct (F:aP):CT:=fun f ds=>match f,ds with
 |41,[.one (.v (.int Za x)),.one (.v (.int Za a)),.one (.v (.int Za b))]=>some (fun _=>True,[.k (F.inR x a b)])
 |28,[.one (.v (.int Za x)),.one (.v (.int Za a)),.one (.v (.int Za b))]=>some (fun _=>True,[.k (F.inR x a b)])
 |_,_=>none
theorem aj:aT (ct F0):=by
 intro f ds pre res h hp;unfold ct at h;split at h<;>cases h
 exact bc hp;exact be hp
abbrev B:cF:=tb aj
end La1
theorem qa {n b:Int}(hp:True):ap 316 [.j n,.j b] [.k (bmOk n b)]:=by
 refine cb La1.B Tryz.func316 ?_
 intro O r F hO hr hF;cbv
 repeat' first|apply Zb|(apply bu<;>intro hb<;>cbv)
 all_goals(subst hO hr hF;(try simp only[nc]at*);(try simp only[ak,SS,sa,az]at*);(try(have e:=Hi (n:=n) (by assumption);simp only[e.1])))
 all_goals first
  | (show(_:List DV)=_
     first
      |exact ai (EW (by assumption)).symm
      |exact ai (JP (by assumption)).symm
      |done)
  |(have:=bB.1 (‹inR n 1 16=true›);omega)
  |done
theorem rr {n b:Int}(hp:True):ap 332 [.j n,.j b] [.k (bmOk n b)]:=by
 refine cb La1.B Tryz.func332 ?_
 intro O r F hO hr hF;cbv
 repeat' first|apply Zb|(apply bu<;>intro hb<;>cbv)
 all_goals(subst hO hr hF;(try simp only[nc]at*);(try simp only[ak,SS,sa,az]at*);(try(have e:=Hi (n:=n) (by assumption);simp only[e.2.1])))
 all_goals first
  | (show(_:List DV)=_
     first
      |exact ai (EW (by assumption)).symm
      |exact ai (JP (by assumption)).symm
      |done)
  |exact(Hi (by assumption)).2.2
  |done
namespace La2
structure aP where
 inR:Int->Int->Int->Bool
 slN:Int->Int
 bmOk:Int->Int->Bool
abbrev F0:aP:=⟨inR,slN,bmOk⟩
def ct (F:aP):CT:=fun f ds=>match f,ds with
 |41,[.one (.v (.int Za x)),.one (.v (.int Za a)),.one (.v (.int Za b))]=>some (fun _=>True,[.k (F.inR x a b)])
 |193,[.one (.v (.int Za k))]=>some (fun _=>True,[.k (F.inR k 0 3)])
 |290,[.one (.v (.int Za k))]=>some (fun _=>True,[.j (F.slN k)])
 |316,[.one (.v (.int Za n)),.one (.v (.int Za b))]=>some (fun _=>True,[.k (F.bmOk n b)])
 |28,[.one (.v (.int Za x)),.one (.v (.int Za a)),.one (.v (.int Za b))]=>some (fun _=>True,[.k (F.inR x a b)])
 |333,[.one (.v (.int Za k))]=>some (fun _=>True,[.j (F.slN k)])
 |332,[.one (.v (.int Za n)),.one (.v (.int Za b))]=>some (fun _=>True,[.k (F.bmOk n b)])
 |_,_=>none
theorem aj:aT (ct F0):=by
 intro f ds pre res h hp;unfold ct at h;split at h<;>cases h
 exact bc hp;exact dM hp;exact gr hp;exact qa hp;exact be hp;exact tE hp;exact rr hp
abbrev B:cF:=tb aj
end La2
theorem ew {p k b:Int}(hp:True):ap 227 [.agg [.i p,.i k,.i b]] [.k (spOk p k b)]:=by
 refine cb La2.B Tryz.func227 ?_
 intro O r F hO hr hF;cbv
 repeat' first|apply Zb|(apply bu<;>intro hb<;>cbv)
 all_goals(subst hO hr hF;(try simp only[nc]at*);(try simp only[ak,SS,sa,az]at*))
 all_goals first
  | (show(_:List DV)=_
     first
      |exact ai (Ho (by assumption)).symm
      |exact ai (Hn (by assumption)).symm
      |exact ai (NP (by assumption)).symm
      |done)
  |(show aV _ _=true;kernel_rfl)
  |done
theorem ez {p k b:Int}(hp:True):ap 259 [.agg [.i p,.i k,.i b]] [.k (spOk p k b)]:=by
 refine cb La2.B Tryz.func259 ?_
 intro O r F hO hr hF;cbv
 repeat' first|apply Zb|(apply bu<;>intro hb<;>cbv)
 all_goals(subst hO hr hF;(try simp only[nc]at*);(try simp only[ak,SS,sa,az]at*))
 all_goals first
  | (show(_:List DV)=_
     first
      |exact ai (Ho (by assumption)).symm
      |exact ai (Hn (by assumption)).symm
      |done)
  |(show aV _ _=true;kernel_rfl)
  |done
theorem qh {s:Int}(hp:True):ap 205 [.j s] [.j (pfN s)]:=by
 refine cb La1.B Tryz.func205 ?_
 exact SV
theorem rA {s:Int}(hp:True):ap 286 [.j s] [.j (pfN s)]:=by
 refine cb La1.B Tryz.func286 ?_
 exact SV
namespace La3
structure aP where
 inR:Int->Int->Int->Bool
 pfN:Int->Int
abbrev F0:aP:=⟨inR,pfN⟩
def ct (F:aP):CT:=fun f ds=>match f,ds with
 |41,[.one (.v (.int Za x)),.one (.v (.int Za a)),.one (.v (.int Za b))]=>some (fun _=>True,[.k (F.inR x a b)])
 |205,[.one (.v (.int Za s))]=>some (fun _=>True,[.j (F.pfN s)])
 |286,[.one (.v (.int Za s))]=>some (fun _=>True,[.j (F.pfN s)])
 |28,[.one (.v (.int Za x)),.one (.v (.int Za a)),.one (.v (.int Za b))]=>some (fun _=>True,[.k (F.inR x a b)])
 |_,_=>none
theorem aj:aT (ct F0):=by
 intro f ds pre res h hp;unfold ct at h;split at h<;>cases h
 exact bc hp;exact qh hp;exact rA hp;exact be hp
abbrev B:cF:=tb aj
end La3
theorem j4 {p n s:Int}(hp:True):ap 228 [.agg [.i p,.i n,.i s]] [.k (lgOk p n s)]:=by
 refine cb La3.B Tryz.func228 ?_
 intro O r F hO hr hF;cbv
 repeat' first|apply Zb|(apply bu<;>intro hb<;>cbv)
 all_goals(subst hO hr hF;(try simp only[nc]at*);(try simp only[ak,SS,sa,az]at*))
 all_goals first
  | (show(_:List DV)=_
     first
      |(have b:=gV (s:=s) (by assumption);rw[show bK .sub Za 32 n=32-n from cN (by omega)];exact ai (Gb (by assumption) (by assumption)).symm)
      |exact ai (F9 (by assumption)).symm
      |exact ai (Ga (by assumption)).symm
      |done)
  |(show aV _ _=true;kernel_rfl)
  |done
theorem j7 {p n s:Int}(hp:True):ap 261 [.agg [.i p,.i n,.i s]] [.k (lgOk p n s)]:=by
 refine cb La3.B Tryz.func261 ?_
 intro O r F hO hr hF;cbv
 repeat' first|apply Zb|(apply bu<;>intro hb<;>cbv)
 all_goals(subst hO hr hF;(try simp only[nc]at*);(try simp only[ak,SS,sa,az]at*))
 all_goals first
  | (show(_:List DV)=_
     first
      |(have q:=GN.1 (‹0<pfN s›);have b:=gV q;rw[show bK .sub Za 32 (pfN s)=32-pfN s from cN (by omega), ‹n=pfN s›];exact ai (Gb q rfl).symm)
      |(refine ai (F9 ?_).symm;cases q:inR s 9 1000;rfl;have:=GN.2 q;omega)
      |exact ai (Ga (by assumption)).symm
      |done)
  |done
namespace La4
structure aP where
 inR:Int->Int->Int->Bool
 spOk:Int->Int->Int->Bool
 clsSz:Int->Int
 slN:Int->Int
 lgOk:Int->Int->Int->Bool
abbrev F0:aP:=⟨inR,spOk,clsSz,slN,lgOk⟩
def ct (F:aP):CT:=fun f ds=>match f,ds with
 |41,[.one (.v (.int Za x)),.one (.v (.int Za a)),.one (.v (.int Za b))]=>some (fun _=>True,[.k (F.inR x a b)])
 |227,[.agg [.v (.int Za p),.v (.int Za k),.v (.int Za b)]]=>some (fun _=>True,[.k (F.spOk p k b)])
 |84,[.one (.v (.int Za k))]=>some (fun _=>True,[.j (F.clsSz k)])
 |290,[.one (.v (.int Za k))]=>some (fun _=>True,[.j (F.slN k)])
 |228,[.agg [.v (.int Za p),.v (.int Za n),.v (.int Za s)]]=>some (fun _=>True,[.k (F.lgOk p n s)])
 |259,[.agg [.v (.int Za p),.v (.int Za k),.v (.int Za b)]]=>some (fun _=>True,[.k (F.spOk p k b)])
 |183,[.one (.v (.int Za k))]=>some (fun _=>True,[.j (F.clsSz k)])
 |261,[.agg [.v (.int Za p),.v (.int Za n),.v (.int Za s)]]=>some (fun _=>True,[.k (F.lgOk p n s)])
 |_,_=>none
theorem aj:aT (ct F0):=by
 intro f ds pre res h hp;unfold ct at h;split at h<;>cases h
 exact bc hp;exact ew hp;exact cz hp;exact gr hp;exact j4 hp;exact ez hp;exact du hp;exact j7 hp
abbrev B:cF:=tb aj
end La4
theorem vT {p k b a:Int}(hp:True):ap 241 [.agg [.i p,.i k,.i b],.j a] [.j (saS p k b a),.j (saO p k b a)]:=by
 refine cb La4.B Tryz.func241 ?_
 intro O r F hO hr hF;cbv
 repeat' first|apply Zb|(apply bu<;>intro hb<;>cbv)
 all_goals(subst hO hr hF;(try simp only[nc]at*);(try simp only[ak,SS,sa,az]at*);(try(have t:=gW (p:=p) (k:=k) (b:=b) (by assumption);have c:=gC t.2.2.1;have e:=QY (p:=p) ⟨t.1,t.2.1⟩;try simp only[e.1,e.2]at*)))
 all_goals first
  | (show(_:List DV)=_
     first
      |(have q:=Jf (p:=p) (k:=k) (b:=b) (a:=a) (by assumption) (by assumption);exact ug q.1.symm q.2.symm)
      |(have q:=xH (K8 (p:=p) (k:=k) (b:=b) (a:=a) (by assumption));exact ug q.1.symm q.2.symm)
      |(have q:=xH (RP (p:=p) (k:=k) (b:=b) (a:=a) (by assumption));exact ug q.1.symm q.2.symm)
      |done)
  |(show aV _ _=true;kernel_rfl)
  |omega
  |done
theorem lK {p k b a:Int}(hp:(-9223372036854775808<=a/\a<=9223372036854775807)):ap 213 [.agg [.i p,.i k,.i b],.j a] [.j (saS p k b a),.j (saO p k b a)]:=by
 refine cb La4.B Tryz.func213 ?_
 intro O r F hO hr hF;cbv
 repeat' first|apply Zb|(apply bu<;>intro hb<;>cbv)
 all_goals(subst hO hr hF;(try simp only[nc]at*);(try simp only[ak,SS,sa,az]at*);(try(have t:=gW (p:=p) (k:=k) (b:=b) (by assumption);have c:=gC t.2.2.1)))
 all_goals first
  | (show(_:List DV)=_
     first
      |(have q:=Jg (p:=p) (k:=k) (b:=b) (a:=a) (by assumption) (by omega) (by assumption) (by omega);exact ug q.1.symm q.2.symm)
      |(have q:=xH (K8 (p:=p) (k:=k) (b:=b) (a:=a) (by assumption));exact ug q.1.symm q.2.symm)
      |(have q:=xH (K9 (p:=p) (k:=k) (b:=b) (a:=a) (.inl (by omega)) (by omega));exact ug q.1.symm q.2.symm)
      |(have q:=xH (K9 (p:=p) (k:=k) (b:=b) (a:=a) (.inr (by assumption)) (by omega));exact ug q.1.symm q.2.symm)
      |done)
  |(show aV _ _=true;kernel_rfl)
  |omega
  |done
theorem qm {p k b s:Int}(hp:True):ap 294 [.agg [.i p,.i k,.i b],.j s] [.j (aaI p k b s)]:=by
 refine cb La4.B Tryz.func294 ?_
 intro O r F hO hr hF;cbv
 repeat' first|apply Zb|(apply bu<;>intro hb<;>cbv)
 all_goals(subst hO hr hF;(try simp only[nc]at*);(try simp only[ak,SS,sa,az]at*);(try(have t:=gW (p:=p) (k:=k) (b:=b) (by assumption);have c:=gC t.2.2.1;have e:bK .sub Za (slN k) 1=slN k-1:=cN (by omega);try simp only[e]at*)))
 all_goals first
  | (show(_:List DV)=_
     first
      |exact cT (LI (by assumption) (by assumption))
      |exact cT (JM (.inl (by assumption))).symm
      |exact cT (JM (.inr (by assumption))).symm
      |done)
  |(show aV _ _=true;kernel_rfl)
  |done
theorem jE {p n s a:Int}(hp:True):ap 243 [.agg [.i p,.i n,.i s],.j a] [.k (lhB p n s a)]:=by
 refine cb La4.B Tryz.func243 ?_
 intro O r F hO hr hF;cbv
 repeat' first|apply Zb|(apply bu<;>intro hb<;>cbv)
 all_goals(subst hO hr hF;(try simp only[nc]at*);(try simp only[ak,SS,sa,az]at*);(try(have e:=Gc (p:=p) (n:=n) (s:=s) (by assumption);try simp only[e.2.2])))
 all_goals first
  | (show(_:List DV)=_
     first
      |(rw[e.1];exact ai (BJ (by assumption)).symm)
      |exact ai (Gd (by assumption)).symm
      |done)
  |done
theorem jK {p n s a:Int}(hp:True):ap 334 [.agg [.i p,.i n,.i s],.j a] [.k (lhB p n s a)]:=by
 refine cb La4.B Tryz.func334 ?_
 intro O r F hO hr hF;cbv
 repeat' first|apply Zb|(apply bu<;>intro hb<;>cbv)
 all_goals(subst hO hr hF;(try simp only[nc]at*);(try simp only[ak,SS,sa,az]at*);(try(have e:=Gc (p:=p) (n:=n) (s:=s) (by assumption);try simp only[e.1]at*)))
 all_goals first
  | (show(_:List DV)=_
     first
      |exact ai (Gd (by assumption)).symm
      |(refine ai (er ?_);rw[BJ (by assumption),bB];simp only[SS,cA,aa2];omega)
      |(refine ai (er ?_);rw[BJ (by assumption),bB];simp only[Bool.false_eq_true,false_iff];omega)
      |done)
  |done
namespace La5
structure aP where
 lhB:Int->Int->Int->Int->Bool
abbrev F0:aP:=⟨lhB⟩
def ct (F:aP):CT:=fun f ds=>match f,ds with
 |243,[.agg [.v (.int Za p),.v (.int Za n),.v (.int Za s)],.one (.v (.int Za a))]=>some (fun _=>True,[.k (F.lhB p n s a)])
 |334,[.agg [.v (.int Za p),.v (.int Za n),.v (.int Za s)],.one (.v (.int Za a))]=>some (fun _=>True,[.k (F.lhB p n s a)])
 |_,_=>none
theorem aj:aT (ct F0):=by
 intro f ds pre res h hp;unfold ct at h;split at h<;>cases h
 exact jE hp;exact jK hp
abbrev B:cF:=tb aj
end La5
theorem lQ {p n s a:Int}(hp:True):ap 244 [.agg [.i p,.i n,.i s],.j a] [.j (loI p n s a)]:=by
 refine cb La5.B Tryz.func244 ?_
 exact SX
theorem lW {p n s a:Int}(hp:True):ap 335 [.agg [.i p,.i n,.i s],.j a] [.j (loI p n s a)]:=by
 refine cb La5.B Tryz.func335 ?_
 exact SX
end Go.V