/- Contracts. -/
import Derived.Test.YtcodmgmliopheaaGreatHeapCt
set_option linter.all false
namespace Go.V
open Go Go.Proofs
set_option maxRecDepth 1000000
set_option maxHeartbeats 8000000
namespace La0
structure aQ where
 inR:Int->Int->Int->Bool
 clsSz:Int->Int
abbrev F0 :aQ:=⟨inR,clsSz⟩
def ct (F:aQ):CT:=fun f ds=>match f,ds with
 |245,[.one (.v (.int .i64 k))]=>some (fun _=>True,[.k (F.inR k 0 3)])
 |114,[.one (.v (.int .i64 k))]=>some (fun _=>True,[.j (F.clsSz k)])
 |89,[.one (.v (.int .i64 x)),.one (.v (.int .i64 a)),.one (.v (.int .i64 b))]=>some (fun _=>True,[.k (F.inR x a b)])
 |_,_=>none
theorem ah :aR (ct F0):=by
 intro f ds pre res h hp;unfold ct at h;split at h<;>cases h
 exact dE hp;exact cJ hp;exact bc hp
abbrev B :cq:=tb ah
end La0
theorem ga {k:Int}(hp:True):ap 352 [.j k] [.j (slN k)]:=by
 refine cb La0.B Tryz.func352 ?_
 intro O r F hO hr hF;cbv
 repeat' first|apply And.intro|(apply bi<;>intro hb<;>cbv)
 all_goals(subst hO hr hF;(try simp only[nc]at*);(try simp only[ai,SS,sa,az]at*))
 all_goals first
  | (show(_:List DV)=_
     first
      |exact cM (Hw (by assumption))
      |exact cM (B0 (by assumption)).symm
      |done)
  |(have:=gn (k:=k) (by assumption);omega)
  |done
theorem tH {k:Int}(hp:True):ap 370 [.j k] [.j (slN k)]:=by
 refine cb La0.B Tryz.func370 ?_
 intro O r F hO hr hF;cbv
 repeat' first|apply And.intro|(apply bi<;>intro hb<;>cbv)
 all_goals(subst hO hr hF;(try simp only[nc]at*);(try simp only[ai,SS,sa,az]at*))
 all_goals first
  | (show(_:List DV)=_
     first
      |exact cM (Hy (by assumption))
      |exact cM (B0 (by assumption)).symm
      |done)
  |(rcases Iv (k:=k) (by assumption)with rfl|rfl|rfl|rfl<;>decide)
  |done
namespace La1
structure aQ where
 inR:Int->Int->Int->Bool
abbrev F0 :aQ:=⟨inR⟩
def ct (F:aQ):CT:=fun f ds=>match f,ds with
 |91,[.one (.v (.int .i64 x)),.one (.v (.int .i64 a)),.one (.v (.int .i64 b))]=>some (fun _=>True,[.k (F.inR x a b)])
 |89,[.one (.v (.int .i64 x)),.one (.v (.int .i64 a)),.one (.v (.int .i64 b))]=>some (fun _=>True,[.k (F.inR x a b)])
 |_,_=>none
theorem ah :aR (ct F0):=by
 intro f ds pre res h hp;unfold ct at h;split at h<;>cases h
 exact aU hp;exact bc hp
abbrev B :cq:=tb ah
end La1
theorem qi {n b:Int}(hp:True):ap 381 [.j n,.j b] [.k (bmOk n b)]:=by
 refine cb La1.B Tryz.func381 ?_
 intro O r F hO hr hF;cbv
 repeat' first|apply And.intro|(apply bi<;>intro hb<;>cbv)
 all_goals(subst hO hr hF;(try simp only[nc]at*);(try simp only[ai,SS,sa,az]at*);(try(have e:=Ht (n:=n) (by assumption);simp only[e.1])))
 all_goals first
  | (show(_:List DV)=_
     first
      |exact aj (EV (by assumption)).symm
      |exact aj (JY (by assumption)).symm
      |done)
  |(have:=bE.1 (‹inR n 1 16=true›);omega)
  |done
theorem rq {n b:Int}(hp:True):ap 369 [.j n,.j b] [.k (bmOk n b)]:=by
 refine cb La1.B Tryz.func369 ?_
 intro O r F hO hr hF;cbv
 repeat' first|apply And.intro|(apply bi<;>intro hb<;>cbv)
 all_goals(subst hO hr hF;(try simp only[nc]at*);(try simp only[ai,SS,sa,az]at*);(try(have e:=Ht (n:=n) (by assumption);simp only[e.2.1])))
 all_goals first
  | (show(_:List DV)=_
     first
      |exact aj (EV (by assumption)).symm
      |exact aj (JY (by assumption)).symm
      |done)
  |exact(Ht (by assumption)).2.2
  |done
namespace La2
structure aQ where
 inR:Int->Int->Int->Bool
 slN:Int->Int
 bmOk:Int->Int->Bool
abbrev F0 :aQ:=⟨inR,slN,bmOk⟩
def ct (F:aQ):CT:=fun f ds=>match f,ds with
 |91,[.one (.v (.int .i64 x)),.one (.v (.int .i64 a)),.one (.v (.int .i64 b))]=>some (fun _=>True,[.k (F.inR x a b)])
 |245,[.one (.v (.int .i64 k))]=>some (fun _=>True,[.k (F.inR k 0 3)])
 |352,[.one (.v (.int .i64 k))]=>some (fun _=>True,[.j (F.slN k)])
 |381,[.one (.v (.int .i64 n)),.one (.v (.int .i64 b))]=>some (fun _=>True,[.k (F.bmOk n b)])
 |89,[.one (.v (.int .i64 x)),.one (.v (.int .i64 a)),.one (.v (.int .i64 b))]=>some (fun _=>True,[.k (F.inR x a b)])
 |370,[.one (.v (.int .i64 k))]=>some (fun _=>True,[.j (F.slN k)])
 |369,[.one (.v (.int .i64 n)),.one (.v (.int .i64 b))]=>some (fun _=>True,[.k (F.bmOk n b)])
 |_,_=>none
theorem ah :aR (ct F0):=by
 intro f ds pre res h hp;unfold ct at h;split at h<;>cases h
 exact aU hp;exact dE hp;exact ga hp;exact qi hp;exact bc hp;exact tH hp;exact rq hp
abbrev B :cq:=tb ah
end La2
theorem fi {p k b:Int}(hp:True):ap 287 [.agg [.i p,.i k,.i b]] [.k (spOk p k b)]:=by
 refine cb La2.B Tryz.func287 ?_
 intro O r F hO hr hF;cbv
 repeat' first|apply And.intro|(apply bi<;>intro hb<;>cbv)
 all_goals(subst hO hr hF;(try simp only[nc]at*);(try simp only[ai,SS,sa,az]at*))
 all_goals first
  | (show(_:List DV)=_
     first
      |exact aj (HE (by assumption)).symm
      |exact aj (HD (by assumption)).symm
      |exact aj (NQ (by assumption)).symm
      |done)
  |(show aZ _ _=true;kernel_rfl)
  |done
theorem fj {p k b:Int}(hp:True):ap 265 [.agg [.i p,.i k,.i b]] [.k (spOk p k b)]:=by
 refine cb La2.B Tryz.func265 ?_
 intro O r F hO hr hF;cbv
 repeat' first|apply And.intro|(apply bi<;>intro hb<;>cbv)
 all_goals(subst hO hr hF;(try simp only[nc]at*);(try simp only[ai,SS,sa,az]at*))
 all_goals first
  | (show(_:List DV)=_
     first
      |exact aj (HE (by assumption)).symm
      |exact aj (HD (by assumption)).symm
      |done)
  |(show aZ _ _=true;kernel_rfl)
  |done
theorem qo {s:Int}(hp:True):ap 255 [.j s] [.j (pfN s)]:=by
 refine cb La1.B Tryz.func255 ?_
 exact Td
theorem rA {s:Int}(hp:True):ap 348 [.j s] [.j (pfN s)]:=by
 refine cb La1.B Tryz.func348 ?_
 exact Td
namespace La3
structure aQ where
 inR:Int->Int->Int->Bool
 pfN:Int->Int
abbrev F0 :aQ:=⟨inR,pfN⟩
def ct (F:aQ):CT:=fun f ds=>match f,ds with
 |91,[.one (.v (.int .i64 x)),.one (.v (.int .i64 a)),.one (.v (.int .i64 b))]=>some (fun _=>True,[.k (F.inR x a b)])
 |255,[.one (.v (.int .i64 s))]=>some (fun _=>True,[.j (F.pfN s)])
 |348,[.one (.v (.int .i64 s))]=>some (fun _=>True,[.j (F.pfN s)])
 |89,[.one (.v (.int .i64 x)),.one (.v (.int .i64 a)),.one (.v (.int .i64 b))]=>some (fun _=>True,[.k (F.inR x a b)])
 |_,_=>none
theorem ah :aR (ct F0):=by
 intro f ds pre res h hp;unfold ct at h;split at h<;>cases h
 exact aU hp;exact qo hp;exact rA hp;exact bc hp
abbrev B :cq:=tb ah
end La3
theorem jR {p n s:Int}(hp:True):ap 288 [.agg [.i p,.i n,.i s]] [.k (lgOk p n s)]:=by
 refine cb La3.B Tryz.func288 ?_
 intro O r F hO hr hF;cbv
 repeat' first|apply And.intro|(apply bi<;>intro hb<;>cbv)
 all_goals(subst hO hr hF;(try simp only[nc]at*);(try simp only[ai,SS,sa,az]at*))
 all_goals first
  | (show(_:List DV)=_
     first
      |(have b:=gJ (s:=s) (by assumption);rw[show bH .sub .i64 32 n=32-n from cB (by omega)];exact aj (F8 (by assumption) (by assumption)).symm)
      |exact aj (F3 (by assumption)).symm
      |exact aj (F7 (by assumption)).symm
      |done)
  |(show aZ _ _=true;kernel_rfl)
  |done
theorem jU {p n s:Int}(hp:True):ap 267 [.agg [.i p,.i n,.i s]] [.k (lgOk p n s)]:=by
 refine cb La3.B Tryz.func267 ?_
 intro O r F hO hr hF;cbv
 repeat' first|apply And.intro|(apply bi<;>intro hb<;>cbv)
 all_goals(subst hO hr hF;(try simp only[nc]at*);(try simp only[ai,SS,sa,az]at*))
 all_goals first
  | (show(_:List DV)=_
     first
      |(have q:=G0.1 (‹0<pfN s›);have b:=gJ q;rw[show bH .sub .i64 32 (pfN s)=32-pfN s from cB (by omega), ‹n=pfN s›];exact aj (F8 q rfl).symm)
      |(refine aj (F3 ?_).symm;cases q:inR s 9 1000;rfl;have:=G0.2 q;omega)
      |exact aj (F7 (by assumption)).symm
      |done)
  |done
namespace La4
structure aQ where
 inR:Int->Int->Int->Bool
 spOk:Int->Int->Int->Bool
 clsSz:Int->Int
 slN:Int->Int
 lgOk:Int->Int->Int->Bool
abbrev F0 :aQ:=⟨inR,spOk,clsSz,slN,lgOk⟩
def ct (F:aQ):CT:=fun f ds=>match f,ds with
 |91,[.one (.v (.int .i64 x)),.one (.v (.int .i64 a)),.one (.v (.int .i64 b))]=>some (fun _=>True,[.k (F.inR x a b)])
 |287,[.agg [.v (.int .i64 p),.v (.int .i64 k),.v (.int .i64 b)]]=>some (fun _=>True,[.k (F.spOk p k b)])
 |114,[.one (.v (.int .i64 k))]=>some (fun _=>True,[.j (F.clsSz k)])
 |352,[.one (.v (.int .i64 k))]=>some (fun _=>True,[.j (F.slN k)])
 |288,[.agg [.v (.int .i64 p),.v (.int .i64 n),.v (.int .i64 s)]]=>some (fun _=>True,[.k (F.lgOk p n s)])
 |265,[.agg [.v (.int .i64 p),.v (.int .i64 k),.v (.int .i64 b)]]=>some (fun _=>True,[.k (F.spOk p k b)])
 |236,[.one (.v (.int .i64 k))]=>some (fun _=>True,[.j (F.clsSz k)])
 |267,[.agg [.v (.int .i64 p),.v (.int .i64 n),.v (.int .i64 s)]]=>some (fun _=>True,[.k (F.lgOk p n s)])
 |_,_=>none
theorem ah :aR (ct F0):=by
 intro f ds pre res h hp;unfold ct at h;split at h<;>cases h
 exact aU hp;exact fi hp;exact cJ hp;exact ga hp;exact jR hp;exact fj hp;exact dT hp;exact jU hp
abbrev B :cq:=tb ah
end La4
theorem vR {p k b a:Int}(hp:True):ap 322 [.agg [.i p,.i k,.i b],.j a] [.j (saS p k b a),.j (saO p k b a)]:=by
 refine cb La4.B Tryz.func322 ?_
 intro O r F hO hr hF;cbv
 repeat' first|apply And.intro|(apply bi<;>intro hb<;>cbv)
 all_goals(subst hO hr hF;(try simp only[nc]at*);(try simp only[ai,SS,sa,az]at*);(try(have t:=ig (p:=p) (k:=k) (b:=b) (by assumption);have c:=gn t.2.2.1;have e:=Q5 (p:=p) ⟨t.1,t.2.1⟩;try simp only[e.1,e.2]at*)))
 all_goals first
  | (show(_:List DV)=_
     first
      |(have q:=Jk (p:=p) (k:=k) (b:=b) (a:=a) (by assumption) (by assumption);exact lm q.1.symm q.2.symm)
      |(have q:=xD (Lb (p:=p) (k:=k) (b:=b) (a:=a) (by assumption));exact lm q.1.symm q.2.symm)
      |(have q:=xD (RQ (p:=p) (k:=k) (b:=b) (a:=a) (by assumption));exact lm q.1.symm q.2.symm)
      |done)
  |(show aZ _ _=true;kernel_rfl)
  |omega
  |done
theorem wq {p k b a:Int}(hp:(-9223372036854775808<=a/\a<=9223372036854775807)):ap 318 [.agg [.i p,.i k,.i b],.j a] [.j (saS p k b a),.j (saO p k b a)]:=by
 refine cb La4.B Tryz.func318 ?_
 intro O r F hO hr hF;cbv
 repeat' first|apply And.intro|(apply bi<;>intro hb<;>cbv)
 all_goals(subst hO hr hF;(try simp only[nc]at*);(try simp only[ai,SS,sa,az]at*);(try(have t:=ig (p:=p) (k:=k) (b:=b) (by assumption);have c:=gn t.2.2.1)))
 all_goals first
  | (show(_:List DV)=_
     first
      |(have q:=Jl (p:=p) (k:=k) (b:=b) (a:=a) (by assumption) (by omega) (by assumption) (by omega);exact lm q.1.symm q.2.symm)
      |(have q:=xD (Lb (p:=p) (k:=k) (b:=b) (a:=a) (by assumption));exact lm q.1.symm q.2.symm)
      |(have q:=xD (Lc (p:=p) (k:=k) (b:=b) (a:=a) (.inl (by omega)) (by omega));exact lm q.1.symm q.2.symm)
      |(have q:=xD (Lc (p:=p) (k:=k) (b:=b) (a:=a) (.inr (by assumption)) (by omega));exact lm q.1.symm q.2.symm)
      |done)
  |(show aZ _ _=true;kernel_rfl)
  |omega
  |done
theorem qy {p k b s:Int}(hp:True):ap 355 [.agg [.i p,.i k,.i b],.j s] [.j (aaI p k b s)]:=by
 refine cb La4.B Tryz.func355 ?_
 intro O r F hO hr hF;cbv
 repeat' first|apply And.intro|(apply bi<;>intro hb<;>cbv)
 all_goals(subst hO hr hF;(try simp only[nc]at*);(try simp only[ai,SS,sa,az]at*);(try(have t:=ig (p:=p) (k:=k) (b:=b) (by assumption);have c:=gn t.2.2.1;have e:bH .sub .i64 (slN k) 1=slN k-1:=cB (by omega);try simp only[e]at*)))
 all_goals first
  | (show(_:List DV)=_
     first
      |exact cM (LS (by assumption) (by assumption))
      |exact cM (JU (.inl (by assumption))).symm
      |exact cM (JU (.inr (by assumption))).symm
      |done)
  |(show aZ _ _=true;kernel_rfl)
  |done
theorem js {p n s a:Int}(hp:True):ap 323 [.agg [.i p,.i n,.i s],.j a] [.k (lhB p n s a)]:=by
 refine cb La4.B Tryz.func323 ?_
 intro O r F hO hr hF;cbv
 repeat' first|apply And.intro|(apply bi<;>intro hb<;>cbv)
 all_goals(subst hO hr hF;(try simp only[nc]at*);(try simp only[ai,SS,sa,az]at*);(try(have e:=F9 (p:=p) (n:=n) (s:=s) (by assumption);try simp only[e.2.2])))
 all_goals first
  | (show(_:List DV)=_
     first
      |(rw[e.1];exact aj (Bw (by assumption)).symm)
      |exact aj (Ga (by assumption)).symm
      |done)
  |done
theorem jC {p n s a:Int}(hp:True):ap 372 [.agg [.i p,.i n,.i s],.j a] [.k (lhB p n s a)]:=by
 refine cb La4.B Tryz.func372 ?_
 intro O r F hO hr hF;cbv
 repeat' first|apply And.intro|(apply bi<;>intro hb<;>cbv)
 all_goals(subst hO hr hF;(try simp only[nc]at*);(try simp only[ai,SS,sa,az]at*);(try(have e:=F9 (p:=p) (n:=n) (s:=s) (by assumption);try simp only[e.1]at*)))
 all_goals first
  | (show(_:List DV)=_
     first
      |exact aj (Ga (by assumption)).symm
      |(refine aj (eh ?_);rw[Bw (by assumption),bE];simp only[SS,cr,decide_eq_true_eq];omega)
      |(refine aj (eh ?_);rw[Bw (by assumption),bE];simp only[Bool.false_eq_true,false_iff];omega)
      |done)
  |done
namespace La5
structure aQ where
 lhB:Int->Int->Int->Int->Bool
abbrev F0 :aQ:=⟨lhB⟩
def ct (F:aQ):CT:=fun f ds=>match f,ds with
 |323,[.agg [.v (.int .i64 p),.v (.int .i64 n),.v (.int .i64 s)],.one (.v (.int .i64 a))]=>some (fun _=>True,[.k (F.lhB p n s a)])
 |372,[.agg [.v (.int .i64 p),.v (.int .i64 n),.v (.int .i64 s)],.one (.v (.int .i64 a))]=>some (fun _=>True,[.k (F.lhB p n s a)])
 |_,_=>none
theorem ah :aR (ct F0):=by
 intro f ds pre res h hp;unfold ct at h;split at h<;>cases h
 exact js hp;exact jC hp
abbrev B :cq:=tb ah
end La5
theorem lz {p n s a:Int}(hp:True):ap 324 [.agg [.i p,.i n,.i s],.j a] [.j (loI p n s a)]:=by
 refine cb La5.B Tryz.func324 ?_
 exact Te
theorem lG {p n s a:Int}(hp:True):ap 373 [.agg [.i p,.i n,.i s],.j a] [.j (loI p n s a)]:=by
 refine cb La5.B Tryz.func373 ?_
 exact Te
end Go.V