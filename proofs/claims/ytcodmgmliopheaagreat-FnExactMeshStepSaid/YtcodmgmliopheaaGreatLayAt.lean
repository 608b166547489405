/- Contracts. -/
import Derived.Test.YtcodmgmliopheaaGreatHeapCt
set_option linter.all false
open Go
open And renaming intro->AT
namespace Go.V
open Go Go.Proofs
set_option maxRecDepth 1000000
set_option maxHeartbeats 8000000
namespace La0
structure aQ where
 inR:Int->Int->Int->Bool
 clsSz:Int->Int
abbrev F0 :aQ:=⟨inR,clsSz⟩
def ct (F:aQ):CT:=fun f ds=>match f,ds with
 |245,[.one (.v (.int .i64 k))]=>some (fun _=>True,[.k (F.inR k 0 3)])
 |114,[.one (.v (.int .i64 k))]=>some (fun _=>True,[.j (F.clsSz k)])
 |89,[.one (.v (.int .i64 x)),.one (.v (.int .i64 a)),.one (.v (.int .i64 b))]=>some (fun _=>True,[.k (F.inR x a b)])
 |_,_=>none
theorem aj :aR (ct F0):=by
 intro f ds pre res h hp;unfold ct at h;split at h<;>cases h
 exact dO hp;exact dq hp;exact be hp
abbrev B :cy:=tb aj
end La0
theorem gh {k:Int}(hp:True):aw 352 [.j k] [.j (slN k)]:=by
 refine cb La0.B Tryz.func352 ?_
 intro O r F hO hr hF;cbv
 repeat' first|apply AT|(apply bi<;>intro hb<;>cbv)
 all_goals(subst hO hr hF;(try simp only[nc]at*);(try simp only[ah,SS,sa,az]at*))
 all_goals first
  | (show(_:List DV)=_
     first
      |exact cT (G9 (by assumption))
      |exact cT (Cw (by assumption)).symm
      |done)
  |(have:=gz (k:=k) (by assumption);omega)
  |done
theorem tX {k:Int}(hp:True):aw 370 [.j k] [.j (slN k)]:=by
 refine cb La0.B Tryz.func370 ?_
 intro O r F hO hr hF;cbv
 repeat' first|apply AT|(apply bi<;>intro hb<;>cbv)
 all_goals(subst hO hr hF;(try simp only[nc]at*);(try simp only[ah,SS,sa,az]at*))
 all_goals first
  | (show(_:List DV)=_
     first
      |exact cT (Ha (by assumption))
      |exact cT (Cw (by assumption)).symm
      |done)
  |(rcases HY (k:=k) (by assumption)with rfl|rfl|rfl|rfl<;>decide)
  |done
namespace La1
structure aQ where
 inR:Int->Int->Int->Bool
abbrev F0 :aQ:=⟨inR⟩
def ct (F:aQ):CT:=fun f ds=>match f,ds with
 |91,[.one (.v (.int .i64 x)),.one (.v (.int .i64 a)),.one (.v (.int .i64 b))]=>some (fun _=>True,[.k (F.inR x a b)])
 |89,[.one (.v (.int .i64 x)),.one (.v (.int .i64 a)),.one (.v (.int .i64 b))]=>some (fun _=>True,[.k (F.inR x a b)])
 |_,_=>none
theorem aj :aR (ct F0):=by
 intro f ds pre res h hp;unfold ct at h;split at h<;>cases h
 exact bc hp;exact be hp
abbrev B :cy:=tb aj
end La1
theorem qF {n b:Int}(hp:True):aw 381 [.j n,.j b] [.k (bmOk n b)]:=by
 refine cb La1.B Tryz.func381 ?_
 intro O r F hO hr hF;cbv
 repeat' first|apply AT|(apply bi<;>intro hb<;>cbv)
 all_goals(subst hO hr hF;(try simp only[nc]at*);(try simp only[ah,SS,sa,az]at*);(try(have e:=G8 (n:=n) (by assumption);simp only[e.1])))
 all_goals first
  | (show(_:List DV)=_
     first
      |exact ai (E1 (by assumption)).symm
      |exact ai (Jx (by assumption)).symm
      |done)
  |(have:=bH.1 (‹inR n 1 16=true›);omega)
  |done
theorem rO {n b:Int}(hp:True):aw 369 [.j n,.j b] [.k (bmOk n b)]:=by
 refine cb La1.B Tryz.func369 ?_
 intro O r F hO hr hF;cbv
 repeat' first|apply AT|(apply bi<;>intro hb<;>cbv)
 all_goals(subst hO hr hF;(try simp only[nc]at*);(try simp only[ah,SS,sa,az]at*);(try(have e:=G8 (n:=n) (by assumption);simp only[e.2.1])))
 all_goals first
  | (show(_:List DV)=_
     first
      |exact ai (E1 (by assumption)).symm
      |exact ai (Jx (by assumption)).symm
      |done)
  |exact(G8 (by assumption)).2.2
  |done
namespace La2
structure aQ where
 inR:Int->Int->Int->Bool
 slN:Int->Int
 bmOk:Int->Int->Bool
abbrev F0 :aQ:=⟨inR,slN,bmOk⟩
def ct (F:aQ):CT:=fun f ds=>match f,ds with
 |91,[.one (.v (.int .i64 x)),.one (.v (.int .i64 a)),.one (.v (.int .i64 b))]=>some (fun _=>True,[.k (F.inR x a b)])
 |245,[.one (.v (.int .i64 k))]=>some (fun _=>True,[.k (F.inR k 0 3)])
 |352,[.one (.v (.int .i64 k))]=>some (fun _=>True,[.j (F.slN k)])
 |381,[.one (.v (.int .i64 n)),.one (.v (.int .i64 b))]=>some (fun _=>True,[.k (F.bmOk n b)])
 |89,[.one (.v (.int .i64 x)),.one (.v (.int .i64 a)),.one (.v (.int .i64 b))]=>some (fun _=>True,[.k (F.inR x a b)])
 |370,[.one (.v (.int .i64 k))]=>some (fun _=>True,[.j (F.slN k)])
 |369,[.one (.v (.int .i64 n)),.one (.v (.int .i64 b))]=>some (fun _=>True,[.k (F.bmOk n b)])
 |_,_=>none
theorem aj :aR (ct F0):=by
 intro f ds pre res h hp;unfold ct at h;split at h<;>cases h
 exact bc hp;exact dO hp;exact gh hp;exact qF hp;exact be hp;exact tX hp;exact rO hp
abbrev B :cy:=tb aj
end La2
theorem hN {p k b:Int}(hp:True):aw 287 [.agg [.i p,.i k,.i b]] [.k (spOk p k b)]:=by
 refine cb La2.B Tryz.func287 ?_
 intro O r F hO hr hF;cbv
 repeat' first|apply AT|(apply bi<;>intro hb<;>cbv)
 all_goals(subst hO hr hF;(try simp only[nc]at*);(try simp only[ah,SS,sa,az]at*))
 all_goals first
  | (show(_:List DV)=_
     first
      |exact ai (He (by assumption)).symm
      |exact ai (Hd (by assumption)).symm
      |exact ai (Nj (by assumption)).symm
      |done)
  |(show aV _ _=true;kernel_rfl)
  |done
theorem ia {p k b:Int}(hp:True):aw 265 [.agg [.i p,.i k,.i b]] [.k (spOk p k b)]:=by
 refine cb La2.B Tryz.func265 ?_
 intro O r F hO hr hF;cbv
 repeat' first|apply AT|(apply bi<;>intro hb<;>cbv)
 all_goals(subst hO hr hF;(try simp only[nc]at*);(try simp only[ah,SS,sa,az]at*))
 all_goals first
  | (show(_:List DV)=_
     first
      |exact ai (He (by assumption)).symm
      |exact ai (Hd (by assumption)).symm
      |done)
  |(show aV _ _=true;kernel_rfl)
  |done
theorem qL {s:Int}(hp:True):aw 255 [.j s] [.j (pfN s)]:=by
 refine cb La1.B Tryz.func255 ?_
 exact Rt
theorem rT {s:Int}(hp:True):aw 348 [.j s] [.j (pfN s)]:=by
 refine cb La1.B Tryz.func348 ?_
 exact Rt
namespace La3
structure aQ where
 inR:Int->Int->Int->Bool
 pfN:Int->Int
abbrev F0 :aQ:=⟨inR,pfN⟩
def ct (F:aQ):CT:=fun f ds=>match f,ds with
 |91,[.one (.v (.int .i64 x)),.one (.v (.int .i64 a)),.one (.v (.int .i64 b))]=>some (fun _=>True,[.k (F.inR x a b)])
 |255,[.one (.v (.int .i64 s))]=>some (fun _=>True,[.j (F.pfN s)])
 |348,[.one (.v (.int .i64 s))]=>some (fun _=>True,[.j (F.pfN s)])
 |89,[.one (.v (.int .i64 x)),.one (.v (.int .i64 a)),.one (.v (.int .i64 b))]=>some (fun _=>True,[.k (F.inR x a b)])
 |_,_=>none
theorem aj :aR (ct F0):=by
 intro f ds pre res h hp;unfold ct at h;split at h<;>cases h
 exact bc hp;exact qL hp;exact rT hp;exact be hp
abbrev B :cy:=tb aj
end La3
theorem kj {p n s:Int}(hp:True):aw 288 [.agg [.i p,.i n,.i s]] [.k (lgOk p n s)]:=by
 refine cb La3.B Tryz.func288 ?_
 intro O r F hO hr hF;cbv
 repeat' first|apply AT|(apply bi<;>intro hb<;>cbv)
 all_goals(subst hO hr hF;(try simp only[nc]at*);(try simp only[ah,SS,sa,az]at*))
 all_goals first
  | (show(_:List DV)=_
     first
      |(have b:=gQ (s:=s) (by assumption);rw[show bJ .sub .i64 32 n=32-n from cO (by omega)];exact ai (Ga (by assumption) (by assumption)).symm)
      |exact ai (F8 (by assumption)).symm
      |exact ai (F9 (by assumption)).symm
      |done)
  |(show aV _ _=true;kernel_rfl)
  |done
theorem ku {p n s:Int}(hp:True):aw 267 [.agg [.i p,.i n,.i s]] [.k (lgOk p n s)]:=by
 refine cb La3.B Tryz.func267 ?_
 intro O r F hO hr hF;cbv
 repeat' first|apply AT|(apply bi<;>intro hb<;>cbv)
 all_goals(subst hO hr hF;(try simp only[nc]at*);(try simp only[ah,SS,sa,az]at*))
 all_goals first
  | (show(_:List DV)=_
     first
      |(have q:=GI.1 (‹0<pfN s›);have b:=gQ q;rw[show bJ .sub .i64 32 (pfN s)=32-pfN s from cO (by omega), ‹n=pfN s›];exact ai (Ga q rfl).symm)
      |(refine ai (F8 ?_).symm;cases q:inR s 9 1000;rfl;have:=GI.2 q;omega)
      |exact ai (F9 (by assumption)).symm
      |done)
  |done
namespace La4
structure aQ where
 inR:Int->Int->Int->Bool
 spOk:Int->Int->Int->Bool
 clsSz:Int->Int
 slN:Int->Int
 lgOk:Int->Int->Int->Bool
abbrev F0 :aQ:=⟨inR,spOk,clsSz,slN,lgOk⟩
def ct (F:aQ):CT:=fun f ds=>match f,ds with
 |91,[.one (.v (.int .i64 x)),.one (.v (.int .i64 a)),.one (.v (.int .i64 b))]=>some (fun _=>True,[.k (F.inR x a b)])
 |287,[.agg [.v (.int .i64 p),.v (.int .i64 k),.v (.int .i64 b)]]=>some (fun _=>True,[.k (F.spOk p k b)])
 |114,[.one (.v (.int .i64 k))]=>some (fun _=>True,[.j (F.clsSz k)])
 |352,[.one (.v (.int .i64 k))]=>some (fun _=>True,[.j (F.slN k)])
 |288,[.agg [.v (.int .i64 p),.v (.int .i64 n),.v (.int .i64 s)]]=>some (fun _=>True,[.k (F.lgOk p n s)])
 |265,[.agg [.v (.int .i64 p),.v (.int .i64 k),.v (.int .i64 b)]]=>some (fun _=>True,[.k (F.spOk p k b)])
 |236,[.one (.v (.int .i64 k))]=>some (fun _=>True,[.j (F.clsSz k)])
 |267,[.agg [.v (.int .i64 p),.v (.int .i64 n),.v (.int .i64 s)]]=>some (fun _=>True,[.k (F.lgOk p n s)])
 |_,_=>none
theorem aj :aR (ct F0):=by
 intro f ds pre res h hp;unfold ct at h;split at h<;>cases h
 exact bc hp;exact hN hp;exact dq hp;exact gh hp;exact kj hp;exact ia hp;exact fj hp;exact ku hp
abbrev B :cy:=tb aj
end La4
theorem wn {p k b a:Int}(hp:True):aw 322 [.agg [.i p,.i k,.i b],.j a] [.j (saS p k b a),.j (saO p k b a)]:=by
 refine cb La4.B Tryz.func322 ?_
 intro O r F hO hr hF;cbv
 repeat' first|apply AT|(apply bi<;>intro hb<;>cbv)
 all_goals(subst hO hr hF;(try simp only[nc]at*);(try simp only[ah,SS,sa,az]at*);(try(have t:=jH (p:=p) (k:=k) (b:=b) (by assumption);have c:=gz t.2.2.1;have e:=Qc (p:=p) ⟨t.1,t.2.1⟩;try simp only[e.1,e.2]at*)))
 all_goals first
  | (show(_:List DV)=_
     first
      |(have q:=IU (p:=p) (k:=k) (b:=b) (a:=a) (by assumption) (by assumption);exact uB q.1.symm q.2.symm)
      |(have q:=yc (KG (p:=p) (k:=k) (b:=b) (a:=a) (by assumption));exact uB q.1.symm q.2.symm)
      |(have q:=yc (QQ (p:=p) (k:=k) (b:=b) (a:=a) (by assumption));exact uB q.1.symm q.2.symm)
      |done)
  |(show aV _ _=true;kernel_rfl)
  |omega
  |done
theorem wT {p k b a:Int}(hp:(-9223372036854775808<=a/\a<=9223372036854775807)):aw 318 [.agg [.i p,.i k,.i b],.j a] [.j (saS p k b a),.j (saO p k b a)]:=by
 refine cb La4.B Tryz.func318 ?_
 intro O r F hO hr hF;cbv
 repeat' first|apply AT|(apply bi<;>intro hb<;>cbv)
 all_goals(subst hO hr hF;(try simp only[nc]at*);(try simp only[ah,SS,sa,az]at*);(try(have t:=jH (p:=p) (k:=k) (b:=b) (by assumption);have c:=gz t.2.2.1)))
 all_goals first
  | (show(_:List DV)=_
     first
      |(have q:=IV (p:=p) (k:=k) (b:=b) (a:=a) (by assumption) (by omega) (by assumption) (by omega);exact uB q.1.symm q.2.symm)
      |(have q:=yc (KG (p:=p) (k:=k) (b:=b) (a:=a) (by assumption));exact uB q.1.symm q.2.symm)
      |(have q:=yc (KH (p:=p) (k:=k) (b:=b) (a:=a) (.inl (by omega)) (by omega));exact uB q.1.symm q.2.symm)
      |(have q:=yc (KH (p:=p) (k:=k) (b:=b) (a:=a) (.inr (by assumption)) (by omega));exact uB q.1.symm q.2.symm)
      |done)
  |(show aV _ _=true;kernel_rfl)
  |omega
  |done
theorem qO {p k b s:Int}(hp:True):aw 355 [.agg [.i p,.i k,.i b],.j s] [.j (aaI p k b s)]:=by
 refine cb La4.B Tryz.func355 ?_
 intro O r F hO hr hF;cbv
 repeat' first|apply AT|(apply bi<;>intro hb<;>cbv)
 all_goals(subst hO hr hF;(try simp only[nc]at*);(try simp only[ah,SS,sa,az]at*);(try(have t:=jH (p:=p) (k:=k) (b:=b) (by assumption);have c:=gz t.2.2.1;have e:bJ .sub .i64 (slN k) 1=slN k-1:=cO (by omega);try simp only[e]at*)))
 all_goals first
  | (show(_:List DV)=_
     first
      |exact cT (Lf (by assumption) (by assumption))
      |exact cT (Ju (.inl (by assumption))).symm
      |exact cT (Ju (.inr (by assumption))).symm
      |done)
  |(show aV _ _=true;kernel_rfl)
  |done
theorem jP {p n s a:Int}(hp:True):aw 323 [.agg [.i p,.i n,.i s],.j a] [.k (lhB p n s a)]:=by
 refine cb La4.B Tryz.func323 ?_
 intro O r F hO hr hF;cbv
 repeat' first|apply AT|(apply bi<;>intro hb<;>cbv)
 all_goals(subst hO hr hF;(try simp only[nc]at*);(try simp only[ah,SS,sa,az]at*);(try(have e:=Gb (p:=p) (n:=n) (s:=s) (by assumption);try simp only[e.2.2])))
 all_goals first
  | (show(_:List DV)=_
     first
      |(rw[e.1];exact ai (Cb (by assumption)).symm)
      |exact ai (Gc (by assumption)).symm
      |done)
  |done
theorem jT {p n s a:Int}(hp:True):aw 372 [.agg [.i p,.i n,.i s],.j a] [.k (lhB p n s a)]:=by
 refine cb La4.B Tryz.func372 ?_
 intro O r F hO hr hF;cbv
 repeat' first|apply AT|(apply bi<;>intro hb<;>cbv)
 all_goals(subst hO hr hF;(try simp only[nc]at*);(try simp only[ah,SS,sa,az]at*);(try(have e:=Gb (p:=p) (n:=n) (s:=s) (by assumption);try simp only[e.1]at*)))
 all_goals first
  | (show(_:List DV)=_
     first
      |exact ai (Gc (by assumption)).symm
      |(refine ai (eA ?_);rw[Cb (by assumption),bH];simp only[SS,co,decide_eq_true_eq];omega)
      |(refine ai (eA ?_);rw[Cb (by assumption),bH];simp only[Bool.false_eq_true,false_iff];omega)
      |done)
  |done
namespace La5
structure aQ where
 lhB:Int->Int->Int->Int->Bool
abbrev F0 :aQ:=⟨lhB⟩
def ct (F:aQ):CT:=fun f ds=>match f,ds with
 |323,[.agg [.v (.int .i64 p),.v (.int .i64 n),.v (.int .i64 s)],.one (.v (.int .i64 a))]=>some (fun _=>True,[.k (F.lhB p n s a)])
 |372,[.agg [.v (.int .i64 p),.v (.int .i64 n),.v (.int .i64 s)],.one (.v (.int .i64 a))]=>some (fun _=>True,[.k (F.lhB p n s a)])
 |_,_=>none
theorem aj :aR (ct F0):=by
 intro f ds pre res h hp;unfold ct at h;split at h<;>cases h
 exact jP hp;exact jT hp
abbrev B :cy:=tb aj
end La5
theorem lZ {p n s a:Int}(hp:True):aw 324 [.agg [.i p,.i n,.i s],.j a] [.j (loI p n s a)]:=by
 refine cb La5.B Tryz.func324 ?_
 exact Ru
theorem mf {p n s a:Int}(hp:True):aw 373 [.agg [.i p,.i n,.i s],.j a] [.j (loI p n s a)]:=by
 refine cb La5.B Tryz.func373 ?_
 exact Ru
end Go.V