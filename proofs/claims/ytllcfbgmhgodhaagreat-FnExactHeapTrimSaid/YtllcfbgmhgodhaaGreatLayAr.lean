/- Contracts. -/
import Derived.Test.YtllcfbgmhgodhaaGreatHeapCr
set_option linter.all false
namespace Go.V
open Go Go.Proofs
set_option maxRecDepth 1000000
set_option maxHeartbeats 8000000
namespace La0
structure aQ where
 inR:Int->Int->Int->Bool
 clsSz:Int->Int
abbrev F0 :aQ:=⟨inR,clsSz⟩
def ct (F:aQ):CT:=fun f ds=>match f,ds with
 |264,[.one (.v (.int .i64 k))]=>some (fun _=>True,[.k (F.inR k 0 3)])
 |265,[.one (.v (.int .i64 k))]=>some (fun _=>True,[.j (F.clsSz k)])
 |103,[.one (.v (.int .i64 x)),.one (.v (.int .i64 a)),.one (.v (.int .i64 b))]=>some (fun _=>True,[.k (F.inR x a b)])
 |_,_=>none
theorem ai :aS (ct F0):=by
 intro f ds pre res h hp;unfold ct at h;split at h<;>cases h
 exact dR hp;exact cC hp;exact bg hp
abbrev B :cy:=tb ai
end La0
theorem gH {k:Int}(hp:True):au 332 [.j k] [.j (slN k)]:=by
 refine cb La0.B Tryz.func332 ?_
 intro O r F hO hr hF;cbv
 repeat' first|apply And.intro|(apply be<;>intro hb<;>cbv)
 all_goals(subst hO hr hF;(try simp only[nc]at*);(try simp only[aj,SS,sa,az]at*))
 all_goals first
  | (show(_:List DV)=_
     first
      |exact cp (HI (by assumption))
      |exact cp (Cz (by assumption)).symm
      |done)
  |(have:=gR (k:=k) (by assumption);omega)
  |done
theorem uo {k:Int}(hp:True):au 322 [.j k] [.j (slN k)]:=by
 refine cb La0.B Tryz.func322 ?_
 intro O r F hO hr hF;cbv
 repeat' first|apply And.intro|(apply be<;>intro hb<;>cbv)
 all_goals(subst hO hr hF;(try simp only[nc]at*);(try simp only[aj,SS,sa,az]at*))
 all_goals first
  | (show(_:List DV)=_
     first
      |exact cp (HJ (by assumption))
      |exact cp (Cz (by assumption)).symm
      |done)
  |(rcases IL (k:=k) (by assumption)with rfl|rfl|rfl|rfl<;>decide)
  |done
namespace La1
structure aQ where
 inR:Int->Int->Int->Bool
abbrev F0 :aQ:=⟨inR⟩
def ct (F:aQ):CT:=fun f ds=>match f,ds with
 |105,[.one (.v (.int .i64 x)),.one (.v (.int .i64 a)),.one (.v (.int .i64 b))]=>some (fun _=>True,[.k (F.inR x a b)])
 |103,[.one (.v (.int .i64 x)),.one (.v (.int .i64 a)),.one (.v (.int .i64 b))]=>some (fun _=>True,[.k (F.inR x a b)])
 |_,_=>none
theorem ai :aS (ct F0):=by
 intro f ds pre res h hp;unfold ct at h;split at h<;>cases h
 exact aZ hp;exact bg hp
abbrev B :cy:=tb ai
end La1
theorem qV {n b:Int}(hp:True):au 331 [.j n,.j b] [.k (bmOk n b)]:=by
 refine cb La1.B Tryz.func331 ?_
 intro O r F hO hr hF;cbv
 repeat' first|apply And.intro|(apply be<;>intro hb<;>cbv)
 all_goals(subst hO hr hF;(try simp only[nc]at*);(try simp only[aj,SS,sa,az]at*);(try(have e:=HH (n:=n) (by assumption);simp only[e.1])))
 all_goals first
  | (show(_:List DV)=_
     first
      |exact ak (Fs (by assumption)).symm
      |exact ak (Ke (by assumption)).symm
      |done)
  |(have:=bE.1 (‹inR n 1 16=true›);omega)
  |done
theorem sf {n b:Int}(hp:True):au 321 [.j n,.j b] [.k (bmOk n b)]:=by
 refine cb La1.B Tryz.func321 ?_
 intro O r F hO hr hF;cbv
 repeat' first|apply And.intro|(apply be<;>intro hb<;>cbv)
 all_goals(subst hO hr hF;(try simp only[nc]at*);(try simp only[aj,SS,sa,az]at*);(try(have e:=HH (n:=n) (by assumption);simp only[e.2.1])))
 all_goals first
  | (show(_:List DV)=_
     first
      |exact ak (Fs (by assumption)).symm
      |exact ak (Ke (by assumption)).symm
      |done)
  |exact(HH (by assumption)).2.2
  |done
namespace La2
structure aQ where
 inR:Int->Int->Int->Bool
 slN:Int->Int
 bmOk:Int->Int->Bool
abbrev F0 :aQ:=⟨inR,slN,bmOk⟩
def ct (F:aQ):CT:=fun f ds=>match f,ds with
 |105,[.one (.v (.int .i64 x)),.one (.v (.int .i64 a)),.one (.v (.int .i64 b))]=>some (fun _=>True,[.k (F.inR x a b)])
 |264,[.one (.v (.int .i64 k))]=>some (fun _=>True,[.k (F.inR k 0 3)])
 |332,[.one (.v (.int .i64 k))]=>some (fun _=>True,[.j (F.slN k)])
 |331,[.one (.v (.int .i64 n)),.one (.v (.int .i64 b))]=>some (fun _=>True,[.k (F.bmOk n b)])
 |103,[.one (.v (.int .i64 x)),.one (.v (.int .i64 a)),.one (.v (.int .i64 b))]=>some (fun _=>True,[.k (F.inR x a b)])
 |322,[.one (.v (.int .i64 k))]=>some (fun _=>True,[.j (F.slN k)])
 |321,[.one (.v (.int .i64 n)),.one (.v (.int .i64 b))]=>some (fun _=>True,[.k (F.bmOk n b)])
 |_,_=>none
theorem ai :aS (ct F0):=by
 intro f ds pre res h hp;unfold ct at h;split at h<;>cases h
 exact aZ hp;exact dR hp;exact gH hp;exact qV hp;exact bg hp;exact uo hp;exact sf hp
abbrev B :cy:=tb ai
end La2
theorem fx {p k b:Int}(hp:True):au 259 [.agg [.i p,.i k,.i b]] [.k (spOk p k b)]:=by
 refine cb La2.B Tryz.func259 ?_
 intro O r F hO hr hF;cbv
 repeat' first|apply And.intro|(apply be<;>intro hb<;>cbv)
 all_goals(subst hO hr hF;(try simp only[nc]at*);(try simp only[aj,SS,sa,az]at*))
 all_goals first
  | (show(_:List DV)=_
     first
      |exact ak (HN (by assumption)).symm
      |exact ak (HM (by assumption)).symm
      |exact ak (Oc (by assumption)).symm
      |done)
  |(show aW _ _=true;kernel_rfl)
  |done
theorem fA {p k b:Int}(hp:True):au 235 [.agg [.i p,.i k,.i b]] [.k (spOk p k b)]:=by
 refine cb La2.B Tryz.func235 ?_
 intro O r F hO hr hF;cbv
 repeat' first|apply And.intro|(apply be<;>intro hb<;>cbv)
 all_goals(subst hO hr hF;(try simp only[nc]at*);(try simp only[aj,SS,sa,az]at*))
 all_goals first
  | (show(_:List DV)=_
     first
      |exact ak (HN (by assumption)).symm
      |exact ak (HM (by assumption)).symm
      |done)
  |(show aW _ _=true;kernel_rfl)
  |done
theorem jW {s:Int}(hp:True):au 201 [.j s] [.j (pfN s)]:=by
 refine cb La1.B Tryz.func201 ?_
 exact S8
theorem j4 {s:Int}(hp:True):au 288 [.j s] [.j (pfN s)]:=by
 refine cb La1.B Tryz.func288 ?_
 exact S8
namespace La3
structure aQ where
 inR:Int->Int->Int->Bool
 pfN:Int->Int
abbrev F0 :aQ:=⟨inR,pfN⟩
def ct (F:aQ):CT:=fun f ds=>match f,ds with
 |105,[.one (.v (.int .i64 x)),.one (.v (.int .i64 a)),.one (.v (.int .i64 b))]=>some (fun _=>True,[.k (F.inR x a b)])
 |201,[.one (.v (.int .i64 s))]=>some (fun _=>True,[.j (F.pfN s)])
 |288,[.one (.v (.int .i64 s))]=>some (fun _=>True,[.j (F.pfN s)])
 |103,[.one (.v (.int .i64 x)),.one (.v (.int .i64 a)),.one (.v (.int .i64 b))]=>some (fun _=>True,[.k (F.inR x a b)])
 |_,_=>none
theorem ai :aS (ct F0):=by
 intro f ds pre res h hp;unfold ct at h;split at h<;>cases h
 exact aZ hp;exact jW hp;exact j4 hp;exact bg hp
abbrev B :cy:=tb ai
end La3
theorem gF {p n s:Int}(hp:True):au 200 [.agg [.i p,.i n,.i s]] [.k (lgOk p n s)]:=by
 refine cb La3.B Tryz.func200 ?_
 intro O r F hO hr hF;cbv
 repeat' first|apply And.intro|(apply be<;>intro hb<;>cbv)
 all_goals(subst hO hr hF;(try simp only[nc]at*);(try simp only[aj,SS,sa,az]at*))
 all_goals first
  | (show(_:List DV)=_
     first
      |(have b:=gf (s:=s) (by assumption);rw[show bF .sub .i64 32 n=32-n from cR (by omega)];exact ak (GE (by assumption) (by assumption)).symm)
      |exact ak (GC (by assumption)).symm
      |exact ak (GD (by assumption)).symm
      |done)
  |(show aW _ _=true;kernel_rfl)
  |done
theorem gN {p n s:Int}(hp:True):au 237 [.agg [.i p,.i n,.i s]] [.k (lgOk p n s)]:=by
 refine cb La3.B Tryz.func237 ?_
 intro O r F hO hr hF;cbv
 repeat' first|apply And.intro|(apply be<;>intro hb<;>cbv)
 all_goals(subst hO hr hF;(try simp only[nc]at*);(try simp only[aj,SS,sa,az]at*))
 all_goals first
  | (show(_:List DV)=_
     first
      |(have q:=Hg.1 (‹0<pfN s›);have b:=gf q;rw[show bF .sub .i64 32 (pfN s)=32-pfN s from cR (by omega), ‹n=pfN s›];exact ak (GE q rfl).symm)
      |(refine ak (GC ?_).symm;cases q:inR s 9 1000;rfl;have:=Hg.2 q;omega)
      |exact ak (GD (by assumption)).symm
      |done)
  |done
namespace La4
structure aQ where
 inR:Int->Int->Int->Bool
 spOk:Int->Int->Int->Bool
 clsSz:Int->Int
 slN:Int->Int
 lgOk:Int->Int->Int->Bool
abbrev F0 :aQ:=⟨inR,spOk,clsSz,slN,lgOk⟩
def ct (F:aQ):CT:=fun f ds=>match f,ds with
 |105,[.one (.v (.int .i64 x)),.one (.v (.int .i64 a)),.one (.v (.int .i64 b))]=>some (fun _=>True,[.k (F.inR x a b)])
 |259,[.agg [.v (.int .i64 p),.v (.int .i64 k),.v (.int .i64 b)]]=>some (fun _=>True,[.k (F.spOk p k b)])
 |265,[.one (.v (.int .i64 k))]=>some (fun _=>True,[.j (F.clsSz k)])
 |332,[.one (.v (.int .i64 k))]=>some (fun _=>True,[.j (F.slN k)])
 |200,[.agg [.v (.int .i64 p),.v (.int .i64 n),.v (.int .i64 s)]]=>some (fun _=>True,[.k (F.lgOk p n s)])
 |235,[.agg [.v (.int .i64 p),.v (.int .i64 k),.v (.int .i64 b)]]=>some (fun _=>True,[.k (F.spOk p k b)])
 |244,[.one (.v (.int .i64 k))]=>some (fun _=>True,[.j (F.clsSz k)])
 |237,[.agg [.v (.int .i64 p),.v (.int .i64 n),.v (.int .i64 s)]]=>some (fun _=>True,[.k (F.lgOk p n s)])
 |_,_=>none
theorem ai :aS (ct F0):=by
 intro f ds pre res h hp;unfold ct at h;split at h<;>cases h
 exact aZ hp;exact fx hp;exact cC hp;exact gH hp;exact gF hp;exact fA hp;exact dB hp;exact gN hp
abbrev B :cy:=tb ai
end La4
theorem wq {p k b a:Int}(hp:True):au 303 [.agg [.i p,.i k,.i b],.j a] [.j (saS p k b a),.j (saO p k b a)]:=by
 refine cb La4.B Tryz.func303 ?_
 intro O r F hO hr hF;cbv
 repeat' first|apply And.intro|(apply be<;>intro hb<;>cbv)
 all_goals(subst hO hr hF;(try simp only[nc]at*);(try simp only[aj,SS,sa,az]at*);(try(have t:=hZ (p:=p) (k:=k) (b:=b) (by assumption);have c:=gR t.2.2.1;have e:=Rb (p:=p) ⟨t.1,t.2.1⟩;try simp only[e.1,e.2]at*)))
 all_goals first
  | (show(_:List DV)=_
     first
      |(have q:=JB (p:=p) (k:=k) (b:=b) (a:=a) (by assumption) (by assumption);exact uT q.1.symm q.2.symm)
      |(have q:=x7 (Lt (p:=p) (k:=k) (b:=b) (a:=a) (by assumption));exact uT q.1.symm q.2.symm)
      |(have q:=x7 (R1 (p:=p) (k:=k) (b:=b) (a:=a) (by assumption));exact uT q.1.symm q.2.symm)
      |done)
  |(show aW _ _=true;kernel_rfl)
  |omega
  |done
theorem wR {p k b a:Int}(hp:(-9223372036854775808<=a/\a<=9223372036854775807)):au 301 [.agg [.i p,.i k,.i b],.j a] [.j (saS p k b a),.j (saO p k b a)]:=by
 refine cb La4.B Tryz.func301 ?_
 intro O r F hO hr hF;cbv
 repeat' first|apply And.intro|(apply be<;>intro hb<;>cbv)
 all_goals(subst hO hr hF;(try simp only[nc]at*);(try simp only[aj,SS,sa,az]at*);(try(have t:=hZ (p:=p) (k:=k) (b:=b) (by assumption);have c:=gR t.2.2.1)))
 all_goals first
  | (show(_:List DV)=_
     first
      |(have q:=JC (p:=p) (k:=k) (b:=b) (a:=a) (by assumption) (by omega) (by assumption) (by omega);exact uT q.1.symm q.2.symm)
      |(have q:=x7 (Lt (p:=p) (k:=k) (b:=b) (a:=a) (by assumption));exact uT q.1.symm q.2.symm)
      |(have q:=x7 (Lu (p:=p) (k:=k) (b:=b) (a:=a) (.inl (by omega)) (by omega));exact uT q.1.symm q.2.symm)
      |(have q:=x7 (Lu (p:=p) (k:=k) (b:=b) (a:=a) (.inr (by assumption)) (by omega));exact uT q.1.symm q.2.symm)
      |done)
  |(show aW _ _=true;kernel_rfl)
  |omega
  |done
theorem rf {p k b s:Int}(hp:True):au 336 [.agg [.i p,.i k,.i b],.j s] [.j (aaI p k b s)]:=by
 refine cb La4.B Tryz.func336 ?_
 intro O r F hO hr hF;cbv
 repeat' first|apply And.intro|(apply be<;>intro hb<;>cbv)
 all_goals(subst hO hr hF;(try simp only[nc]at*);(try simp only[aj,SS,sa,az]at*);(try(have t:=hZ (p:=p) (k:=k) (b:=b) (by assumption);have c:=gR t.2.2.1;have e:bF .sub .i64 (slN k) 1=slN k-1:=cR (by omega);try simp only[e]at*)))
 all_goals first
  | (show(_:List DV)=_
     first
      |exact cp (Ma (by assumption) (by assumption))
      |exact cp (Kc (.inl (by assumption))).symm
      |exact cp (Kc (.inr (by assumption))).symm
      |done)
  |(show aW _ _=true;kernel_rfl)
  |done
theorem jU {p n s a:Int}(hp:True):au 304 [.agg [.i p,.i n,.i s],.j a] [.k (lhB p n s a)]:=by
 refine cb La4.B Tryz.func304 ?_
 intro O r F hO hr hF;cbv
 repeat' first|apply And.intro|(apply be<;>intro hb<;>cbv)
 all_goals(subst hO hr hF;(try simp only[nc]at*);(try simp only[aj,SS,sa,az]at*);(try(have e:=GF (p:=p) (n:=n) (s:=s) (by assumption);try simp only[e.2.2])))
 all_goals first
  | (show(_:List DV)=_
     first
      |(rw[e.1];exact ak (B9 (by assumption)).symm)
      |exact ak (GG (by assumption)).symm
      |done)
  |done
theorem j3 {p n s a:Int}(hp:True):au 324 [.agg [.i p,.i n,.i s],.j a] [.k (lhB p n s a)]:=by
 refine cb La4.B Tryz.func324 ?_
 intro O r F hO hr hF;cbv
 repeat' first|apply And.intro|(apply be<;>intro hb<;>cbv)
 all_goals(subst hO hr hF;(try simp only[nc]at*);(try simp only[aj,SS,sa,az]at*);(try(have e:=GF (p:=p) (n:=n) (s:=s) (by assumption);try simp only[e.1]at*)))
 all_goals first
  | (show(_:List DV)=_
     first
      |exact ak (GG (by assumption)).symm
      |(refine ak (ew ?_);rw[B9 (by assumption),bE];simp only[SS,cD,decide_eq_true_eq];omega)
      |(refine ak (ew ?_);rw[B9 (by assumption),bE];simp only[Bool.false_eq_true,false_iff];omega)
      |done)
  |done
namespace La5
structure aQ where
 lhB:Int->Int->Int->Int->Bool
abbrev F0 :aQ:=⟨lhB⟩
def ct (F:aQ):CT:=fun f ds=>match f,ds with
 |304,[.agg [.v (.int .i64 p),.v (.int .i64 n),.v (.int .i64 s)],.one (.v (.int .i64 a))]=>some (fun _=>True,[.k (F.lhB p n s a)])
 |324,[.agg [.v (.int .i64 p),.v (.int .i64 n),.v (.int .i64 s)],.one (.v (.int .i64 a))]=>some (fun _=>True,[.k (F.lhB p n s a)])
 |_,_=>none
theorem ai :aS (ct F0):=by
 intro f ds pre res h hp;unfold ct at h;split at h<;>cases h
 exact jU hp;exact j3 hp
abbrev B :cy:=tb ai
end La5
theorem mo {p n s a:Int}(hp:True):au 305 [.agg [.i p,.i n,.i s],.j a] [.j (loI p n s a)]:=by
 refine cb La5.B Tryz.func305 ?_
 exact S9
theorem my {p n s a:Int}(hp:True):au 325 [.agg [.i p,.i n,.i s],.j a] [.j (loI p n s a)]:=by
 refine cb La5.B Tryz.func325 ?_
 exact S9
end Go.V