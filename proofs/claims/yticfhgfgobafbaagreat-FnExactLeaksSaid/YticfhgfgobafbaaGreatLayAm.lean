/- Contracts. -/
import Derived.Test.YticfhgfgobafbaaGreatHeapCm
set_option linter.all false
namespace Go.V
open Go Go.Proofs
set_option maxRecDepth 1000000
set_option maxHeartbeats 8000000
namespace La0
structure aO where
 inR:Int->Int->Int->Bool
 clsSz:Int->Int
abbrev F0 :aO:=⟨inR,clsSz⟩
def ct (F:aO):CT:=fun f ds=>match f,ds with
 |162,[.one (.v (.int .i64 k))]=>some (fun _=>True,[.k (F.inR k 0 3)])
 |163,[.one (.v (.int .i64 k))]=>some (fun _=>True,[.j (F.clsSz k)])
 |71,[.one (.v (.int .i64 x)),.one (.v (.int .i64 a)),.one (.v (.int .i64 b))]=>some (fun _=>True,[.k (F.inR x a b)])
 |_,_=>none
theorem aj :aR (ct F0):=by
 intro f ds pre res h hp;unfold ct at h;split at h<;>cases h
 exact dt hp;exact cZ hp;exact ba hp
abbrev B :cD:=tb aj
end La0
theorem fj {k:Int}(hp:True):ao 110 [.j k] [.j (slN k)]:=by
 refine cb La0.B Tryz.func110 ?_
 intro O r F hO hr hF;cbv
 repeat' first|apply And.intro|(apply bi<;>intro hb<;>cbv)
 all_goals(subst hO hr hF;(try simp only[nc]at*);(try simp only[ai,SS,sa,az]at*))
 all_goals first
  | (show(_:List DV)=_
     first
      |exact cr (C0 (by assumption))
      |exact cr (yd (by assumption)).symm
      |done)
  |(have:=fu (k:=k) (by assumption);omega)
  |done
theorem qC {k:Int}(hp:True):ao 200 [.j k] [.j (slN k)]:=by
 refine cb La0.B Tryz.func200 ?_
 intro O r F hO hr hF;cbv
 repeat' first|apply And.intro|(apply bi<;>intro hb<;>cbv)
 all_goals(subst hO hr hF;(try simp only[nc]at*);(try simp only[ai,SS,sa,az]at*))
 all_goals first
  | (show(_:List DV)=_
     first
      |exact cr (C3 (by assumption))
      |exact cr (yd (by assumption)).symm
      |done)
  |(rcases DU (k:=k) (by assumption)with rfl|rfl|rfl|rfl<;>decide)
  |done
namespace La1
structure aO where
 inR:Int->Int->Int->Bool
abbrev F0 :aO:=⟨inR⟩
def ct (F:aO):CT:=fun f ds=>match f,ds with
 |87,[.one (.v (.int .i64 x)),.one (.v (.int .i64 a)),.one (.v (.int .i64 b))]=>some (fun _=>True,[.k (F.inR x a b)])
 |71,[.one (.v (.int .i64 x)),.one (.v (.int .i64 a)),.one (.v (.int .i64 b))]=>some (fun _=>True,[.k (F.inR x a b)])
 |_,_=>none
theorem aj :aR (ct F0):=by
 intro f ds pre res h hp;unfold ct at h;split at h<;>cases h
 exact aU hp;exact ba hp
abbrev B :cD:=tb aj
end La1
theorem nK {n b:Int}(hp:True):ao 206 [.j n,.j b] [.k (bmOk n b)]:=by
 refine cb La1.B Tryz.func206 ?_
 intro O r F hO hr hF;cbv
 repeat' first|apply And.intro|(apply bi<;>intro hb<;>cbv)
 all_goals(subst hO hr hF;(try simp only[nc]at*);(try simp only[ai,SS,sa,az]at*);(try(have e:=CZ (n:=n) (by assumption);simp only[e.1])))
 all_goals first
  | (show(_:List DV)=_
     first
      |exact ag (AW (by assumption)).symm
      |exact ag (E7 (by assumption)).symm
      |done)
  |(have:=bW.1 (‹inR n 1 16=true›);omega)
  |done
theorem oL {n b:Int}(hp:True):ao 199 [.j n,.j b] [.k (bmOk n b)]:=by
 refine cb La1.B Tryz.func199 ?_
 intro O r F hO hr hF;cbv
 repeat' first|apply And.intro|(apply bi<;>intro hb<;>cbv)
 all_goals(subst hO hr hF;(try simp only[nc]at*);(try simp only[ai,SS,sa,az]at*);(try(have e:=CZ (n:=n) (by assumption);simp only[e.2.1])))
 all_goals first
  | (show(_:List DV)=_
     first
      |exact ag (AW (by assumption)).symm
      |exact ag (E7 (by assumption)).symm
      |done)
  |exact(CZ (by assumption)).2.2
  |done
namespace La2
structure aO where
 inR:Int->Int->Int->Bool
 slN:Int->Int
 bmOk:Int->Int->Bool
abbrev F0 :aO:=⟨inR,slN,bmOk⟩
def ct (F:aO):CT:=fun f ds=>match f,ds with
 |87,[.one (.v (.int .i64 x)),.one (.v (.int .i64 a)),.one (.v (.int .i64 b))]=>some (fun _=>True,[.k (F.inR x a b)])
 |162,[.one (.v (.int .i64 k))]=>some (fun _=>True,[.k (F.inR k 0 3)])
 |110,[.one (.v (.int .i64 k))]=>some (fun _=>True,[.j (F.slN k)])
 |206,[.one (.v (.int .i64 n)),.one (.v (.int .i64 b))]=>some (fun _=>True,[.k (F.bmOk n b)])
 |71,[.one (.v (.int .i64 x)),.one (.v (.int .i64 a)),.one (.v (.int .i64 b))]=>some (fun _=>True,[.k (F.inR x a b)])
 |200,[.one (.v (.int .i64 k))]=>some (fun _=>True,[.j (F.slN k)])
 |199,[.one (.v (.int .i64 n)),.one (.v (.int .i64 b))]=>some (fun _=>True,[.k (F.bmOk n b)])
 |_,_=>none
theorem aj :aR (ct F0):=by
 intro f ds pre res h hp;unfold ct at h;split at h<;>cases h
 exact aU hp;exact dt hp;exact fj hp;exact nK hp;exact ba hp;exact qC hp;exact oL hp
abbrev B :cD:=tb aj
end La2
theorem f8 {p k b:Int}(hp:True):ao 153 [.agg [.i p,.i k,.i b]] [.k (spOk p k b)]:=by
 refine cb La2.B Tryz.func153 ?_
 intro O r F hO hr hF;cbv
 repeat' first|apply And.intro|(apply bi<;>intro hb<;>cbv)
 all_goals(subst hO hr hF;(try simp only[nc]at*);(try simp only[ai,SS,sa,az]at*))
 all_goals first
  | (show(_:List DV)=_
     first
      |exact ag (C6 (by assumption)).symm
      |exact ag (C5 (by assumption)).symm
      |exact ag (Io (by assumption)).symm
      |done)
  |(show bz _ _=true;kernel_rfl)
  |done
theorem gd {p k b:Int}(hp:True):ao 138 [.agg [.i p,.i k,.i b]] [.k (spOk p k b)]:=by
 refine cb La2.B Tryz.func138 ?_
 intro O r F hO hr hF;cbv
 repeat' first|apply And.intro|(apply bi<;>intro hb<;>cbv)
 all_goals(subst hO hr hF;(try simp only[nc]at*);(try simp only[ai,SS,sa,az]at*))
 all_goals first
  | (show(_:List DV)=_
     first
      |exact ag (C6 (by assumption)).symm
      |exact ag (C5 (by assumption)).symm
      |done)
  |(show bz _ _=true;kernel_rfl)
  |done
theorem nP {s:Int}(hp:True):ao 207 [.j s] [.j (pfN s)]:=by
 refine cb La1.B Tryz.func207 ?_
 exact LN
theorem oP {s:Int}(hp:True):ao 201 [.j s] [.j (pfN s)]:=by
 refine cb La1.B Tryz.func201 ?_
 exact LN
namespace La3
structure aO where
 inR:Int->Int->Int->Bool
 pfN:Int->Int
abbrev F0 :aO:=⟨inR,pfN⟩
def ct (F:aO):CT:=fun f ds=>match f,ds with
 |87,[.one (.v (.int .i64 x)),.one (.v (.int .i64 a)),.one (.v (.int .i64 b))]=>some (fun _=>True,[.k (F.inR x a b)])
 |207,[.one (.v (.int .i64 s))]=>some (fun _=>True,[.j (F.pfN s)])
 |201,[.one (.v (.int .i64 s))]=>some (fun _=>True,[.j (F.pfN s)])
 |71,[.one (.v (.int .i64 x)),.one (.v (.int .i64 a)),.one (.v (.int .i64 b))]=>some (fun _=>True,[.k (F.inR x a b)])
 |_,_=>none
theorem aj :aR (ct F0):=by
 intro f ds pre res h hp;unfold ct at h;split at h<;>cases h
 exact aU hp;exact nP hp;exact oP hp;exact ba hp
abbrev B :cD:=tb aj
end La3
theorem iN {p n s:Int}(hp:True):ao 154 [.agg [.i p,.i n,.i s]] [.k (lgOk p n s)]:=by
 refine cb La3.B Tryz.func154 ?_
 intro O r F hO hr hF;cbv
 repeat' first|apply And.intro|(apply bi<;>intro hb<;>cbv)
 all_goals(subst hO hr hF;(try simp only[nc]at*);(try simp only[ai,SS,sa,az]at*))
 all_goals first
  | (show(_:List DV)=_
     first
      |(have b:=fJ (s:=s) (by assumption);rw[show bP .sub .i64 32 n=32-n from cR (by omega)];exact ag (BV (by assumption) (by assumption)).symm)
      |exact ag (BS (by assumption)).symm
      |exact ag (BU (by assumption)).symm
      |done)
  |(show bz _ _=true;kernel_rfl)
  |done
theorem iR {p n s:Int}(hp:True):ao 139 [.agg [.i p,.i n,.i s]] [.k (lgOk p n s)]:=by
 refine cb La3.B Tryz.func139 ?_
 intro O r F hO hr hF;cbv
 repeat' first|apply And.intro|(apply bi<;>intro hb<;>cbv)
 all_goals(subst hO hr hF;(try simp only[nc]at*);(try simp only[ai,SS,sa,az]at*))
 all_goals first
  | (show(_:List DV)=_
     first
      |(have q:=Cv.1 (‹0<pfN s›);have b:=fJ q;rw[show bP .sub .i64 32 (pfN s)=32-pfN s from cR (by omega), ‹n=pfN s›];exact ag (BV q rfl).symm)
      |(refine ag (BS ?_).symm;cases q:inR s 9 1000;rfl;have:=Cv.2 q;omega)
      |exact ag (BU (by assumption)).symm
      |done)
  |done
namespace La4
structure aO where
 inR:Int->Int->Int->Bool
 spOk:Int->Int->Int->Bool
 clsSz:Int->Int
 slN:Int->Int
 lgOk:Int->Int->Int->Bool
abbrev F0 :aO:=⟨inR,spOk,clsSz,slN,lgOk⟩
def ct (F:aO):CT:=fun f ds=>match f,ds with
 |87,[.one (.v (.int .i64 x)),.one (.v (.int .i64 a)),.one (.v (.int .i64 b))]=>some (fun _=>True,[.k (F.inR x a b)])
 |153,[.agg [.v (.int .i64 p),.v (.int .i64 k),.v (.int .i64 b)]]=>some (fun _=>True,[.k (F.spOk p k b)])
 |163,[.one (.v (.int .i64 k))]=>some (fun _=>True,[.j (F.clsSz k)])
 |110,[.one (.v (.int .i64 k))]=>some (fun _=>True,[.j (F.slN k)])
 |154,[.agg [.v (.int .i64 p),.v (.int .i64 n),.v (.int .i64 s)]]=>some (fun _=>True,[.k (F.lgOk p n s)])
 |138,[.agg [.v (.int .i64 p),.v (.int .i64 k),.v (.int .i64 b)]]=>some (fun _=>True,[.k (F.spOk p k b)])
 |146,[.one (.v (.int .i64 k))]=>some (fun _=>True,[.j (F.clsSz k)])
 |139,[.agg [.v (.int .i64 p),.v (.int .i64 n),.v (.int .i64 s)]]=>some (fun _=>True,[.k (F.lgOk p n s)])
 |_,_=>none
theorem aj :aR (ct F0):=by
 intro f ds pre res h hp;unfold ct at h;split at h<;>cases h
 exact aU hp;exact f8 hp;exact cZ hp;exact fj hp;exact iN hp;exact gd hp;exact eu hp;exact iR hp
abbrev B :cD:=tb aj
end La4
theorem sg {p k b a:Int}(hp:True):ao 210 [.agg [.i p,.i k,.i b],.j a] [.j (saS p k b a),.j (saO p k b a)]:=by
 refine cb La4.B Tryz.func210 ?_
 intro O r F hO hr hF;cbv
 repeat' first|apply And.intro|(apply bi<;>intro hb<;>cbv)
 all_goals(subst hO hr hF;(try simp only[nc]at*);(try simp only[ai,SS,sa,az]at*);(try(have t:=ic (p:=p) (k:=k) (b:=b) (by assumption);have c:=fu t.2.2.1;have e:=KL (p:=p) ⟨t.1,t.2.1⟩;try simp only[e.1,e.2]at*)))
 all_goals first
  | (show(_:List DV)=_
     first
      |(have q:=EC (p:=p) (k:=k) (b:=b) (a:=a) (by assumption) (by assumption);exact qQ q.1.symm q.2.symm)
      |(have q:=tT (Ge (p:=p) (k:=k) (b:=b) (a:=a) (by assumption));exact qQ q.1.symm q.2.symm)
      |(have q:=tT (Ln (p:=p) (k:=k) (b:=b) (a:=a) (by assumption));exact qQ q.1.symm q.2.symm)
      |done)
  |(show bz _ _=true;kernel_rfl)
  |omega
  |done
theorem sP {p k b a:Int}(hp:(-9223372036854775808<=a/\a<=9223372036854775807)):ao 175 [.agg [.i p,.i k,.i b],.j a] [.j (saS p k b a),.j (saO p k b a)]:=by
 refine cb La4.B Tryz.func175 ?_
 intro O r F hO hr hF;cbv
 repeat' first|apply And.intro|(apply bi<;>intro hb<;>cbv)
 all_goals(subst hO hr hF;(try simp only[nc]at*);(try simp only[ai,SS,sa,az]at*);(try(have t:=ic (p:=p) (k:=k) (b:=b) (by assumption);have c:=fu t.2.2.1)))
 all_goals first
  | (show(_:List DV)=_
     first
      |(have q:=ED (p:=p) (k:=k) (b:=b) (a:=a) (by assumption) (by omega) (by assumption) (by omega);exact qQ q.1.symm q.2.symm)
      |(have q:=tT (Ge (p:=p) (k:=k) (b:=b) (a:=a) (by assumption));exact qQ q.1.symm q.2.symm)
      |(have q:=tT (Gf (p:=p) (k:=k) (b:=b) (a:=a) (.inl (by omega)) (by omega));exact qQ q.1.symm q.2.symm)
      |(have q:=tT (Gf (p:=p) (k:=k) (b:=b) (a:=a) (.inr (by assumption)) (by omega));exact qQ q.1.symm q.2.symm)
      |done)
  |(show bz _ _=true;kernel_rfl)
  |omega
  |done
theorem nS {p k b s:Int}(hp:True):ao 112 [.agg [.i p,.i k,.i b],.j s] [.j (aaI p k b s)]:=by
 refine cb La4.B Tryz.func112 ?_
 intro O r F hO hr hF;cbv
 repeat' first|apply And.intro|(apply bi<;>intro hb<;>cbv)
 all_goals(subst hO hr hF;(try simp only[nc]at*);(try simp only[ai,SS,sa,az]at*);(try(have t:=ic (p:=p) (k:=k) (b:=b) (by assumption);have c:=fu t.2.2.1;have e:bP .sub .i64 (slN k) 1=slN k-1:=cR (by omega);try simp only[e]at*)))
 all_goals first
  | (show(_:List DV)=_
     first
      |exact cr (GG (by assumption) (by assumption))
      |exact cr (E4 (.inl (by assumption))).symm
      |exact cr (E4 (.inr (by assumption))).symm
      |done)
  |(show bz _ _=true;kernel_rfl)
  |done
theorem io {p n s a:Int}(hp:True):ao 211 [.agg [.i p,.i n,.i s],.j a] [.k (lhB p n s a)]:=by
 refine cb La4.B Tryz.func211 ?_
 intro O r F hO hr hF;cbv
 repeat' first|apply And.intro|(apply bi<;>intro hb<;>cbv)
 all_goals(subst hO hr hF;(try simp only[nc]at*);(try simp only[ai,SS,sa,az]at*);(try(have e:=BW (p:=p) (n:=n) (s:=s) (by assumption);try simp only[e.2.2])))
 all_goals first
  | (show(_:List DV)=_
     first
      |(rw[e.1];exact ag (xO (by assumption)).symm)
      |exact ag (BX (by assumption)).symm
      |done)
  |done
theorem iu {p n s a:Int}(hp:True):ao 177 [.agg [.i p,.i n,.i s],.j a] [.k (lhB p n s a)]:=by
 refine cb La4.B Tryz.func177 ?_
 intro O r F hO hr hF;cbv
 repeat' first|apply And.intro|(apply bi<;>intro hb<;>cbv)
 all_goals(subst hO hr hF;(try simp only[nc]at*);(try simp only[ai,SS,sa,az]at*);(try(have e:=BW (p:=p) (n:=n) (s:=s) (by assumption);try simp only[e.1]at*)))
 all_goals first
  | (show(_:List DV)=_
     first
      |exact ag (BX (by assumption)).symm
      |(refine ag (dr ?_);rw[xO (by assumption),bW];simp only[SS,cp,decide_eq_true_eq];omega)
      |(refine ag (dr ?_);rw[xO (by assumption),bW];simp only[Bool.false_eq_true,false_iff];omega)
      |done)
  |done
namespace La5
structure aO where
 lhB:Int->Int->Int->Int->Bool
abbrev F0 :aO:=⟨lhB⟩
def ct (F:aO):CT:=fun f ds=>match f,ds with
 |211,[.agg [.v (.int .i64 p),.v (.int .i64 n),.v (.int .i64 s)],.one (.v (.int .i64 a))]=>some (fun _=>True,[.k (F.lhB p n s a)])
 |177,[.agg [.v (.int .i64 p),.v (.int .i64 n),.v (.int .i64 s)],.one (.v (.int .i64 a))]=>some (fun _=>True,[.k (F.lhB p n s a)])
 |_,_=>none
theorem aj :aR (ct F0):=by
 intro f ds pre res h hp;unfold ct at h;split at h<;>cases h
 exact io hp;exact iu hp
abbrev B :cD:=tb aj
end La5
theorem kg {p n s a:Int}(hp:True):ao 212 [.agg [.i p,.i n,.i s],.j a] [.j (loI p n s a)]:=by
 refine cb La5.B Tryz.func212 ?_
 exact LO
theorem kj {p n s a:Int}(hp:True):ao 178 [.agg [.i p,.i n,.i s],.j a] [.j (loI p n s a)]:=by
 refine cb La5.B Tryz.func178 ?_
 exact LO
end Go.V