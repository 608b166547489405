/- Contracts. -/
import Derived.Test.YtcodmgmliopheaaGreatXHeapCt
set_option linter.all false
open Go
open And renaming intro->By
namespace Go.V
open Go Go.Proofs
set_option maxRecDepth 1000000
set_option maxHeartbeats 8000000
abbrev La0 :cW:=eF (fun F f=>match f with|245=>dJ F|114=>bF F|89=>aj F|_=>fun _=>none) (by
 intro f;dsimp only;split;exact fm;exact du;exact bC;exact cX)
def dI :EC:=fun F=>fun
 |[.one (.v (.int .i64 k))]=>some (fun _=>True,[.j (F.slN k)])
 |_=>none
theorem lP :ec 352 dI:=by
 intro _ _ _ h hp;dsimp only[dI,F0]at h;split at h<;>cases h
 rename_i k;refine cb La0 Tryz.func352 ?_
 intro O r F hO hr hF;cbv
 repeat' first|apply By|(apply bD<;>intro hb<;>cbv)
 all_goals(subst hO hr hF;(try simp only[nc]at*);(try simp only[ah,SS,sa,az]at*))
 all_goals first
  | (show(_:List DV)=_
     first
      |exact dZ (Of (by assumption))
      |exact dZ (Ix (by assumption)).symm
      |done)
  |(have:=ma (k:=k) (by assumption);omega)
  |done
theorem zT :ec 370 dI:=by
 intro _ _ _ h hp;dsimp only[dI,F0]at h;split at h<;>cases h
 rename_i k;refine cb La0 Tryz.func370 ?_
 intro O r F hO hr hF;cbv
 repeat' first|apply By|(apply bD<;>intro hb<;>cbv)
 all_goals(subst hO hr hF;(try simp only[nc]at*);(try simp only[ah,SS,sa,az]at*))
 all_goals first
  | (show(_:List DV)=_
     first
      |exact dZ (Og (by assumption))
      |exact dZ (Ix (by assumption)).symm
      |done)
  |(rcases Po (k:=k) (by assumption)with rfl|rfl|rfl|rfl<;>decide)
  |done
abbrev La1 :cW:=eF (fun F f=>match f with|91=>aj F|89=>aj F|_=>fun _=>none) (by
 intro f;dsimp only;split;exact bu;exact bC;exact cX)
def eH :EC:=fun F=>fun
 |[.one (.v (.int .i64 n)),.one (.v (.int .i64 b))]=>some (fun _=>True,[.k (F.bmOk n b)])
 |_=>none
theorem wZ :ec 381 eH:=by
 intro _ _ _ h hp;dsimp only[eH,F0]at h;split at h<;>cases h
 rename_i n b;refine cb La1 Tryz.func381 ?_
 intro O r F hO hr hF;cbv
 repeat' first|apply By|(apply bD<;>intro hb<;>cbv)
 all_goals(subst hO hr hF;(try simp only[nc]at*);(try simp only[ah,SS,sa,az]at*);(try(have e:=Oe (n:=n) (by assumption);simp only[e.1])))
 all_goals first
  | (show(_:List DV)=_
     first
      |exact ai (LB (by assumption)).symm
      |exact ai (Q4 (by assumption)).symm
      |done)
  |(have:=bP.1 (‹inR n 1 16=true›);omega)
  |done
theorem x6 :ec 369 eH:=by
 intro _ _ _ h hp;dsimp only[eH,F0]at h;split at h<;>cases h
 rename_i n b;refine cb La1 Tryz.func369 ?_
 intro O r F hO hr hF;cbv
 repeat' first|apply By|(apply bD<;>intro hb<;>cbv)
 all_goals(subst hO hr hF;(try simp only[nc]at*);(try simp only[ah,SS,sa,az]at*);(try(have e:=Oe (n:=n) (by assumption);simp only[e.2.1])))
 all_goals first
  | (show(_:List DV)=_
     first
      |exact ai (LB (by assumption)).symm
      |exact ai (Q4 (by assumption)).symm
      |done)
  |exact(Oe (by assumption)).2.2
  |done
abbrev La2 :cW:=eF (fun F f=>match f with|91=>aj F|245=>dJ F|352=>dI F|381=>eH F|89=>aj F|370=>dI F|369=>eH F|_=>fun _=>none) (by
 intro f;dsimp only;split;exact bu;exact fm;exact lP;exact wZ;exact bC;exact zT;exact x6;exact cX)
def bY :EC:=fun F=>fun
 |[.agg [.v (.int .i64 p),.v (.int .i64 k),.v (.int .i64 b)]]=>some (fun _=>True,[.k (F.spOk p k b)])
 |_=>none
theorem gZ :ec 287 bY:=by
 intro _ _ _ h hp;dsimp only[bY,F0]at h;split at h<;>cases h
 rename_i p k b;refine cb La2 Tryz.func287 ?_
 intro O r F hO hr hF;cbv
 repeat' first|apply By|(apply bD<;>intro hb<;>cbv)
 all_goals(subst hO hr hF;(try simp only[nc]at*);(try simp only[ah,SS,sa,az]at*))
 all_goals first
  | (show(_:List DV)=_
     first
      |exact ai (Ol (by assumption)).symm
      |exact ai (Oj (by assumption)).symm
      |exact ai (V2 (by assumption)).symm
      |done)
  |(show aP _ _=true;kernel_rfl)
  |done
theorem hD :ec 265 bY:=by
 intro _ _ _ h hp;dsimp only[bY,F0]at h;split at h<;>cases h
 rename_i p k b;refine cb La2 Tryz.func265 ?_
 intro O r F hO hr hF;cbv
 repeat' first|apply By|(apply bD<;>intro hb<;>cbv)
 all_goals(subst hO hr hF;(try simp only[nc]at*);(try simp only[ah,SS,sa,az]at*))
 all_goals first
  | (show(_:List DV)=_
     first
      |exact ai (Ol (by assumption)).symm
      |exact ai (Oj (by assumption)).symm
      |done)
  |(show aP _ _=true;kernel_rfl)
  |done
def eM :EC:=fun F=>fun
 |[.one (.v (.int .i64 s))]=>some (fun _=>True,[.j (F.pfN s)])
 |_=>none
theorem xh :ec 255 eM:=by
 intro _ _ _ h hp;dsimp only[eM,F0]at h;split at h<;>cases h
 rename_i s;refine cb La1 Tryz.func255 ?_
 exact aa3
theorem yb :ec 348 eM:=by
 intro _ _ _ h hp;dsimp only[eM,F0]at h;split at h<;>cases h
 rename_i s;refine cb La1 Tryz.func348 ?_
 exact aa3
abbrev La3 :cW:=eF (fun F f=>match f with|91=>aj F|255=>eM F|348=>eM F|89=>aj F|_=>fun _=>none) (by
 intro f;dsimp only;split;exact bu;exact xh;exact yb;exact bC;exact cX)
def dH :EC:=fun F=>fun
 |[.agg [.v (.int .i64 p),.v (.int .i64 n),.v (.int .i64 s)]]=>some (fun _=>True,[.k (F.lgOk p n s)])
 |_=>none
theorem qz :ec 288 dH:=by
 intro _ _ _ h hp;dsimp only[dH,F0]at h;split at h<;>cases h
 rename_i p n s;refine cb La3 Tryz.func288 ?_
 intro O r F hO hr hF;cbv
 repeat' first|apply By|(apply bD<;>intro hb<;>cbv)
 all_goals(subst hO hr hF;(try simp only[nc]at*);(try simp only[ah,SS,sa,az]at*))
 all_goals first
  | (show(_:List DV)=_
     first
      |(have b:=na (s:=s) (by assumption);rw[show bR .sub .i64 32 n=32-n from dD (by omega)];exact ai (M4 (by assumption) (by assumption)).symm)
      |exact ai (M2 (by assumption)).symm
      |exact ai (M3 (by assumption)).symm
      |done)
  |(show aP _ _=true;kernel_rfl)
  |done
theorem qF :ec 267 dH:=by
 intro _ _ _ h hp;dsimp only[dH,F0]at h;split at h<;>cases h
 rename_i p n s;refine cb La3 Tryz.func267 ?_
 intro O r F hO hr hF;cbv
 repeat' first|apply By|(apply bD<;>intro hb<;>cbv)
 all_goals(subst hO hr hF;(try simp only[nc]at*);(try simp only[ah,SS,sa,az]at*))
 all_goals first
  | (show(_:List DV)=_
     first
      |(have q:=NG.1 (‹0<pfN s›);have b:=na q;rw[show bR .sub .i64 32 (pfN s)=32-pfN s from dD (by omega), ‹n=pfN s›];exact ai (M4 q rfl).symm)
      |(refine ai (M2 ?_).symm;cases q:inR s 9 1000;rfl;have:=NG.2 q;omega)
      |exact ai (M3 (by assumption)).symm
      |done)
  |done
abbrev WH :cW:=eF (fun F f=>match f with|91=>aj F|287=>bY F|114=>bF F|352=>dI F|288=>dH F|265=>bY F|236=>bF F|267=>dH F|_=>fun _=>none) (by
 intro f;dsimp only;split;exact bu;exact gZ;exact du;exact lP;exact qz;exact hD;exact fo;exact qF;exact cX)
def nR :EC:=fun F=>fun
 |[.agg [.v (.int .i64 p),.v (.int .i64 k),.v (.int .i64 b)],.one (.v (.int .i64 a))]=>some (fun _=>True,[.j (F.saS p k b a),.j (F.saO p k b a)])
 |_=>none
theorem B4 :ec 322 nR:=by
 intro _ _ _ h hp;dsimp only[nR,F0]at h;split at h<;>cases h
 rename_i p k b a;refine cb WH Tryz.func322 ?_
 intro O r F hO hr hF;cbv
 repeat' first|apply By|(apply bD<;>intro hb<;>cbv)
 all_goals(subst hO hr hF;(try simp only[nc]at*);(try simp only[ah,SS,sa,az]at*);(try(have t:=nh (p:=p) (k:=k) (b:=b) (by assumption);have c:=ma t.2.2.1;have e:=Zn (p:=p) ⟨t.1,t.2.1⟩;try simp only[e.1,e.2]at*)))
 all_goals first
  | (show(_:List DV)=_
     first
      |(have q:=Qp (p:=p) (k:=k) (b:=b) (a:=a) (by assumption) (by assumption);exact Aw q.1.symm q.2.symm)
      |(have q:=Du (SZ (p:=p) (k:=k) (b:=b) (a:=a) (by assumption));exact Aw q.1.symm q.2.symm)
      |(have q:=Du (aaa (p:=p) (k:=k) (b:=b) (a:=a) (by assumption));exact Aw q.1.symm q.2.symm)
      |done)
  |(show aP _ _=true;kernel_rfl)
  |omega
  |done
def j3 :EC:=fun F=>fun
 |[.agg [.v (.int .i64 p),.v (.int .i64 k),.v (.int .i64 b)],.one (.v (.int .i64 a))]=>some (fun _=>(-9223372036854775808<=a/\a<=9223372036854775807),[.j (F.saS p k b a),.j (F.saO p k b a)])
 |_=>none
theorem sk :ec 318 j3:=by
 intro _ _ _ h hp;dsimp only[j3,F0]at h;split at h<;>cases h
 rename_i p k b a;refine cb WH Tryz.func318 ?_
 intro O r F hO hr hF;cbv
 repeat' first|apply By|(apply bD<;>intro hb<;>cbv)
 all_goals(subst hO hr hF;(try simp only[nc]at*);(try simp only[ah,SS,sa,az]at*);(try(have t:=nh (p:=p) (k:=k) (b:=b) (by assumption);have c:=ma t.2.2.1)))
 all_goals first
  | (show(_:List DV)=_
     first
      |(have q:=Qq (p:=p) (k:=k) (b:=b) (a:=a) (by assumption) (by omega) (by assumption) (by omega);exact Aw q.1.symm q.2.symm)
      |(have q:=Du (SZ (p:=p) (k:=k) (b:=b) (a:=a) (by assumption));exact Aw q.1.symm q.2.symm)
      |(have q:=Du (S7 (p:=p) (k:=k) (b:=b) (a:=a) (.inl (by omega)) (by omega));exact Aw q.1.symm q.2.symm)
      |(have q:=Du (S7 (p:=p) (k:=k) (b:=b) (a:=a) (.inr (by assumption)) (by omega));exact Aw q.1.symm q.2.symm)
      |done)
  |(show aP _ _=true;kernel_rfl)
  |omega
  |done
def ky :EC:=fun F=>fun
 |[.agg [.v (.int .i64 p),.v (.int .i64 k),.v (.int .i64 b)],.one (.v (.int .i64 s))]=>some (fun _=>True,[.j (F.aaI p k b s)])
 |_=>none
theorem xk :ec 355 ky:=by
 intro _ _ _ h hp;dsimp only[ky,F0]at h;split at h<;>cases h
 rename_i p k b s;refine cb WH Tryz.func355 ?_
 intro O r F hO hr hF;cbv
 repeat' first|apply By|(apply bD<;>intro hb<;>cbv)
 all_goals(subst hO hr hF;(try simp only[nc]at*);(try simp only[ah,SS,sa,az]at*);(try(have t:=nh (p:=p) (k:=k) (b:=b) (by assumption);have c:=ma t.2.2.1;have e:bR .sub .i64 (slN k) 1=slN k-1:=dD (by omega);try simp only[e]at*)))
 all_goals first
  | (show(_:List DV)=_
     first
      |exact dZ (TQ (by assumption) (by assumption))
      |exact dZ (Q0 (.inl (by assumption))).symm
      |exact dZ (Q0 (.inr (by assumption))).symm
      |done)
  |(show aP _ _=true;kernel_rfl)
  |done
def dk :EC:=fun F=>fun
 |[.agg [.v (.int .i64 p),.v (.int .i64 n),.v (.int .i64 s)],.one (.v (.int .i64 a))]=>some (fun _=>True,[.k (F.lhB p n s a)])
 |_=>none
theorem pO :ec 323 dk:=by
 intro _ _ _ h hp;dsimp only[dk,F0]at h;split at h<;>cases h
 rename_i p n s a;refine cb WH Tryz.func323 ?_
 intro O r F hO hr hF;cbv
 repeat' first|apply By|(apply bD<;>intro hb<;>cbv)
 all_goals(subst hO hr hF;(try simp only[nc]at*);(try simp only[ah,SS,sa,az]at*);(try(have e:=M5 (p:=p) (n:=n) (s:=s) (by assumption);try simp only[e.2.2])))
 all_goals first
  | (show(_:List DV)=_
     first
      |(rw[e.1];exact ai (H3 (by assumption)).symm)
      |exact ai (M6 (by assumption)).symm
      |done)
  |done
theorem pX :ec 372 dk:=by
 intro _ _ _ h hp;dsimp only[dk,F0]at h;split at h<;>cases h
 rename_i p n s a;refine cb WH Tryz.func372 ?_
 intro O r F hO hr hF;cbv
 repeat' first|apply By|(apply bD<;>intro hb<;>cbv)
 all_goals(subst hO hr hF;(try simp only[nc]at*);(try simp only[ah,SS,sa,az]at*);(try(have e:=M5 (p:=p) (n:=n) (s:=s) (by assumption);try simp only[e.1]at*)))
 all_goals first
  | (show(_:List DV)=_
     first
      |exact ai (M6 (by assumption)).symm
      |(refine ai (gY ?_);rw[H3 (by assumption),bP];simp only[SS,dx,decide_eq_true_eq];omega)
      |(refine ai (gY ?_);rw[H3 (by assumption),bP];simp only[Bool.false_eq_true,false_iff];omega)
      |done)
  |done
abbrev La5 :cW:=eF (fun F f=>match f with|323=>dk F|372=>dk F|_=>fun _=>none) (by
 intro f;dsimp only;split;exact pO;exact pX;exact cX)
def dz :EC:=fun F=>fun
 |[.agg [.v (.int .i64 p),.v (.int .i64 n),.v (.int .i64 s)],.one (.v (.int .i64 a))]=>some (fun _=>True,[.j (F.loI p n s a)])
 |_=>none
theorem sx :ec 324 dz:=by
 intro _ _ _ h hp;dsimp only[dz,F0]at h;split at h<;>cases h
 rename_i p n s a;refine cb La5 Tryz.func324 ?_
 exact aa4
theorem sG :ec 373 dz:=by
 intro _ _ _ h hp;dsimp only[dz,F0]at h;split at h<;>cases h
 rename_i p n s a;refine cb La5 Tryz.func373 ?_
 exact aa4
end Go.V