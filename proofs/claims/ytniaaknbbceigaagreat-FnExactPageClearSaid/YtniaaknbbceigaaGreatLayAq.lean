/-
  Contracts, by evaluation.
-/
import Derived.Test.YtniaaknbbceigaaGreatS10
import Derived.Test.YtniaaknbbceigaaGreatHA
import Derived.Test.YtniaaknbbceigaaGreatHeapCq
set_option linter.all false
namespace Go.V
open Go Go.Proofs
set_option maxRecDepth 1000000
set_option maxHeartbeats 8000000
namespace La0
structure Fns where
 inR:Int->Int->Int->Bool
 clsSz:Int->Int
def F0 :Fns:=⟨inR,clsSz⟩
def ct (F:Fns):CT:=fun f ds=>match f,ds with
 |187,[.one (.v (.int .i64 k))]=>some (fun _=>True,[.one (.v (.bool (F.inR k 0 3)))])
 |95,[.one (.v (.int .i64 k))]=>some (fun _=>True,[.one (.v (.int .i64 (F.clsSz k)))])
 |126,[.one (.v (.int .i64 x)),.one (.v (.int .i64 a)),.one (.v (.int .i64 b))]=>some (fun _=>True,[.one (.v (.bool (F.inR x a b)))])
 |_,_=>none
theorem ak :aW Tryz.prog (ct F0):=by
 intro f ds pre res h hp;unfold ct at h;split at h<;>(try split at h)<;>cases h
 exact dK _ hp;exact bU _ hp;exact aU _ _ _ hp
def B :TB Tryz.prog:=tb ak
end La0
theorem gh (k:Int)(hp:True):aP Tryz.prog 251 [.one (.v (.int .i64 k))] [.one (.v (.int .i64 (slN k)))]:=by
 refine ai La0.B ag mixed 9 _ [3] [.tmp 2] Tryz.func251 rfl rfl rfl rfl rfl ?_;intro O r (F:La0.Fns) hO hr (hF:F=La0.F0);cbv
 repeat' first|refine And.intro ?_ ?_|(refine aG (fun hb=>?_) (fun hb=>?_)<;>cbv)
 all_goals(subst hO hr hF;(try simp only[af,SS,sa,az]at*);(try simp only[nc]at*);(try simp only[aF]at*))
 all_goals(try simp only[La0.F0]at*)
 all_goals first
  | (show(_:List DV)=_
     first
      |exact bj (Gn (by assumption))
      |exact bj (Af (by assumption)).symm
      |done)
  |(have:=fE (k:=k) (by assumption);omega)
  |done
theorem se (k:Int)(hp:True):aP Tryz.prog 245 [.one (.v (.int .i64 k))] [.one (.v (.int .i64 (slN k)))]:=by
 refine ai La0.B ag mixed 9 _ [3] [.tmp 2] Tryz.func245 rfl rfl rfl rfl rfl ?_;intro O r (F:La0.Fns) hO hr (hF:F=La0.F0);cbv
 repeat' first|refine And.intro ?_ ?_|(refine aG (fun hb=>?_) (fun hb=>?_)<;>cbv)
 all_goals(subst hO hr hF;(try simp only[af,SS,sa,az]at*);(try simp only[nc]at*);(try simp only[aF]at*))
 all_goals(try simp only[La0.F0]at*)
 all_goals first
  | (show(_:List DV)=_
     first
      |exact bj (Gp (by assumption))
      |exact bj (Af (by assumption)).symm
      |done)
  |(rcases Hj (k:=k) (by assumption)with rfl|rfl|rfl|rfl<;>decide)
  |done
namespace La1
structure Fns where
 inR:Int->Int->Int->Bool
def F0 :Fns:=⟨inR⟩
def ct (F:Fns):CT:=fun f ds=>match f,ds with
 |152,[.one (.v (.int .i64 x)),.one (.v (.int .i64 a)),.one (.v (.int .i64 b))]=>some (fun _=>True,[.one (.v (.bool (F.inR x a b)))])
 |126,[.one (.v (.int .i64 x)),.one (.v (.int .i64 a)),.one (.v (.int .i64 b))]=>some (fun _=>True,[.one (.v (.bool (F.inR x a b)))])
 |_,_=>none
theorem ak :aW Tryz.prog (ct F0):=by
 intro f ds pre res h hp;unfold ct at h;split at h<;>(try split at h)<;>cases h
 exact aN _ _ _ hp;exact aU _ _ _ hp
def B :TB Tryz.prog:=tb ak
end La1
theorem po (n b:Int)(hp:True):aP Tryz.prog 250 [.one (.v (.int .i64 n)),.one (.v (.int .i64 b))] [.one (.v (.bool (bmOk n b)))]:=by
 refine ai La1.B ag mixed 14 _ [4] [.tmp 4] Tryz.func250 rfl rfl rfl rfl rfl ?_;intro O r (F:La1.Fns) hO hr (hF:F=La1.F0);cbv
 repeat' first|refine And.intro ?_ ?_|(refine aG (fun hb=>?_) (fun hb=>?_)<;>cbv)
 all_goals(subst hO hr hF;(try simp only[af,SS,sa,az]at*);(try simp only[nc]at*);(try simp only[aF]at*))
 all_goals(try simp only[La1.F0]at*)
 all_goals try(have e:=Gl (n:=n) (by assumption);simp only[e.1])
 all_goals first
  | (show(_:List DV)=_
     first
      |exact ah (Ds (by assumption)).symm
      |exact ah (IO (by assumption)).symm
      |done)
  |(have:=bh.1 (‹inR n 1 16=true›);omega)
  |done
theorem qn (n b:Int)(hp:True):aP Tryz.prog 244 [.one (.v (.int .i64 n)),.one (.v (.int .i64 b))] [.one (.v (.bool (bmOk n b)))]:=by
 refine ai La1.B ag mixed 15 _ [4] [.tmp 4] Tryz.func244 rfl rfl rfl rfl rfl ?_;intro O r (F:La1.Fns) hO hr (hF:F=La1.F0);cbv
 repeat' first|refine And.intro ?_ ?_|(refine aG (fun hb=>?_) (fun hb=>?_)<;>cbv)
 all_goals(subst hO hr hF;(try simp only[af,SS,sa,az]at*);(try simp only[nc]at*);(try simp only[aF]at*))
 all_goals(try simp only[La1.F0]at*)
 all_goals try(have e:=Gl (n:=n) (by assumption);simp only[e.2.1])
 all_goals first
  | (show(_:List DV)=_
     first
      |exact ah (Ds (by assumption)).symm
      |exact ah (IO (by assumption)).symm
      |done)
  |exact(Gl (by assumption)).2.2
  |done
namespace La2
structure Fns where
 inR:Int->Int->Int->Bool
 slN:Int->Int
 bmOk:Int->Int->Bool
def F0 :Fns:=⟨inR,slN,bmOk⟩
def ct (F:Fns):CT:=fun f ds=>match f,ds with
 |152,[.one (.v (.int .i64 x)),.one (.v (.int .i64 a)),.one (.v (.int .i64 b))]=>some (fun _=>True,[.one (.v (.bool (F.inR x a b)))])
 |187,[.one (.v (.int .i64 k))]=>some (fun _=>True,[.one (.v (.bool (F.inR k 0 3)))])
 |251,[.one (.v (.int .i64 k))]=>some (fun _=>True,[.one (.v (.int .i64 (F.slN k)))])
 |250,[.one (.v (.int .i64 n)),.one (.v (.int .i64 b))]=>some (fun _=>True,[.one (.v (.bool (F.bmOk n b)))])
 |126,[.one (.v (.int .i64 x)),.one (.v (.int .i64 a)),.one (.v (.int .i64 b))]=>some (fun _=>True,[.one (.v (.bool (F.inR x a b)))])
 |245,[.one (.v (.int .i64 k))]=>some (fun _=>True,[.one (.v (.int .i64 (F.slN k)))])
 |244,[.one (.v (.int .i64 n)),.one (.v (.int .i64 b))]=>some (fun _=>True,[.one (.v (.bool (F.bmOk n b)))])
 |_,_=>none
theorem ak :aW Tryz.prog (ct F0):=by
 intro f ds pre res h hp;unfold ct at h;split at h<;>(try split at h)<;>cases h
 exact aN _ _ _ hp;exact dK _ hp;exact gh _ hp;exact po _ _ hp;exact aU _ _ _ hp;exact se _ hp;exact qn _ _ hp
def B :TB Tryz.prog:=tb ak
end La2
theorem ff (p k b:Int)(hp:True):aP Tryz.prog 216 [.agg [.v (.int .i64 p),.v (.int .i64 k),.v (.int .i64 b)]] [.one (.v (.bool (spOk p k b)))]:=by
 refine ai La2.B ag mixed 19 _ [4] [.tmp 2] Tryz.func216 rfl rfl rfl rfl rfl ?_;intro O r (F:La2.Fns) hO hr (hF:F=La2.F0);cbv
 repeat' first|refine And.intro ?_ ?_|(refine aG (fun hb=>?_) (fun hb=>?_)<;>cbv)
 all_goals(subst hO hr hF;(try simp only[af,SS,sa,az]at*);(try simp only[nc]at*);(try simp only[aF]at*))
 all_goals(try simp only[La2.F0]at*)
 all_goals first
  | (show(_:List DV)=_
     first
      |exact ah (Gt (by assumption)).symm
      |exact ah (Gs (by assumption)).symm
      |exact ah (Ms (by assumption)).symm
      |done)
  |(show aK _ _=true;kernel_rfl)
  |done
theorem fq (p k b:Int)(hp:True):aP Tryz.prog 200 [.agg [.v (.int .i64 p),.v (.int .i64 k),.v (.int .i64 b)]] [.one (.v (.bool (spOk p k b)))]:=by
 refine ai La2.B ag mixed 14 _ [4] [.tmp 2] Tryz.func200 rfl rfl rfl rfl rfl ?_;intro O r (F:La2.Fns) hO hr (hF:F=La2.F0);cbv
 repeat' first|refine And.intro ?_ ?_|(refine aG (fun hb=>?_) (fun hb=>?_)<;>cbv)
 all_goals(subst hO hr hF;(try simp only[af,SS,sa,az]at*);(try simp only[nc]at*);(try simp only[aF]at*))
 all_goals(try simp only[La2.F0]at*)
 all_goals first
  | (show(_:List DV)=_
     first
      |exact ah (Gt (by assumption)).symm
      |exact ah (Gs (by assumption)).symm
      |done)
  |(show aK _ _=true;kernel_rfl)
  |done
theorem pv (s:Int)(hp:True):aP Tryz.prog 252 [.one (.v (.int .i64 s))] [.one (.v (.int .i64 (pfN s)))]:=by
 refine ai La1.B ag mixed 10 _ [3] [.tmp 2] Tryz.func252 rfl rfl rfl rfl rfl ?_;intro O r (F:La1.Fns) hO hr (hF:F=La1.F0);cbv
 repeat' first|refine And.intro ?_ ?_|(refine aG (fun hb=>?_) (fun hb=>?_)<;>cbv)
 all_goals(subst hO hr hF;(try simp only[af,SS,sa,az]at*);(try simp only[nc]at*);(try simp only[aF]at*))
 all_goals(try simp only[La1.F0]at*)
 all_goals first
  | (show(_:List DV)=_
     first
      |exact bj (FJ (by assumption))
      |exact bj (FH (by assumption)).symm
      |done)
  |omega
  |done
theorem qt (s:Int)(hp:True):aP Tryz.prog 246 [.one (.v (.int .i64 s))] [.one (.v (.int .i64 (pfN s)))]:=by
 refine ai La1.B ag mixed 10 _ [3] [.tmp 2] Tryz.func246 rfl rfl rfl rfl rfl ?_;intro O r (F:La1.Fns) hO hr (hF:F=La1.F0);cbv
 repeat' first|refine And.intro ?_ ?_|(refine aG (fun hb=>?_) (fun hb=>?_)<;>cbv)
 all_goals(subst hO hr hF;(try simp only[af,SS,sa,az]at*);(try simp only[nc]at*);(try simp only[aF]at*))
 all_goals(try simp only[La1.F0]at*)
 all_goals first
  | (show(_:List DV)=_
     first
      |exact bj (FJ (by assumption))
      |exact bj (FH (by assumption)).symm
      |done)
  |omega
  |done
namespace La3
structure Fns where
 inR:Int->Int->Int->Bool
 pfN:Int->Int
def F0 :Fns:=⟨inR,pfN⟩
def ct (F:Fns):CT:=fun f ds=>match f,ds with
 |152,[.one (.v (.int .i64 x)),.one (.v (.int .i64 a)),.one (.v (.int .i64 b))]=>some (fun _=>True,[.one (.v (.bool (F.inR x a b)))])
 |252,[.one (.v (.int .i64 s))]=>some (fun _=>True,[.one (.v (.int .i64 (F.pfN s)))])
 |246,[.one (.v (.int .i64 s))]=>some (fun _=>True,[.one (.v (.int .i64 (F.pfN s)))])
 |126,[.one (.v (.int .i64 x)),.one (.v (.int .i64 a)),.one (.v (.int .i64 b))]=>some (fun _=>True,[.one (.v (.bool (F.inR x a b)))])
 |_,_=>none
theorem ak :aW Tryz.prog (ct F0):=by
 intro f ds pre res h hp;unfold ct at h;split at h<;>(try split at h)<;>cases h
 exact aN _ _ _ hp;exact pv _ hp;exact qt _ hp;exact aU _ _ _ hp
def B :TB Tryz.prog:=tb ak
end La3
theorem jN (p n s:Int)(hp:True):aP Tryz.prog 217 [.agg [.v (.int .i64 p),.v (.int .i64 n),.v (.int .i64 s)]] [.one (.v (.bool (lgOk p n s)))]:=by
 refine ai La3.B ag mixed 22 _ [4] [.tmp 2] Tryz.func217 rfl rfl rfl rfl rfl ?_;intro O r (F:La3.Fns) hO hr (hF:F=La3.F0);cbv
 repeat' first|refine And.intro ?_ ?_|(refine aG (fun hb=>?_) (fun hb=>?_)<;>cbv)
 all_goals(subst hO hr hF;(try simp only[af,SS,sa,az]at*);(try simp only[nc]at*);(try simp only[aF]at*))
 all_goals(try simp only[La3.F0]at*)
 all_goals first
  | (show(_:List DV)=_
     first
      |(have b:=gK (s:=s) (by assumption);rw[show aV .sub .i64 32 n=32-n from cH (by omega)];exact ah (ER (by assumption) (by assumption)).symm)
      |exact ah (EP (by assumption)).symm
      |exact ah (EQ (by assumption)).symm
      |done)
  |(show aK _ _=true;kernel_rfl)
  |done
theorem jR (p n s:Int)(hp:True):aP Tryz.prog 202 [.agg [.v (.int .i64 p),.v (.int .i64 n),.v (.int .i64 s)]] [.one (.v (.bool (lgOk p n s)))]:=by
 refine ai La3.B ag mixed 22 _ [4] [.tmp 2] Tryz.func202 rfl rfl rfl rfl rfl ?_;intro O r (F:La3.Fns) hO hr (hF:F=La3.F0);cbv
 repeat' first|refine And.intro ?_ ?_|(refine aG (fun hb=>?_) (fun hb=>?_)<;>cbv)
 all_goals(subst hO hr hF;(try simp only[af,SS,sa,az]at*);(try simp only[nc]at*);(try simp only[aF]at*))
 all_goals(try simp only[La3.F0]at*)
 all_goals first
  | (show(_:List DV)=_
     first
      |(have q:=FI.1 (‹0<pfN s›);have b:=gK q;rw[show aV .sub .i64 32 (pfN s)=32-pfN s from cH (by omega), ‹n=pfN s›];exact ah (ER q rfl).symm)
      |(refine ah (EP ?_).symm;cases q:inR s 9 1000;rfl;have:=FI.2 q;omega)
      |exact ah (EQ (by assumption)).symm
      |done)
  |done
namespace La4
structure Fns where
 inR:Int->Int->Int->Bool
 spOk:Int->Int->Int->Bool
 clsSz:Int->Int
 slN:Int->Int
 lgOk:Int->Int->Int->Bool
def F0 :Fns:=⟨inR,spOk,clsSz,slN,lgOk⟩
def ct (F:Fns):CT:=fun f ds=>match f,ds with
 |152,[.one (.v (.int .i64 x)),.one (.v (.int .i64 a)),.one (.v (.int .i64 b))]=>some (fun _=>True,[.one (.v (.bool (F.inR x a b)))])
 |216,[.agg [.v (.int .i64 p),.v (.int .i64 k),.v (.int .i64 b)]]=>some (fun _=>True,[.one (.v (.bool (F.spOk p k b)))])
 |95,[.one (.v (.int .i64 k))]=>some (fun _=>True,[.one (.v (.int .i64 (F.clsSz k)))])
 |251,[.one (.v (.int .i64 k))]=>some (fun _=>True,[.one (.v (.int .i64 (F.slN k)))])
 |217,[.agg [.v (.int .i64 p),.v (.int .i64 n),.v (.int .i64 s)]]=>some (fun _=>True,[.one (.v (.bool (F.lgOk p n s)))])
 |200,[.agg [.v (.int .i64 p),.v (.int .i64 k),.v (.int .i64 b)]]=>some (fun _=>True,[.one (.v (.bool (F.spOk p k b)))])
 |76,[.one (.v (.int .i64 k))]=>some (fun _=>True,[.one (.v (.int .i64 (F.clsSz k)))])
 |202,[.agg [.v (.int .i64 p),.v (.int .i64 n),.v (.int .i64 s)]]=>some (fun _=>True,[.one (.v (.bool (F.lgOk p n s)))])
 |_,_=>none
theorem ak :aW Tryz.prog (ct F0):=by
 intro f ds pre res h hp;unfold ct at h;split at h<;>(try split at h)<;>cases h
 exact aN _ _ _ hp;exact ff _ _ _ hp;exact bU _ hp;exact gh _ hp;exact jN _ _ _ hp;exact fq _ _ _ hp;exact cd _ hp;exact jR _ _ _ hp
def B :TB Tryz.prog:=tb ak
end La4
theorem t8 (p k b a:Int)(hp:True):aP Tryz.prog 188 [.agg [.v (.int .i64 p),.v (.int .i64 k),.v (.int .i64 b)],.one (.v (.int .i64 a))] [.one (.v (.int .i64 (saS p k b a))),.one (.v (.int .i64 (saO p k b a)))]:=by
 refine ai La4.B ag mixed 38 _ [3,3] [.tmp 4,.tmp 5] Tryz.func188 rfl rfl rfl rfl rfl ?_;intro O r (F:La4.Fns) hO hr (hF:F=La4.F0);cbv
 repeat' first|refine And.intro ?_ ?_|(refine aG (fun hb=>?_) (fun hb=>?_)<;>cbv)
 all_goals(subst hO hr hF;(try simp only[af,SS,sa,az]at*);(try simp only[nc]at*);(try simp only[aF]at*))
 all_goals(try simp only[La4.F0]at*)
 all_goals try(have t:=fe (p:=p) (k:=k) (b:=b) (by assumption);have c:=fE t.2.2.1;have e:=OZ (p:=p) ⟨t.1,t.2.1⟩;try simp only[e.1,e.2]at*)
 all_goals first
  | (show(_:List DV)=_
     first
      |(have q:=Ib (p:=p) (k:=k) (b:=b) (a:=a) (by assumption) (by assumption);exact sB q.1.symm q.2.symm)
      |(have q:=vt (Km (p:=p) (k:=k) (b:=b) (a:=a) (by assumption));exact sB q.1.symm q.2.symm)
      |(have q:=vt (PO (p:=p) (k:=k) (b:=b) (a:=a) (by assumption));exact sB q.1.symm q.2.symm)
      |done)
  |(show aK _ _=true;kernel_rfl)
  |omega
  |done
theorem uD (p k b a:Int)(hp:(-9223372036854775808<=a/\a<=9223372036854775807)):aP Tryz.prog 173 [.agg [.v (.int .i64 p),.v (.int .i64 k),.v (.int .i64 b)],.one (.v (.int .i64 a))] [.one (.v (.int .i64 (saS p k b a))),.one (.v (.int .i64 (saO p k b a)))]:=by
 refine ai La4.B ag mixed 33 _ [3,3] [.tmp 4,.tmp 5] Tryz.func173 rfl rfl rfl rfl rfl ?_;intro O r (F:La4.Fns) hO hr (hF:F=La4.F0);cbv
 repeat' first|refine And.intro ?_ ?_|(refine aG (fun hb=>?_) (fun hb=>?_)<;>cbv)
 all_goals(subst hO hr hF;(try simp only[af,SS,sa,az]at*);(try simp only[nc]at*);(try simp only[aF]at*))
 all_goals(try simp only[La4.F0]at*)
 all_goals try(have t:=fe (p:=p) (k:=k) (b:=b) (by assumption);have c:=fE t.2.2.1)
 all_goals first
  | (show(_:List DV)=_
     first
      |(have q:=Ic (p:=p) (k:=k) (b:=b) (a:=a) (by assumption) (by omega) (by assumption) (by omega);exact sB q.1.symm q.2.symm)
      |(have q:=vt (Km (p:=p) (k:=k) (b:=b) (a:=a) (by assumption));exact sB q.1.symm q.2.symm)
      |(have q:=vt (Kn (p:=p) (k:=k) (b:=b) (a:=a) (.inl (by omega)) (by omega));exact sB q.1.symm q.2.symm)
      |(have q:=vt (Kn (p:=p) (k:=k) (b:=b) (a:=a) (.inr (by assumption)) (by omega));exact sB q.1.symm q.2.symm)
      |done)
  |(show aK _ _=true;kernel_rfl)
  |omega
  |done
theorem pA (p k b s:Int)(hp:True):aP Tryz.prog 256 [.agg [.v (.int .i64 p),.v (.int .i64 k),.v (.int .i64 b)],.one (.v (.int .i64 s))] [.one (.v (.int .i64 (aaI p k b s)))]:=by
 refine ai La4.B ag mixed 26 _ [3] [.tmp 4] Tryz.func256 rfl rfl rfl rfl rfl ?_;intro O r (F:La4.Fns) hO hr (hF:F=La4.F0);cbv
 repeat' first|refine And.intro ?_ ?_|(refine aG (fun hb=>?_) (fun hb=>?_)<;>cbv)
 all_goals(subst hO hr hF;(try simp only[af,SS,sa,az]at*);(try simp only[nc]at*);(try simp only[aF]at*))
 all_goals(try simp only[La4.F0]at*)
 all_goals try(have t:=fe (p:=p) (k:=k) (b:=b) (by assumption);have c:=fE t.2.2.1;have e:aV .sub .i64 (slN k) 1=slN k-1:=cH (by omega);try simp only[e]at*)
 all_goals first
  | (show(_:List DV)=_
     first
      |exact bj (KP (by assumption) (by assumption))
      |exact bj (IK (.inl (by assumption))).symm
      |exact bj (IK (.inr (by assumption))).symm
      |done)
  |(show aK _ _=true;kernel_rfl)
  |done
theorem fM (p n s a:Int)(hp:True):aP Tryz.prog 182 [.agg [.v (.int .i64 p),.v (.int .i64 n),.v (.int .i64 s)],.one (.v (.int .i64 a))] [.one (.v (.bool (lhB p n s a)))]:=by
 refine ai La4.B ag mixed 21 _ [4] [.tmp 4] Tryz.func182 rfl rfl rfl rfl rfl ?_;intro O r (F:La4.Fns) hO hr (hF:F=La4.F0);cbv
 repeat' first|refine And.intro ?_ ?_|(refine aG (fun hb=>?_) (fun hb=>?_)<;>cbv)
 all_goals(subst hO hr hF;(try simp only[af,SS,sa,az]at*);(try simp only[nc]at*);(try simp only[aF]at*))
 all_goals(try simp only[La4.F0]at*)
 all_goals try(have e:=ET (p:=p) (n:=n) (s:=s) (by assumption);try simp only[e.2.2])
 all_goals first
  | (show(_:List DV)=_
     first
      |(rw[e.1];exact ah (zE (by assumption)).symm)
      |exact ah (EU (by assumption)).symm
      |done)
  |done
theorem jo (p n s a:Int)(hp:True):aP Tryz.prog 174 [.agg [.v (.int .i64 p),.v (.int .i64 n),.v (.int .i64 s)],.one (.v (.int .i64 a))] [.one (.v (.bool (lhB p n s a)))]:=by
 refine ai La4.B ag mixed 24 _ [4] [.tmp 4] Tryz.func174 rfl rfl rfl rfl rfl ?_;intro O r (F:La4.Fns) hO hr (hF:F=La4.F0);cbv
 repeat' first|refine And.intro ?_ ?_|(refine aG (fun hb=>?_) (fun hb=>?_)<;>cbv)
 all_goals(subst hO hr hF;(try simp only[af,SS,sa,az]at*);(try simp only[nc]at*);(try simp only[aF]at*))
 all_goals(try simp only[La4.F0]at*)
 all_goals try(have e:=ET (p:=p) (n:=n) (s:=s) (by assumption);try simp only[e.1]at*)
 all_goals first
  | (show(_:List DV)=_
     first
      |exact ah (EU (by assumption)).symm
      |(refine ah (dJ ?_);rw[zE (by assumption),bh];simp only[SS,b8,decide_eq_true_eq];omega)
      |(refine ah (dJ ?_);rw[zE (by assumption),bh];simp only[Bool.false_eq_true,false_iff];omega)
      |done)
  |done
namespace La5
structure Fns where
 lhB:Int->Int->Int->Int->Bool
def F0 :Fns:=⟨lhB⟩
def ct (F:Fns):CT:=fun f ds=>match f,ds with
 |182,[.agg [.v (.int .i64 p),.v (.int .i64 n),.v (.int .i64 s)],.one (.v (.int .i64 a))]=>some (fun _=>True,[.one (.v (.bool (F.lhB p n s a)))])
 |174,[.agg [.v (.int .i64 p),.v (.int .i64 n),.v (.int .i64 s)],.one (.v (.int .i64 a))]=>some (fun _=>True,[.one (.v (.bool (F.lhB p n s a)))])
 |_,_=>none
theorem ak :aW Tryz.prog (ct F0):=by
 intro f ds pre res h hp;unfold ct at h;split at h<;>(try split at h)<;>cases h
 exact fM _ _ _ _ hp;exact jo _ _ _ _ hp
def B :TB Tryz.prog:=tb ak
end La5
theorem li (p n s a:Int)(hp:True):aP Tryz.prog 190 [.agg [.v (.int .i64 p),.v (.int .i64 n),.v (.int .i64 s)],.one (.v (.int .i64 a))] [.one (.v (.int .i64 (loI p n s a)))]:=by
 refine ai La5.B ag mixed 14 _ [3] [.tmp 4] Tryz.func190 rfl rfl rfl rfl rfl ?_;intro O r (F:La5.Fns) hO hr (hF:F=La5.F0);cbv
 repeat' first|refine And.intro ?_ ?_|(refine aG (fun hb=>?_) (fun hb=>?_)<;>cbv)
 all_goals(subst hO hr hF;(try simp only[af,SS,sa,az]at*);(try simp only[nc]at*);(try simp only[aF]at*))
 all_goals(try simp only[La5.F0]at*)
 all_goals first
  | (show(_:List DV)=_
     first
      |exact bj (JD (by assumption))
      |exact bj (JE (by assumption)).symm
      |done)
  |done
theorem lr (p n s a:Int)(hp:True):aP Tryz.prog 175 [.agg [.v (.int .i64 p),.v (.int .i64 n),.v (.int .i64 s)],.one (.v (.int .i64 a))] [.one (.v (.int .i64 (loI p n s a)))]:=by
 refine ai La5.B ag mixed 14 _ [3] [.tmp 4] Tryz.func175 rfl rfl rfl rfl rfl ?_;intro O r (F:La5.Fns) hO hr (hF:F=La5.F0);cbv
 repeat' first|refine And.intro ?_ ?_|(refine aG (fun hb=>?_) (fun hb=>?_)<;>cbv)
 all_goals(subst hO hr hF;(try simp only[af,SS,sa,az]at*);(try simp only[nc]at*);(try simp only[aF]at*))
 all_goals(try simp only[La5.F0]at*)
 all_goals first
  | (show(_:List DV)=_
     first
      |exact bj (JD (by assumption))
      |exact bj (JE (by assumption)).symm
      |done)
  |done
end Go.V