/-
  Conditions with cuts: behind a cut the state is made small again, and evaluation starts anew.
-/
import Derived.Test.YtpldpilhgjpkjaaGreatWVE
set_option linter.all false
open Go
open Code renaming wp_mono->Yz
open Nat renaming ble->Ys
namespace Go.V
section
variable (T: y9) (O: F1) (ct: Jk) (n: Nat) (an: List Nat)
def OV:Code->List Bool->(Ex->VS->Prop)->VS->Prop
 | .seq x y,b::bs,Q,σ=>po T O ct n an [] x (fun e σ'=>match e with
    | .normal=>match b with
      |true=>∃ regs roots:List Nat,LeO an σ' (DG σ' regs roots [])/\OV y bs Q (DG σ' regs roots [])
      |false=>OV y bs Q σ'
    | .exit i=>Q (.exit i) σ'
    | .ret=>Q .ret σ') σ
 |c,_,Q,σ=>po T O ct n an [] c Q σ
end
section
variable {P: Program} {T: y9} {cx: Cx} {G: Gh} {g: Gm} {a: Act} {w: World}
def Ji (hT:bF P T){ct:Jk}(hct:zE P ct)(hm:P.follows .mixedOrders=true){n:Nat}(hn:n=cx.n){an:List Nat}(ha:∀ r x,cx.aloc r=some x->r∈an):∀ (c:Code) (bs:List Bool) (Q:Ex->VS->Prop) (σ:VS) (a:Act) (w:World),OV T ah ct n an c bs Q σ->fC cx (get σ) a w->
 c.wp P (fun e a' w'=>∃ ex σ',e=PS ex/\Q ex σ'/\fC cx (get σ') a' w') a w:=by
 intro c bs
 induction bs generalizing c with
 |nil=>intro Q σ a w h hS;cases c<;>exact de (fz:=[]) (fun q=>absurd rfl q) hT hct hm hn ha _ Q σ a w h hS
 | cons b bs ih=>
   intro Q σ a w h hS;cases c with
   | seq x y=>
     refine wp_seq (Yz ?_ (de (fz:=[]) (fun q=>absurd rfl q) hT hct hm hn ha x _ σ a w h hS));rintro e a' w' ⟨ex,σ',rfl,hq,hs⟩;cases ex with
     | normal=>
       cases b with
       | true=>
         obtain⟨regs,roots,hle,hk⟩:=hq;exact ih y Q _ a' w' hk (hle.sim ha hs)
       |false=>exact ih y Q σ' a' w' hq hs
     |exit i=>exact⟨.exit i,σ',rfl,hq,hs⟩
     |ret=>exact⟨.ret,σ',rfl,hq,hs⟩
   |_=>exact de (fz:=[]) (fun q=>absurd rfl q) hT hct hm hn ha _ Q σ a w h hS
def PN (hT:bF P T){Φ:Type}{F0:Φ}{ctF:Φ->CT}{mtF:Φ->MT}{ptF:Φ->PT}{ntF:Φ->NT}{otF:Φ->OT}(hct:Ch P (ctF F0))(hmt:Gc P (mtF F0))(hpt:Gf P (ptF F0))(hnw:Gd P (ntF F0))(hot:Ge P (otF F0))(hm:P.follows .mixedOrders=true){f:FuncId}{fn:Func}{ds res:List DV}(n:Nat)(bs:List Bool)(c:Code)(ts:List TypeId)(rvs:List ResultVar) 
 (hf:P.funcs[f]?=some fn) (hb:fn.body=some c) (hnt:fn.ntmps=n) (hts:fn.resultTypes.toList=ts) (hrv:fn.results.toList=rvs) (hn:Ys ds.length n=true)
 (h:∀ O r F,O=ah->r=res->F=F0->OV T O ⟨ctF F,mtF F,ptF F,ntF F,otF F⟩ n [] c bs (PX T O ts rvs r) (k9 0 ds)):LI P f ds res:=by
 subst hnt hts hrv;replace h:=h ah res F0 rfl rfl rfl;replace hn:=Nat.le_of_ble_eq_true hn;intro w vs hargs;refine calls_of_wp hf hb ?_;refine Yz ?_ (Ji (cx:=⟨fn.ntmps,w,fun _=>True,fun _=>undef,fun _=>none,fun _=>0,fun _=>True⟩) hT (ct:=⟨ctF F0,mtF F0,ptF F0,ntF F0,otF F0⟩) ⟨hct,hmt,hpt,hnw,hot⟩ hm rfl (an:=[]) (fun r x e=>by cases e) c bs _ _ _ w h (GI fn.ntmps w ds vs hargs hn));rintro e a' w' ⟨ex,σ',rfl,hq',G,hS⟩;have hq:D9 T ah fn.resultTypes.toList fn.results.toList σ' res:=by
  cases ex with
  |normal=>exact hq'
  |ret=>exact hq'
  |exit i=>exact hq'.elim
 have hex:ex=.normal\/ex=.ret:=by
  cases ex with
  |normal=>exact .inl rfl
  |ret=>exact .inr rfl
  |exit i=>exact hq'.elim
 unfold D9 at hq;obtain⟨ls,u,t,h1,_⟩:=Rd.wpU_runs hq;obtain⟨ds',vs',srcs,S,ls',k1,k2,k3,k4,k5⟩:=iq hS _ _ _ _ _ (jN hT (fun _ _ _ h=>h) h1);split at k5
 case isFalse=>exact k5.elim
 rename_i hd;simp only[Rd.Runs]at k5;have hres0:ds'=res:=k5.1;subst hres0;obtain⟨v,hrun,hres⟩:=pj k1 k2;have hfresh:∀ b∈S,w.heap.size<=b/\eV w' b:=by
  intro b hb;obtain⟨u,r,j,m1,m2⟩:=k4 b hb;refine⟨?_,u⟩;rcases Nat.lt_or_ge b w.heap.size with hlt|hge
  ·rcases hS.frow b hlt trivial with e|e<;>rw[m2]at e<;>cases e
  ·exact hge
 have fin:a'.defers=[]/\∃ v,(results fn a'.tmps).run P w'=.ok v w'/\∃ v' S,Ending.returned v=.returned v'/\lK w' ds' v' S/\S.Nodup/\(∀ b∈S,w.heap.size<=b/\eV w' b)/\Same (fun _=>True) w w':=
  ⟨hS.defers,_,hrun,_,S,rfl,hres,k3 hd,hfresh,hS.frame⟩
 rcases hex with rfl|rfl;exact fin;exact fin
def Ml {P:Program}{T:y9}(B:TB P)(hT:bF P T)(hm:P.follows .mixedOrders=true){f:FuncId}{fn:Func}{ds:List DV}(n:Nat)(bs:List Bool)(c:Code)(ts:List TypeId)(rvs:List ResultVar) 
 {res:List DV} (hf:P.funcs[f]?=some fn) (hb:fn.body=some c) (hnt:fn.ntmps=n) (hts:fn.resultTypes.toList=ts) (hrv:fn.results.toList=rvs) (hn:Ys ds.length n=true)
 (h:∀ O r F,O=ah->r=res->F=B.F0->OV T O ⟨B.ct F,B.mt F,B.pt F,B.nt F,B.ot F⟩ n [] c bs (PX T O ts rvs r) (k9 0 ds)):LI P f ds res:=
 PN hT B.hc B.hm B.hp B.hn B.ho hm n bs c ts rvs hf hb hnt hts hrv hn h
end
end Go.V