/-
  Conditions with cuts: behind a cut the state is made small again, and evaluation starts anew.
-/
import Derived.Test.YtpldpilhgjpkjaaGreatYVE
set_option linter.all false
open Go
open Code renaming wp_mono->YN
open Nat renaming ble->YA
namespace Go.V
section
variable (T: wW) (O: BQ) (ct: DR) (n: Nat) (an: List Nat)
def I9:Code->List Bool->(Ex->VS->Prop)->VS->Prop
 | .seq x y,b::bs,Q,σ=>mW T O ct n an [] x (fun e σ'=>match e with
    | .normal=>match b with
      |true=>∃ regs roots:List Nat,Rq an σ' (xS σ' regs roots [])/\I9 y bs Q (xS σ' regs roots [])
      |false=>I9 y bs Q σ'
    | .exit i=>Q (.exit i) σ'
    | .ret=>Q .ret σ') σ
 |c,_,Q,σ=>mW T O ct n an [] c Q σ
end
section
variable {P: Program} {T: wW} {cx: Cx} {G: Gh} {g: Gm} {a: Act} {w: World}
theorem DN (hT:bJ P T){ct:DR}(hct:uz P ct)(hm:P.follows .mixedOrders=true){n:Nat}(hn:n=cx.n){an:List Nat}(ha:∀ r x,cx.aloc r=some x->r∈an):∀ (c:Code) (bs:List Bool) (Q:Ex->VS->Prop) (σ:VS) (a:Act) (w:World),I9 T am ct n an c bs Q σ->dX cx (get σ) a w->
 c.wp P (fun e a' w'=>∃ ex σ',e=J4 ex/\Q ex σ'/\dX cx (get σ') a' w') a w:=by
 intro c bs
 induction bs generalizing c with
 |nil=>intro Q σ a w h hS;cases c<;>exact da (fz:=[]) (fun q=>absurd rfl q) hT hct hm hn ha _ Q σ a w h hS
 | cons b bs ih=>
   intro Q σ a w h hS;cases c with
   | seq x y=>
     refine wp_seq (YN ?_ (da (fz:=[]) (fun q=>absurd rfl q) hT hct hm hn ha x _ σ a w h hS));rintro e a' w' ⟨ex,σ',rfl,hq,hs⟩;cases ex with
     | normal=>
       cases b with
       | true=>
         obtain⟨regs,roots,hle,hk⟩:=hq;exact ih y Q _ a' w' hk (hle.sim ha hs)
       |false=>exact ih y Q σ' a' w' hq hs
     |exit i=>exact⟨.exit i,σ',rfl,hq,hs⟩
     |ret=>exact⟨.ret,σ',rfl,hq,hs⟩
   |_=>exact da (fz:=[]) (fun q=>absurd rfl q) hT hct hm hn ha _ Q σ a w h hS
theorem JY (hT:bJ P T){Φ:Type}{F0:Φ}{ctF:Φ->CT}{mtF:Φ->MT}{ptF:Φ->PT}{ntF:Φ->NT}{otF:Φ->OT}(hct:yj P (ctF F0))(hmt:B5 P (mtF F0))(hpt:Cb P (ptF F0))(hnw:B6 P (ntF F0))(hot:B9 P (otF F0))(hm:P.follows .mixedOrders=true){f:FuncId}{fn:Func}{ds res:List DV}(n:Nat)(bs:List Bool)(c:Code)(ts:List TypeId)(rvs:List ResultVar) 
 (hf:P.funcs[f]?=some fn) (hb:fn.body=some c) (hnt:fn.ntmps=n) (hts:fn.resultTypes.toList=ts) (hrv:fn.results.toList=rvs) (hn:YA ds.length n=true)
 (h:∀ O r F,O=am->r=res->F=F0->I9 T O ⟨ctF F,mtF F,ptF F,ntF F,otF F⟩ n [] c bs (J8 T O ts rvs r) (dO 0 ds)):F1 P f ds res:=by
 subst hnt hts hrv;replace h:=h am res F0 rfl rfl rfl;replace hn:=Nat.le_of_ble_eq_true hn;intro w vs hargs;refine calls_of_wp hf hb ?_;refine YN ?_ (DN (cx:=⟨fn.ntmps,w,fun _=>True,fun _=>undef,fun _=>none,fun _=>0,fun _=>True⟩) hT (ct:=⟨ctF F0,mtF F0,ptF F0,ntF F0,otF F0⟩) ⟨hct,hmt,hpt,hnw,hot⟩ hm rfl (an:=[]) (fun r x e=>by cases e) c bs _ _ _ w h (AS fn.ntmps w ds vs hargs hn));rintro e a' w' ⟨ex,σ',rfl,hq',G,hS⟩;have hq:yh T am fn.resultTypes.toList fn.results.toList σ' res:=by
  cases ex with
  |normal=>exact hq'
  |ret=>exact hq'
  |exit i=>exact hq'.elim
 have hex:ex=.normal\/ex=.ret:=by
  cases ex with
  |normal=>exact .inl rfl
  |ret=>exact .inr rfl
  |exit i=>exact hq'.elim
 unfold yh at hq;obtain⟨ls,u,t,h1,_⟩:=Rd.wpU_runs hq;obtain⟨ds',vs',srcs,S,ls',k1,k2,k3,k4,k5⟩:=kX hS _ _ _ _ _ (mR hT (fun _ _ _ h=>h) h1);split at k5
 case isFalse=>exact k5.elim
 rename_i hd;simp only[Rd.Runs]at k5;have hres0:ds'=res:=k5.1;subst hres0;obtain⟨v,hrun,hres⟩:=sg k1 k2;have hfresh:∀ b∈S,w.heap.size<=b/\ea w' b:=by
  intro b hb;obtain⟨u,r,j,m1,m2⟩:=k4 b hb;refine⟨?_,u⟩;rcases Nat.lt_or_ge b w.heap.size with hlt|hge
  ·rcases hS.frow b hlt trivial with e|e<;>rw[m2]at e<;>cases e
  ·exact hge
 have fin:a'.defers=[]/\∃ v,(results fn a'.tmps).run P w'=.ok v w'/\∃ v' S,Ending.returned v=.returned v'/\fW w' ds' v' S/\S.Nodup/\(∀ b∈S,w.heap.size<=b/\ea w' b)/\Same (fun _=>True) w w':=
  ⟨hS.defers,_,hrun,_,S,rfl,hres,k3 hd,hfresh,hS.frame⟩
 rcases hex with rfl|rfl;exact fin;exact fin
theorem Oa {P:Program}{T:wW}(B:TB P)(hT:bJ P T)(hm:P.follows .mixedOrders=true){f:FuncId}{fn:Func}{ds:List DV}(n:Nat)(bs:List Bool)(c:Code)(ts:List TypeId)(rvs:List ResultVar) 
 {res:List DV} (hf:P.funcs[f]?=some fn) (hb:fn.body=some c) (hnt:fn.ntmps=n) (hts:fn.resultTypes.toList=ts) (hrv:fn.results.toList=rvs) (hn:YA ds.length n=true)
 (h:∀ O r F,O=am->r=res->F=B.F0->I9 T O ⟨B.ct F,B.mt F,B.pt F,B.nt F,B.ot F⟩ n [] c bs (J8 T O ts rvs r) (dO 0 ds)):F1 P f ds res:=
 JY hT B.hc B.hm B.hp B.hn B.ho hm n bs c ts rvs hf hb hnt hts hrv hn h
end
end Go.V