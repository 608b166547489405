/-
  The contract of a function that takes its arguments' rows over, out of its condition.
-/
import Derived.Test.YtpldpilhgjpkjaaGreatZVE
set_option linter.all false
open Go
open Nat renaming ble->Yr
namespace Go.V
section
variable {P: Program} {T: vK}
def Oi (hT:bO P T){Φ:Type}{F0:Φ}{ctF:Φ->CT}{mtF:Φ->MT}{ptF:Φ->PT}{ntF:Φ->NT}{otF:Φ->OT}(hct:zu P (ctF F0))(hmt:CB P (mtF F0))(hpt:CF P (ptF F0))(hnw:CC P (ntF F0))(hot:CE P (otF F0))(hm:P.follows .mixedOrders=true){f:FuncId}{fn:Func}{ds res:List DV}(n:Nat)(c:Code)(ts:List TypeId)(rvs:List ResultVar) 
 (hf:P.funcs[f]?=some fn) (hb:fn.body=some c) (hnt:fn.ntmps=n) (hts:fn.resultTypes.toList=ts) (hrv:fn.results.toList=rvs) (hn:Yr ds.length n=true)
 (h:∀ O r F,O=aj->r=res->F=F0->mW T O ⟨ctF F,mtF F,ptF F,ntF F,otF F⟩ n [] [] c (acK T O ts rvs [] r (fun _=>.g)) (GY O ds)):AU P f ds res:=by
 subst hnt hts hrv;replace h:=h aj res F0 rfl rfl rfl;replace hn:=Nat.le_of_ble_eq_true hn;intro w vs S hr hnd hunf;refine calls_of_wp hf hb ?_;refine Code.wp_mono ?_ (dm (fz:=[]) (cx:=⟨fn.ntmps,w,fun b=>b∉S,fun i=>(gM ds vs).getD i undef,fun _=>none,fun _=>0,fun _=>True⟩) (fun q=>absurd rfl q) hT (ct:=⟨ctF F0,mtF F0,ptF F0,ntF F0,otF F0⟩) ⟨hct,hmt,hpt,hnw,hot⟩ hm rfl (an:=[]) (fun r x e=>by cases e) c _ _ _ w h (H9 fn.ntmps w ds vs S hr hnd hunf hn));rintro e a' w' ⟨ex,σ',rfl,hq',G,hS⟩;have hq:HP T aj fn.resultTypes.toList fn.results.toList [] σ' res (fun _=>.g):=by
  cases ex with
  |normal=>exact hq'
  |ret=>exact hq'
  |exit i=>exact hq'.elim
 have hex:ex=.normal\/ex=.ret:=by
  cases ex with
  |normal=>exact .inl rfl
  |ret=>exact .inr rfl
  |exit i=>exact hq'.elim
 unfold HP at hq;obtain⟨ls,u,t,h1,_⟩:=Rd.wpU_runs hq;obtain⟨ds',vs',srcs,Sr,ls',k1,k2,k3,k4,k5⟩:=jV hS _ _ _ _ _ (lS hT (fun _ _ _ h=>h) h1);split at k5
 case isFalse=>exact k5.elim
 rename_i hd;obtain⟨hres0,k5⟩:=k5;have hres0:ds'=res:=hres0;subst hres0;obtain⟨d1,d2,d3⟩:=dh hd;obtain⟨v,hrun,hres⟩:=qt k1 k2;have own:∀ b r j,eH w' b->G.ow b=some (.leaf r j)->eH w' b/\(w.heap.size<=b\/b∈S):=by
  intro b r j hu ht;refine⟨hu,?_⟩;rcases Nat.lt_or_ge b w.heap.size with hlt|hge
  ·by_cases c:b∈S;exact .inr c
   ·rcases hS.frow b hlt c with e|e<;>rw[ht]at e<;>cases e
  ·exact .inl hge
 have fin:a'.defers=[]/\∃ v,(results fn a'.tmps).run P w'=.ok v w'/\∃ v' Sr,Ending.returned v=.returned v'/\gy w' ds' v' Sr/\Sr.Nodup/\(∀ b∈Sr,eH w' b/\(w.heap.size<=b\/b∈S))/\Same (fun b=>b∉S) w w':=
  ⟨hS.defers,_,hrun,_,Sr,rfl,hres,k3 d1,fun b hb=>by obtain⟨hu,r,j,_,m2⟩:=k4 b hb;exact own b r j hu m2,hS.frame⟩
 rcases hex with rfl|rfl;exact fin;exact fin
end
section
variable {P: Program} {T: vK} (B: TB P) (hT: bO P T) (hm: P.follows .mixedOrders = true) {f: FuncId} {fn: Func} {ds: List DV} (n: Nat) (c: Code) (ts: List TypeId) (rvs: List ResultVar)
include hT hm
def aaM {res:List DV}(hf:P.funcs[f]?=some fn)(hb:fn.body=some c)(hnt:fn.ntmps=n)(hts:fn.resultTypes.toList=ts)(hrv:fn.results.toList=rvs)(hn:Yr ds.length n=true) 
 (h:∀ O r F,O=aj->r=res->F=B.F0->mW T O ⟨B.ct F,B.mt F,B.pt F,B.nt F,B.ot F⟩ n [] [] c (acK T O ts rvs [] r (fun _=>.g)) (GY O ds)):AU P f ds res:=
 Oi hT B.hc B.hm B.hp B.hn B.ho hm n c ts rvs hf hb hnt hts hrv hn h
end
end Go.V