/-
  The contract of a function that takes its arguments' rows over, out of its condition.
-/
import Derived.Test.YtpldpilhgjpkjaaGreatWVE
set_option linter.all false
open Go
open Nat renaming ble->Ys
namespace Go.V
section
variable {P: Program} {T: y9}
def QB (hT:bF P T){Φ:Type}{F0:Φ}{ctF:Φ->CT}{mtF:Φ->MT}{ptF:Φ->PT}{ntF:Φ->NT}{otF:Φ->OT}(hct:Ch P (ctF F0))(hmt:Gc P (mtF F0))(hpt:Gf P (ptF F0))(hnw:Gd P (ntF F0))(hot:Ge P (otF F0))(hm:P.follows .mixedOrders=true){f:FuncId}{fn:Func}{ds res:List DV}(n:Nat)(c:Code)(ts:List TypeId)(rvs:List ResultVar) 
 (hf:P.funcs[f]?=some fn) (hb:fn.body=some c) (hnt:fn.ntmps=n) (hts:fn.resultTypes.toList=ts) (hrv:fn.results.toList=rvs) (hn:Ys ds.length n=true)
 (h:∀ O r F,O=ah->r=res->F=F0->po T O ⟨ctF F,mtF F,ptF F,ntF F,otF F⟩ n [] [] c (PW T O ts rvs [] r (fun _=>.g)) (Dz O ds)):KT P f ds res:=by
 subst hnt hts hrv;replace h:=h ah res F0 rfl rfl rfl;replace hn:=Nat.le_of_ble_eq_true hn;intro w vs S hr hnd hunf;refine calls_of_wp hf hb ?_;refine Code.wp_mono ?_ (de (fz:=[]) (cx:=⟨fn.ntmps,w,fun b=>b∉S,fun i=>(dj ds vs).getD i undef,fun _=>none,fun _=>0,fun _=>True⟩) (fun q=>absurd rfl q) hT (ct:=⟨ctF F0,mtF F0,ptF F0,ntF F0,otF F0⟩) ⟨hct,hmt,hpt,hnw,hot⟩ hm rfl (an:=[]) (fun r x e=>by cases e) c _ _ _ w h (DC fn.ntmps w ds vs S hr hnd hunf hn));rintro e a' w' ⟨ex,σ',rfl,hq',G,hS⟩;have hq:D8 T ah fn.resultTypes.toList fn.results.toList [] σ' res (fun _=>.g):=by
  cases ex with
  |normal=>exact hq'
  |ret=>exact hq'
  |exit i=>exact hq'.elim
 have hex:ex=.normal\/ex=.ret:=by
  cases ex with
  |normal=>exact .inl rfl
  |ret=>exact .inr rfl
  |exit i=>exact hq'.elim
 unfold D8 at hq;obtain⟨ls,u,t,h1,_⟩:=Rd.wpU_runs hq;obtain⟨ds',vs',srcs,Sr,ls',k1,k2,k3,k4,k5⟩:=iq hS _ _ _ _ _ (jN hT (fun _ _ _ h=>h) h1);split at k5
 case isFalse=>exact k5.elim
 rename_i hd;obtain⟨hres0,k5⟩:=k5;have hres0:ds'=res:=hres0;subst hres0;obtain⟨d1,d2,d3⟩:=cJ hd;obtain⟨v,hrun,hres⟩:=pj k1 k2;have own:∀ b r j,eV w' b->G.ow b=some (.leaf r j)->eV w' b/\(w.heap.size<=b\/b∈S):=by
  intro b r j hu ht;refine⟨hu,?_⟩;rcases Nat.lt_or_ge b w.heap.size with hlt|hge
  ·by_cases c:b∈S;exact .inr c
   ·rcases hS.frow b hlt c with e|e<;>rw[ht]at e<;>cases e
  ·exact .inl hge
 have fin:a'.defers=[]/\∃ v,(results fn a'.tmps).run P w'=.ok v w'/\∃ v' Sr,Ending.returned v=.returned v'/\lK w' ds' v' Sr/\Sr.Nodup/\(∀ b∈Sr,eV w' b/\(w.heap.size<=b\/b∈S))/\Same (fun b=>b∉S) w w':=
  ⟨hS.defers,_,hrun,_,Sr,rfl,hres,k3 d1,fun b hb=>by obtain⟨hu,r,j,_,m2⟩:=k4 b hb;exact own b r j hu m2,hS.frame⟩
 rcases hex with rfl|rfl;exact fin;exact fin
end
section
variable {P: Program} {T: y9} (B: TB P) (hT: bF P T) (hm: P.follows .mixedOrders = true) {f: FuncId} {fn: Func} {ds: List DV} (n: Nat) (c: Code) (ts: List TypeId) (rvs: List ResultVar)
include hT hm
def abU {res:List DV}(hf:P.funcs[f]?=some fn)(hb:fn.body=some c)(hnt:fn.ntmps=n)(hts:fn.resultTypes.toList=ts)(hrv:fn.results.toList=rvs)(hn:Ys ds.length n=true) 
 (h:∀ O r F,O=ah->r=res->F=B.F0->po T O ⟨B.ct F,B.mt F,B.pt F,B.nt F,B.ot F⟩ n [] [] c (PW T O ts rvs [] r (fun _=>.g)) (Dz O ds)):KT P f ds res:=
 QB hT B.hc B.hm B.hp B.hn B.ho hm n c ts rvs hf hb hnt hts hrv hn h
end
end Go.V