/-
  slices.Clone at structs of scalars, as a contract of a function that only reads.
-/
import Derived.Test.YtpldpilhgjpkjaaGreatZW3
import Derived.Shelf.SlicesE.Clone
set_option linter.all false
open Go
open List renaming mem_cons->Zl,eq_nil_of_length_eq_zero->Yv
open Nat renaming le_refl->Ze
open TypeDesc renaming slice->VK
namespace Go.Proofs
open Go.Shelf Go.RowKit Go.Lib
variable {P: Program} {ρ : Ren}
set_option maxHeartbeats 2000000
set_option maxRecDepth 100000
theorem CQ (L:SlLaysE0.n41 P ρ)(i0:TypeInfo)(z:Value)(size bytes:Nat)(hi:P.info? (ρ.t 23)=some i0)(hz0:i0.zero=some z)(hz1:i0.size=size)(hz2:i0.bytes=bytes)(hzs:z.cells.size=size)(hsz:0<size) 
 (z23:∀ w,(Go.sizeOf (ρ.t 23)).run P w=.ok size w) (a:Addr) (c:Nat) (w:World):
 Calls P (ρ.f 41) #[.slice (some a) 0 c] w fun e w'=>∃ v',e=.returned v'/\w'.ownsRow w.heap.size (ρ.t 23) size v' 0 []/\v'≠ .slice none 0 0/\Below w.heap.size w w':=by
 have mixed:=L.mixed;have t4:=L.t4;have a4:=L.a4;have z4:=L.z4;have v4:=L.v4;have t22:=L.t22;have aM:=L.a22;have z22:=L.z22;have v22:=L.v22;have q22:∀ (w:World) (a:Option Addr) (n c n' c':Nat),(binOp .eql (ρ.t 22) (.slice a n c) (.slice none n' c')).run P w=.ok (.bool a.isNone) w:=fun w a n c n' c'=>Lib.run_eql_slice_nil w _ _ a n c n' c' L.t22
 have u22:∀ w,Sem.run P (underlying (ρ.t 22)) w=.ok (VK (ρ.t 23)) w:=run_underlying t22;obtain⟨_,_,FG⟩:=L.f41
 go_enter FG,SlBodyN.n41_ntmps ρ
 go_wp2_with (at_builtin;refine wpList_append_own _ rfl _ _ (ρ.t 22) rfl w.heap.size (ρ.t 23) i0 z size bytes t22 hi hz0 hz1 hz2 hzs hsz _ _ _ rfl (World.ownsRow_made w #[] 0 (Ze _) (Nat.zero_le _) (by simp)) a 0 c [] rfl (by simp) (by intro j u hj;simp at hj) (by intro u hu;cases hu) (by unfold maxLen;omega) (by omega) (by simp) ?_)
 intro v' w1 hown hgrow hnil
 go_wp2
 go_ret
 refine⟨v',rfl,by simpa using hown,?_,?_⟩
 ·first|exact hnil|(intro e;exact absurd (hnil.1 e).1 (by simp))
 ·exact((Below.refl _ w).alloc (Ze _) _).grown hgrow (by simp) (by intro k hk;simp[Value.ownBlock]at hk;omega)
end Go.Proofs
namespace Go.V
open Go Go.Sort Go.Proofs
def DC {w:World}:∀ {e:aT} {vs:List Value} {S:List Nat},(∀ l∈e,∃ x,l=.v x)->ai w e vs S->S=[]
 |[],vs,S,_,h=>by simp only[ai]at h;exact h.2
 | l::e,vs,S,hs,h=>by
   simp only[ai]at h;obtain⟨v,vs',S1,S2,rfl,h1,h2,rfl⟩:=h;obtain⟨x,rfl⟩:=hs l (by simp);simp only[bT]at h1;rw[h1.2.2,DC (fun l hl=>hs l (by simp[hl])) h2];rfl
def GQ {w:World}{sz:Nat}:∀ {es:af} {vs:List Value} {S:List Nat},(∀ e∈es,∀ l∈e,∃ x,l=.v x)->bN w sz es vs S->S=[]
 |[],vs,S,_,h=>by simp only[bN]at h;exact h.2
 | e::es,vs,S,hs,h=>by
   simp only[bN]at h;obtain⟨v1,v2,S1,S2,rfl,_,h1,h2,rfl⟩:=h;rw[DC (hs e (by simp)) h1,GQ (fun e he=>hs e (by simp[he])) h2];rfl
def QZ:∀ {e:aT},eJ e->∀ l∈e,∃ x,l=.v x
 |[],_,l,hl=>by cases hl
 | .v x::ls,h,l,hl=>by
   rcases Zl.1 hl with rfl|hl;exact⟨x,rfl⟩;exact QZ (e:=ls) (by simpa only[eJ]using h) l hl
 | .s _ _::_,h,_,_=>by simp only[eJ]at h
 | .g::_,h,_,_=>by simp only[eJ]at h
 | .m _ _::_,h,_,_=>by simp only[eJ]at h
def afK:∀ {es:af},bM es->∀ e∈es,∀ l∈e,∃ x,l=.v x
 |[],_,e,he=>by cases he
 | x::es,h,e,he=>by
   simp only[bM]at h;rcases Zl.1 he with rfl|he;exact QZ h.1;exact afK h.2 e he
def rA {w w':World}{t:TypeId}{v:Value}{sz:Nat}{es:af}{news:List Value}(hr:bN w sz es news [])(ho:w'.ownsRow w.heap.size t sz v es.length news)(hb:Go.RowKit.Below w.heap.size w w'):
 ∃ S,gy w' [.one (.s sz es)] v S/\S.Nodup/\(∀ b∈S,w.heap.size<=b/\eH w' b)/\Same (fun _=>True) w w':=by
 have sm:Same (fun _=>True) w w':=⟨hb.os,hb.tape,hb.output,hb.size,fun b h _=>hb.block b h⟩;rcases ho.2 with⟨rfl,h0⟩|⟨g,cap,cur,rfl,h1,h2,h3,h4,h5,h6⟩
 ·refine⟨[],?_,List.nodup_nil,fun b h=>(by cases h),sm⟩;show bT w' (.s sz es) _ [];simp only[bT];exact⟨none,0,0,rfl,Uc,Uc,by unfold maxLen;omega,.inl ⟨rfl,trivial⟩⟩
 ·refine⟨[g],?_,by simp,fun b h=>?_,sm⟩
  ·show bT w' (.s sz es) _ [g];simp only[bT];refine⟨_,_,_,rfl,rfl,Uc,h4,.inr ⟨g,0,cur,t,(0,0),[],rfl,h2,Uc,?_,rfl⟩⟩;rw[List.drop_zero,h6];exact bN.keep sz es news [] hr (fun b hb=>by cases hb)
  ·simp at h;subst h;exact⟨h1,.inl ⟨_,_,h2⟩⟩
def EQ {P:Program}{f:FuncId}{t:TypeId}(sz bytes:Nat)(hsz:0<sz) 
 (h0:∀ (n c:Nat) (w:World),Calls P f #[.slice none n c] w fun e w'=>e=.returned (.slice none 0 0)/\w'=w)
 (h1:∀ (a:Addr) (c:Nat) (w:World),Calls P f #[.slice (some a) 0 c] w fun e w'=>∃ v',e=.returned v'/\w'.ownsRow w.heap.size t sz v' 0 []/\v'≠ .slice none 0 0/\Go.RowKit.Below w.heap.size w w')
 (h2:∀ (b off n c:Nat) (news:List Value) (w:World),news.length=n*sz->n<=maxLen->n*bytes<=140737488355328->(∀ j u,news[j]?=some u->w.cell? ⟨b,off+j,none⟩=some u)->(∀ u∈news,u.oneCell'=true)->
   Calls P f #[.slice (some ⟨b,off,none⟩) n c] w fun e w'=>∃ v',e=.returned v'/\w'.ownsRow w.heap.size t sz v' n news/\v'≠ .slice none 0 0/\Go.RowKit.Below w.heap.size w w')
 (es:af) (hs:∀ e∈es,∀ l∈e,∃ x,l=.v x) (hn:es.length*bytes<=140737488355328):IU P f [.one (.s sz es)] [.one (.s sz es)]:=by
 intro w vs hr;simp only[dL,mX,iq]at hr;obtain⟨v,_,S,rfl,hrd,_,rfl⟩:=hr;simp only[bT]at hrd;obtain⟨base,len,cap,rfl,rfl,h3,h4,h5⟩:=hrd;have nil:∀ {w:World},bN w sz [] [] []:=by intro w;simp only[bN];exact⟨trivial,trivial⟩
 cases base with
 | none=>
   refine(h0 _ _ w).mono ?_;rintro _ _ ⟨rfl,rfl⟩;have c0:es.length=0:=by
    rcases h5 with⟨h5,_⟩|⟨b,off,cur,ty,fz,S',h,_⟩;omega
    ·cases h
   obtain rfl:=Yv c0;obtain⟨S,h⟩:=rA (t:=t) (v:=.slice none 0 0) (es:=[]) (news:=[]) nil ⟨by simp,.inl ⟨rfl,rfl⟩⟩ (Go.RowKit.Below.refl _ _);exact⟨_,S,rfl,h⟩
 | some a=>
   by_cases c:es.length=0
   ·rw[c];refine(h1 a cap w).mono ?_;rintro _ w' ⟨v',rfl,ho,_,hb⟩;obtain rfl:=Yv c;obtain⟨S,h⟩:=rA (es:=[]) nil ho hb;exact⟨_,S,rfl,h⟩
   ·rcases h5 with⟨h5,_⟩|⟨b,off,cur,ty,fz,S',h,hb,h6,h7,rfl⟩;omega
    cases h;obtain rfl:=GQ hs h7;have hl:=h7.length;refine(h2 b off es.length cap _ w hl Uc hn (fun j u hj=>?_) (fun u hu=>h7.ones u hu)).mono ?_
    ·have hj':j<es.length*sz:=by
      have:=(List.getElem?_eq_some_iff.1 hj).1;omega
     rw[List.getElem?_take_of_lt hj',List.getElem?_drop]at hj;simp only[World.cell?,hb];simp only[Option.isSome_none,Bool.false_eq_true,if_false];rw[<-Array.getElem?_toList,hj]
    ·rintro _ w' ⟨v',rfl,ho,_,hb⟩;obtain⟨S,h⟩:=rA h7 ho hb;exact⟨_,S,rfl,h⟩
end Go.V