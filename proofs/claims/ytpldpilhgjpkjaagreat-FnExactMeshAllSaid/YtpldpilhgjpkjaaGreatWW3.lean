/-
  slices.Clone at ints, as a contract of a function that only reads.
-/
import Derived.Test.YtpldpilhgjpkjaaGreatWW2
import Derived.Shelf.Slices.Clone
set_option linter.all false
open Go
open IntKind renaming i64->Za
open Value renaming int->Zq
namespace Go.V
open Go Go.Sort Go.Proofs
def wd {w w':World}{t:TypeId}{v:Value}{zs:List Int}(ho:w'.ownsRow w.heap.size t 1 v zs.length (zs.map (Zq Za)))(hb:Go.RowKit.Below w.heap.size w w'):
 ∃ S,lK w' [.one (.s 1 (jd zs))] v S/\S.Nodup/\(∀ b∈S,w.heap.size<=b/\eV w' b)/\Same (fun _=>True) w w':=by
 have hz:(jd zs).length=zs.length:=cq;have sm:Same (fun _=>True) w w':=⟨hb.os,hb.tape,hb.output,hb.size,fun b h _=>hb.block b h⟩;rcases ho.2 with⟨rfl,h0⟩|⟨g,cap,cur,rfl,h1,h2,h3,h4,h5,h6⟩
 ·refine⟨[],?_,List.nodup_nil,fun b h=>(by cases h),sm⟩;show bN w' (.s 1 (jd zs)) _ [];simp only[bN];exact⟨none,0,0,rfl,Uc,Uc,by unfold maxLen;omega,.inl ⟨rfl,trivial⟩⟩
 ·refine⟨[g],?_,by simp,fun b h=>?_,sm⟩
  ·show bN w' (.s 1 (jd zs)) _ [g];simp only[bN];refine⟨_,_,_,rfl,Uc,Uc,h4,.inr ⟨g,0,cur,t,(0,0),[],rfl,h2,Uc,?_,rfl⟩⟩;rw[List.drop_zero,h6];exact Mp
  ·simp at h;subst h;exact⟨h1,.inl ⟨_,_,h2⟩⟩
def KW {P:Program}{f:FuncId}{t:TypeId} 
 (h0:∀ (n c:Nat) (w:World),Calls P f #[.slice none n c] w fun e w'=>e=.returned (.slice none 0 0)/\w'=w)
 (h1:∀ (a:Addr) (c:Nat) (w:World),Calls P f #[.slice (some a) 0 c] w fun e w'=>∃ v',e=.returned v'/\w'.ownsRow w.heap.size t 1 v' 0 []/\v'≠ .slice none 0 0/\Go.RowKit.Below w.heap.size w w')
 (h2:∀ (b off n c:Nat) (zs:List Int) (w:World),n<=zs.length->n*8<=140737488355328->(∀ j,j<zs.length->w.cell? ⟨b,off+j,none⟩=some (.int Za (zs.getD j 0)))->
   Calls P f #[.slice (some ⟨b,off,none⟩) n c] w fun e w'=>∃ v',e=.returned v'/\w'.ownsRow w.heap.size t 1 v' n ((zs.take n).map (Zq Za))/\v'≠ .slice none 0 0/\Go.RowKit.Below w.heap.size w w')
 (l:ab) (hp:Rw [tI] l/\l.length<=1099511627776):LI P f [.one (.s 1 l)] [.one (.s 1 l)]:=by
 obtain⟨hp,hn⟩:=hp;have e:=DD hp;generalize rr l=zs at e;subst e;intro w vs hr;simp only[gR,qP,pw]at hr;obtain⟨v,_,S,rfl,hs,_,rfl⟩:=hr;simp only[bN]at hs;obtain⟨base,len,cap,rfl,rfl,h3,h4,h5⟩:=hs;have hz:(jd zs).length=zs.length:=cq;rw[hz]at hn h3 h5 ⊢;cases base with
 | none=>
   refine(h0 _ _ w).mono ?_;rintro _ _ ⟨rfl,rfl⟩;have c0:zs.length=0:=by
    rcases h5 with⟨h5,_⟩|⟨b,off,cur,ty,fz,S',h,_⟩;omega
    ·cases h
   obtain⟨S,h⟩:=wd (t:=t) (v:=.slice none 0 0) (zs:=zs) ⟨by simp,.inl ⟨rfl,c0⟩⟩ (Go.RowKit.Below.refl _ _);exact⟨_,S,rfl,h⟩
 | some a=>
   by_cases c:zs.length=0
   ·rw[c];refine(h1 a cap w).mono ?_;rintro _ w' ⟨v',rfl,ho,_,hb⟩;obtain rfl:zs=[]:=List.eq_nil_of_length_eq_zero c;obtain⟨S,h⟩:=wd (zs:=[]) ho hb;exact⟨_,S,rfl,h⟩
   ·rcases h5 with⟨h5,_⟩|⟨b,off,cur,ty,fz,S',h,hb,h6,h7,rfl⟩;omega
    cases h;rw[Nat.mul_one]at h6 h7;obtain⟨q1,rfl⟩:=EQ h7;refine(h2 b off zs.length cap zs w (Nat.le_refl _) Uc (fun j hj=>?_)).mono ?_
    ·have h1:((cur.toList.drop off).take zs.length)[j]?=(zs.map (Zq Za))[j]?:=by rw[q1]
     rw[List.getElem?_take_of_lt hj,List.getElem?_drop]at h1;simp only[World.cell?,hb];simp only[Option.isSome_none,Bool.false_eq_true,if_false];rw[<-Array.getElem?_toList,h1];simp[hj]
    ·rintro _ w' ⟨v',rfl,ho,_,hb⟩;rw[List.take_length]at ho;obtain⟨S,h⟩:=wd ho hb;exact⟨_,S,rfl,h⟩
end Go.V