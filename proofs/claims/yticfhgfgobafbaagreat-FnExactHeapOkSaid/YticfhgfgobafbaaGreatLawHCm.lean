/-
  Contracts, by evaluation.
-/import Derived.Test.YticfhgfgobafbaaGreatS9
import Derived.Test.YticfhgfgobafbaaGreatLawHAm
import Derived.Test.YticfhgfgobafbaaGreatLawHEm
import Derived.Test.YticfhgfgobafbaaGreatVE
set_option linter.all false
namespace Go.V
open Go Go.Proofs
set_option maxRecDepth 1000000
set_option maxHeartbeats 8000000
namespace LCache
structure Fns where
 szN : List (List (List L)) -> Int -> Int
def F0 : Fns := ⟨szN0⟩
def ct (F : Fns) : CT := fun f ds => match f with
 | 94 => match ds with
   | [.one (.s 1 es), .one (.v (.int .i64 left))] => some (fun _ => Rw [.sl [tI]] es /\ 0 <= left /\ left <= 1048576, [.one (.v (.int .i64 (F.szN [es] left)))])
   | _ => none
 | 107 => match ds with
   | [.one (.s 1 es)] => some (fun _ => Rw [.sl [tI]] es /\ cntE es <= 1048576, [.one (.s 1 es)])
   | _ => none
 | 128 => match ds with
   | [.one (.s 1 es), d] => some (fun _ => d = .one (.s 1 es) /\ Rw [.sl [tI]] es /\ cntE es <= 1099511627776, [.one (.v (.bool true))])
   | _ => none
 | _ => none
theorem ct_ok : CTok Tryz.prog (ct F0) := by
 intro f ds pre res h hp
 unfold ct at h
 split at h <;> (try split at h) <;> cases h
 exact c_laws_szIntSS _ _ hp
 exact c_laws_toIntSS _ hp
 exact c_laws_eqIntSS _ _ hp
def B : TB Tryz.prog := tb ct_ok
end LCache
theorem c_laws_szCache (a0 : List (List L)) (left : Int) (hp : Rw [.sl [tI]] a0 /\ 0 <= left /\ left <= 1048576) : Ctr Tryz.prog 92 [.agg [.s 1 a0], .one (.v (.int .i64 left))] [.one (.v (.int .i64 (szN0 [a0] left)))] := by
 obtain ⟨w0, h0, h1⟩ := hp
 refine ctr_b LCache.B tabOk mixed 12 _ [3] [.tmp 4] Tryz.func92 rfl rfl rfl rfl rfl ?_
 intro O r (F : LCache.Fns) hO hr (hF : F = LCache.F0)
 cbv
 repeat' first | refine And.intro ?_ ?_ | (refine cbi (fun hb => ?_) (fun hb => ?_) <;> cbv)
 all_goals (subst hO hr hF; (try simp only [stdO, SS, sa, az] at *); (try simp only [nc] at *); (try simp only [onc] at *))
 all_goals (try simp only [LCache.F0] at *)
 all_goals iterate 1 (try simp (disch := assumption) only [szN_app, List.cons_append, List.nil_append] at *)
 all_goals first | trivial | exact rfl | (refine ⟨by assumption, by omega, by first | omega | exact Int.le_trans (szN_le (by assumption)) h1⟩) | (rw [szN_neg1 (by assumption)]) | trace_state
theorem c_laws_toCache (a0 : List (List L)) (hp : Rw [.sl [tI]] a0 /\ cntRs [a0] <= 1048576) : Ctr Tryz.prog 105 [.agg [.s 1 a0]] [.agg [.s 1 a0]] := by
 obtain ⟨w0, hlim⟩ := hp
 simp only [cntRs, Nat.add_zero] at hlim
 refine ctr_b LCache.B tabOk mixed 9 _ [107] [.cell 2 107] Tryz.func105 rfl rfl rfl rfl rfl ?_
 intro O r (F : LCache.Fns) hO hr (hF : F = LCache.F0)
 cbv
 repeat' first | refine And.intro ?_ ?_ | (refine cbi (fun hb => ?_) (fun hb => ?_) <;> cbv)
 all_goals (subst hO hr hF; (try simp only [stdO, SS, sa, az] at *); (try simp only [nc] at *); (try simp only [onc] at *))
 all_goals (try simp only [LCache.F0] at *)
 all_goals first | trivial | exact rfl | exact ⟨trivial, trivial⟩ | exact ⟨rfl, rfl⟩ | (refine ⟨by assumption, ?_⟩; (try simp only [cntRs, Nat.add_zero]); omega) | ((try simp only [cntRs, Nat.add_zero]); omega) | trace_state
theorem c_laws_eqCache (a0 : List (List L)) (d : DV) (hp : d = .agg [.s 1 a0] /\ Rw [.sl [tI]] a0 /\ cntRs [a0] <= 1099511627776) : Ctr Tryz.prog 126 [.agg [.s 1 a0], d] [.one (.v (.bool true))] := by
 obtain ⟨rfl, w0, hlim⟩ := hp
 simp only [cntRs, Nat.add_zero] at hlim
 refine ctr_b LCache.B tabOk mixed 11 _ [4] [.tmp 4] Tryz.func126 rfl rfl rfl rfl rfl ?_
 intro O r (F : LCache.Fns) hO hr (hF : F = LCache.F0)
 cbv
 repeat' first | refine And.intro ?_ ?_ | (refine cbi (fun hb => ?_) (fun hb => ?_) <;> cbv)
 all_goals (subst hO hr hF; (try simp only [stdO, SS, sa, az] at *); (try simp only [nc] at *); (try simp only [onc] at *))
 all_goals (try simp only [LCache.F0] at *)
 all_goals first | trivial | exact rfl | exact absurd rfl hb | exact absurd rfl (by assumption) | (refine ⟨trivial, by assumption, ?_⟩; (try simp only [cntRs, Nat.add_zero]); omega) | (refine ⟨trivial, ?_⟩; (try simp only [cntRs, Nat.add_zero]); omega) | trace_state
namespace LCacheS
structure Fns where
 szN : List (List (List L)) -> Int -> Int
def F0 : Fns := ⟨szN0⟩
def ct (F : Fns) : CT := fun f ds => match f with
 | 92 => match ds with
   | [.agg [.s 1 a0], .one (.v (.int .i64 left))] => some (fun _ => Rw [.sl [tI]] a0 /\ 0 <= left /\ left <= 1048576, [.one (.v (.int .i64 (F.szN [a0] left)))])
   | _ => none
 | 105 => match ds with
   | [.agg [.s 1 a0]] => some (fun _ => Rw [.sl [tI]] a0 /\ cntRs [a0] <= 1048576, [.agg [.s 1 a0]])
   | _ => none
 | 126 => match ds with
   | [.agg [.s 1 a0], d] => some (fun _ => d = .agg [.s 1 a0] /\ Rw [.sl [tI]] a0 /\ cntRs [a0] <= 1099511627776, [.one (.v (.bool true))])
   | _ => none
 | _ => none
theorem ct_ok : CTok Tryz.prog (ct F0) := by
 intro f ds pre res h hp
 unfold ct at h
 split at h <;> (try split at h) <;> cases h
 exact c_laws_szCache _ _ hp
 exact c_laws_toCache _ hp
 exact c_laws_eqCache _ _ hp
def B : TB Tryz.prog := tb ct_ok
end LCacheS
theorem c_laws_szCacheS (es : List (List L)) (left : Int) (hp : Rw [.sl [.sl [tI]]] es /\ 0 <= left /\ left <= 1048576) : Ctr Tryz.prog 21 [.one (.s 1 es), .one (.v (.int .i64 left))] [.one (.v (.int .i64 (szN0 [es] left)))] := by
 obtain ⟨hw, h0, h1⟩ := hp
 have hwf : Wf [.s 1 []] es := hw.wf
 have hm := hw.1; unfold maxLen at hm
 have hs : arI .sub .i64 left es.length = left - es.length := sub64 (by omega)
 have hcE : cntE es = es.length + cntEs es := rfl
 have hn : szN0 [es] left = if left < cntE es then -1 else left - cntE es := by unfold szN0; rw [cntRs_one]
 refine ctr_b LCacheS.B tabOk mixed 27 _ [3] [.tmp 4] Tryz.func21 rfl rfl rfl rfl rfl ?_
 intro O r (F : LCacheS.Fns) hO hr (hF : F = LCacheS.F0)
 cbv
 refine cbi (fun hb => ?_) (fun hb => ?_) <;> cbv
 ·repeat' first | refine And.intro ?_ ?_ | (refine cbi (fun hb => ?_) (fun hb => ?_) <;> cbv)
  all_goals (subst hO hr hF; (try simp only [stdO, SS, sa, az] at *); (try simp only [nc] at *); (try simp only [onc] at *))
  all_goals (try simp only [hs, LCacheS.F0] at *)
  all_goals first | trivial | (rw [hn, if_pos (by omega)]) | trace_state
 have hb0 : 0 <= left - es.length := by
  (subst hO hr hF; (try simp only [stdO, SS, sa, az] at *); (try simp only [nc] at *); (try simp only [onc] at *))
  rw [hs] at hb
  exact hb
 clear hb
 refine ⟨[0, 1, 5], [], Int × Int, fun s => match s with | (i, l) => [.reg 5 (.one (.v (.int .i64 i))), .reg 1 (.one (.v (.int .i64 l)))], fun s => 0 <= s.1 /\ s.1.toNat <= es.length /\ 0 <= s.2 /\ s.2 = left - es.length - cntEs (es.take s.1.toNat), fun s => es.length - s.1.toNat, ⟨(0, O.ar .sub .i64 left (O.zi (O.ln es))), ?_, ?_⟩, ?_⟩
 ·(subst hO hr hF; (try simp only [stdO, SS, sa, az] at *); (try simp only [nc] at *); (try simp only [onc] at *))
  rw [hs]
  exact ⟨by omega, Nat.zero_le _, hb0, by simp [cntEs]⟩
 ·cbv
 ·rintro ⟨i, l⟩ hi
  replace hi : 0 <= i /\ i.toNat <= es.length /\ 0 <= l /\ l = left - es.length - cntEs (es.take i.toNat) := hi
  obtain ⟨g0, g1, g2, g3⟩ := hi
  cbv
  repeat' first | refine And.intro ?_ ?_ | (refine cbi (fun hb => ?_) (fun hb => ?_) <;> cbv) | (refine loop_step (O.ar .add .i64 i 1, F.szN [O.gs es i 0] l) ?_ ?_ ?_; rotate_left 2; focus (cbv; done))
  all_goals (subst hO hr hF; (try simp only [stdO, SS, sa, az] at *); (try simp only [nc] at *); (try simp only [onc] at *))
  all_goals try have hlt : i < es.length := by assumption
  all_goals try rw [inc64 (n := es.length) g0 hlt (by omega)]
  all_goals (try simp only [LCacheS.F0] at *)
  all_goals try have he : es.getD i.toNat [] = [.s 1 (gsI es i 0)] := (etaE_whole hwf g0 hlt).symm
  all_goals try have hr0 : Rw [.sl [tI]] (gsI es i 0) := Rw.sub (fs := [.sl [.sl [tI]]]) hw (by omega) rfl
  all_goals try have hct := cntE_at (es := es) (n := i.toNat) (by omega); rw [he] at hct; simp only [cntR, cntL, Nat.add_zero, Nat.zero_add] at hct
  all_goals have hle := cntEs_take_le (es := es) (n := i.toNat)
  all_goals have hle1 := cntEs_take_le (es := es) (n := i.toNat + 1)
  all_goals have hsz := szN_neg (a := [gsI es i 0]) (left := l)
  all_goals have hsz2 : 0 <= szN0 [gsI es i 0] l -> szN0 [gsI es i 0] l = l - cntRs [gsI es i 0] := szN_pos
  all_goals simp only [cntRs, cntE, Nat.add_zero] at hsz hsz2
  all_goals first | exact row_ro hwf g0 hlt | exact ⟨hr0, by omega, by omega⟩ | trivial | omega | (rw [hn, if_pos]; omega) | (rw [hn, if_neg (by rw [show i.toNat = es.length from by omega, List.take_length] at g3; omega), show l = left - cntE es from by rw [show i.toNat = es.length from by omega, List.take_length] at g3; omega]) | (rw [show (i + 1).toNat = i.toNat + 1 from by omega, hct]; omega) | trace_state
theorem c_laws_toCacheS (es : List (List L)) (hp : Rw [.sl [.sl [tI]]] es /\ cntE es <= 1048576) : Ctr Tryz.prog 33 [.one (.s 1 es)] [.one (.s 1 es)] := by
 obtain ⟨hw, hlim⟩ := hp
 have hwf : Wf [.s 1 []] es := hw.wf
 have hlen : es.length <= 1048576 := Nat.le_trans (Nat.le_add_right _ _) hlim
 refine ctr_b LCacheS.B tabOk mixed 23 _ [65] [.tmp 2] Tryz.func33 rfl rfl rfl rfl rfl ?_
 intro O r (F : LCacheS.Fns) hO hr (hF : F = LCacheS.F0)
 cbv
 have h0z : fillR es [.s 1 []] 0 = O.rep (O.zi (O.ln es)) [.s 1 []] := by
  subst hO
  rw [fillR_zero]; rfl
 refine ⟨?_, ?_, [0, 3, 4], [3], Int × List (List L), fun s => [.reg 4 (.one (.v (.int .i64 s.1))), .leaf 3 0 ⟨0, 0, none, .own (.s 1 s.2)⟩], fun s => 0 <= s.1 /\ s.1.toNat <= es.length /\ s.2 = fillR es [.s 1 []] s.1.toNat, fun s => es.length - s.1.toNat, ⟨(0, O.rep (O.zi (O.ln es)) [.s 1 []]), ?_, ?_⟩, ?_⟩
 ·subst hO
  exact mk_ok (b := 24) (show es.length * _ <= _ by omega) (show es.length <= _ by omega)
 ·subst hO
  exact ⟨rfl, rfl⟩
 ·exact ⟨by omega, Nat.zero_le _, h0z.symm⟩
 ·cbv
 ·rintro ⟨i, m⟩ hi
  replace hi : 0 <= i /\ i.toNat <= es.length /\ m = fillR es [.s 1 []] i.toNat := hi
  obtain ⟨g0, g1, hm⟩ := hi
  cbv
  repeat' first | refine And.intro ?_ ?_ | (refine cbi (fun hb => ?_) (fun hb => ?_) <;> cbv) | (refine loop_step (O.ar .add .i64 i 1, O.up (.s 1 m) [(O.ad 0 i, 0)] [.s 1 (O.gs es i 0)]) ?_ ?_ ?_; rotate_left 2; focus (cbv; done))
  all_goals (subst hO hr hF; (try simp only [stdO, SS, sa, az] at *); (try simp only [nc] at *); (try simp only [onc] at *))
  all_goals (try simp only [LCacheS.F0, repI, List.length_replicate, Int.toNat_natCast] at *)
  all_goals try have hlt : i < es.length := by assumption
  all_goals try rw [inc64 (n := es.length) g0 hlt (by omega)]
  all_goals try have he : es.getD i.toNat [] = [.s 1 (gsI es i 0)] := (etaE_whole hwf g0 hlt).symm
  all_goals try have hr0 : Rw [.sl [tI]] (gsI es i 0) := Rw.sub (fs := [.sl [.sl [tI]]]) hw (by omega) rfl
  all_goals try have hct := cntE_at (es := es) (n := i.toNat) (by omega); rw [he] at hct; simp only [cntR, cntL, Nat.add_zero, Nat.zero_add] at hct
  all_goals have hle1 := cntEs_take_le (es := es) (n := i.toNat + 1)
  all_goals have hcE : cntE es = es.length + cntEs es := rfl
  all_goals first | exact row_ro hwf g0 hlt | exact ⟨g0, hlt⟩ | (rw [hm]; exact getR_some (by rw [fillR_length g1]; omega) (by rw [fillR_getD (by omega)]; exact Nat.le_refl _)) | omega | (rw [show (i + 1).toNat = i.toNat + 1 from by omega, <- fillR_set (by omega), <- hm, upI_one (by rw [hm, fillR_getD (by omega)]; rfl), he]) | (rw [hm, fillR_length g1]; exact ⟨trivial, rfl⟩) | (rw [hm, show i.toNat = es.length from by omega, fillR_all]) | trivial | exact ⟨trivial, trivial⟩ | (refine ⟨hr0, ?_⟩; simp only [cntRs, cntE, Nat.add_zero]; omega) | trace_state
theorem c_laws_eqCacheS (es : List (List L)) (d : DV) (hp : d = .one (.s 1 es) /\ Rw [.sl [.sl [tI]]] es /\ cntE es <= 1099511627776) : Ctr Tryz.prog 50 [.one (.s 1 es), d] [.one (.v (.bool true))] := by
 obtain ⟨rfl, hw, hlim⟩ := hp
 have hwf : Wf [.s 1 []] es := hw.wf
 have hlen : es.length <= 1099511627776 := Nat.le_trans (Nat.le_add_right _ _) hlim
 refine ctr_b LCacheS.B tabOk mixed 27 _ [4] [.tmp 4] Tryz.func50 rfl rfl rfl rfl rfl ?_
 intro O r (F : LCacheS.Fns) hO hr (hF : F = LCacheS.F0)
 cbv
 refine cbi (fun hb => ?_) (fun hb => ?_) <;> cbv
 ·(subst hO hr hF; (try simp only [stdO, SS, sa, az] at *); (try simp only [nc] at *); (try simp only [onc] at *)); exact absurd rfl hb
 ·clear hb
  refine ⟨[0, 1, 5], [], Int, fun i => [.reg 5 (.one (.v (.int .i64 i)))], fun i => 0 <= i /\ i.toNat <= es.length, fun i => es.length - i.toNat, ⟨0, ?_, ?_⟩, ?_⟩
  ·exact ⟨by omega, Nat.zero_le _⟩
  ·cbv
  ·rintro i hi
   replace hi : 0 <= i /\ i.toNat <= es.length := hi
   obtain ⟨g0, g1⟩ := hi
   cbv
   repeat' first | refine And.intro ?_ ?_ | (refine cbi (fun hb => ?_) (fun hb => ?_) <;> cbv) | (refine loop_step (O.ar .add .i64 i 1) ?_ ?_ ?_; rotate_left 2; focus (cbv; done))
   all_goals (subst hO hr hF; (try simp only [stdO, SS, sa, az] at *); (try simp only [nc] at *); (try simp only [onc] at *))
   all_goals (try simp only [LCacheS.F0] at *)
   all_goals try have hlt : i < es.length := by assumption
   all_goals try rw [inc64 (n := es.length) g0 hlt (by omega)]
   all_goals try have he : es.getD i.toNat [] = [.s 1 (gsI es i 0)] := (etaE_whole hwf g0 hlt).symm
   all_goals try have hr0 : Rw [.sl [tI]] (gsI es i 0) := Rw.sub (fs := [.sl [.sl [tI]]]) hw (by omega) rfl
   all_goals try have hct := cntE_at (es := es) (n := i.toNat) (by omega); rw [he] at hct; simp only [cntR, cntL, Nat.add_zero, Nat.zero_add] at hct
   all_goals have hle1 := cntEs_take_le (es := es) (n := i.toNat + 1)
   all_goals have hcE : cntE es = es.length + cntEs es := rfl
   all_goals first | omega | exact row_ro hwf g0 hlt | exact absurd rfl hb | exact absurd rfl (by assumption) | trivial | kernel_rfl | exact ⟨trivial, trivial⟩ | (refine ⟨trivial, hr0, ?_⟩; simp only [cntRs, cntE, Nat.add_zero]; omega) | trace_state
namespace LPostSS
structure Fns where
 szN : List (List (List L)) -> Int -> Int
def F0 : Fns := ⟨szN0⟩
def ct (F : Fns) : CT := fun f ds => match f with
 | 174 => match ds with
   | [.one (.s 2 es), .one (.v (.int .i64 left))] => some (fun _ => Rw [tI, tI] es /\ 0 <= left /\ left <= 1048576, [.one (.v (.int .i64 (F.szN [es] left)))])
   | _ => none
 | 181 => match ds with
   | [.one (.s 2 es)] => some (fun _ => Rw [tI, tI] es /\ cntE es <= 1048576, [.one (.s 2 es)])
   | _ => none
 | 191 => match ds with
   | [.one (.s 2 es), d] => some (fun _ => d = .one (.s 2 es) /\ Rw [tI, tI] es /\ cntE es <= 1099511627776, [.one (.v (.bool true))])
   | _ => none
 | _ => none
theorem ct_ok : CTok Tryz.prog (ct F0) := by
 intro f ds pre res h hp
 unfold ct at h
 split at h <;> (try split at h) <;> cases h
 exact c_laws_szPostS _ _ hp
 exact c_laws_toPostS _ hp
 exact c_laws_eqPostS _ _ hp
def B : TB Tryz.prog := tb ct_ok
end LPostSS
theorem c_laws_szPostSS (es : List (List L)) (left : Int) (hp : Rw [.sl [tI, tI]] es /\ 0 <= left /\ left <= 1048576) : Ctr Tryz.prog 93 [.one (.s 1 es), .one (.v (.int .i64 left))] [.one (.v (.int .i64 (szN0 [es] left)))] := by
 obtain ⟨hw, h0, h1⟩ := hp
 have hwf : Wf [.s 2 []] es := hw.wf
 have hm := hw.1; unfold maxLen at hm
 have hs : arI .sub .i64 left es.length = left - es.length := sub64 (by omega)
 have hcE : cntE es = es.length + cntEs es := rfl
 have hn : szN0 [es] left = if left < cntE es then -1 else left - cntE es := by unfold szN0; rw [cntRs_one]
 refine ctr_b LPostSS.B tabOk mixed 27 _ [3] [.tmp 4] Tryz.func93 rfl rfl rfl rfl rfl ?_
 intro O r (F : LPostSS.Fns) hO hr (hF : F = LPostSS.F0)
 cbv
 refine cbi (fun hb => ?_) (fun hb => ?_) <;> cbv
 ·repeat' first | refine And.intro ?_ ?_ | (refine cbi (fun hb => ?_) (fun hb => ?_) <;> cbv)
  all_goals (subst hO hr hF; (try simp only [stdO, SS, sa, az] at *); (try simp only [nc] at *); (try simp only [onc] at *))
  all_goals (try simp only [hs, LPostSS.F0] at *)
  all_goals first | trivial | (rw [hn, if_pos (by omega)]) | trace_state
 have hb0 : 0 <= left - es.length := by
  (subst hO hr hF; (try simp only [stdO, SS, sa, az] at *); (try simp only [nc] at *); (try simp only [onc] at *))
  rw [hs] at hb
  exact hb
 clear hb
 refine ⟨[0, 1, 5], [], Int × Int, fun s => match s with | (i, l) => [.reg 5 (.one (.v (.int .i64 i))), .reg 1 (.one (.v (.int .i64 l)))], fun s => 0 <= s.1 /\ s.1.toNat <= es.length /\ 0 <= s.2 /\ s.2 = left - es.length - cntEs (es.take s.1.toNat), fun s => es.length - s.1.toNat, ⟨(0, O.ar .sub .i64 left (O.zi (O.ln es))), ?_, ?_⟩, ?_⟩
 ·(subst hO hr hF; (try simp only [stdO, SS, sa, az] at *); (try simp only [nc] at *); (try simp only [onc] at *))
  rw [hs]
  exact ⟨by omega, Nat.zero_le _, hb0, by simp [cntEs]⟩
 ·cbv
 ·rintro ⟨i, l⟩ hi
  replace hi : 0 <= i /\ i.toNat <= es.length /\ 0 <= l /\ l = left - es.length - cntEs (es.take i.toNat) := hi
  obtain ⟨g0, g1, g2, g3⟩ := hi
  cbv
  repeat' first | refine And.intro ?_ ?_ | (refine cbi (fun hb => ?_) (fun hb => ?_) <;> cbv) | (refine loop_step (O.ar .add .i64 i 1, F.szN [O.gs es i 0] l) ?_ ?_ ?_; rotate_left 2; focus (cbv; done))
  all_goals (subst hO hr hF; (try simp only [stdO, SS, sa, az] at *); (try simp only [nc] at *); (try simp only [onc] at *))
  all_goals try have hlt : i < es.length := by assumption
  all_goals try rw [inc64 (n := es.length) g0 hlt (by omega)]
  all_goals (try simp only [LPostSS.F0] at *)
  all_goals try have he : es.getD i.toNat [] = [.s 2 (gsI es i 0)] := (etaE_whole hwf g0 hlt).symm
  all_goals try have hr0 : Rw [tI, tI] (gsI es i 0) := Rw.sub (fs := [.sl [tI, tI]]) hw (by omega) rfl
  all_goals try have hct := cntE_at (es := es) (n := i.toNat) (by omega); rw [he] at hct; simp only [cntR, cntL, Nat.add_zero, Nat.zero_add] at hct
  all_goals have hle := cntEs_take_le (es := es) (n := i.toNat)
  all_goals have hle1 := cntEs_take_le (es := es) (n := i.toNat + 1)
  all_goals have hsz := szN_neg (a := [gsI es i 0]) (left := l)
  all_goals have hsz2 : 0 <= szN0 [gsI es i 0] l -> szN0 [gsI es i 0] l = l - cntRs [gsI es i 0] := szN_pos
  all_goals simp only [cntRs, cntE, Nat.add_zero] at hsz hsz2
  all_goals first | exact row_ro hwf g0 hlt | exact ⟨hr0, by omega, by omega⟩ | trivial | omega | (rw [hn, if_pos]; omega) | (rw [hn, if_neg (by rw [show i.toNat = es.length from by omega, List.take_length] at g3; omega), show l = left - cntE es from by rw [show i.toNat = es.length from by omega, List.take_length] at g3; omega]) | (rw [show (i + 1).toNat = i.toNat + 1 from by omega, hct]; omega) | trace_state
theorem c_laws_toPostSS (es : List (List L)) (hp : Rw [.sl [tI, tI]] es /\ cntE es <= 1048576) : Ctr Tryz.prog 106 [.one (.s 1 es)] [.one (.s 1 es)] := by
 obtain ⟨hw, hlim⟩ := hp
 have hwf : Wf [.s 2 []] es := hw.wf
 have hlen : es.length <= 1048576 := Nat.le_trans (Nat.le_add_right _ _) hlim
 refine ctr_b LPostSS.B tabOk mixed 23 _ [66] [.tmp 2] Tryz.func106 rfl rfl rfl rfl rfl ?_
 intro O r (F : LPostSS.Fns) hO hr (hF : F = LPostSS.F0)
 cbv
 have h0z : fillR es [.s 2 []] 0 = O.rep (O.zi (O.ln es)) [.s 2 []] := by
  subst hO
  rw [fillR_zero]; rfl
 refine ⟨?_, ?_, [0, 3, 4], [3], Int × List (List L), fun s => [.reg 4 (.one (.v (.int .i64 s.1))), .leaf 3 0 ⟨0, 0, none, .own (.s 1 s.2)⟩], fun s => 0 <= s.1 /\ s.1.toNat <= es.length /\ s.2 = fillR es [.s 2 []] s.1.toNat, fun s => es.length - s.1.toNat, ⟨(0, O.rep (O.zi (O.ln es)) [.s 2 []]), ?_, ?_⟩, ?_⟩
 ·subst hO
  exact mk_ok (b := 24) (show es.length * _ <= _ by omega) (show es.length <= _ by omega)
 ·subst hO
  exact ⟨rfl, rfl⟩
 ·exact ⟨by omega, Nat.zero_le _, h0z.symm⟩
 ·cbv
 ·rintro ⟨i, m⟩ hi
  replace hi : 0 <= i /\ i.toNat <= es.length /\ m = fillR es [.s 2 []] i.toNat := hi
  obtain ⟨g0, g1, hm⟩ := hi
  cbv
  repeat' first | refine And.intro ?_ ?_ | (refine cbi (fun hb => ?_) (fun hb => ?_) <;> cbv) | (refine loop_step (O.ar .add .i64 i 1, O.up (.s 1 m) [(O.ad 0 i, 0)] [.s 2 (O.gs es i 0)]) ?_ ?_ ?_; rotate_left 2; focus (cbv; done))
  all_goals (subst hO hr hF; (try simp only [stdO, SS, sa, az] at *); (try simp only [nc] at *); (try simp only [onc] at *))
  all_goals (try simp only [LPostSS.F0, repI, List.length_replicate, Int.toNat_natCast] at *)
  all_goals try have hlt : i < es.length := by assumption
  all_goals try rw [inc64 (n := es.length) g0 hlt (by omega)]
  all_goals try have he : es.getD i.toNat [] = [.s 2 (gsI es i 0)] := (etaE_whole hwf g0 hlt).symm
  all_goals try have hr0 : Rw [tI, tI] (gsI es i 0) := Rw.sub (fs := [.sl [tI, tI]]) hw (by omega) rfl
  all_goals try have hct := cntE_at (es := es) (n := i.toNat) (by omega); rw [he] at hct; simp only [cntR, cntL, Nat.add_zero, Nat.zero_add] at hct
  all_goals have hle1 := cntEs_take_le (es := es) (n := i.toNat + 1)
  all_goals have hcE : cntE es = es.length + cntEs es := rfl
  all_goals first | exact row_ro hwf g0 hlt | exact ⟨g0, hlt⟩ | (rw [hm]; exact getR_some (by rw [fillR_length g1]; omega) (by rw [fillR_getD (by omega)]; exact Nat.le_refl _)) | omega | (rw [show (i + 1).toNat = i.toNat + 1 from by omega, <- fillR_set (by omega), <- hm, upI_one (by rw [hm, fillR_getD (by omega)]; rfl), he]) | (rw [hm, fillR_length g1]; exact ⟨trivial, rfl⟩) | (rw [hm, show i.toNat = es.length from by omega, fillR_all]) | trivial | exact ⟨trivial, trivial⟩ | (refine ⟨hr0, ?_⟩; simp only [cntRs, cntE, Nat.add_zero]; omega) | trace_state
theorem c_laws_eqPostSS (es : List (List L)) (d : DV) (hp : d = .one (.s 1 es) /\ Rw [.sl [tI, tI]] es /\ cntE es <= 1099511627776) : Ctr Tryz.prog 127 [.one (.s 1 es), d] [.one (.v (.bool true))] := by
 obtain ⟨rfl, hw, hlim⟩ := hp
 have hwf : Wf [.s 2 []] es := hw.wf
 have hlen : es.length <= 1099511627776 := Nat.le_trans (Nat.le_add_right _ _) hlim
 refine ctr_b LPostSS.B tabOk mixed 27 _ [4] [.tmp 4] Tryz.func127 rfl rfl rfl rfl rfl ?_
 intro O r (F : LPostSS.Fns) hO hr (hF : F = LPostSS.F0)
 cbv
 refine cbi (fun hb => ?_) (fun hb => ?_) <;> cbv
 ·(subst hO hr hF; (try simp only [stdO, SS, sa, az] at *); (try simp only [nc] at *); (try simp only [onc] at *)); exact absurd rfl hb
 ·clear hb
  refine ⟨[0, 1, 5], [], Int, fun i => [.reg 5 (.one (.v (.int .i64 i)))], fun i => 0 <= i /\ i.toNat <= es.length, fun i => es.length - i.toNat, ⟨0, ?_, ?_⟩, ?_⟩
  ·exact ⟨by omega, Nat.zero_le _⟩
  ·cbv
  ·rintro i hi
   replace hi : 0 <= i /\ i.toNat <= es.length := hi
   obtain ⟨g0, g1⟩ := hi
   cbv
   repeat' first | refine And.intro ?_ ?_ | (refine cbi (fun hb => ?_) (fun hb => ?_) <;> cbv) | (refine loop_step (O.ar .add .i64 i 1) ?_ ?_ ?_; rotate_left 2; focus (cbv; done))
   all_goals (subst hO hr hF; (try simp only [stdO, SS, sa, az] at *); (try simp only [nc] at *); (try simp only [onc] at *))
   all_goals (try simp only [LPostSS.F0] at *)
   all_goals try have hlt : i < es.length := by assumption
   all_goals try rw [inc64 (n := es.length) g0 hlt (by omega)]
   all_goals try have he : es.getD i.toNat [] = [.s 2 (gsI es i 0)] := (etaE_whole hwf g0 hlt).symm
   all_goals try have hr0 : Rw [tI, tI] (gsI es i 0) := Rw.sub (fs := [.sl [tI, tI]]) hw (by omega) rfl
   all_goals try have hct := cntE_at (es := es) (n := i.toNat) (by omega); rw [he] at hct; simp only [cntR, cntL, Nat.add_zero, Nat.zero_add] at hct
   all_goals have hle1 := cntEs_take_le (es := es) (n := i.toNat + 1)
   all_goals have hcE : cntE es = es.length + cntEs es := rfl
   all_goals first | omega | exact row_ro hwf g0 hlt | exact absurd rfl hb | exact absurd rfl (by assumption) | trivial | kernel_rfl | exact ⟨trivial, trivial⟩ | (refine ⟨trivial, hr0, ?_⟩; simp only [cntRs, cntE, Nat.add_zero]; omega) | trace_state
namespace LMail
structure Fns where
 szN : List (List (List L)) -> Int -> Int
def F0 : Fns := ⟨szN0⟩
def ct (F : Fns) : CT := fun f ds => match f with
 | 93 => match ds with
   | [.one (.s 1 es), .one (.v (.int .i64 left))] => some (fun _ => Rw [.sl [tI, tI]] es /\ 0 <= left /\ left <= 1048576, [.one (.v (.int .i64 (F.szN [es] left)))])
   | _ => none
 | 106 => match ds with
   | [.one (.s 1 es)] => some (fun _ => Rw [.sl [tI, tI]] es /\ cntE es <= 1048576, [.one (.s 1 es)])
   | _ => none
 | 127 => match ds with
   | [.one (.s 1 es), d] => some (fun _ => d = .one (.s 1 es) /\ Rw [.sl [tI, tI]] es /\ cntE es <= 1099511627776, [.one (.v (.bool true))])
   | _ => none
 | 94 => match ds with
   | [.one (.s 1 es), .one (.v (.int .i64 left))] => some (fun _ => Rw [.sl [tI]] es /\ 0 <= left /\ left <= 1048576, [.one (.v (.int .i64 (F.szN [es] left)))])
   | _ => none
 | 107 => match ds with
   | [.one (.s 1 es)] => some (fun _ => Rw [.sl [tI]] es /\ cntE es <= 1048576, [.one (.s 1 es)])
   | _ => none
 | 128 => match ds with
   | [.one (.s 1 es), d] => some (fun _ => d = .one (.s 1 es) /\ Rw [.sl [tI]] es /\ cntE es <= 1099511627776, [.one (.v (.bool true))])
   | _ => none
 | _ => none
theorem ct_ok : CTok Tryz.prog (ct F0) := by
 intro f ds pre res h hp
 unfold ct at h
 split at h <;> (try split at h) <;> cases h
 exact c_laws_szPostSS _ _ hp
 exact c_laws_toPostSS _ hp
 exact c_laws_eqPostSS _ _ hp
 exact c_laws_szIntSS _ _ hp
 exact c_laws_toIntSS _ hp
 exact c_laws_eqIntSS _ _ hp
def B : TB Tryz.prog := tb ct_ok
end LMail
theorem c_laws_szMail (a0 a1 : List (List L)) (left : Int) (hp : Rw [.sl [tI, tI]] a0 /\ Rw [.sl [tI]] a1 /\ 0 <= left /\ left <= 1048576) : Ctr Tryz.prog 22 [.agg [.s 1 a0, .s 1 a1], .one (.v (.int .i64 left))] [.one (.v (.int .i64 (szN0 [a0, a1] left)))] := by
 obtain ⟨w0, w1, h0, h1⟩ := hp
 refine ctr_b LMail.B tabOk mixed 18 _ [3] [.tmp 4] Tryz.func22 rfl rfl rfl rfl rfl ?_
 intro O r (F : LMail.Fns) hO hr (hF : F = LMail.F0)
 cbv
 repeat' first | refine And.intro ?_ ?_ | (refine cbi (fun hb => ?_) (fun hb => ?_) <;> cbv)
 all_goals (subst hO hr hF; (try simp only [stdO, SS, sa, az] at *); (try simp only [nc] at *); (try simp only [onc] at *))
 all_goals (try simp only [LMail.F0] at *)
 all_goals iterate 1 (try simp (disch := assumption) only [szN_app, List.cons_append, List.nil_append] at *)
 all_goals first | trivial | exact rfl | (refine ⟨by assumption, by omega, by first | omega | exact Int.le_trans (szN_le (by assumption)) h1⟩) | (refine ⟨by assumption, by assumption, by omega, by first | omega | exact Int.le_trans (szN_le (by assumption)) h1⟩) | (rw [szN_neg1 (by assumption)]) | exact congrArg (fun x => [DV.one (L.v (Value.int IntKind.i64 x))]) (szN_more (a := [a0]) (b := [a1]) (by assumption)).symm | trace_state
theorem c_laws_toMail (a0 a1 : List (List L)) (hp : Rw [.sl [tI, tI]] a0 /\ Rw [.sl [tI]] a1 /\ cntRs [a0, a1] <= 1048576) : Ctr Tryz.prog 34 [.agg [.s 1 a0, .s 1 a1]] [.agg [.s 1 a0, .s 1 a1]] := by
 obtain ⟨w0, w1, hlim⟩ := hp
 simp only [cntRs, Nat.add_zero] at hlim
 refine ctr_b LMail.B tabOk mixed 13 _ [68] [.cell 2 68] Tryz.func34 rfl rfl rfl rfl rfl ?_
 intro O r (F : LMail.Fns) hO hr (hF : F = LMail.F0)
 cbv
 repeat' first | refine And.intro ?_ ?_ | (refine cbi (fun hb => ?_) (fun hb => ?_) <;> cbv)
 all_goals (subst hO hr hF; (try simp only [stdO, SS, sa, az] at *); (try simp only [nc] at *); (try simp only [onc] at *))
 all_goals (try simp only [LMail.F0] at *)
 all_goals first | trivial | exact rfl | exact ⟨trivial, trivial⟩ | exact ⟨rfl, rfl⟩ | (refine ⟨by assumption, ?_⟩; (try simp only [cntRs, Nat.add_zero]); omega) | (refine ⟨by assumption, by assumption, ?_⟩; (try simp only [cntRs, Nat.add_zero]); omega) | ((try simp only [cntRs, Nat.add_zero]); omega) | trace_state
theorem c_laws_eqMail (a0 a1 : List (List L)) (d : DV) (hp : d = .agg [.s 1 a0, .s 1 a1] /\ Rw [.sl [tI, tI]] a0 /\ Rw [.sl [tI]] a1 /\ cntRs [a0, a1] <= 1099511627776) : Ctr Tryz.prog 51 [.agg [.s 1 a0, .s 1 a1], d] [.one (.v (.bool true))] := by
 obtain ⟨rfl, w0, w1, hlim⟩ := hp
 simp only [cntRs, Nat.add_zero] at hlim
 refine ctr_b LMail.B tabOk mixed 17 _ [4] [.tmp 4] Tryz.func51 rfl rfl rfl rfl rfl ?_
 intro O r (F : LMail.Fns) hO hr (hF : F = LMail.F0)
 cbv
 repeat' first | refine And.intro ?_ ?_ | (refine cbi (fun hb => ?_) (fun hb => ?_) <;> cbv)
 all_goals (subst hO hr hF; (try simp only [stdO, SS, sa, az] at *); (try simp only [nc] at *); (try simp only [onc] at *))
 all_goals (try simp only [LMail.F0] at *)
 all_goals first | trivial | exact rfl | exact absurd rfl hb | exact absurd rfl (by assumption) | (refine ⟨trivial, by assumption, ?_⟩; (try simp only [cntRs, Nat.add_zero]); omega) | (refine ⟨trivial, by assumption, by assumption, ?_⟩; (try simp only [cntRs, Nat.add_zero]); omega) | (refine ⟨trivial, ?_⟩; (try simp only [cntRs, Nat.add_zero]); omega) | trace_state
namespace LQuar
structure Fns where
 szN : List (List (List L)) -> Int -> Int
def F0 : Fns := ⟨szN0⟩
def ct (F : Fns) : CT := fun f ds => match f with
 | 95 => match ds with
   | [.one (.s 3 es), .one (.v (.int .i64 left))] => some (fun _ => Rw [tI, tI, tI] es /\ 0 <= left /\ left <= 1048576, [.one (.v (.int .i64 (F.szN [es] left)))])
   | _ => none
 | 108 => match ds with
   | [.one (.s 3 es)] => some (fun _ => Rw [tI, tI, tI] es /\ cntE es <= 1048576, [.one (.s 3 es)])
   | _ => none
 | 129 => match ds with
   | [.one (.s 3 es), d] => some (fun _ => d = .one (.s 3 es) /\ Rw [tI, tI, tI] es /\ cntE es <= 1099511627776, [.one (.v (.bool true))])
   | _ => none
 | _ => none
theorem ct_ok : CTok Tryz.prog (ct F0) := by
 intro f ds pre res h hp
 unfold ct at h
 split at h <;> (try split at h) <;> cases h
 exact c_laws_szStaleS _ _ hp
 exact c_laws_toStaleS _ hp
 exact c_laws_eqStaleS _ _ hp
def B : TB Tryz.prog := tb ct_ok
end LQuar
theorem c_laws_szQuar (a0 : Int) (a1 : List (List L)) (left : Int) (hp : Rw [tI, tI, tI] a1 /\ 0 <= left /\ left <= 1048576) : Ctr Tryz.prog 23 [.agg [.v (.int .i64 a0), .s 3 a1], .one (.v (.int .i64 left))] [.one (.v (.int .i64 (szN0 [a1] left)))] := by
 obtain ⟨w0, h0, h1⟩ := hp
 refine ctr_b LQuar.B tabOk mixed 12 _ [3] [.tmp 4] Tryz.func23 rfl rfl rfl rfl rfl ?_
 intro O r (F : LQuar.Fns) hO hr (hF : F = LQuar.F0)
 cbv
 repeat' first | refine And.intro ?_ ?_ | (refine cbi (fun hb => ?_) (fun hb => ?_) <;> cbv)
 all_goals (subst hO hr hF; (try simp only [stdO, SS, sa, az] at *); (try simp only [nc] at *); (try simp only [onc] at *))
 all_goals (try simp only [LQuar.F0] at *)
 all_goals iterate 1 (try simp (disch := assumption) only [szN_app, List.cons_append, List.nil_append] at *)
 all_goals first | trivial | exact rfl | (refine ⟨by assumption, by omega, by first | omega | exact Int.le_trans (szN_le (by assumption)) h1⟩) | (rw [szN_neg1 (by assumption)]) | trace_state
theorem c_laws_toQuar (a0 : Int) (a1 : List (List L)) (hp : Rw [tI, tI, tI] a1 /\ cntRs [a1] <= 1048576) : Ctr Tryz.prog 35 [.agg [.v (.int .i64 a0), .s 3 a1]] [.agg [.v (.int .i64 a0), .s 3 a1]] := by
 obtain ⟨w0, hlim⟩ := hp
 simp only [cntRs, Nat.add_zero] at hlim
 refine ctr_b LQuar.B tabOk mixed 12 _ [71] [.cell 2 71] Tryz.func35 rfl rfl rfl rfl rfl ?_
 intro O r (F : LQuar.Fns) hO hr (hF : F = LQuar.F0)
 cbv
 repeat' first | refine And.intro ?_ ?_ | (refine cbi (fun hb => ?_) (fun hb => ?_) <;> cbv)
 all_goals (subst hO hr hF; (try simp only [stdO, SS, sa, az] at *); (try simp only [nc] at *); (try simp only [onc] at *))
 all_goals (try simp only [LQuar.F0] at *)
 all_goals first | trivial | exact rfl | exact ⟨trivial, trivial⟩ | exact ⟨rfl, rfl⟩ | (refine ⟨by assumption, ?_⟩; (try simp only [cntRs, Nat.add_zero]); omega) | ((try simp only [cntRs, Nat.add_zero]); omega) | trace_state
theorem c_laws_eqQuar (a0 : Int) (a1 : List (List L)) (d : DV) (hp : d = .agg [.v (.int .i64 a0), .s 3 a1] /\ Rw [tI, tI, tI] a1 /\ cntRs [a1] <= 1099511627776) : Ctr Tryz.prog 52 [.agg [.v (.int .i64 a0), .s 3 a1], d] [.one (.v (.bool true))] := by
 obtain ⟨rfl, w0, hlim⟩ := hp
 simp only [cntRs, Nat.add_zero] at hlim
 refine ctr_b LQuar.B tabOk mixed 16 _ [4] [.tmp 4] Tryz.func52 rfl rfl rfl rfl rfl ?_
 intro O r (F : LQuar.Fns) hO hr (hF : F = LQuar.F0)
 cbv
 repeat' first | refine And.intro ?_ ?_ | (refine cbi (fun hb => ?_) (fun hb => ?_) <;> cbv)
 all_goals (subst hO hr hF; (try simp only [stdO, SS, sa, az] at *); (try simp only [nc] at *); (try simp only [onc] at *))
 all_goals (try simp only [LQuar.F0] at *)
 all_goals first | trivial | exact rfl | exact absurd rfl hb | exact absurd rfl (by assumption) | (refine ⟨trivial, by assumption, ?_⟩; (try simp only [cntRs, Nat.add_zero]); omega) | (refine ⟨trivial, ?_⟩; (try simp only [cntRs, Nat.add_zero]); omega) | trace_state
namespace LPlan
structure Fns where
 szN : List (List (List L)) -> Int -> Int
def F0 : Fns := ⟨szN0⟩
def ct (F : Fns) : CT := fun f ds => match f with
 | 91 => match ds with
   | [.one (.s 1 es), .one (.v (.int .i64 left))] => some (fun _ => Rw [tI] es /\ 0 <= left /\ left <= 1048576, [.one (.v (.int .i64 (F.szN [es] left)))])
   | _ => none
 | 100 => match ds with
   | [.one (.s 1 es)] => some (fun _ => Rw [tI] es /\ cntE es <= 1048576, [.one (.s 1 es)])
   | _ => none
 | 9 => match ds with
   | [.one (.s 1 es), d] => some (fun _ => d = .one (.s 1 es) /\ Rw [tI] es /\ cntE es <= 1099511627776, [.one (.v (.bool true))])
   | _ => none
 | _ => none
theorem ct_ok : CTok Tryz.prog (ct F0) := by
 intro f ds pre res h hp
 unfold ct at h
 split at h <;> (try split at h) <;> cases h
 exact c_laws_szIntS _ _ hp
 exact c_laws_toIntS _ hp
 exact c_laws_eqIntS _ _ hp
def B : TB Tryz.prog := tb ct_ok
end LPlan
theorem c_laws_szPlan (a0 a1 : Int) (a2 : List (List L)) (left : Int) (hp : Rw [tI] a2 /\ 0 <= left /\ left <= 1048576) : Ctr Tryz.prog 96 [.agg [.v (.int .i64 a0), .v (.int .i64 a1), .s 1 a2], .one (.v (.int .i64 left))] [.one (.v (.int .i64 (szN0 [a2] left)))] := by
 obtain ⟨w0, h0, h1⟩ := hp
 refine ctr_b LPlan.B tabOk mixed 12 _ [3] [.tmp 4] Tryz.func96 rfl rfl rfl rfl rfl ?_
 intro O r (F : LPlan.Fns) hO hr (hF : F = LPlan.F0)
 cbv
 repeat' first | refine And.intro ?_ ?_ | (refine cbi (fun hb => ?_) (fun hb => ?_) <;> cbv)
 all_goals (subst hO hr hF; (try simp only [stdO, SS, sa, az] at *); (try simp only [nc] at *); (try simp only [onc] at *))
 all_goals (try simp only [LPlan.F0] at *)
 all_goals iterate 2 (try simp (disch := assumption) only [szN_app, List.cons_append, List.nil_append] at *)
 all_goals first | trivial | exact rfl | (refine ⟨by assumption, by omega, by first | omega | exact Int.le_trans (szN_le (by assumption)) h1⟩) | (rw [szN_neg1 (by assumption)]) | trace_state
theorem c_laws_toPlan (a0 a1 : Int) (a2 : List (List L)) (hp : Rw [tI] a2 /\ cntRs [a2] <= 1048576) : Ctr Tryz.prog 109 [.agg [.v (.int .i64 a0), .v (.int .i64 a1), .s 1 a2]] [.agg [.v (.int .i64 a0), .v (.int .i64 a1), .s 1 a2]] := by
 obtain ⟨w0, hlim⟩ := hp
 simp only [cntRs, Nat.add_zero] at hlim
 refine ctr_b LPlan.B tabOk mixed 15 _ [72] [.cell 2 72] Tryz.func109 rfl rfl rfl rfl rfl ?_
 intro O r (F : LPlan.Fns) hO hr (hF : F = LPlan.F0)
 cbv
 repeat' first | refine And.intro ?_ ?_ | (refine cbi (fun hb => ?_) (fun hb => ?_) <;> cbv)
 all_goals (subst hO hr hF; (try simp only [stdO, SS, sa, az] at *); (try simp only [nc] at *); (try simp only [onc] at *))
 all_goals (try simp only [LPlan.F0] at *)
 all_goals first | trivial | exact rfl | exact ⟨trivial, trivial⟩ | exact ⟨rfl, rfl⟩ | (refine ⟨by assumption, ?_⟩; (try simp only [cntRs, Nat.add_zero]); omega) | ((try simp only [cntRs, Nat.add_zero]); omega) | trace_state
theorem c_laws_eqPlan (a0 a1 : Int) (a2 : List (List L)) (d : DV) (hp : d = .agg [.v (.int .i64 a0), .v (.int .i64 a1), .s 1 a2] /\ Rw [tI] a2 /\ cntRs [a2] <= 1099511627776) : Ctr Tryz.prog 130 [.agg [.v (.int .i64 a0), .v (.int .i64 a1), .s 1 a2], d] [.one (.v (.bool true))] := by
 obtain ⟨rfl, w0, hlim⟩ := hp
 simp only [cntRs, Nat.add_zero] at hlim
 refine ctr_b LPlan.B tabOk mixed 21 _ [4] [.tmp 4] Tryz.func130 rfl rfl rfl rfl rfl ?_
 intro O r (F : LPlan.Fns) hO hr (hF : F = LPlan.F0)
 cbv
 repeat' first | refine And.intro ?_ ?_ | (refine cbi (fun hb => ?_) (fun hb => ?_) <;> cbv)
 all_goals (subst hO hr hF; (try simp only [stdO, SS, sa, az] at *); (try simp only [nc] at *); (try simp only [onc] at *))
 all_goals (try simp only [LPlan.F0] at *)
 all_goals first | trivial | exact rfl | exact absurd rfl hb | exact absurd rfl (by assumption) | (refine ⟨trivial, by assumption, ?_⟩; (try simp only [cntRs, Nat.add_zero]); omega) | (refine ⟨trivial, ?_⟩; (try simp only [cntRs, Nat.add_zero]); omega) | trace_state
namespace LJob
structure Fns where
 szN : List (List (List L)) -> Int -> Int
def F0 : Fns := ⟨szN0⟩
def ct (F : Fns) : CT := fun f ds => match f with
 | 96 => match ds with
   | [.agg [.v (.int .i64 a0), .v (.int .i64 a1), .s 1 a2], .one (.v (.int .i64 left))] => some (fun _ => Rw [tI] a2 /\ 0 <= left /\ left <= 1048576, [.one (.v (.int .i64 (F.szN [a2] left)))])
   | _ => none
 | 109 => match ds with
   | [.agg [.v (.int .i64 a0), .v (.int .i64 a1), .s 1 a2]] => some (fun _ => Rw [tI] a2 /\ cntRs [a2] <= 1048576, [.agg [.v (.int .i64 a0), .v (.int .i64 a1), .s 1 a2]])
   | _ => none
 | 130 => match ds with
   | [.agg [.v (.int .i64 a0), .v (.int .i64 a1), .s 1 a2], d] => some (fun _ => d = .agg [.v (.int .i64 a0), .v (.int .i64 a1), .s 1 a2] /\ Rw [tI] a2 /\ cntRs [a2] <= 1099511627776, [.one (.v (.bool true))])
   | _ => none
 | _ => none
theorem ct_ok : CTok Tryz.prog (ct F0) := by
 intro f ds pre res h hp
 unfold ct at h
 split at h <;> (try split at h) <;> cases h
 exact c_laws_szPlan _ _ _ _ hp
 exact c_laws_toPlan _ _ _ hp
 exact c_laws_eqPlan _ _ _ _ hp
def B : TB Tryz.prog := tb ct_ok
end LJob
theorem c_laws_szJob (a0 a1 : Int) (a2 : List (List L)) (a3 a4 left : Int) (hp : Rw [tI] a2 /\ 0 <= left /\ left <= 1048576) : Ctr Tryz.prog 24 [.agg [.v (.int .i64 a0), .v (.int .i64 a1), .s 1 a2, .v (.int .i64 a3), .v (.int .i64 a4)], .one (.v (.int .i64 left))] [.one (.v (.int .i64 (szN0 [a2] left)))] := by
 obtain ⟨w0, h0, h1⟩ := hp
 refine ctr_b LJob.B tabOk mixed 12 _ [3] [.tmp 4] Tryz.func24 rfl rfl rfl rfl rfl ?_
 intro O r (F : LJob.Fns) hO hr (hF : F = LJob.F0)
 cbv
 repeat' first | refine And.intro ?_ ?_ | (refine cbi (fun hb => ?_) (fun hb => ?_) <;> cbv)
 all_goals (subst hO hr hF; (try simp only [stdO, SS, sa, az] at *); (try simp only [nc] at *); (try simp only [onc] at *))
 all_goals (try simp only [LJob.F0] at *)
 all_goals iterate 2 (try simp (disch := assumption) only [szN_app, List.cons_append, List.nil_append] at *)
 all_goals first | trivial | exact rfl | (refine ⟨by assumption, by omega, by first | omega | exact Int.le_trans (szN_le (by assumption)) h1⟩) | (rw [szN_neg1 (by assumption)]) | trace_state
theorem c_laws_toJob (a0 a1 : Int) (a2 : List (List L)) (a3 a4 : Int) (hp : Rw [tI] a2 /\ cntRs [a2] <= 1048576) : Ctr Tryz.prog 36 [.agg [.v (.int .i64 a0), .v (.int .i64 a1), .s 1 a2, .v (.int .i64 a3), .v (.int .i64 a4)]] [.agg [.v (.int .i64 a0), .v (.int .i64 a1), .s 1 a2, .v (.int .i64 a3), .v (.int .i64 a4)]] := by
 obtain ⟨w0, hlim⟩ := hp
 simp only [cntRs, Nat.add_zero] at hlim
 refine ctr_b LJob.B tabOk mixed 15 _ [74] [.cell 2 74] Tryz.func36 rfl rfl rfl rfl rfl ?_
 intro O r (F : LJob.Fns) hO hr (hF : F = LJob.F0)
 cbv
 repeat' first | refine And.intro ?_ ?_ | (refine cbi (fun hb => ?_) (fun hb => ?_) <;> cbv)
 all_goals (subst hO hr hF; (try simp only [stdO, SS, sa, az] at *); (try simp only [nc] at *); (try simp only [onc] at *))
 all_goals (try simp only [LJob.F0] at *)
 all_goals first | trivial | exact rfl | exact ⟨trivial, trivial⟩ | exact ⟨rfl, rfl⟩ | (refine ⟨by assumption, ?_⟩; (try simp only [cntRs, Nat.add_zero]); omega) | ((try simp only [cntRs, Nat.add_zero]); omega) | trace_state
theorem c_laws_eqJob (a0 a1 : Int) (a2 : List (List L)) (a3 a4 : Int) (d : DV) (hp : d = .agg [.v (.int .i64 a0), .v (.int .i64 a1), .s 1 a2, .v (.int .i64 a3), .v (.int .i64 a4)] /\ Rw [tI] a2 /\ cntRs [a2] <= 1099511627776) : Ctr Tryz.prog 53 [.agg [.v (.int .i64 a0), .v (.int .i64 a1), .s 1 a2, .v (.int .i64 a3), .v (.int .i64 a4)], d] [.one (.v (.bool true))] := by
 obtain ⟨rfl, w0, hlim⟩ := hp
 simp only [cntRs, Nat.add_zero] at hlim
 refine ctr_b LJob.B tabOk mixed 21 _ [4] [.tmp 4] Tryz.func53 rfl rfl rfl rfl rfl ?_
 intro O r (F : LJob.Fns) hO hr (hF : F = LJob.F0)
 cbv
 repeat' first | refine And.intro ?_ ?_ | (refine cbi (fun hb => ?_) (fun hb => ?_) <;> cbv)
 all_goals (subst hO hr hF; (try simp only [stdO, SS, sa, az] at *); (try simp only [nc] at *); (try simp only [onc] at *))
 all_goals (try simp only [LJob.F0] at *)
 all_goals first | trivial | exact rfl | exact absurd rfl hb | exact absurd rfl (by assumption) | (refine ⟨trivial, by assumption, ?_⟩; (try simp only [cntRs, Nat.add_zero]); omega) | (refine ⟨trivial, ?_⟩; (try simp only [cntRs, Nat.add_zero]); omega) | trace_state
end Go.V