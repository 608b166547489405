/-
  Contracts, by evaluation.
-/
import Derived.Test.YtniaaknbbceigaaGreatS10
import Derived.Test.YtniaaknbbceigaaGreatLawHAq
import Derived.Test.YtniaaknbbceigaaGreatLawHEq
import Derived.Test.YtniaaknbbceigaaGreatVE
set_option linter.all false
namespace Go.V
open Go Go.Proofs
set_option maxRecDepth 1000000
set_option maxHeartbeats 8000000
namespace LCache
structure Fns where
 szN : List (List (List L)) -> Int -> Int
def F0 : Fns := ⟨aY⟩
def ct (F : Fns) : CT := fun f ds => match f, ds with
 | 115, [.one (.s 1 es), .one (.v (.int .i64 left))] => some (fun _ => Rw [.sl [tI]] es /\ 0 <= left /\ left <= 1048576, [.one (.v (.int .i64 (F.szN [es] left)))])
 | 139, [.one (.s 1 es)] => some (fun _ => Rw [.sl [tI]] es /\ ao es <= 1048576, [.one (.s 1 es)])
 | 163, [.one (.s 1 es), d] => some (fun _ => d = .one (.s 1 es) /\ Rw [.sl [tI]] es /\ ao es <= 1099511627776, [.one (.v (.bool true))])
 | _, _ => none
theorem am : aV Tryz.prog (ct F0) := by
 intro f ds pre res h hp;unfold ct at h;split at h <;> (try split at h) <;> cases h
 exact eD _ _ hp;exact eE _ hp;exact eC _ _ hp
def B : TB Tryz.prog := tb am
end LCache
theorem oM (a0 : List (List L)) (left : Int) (hp : Rw [.sl [tI]] a0 /\ 0 <= left /\ left <= 1048576) : aO Tryz.prog 113 [.agg [.s 1 a0], .one (.v (.int .i64 left))] [.one (.v (.int .i64 (aY [a0] left)))] := by
 obtain ⟨w0, h0, h1⟩ := hp;refine aj LCache.B ai mixed 12 _ [3] [.tmp 4] Tryz.func113 rfl rfl rfl rfl rfl ?_;intro O r (F : LCache.Fns) hO hr (hF : F = LCache.F0);cbv
 repeat' first | refine And.intro ?_ ?_ | (refine aK (fun hb => ?_) (fun hb => ?_) <;> cbv)
 all_goals (subst hO hr hF; (try simp only [ah, SS, sa, az] at *); (try simp only [nc] at *); (try simp only [aF] at *))
 all_goals (try simp only [LCache.F0] at *)
 all_goals iterate 1 (try simp (disch := assumption) only [dY, List.cons_append, List.nil_append] at *)
 all_goals first | trivial | exact rfl | (refine ⟨by assumption, by omega, by first | omega | exact Int.le_trans (bM (by assumption)) h1⟩) | (rw [dm (by assumption)]) | trace_state
theorem oR (a0 : List (List L)) (hp : Rw [.sl [tI]] a0 /\ ag [a0] <= 1048576) : aO Tryz.prog 137 [.agg [.s 1 a0]] [.agg [.s 1 a0]] := by
 obtain ⟨w0, hlim⟩ := hp;simp only [ag, Nat.add_zero] at hlim;refine aj LCache.B ai mixed 9 _ [160] [.cell 2 160] Tryz.func137 rfl rfl rfl rfl rfl ?_;intro O r (F : LCache.Fns) hO hr (hF : F = LCache.F0);cbv
 repeat' first | refine And.intro ?_ ?_ | (refine aK (fun hb => ?_) (fun hb => ?_) <;> cbv)
 all_goals (subst hO hr hF; (try simp only [ah, SS, sa, az] at *); (try simp only [nc] at *); (try simp only [aF] at *))
 all_goals (try simp only [LCache.F0] at *)
 all_goals first | trivial | exact rfl | exact ⟨trivial, trivial⟩ | exact ⟨rfl, rfl⟩ | (refine ⟨by assumption, ?_⟩; (try simp only [ag, Nat.add_zero]); omega) | ((try simp only [ag, Nat.add_zero]); omega) | trace_state
theorem oD (a0 : List (List L)) (d : DV) (hp : d = .agg [.s 1 a0] /\ Rw [.sl [tI]] a0 /\ ag [a0] <= 1099511627776) : aO Tryz.prog 161 [.agg [.s 1 a0], d] [.one (.v (.bool true))] := by
 obtain ⟨rfl, w0, hlim⟩ := hp;simp only [ag, Nat.add_zero] at hlim;refine aj LCache.B ai mixed 11 _ [4] [.tmp 4] Tryz.func161 rfl rfl rfl rfl rfl ?_;intro O r (F : LCache.Fns) hO hr (hF : F = LCache.F0);cbv
 repeat' first | refine And.intro ?_ ?_ | (refine aK (fun hb => ?_) (fun hb => ?_) <;> cbv)
 all_goals (subst hO hr hF; (try simp only [ah, SS, sa, az] at *); (try simp only [nc] at *); (try simp only [aF] at *))
 all_goals (try simp only [LCache.F0] at *)
 all_goals first | trivial | exact rfl | exact absurd rfl hb | exact absurd rfl (by assumption) | (refine ⟨trivial, by assumption, ?_⟩; (try simp only [ag, Nat.add_zero]); omega) | (refine ⟨trivial, ?_⟩; (try simp only [ag, Nat.add_zero]); omega) | trace_state
namespace LCacheS
structure Fns where
 szN : List (List (List L)) -> Int -> Int
def F0 : Fns := ⟨aY⟩
def ct (F : Fns) : CT := fun f ds => match f, ds with
 | 113, [.agg [.s 1 a0], .one (.v (.int .i64 left))] => some (fun _ => Rw [.sl [tI]] a0 /\ 0 <= left /\ left <= 1048576, [.one (.v (.int .i64 (F.szN [a0] left)))])
 | 137, [.agg [.s 1 a0]] => some (fun _ => Rw [.sl [tI]] a0 /\ ag [a0] <= 1048576, [.agg [.s 1 a0]])
 | 161, [.agg [.s 1 a0], d] => some (fun _ => d = .agg [.s 1 a0] /\ Rw [.sl [tI]] a0 /\ ag [a0] <= 1099511627776, [.one (.v (.bool true))])
 | _, _ => none
theorem am : aV Tryz.prog (ct F0) := by
 intro f ds pre res h hp;unfold ct at h;split at h <;> (try split at h) <;> cases h
 exact oM _ _ hp;exact oR _ hp;exact oD _ _ hp
def B : TB Tryz.prog := tb am
end LCacheS
theorem mO (es : List (List L)) (left : Int) (hp : Rw [.sl [.sl [tI]]] es /\ 0 <= left /\ left <= 1048576) : aO Tryz.prog 40 [.one (.s 1 es), .one (.v (.int .i64 left))] [.one (.v (.int .i64 (aY [es] left)))] := by
 obtain ⟨hw, h0, h1⟩ := hp;have hwf : Wf [.s 1 []] es := hw.wf;have hm := hw.1; unfold maxLen at hm;have hs : bu .sub .i64 left es.length = left - es.length := ce (by omega);have hcE : ao es = es.length + aS es := rfl;have hn : aY [es] left = if left < ao es then -1 else left - ao es := by unfold aY; rw [cp]
 refine aj LCacheS.B ai mixed 27 _ [3] [.tmp 4] Tryz.func40 rfl rfl rfl rfl rfl ?_;intro O r (F : LCacheS.Fns) hO hr (hF : F = LCacheS.F0);cbv;refine aK (fun hb => ?_) (fun hb => ?_) <;> cbv
 ·repeat' first | refine And.intro ?_ ?_ | (refine aK (fun hb => ?_) (fun hb => ?_) <;> cbv)
  all_goals (subst hO hr hF; (try simp only [ah, SS, sa, az] at *); (try simp only [nc] at *); (try simp only [aF] at *))
  all_goals (try simp only [hs, LCacheS.F0] at *)
  all_goals first | trivial | (rw [hn, if_pos (by omega)]) | trace_state
 have hb0 : 0 <= left - es.length := by
  (subst hO hr hF; (try simp only [ah, SS, sa, az] at *); (try simp only [nc] at *); (try simp only [aF] at *))
  rw [hs] at hb;exact hb
 clear hb;refine ⟨[0, 1, 5], [], Int × Int, fun s => match s with | (i, l) => [.reg 5 (.one (.v (.int .i64 i))), .reg 1 (.one (.v (.int .i64 l)))], fun s => 0 <= s.1 /\ s.1.toNat <= es.length /\ 0 <= s.2 /\ s.2 = left - es.length - aS (es.take s.1.toNat), fun s => es.length - s.1.toNat, ⟨(0, O.ar .sub .i64 left (O.zi (O.ln es))), ?_, ?_⟩, ?_⟩
 ·(subst hO hr hF; (try simp only [ah, SS, sa, az] at *); (try simp only [nc] at *); (try simp only [aF] at *))
  rw [hs];exact ⟨by omega, Nat.zero_le _, hb0, by simp [aS]⟩
 ·cbv
 ·rintro ⟨i, l⟩ hi;replace hi : 0 <= i /\ i.toNat <= es.length /\ 0 <= l /\ l = left - es.length - aS (es.take i.toNat) := hi;obtain ⟨g0, g1, g2, g3⟩ := hi;cbv
  repeat' first | refine And.intro ?_ ?_ | (refine aK (fun hb => ?_) (fun hb => ?_) <;> cbv) | (refine aa (O.ar .add .i64 i 1, F.szN [O.gs es i 0] l) ?_ ?_ ?_; rotate_left 2; focus (cbv; done))
  all_goals (subst hO hr hF; (try simp only [ah, SS, sa, az] at *); (try simp only [nc] at *); (try simp only [aF] at *))
  all_goals try have hlt : i < es.length := by assumption
  all_goals try rw [cJ (n := es.length) g0 hlt (by omega)]
  all_goals (try simp only [LCacheS.F0] at *)
  all_goals try have he : es.getD i.toNat [] = [.s 1 (ay es i 0)] := (aH hwf g0 hlt).symm
  all_goals try have hr0 : Rw [.sl [tI]] (ay es i 0) := Rw.sub (fs := [.sl [.sl [tI]]]) hw (by omega) rfl
  all_goals try have hct := bF (es := es) (n := i.toNat) (by omega); rw [he] at hct; simp only [cN, dA, Nat.add_zero, Nat.zero_add] at hct
  all_goals have hle := av (es := es) (n := i.toNat)
  all_goals have hle1 := av (es := es) (n := i.toNat + 1)
  all_goals have hsz := er (a := [ay es i 0]) (left := l)
  all_goals have hsz2 : 0 <= aY [ay es i 0] l -> aY [ay es i 0] l = l - ag [ay es i 0] := kF
  all_goals simp only [ag, ao, Nat.add_zero] at hsz hsz2
  all_goals first | exact bR hwf g0 hlt | exact ⟨hr0, by omega, by omega⟩ | trivial | omega | (rw [hn, if_pos]; omega) | (rw [hn, if_neg (by rw [show i.toNat = es.length from by omega, List.take_length] at g3; omega), show l = left - ao es from by rw [show i.toNat = es.length from by omega, List.take_length] at g3; omega]) | (rw [show (i + 1).toNat = i.toNat + 1 from by omega, hct]; omega) | trace_state
theorem mW (es : List (List L)) (hp : Rw [.sl [.sl [tI]]] es /\ ao es <= 1048576) : aO Tryz.prog 51 [.one (.s 1 es)] [.one (.s 1 es)] := by
 obtain ⟨hw, hlim⟩ := hp;have hwf : Wf [.s 1 []] es := hw.wf;have hlen : es.length <= 1048576 := Nat.le_trans (Nat.le_add_right _ _) hlim;refine aj LCacheS.B ai mixed 23 _ [65] [.tmp 2] Tryz.func51 rfl rfl rfl rfl rfl ?_;intro O r (F : LCacheS.Fns) hO hr (hF : F = LCacheS.F0);cbv;have h0z : bD es [.s 1 []] 0 = O.rep (O.zi (O.ln es)) [.s 1 []] := by
  subst hO;rw [bV]; rfl
 refine ⟨?_, ?_, [0, 3, 4], [3], Int × List (List L), fun s => [.reg 4 (.one (.v (.int .i64 s.1))), .leaf 3 0 ⟨0, 0, none, .own (.s 1 s.2)⟩], fun s => 0 <= s.1 /\ s.1.toNat <= es.length /\ s.2 = bD es [.s 1 []] s.1.toNat, fun s => es.length - s.1.toNat, ⟨(0, O.rep (O.zi (O.ln es)) [.s 1 []]), ?_, ?_⟩, ?_⟩
 ·subst hO;exact gK (b := 24) (show es.length * _ <= _ by omega) (show es.length <= _ by omega)
 ·subst hO;exact ⟨rfl, rfl⟩
 ·exact ⟨by omega, Nat.zero_le _, h0z.symm⟩
 ·cbv
 ·rintro ⟨i, m⟩ hi;replace hi : 0 <= i /\ i.toNat <= es.length /\ m = bD es [.s 1 []] i.toNat := hi;obtain ⟨g0, g1, hm⟩ := hi;cbv
  repeat' first | refine And.intro ?_ ?_ | (refine aK (fun hb => ?_) (fun hb => ?_) <;> cbv) | (refine aa (O.ar .add .i64 i 1, O.up (.s 1 m) [(O.ad 0 i, 0)] [.s 1 (O.gs es i 0)]) ?_ ?_ ?_; rotate_left 2; focus (cbv; done))
  all_goals (subst hO hr hF; (try simp only [ah, SS, sa, az] at *); (try simp only [nc] at *); (try simp only [aF] at *))
  all_goals (try simp only [LCacheS.F0, lx, List.length_replicate, Int.toNat_natCast] at *)
  all_goals try have hlt : i < es.length := by assumption
  all_goals try rw [cJ (n := es.length) g0 hlt (by omega)]
  all_goals try have he : es.getD i.toNat [] = [.s 1 (ay es i 0)] := (aH hwf g0 hlt).symm
  all_goals try have hr0 : Rw [.sl [tI]] (ay es i 0) := Rw.sub (fs := [.sl [.sl [tI]]]) hw (by omega) rfl
  all_goals try have hct := bF (es := es) (n := i.toNat) (by omega); rw [he] at hct; simp only [cN, dA, Nat.add_zero, Nat.zero_add] at hct
  all_goals have hle1 := av (es := es) (n := i.toNat + 1)
  all_goals have hcE : ao es = es.length + aS es := rfl
  all_goals first | exact bR hwf g0 hlt | exact ⟨g0, hlt⟩ | (rw [hm]; exact cv (by rw [aE g1]; omega) (by rw [aT (by omega)]; exact Nat.le_refl _)) | omega | (rw [show (i + 1).toNat = i.toNat + 1 from by omega, <- cu (by omega), <- hm, dr (by rw [hm, aT (by omega)]; rfl), he]) | (rw [hm, aE g1]; exact ⟨trivial, rfl⟩) | (rw [hm, show i.toNat = es.length from by omega, cr]) | trivial | exact ⟨trivial, trivial⟩ | (refine ⟨hr0, ?_⟩; simp only [ag, ao, Nat.add_zero]; omega) | trace_state
theorem mG (es : List (List L)) (d : DV) (hp : d = .one (.s 1 es) /\ Rw [.sl [.sl [tI]]] es /\ ao es <= 1099511627776) : aO Tryz.prog 62 [.one (.s 1 es), d] [.one (.v (.bool true))] := by
 obtain ⟨rfl, hw, hlim⟩ := hp;have hwf : Wf [.s 1 []] es := hw.wf;have hlen : es.length <= 1099511627776 := Nat.le_trans (Nat.le_add_right _ _) hlim;refine aj LCacheS.B ai mixed 27 _ [4] [.tmp 4] Tryz.func62 rfl rfl rfl rfl rfl ?_;intro O r (F : LCacheS.Fns) hO hr (hF : F = LCacheS.F0);cbv;refine aK (fun hb => ?_) (fun hb => ?_) <;> cbv
 ·(subst hO hr hF; (try simp only [ah, SS, sa, az] at *); (try simp only [nc] at *); (try simp only [aF] at *)); exact absurd rfl hb
 ·clear hb;refine ⟨[0, 1, 5], [], Int, fun i => [.reg 5 (.one (.v (.int .i64 i)))], fun i => 0 <= i /\ i.toNat <= es.length, fun i => es.length - i.toNat, ⟨0, ?_, ?_⟩, ?_⟩
  ·exact ⟨by omega, Nat.zero_le _⟩
  ·cbv
  ·rintro i hi;replace hi : 0 <= i /\ i.toNat <= es.length := hi;obtain ⟨g0, g1⟩ := hi;cbv
   repeat' first | refine And.intro ?_ ?_ | (refine aK (fun hb => ?_) (fun hb => ?_) <;> cbv) | (refine aa (O.ar .add .i64 i 1) ?_ ?_ ?_; rotate_left 2; focus (cbv; done))
   all_goals (subst hO hr hF; (try simp only [ah, SS, sa, az] at *); (try simp only [nc] at *); (try simp only [aF] at *))
   all_goals (try simp only [LCacheS.F0] at *)
   all_goals try have hlt : i < es.length := by assumption
   all_goals try rw [cJ (n := es.length) g0 hlt (by omega)]
   all_goals try have he : es.getD i.toNat [] = [.s 1 (ay es i 0)] := (aH hwf g0 hlt).symm
   all_goals try have hr0 : Rw [.sl [tI]] (ay es i 0) := Rw.sub (fs := [.sl [.sl [tI]]]) hw (by omega) rfl
   all_goals try have hct := bF (es := es) (n := i.toNat) (by omega); rw [he] at hct; simp only [cN, dA, Nat.add_zero, Nat.zero_add] at hct
   all_goals have hle1 := av (es := es) (n := i.toNat + 1)
   all_goals have hcE : ao es = es.length + aS es := rfl
   all_goals first | omega | exact bR hwf g0 hlt | exact absurd rfl hb | exact absurd rfl (by assumption) | trivial | kernel_rfl | exact ⟨trivial, trivial⟩ | (refine ⟨trivial, hr0, ?_⟩; simp only [ag, ao, Nat.add_zero]; omega) | trace_state
namespace LPostSS
structure Fns where
 szN : List (List (List L)) -> Int -> Int
def F0 : Fns := ⟨aY⟩
def ct (F : Fns) : CT := fun f ds => match f, ds with
 | 198, [.one (.s 2 es), .one (.v (.int .i64 left))] => some (fun _ => Rw [tI, tI] es /\ 0 <= left /\ left <= 1048576, [.one (.v (.int .i64 (F.szN [es] left)))])
 | 212, [.one (.s 2 es)] => some (fun _ => Rw [tI, tI] es /\ ao es <= 1048576, [.one (.s 2 es)])
 | 231, [.one (.s 2 es), d] => some (fun _ => d = .one (.s 2 es) /\ Rw [tI, tI] es /\ ao es <= 1099511627776, [.one (.v (.bool true))])
 | _, _ => none
theorem am : aV Tryz.prog (ct F0) := by
 intro f ds pre res h hp;unfold ct at h;split at h <;> (try split at h) <;> cases h
 exact oN _ _ hp;exact oU _ hp;exact oG _ _ hp
def B : TB Tryz.prog := tb am
end LPostSS
theorem mT (es : List (List L)) (left : Int) (hp : Rw [.sl [tI, tI]] es /\ 0 <= left /\ left <= 1048576) : aO Tryz.prog 114 [.one (.s 1 es), .one (.v (.int .i64 left))] [.one (.v (.int .i64 (aY [es] left)))] := by
 obtain ⟨hw, h0, h1⟩ := hp;have hwf : Wf [.s 2 []] es := hw.wf;have hm := hw.1; unfold maxLen at hm;have hs : bu .sub .i64 left es.length = left - es.length := ce (by omega);have hcE : ao es = es.length + aS es := rfl;have hn : aY [es] left = if left < ao es then -1 else left - ao es := by unfold aY; rw [cp]
 refine aj LPostSS.B ai mixed 27 _ [3] [.tmp 4] Tryz.func114 rfl rfl rfl rfl rfl ?_;intro O r (F : LPostSS.Fns) hO hr (hF : F = LPostSS.F0);cbv;refine aK (fun hb => ?_) (fun hb => ?_) <;> cbv
 ·repeat' first | refine And.intro ?_ ?_ | (refine aK (fun hb => ?_) (fun hb => ?_) <;> cbv)
  all_goals (subst hO hr hF; (try simp only [ah, SS, sa, az] at *); (try simp only [nc] at *); (try simp only [aF] at *))
  all_goals (try simp only [hs, LPostSS.F0] at *)
  all_goals first | trivial | (rw [hn, if_pos (by omega)]) | trace_state
 have hb0 : 0 <= left - es.length := by
  (subst hO hr hF; (try simp only [ah, SS, sa, az] at *); (try simp only [nc] at *); (try simp only [aF] at *))
  rw [hs] at hb;exact hb
 clear hb;refine ⟨[0, 1, 5], [], Int × Int, fun s => match s with | (i, l) => [.reg 5 (.one (.v (.int .i64 i))), .reg 1 (.one (.v (.int .i64 l)))], fun s => 0 <= s.1 /\ s.1.toNat <= es.length /\ 0 <= s.2 /\ s.2 = left - es.length - aS (es.take s.1.toNat), fun s => es.length - s.1.toNat, ⟨(0, O.ar .sub .i64 left (O.zi (O.ln es))), ?_, ?_⟩, ?_⟩
 ·(subst hO hr hF; (try simp only [ah, SS, sa, az] at *); (try simp only [nc] at *); (try simp only [aF] at *))
  rw [hs];exact ⟨by omega, Nat.zero_le _, hb0, by simp [aS]⟩
 ·cbv
 ·rintro ⟨i, l⟩ hi;replace hi : 0 <= i /\ i.toNat <= es.length /\ 0 <= l /\ l = left - es.length - aS (es.take i.toNat) := hi;obtain ⟨g0, g1, g2, g3⟩ := hi;cbv
  repeat' first | refine And.intro ?_ ?_ | (refine aK (fun hb => ?_) (fun hb => ?_) <;> cbv) | (refine aa (O.ar .add .i64 i 1, F.szN [O.gs es i 0] l) ?_ ?_ ?_; rotate_left 2; focus (cbv; done))
  all_goals (subst hO hr hF; (try simp only [ah, SS, sa, az] at *); (try simp only [nc] at *); (try simp only [aF] at *))
  all_goals try have hlt : i < es.length := by assumption
  all_goals try rw [cJ (n := es.length) g0 hlt (by omega)]
  all_goals (try simp only [LPostSS.F0] at *)
  all_goals try have he : es.getD i.toNat [] = [.s 2 (ay es i 0)] := (aH hwf g0 hlt).symm
  all_goals try have hr0 : Rw [tI, tI] (ay es i 0) := Rw.sub (fs := [.sl [tI, tI]]) hw (by omega) rfl
  all_goals try have hct := bF (es := es) (n := i.toNat) (by omega); rw [he] at hct; simp only [cN, dA, Nat.add_zero, Nat.zero_add] at hct
  all_goals have hle := av (es := es) (n := i.toNat)
  all_goals have hle1 := av (es := es) (n := i.toNat + 1)
  all_goals have hsz := er (a := [ay es i 0]) (left := l)
  all_goals have hsz2 : 0 <= aY [ay es i 0] l -> aY [ay es i 0] l = l - ag [ay es i 0] := kF
  all_goals simp only [ag, ao, Nat.add_zero] at hsz hsz2
  all_goals first | exact bR hwf g0 hlt | exact ⟨hr0, by omega, by omega⟩ | trivial | omega | (rw [hn, if_pos]; omega) | (rw [hn, if_neg (by rw [show i.toNat = es.length from by omega, List.take_length] at g3; omega), show l = left - ao es from by rw [show i.toNat = es.length from by omega, List.take_length] at g3; omega]) | (rw [show (i + 1).toNat = i.toNat + 1 from by omega, hct]; omega) | trace_state
theorem m9 (es : List (List L)) (hp : Rw [.sl [tI, tI]] es /\ ao es <= 1048576) : aO Tryz.prog 138 [.one (.s 1 es)] [.one (.s 1 es)] := by
 obtain ⟨hw, hlim⟩ := hp;have hwf : Wf [.s 2 []] es := hw.wf;have hlen : es.length <= 1048576 := Nat.le_trans (Nat.le_add_right _ _) hlim;refine aj LPostSS.B ai mixed 23 _ [66] [.tmp 2] Tryz.func138 rfl rfl rfl rfl rfl ?_;intro O r (F : LPostSS.Fns) hO hr (hF : F = LPostSS.F0);cbv;have h0z : bD es [.s 2 []] 0 = O.rep (O.zi (O.ln es)) [.s 2 []] := by
  subst hO;rw [bV]; rfl
 refine ⟨?_, ?_, [0, 3, 4], [3], Int × List (List L), fun s => [.reg 4 (.one (.v (.int .i64 s.1))), .leaf 3 0 ⟨0, 0, none, .own (.s 1 s.2)⟩], fun s => 0 <= s.1 /\ s.1.toNat <= es.length /\ s.2 = bD es [.s 2 []] s.1.toNat, fun s => es.length - s.1.toNat, ⟨(0, O.rep (O.zi (O.ln es)) [.s 2 []]), ?_, ?_⟩, ?_⟩
 ·subst hO;exact gK (b := 24) (show es.length * _ <= _ by omega) (show es.length <= _ by omega)
 ·subst hO;exact ⟨rfl, rfl⟩
 ·exact ⟨by omega, Nat.zero_le _, h0z.symm⟩
 ·cbv
 ·rintro ⟨i, m⟩ hi;replace hi : 0 <= i /\ i.toNat <= es.length /\ m = bD es [.s 2 []] i.toNat := hi;obtain ⟨g0, g1, hm⟩ := hi;cbv
  repeat' first | refine And.intro ?_ ?_ | (refine aK (fun hb => ?_) (fun hb => ?_) <;> cbv) | (refine aa (O.ar .add .i64 i 1, O.up (.s 1 m) [(O.ad 0 i, 0)] [.s 2 (O.gs es i 0)]) ?_ ?_ ?_; rotate_left 2; focus (cbv; done))
  all_goals (subst hO hr hF; (try simp only [ah, SS, sa, az] at *); (try simp only [nc] at *); (try simp only [aF] at *))
  all_goals (try simp only [LPostSS.F0, lx, List.length_replicate, Int.toNat_natCast] at *)
  all_goals try have hlt : i < es.length := by assumption
  all_goals try rw [cJ (n := es.length) g0 hlt (by omega)]
  all_goals try have he : es.getD i.toNat [] = [.s 2 (ay es i 0)] := (aH hwf g0 hlt).symm
  all_goals try have hr0 : Rw [tI, tI] (ay es i 0) := Rw.sub (fs := [.sl [tI, tI]]) hw (by omega) rfl
  all_goals try have hct := bF (es := es) (n := i.toNat) (by omega); rw [he] at hct; simp only [cN, dA, Nat.add_zero, Nat.zero_add] at hct
  all_goals have hle1 := av (es := es) (n := i.toNat + 1)
  all_goals have hcE : ao es = es.length + aS es := rfl
  all_goals first | exact bR hwf g0 hlt | exact ⟨g0, hlt⟩ | (rw [hm]; exact cv (by rw [aE g1]; omega) (by rw [aT (by omega)]; exact Nat.le_refl _)) | omega | (rw [show (i + 1).toNat = i.toNat + 1 from by omega, <- cu (by omega), <- hm, dr (by rw [hm, aT (by omega)]; rfl), he]) | (rw [hm, aE g1]; exact ⟨trivial, rfl⟩) | (rw [hm, show i.toNat = es.length from by omega, cr]) | trivial | exact ⟨trivial, trivial⟩ | (refine ⟨hr0, ?_⟩; simp only [ag, ao, Nat.add_zero]; omega) | trace_state
theorem mL (es : List (List L)) (d : DV) (hp : d = .one (.s 1 es) /\ Rw [.sl [tI, tI]] es /\ ao es <= 1099511627776) : aO Tryz.prog 162 [.one (.s 1 es), d] [.one (.v (.bool true))] := by
 obtain ⟨rfl, hw, hlim⟩ := hp;have hwf : Wf [.s 2 []] es := hw.wf;have hlen : es.length <= 1099511627776 := Nat.le_trans (Nat.le_add_right _ _) hlim;refine aj LPostSS.B ai mixed 27 _ [4] [.tmp 4] Tryz.func162 rfl rfl rfl rfl rfl ?_;intro O r (F : LPostSS.Fns) hO hr (hF : F = LPostSS.F0);cbv;refine aK (fun hb => ?_) (fun hb => ?_) <;> cbv
 ·(subst hO hr hF; (try simp only [ah, SS, sa, az] at *); (try simp only [nc] at *); (try simp only [aF] at *)); exact absurd rfl hb
 ·clear hb;refine ⟨[0, 1, 5], [], Int, fun i => [.reg 5 (.one (.v (.int .i64 i)))], fun i => 0 <= i /\ i.toNat <= es.length, fun i => es.length - i.toNat, ⟨0, ?_, ?_⟩, ?_⟩
  ·exact ⟨by omega, Nat.zero_le _⟩
  ·cbv
  ·rintro i hi;replace hi : 0 <= i /\ i.toNat <= es.length := hi;obtain ⟨g0, g1⟩ := hi;cbv
   repeat' first | refine And.intro ?_ ?_ | (refine aK (fun hb => ?_) (fun hb => ?_) <;> cbv) | (refine aa (O.ar .add .i64 i 1) ?_ ?_ ?_; rotate_left 2; focus (cbv; done))
   all_goals (subst hO hr hF; (try simp only [ah, SS, sa, az] at *); (try simp only [nc] at *); (try simp only [aF] at *))
   all_goals (try simp only [LPostSS.F0] at *)
   all_goals try have hlt : i < es.length := by assumption
   all_goals try rw [cJ (n := es.length) g0 hlt (by omega)]
   all_goals try have he : es.getD i.toNat [] = [.s 2 (ay es i 0)] := (aH hwf g0 hlt).symm
   all_goals try have hr0 : Rw [tI, tI] (ay es i 0) := Rw.sub (fs := [.sl [tI, tI]]) hw (by omega) rfl
   all_goals try have hct := bF (es := es) (n := i.toNat) (by omega); rw [he] at hct; simp only [cN, dA, Nat.add_zero, Nat.zero_add] at hct
   all_goals have hle1 := av (es := es) (n := i.toNat + 1)
   all_goals have hcE : ao es = es.length + aS es := rfl
   all_goals first | omega | exact bR hwf g0 hlt | exact absurd rfl hb | exact absurd rfl (by assumption) | trivial | kernel_rfl | exact ⟨trivial, trivial⟩ | (refine ⟨trivial, hr0, ?_⟩; simp only [ag, ao, Nat.add_zero]; omega) | trace_state
namespace LMail
structure Fns where
 szN : List (List (List L)) -> Int -> Int
def F0 : Fns := ⟨aY⟩
def ct (F : Fns) : CT := fun f ds => match f, ds with
 | 114, [.one (.s 1 es), .one (.v (.int .i64 left))] => some (fun _ => Rw [.sl [tI, tI]] es /\ 0 <= left /\ left <= 1048576, [.one (.v (.int .i64 (F.szN [es] left)))])
 | 138, [.one (.s 1 es)] => some (fun _ => Rw [.sl [tI, tI]] es /\ ao es <= 1048576, [.one (.s 1 es)])
 | 162, [.one (.s 1 es), d] => some (fun _ => d = .one (.s 1 es) /\ Rw [.sl [tI, tI]] es /\ ao es <= 1099511627776, [.one (.v (.bool true))])
 | 115, [.one (.s 1 es), .one (.v (.int .i64 left))] => some (fun _ => Rw [.sl [tI]] es /\ 0 <= left /\ left <= 1048576, [.one (.v (.int .i64 (F.szN [es] left)))])
 | 139, [.one (.s 1 es)] => some (fun _ => Rw [.sl [tI]] es /\ ao es <= 1048576, [.one (.s 1 es)])
 | 163, [.one (.s 1 es), d] => some (fun _ => d = .one (.s 1 es) /\ Rw [.sl [tI]] es /\ ao es <= 1099511627776, [.one (.v (.bool true))])
 | _, _ => none
theorem am : aV Tryz.prog (ct F0) := by
 intro f ds pre res h hp;unfold ct at h;split at h <;> (try split at h) <;> cases h
 exact mT _ _ hp;exact m9 _ hp;exact mL _ _ hp;exact eD _ _ hp;exact eE _ hp;exact eC _ _ hp
def B : TB Tryz.prog := tb am
end LMail
theorem qL (a0 a1 : List (List L)) (left : Int) (hp : Rw [.sl [tI, tI]] a0 /\ Rw [.sl [tI]] a1 /\ 0 <= left /\ left <= 1048576) : aO Tryz.prog 41 [.agg [.s 1 a0, .s 1 a1], .one (.v (.int .i64 left))] [.one (.v (.int .i64 (aY [a0, a1] left)))] := by
 obtain ⟨w0, w1, h0, h1⟩ := hp;refine aj LMail.B ai mixed 18 _ [3] [.tmp 4] Tryz.func41 rfl rfl rfl rfl rfl ?_;intro O r (F : LMail.Fns) hO hr (hF : F = LMail.F0);cbv
 repeat' first | refine And.intro ?_ ?_ | (refine aK (fun hb => ?_) (fun hb => ?_) <;> cbv)
 all_goals (subst hO hr hF; (try simp only [ah, SS, sa, az] at *); (try simp only [nc] at *); (try simp only [aF] at *))
 all_goals (try simp only [LMail.F0] at *)
 all_goals iterate 1 (try simp (disch := assumption) only [dY, List.cons_append, List.nil_append] at *)
 all_goals first | trivial | exact rfl | (refine ⟨by assumption, by omega, by first | omega | exact Int.le_trans (bM (by assumption)) h1⟩) | (refine ⟨by assumption, by assumption, by omega, by first | omega | exact Int.le_trans (bM (by assumption)) h1⟩) | (rw [dm (by assumption)]) | exact congrArg (fun x => [DV.one (L.v (Value.int IntKind.i64 x))]) (bN (a := [a0]) (b := [a1]) (by assumption)).symm | trace_state
theorem qP (a0 a1 : List (List L)) (hp : Rw [.sl [tI, tI]] a0 /\ Rw [.sl [tI]] a1 /\ ag [a0, a1] <= 1048576) : aO Tryz.prog 52 [.agg [.s 1 a0, .s 1 a1]] [.agg [.s 1 a0, .s 1 a1]] := by
 obtain ⟨w0, w1, hlim⟩ := hp;simp only [ag, Nat.add_zero] at hlim;refine aj LMail.B ai mixed 13 _ [68] [.cell 2 68] Tryz.func52 rfl rfl rfl rfl rfl ?_;intro O r (F : LMail.Fns) hO hr (hF : F = LMail.F0);cbv
 repeat' first | refine And.intro ?_ ?_ | (refine aK (fun hb => ?_) (fun hb => ?_) <;> cbv)
 all_goals (subst hO hr hF; (try simp only [ah, SS, sa, az] at *); (try simp only [nc] at *); (try simp only [aF] at *))
 all_goals (try simp only [LMail.F0] at *)
 all_goals first | trivial | exact rfl | exact ⟨trivial, trivial⟩ | exact ⟨rfl, rfl⟩ | (refine ⟨by assumption, ?_⟩; (try simp only [ag, Nat.add_zero]); omega) | (refine ⟨by assumption, by assumption, ?_⟩; (try simp only [ag, Nat.add_zero]); omega) | ((try simp only [ag, Nat.add_zero]); omega) | trace_state
theorem qF (a0 a1 : List (List L)) (d : DV) (hp : d = .agg [.s 1 a0, .s 1 a1] /\ Rw [.sl [tI, tI]] a0 /\ Rw [.sl [tI]] a1 /\ ag [a0, a1] <= 1099511627776) : aO Tryz.prog 63 [.agg [.s 1 a0, .s 1 a1], d] [.one (.v (.bool true))] := by
 obtain ⟨rfl, w0, w1, hlim⟩ := hp;simp only [ag, Nat.add_zero] at hlim;refine aj LMail.B ai mixed 17 _ [4] [.tmp 4] Tryz.func63 rfl rfl rfl rfl rfl ?_;intro O r (F : LMail.Fns) hO hr (hF : F = LMail.F0);cbv
 repeat' first | refine And.intro ?_ ?_ | (refine aK (fun hb => ?_) (fun hb => ?_) <;> cbv)
 all_goals (subst hO hr hF; (try simp only [ah, SS, sa, az] at *); (try simp only [nc] at *); (try simp only [aF] at *))
 all_goals (try simp only [LMail.F0] at *)
 all_goals first | trivial | exact rfl | exact absurd rfl hb | exact absurd rfl (by assumption) | (refine ⟨trivial, by assumption, ?_⟩; (try simp only [ag, Nat.add_zero]); omega) | (refine ⟨trivial, by assumption, by assumption, ?_⟩; (try simp only [ag, Nat.add_zero]); omega) | (refine ⟨trivial, ?_⟩; (try simp only [ag, Nat.add_zero]); omega) | trace_state
namespace LQuar
structure Fns where
 szN : List (List (List L)) -> Int -> Int
def F0 : Fns := ⟨aY⟩
def ct (F : Fns) : CT := fun f ds => match f, ds with
 | 116, [.one (.s 3 es), .one (.v (.int .i64 left))] => some (fun _ => Rw [tI, tI, tI] es /\ 0 <= left /\ left <= 1048576, [.one (.v (.int .i64 (F.szN [es] left)))])
 | 140, [.one (.s 3 es)] => some (fun _ => Rw [tI, tI, tI] es /\ ao es <= 1048576, [.one (.s 3 es)])
 | 164, [.one (.s 3 es), d] => some (fun _ => d = .one (.s 3 es) /\ Rw [tI, tI, tI] es /\ ao es <= 1099511627776, [.one (.v (.bool true))])
 | _, _ => none
theorem am : aV Tryz.prog (ct F0) := by
 intro f ds pre res h hp;unfold ct at h;split at h <;> (try split at h) <;> cases h
 exact mV _ _ hp;exact nb _ hp;exact mN _ _ hp
def B : TB Tryz.prog := tb am
end LQuar
theorem qO (a0 : Int) (a1 : List (List L)) (left : Int) (hp : Rw [tI, tI, tI] a1 /\ 0 <= left /\ left <= 1048576) : aO Tryz.prog 42 [.agg [.v (.int .i64 a0), .s 3 a1], .one (.v (.int .i64 left))] [.one (.v (.int .i64 (aY [a1] left)))] := by
 obtain ⟨w0, h0, h1⟩ := hp;refine aj LQuar.B ai mixed 12 _ [3] [.tmp 4] Tryz.func42 rfl rfl rfl rfl rfl ?_;intro O r (F : LQuar.Fns) hO hr (hF : F = LQuar.F0);cbv
 repeat' first | refine And.intro ?_ ?_ | (refine aK (fun hb => ?_) (fun hb => ?_) <;> cbv)
 all_goals (subst hO hr hF; (try simp only [ah, SS, sa, az] at *); (try simp only [nc] at *); (try simp only [aF] at *))
 all_goals (try simp only [LQuar.F0] at *)
 all_goals iterate 1 (try simp (disch := assumption) only [dY, List.cons_append, List.nil_append] at *)
 all_goals first | trivial | exact rfl | (refine ⟨by assumption, by omega, by first | omega | exact Int.le_trans (bM (by assumption)) h1⟩) | (rw [dm (by assumption)]) | trace_state
theorem qT (a0 : Int) (a1 : List (List L)) (hp : Rw [tI, tI, tI] a1 /\ ag [a1] <= 1048576) : aO Tryz.prog 53 [.agg [.v (.int .i64 a0), .s 3 a1]] [.agg [.v (.int .i64 a0), .s 3 a1]] := by
 obtain ⟨w0, hlim⟩ := hp;simp only [ag, Nat.add_zero] at hlim;refine aj LQuar.B ai mixed 12 _ [71] [.cell 2 71] Tryz.func53 rfl rfl rfl rfl rfl ?_;intro O r (F : LQuar.Fns) hO hr (hF : F = LQuar.F0);cbv
 repeat' first | refine And.intro ?_ ?_ | (refine aK (fun hb => ?_) (fun hb => ?_) <;> cbv)
 all_goals (subst hO hr hF; (try simp only [ah, SS, sa, az] at *); (try simp only [nc] at *); (try simp only [aF] at *))
 all_goals (try simp only [LQuar.F0] at *)
 all_goals first | trivial | exact rfl | exact ⟨trivial, trivial⟩ | exact ⟨rfl, rfl⟩ | (refine ⟨by assumption, ?_⟩; (try simp only [ag, Nat.add_zero]); omega) | ((try simp only [ag, Nat.add_zero]); omega) | trace_state
theorem qJ (a0 : Int) (a1 : List (List L)) (d : DV) (hp : d = .agg [.v (.int .i64 a0), .s 3 a1] /\ Rw [tI, tI, tI] a1 /\ ag [a1] <= 1099511627776) : aO Tryz.prog 64 [.agg [.v (.int .i64 a0), .s 3 a1], d] [.one (.v (.bool true))] := by
 obtain ⟨rfl, w0, hlim⟩ := hp;simp only [ag, Nat.add_zero] at hlim;refine aj LQuar.B ai mixed 16 _ [4] [.tmp 4] Tryz.func64 rfl rfl rfl rfl rfl ?_;intro O r (F : LQuar.Fns) hO hr (hF : F = LQuar.F0);cbv
 repeat' first | refine And.intro ?_ ?_ | (refine aK (fun hb => ?_) (fun hb => ?_) <;> cbv)
 all_goals (subst hO hr hF; (try simp only [ah, SS, sa, az] at *); (try simp only [nc] at *); (try simp only [aF] at *))
 all_goals (try simp only [LQuar.F0] at *)
 all_goals first | trivial | exact rfl | exact absurd rfl hb | exact absurd rfl (by assumption) | (refine ⟨trivial, by assumption, ?_⟩; (try simp only [ag, Nat.add_zero]); omega) | (refine ⟨trivial, ?_⟩; (try simp only [ag, Nat.add_zero]); omega) | trace_state
namespace LPlan
structure Fns where
 szN : List (List (List L)) -> Int -> Int
def F0 : Fns := ⟨aY⟩
def ct (F : Fns) : CT := fun f ds => match f, ds with
 | 112, [.one (.s 1 es), .one (.v (.int .i64 left))] => some (fun _ => Rw [tI] es /\ 0 <= left /\ left <= 1048576, [.one (.v (.int .i64 (F.szN [es] left)))])
 | 132, [.one (.s 1 es)] => some (fun _ => Rw [tI] es /\ ao es <= 1048576, [.one (.s 1 es)])
 | 31, [.one (.s 1 es), d] => some (fun _ => d = .one (.s 1 es) /\ Rw [tI] es /\ ao es <= 1099511627776, [.one (.v (.bool true))])
 | _, _ => none
theorem am : aV Tryz.prog (ct F0) := by
 intro f ds pre res h hp;unfold ct at h;split at h <;> (try split at h) <;> cases h
 exact fm _ _ hp;exact fq _ hp;exact fj _ _ hp
def B : TB Tryz.prog := tb am
end LPlan
theorem qN (a0 a1 : Int) (a2 : List (List L)) (left : Int) (hp : Rw [tI] a2 /\ 0 <= left /\ left <= 1048576) : aO Tryz.prog 117 [.agg [.v (.int .i64 a0), .v (.int .i64 a1), .s 1 a2], .one (.v (.int .i64 left))] [.one (.v (.int .i64 (aY [a2] left)))] := by
 obtain ⟨w0, h0, h1⟩ := hp;refine aj LPlan.B ai mixed 12 _ [3] [.tmp 4] Tryz.func117 rfl rfl rfl rfl rfl ?_;intro O r (F : LPlan.Fns) hO hr (hF : F = LPlan.F0);cbv
 repeat' first | refine And.intro ?_ ?_ | (refine aK (fun hb => ?_) (fun hb => ?_) <;> cbv)
 all_goals (subst hO hr hF; (try simp only [ah, SS, sa, az] at *); (try simp only [nc] at *); (try simp only [aF] at *))
 all_goals (try simp only [LPlan.F0] at *)
 all_goals iterate 2 (try simp (disch := assumption) only [dY, List.cons_append, List.nil_append] at *)
 all_goals first | trivial | exact rfl | (refine ⟨by assumption, by omega, by first | omega | exact Int.le_trans (bM (by assumption)) h1⟩) | (rw [dm (by assumption)]) | trace_state
theorem qR (a0 a1 : Int) (a2 : List (List L)) (hp : Rw [tI] a2 /\ ag [a2] <= 1048576) : aO Tryz.prog 141 [.agg [.v (.int .i64 a0), .v (.int .i64 a1), .s 1 a2]] [.agg [.v (.int .i64 a0), .v (.int .i64 a1), .s 1 a2]] := by
 obtain ⟨w0, hlim⟩ := hp;simp only [ag, Nat.add_zero] at hlim;refine aj LPlan.B ai mixed 15 _ [72] [.cell 2 72] Tryz.func141 rfl rfl rfl rfl rfl ?_;intro O r (F : LPlan.Fns) hO hr (hF : F = LPlan.F0);cbv
 repeat' first | refine And.intro ?_ ?_ | (refine aK (fun hb => ?_) (fun hb => ?_) <;> cbv)
 all_goals (subst hO hr hF; (try simp only [ah, SS, sa, az] at *); (try simp only [nc] at *); (try simp only [aF] at *))
 all_goals (try simp only [LPlan.F0] at *)
 all_goals first | trivial | exact rfl | exact ⟨trivial, trivial⟩ | exact ⟨rfl, rfl⟩ | (refine ⟨by assumption, ?_⟩; (try simp only [ag, Nat.add_zero]); omega) | ((try simp only [ag, Nat.add_zero]); omega) | trace_state
theorem qH (a0 a1 : Int) (a2 : List (List L)) (d : DV) (hp : d = .agg [.v (.int .i64 a0), .v (.int .i64 a1), .s 1 a2] /\ Rw [tI] a2 /\ ag [a2] <= 1099511627776) : aO Tryz.prog 165 [.agg [.v (.int .i64 a0), .v (.int .i64 a1), .s 1 a2], d] [.one (.v (.bool true))] := by
 obtain ⟨rfl, w0, hlim⟩ := hp;simp only [ag, Nat.add_zero] at hlim;refine aj LPlan.B ai mixed 21 _ [4] [.tmp 4] Tryz.func165 rfl rfl rfl rfl rfl ?_;intro O r (F : LPlan.Fns) hO hr (hF : F = LPlan.F0);cbv
 repeat' first | refine And.intro ?_ ?_ | (refine aK (fun hb => ?_) (fun hb => ?_) <;> cbv)
 all_goals (subst hO hr hF; (try simp only [ah, SS, sa, az] at *); (try simp only [nc] at *); (try simp only [aF] at *))
 all_goals (try simp only [LPlan.F0] at *)
 all_goals first | trivial | exact rfl | exact absurd rfl hb | exact absurd rfl (by assumption) | (refine ⟨trivial, by assumption, ?_⟩; (try simp only [ag, Nat.add_zero]); omega) | (refine ⟨trivial, ?_⟩; (try simp only [ag, Nat.add_zero]); omega) | trace_state
namespace LJob
structure Fns where
 szN : List (List (List L)) -> Int -> Int
def F0 : Fns := ⟨aY⟩
def ct (F : Fns) : CT := fun f ds => match f, ds with
 | 117, [.agg [.v (.int .i64 a0), .v (.int .i64 a1), .s 1 a2], .one (.v (.int .i64 left))] => some (fun _ => Rw [tI] a2 /\ 0 <= left /\ left <= 1048576, [.one (.v (.int .i64 (F.szN [a2] left)))])
 | 141, [.agg [.v (.int .i64 a0), .v (.int .i64 a1), .s 1 a2]] => some (fun _ => Rw [tI] a2 /\ ag [a2] <= 1048576, [.agg [.v (.int .i64 a0), .v (.int .i64 a1), .s 1 a2]])
 | 165, [.agg [.v (.int .i64 a0), .v (.int .i64 a1), .s 1 a2], d] => some (fun _ => d = .agg [.v (.int .i64 a0), .v (.int .i64 a1), .s 1 a2] /\ Rw [tI] a2 /\ ag [a2] <= 1099511627776, [.one (.v (.bool true))])
 | _, _ => none
theorem am : aV Tryz.prog (ct F0) := by
 intro f ds pre res h hp;unfold ct at h;split at h <;> (try split at h) <;> cases h
 exact qN _ _ _ _ hp;exact qR _ _ _ hp;exact qH _ _ _ _ hp
def B : TB Tryz.prog := tb am
end LJob
theorem so (a0 a1 : Int) (a2 : List (List L)) (a3 a4 left : Int) (hp : Rw [tI] a2 /\ 0 <= left /\ left <= 1048576) : aO Tryz.prog 43 [.agg [.v (.int .i64 a0), .v (.int .i64 a1), .s 1 a2, .v (.int .i64 a3), .v (.int .i64 a4)], .one (.v (.int .i64 left))] [.one (.v (.int .i64 (aY [a2] left)))] := by
 obtain ⟨w0, h0, h1⟩ := hp;refine aj LJob.B ai mixed 12 _ [3] [.tmp 4] Tryz.func43 rfl rfl rfl rfl rfl ?_;intro O r (F : LJob.Fns) hO hr (hF : F = LJob.F0);cbv
 repeat' first | refine And.intro ?_ ?_ | (refine aK (fun hb => ?_) (fun hb => ?_) <;> cbv)
 all_goals (subst hO hr hF; (try simp only [ah, SS, sa, az] at *); (try simp only [nc] at *); (try simp only [aF] at *))
 all_goals (try simp only [LJob.F0] at *)
 all_goals iterate 2 (try simp (disch := assumption) only [dY, List.cons_append, List.nil_append] at *)
 all_goals first | trivial | exact rfl | (refine ⟨by assumption, by omega, by first | omega | exact Int.le_trans (bM (by assumption)) h1⟩) | (rw [dm (by assumption)]) | trace_state
theorem sq (a0 a1 : Int) (a2 : List (List L)) (a3 a4 : Int) (hp : Rw [tI] a2 /\ ag [a2] <= 1048576) : aO Tryz.prog 54 [.agg [.v (.int .i64 a0), .v (.int .i64 a1), .s 1 a2, .v (.int .i64 a3), .v (.int .i64 a4)]] [.agg [.v (.int .i64 a0), .v (.int .i64 a1), .s 1 a2, .v (.int .i64 a3), .v (.int .i64 a4)]] := by
 obtain ⟨w0, hlim⟩ := hp;simp only [ag, Nat.add_zero] at hlim;refine aj LJob.B ai mixed 15 _ [74] [.cell 2 74] Tryz.func54 rfl rfl rfl rfl rfl ?_;intro O r (F : LJob.Fns) hO hr (hF : F = LJob.F0);cbv
 repeat' first | refine And.intro ?_ ?_ | (refine aK (fun hb => ?_) (fun hb => ?_) <;> cbv)
 all_goals (subst hO hr hF; (try simp only [ah, SS, sa, az] at *); (try simp only [nc] at *); (try simp only [aF] at *))
 all_goals (try simp only [LJob.F0] at *)
 all_goals first | trivial | exact rfl | exact ⟨trivial, trivial⟩ | exact ⟨rfl, rfl⟩ | (refine ⟨by assumption, ?_⟩; (try simp only [ag, Nat.add_zero]); omega) | ((try simp only [ag, Nat.add_zero]); omega) | trace_state
theorem sk (a0 a1 : Int) (a2 : List (List L)) (a3 a4 : Int) (d : DV) (hp : d = .agg [.v (.int .i64 a0), .v (.int .i64 a1), .s 1 a2, .v (.int .i64 a3), .v (.int .i64 a4)] /\ Rw [tI] a2 /\ ag [a2] <= 1099511627776) : aO Tryz.prog 65 [.agg [.v (.int .i64 a0), .v (.int .i64 a1), .s 1 a2, .v (.int .i64 a3), .v (.int .i64 a4)], d] [.one (.v (.bool true))] := by
 obtain ⟨rfl, w0, hlim⟩ := hp;simp only [ag, Nat.add_zero] at hlim;refine aj LJob.B ai mixed 21 _ [4] [.tmp 4] Tryz.func65 rfl rfl rfl rfl rfl ?_;intro O r (F : LJob.Fns) hO hr (hF : F = LJob.F0);cbv
 repeat' first | refine And.intro ?_ ?_ | (refine aK (fun hb => ?_) (fun hb => ?_) <;> cbv)
 all_goals (subst hO hr hF; (try simp only [ah, SS, sa, az] at *); (try simp only [nc] at *); (try simp only [aF] at *))
 all_goals (try simp only [LJob.F0] at *)
 all_goals first | trivial | exact rfl | exact absurd rfl hb | exact absurd rfl (by assumption) | (refine ⟨trivial, by assumption, ?_⟩; (try simp only [ag, Nat.add_zero]); omega) | (refine ⟨trivial, ?_⟩; (try simp only [ag, Nat.add_zero]); omega) | trace_state
end Go.V