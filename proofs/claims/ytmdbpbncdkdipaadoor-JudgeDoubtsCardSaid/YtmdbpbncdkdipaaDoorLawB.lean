/- For every input, with the table judge.rules holding what its initialiser lays, the law JudgeDoubts returns true, and each argument reads behind the call as it read before; the table is tied to the program's text. -/
import Derived.Test.YtmdbpbncdkdipaaDoorLawA
import Derived.Test.YtmdbpbncdkdipaaDoorAslB
import Derived.LaidHandle
import Derived.Test.YtmdbpbncdkdipaaDoorRows
import Derived.Deep.DeepHandedRow
import Derived.ProofKit
import Derived.OpenShut
import Derived.WalkKit
import Derived.Test.YtmdbpbncdkdipaaDoorCards
import Derived.Test.YtmdbpbncdkdipaaDoorTie
set_option linter.unusedVariables false
set_option linter.unusedSimpArgs false
namespace Go.Proofs.YtmdbpbncdkdipaaDoor
open Go.Asl
set_option maxRecDepth 100000
set_option maxHeartbeats 4000000
attribute [local irreducible] Go.Asl.wpG Go.Code.wpIn Go.Asl.DrawG Go.Asl.LvX Go.Asl.G
/-- Whether a verdict speaks against an owner. -/
def againstV (w : Int) (v : Ver) (known : List Int) : Bool := decide (0 ≤ w) && decide (w ≤ 2999) && verOk v && (if v.k = 1 then decide (w ≠ 1 + v.i) else if v.k = 2 then known.contains (w - 1) else false)
theorem vOk_one (v : Ver) : vOk [v] = verOk v := by simp [vOk]
theorem c_judge_Against (w : Int) (v : Ver) (known : List Int) (hk : known.length ≤ 4611686018427387904) : FnP Kx 24 [.int .i64 w, verA v, intL known] (.bool (againstV w v known)) := by
  refine FnT_of_body ent24 Tryd.func24 rfl Tryd.ntmps24 rfl (fun C0 hC0 => ?_)
  repeat' (first | refine G_opsF Kx_ok 6 rfl ?_ | refine G_opF Kx_ok rfl ?_ | refine G_run rfl rfl rfl ?_ | refine G_nil ?_ | refine G_seq ?_ | refine G_region rfl ?_ | refine G_skip ?_ | refine G_block ?_ | refine G_drawn Kx_mixed rfl ?_ | refine D_opsF Kx_ok 6 rfl ?_ | refine D_opF Kx_ok rfl ?_ | refine D_nil rfl ?_ | refine G_cond_t rfl ?_ | refine G_cond_f rfl ?_ | refine G_exit ?_ | refine G_callP rfl rfl rfl rfl ((c_heard_ValidVerdicts [v] (by simp)).eq (bv (vOk_one v))) rfl rfl rfl ?_ | refine D_call rfl rfl rfl rfl rfl ((c_heard_ValidVerdicts [v] (by simp)).eq (bv (vOk_one v))) rfl rfl rfl rfl ?_ | refine G_splitD rfl (fun h => ?_) (fun h => ?_) | refine D_splitD rfl (fun h => ?_) (fun h => ?_) | ((fail_if_success refine G_isL rfl rfl ?_); refine G_split rfl (fun h => ?_) (fun h => ?_)) | ((fail_if_success refine D_isL rfl rfl ?_); refine D_split rfl (fun h => ?_) (fun h => ?_)) | refine G_condD rfl (fun h => ?_) (fun h => ?_) | refine G_condN rfl (fun h => ?_) (fun h => ?_) | refine G_cond rfl (fun h => ?_) (fun h => ?_) | refine G_ret (G_leave ?_))
  all_goals try (refine G_return Kx_ok rfl ?_; simp_all [resV, againstV])
  all_goals try omega
  have hw : 0 ≤ w ∧ w ≤ 2999 := by constructor <;> assumption
  have hv : verOk v = true := by assumption
  have hvi := (verOk_iff v).1 hv
  have e1 : IntKind.i64.wrap (1 + v.i) = 1 + v.i := w64 (by omega) (by omega)
  have e2 : IntKind.i64.wrap (w - 1) = w - 1 := w64 (by omega) (by omega)
  by_cases h1 : v.k = 1
  · have er : ruleA v.k = .agg [.bool true, .fn 97 [] []] := by unfold ruleA; rw [if_pos h1]
    repeat' (first | refine G_ops Kx_ok 6 rfl ?_ | refine G_op Kx_ok rfl ?_ | refine G_run rfl rfl rfl ?_ | refine G_nil ?_ | refine G_seq ?_ | refine G_region rfl ?_ | refine G_skip ?_ | refine G_block ?_ | refine G_drawn Kx_mixed rfl ?_ | refine D_ops Kx_ok 6 rfl ?_ | refine D_op Kx_ok rfl ?_ | refine D_nil rfl ?_ | refine G_cond_t rfl ?_ | refine G_cond_f rfl ?_ | refine G_exit ?_ | refine G_callP rfl rfl rfl rfl ((c_judge_ruleOf v.k).eq er) rfl rfl rfl ?_ | refine D_call rfl rfl rfl rfl rfl ((c_judge_ruleOf v.k).eq er) rfl rfl rfl rfl ?_ | refine G_callP rfl rfl rfl rfl (c_judge_rules1 w v.i (intL known)) rfl rfl rfl ?_ | refine D_call rfl rfl rfl rfl rfl (c_judge_rules1 w v.i (intL known)) rfl rfl rfl rfl ?_ | refine G_splitD rfl (fun h => ?_) (fun h => ?_) | refine D_splitD rfl (fun h => ?_) (fun h => ?_) | ((fail_if_success refine G_isL rfl rfl ?_); refine G_split rfl (fun h => ?_) (fun h => ?_)) | ((fail_if_success refine D_isL rfl rfl ?_); refine D_split rfl (fun h => ?_) (fun h => ?_)) | refine G_condD rfl (fun h => ?_) (fun h => ?_) | refine G_condN rfl (fun h => ?_) (fun h => ?_) | refine G_cond rfl (fun h => ?_) (fun h => ?_) | refine G_ret (G_leave ?_))
    refine G_return Kx_ok rfl ?_
    simp [resV, againstV, hw, hv, h1, e1]
  · by_cases h2 : v.k = 2
    · have er : ruleA v.k = .agg [.bool true, .fn 98 [] []] := by unfold ruleA; rw [if_neg h1, if_pos h2]
      repeat' (first | refine G_ops Kx_ok 6 rfl ?_ | refine G_op Kx_ok rfl ?_ | refine G_run rfl rfl rfl ?_ | refine G_nil ?_ | refine G_seq ?_ | refine G_region rfl ?_ | refine G_skip ?_ | refine G_block ?_ | refine G_drawn Kx_mixed rfl ?_ | refine D_ops Kx_ok 6 rfl ?_ | refine D_op Kx_ok rfl ?_ | refine D_nil rfl ?_ | refine G_cond_t rfl ?_ | refine G_cond_f rfl ?_ | refine G_exit ?_ | refine G_callP rfl rfl rfl rfl ((c_judge_ruleOf v.k).eq er) rfl rfl rfl ?_ | refine D_call rfl rfl rfl rfl rfl ((c_judge_ruleOf v.k).eq er) rfl rfl rfl rfl ?_ | refine G_callP rfl rfl rfl rfl (c_judge_rules2 w v.i known hk) rfl rfl rfl ?_ | refine D_call rfl rfl rfl rfl rfl (c_judge_rules2 w v.i known hk) rfl rfl rfl rfl ?_ | refine G_splitD rfl (fun h => ?_) (fun h => ?_) | refine D_splitD rfl (fun h => ?_) (fun h => ?_) | ((fail_if_success refine G_isL rfl rfl ?_); refine G_split rfl (fun h => ?_) (fun h => ?_)) | ((fail_if_success refine D_isL rfl rfl ?_); refine D_split rfl (fun h => ?_) (fun h => ?_)) | refine G_condD rfl (fun h => ?_) (fun h => ?_) | refine G_condN rfl (fun h => ?_) (fun h => ?_) | refine G_cond rfl (fun h => ?_) (fun h => ?_) | refine G_ret (G_leave ?_))
      refine G_return Kx_ok rfl ?_
      simp [resV, againstV, hw, hv, h1, h2, e2]
    · have er : ruleA v.k = .agg [.bool false, .fn 96 [] []] := by unfold ruleA; rw [if_neg h1, if_neg h2]
      repeat' (first | refine G_ops Kx_ok 6 rfl ?_ | refine G_op Kx_ok rfl ?_ | refine G_run rfl rfl rfl ?_ | refine G_nil ?_ | refine G_seq ?_ | refine G_region rfl ?_ | refine G_skip ?_ | refine G_block ?_ | refine G_drawn Kx_mixed rfl ?_ | refine D_ops Kx_ok 6 rfl ?_ | refine D_op Kx_ok rfl ?_ | refine D_nil rfl ?_ | refine G_cond_t rfl ?_ | refine G_cond_f rfl ?_ | refine G_exit ?_ | refine G_callP rfl rfl rfl rfl ((c_judge_ruleOf v.k).eq er) rfl rfl rfl ?_ | refine D_call rfl rfl rfl rfl rfl ((c_judge_ruleOf v.k).eq er) rfl rfl rfl rfl ?_ | refine G_callP rfl rfl rfl rfl (c_judge_never w v.i (intL known)) rfl rfl rfl ?_ | refine D_call rfl rfl rfl rfl rfl (c_judge_never w v.i (intL known)) rfl rfl rfl rfl ?_ | refine G_splitD rfl (fun h => ?_) (fun h => ?_) | refine D_splitD rfl (fun h => ?_) (fun h => ?_) | ((fail_if_success refine G_isL rfl rfl ?_); refine G_split rfl (fun h => ?_) (fun h => ?_)) | ((fail_if_success refine D_isL rfl rfl ?_); refine D_split rfl (fun h => ?_) (fun h => ?_)) | refine G_condD rfl (fun h => ?_) (fun h => ?_) | refine G_condN rfl (fun h => ?_) (fun h => ?_) | refine G_cond rfl (fun h => ?_) (fun h => ?_) | refine G_ret (G_leave ?_))
      refine G_return Kx_ok rfl ?_
      simp [resV, againstV, hw, hv, h1, h2]
theorem c_ref38_Against (w : Int) (v : Ver) (known : List Int) (hk : known.length ≤ 4611686018427387904) : FnP Kx 25 [.int .i64 w, verA v, intL known] (.bool (againstV w v known)) := by
  refine FnT_of_body ent25 Tryd.func25 rfl Tryd.ntmps25 rfl (fun C0 hC0 => ?_)
  repeat' (first | refine G_opsF Kx_ok 6 rfl ?_ | refine G_opF Kx_ok rfl ?_ | refine G_run rfl rfl rfl ?_ | refine G_nil ?_ | refine G_seq ?_ | refine G_region rfl ?_ | refine G_skip ?_ | refine G_block ?_ | refine G_drawn Kx_mixed rfl ?_ | refine D_opsF Kx_ok 6 rfl ?_ | refine D_opF Kx_ok rfl ?_ | refine D_nil rfl ?_ | refine G_cond_t rfl ?_ | refine G_cond_f rfl ?_ | refine G_exit ?_ | refine G_callP rfl rfl rfl rfl ((c_ref37_ValidVerdicts [v] (by simp)).eq (bv (vOk_one v))) rfl rfl rfl ?_ | refine D_call rfl rfl rfl rfl rfl ((c_ref37_ValidVerdicts [v] (by simp)).eq (bv (vOk_one v))) rfl rfl rfl rfl ?_ | refine G_splitD rfl (fun h => ?_) (fun h => ?_) | refine D_splitD rfl (fun h => ?_) (fun h => ?_) | ((fail_if_success refine G_isL rfl rfl ?_); refine G_split rfl (fun h => ?_) (fun h => ?_)) | ((fail_if_success refine D_isL rfl rfl ?_); refine D_split rfl (fun h => ?_) (fun h => ?_)) | refine G_condD rfl (fun h => ?_) (fun h => ?_) | refine G_condN rfl (fun h => ?_) (fun h => ?_) | refine G_cond rfl (fun h => ?_) (fun h => ?_) | refine G_ret (G_leave ?_))
  · refine G_return Kx_ok rfl ?_
    have h' : ¬ 0 ≤ w := by omega
    simp [resV, againstV, h']
  · refine G_return Kx_ok rfl ?_
    have h' : ¬ w ≤ 2999 := by omega
    simp [resV, againstV, h']
  · refine G_return Kx_ok rfl ?_
    simp [resV, againstV, ‹verOk v = false›]
  · refine G_return Kx_ok rfl ?_
    have hvi := (verOk_iff v).1 ‹verOk v = true›
    have hw : 0 ≤ w ∧ w ≤ 2999 := by omega
    rw [w64 (by omega) (by omega)]
    simp [resV, againstV, hw, ‹verOk v = true›, ‹v.k = 1›]
  · have hv := ‹verOk v = true›
    have hw : 0 ≤ w ∧ w ≤ 2999 := by omega
    have hk1 := ‹¬ v.k = 1›
    have hk2 := ‹v.k = 2›
    have e2 : IntKind.i64.wrap (w - 1) = w - 1 := w64 (by omega) (by omega)
    have er : againstV w v known = known.contains (w - 1) := by
      simp [againstV, hv, hw, hk2]
    refine G_loopF (fun (i : Nat) => [(7, .int .i64 i)]) (fun _ => [(0, .box [.int .i64 v.k, .int .i64 v.i])]) (fun i => i ≤ known.length ∧ (known.drop i).contains (w - 1) = known.contains (w - 1)) (fun i => known.length - i) 0 rfl ⟨by omega, rfl⟩ (G_atL hC0 rfl rfl (by repeat' (first | exact trivial | refine ⟨⟨rfl, rfl⟩, ?_⟩ | refine ⟨⟨iv (by first | rfl | omega | (rw [w64 (by omega) (by omega)]; omega)), rfl⟩, ?_⟩)) (by repeat' (first | exact trivial | refine ⟨.inl rfl, ?_⟩ | refine ⟨.inr ⟨rfl, rfl⟩, ?_⟩ | refine ⟨.inr ⟨arrE (by first | rfl | (rw [List.map_append]; rfl)), rfl⟩, ?_⟩)) (by repeat' (first | exact trivial | refine ⟨⟨rfl, rfl⟩, ?_⟩))) ?_
    rintro i ⟨h1, h2⟩
    dsimp only [List.cons_append, List.nil_append] at *
    repeat' (first | refine G_ops Kx_ok 6 rfl ?_ | refine G_op Kx_ok rfl ?_ | refine G_run rfl rfl rfl ?_ | refine G_nil ?_ | refine G_seq ?_ | refine G_region rfl ?_ | refine G_skip ?_ | refine G_block ?_ | refine G_drawn Kx_mixed rfl ?_ | refine D_ops Kx_ok 6 rfl ?_ | refine D_op Kx_ok rfl ?_ | refine D_nil rfl ?_ | refine G_cond_t rfl ?_ | refine G_cond_f rfl ?_ | refine G_exit ?_ | refine G_splitD rfl (fun h => ?_) (fun h => ?_) | refine D_splitD rfl (fun h => ?_) (fun h => ?_) | ((fail_if_success refine G_isL rfl rfl ?_); refine G_split rfl (fun h => ?_) (fun h => ?_)) | ((fail_if_success refine D_isL rfl rfl ?_); refine D_split rfl (fun h => ?_) (fun h => ?_)) | refine G_condD rfl (fun h => ?_) (fun h => ?_) | refine G_condN rfl (fun h => ?_) (fun h => ?_) | refine G_cond rfl (fun h => ?_) (fun h => ?_) | refine G_ret (G_leave ?_))
    · obtain ⟨x, hx, hd⟩ := drop_get (xs := known) (i := i) (by simp at * <;> omega)
      repeat' (first | refine G_ops Kx_ok 6 rfl ?_ | refine G_op Kx_ok rfl ?_ | refine G_run rfl rfl rfl ?_ | refine G_nil ?_ | refine G_seq ?_ | refine G_region rfl ?_ | refine G_skip ?_ | refine G_block ?_ | refine G_drawn Kx_mixed rfl ?_ | refine D_ops Kx_ok 6 rfl ?_ | refine D_op Kx_ok rfl ?_ | refine D_nil rfl ?_ | refine G_cond_t rfl ?_ | refine G_cond_f rfl ?_ | refine G_exit ?_ | (refine G_index_lst Kx_ok rfl rfl rfl rfl rfl (map_get (x := x) (by simpa using hx)) (by omega) rfl rfl rfl ?_) | (refine D_index_lst Kx_ok _ rfl rfl rfl rfl rfl rfl (map_get (x := x) (by simpa using hx)) (by omega) rfl rfl rfl rfl ?_) | refine G_splitD rfl (fun h => ?_) (fun h => ?_) | refine D_splitD rfl (fun h => ?_) (fun h => ?_) | ((fail_if_success refine G_isL rfl rfl ?_); refine G_split rfl (fun h => ?_) (fun h => ?_)) | ((fail_if_success refine D_isL rfl rfl ?_); refine D_split rfl (fun h => ?_) (fun h => ?_)) | refine G_condD rfl (fun h => ?_) (fun h => ?_) | refine G_condN rfl (fun h => ?_) (fun h => ?_) | refine G_cond rfl (fun h => ?_) (fun h => ?_) | refine G_ret (G_leave ?_))
      · refine G_return Kx_ok rfl ?_
        rw [e2] at h
        rw [er, ← h2, hd]
        simp [resV, h]
      · rw [e2] at h
        refine G_nextF (i + 1) ⟨by simp at * <;> omega, ?_⟩ (by simp at * <;> omega) (G_atL hC0 rfl rfl (by repeat' (first | exact trivial | refine ⟨⟨rfl, rfl⟩, ?_⟩ | refine ⟨⟨iv (by first | rfl | omega | (rw [w64 (by omega) (by omega)]; omega)), rfl⟩, ?_⟩)) (by repeat' (first | exact trivial | refine ⟨.inl rfl, ?_⟩ | refine ⟨.inr ⟨rfl, rfl⟩, ?_⟩ | refine ⟨.inr ⟨arrE (by first | rfl | (rw [List.map_append]; rfl)), rfl⟩, ?_⟩)) (by repeat' (first | exact trivial | refine ⟨⟨rfl, rfl⟩, ?_⟩)))
        rw [← h2, hd, List.contains_cons]
        simp [h]
    · refine G_return Kx_ok rfl ?_
      rw [List.drop_eq_nil_of_le (by simp at * <;> omega)] at h2
      rw [er, ← h2]; rfl
  · refine G_return Kx_ok rfl ?_
    simp [resV, againstV, ‹¬ v.k = 1›, ‹¬ v.k = 2›]
def certain (a b : Ver) : Bool := decide (a = b) && (decide (a.k = 1) || decide (a.k = 2))
theorem ver_eq (a b : Ver) : (decide (a.k = b.k) && decide (a.i = b.i)) = decide (a = b) := by
  cases a; cases b; simp
theorem c_ref38_Certain (a b : Ver) : FnP Kx 48 [verA a, verA b] (.bool (certain a b)) := by
  refine FnT_of_body ent48 Tryd.func48 rfl Tryd.ntmps48 rfl (fun C0 hC0 => ?_)
  repeat' (first | refine G_ops Kx_ok 6 rfl ?_ | refine G_op Kx_ok rfl ?_ | refine G_run rfl rfl rfl ?_ | refine G_nil ?_ | refine G_seq ?_ | refine G_region rfl ?_ | refine G_skip ?_ | refine G_block ?_ | refine G_drawn Kx_mixed rfl ?_ | refine D_ops Kx_ok 6 rfl ?_ | refine D_op Kx_ok rfl ?_ | refine D_nil rfl ?_ | refine G_cond_t rfl ?_ | refine G_cond_f rfl ?_ | refine G_exit ?_ | refine G_eqS Kx_ok (neg := true) rfl rfl rfl rfl rfl rfl eqVer rfl ?_ | refine D_eqS Kx_ok true rfl rfl rfl rfl rfl rfl rfl eqVer rfl rfl ?_ | refine G_eqS Kx_ok (neg := false) rfl rfl rfl rfl rfl rfl eqVer rfl ?_ | refine D_eqS Kx_ok false rfl rfl rfl rfl rfl rfl rfl eqVer rfl rfl ?_ | refine G_splitD rfl (fun h => ?_) (fun h => ?_) | refine D_splitD rfl (fun h => ?_) (fun h => ?_) | ((fail_if_success refine G_isL rfl rfl ?_); refine G_split rfl (fun h => ?_) (fun h => ?_)) | ((fail_if_success refine D_isL rfl rfl ?_); refine D_split rfl (fun h => ?_) (fun h => ?_)) | refine G_condD rfl (fun h => ?_) (fun h => ?_) | refine G_condN rfl (fun h => ?_) (fun h => ?_) | refine G_cond rfl (fun h => ?_) (fun h => ?_) | refine G_ret (G_leave ?_))
  all_goals refine G_return Kx_ok rfl ?_
  all_goals cases a; cases b
  all_goals simp_all [resV, certain]
/-- Account and evidence are valid together. -/
def jvalid (line : List Spn) (from' : Int) (a b : List Ver) : Bool := valid line && vOk a && vOk b && decide (a.length = b.length) && decide (0 ≤ from') && decide (from' ≤ endOf line - a.length)
theorem valid_end {a w : Int} : ∀ {xs : List Spn}, validG a w xs = true → 0 ≤ a → ∀ s, xs.getLast? = some s → 0 ≤ s.t ∧ s.t ≤ 10000000
  | [], _, _, s, h => by simp at h
  | [x], hv, ha, s, h => by
    simp only [validG, Bool.and_eq_true, decide_eq_true_eq] at hv
    simp at h; subst h
    omega
  | x :: y :: r, hv, ha, s, h => by
    simp only [validG, Bool.and_eq_true, decide_eq_true_eq] at hv
    rw [List.getLast?_cons_cons] at h
    refine valid_end (xs := y :: r) (a := x.t) (w := x.o) ?_ (by omega) s h
    simp only [validG, Bool.and_eq_true, decide_eq_true_eq]
    exact hv.2
theorem endOf_range {xs : List Spn} (h : valid xs = true) : 0 ≤ endOf xs ∧ endOf xs ≤ 10000000 := by
  unfold valid at h
  rw [Bool.and_eq_true] at h
  unfold endOf
  cases hg : xs.getLast? with
  | none => simp
  | some s => exact valid_end h.1 (by omega) s hg
theorem jvalid_len {line : List Spn} {f : Int} {a b : List Ver} (h : jvalid line f a b = true) : line.length ≤ 200 ∧ a.length ≤ 200 ∧ b.length = a.length ∧ 0 ≤ f ∧ f + a.length ≤ endOf line ∧ endOf line ≤ 10000000 := by
  simp only [jvalid, Bool.and_eq_true, decide_eq_true_eq] at h
  obtain ⟨⟨⟨⟨⟨h1, h2⟩, h3⟩, h4⟩, h5⟩, h6⟩ := h
  have h7 := valid_len h1
  have h8 := (endOf_range h1).2
  unfold vOk at h2
  rw [Bool.and_eq_true, decide_eq_true_eq] at h2
  exact ⟨h7, h2.2, h4.symm, h5, by omega, h8⟩

end Go.Proofs.YtmdbpbncdkdipaaDoor
namespace Go.Proofs.YtmdbpbncdkdipaaDoor
open Go.Asl
set_option maxRecDepth 100000
set_option maxHeartbeats 4000000
attribute [local irreducible] Go.Asl.wpG Go.Code.wpIn Go.Asl.DrawG Go.Asl.LvX Go.Asl.G
theorem jvalid_key {line : List Spn} {f : Int} {a b : List Ver} (p : Bool) (h : p = true ↔ valid line = true ∧ vOk a = true ∧ vOk b = true ∧ a.length = b.length ∧ 0 ≤ f ∧ f ≤ endOf line - a.length) : resV [AV.bool p] = .bool (jvalid line f a b) := by
  simp only [resV, AV.bool.injEq]
  rw [Bool.eq_iff_iff, h]
  simp only [jvalid, Bool.and_eq_true, decide_eq_true_eq, and_assoc]
/-- What two receivers say of an account. -/
def evA (line : List Spn) (f : Int) (a b : List Ver) : AV := .agg [spL line, .int .i64 f, verL a, verL b]
theorem c_judge_valid (line : List Spn) (f : Int) (a b : List Ver) (h1 : line.length ≤ 1000000000) (h2 : a.length ≤ 1000000000) (h3 : b.length ≤ 1000000000) : FnP Kx 45 [evA line f a b] (.bool (jvalid line f a b)) := by
  refine FnT_of_body ent45 Tryd.func45 rfl Tryd.ntmps45 rfl (fun C0 hC0 => ?_)
  have hE : valid line = true → 0 ≤ endOf line ∧ endOf line ≤ 10000000 := endOf_range
  repeat' (first | refine G_ops Kx_ok 6 rfl ?_ | refine G_op Kx_ok rfl ?_ | refine G_run rfl rfl rfl ?_ | refine G_nil ?_ | refine G_seq ?_ | refine G_region rfl ?_ | refine G_skip ?_ | refine G_block ?_ | refine G_drawn Kx_mixed rfl ?_ | refine D_ops Kx_ok 6 rfl ?_ | refine D_op Kx_ok rfl ?_ | refine D_nil rfl ?_ | refine G_cond_t rfl ?_ | refine G_cond_f rfl ?_ | refine G_exit ?_ | refine G_callP rfl rfl rfl rfl (c_timeline_Valid line (by first | omega | (simp at * <;> omega))) rfl rfl rfl ?_ | refine D_call rfl rfl rfl rfl rfl (c_timeline_Valid line (by first | omega | (simp at * <;> omega))) rfl rfl rfl rfl ?_ | refine G_callP rfl rfl rfl rfl (c_heard_ValidVerdicts a (by first | omega | (simp at * <;> omega))) rfl rfl rfl ?_ | refine D_call rfl rfl rfl rfl rfl (c_heard_ValidVerdicts a (by first | omega | (simp at * <;> omega))) rfl rfl rfl rfl ?_ | refine G_callP rfl rfl rfl rfl (c_heard_ValidVerdicts b (by first | omega | (simp at * <;> omega))) rfl rfl rfl ?_ | refine D_call rfl rfl rfl rfl rfl (c_heard_ValidVerdicts b (by first | omega | (simp at * <;> omega))) rfl rfl rfl rfl ?_ | refine G_callP rfl rfl rfl rfl (c_timeline_End line (Nat.le_trans h1 (by decide))) rfl rfl rfl ?_ | refine D_call rfl rfl rfl rfl rfl (c_timeline_End line (Nat.le_trans h1 (by decide))) rfl rfl rfl rfl ?_ | refine G_splitD rfl (fun h => ?_) (fun h => ?_) | refine D_splitD rfl (fun h => ?_) (fun h => ?_) | ((fail_if_success refine G_isL rfl rfl ?_); refine G_split rfl (fun h => ?_) (fun h => ?_)) | ((fail_if_success refine D_isL rfl rfl ?_); refine D_split rfl (fun h => ?_) (fun h => ?_)) | refine G_condD rfl (fun h => ?_) (fun h => ?_) | refine G_condN rfl (fun h => ?_) (fun h => ?_) | refine G_cond rfl (fun h => ?_) (fun h => ?_) | refine G_ret (G_leave ?_))
  all_goals refine G_return Kx_ok rfl ?_
  all_goals refine jvalid_key _ ?_
  all_goals try simp only [List.length_map, Int.natCast_inj] at *
  all_goals first
    | (simp_all; done)
    | (constructor
       · intro q; cases q
       · intro q; exfalso; simp_all; done)
    | (constructor
       · intro q; cases q
       · intro q; exfalso; omega)
    | (have hv : valid line = true := by simp_all
       have := hE hv
       have ew : IntKind.i64.wrap (endOf line - a.length) = endOf line - a.length := w64 (by omega) (by omega)
       simp_all; done)
    | (have hv : valid line = true := by simp_all
       have := hE hv
       have ew : IntKind.i64.wrap (endOf line - a.length) = endOf line - a.length := w64 (by omega) (by omega)
       rw [hv, if_pos rfl, ew]
       simp_all; omega)
theorem c_ref38_valid (line : List Spn) (f : Int) (a b : List Ver) (h1 : line.length ≤ 1000000000) (h2 : a.length ≤ 1000000000) (h3 : b.length ≤ 1000000000) : FnP Kx 47 [spL line, .int .i64 f, verL a, verL b] (.bool (jvalid line f a b)) := by
  refine FnT_of_body ent47 Tryd.func47 rfl Tryd.ntmps47 rfl (fun C0 hC0 => ?_)
  have hE : valid line = true → 0 ≤ endOf line ∧ endOf line ≤ 10000000 := endOf_range
  repeat' (first | refine G_ops Kx_ok 6 rfl ?_ | refine G_op Kx_ok rfl ?_ | refine G_run rfl rfl rfl ?_ | refine G_nil ?_ | refine G_seq ?_ | refine G_region rfl ?_ | refine G_skip ?_ | refine G_block ?_ | refine G_drawn Kx_mixed rfl ?_ | refine D_ops Kx_ok 6 rfl ?_ | refine D_op Kx_ok rfl ?_ | refine D_nil rfl ?_ | refine G_cond_t rfl ?_ | refine G_cond_f rfl ?_ | refine G_exit ?_ | refine G_callP rfl rfl rfl rfl ((c_ref15_Valid line (by first | omega | (simp at * <;> omega))).eq (bv (valid_eq line))) rfl rfl rfl ?_ | refine D_call rfl rfl rfl rfl rfl ((c_ref15_Valid line (by first | omega | (simp at * <;> omega))).eq (bv (valid_eq line))) rfl rfl rfl rfl ?_ | refine G_callP rfl rfl rfl rfl (c_ref37_ValidVerdicts a (by first | omega | (simp at * <;> omega))) rfl rfl rfl ?_ | refine D_call rfl rfl rfl rfl rfl (c_ref37_ValidVerdicts a (by first | omega | (simp at * <;> omega))) rfl rfl rfl rfl ?_ | refine G_callP rfl rfl rfl rfl (c_ref37_ValidVerdicts b (by first | omega | (simp at * <;> omega))) rfl rfl rfl ?_ | refine D_call rfl rfl rfl rfl rfl (c_ref37_ValidVerdicts b (by first | omega | (simp at * <;> omega))) rfl rfl rfl rfl ?_ | refine G_callP rfl rfl rfl rfl ((c_ref15_End line (by first | omega | (simp at * <;> omega))).eq (by rw [valid_eq])) rfl rfl rfl ?_ | refine D_call rfl rfl rfl rfl rfl ((c_ref15_End line (by first | omega | (simp at * <;> omega))).eq (by rw [valid_eq])) rfl rfl rfl rfl ?_ | refine G_splitD rfl (fun h => ?_) (fun h => ?_) | refine D_splitD rfl (fun h => ?_) (fun h => ?_) | ((fail_if_success refine G_isL rfl rfl ?_); refine G_split rfl (fun h => ?_) (fun h => ?_)) | ((fail_if_success refine D_isL rfl rfl ?_); refine D_split rfl (fun h => ?_) (fun h => ?_)) | refine G_condD rfl (fun h => ?_) (fun h => ?_) | refine G_condN rfl (fun h => ?_) (fun h => ?_) | refine G_cond rfl (fun h => ?_) (fun h => ?_) | refine G_ret (G_leave ?_))
  all_goals refine G_return Kx_ok rfl ?_
  all_goals refine jvalid_key _ ?_
  all_goals try simp only [List.length_map, Int.natCast_inj] at *
  all_goals first
    | (simp_all; done)
    | (constructor
       · intro q; cases q
       · intro q; exfalso; simp_all; done)
    | (constructor
       · intro q; cases q
       · intro q; exfalso; omega)
    | (have hv : valid line = true := by simp_all
       have := hE hv
       have ew : IntKind.i64.wrap (endOf line - a.length) = endOf line - a.length := w64 (by omega) (by omega)
       simp_all; done)
    | (have hv : valid line = true := by simp_all
       have := hE hv
       have ew : IntKind.i64.wrap (endOf line - a.length) = endOf line - a.length := w64 (by omega) (by omega)
       rw [hv, if_pos rfl, ew]
       simp_all; omega)
/-- The closure that 'sure' hands back. -/
def sureFn (line : List Spn) (f : Int) (a b : List Ver) : AV := .fn 72 [] [.rptr (.agg [spL line, .int .i64 f, verL a, verL b]) 0]
theorem c_judge_sure (line : List Spn) (f : Int) (a b : List Ver) : FnP Kx 46 [evA line f a b] (sureFn line f a b) := by
  refine FnT_of_body ent46 Tryd.func46 rfl Tryd.ntmps46 rfl (fun C0 hC0 => ?_)
  repeat' (first | refine G_ops Kx_ok 6 rfl ?_ | refine G_op Kx_ok rfl ?_ | refine G_run rfl rfl rfl ?_ | refine G_nil ?_ | refine G_seq ?_ | refine G_region rfl ?_ | refine G_skip ?_ | refine G_block ?_ | refine G_drawn Kx_mixed rfl ?_ | refine D_ops Kx_ok 6 rfl ?_ | refine D_op Kx_ok rfl ?_ | refine D_nil rfl ?_ | refine G_cond_t rfl ?_ | refine G_cond_f rfl ?_ | refine G_exit ?_ | refine G_splitD rfl (fun h => ?_) (fun h => ?_) | refine D_splitD rfl (fun h => ?_) (fun h => ?_) | ((fail_if_success refine G_isL rfl rfl ?_); refine G_split rfl (fun h => ?_) (fun h => ?_)) | ((fail_if_success refine D_isL rfl rfl ?_); refine D_split rfl (fun h => ?_) (fun h => ?_)) | refine G_condD rfl (fun h => ?_) (fun h => ?_) | refine G_condN rfl (fun h => ?_) (fun h => ?_) | refine G_cond rfl (fun h => ?_) (fun h => ?_) | refine G_ret (G_leave ?_))
  refine G_freeze_box (m := 0) 2 rfl rfl rfl ?_
  exact G_return Kx_ok rfl rfl

end Go.Proofs.YtmdbpbncdkdipaaDoor
namespace Go.Proofs.YtmdbpbncdkdipaaDoor
open Go.Asl
set_option maxRecDepth 100000
set_option maxHeartbeats 4000000
attribute [local irreducible] Go.Asl.wpG Go.Code.wpIn Go.Asl.DrawG Go.Asl.LvX Go.Asl.G
/-- The owner of a second. -/
def ownAt (line : List Spn) (t : Int) : Int := match line.find? (hit t) with
  | some s => s.o
  | none => 0
theorem find_at {T : Int} {s : Spn} : ∀ {xs : List Spn} {k : Nat} {a w : Int} {r : List Spn}, validG a w xs = true → a ≤ T → xs.drop k = s :: r → (∀ x ∈ xs.take k, x.t ≤ T) → T < s.t → xs.find? (hit T) = some s
  | [], k, _, _, _, _, _, hd, _, _ => by simp at hd
  | x :: xs, 0, a, w, r, hv, ha, hd, _, ht => by
    simp only [List.drop_zero, List.cons.injEq] at hd
    obtain ⟨rfl, rfl⟩ := hd
    simp only [validG, Bool.and_eq_true, decide_eq_true_eq] at hv
    rw [List.find?_cons_of_pos]
    simp only [hit, Bool.and_eq_true, decide_eq_true_eq]
    omega
  | x :: xs, k + 1, a, w, r, hv, ha, hd, hall, ht => by
    simp only [validG, Bool.and_eq_true, decide_eq_true_eq] at hv
    have hx := hall x (by simp)
    rw [List.find?_cons_of_neg]
    · exact find_at hv.2 hx (by simpa using hd) (fun y hy => hall y (by simp [hy])) ht
    · simp only [hit, Bool.and_eq_true, decide_eq_true_eq]
      omega
theorem ownAt_eq {line : List Spn} {T : Int} {s : Spn} {k : Nat} (hv : valid line = true) (hT : 0 ≤ T) (hk : line[k]? = some s) (hall : ∀ x ∈ line.take k, x.t ≤ T) (ht : T < s.t) : ownAt line T = s.o := by
  unfold valid at hv
  rw [Bool.and_eq_true] at hv
  have hlt := (List.getElem?_eq_some_iff.1 hk).1
  have hd : line.drop k = s :: line.drop (k + 1) := by
    rw [List.drop_eq_getElem_cons hlt]
    have := (List.getElem?_eq_some_iff.1 hk).2
    rw [this]
  unfold ownAt
  rw [find_at hv.1 hT hd hall ht]
theorem endOf_le {xs : List Spn} {T : Int} (hT : 0 ≤ T) (h : ∀ x ∈ xs, x.t ≤ T) : endOf xs ≤ T := by
  unfold endOf
  cases hg : xs.getLast? with
  | none => exact hT
  | some s => exact h s (List.mem_of_getLast? hg)
/-- The sure seconds, one after the other. -/
def sureF {σ : Type} (st : σ → Int → Int → Ver → σ) (line : List Spn) : Int → List Ver → List Ver → σ → σ
  | t, v :: a, w :: b, q => sureF st line (t + 1) a b (if certain v w = true then st q t (ownAt line t) v else q)
  | _, _, _, q => q
def factA (t w : Int) (v : Ver) : AV := .agg [.int .i64 t, .int .i64 w, .int .i64 v.k, .int .i64 v.i]
theorem certain_iff (v w : Ver) : certain v w = true ↔ v = w ∧ (v.k = 1 ∨ v.k = 2) := by
  simp only [certain, Bool.and_eq_true, Bool.or_eq_true, decide_eq_true_eq]
theorem ruleA_sure (k : Int) : ruleA k = .agg [.bool (decide (k = 1) || decide (k = 2)), (if k = 1 then .fn 97 [] [] else if k = 2 then .fn 98 [] [] else .fn 96 [] [])] := by
  unfold ruleA
  by_cases h1 : k = 1
  · simp [h1]
  · by_cases h2 : k = 2
    · simp [h2]
    · simp [h1, h2]
theorem ruleB (k : Int) : bareB (.agg [.bool (decide (k = 1) || decide (k = 2)), (if k = 1 then .fn 97 [] [] else if k = 2 then .fn 98 [] [] else .fn 96 [] [])]) = true := by
  by_cases h1 : k = 1
  · subst h1; rfl
  · by_cases h2 : k = 2
    · subst h2; rfl
    · rw [if_neg h1, if_neg h2]; rfl

structure Jst where
  at' : Int
  su : Int
  ag : Int
  deriving DecidableEq
def stepJ (known : List Int) (q : Jst) (t w : Int) (v : Ver) : Jst := if againstV w v known = true then ⟨if q.ag = 0 then t else q.at', q.su + 1, q.ag + 1⟩ else ⟨q.at', q.su + 1, q.ag⟩

end Go.Proofs.YtmdbpbncdkdipaaDoor
namespace Go.Proofs.YtmdbpbncdkdipaaDoor
open Go.Asl
set_option maxRecDepth 100000
set_option maxHeartbeats 4000000
attribute [local irreducible] Go.Asl.wpG Go.Code.wpIn Go.Asl.DrawG Go.Asl.LvX Go.Asl.G
set_option linter.unusedVariables false in
theorem c_sure_J (line : List Spn) (f : Int) (a b : List Ver) (known : List Int) {No : Nat} {ps : Array Tmp} {asg bdy : Code} (hj : jvalid line f a b = true)
    (hy : ∀ (q : Jst) t w v, (0 ≤ q.su ∧ q.su ≤ (200 : Nat) ∧ 0 ≤ q.ag ∧ q.ag ≤ (200 : Nat)) → YldT Kx 4 [factA t w v] [(4, .loop [(26, sureFn line f a b), (9, .ptr 0 0), (10, .ptr 1 0), (13, .ptr 3 0)] No ps asg bdy .ready none), (0, .box [intL known]), (1, .box [.bool false, .int .i64 0, .int .i64 0, .int .i64 0]), (3, .box [.bool false, .int .i64 q.at', .int .i64 q.su, .int .i64 q.ag])] (fun u M => u = .bool true ∧ M = [(4, .loop [(26, sureFn line f a b), (9, .ptr 0 0), (10, .ptr 1 0), (13, .ptr 3 0)] No ps asg bdy .ready none), (0, .box [intL known]), (1, .box [.bool false, .int .i64 0, .int .i64 0, .int .i64 0]), (3, .box [.bool false, .int .i64 (stepJ known q t w v).at', .int .i64 (stepJ known q t w v).su, .int .i64 (stepJ known q t w v).ag])])) :
    FnT Kx 72 [.yld 4, .rptr (.agg [spL line, .int .i64 f, verL a, verL b]) 0] [(4, .loop [(26, sureFn line f a b), (9, .ptr 0 0), (10, .ptr 1 0), (13, .ptr 3 0)] No ps asg bdy .ready none), (0, .box [intL known]), (1, .box [.bool false, .int .i64 0, .int .i64 0, .int .i64 0]), (3, .box [.bool false, .int .i64 (Jst.mk (-1) 0 0).at', .int .i64 (Jst.mk (-1) 0 0).su, .int .i64 (Jst.mk (-1) 0 0).ag])]
      (fun _ M => M = [(4, .loop [(26, sureFn line f a b), (9, .ptr 0 0), (10, .ptr 1 0), (13, .ptr 3 0)] No ps asg bdy .ready none), (0, .box [intL known]), (1, .box [.bool false, .int .i64 0, .int .i64 0, .int .i64 0]), (3, .box [.bool false, .int .i64 (sureF (stepJ known) line f a b ⟨-1, 0, 0⟩).at', .int .i64 (sureF (stepJ known) line f a b ⟨-1, 0, 0⟩).su, .int .i64 (sureF (stepJ known) line f a b ⟨-1, 0, 0⟩).ag])]) := by
  refine FnT_of_body ent72 Tryd.func72 rfl Tryd.ntmps72 rfl (fun C0 hC0 => ?_)
  obtain ⟨j1, j2, j3, j4, j5, j6⟩ := jvalid_len hj
  have hv : valid line = true := by simp only [jvalid, Bool.and_eq_true] at hj; exact hj.1.1.1.1.1
  repeat' (first | refine G_ops Kx_ok 6 rfl ?_ | refine G_op Kx_ok rfl ?_ | refine G_run rfl rfl rfl ?_ | refine G_nil ?_ | refine G_seq ?_ | refine G_region rfl ?_ | refine G_skip ?_ | refine G_block ?_ | refine G_drawn Kx_mixed rfl ?_ | refine D_ops Kx_ok 6 rfl ?_ | refine D_op Kx_ok rfl ?_ | refine D_nil rfl ?_ | refine G_cond_t rfl ?_ | refine G_cond_f rfl ?_ | refine G_exit ?_ | refine G_splitD rfl (fun h => ?_) (fun h => ?_) | refine D_splitD rfl (fun h => ?_) (fun h => ?_) | ((fail_if_success refine G_isL rfl rfl ?_); refine G_split rfl (fun h => ?_) (fun h => ?_)) | ((fail_if_success refine D_isL rfl rfl ?_); refine D_split rfl (fun h => ?_) (fun h => ?_)) | refine G_condD rfl (fun h => ?_) (fun h => ?_) | refine G_condN rfl (fun h => ?_) (fun h => ?_) | refine G_cond rfl (fun h => ?_) (fun h => ?_) | refine G_ret (G_leave ?_))
  refine G_weakE [(0, .yld 4), (1, .rptr (.agg [spL line, .int .i64 f, verL a, verL b]) 0), (3, .int .i64 0), (7, verL a), (8, .int .i64 (List.map verA a).length), (9, .int .i64 0)] (by repeat' (first | exact trivial | refine ⟨rfl, ?_⟩ | refine ⟨iv (by first | rfl | omega | (rw [w64 (by omega) (by omega)]; omega)), ?_⟩)) ?_
  refine G_loopF (fun (p : Nat × Nat × Jst) => [(3, .int .i64 p.2.1), (9, .int .i64 p.1)]) (fun p => [(4, .loop [(26, sureFn line f a b), (9, .ptr 0 0), (10, .ptr 1 0), (13, .ptr 3 0)] No ps asg bdy .ready none), (0, .box [intL known]), (1, .box [.bool false, .int .i64 0, .int .i64 0, .int .i64 0]), (3, .box [.bool false, .int .i64 p.2.2.at', .int .i64 p.2.2.su, .int .i64 p.2.2.ag])])
    (fun p => p.1 ≤ a.length ∧ p.2.1 ≤ line.length ∧ (∀ x ∈ line.take p.2.1, x.t ≤ f + p.1) ∧ (0 ≤ p.2.2.su ∧ p.2.2.su ≤ (p.1 : Nat) ∧ 0 ≤ p.2.2.ag ∧ p.2.2.ag ≤ (p.1 : Nat)) ∧ sureF (stepJ known) line (f + p.1) (a.drop p.1) (b.drop p.1) p.2.2 = sureF (stepJ known) line f a b ⟨-1, 0, 0⟩) (fun p => a.length - p.1) (0, 0, ⟨-1, 0, 0⟩) rfl ⟨by simp, by simp, by simp, by simp, by simp⟩ (G_atL hC0 rfl rfl (by repeat' (first | exact trivial | refine ⟨⟨rfl, rfl⟩, ?_⟩ | refine ⟨⟨iv (by first | rfl | omega | (rw [w64 (by omega) (by omega)]; omega)), rfl⟩, ?_⟩)) (by repeat' (first | exact trivial | refine ⟨.inl rfl, ?_⟩ | refine ⟨.inr ⟨rfl, rfl⟩, ?_⟩ | refine ⟨.inr ⟨arrE (by first | rfl | (rw [List.map_append]; rfl)), rfl⟩, ?_⟩)) (by repeat' (first | exact trivial | refine ⟨⟨rfl, rfl⟩, ?_⟩))) ?_
  rintro ⟨i, k, q⟩ ⟨h1, h2, h3, h4, h5⟩
  dsimp only [List.cons_append, List.nil_append] at *
  repeat' (first | refine G_ops Kx_ok 6 rfl ?_ | refine G_op Kx_ok rfl ?_ | refine G_run rfl rfl rfl ?_ | refine G_nil ?_ | refine G_seq ?_ | refine G_region rfl ?_ | refine G_skip ?_ | refine G_block ?_ | refine G_drawn Kx_mixed rfl ?_ | refine D_ops Kx_ok 6 rfl ?_ | refine D_op Kx_ok rfl ?_ | refine D_nil rfl ?_ | refine G_cond_t rfl ?_ | refine G_cond_f rfl ?_ | refine G_exit ?_ | refine G_splitD rfl (fun h => ?_) (fun h => ?_) | refine D_splitD rfl (fun h => ?_) (fun h => ?_) | ((fail_if_success refine G_isL rfl rfl ?_); refine G_split rfl (fun h => ?_) (fun h => ?_)) | ((fail_if_success refine D_isL rfl rfl ?_); refine D_split rfl (fun h => ?_) (fun h => ?_)) | refine G_condD rfl (fun h => ?_) (fun h => ?_) | refine G_condN rfl (fun h => ?_) (fun h => ?_) | refine G_cond rfl (fun h => ?_) (fun h => ?_) | refine G_ret (G_leave ?_))
  · obtain ⟨v, hva, hda⟩ := drop_get (xs := a) (i := i) (by simp at * <;> omega)
    have hia : i < a.length := by simp at * <;> omega
    obtain ⟨w, hwb, hdb⟩ := drop_get (xs := b) (i := i) (by omega)
    have ew : IntKind.i64.wrap (f + i) = f + i := w64 (by omega) (by omega)
    repeat' (first | refine G_ops Kx_ok 6 rfl ?_ | refine G_op Kx_ok rfl ?_ | refine G_run rfl rfl rfl ?_ | refine G_nil ?_ | refine G_seq ?_ | refine G_region rfl ?_ | refine G_skip ?_ | refine G_block ?_ | refine G_drawn Kx_mixed rfl ?_ | refine D_ops Kx_ok 6 rfl ?_ | refine D_op Kx_ok rfl ?_ | refine D_nil rfl ?_ | refine G_cond_t rfl ?_ | refine G_cond_f rfl ?_ | refine G_exit ?_ | (refine G_index_lst Kx_ok rfl rfl rfl rfl rfl (map_get (x := v) (by simpa using hva)) (by omega) rfl rfl rfl ?_) | (refine D_index_lst Kx_ok _ rfl rfl rfl rfl rfl rfl (map_get (x := v) (by simpa using hva)) (by omega) rfl rfl rfl rfl ?_) | refine G_splitD rfl (fun h => ?_) (fun h => ?_) | refine D_splitD rfl (fun h => ?_) (fun h => ?_) | ((fail_if_success refine G_isL rfl rfl ?_); refine G_split rfl (fun h => ?_) (fun h => ?_)) | ((fail_if_success refine D_isL rfl rfl ?_); refine D_split rfl (fun h => ?_) (fun h => ?_)) | refine G_condD rfl (fun h => ?_) (fun h => ?_) | refine G_condN rfl (fun h => ?_) (fun h => ?_) | refine G_cond rfl (fun h => ?_) (fun h => ?_) | refine G_ret (G_leave ?_))
    refine G_loopF (fun (k : Nat) => [(3, .int .i64 k)]) (fun _ => [(2, .box [.int .i64 v.k, .int .i64 v.i]), (4, .loop [(26, sureFn line f a b), (9, .ptr 0 0), (10, .ptr 1 0), (13, .ptr 3 0)] No ps asg bdy .ready none), (0, .box [intL known]), (1, .box [.bool false, .int .i64 0, .int .i64 0, .int .i64 0]), (3, .box [.bool false, .int .i64 q.at', .int .i64 q.su, .int .i64 q.ag])]) (fun k => k ≤ line.length ∧ ∀ x ∈ line.take k, x.t ≤ f + i) (fun k => line.length - k) k rfl ⟨h2, h3⟩ (G_atL hC0 rfl rfl (by repeat' (first | exact trivial | refine ⟨⟨rfl, rfl⟩, ?_⟩ | refine ⟨⟨iv (by first | rfl | omega | (rw [w64 (by omega) (by omega)]; omega)), rfl⟩, ?_⟩)) (by repeat' (first | exact trivial | refine ⟨.inl rfl, ?_⟩ | refine ⟨.inr ⟨rfl, rfl⟩, ?_⟩ | refine ⟨.inr ⟨arrE (by first | rfl | (rw [List.map_append]; rfl)), rfl⟩, ?_⟩)) (by repeat' (first | exact trivial | refine ⟨⟨rfl, rfl⟩, ?_⟩))) ?_
    rintro k ⟨g1, g2⟩
    dsimp only [List.cons_append, List.nil_append] at *
    repeat' (first | refine G_ops Kx_ok 6 rfl ?_ | refine G_op Kx_ok rfl ?_ | refine G_run rfl rfl rfl ?_ | refine G_nil ?_ | refine G_seq ?_ | refine G_region rfl ?_ | refine G_skip ?_ | refine G_block ?_ | refine G_drawn Kx_mixed rfl ?_ | refine D_ops Kx_ok 6 rfl ?_ | refine D_op Kx_ok rfl ?_ | refine D_nil rfl ?_ | refine G_cond_t rfl ?_ | refine G_cond_f rfl ?_ | refine G_exit ?_ | refine G_splitD rfl (fun h => ?_) (fun h => ?_) | refine D_splitD rfl (fun h => ?_) (fun h => ?_) | ((fail_if_success refine G_isL rfl rfl ?_); refine G_split rfl (fun h => ?_) (fun h => ?_)) | ((fail_if_success refine D_isL rfl rfl ?_); refine D_split rfl (fun h => ?_) (fun h => ?_)) | refine G_condD rfl (fun h => ?_) (fun h => ?_) | refine G_condN rfl (fun h => ?_) (fun h => ?_) | refine G_cond rfl (fun h => ?_) (fun h => ?_) | refine G_ret (G_leave ?_))
    · obtain ⟨s, hs, hds⟩ := drop_get (xs := line) (i := k) (by simp at * <;> omega)
      have hkl : k < line.length := by simp at * <;> omega
      repeat' (first | refine G_ops Kx_ok 6 rfl ?_ | refine G_op Kx_ok rfl ?_ | refine G_run rfl rfl rfl ?_ | refine G_nil ?_ | refine G_seq ?_ | refine G_region rfl ?_ | refine G_skip ?_ | refine G_block ?_ | refine G_drawn Kx_mixed rfl ?_ | refine D_ops Kx_ok 6 rfl ?_ | refine D_op Kx_ok rfl ?_ | refine D_nil rfl ?_ | refine G_cond_t rfl ?_ | refine G_cond_f rfl ?_ | refine G_exit ?_ | (refine G_index_lst Kx_ok rfl rfl rfl rfl rfl (map_get (x := s) (by simpa using hs)) (by omega) rfl rfl rfl ?_) | (refine D_index_lst Kx_ok _ rfl rfl rfl rfl rfl rfl (map_get (x := s) (by simpa using hs)) (by omega) rfl rfl rfl rfl ?_) | refine G_splitD rfl (fun h => ?_) (fun h => ?_) | refine D_splitD rfl (fun h => ?_) (fun h => ?_) | ((fail_if_success refine G_isL rfl rfl ?_); refine G_split rfl (fun h => ?_) (fun h => ?_)) | ((fail_if_success refine D_isL rfl rfl ?_); refine D_split rfl (fun h => ?_) (fun h => ?_)) | refine G_condD rfl (fun h => ?_) (fun h => ?_) | refine G_condN rfl (fun h => ?_) (fun h => ?_) | refine G_cond rfl (fun h => ?_) (fun h => ?_) | refine G_ret (G_leave ?_))
      · have hst := ‹s.t ≤ IntKind.i64.wrap (f + i)›
        rw [ew] at hst
        refine G_nextF (k + 1) ⟨by omega, fun x hx => ?_⟩ (by omega) (G_atL hC0 rfl rfl (by repeat' (first | exact trivial | refine ⟨⟨rfl, rfl⟩, ?_⟩ | refine ⟨⟨iv (by first | rfl | omega | (rw [w64 (by omega) (by omega)]; omega)), rfl⟩, ?_⟩)) (by repeat' (first | exact trivial | refine ⟨.inl rfl, ?_⟩ | refine ⟨.inr ⟨rfl, rfl⟩, ?_⟩ | refine ⟨.inr ⟨arrE (by first | rfl | (rw [List.map_append]; rfl)), rfl⟩, ?_⟩)) (by repeat' (first | exact trivial | refine ⟨⟨rfl, rfl⟩, ?_⟩)))
        rw [List.take_add_one, hs] at hx
        rcases List.mem_append.1 hx with hx | hx
        · exact g2 x hx
        · simp only [Option.toList_some, List.mem_singleton] at hx
          rw [hx]; exact hst
      · have hst := ‹¬ s.t ≤ IntKind.i64.wrap (f + i)›
        rw [ew] at hst
        have hown := ownAt_eq hv (T := f + i) (by omega) hs g2 (by omega)
        repeat' (first | refine G_ops Kx_ok 6 rfl ?_ | refine G_op Kx_ok rfl ?_ | refine G_run rfl rfl rfl ?_ | refine G_nil ?_ | refine G_seq ?_ | refine G_region rfl ?_ | refine G_skip ?_ | refine G_block ?_ | refine G_drawn Kx_mixed rfl ?_ | refine D_ops Kx_ok 6 rfl ?_ | refine D_op Kx_ok rfl ?_ | refine D_nil rfl ?_ | refine G_cond_t rfl ?_ | refine G_cond_f rfl ?_ | refine G_exit ?_ | (refine G_index_lst Kx_ok rfl rfl rfl rfl rfl (map_get (x := w) (by simpa using hwb)) (by omega) rfl rfl rfl ?_) | (refine D_index_lst Kx_ok _ rfl rfl rfl rfl rfl rfl (map_get (x := w) (by simpa using hwb)) (by omega) rfl rfl rfl rfl ?_) | (refine G_index_lst Kx_ok rfl rfl rfl rfl rfl (map_get (x := s) (by simpa using hs)) (by omega) rfl rfl rfl ?_) | (refine D_index_lst Kx_ok _ rfl rfl rfl rfl rfl rfl (map_get (x := s) (by simpa using hs)) (by omega) rfl rfl rfl rfl ?_) | refine G_eqS Kx_ok (neg := true) rfl rfl rfl rfl rfl rfl eqVer rfl ?_ | refine D_eqS Kx_ok true rfl rfl rfl rfl rfl rfl rfl eqVer rfl rfl ?_ | refine G_eqS Kx_ok (neg := false) rfl rfl rfl rfl rfl rfl eqVer rfl ?_ | refine D_eqS Kx_ok false rfl rfl rfl rfl rfl rfl rfl eqVer rfl rfl ?_ | refine D_yieldA (hy q (IntKind.i64.wrap (f + i)) s.o v (by omega)) rfl rfl rfl rfl rfl rfl (by repeat' (first | exact trivial | refine ⟨⟨rfl, rfl, rfl⟩, ?_⟩)) rfl (by repeat' (first | exact trivial | refine ⟨.inl rfl, ?_⟩ | refine ⟨.inr rfl, ?_⟩)) rfl rfl rfl rfl rfl rfl ?_ | refine D_call rfl rfl rfl rfl rfl ((c_judge_ruleOf v.k).eq (ruleA_sure v.k)) rfl (ruleB v.k) rfl rfl ?_ | refine G_splitD rfl (fun h => ?_) (fun h => ?_) | refine D_splitD rfl (fun h => ?_) (fun h => ?_) | ((fail_if_success refine G_isL rfl rfl ?_); refine G_split rfl (fun h => ?_) (fun h => ?_)) | ((fail_if_success refine D_isL rfl rfl ?_); refine D_split rfl (fun h => ?_) (fun h => ?_)) | refine G_condD rfl (fun h => ?_) (fun h => ?_) | refine G_condN rfl (fun h => ?_) (fun h => ?_) | refine G_cond rfl (fun h => ?_) (fun h => ?_) | refine G_ret (G_leave ?_))
        all_goals first
          | (refine G_nextF (i + 1, k, stepJ known q (IntKind.i64.wrap (f + i)) s.o v) ⟨by omega, by omega, fun x hx => ?_, ?_, ?_⟩ (by omega) (G_atL hC0 rfl rfl (by repeat' (first | exact trivial | refine ⟨⟨rfl, rfl⟩, ?_⟩ | refine ⟨⟨iv (by first | rfl | omega | (rw [w64 (by omega) (by omega)]; omega)), rfl⟩, ?_⟩)) (by repeat' (first | exact trivial | refine ⟨.inl rfl, ?_⟩ | refine ⟨.inr ⟨rfl, rfl⟩, ?_⟩ | refine ⟨.inr ⟨arrE (by first | rfl | (rw [List.map_append]; rfl)), rfl⟩, ?_⟩)) (by repeat' (first | exact trivial | refine ⟨⟨rfl, rfl⟩, ?_⟩)))
             · have := g2 x hx; simp only; omega
             · exact (by unfold stepJ; split <;> (simp only; omega))
             · have hc : certain v w = true := by
                 rw [certain_iff]
                 cases v; cases w
                 simp_all
               rw [← h5, hda, hdb]
               simp only [sureF, hc, if_true]
               rw [ew, hown, show f + ((i + 1 : Nat) : Int) = f + i + 1 by omega])
          | (refine G_nextF (i + 1, k, q) ⟨by omega, by omega, fun x hx => ?_, ?_, ?_⟩ (by omega) (G_atL hC0 rfl rfl (by repeat' (first | exact trivial | refine ⟨⟨rfl, rfl⟩, ?_⟩ | refine ⟨⟨iv (by first | rfl | omega | (rw [w64 (by omega) (by omega)]; omega)), rfl⟩, ?_⟩)) (by repeat' (first | exact trivial | refine ⟨.inl rfl, ?_⟩ | refine ⟨.inr ⟨rfl, rfl⟩, ?_⟩ | refine ⟨.inr ⟨arrE (by first | rfl | (rw [List.map_append]; rfl)), rfl⟩, ?_⟩)) (by repeat' (first | exact trivial | refine ⟨⟨rfl, rfl⟩, ?_⟩)))
             · have := g2 x hx; simp only; omega
             · simp only at *; omega
             · have hc : certain v w = false := by
                 rw [← Bool.not_eq_true, certain_iff]
                 rintro ⟨rfl, e2⟩
                 simp_all
               rw [← h5, hda, hdb]
               simp only [sureF, hc]
               rw [show f + ((i + 1 : Nat) : Int) = f + i + 1 by omega]; rfl)
    · exfalso
      have hkl : k = line.length := by simp at * <;> omega
      rw [hkl, List.take_length] at g2
      have := endOf_le (T := f + i) (by omega) g2
      omega
  · refine G_leave_end ?_
    have hia : a.length ≤ i := by simp at * <;> omega
    rw [List.drop_eq_nil_of_le hia] at h5
    have h5 : q = sureF (stepJ known) line f a b ⟨-1, 0, 0⟩ := by rw [← h5]; cases hbd : b.drop i <;> simp [sureF]
    rw [← h5]
    refine G_wk [] [(4, .loop [(26, sureFn line f a b), (9, .ptr 0 0), (10, .ptr 1 0), (13, .ptr 3 0)] No ps asg bdy .ready none), (0, .box [intL known]), (1, .box [.bool false, .int .i64 0, .int .i64 0, .int .i64 0]), (3, .box [.bool false, .int .i64 q.at', .int .i64 q.su, .int .i64 q.ag])] hC0 rfl rfl (by repeat' (first | exact trivial | refine ⟨⟨rfl, rfl⟩, ?_⟩ | refine ⟨⟨iv (by first | rfl | omega | (rw [w64 (by omega) (by omega)]; omega)), rfl⟩, ?_⟩)) (by repeat' (first | exact trivial | refine ⟨.inl rfl, ?_⟩ | refine ⟨.inr ⟨rfl, rfl⟩, ?_⟩ | refine ⟨.inr ⟨arrE (by first | rfl | (rw [List.map_append]; rfl)), rfl⟩, ?_⟩)) (by repeat' (first | exact trivial | refine ⟨⟨rfl, rfl⟩, ?_⟩)) ?_
    exact G_return Kx_ok rfl rfl

end Go.Proofs.YtmdbpbncdkdipaaDoor
namespace Go.Proofs.YtmdbpbncdkdipaaDoor
open Go.Asl
set_option maxRecDepth 100000
set_option maxHeartbeats 4000000
attribute [local irreducible] Go.Asl.wpG Go.Code.wpIn Go.Asl.DrawG Go.Asl.LvX Go.Asl.G
def pjudge (line : List Spn) (f : Int) (a b : List Ver) (known : List Int) : Option Jst := if jvalid line f a b = true then some (sureF (stepJ known) line f a b ⟨-1, 0, 0⟩) else none
def rulA (o : Option Jst) : AV := match o with
  | some q => .agg [.bool (decide (q.ag = 0)), .int .i64 q.at', .int .i64 q.su, .int .i64 q.ag]
  | none => .agg [.bool false, .int .i64 0, .int .i64 0, .int .i64 0]
def errJ {α : Type} (o : Option α) : Int := match o with
  | some _ => 0
  | none => 380
theorem c_judge_Judge (line : List Spn) (f : Int) (a b : List Ver) (known : List Int) (h1 : line.length ≤ 1000000000) (h2 : a.length ≤ 1000000000) (h3 : b.length ≤ 1000000000) (hk : known.length ≤ 4611686018427387904) :
    FnP Kx 15 [spL line, .int .i64 f, verL a, verL b, intL known] (.tup [rulA (pjudge line f a b known), .int .i64 (errJ (pjudge line f a b known))]) := by
  refine FnT_of_body ent15 Tryd.func15 rfl Tryd.ntmps15 rfl (fun C0 hC0 => ?_)
  repeat' (first | refine G_ops Kx_ok 6 rfl ?_ | refine G_op Kx_ok rfl ?_ | refine G_run rfl rfl rfl ?_ | refine G_nil ?_ | refine G_seq ?_ | refine G_region rfl ?_ | refine G_skip ?_ | refine G_block ?_ | refine G_drawn Kx_mixed rfl ?_ | refine D_ops Kx_ok 6 rfl ?_ | refine D_op Kx_ok rfl ?_ | refine D_nil rfl ?_ | refine G_cond_t rfl ?_ | refine G_cond_f rfl ?_ | refine G_exit ?_ | refine G_callP rfl rfl rfl rfl (c_judge_valid line f a b h1 h2 h3) rfl rfl rfl ?_ | refine D_call rfl rfl rfl rfl rfl (c_judge_valid line f a b h1 h2 h3) rfl rfl rfl rfl ?_ | refine G_callP rfl rfl rfl rfl (c_judge_sure line f a b) rfl rfl rfl ?_ | refine D_call rfl rfl rfl rfl rfl (c_judge_sure line f a b) rfl rfl rfl rfl ?_ | refine G_splitD rfl (fun h => ?_) (fun h => ?_) | refine D_splitD rfl (fun h => ?_) (fun h => ?_) | ((fail_if_success refine G_isL rfl rfl ?_); refine G_split rfl (fun h => ?_) (fun h => ?_)) | ((fail_if_success refine D_isL rfl rfl ?_); refine D_split rfl (fun h => ?_) (fun h => ?_)) | refine G_condD rfl (fun h => ?_) (fun h => ?_) | refine G_condN rfl (fun h => ?_) (fun h => ?_) | refine G_cond rfl (fun h => ?_) (fun h => ?_) | refine G_ret (G_leave ?_))
  · refine G_return Kx_ok rfl ?_
    rw [pjudge, if_neg (by simp_all)]; rfl
  · have hj : jvalid line f a b = true := by assumption
    refine G_wk [(26, sureFn line f a b), (9, .ptr 0 0), (10, .ptr 1 0), (13, .ptr 3 0)] [(0, .box [intL known]), (1, .box [.bool false, .int .i64 0, .int .i64 0, .int .i64 0]), (3, .box [.bool false, .int .i64 (-1), .int .i64 0, .int .i64 0])] hC0 rfl rfl (by repeat' (first | exact trivial | refine ⟨⟨rfl, rfl⟩, ?_⟩ | refine ⟨⟨iv (by first | rfl | omega | (rw [w64 (by omega) (by omega)]; omega)), rfl⟩, ?_⟩)) (by repeat' (first | exact trivial | refine ⟨.inl rfl, ?_⟩ | refine ⟨.inr ⟨rfl, rfl⟩, ?_⟩ | refine ⟨.inr ⟨arrE (by first | rfl | (rw [List.map_append]; rfl)), rfl⟩, ?_⟩)) (by repeat' (first | exact trivial | refine ⟨⟨rfl, rfl⟩, ?_⟩)) ?_
    refine G_range 4 rfl rfl rfl ((c_sure_J line f a b known hj ?_).mono ?_)
    · intro q t w v hq
      refine YldT_of_body rfl rfl rfl ?_
      intro F _ n C1 l' hS hφ
      have hkn : C1.kn 4 := by show (C1.S 4).known = true; rw [hS]; rfl
      repeat' (first | refine G_ops Kx_ok 6 rfl ?_ | refine G_op Kx_ok rfl ?_ | refine G_run rfl rfl rfl ?_ | refine G_nil ?_ | refine G_seq ?_ | refine G_region rfl ?_ | refine G_skip ?_ | refine G_block ?_ | refine G_drawn Kx_mixed rfl ?_ | refine D_ops Kx_ok 6 rfl ?_ | refine D_op Kx_ok rfl ?_ | refine D_nil rfl ?_ | refine G_cond_t rfl ?_ | refine G_cond_f rfl ?_ | refine G_exit ?_ | refine G_splitD rfl (fun h => ?_) (fun h => ?_) | refine D_splitD rfl (fun h => ?_) (fun h => ?_) | ((fail_if_success refine G_isL rfl rfl ?_); refine G_split rfl (fun h => ?_) (fun h => ?_)) | ((fail_if_success refine D_isL rfl rfl ?_); refine D_split rfl (fun h => ?_) (fun h => ?_)) | refine G_condD rfl (fun h => ?_) (fun h => ?_) | refine G_condN rfl (fun h => ?_) (fun h => ?_) | refine G_cond rfl (fun h => ?_) (fun h => ?_) | refine G_ret (G_leave ?_))
      refine G_begin hφ hkn rfl ?_
      repeat' (first | refine G_ops Kx_ok 6 rfl ?_ | refine G_op Kx_ok rfl ?_ | refine G_run rfl rfl rfl ?_ | refine G_nil ?_ | refine G_seq ?_ | refine G_region rfl ?_ | refine G_skip ?_ | refine G_block ?_ | refine G_drawn Kx_mixed rfl ?_ | refine D_ops Kx_ok 6 rfl ?_ | refine D_op Kx_ok rfl ?_ | refine D_nil rfl ?_ | refine G_cond_t rfl ?_ | refine G_cond_f rfl ?_ | refine G_exit ?_ | refine G_callP rfl rfl rfl rfl (c_judge_Against w v known hk) rfl rfl rfl ?_ | refine D_call rfl rfl rfl rfl rfl (c_judge_Against w v known hk) rfl rfl rfl rfl ?_ | refine G_splitD rfl (fun h => ?_) (fun h => ?_) | refine D_splitD rfl (fun h => ?_) (fun h => ?_) | ((fail_if_success refine G_isL rfl rfl ?_); refine G_split rfl (fun h => ?_) (fun h => ?_)) | ((fail_if_success refine D_isL rfl rfl ?_); refine D_split rfl (fun h => ?_) (fun h => ?_)) | refine G_condD rfl (fun h => ?_) (fun h => ?_) | refine G_condN rfl (fun h => ?_) (fun h => ?_) | refine G_cond rfl (fun h => ?_) (fun h => ?_))
      all_goals have eu : IntKind.i64.wrap (q.su + 1) = q.su + 1 := w64 (by omega) (by omega)
      all_goals have ea : IntKind.i64.wrap (q.ag + 1) = q.ag + 1 := w64 (by omega) (by omega)
      · refine G_wk [] [(4, .loop [(26, sureFn line f a b), (9, .ptr 0 0), (10, .ptr 1 0), (13, .ptr 3 0)] _ _ _ _ .busy none), (0, .box [intL known]), (1, .box [.bool false, .int .i64 0, .int .i64 0, .int .i64 0]), (3, .box [.bool false, .int .i64 q.at', .int .i64 (IntKind.i64.wrap (q.su + 1)), .int .i64 q.ag])] hS rfl rfl (by repeat' (first | exact trivial | refine ⟨⟨rfl, rfl⟩, ?_⟩ | refine ⟨⟨iv (by first | rfl | omega | (rw [w64 (by omega) (by omega)]; omega)), rfl⟩, ?_⟩)) (by repeat' (first | exact trivial | refine ⟨.inl rfl, ?_⟩ | refine ⟨.inr ⟨rfl, rfl⟩, ?_⟩ | refine ⟨.inr ⟨arrE (by first | rfl | (rw [List.map_append]; rfl)), rfl⟩, ?_⟩)) (by repeat' (first | exact trivial | refine ⟨⟨rfl, rfl⟩, ?_⟩)) ?_
        refine G_round_onS [(4, .loop [(26, sureFn line f a b), (9, .ptr 0 0), (10, .ptr 1 0), (13, .ptr 3 0)] _ _ _ _ .ready none), (0, .box [intL known]), (1, .box [.bool false, .int .i64 0, .int .i64 0, .int .i64 0]), (3, .box [.bool false, .int .i64 q.at', .int .i64 (IntKind.i64.wrap (q.su + 1)), .int .i64 q.ag])] hφ hkn rfl (by repeat' (first | exact trivial | refine ⟨rfl, ?_⟩)) (by repeat' (first | exact trivial | refine ⟨rfl, ?_⟩)) ⟨rfl, ?_⟩
        have es : stepJ known q t w v = ⟨q.at', q.su + 1, q.ag⟩ := by unfold stepJ; simp_all
        rw [es, eu]
      · refine G_wk [] [(4, .loop [(26, sureFn line f a b), (9, .ptr 0 0), (10, .ptr 1 0), (13, .ptr 3 0)] _ _ _ _ .busy none), (0, .box [intL known]), (1, .box [.bool false, .int .i64 0, .int .i64 0, .int .i64 0]), (3, .box [.bool false, .int .i64 t, .int .i64 (IntKind.i64.wrap (q.su + 1)), .int .i64 (IntKind.i64.wrap (q.ag + 1))])] hS rfl rfl (by repeat' (first | exact trivial | refine ⟨⟨rfl, rfl⟩, ?_⟩ | refine ⟨⟨iv (by first | rfl | omega | (rw [w64 (by omega) (by omega)]; omega)), rfl⟩, ?_⟩)) (by repeat' (first | exact trivial | refine ⟨.inl rfl, ?_⟩ | refine ⟨.inr ⟨rfl, rfl⟩, ?_⟩ | refine ⟨.inr ⟨arrE (by first | rfl | (rw [List.map_append]; rfl)), rfl⟩, ?_⟩)) (by repeat' (first | exact trivial | refine ⟨⟨rfl, rfl⟩, ?_⟩)) ?_
        refine G_round_onS [(4, .loop [(26, sureFn line f a b), (9, .ptr 0 0), (10, .ptr 1 0), (13, .ptr 3 0)] _ _ _ _ .ready none), (0, .box [intL known]), (1, .box [.bool false, .int .i64 0, .int .i64 0, .int .i64 0]), (3, .box [.bool false, .int .i64 t, .int .i64 (IntKind.i64.wrap (q.su + 1)), .int .i64 (IntKind.i64.wrap (q.ag + 1))])] hφ hkn rfl (by repeat' (first | exact trivial | refine ⟨rfl, ?_⟩)) (by repeat' (first | exact trivial | refine ⟨rfl, ?_⟩)) ⟨rfl, ?_⟩
        have es : stepJ known q t w v = ⟨t, q.su + 1, (q.ag + 1)⟩ := by unfold stepJ; simp_all
        rw [es, eu, ea]
      · refine G_wk [] [(4, .loop [(26, sureFn line f a b), (9, .ptr 0 0), (10, .ptr 1 0), (13, .ptr 3 0)] _ _ _ _ .busy none), (0, .box [intL known]), (1, .box [.bool false, .int .i64 0, .int .i64 0, .int .i64 0]), (3, .box [.bool false, .int .i64 q.at', .int .i64 (IntKind.i64.wrap (q.su + 1)), .int .i64 (IntKind.i64.wrap (q.ag + 1))])] hS rfl rfl (by repeat' (first | exact trivial | refine ⟨⟨rfl, rfl⟩, ?_⟩ | refine ⟨⟨iv (by first | rfl | omega | (rw [w64 (by omega) (by omega)]; omega)), rfl⟩, ?_⟩)) (by repeat' (first | exact trivial | refine ⟨.inl rfl, ?_⟩ | refine ⟨.inr ⟨rfl, rfl⟩, ?_⟩ | refine ⟨.inr ⟨arrE (by first | rfl | (rw [List.map_append]; rfl)), rfl⟩, ?_⟩)) (by repeat' (first | exact trivial | refine ⟨⟨rfl, rfl⟩, ?_⟩)) ?_
        refine G_round_onS [(4, .loop [(26, sureFn line f a b), (9, .ptr 0 0), (10, .ptr 1 0), (13, .ptr 3 0)] _ _ _ _ .ready none), (0, .box [intL known]), (1, .box [.bool false, .int .i64 0, .int .i64 0, .int .i64 0]), (3, .box [.bool false, .int .i64 q.at', .int .i64 (IntKind.i64.wrap (q.su + 1)), .int .i64 (IntKind.i64.wrap (q.ag + 1))])] hφ hkn rfl (by repeat' (first | exact trivial | refine ⟨rfl, ?_⟩)) (by repeat' (first | exact trivial | refine ⟨rfl, ?_⟩)) ⟨rfl, ?_⟩
        have es : stepJ known q t w v = ⟨q.at', q.su + 1, (q.ag + 1)⟩ := by unfold stepJ; simp_all
        rw [es, eu, ea]
    · rintro _ M rfl
      refine ⟨.ready, none, rfl, by simp, ?_⟩
      dsimp only
      repeat' (first | refine G_ops Kx_ok 6 rfl ?_ | refine G_op Kx_ok rfl ?_ | refine G_run rfl rfl rfl ?_ | refine G_nil ?_ | refine G_seq ?_ | refine G_region rfl ?_ | refine G_skip ?_ | refine G_block ?_ | refine G_drawn Kx_mixed rfl ?_ | refine D_ops Kx_ok 6 rfl ?_ | refine D_op Kx_ok rfl ?_ | refine D_nil rfl ?_ | refine G_cond_t rfl ?_ | refine G_cond_f rfl ?_ | refine G_exit ?_ | refine G_splitD rfl (fun h => ?_) (fun h => ?_) | refine D_splitD rfl (fun h => ?_) (fun h => ?_) | ((fail_if_success refine G_isL rfl rfl ?_); refine G_split rfl (fun h => ?_) (fun h => ?_)) | ((fail_if_success refine D_isL rfl rfl ?_); refine D_split rfl (fun h => ?_) (fun h => ?_)) | refine G_condD rfl (fun h => ?_) (fun h => ?_) | refine G_condN rfl (fun h => ?_) (fun h => ?_) | refine G_cond rfl (fun h => ?_) (fun h => ?_) | refine G_ret (G_leave ?_))
      refine G_marks rfl ?_
      refine G_return Kx_ok rfl ?_
      rw [pjudge, if_pos hj]; rfl

end Go.Proofs.YtmdbpbncdkdipaaDoor
namespace Go.Proofs.YtmdbpbncdkdipaaDoor
open Go.Asl
set_option maxRecDepth 100000
set_option maxHeartbeats 4000000
attribute [local irreducible] Go.Asl.wpG Go.Code.wpIn Go.Asl.DrawG Go.Asl.LvX Go.Asl.G
def stepV (who : Int) (q : List Spe) (t w : Int) (v : Ver) : List Spe := if w = who ∧ v = ⟨1, IntKind.i64.wrap (who - 1)⟩ then extE q ⟨t, IntKind.i64.wrap (t + 1)⟩ else q
theorem stepV_len (who : Int) (q : List Spe) (t w : Int) (v : Ver) : (stepV who q t w v).length ≤ q.length + 1 := by
  unfold stepV
  split
  · exact extE_len _ _
  · omega

set_option linter.unusedVariables false in
theorem c_sure_V (line : List Spn) (f : Int) (a b : List Ver) (who : Int) {No : Nat} {ps : Array Tmp} {asg bdy : Code} (hj : jvalid line f a b = true)
    (hy : ∀ (q : List Spe) t w v, (List.length q ≤ (200 : Nat)) → YldT Kx 3 [factA t w v] [(3, .loop [(25, sureFn line f a b), (9, .ptr 0 0), (13, .ptr 2 0)] No ps asg bdy .ready none), (0, .box [.int .i64 who]), (2, .box [.own 5]), (4, .dead), (5, seO q)] (fun u M => u = .bool true ∧ M = [(3, .loop [(25, sureFn line f a b), (9, .ptr 0 0), (13, .ptr 2 0)] No ps asg bdy .ready none), (0, .box [.int .i64 who]), (2, .box [.own 6]), (4, .dead), (5, .dead), (6, seO (stepV who q t w v))])) :
    FnT Kx 72 [.yld 3, .rptr (.agg [spL line, .int .i64 f, verL a, verL b]) 0] [(3, .loop [(25, sureFn line f a b), (9, .ptr 0 0), (13, .ptr 2 0)] No ps asg bdy .ready none), (0, .box [.int .i64 who]), (2, .box [.own 4]), (4, seO ([] : List Spe))]
      (fun _ M => M = [(3, .loop [(25, sureFn line f a b), (9, .ptr 0 0), (13, .ptr 2 0)] No ps asg bdy .ready none), (0, .box [.int .i64 who]), (2, .box [.own 5]), (4, .dead), (5, seO (sureF (stepV who) line f a b []))]) := by
  refine FnT_of_body ent72 Tryd.func72 rfl Tryd.ntmps72 rfl (fun C0 hC0 => ?_)
  obtain ⟨j1, j2, j3, j4, j5, j6⟩ := jvalid_len hj
  have hv : valid line = true := by simp only [jvalid, Bool.and_eq_true] at hj; exact hj.1.1.1.1.1
  repeat' (first | refine G_ops Kx_ok 6 rfl ?_ | refine G_op Kx_ok rfl ?_ | refine G_run rfl rfl rfl ?_ | refine G_nil ?_ | refine G_seq ?_ | refine G_region rfl ?_ | refine G_skip ?_ | refine G_block ?_ | refine G_drawn Kx_mixed rfl ?_ | refine D_ops Kx_ok 6 rfl ?_ | refine D_op Kx_ok rfl ?_ | refine D_nil rfl ?_ | refine G_cond_t rfl ?_ | refine G_cond_f rfl ?_ | refine G_exit ?_ | refine G_splitD rfl (fun h => ?_) (fun h => ?_) | refine D_splitD rfl (fun h => ?_) (fun h => ?_) | ((fail_if_success refine G_isL rfl rfl ?_); refine G_split rfl (fun h => ?_) (fun h => ?_)) | ((fail_if_success refine D_isL rfl rfl ?_); refine D_split rfl (fun h => ?_) (fun h => ?_)) | refine G_condD rfl (fun h => ?_) (fun h => ?_) | refine G_condN rfl (fun h => ?_) (fun h => ?_) | refine G_cond rfl (fun h => ?_) (fun h => ?_) | refine G_ret (G_leave ?_))
  refine G_weakE [(0, .yld 3), (1, .rptr (.agg [spL line, .int .i64 f, verL a, verL b]) 0), (3, .int .i64 0), (7, verL a), (8, .int .i64 (List.map verA a).length), (9, .int .i64 0)] (by repeat' (first | exact trivial | refine ⟨rfl, ?_⟩ | refine ⟨iv (by first | rfl | omega | (rw [w64 (by omega) (by omega)]; omega)), ?_⟩)) ?_
  refine G_loopF (fun (p : Nat × Nat × List Spe) => [(3, .int .i64 p.2.1), (9, .int .i64 p.1)]) (fun p => [(3, .loop [(25, sureFn line f a b), (9, .ptr 0 0), (13, .ptr 2 0)] No ps asg bdy .ready none), (0, .box [.int .i64 who]), (2, .box [.own 5]), (4, .dead), (5, seO p.2.2)])
    (fun p => p.1 ≤ a.length ∧ p.2.1 ≤ line.length ∧ (∀ x ∈ line.take p.2.1, x.t ≤ f + p.1) ∧ (List.length p.2.2 ≤ (p.1 : Nat)) ∧ sureF (stepV who) line (f + p.1) (a.drop p.1) (b.drop p.1) p.2.2 = sureF (stepV who) line f a b []) (fun p => a.length - p.1) (0, 0, []) rfl ⟨by simp, by simp, by simp, by simp, by simp⟩ (G_atL hC0 rfl rfl (by repeat' (first | exact trivial | refine ⟨⟨rfl, rfl⟩, ?_⟩ | refine ⟨⟨iv (by first | rfl | omega | (rw [w64 (by omega) (by omega)]; omega)), rfl⟩, ?_⟩)) (by repeat' (first | exact trivial | refine ⟨.inl rfl, ?_⟩ | refine ⟨.inr ⟨rfl, rfl⟩, ?_⟩ | refine ⟨.inr ⟨arrE (by first | rfl | (rw [List.map_append]; rfl)), rfl⟩, ?_⟩)) (by repeat' (first | exact trivial | refine ⟨⟨rfl, rfl⟩, ?_⟩))) ?_
  rintro ⟨i, k, q⟩ ⟨h1, h2, h3, h4, h5⟩
  dsimp only [List.cons_append, List.nil_append] at *
  repeat' (first | refine G_ops Kx_ok 6 rfl ?_ | refine G_op Kx_ok rfl ?_ | refine G_run rfl rfl rfl ?_ | refine G_nil ?_ | refine G_seq ?_ | refine G_region rfl ?_ | refine G_skip ?_ | refine G_block ?_ | refine G_drawn Kx_mixed rfl ?_ | refine D_ops Kx_ok 6 rfl ?_ | refine D_op Kx_ok rfl ?_ | refine D_nil rfl ?_ | refine G_cond_t rfl ?_ | refine G_cond_f rfl ?_ | refine G_exit ?_ | refine G_splitD rfl (fun h => ?_) (fun h => ?_) | refine D_splitD rfl (fun h => ?_) (fun h => ?_) | ((fail_if_success refine G_isL rfl rfl ?_); refine G_split rfl (fun h => ?_) (fun h => ?_)) | ((fail_if_success refine D_isL rfl rfl ?_); refine D_split rfl (fun h => ?_) (fun h => ?_)) | refine G_condD rfl (fun h => ?_) (fun h => ?_) | refine G_condN rfl (fun h => ?_) (fun h => ?_) | refine G_cond rfl (fun h => ?_) (fun h => ?_) | refine G_ret (G_leave ?_))
  · obtain ⟨v, hva, hda⟩ := drop_get (xs := a) (i := i) (by simp at * <;> omega)
    have hia : i < a.length := by simp at * <;> omega
    obtain ⟨w, hwb, hdb⟩ := drop_get (xs := b) (i := i) (by omega)
    have ew : IntKind.i64.wrap (f + i) = f + i := w64 (by omega) (by omega)
    repeat' (first | refine G_ops Kx_ok 6 rfl ?_ | refine G_op Kx_ok rfl ?_ | refine G_run rfl rfl rfl ?_ | refine G_nil ?_ | refine G_seq ?_ | refine G_region rfl ?_ | refine G_skip ?_ | refine G_block ?_ | refine G_drawn Kx_mixed rfl ?_ | refine D_ops Kx_ok 6 rfl ?_ | refine D_op Kx_ok rfl ?_ | refine D_nil rfl ?_ | refine G_cond_t rfl ?_ | refine G_cond_f rfl ?_ | refine G_exit ?_ | (refine G_index_lst Kx_ok rfl rfl rfl rfl rfl (map_get (x := v) (by simpa using hva)) (by omega) rfl rfl rfl ?_) | (refine D_index_lst Kx_ok _ rfl rfl rfl rfl rfl rfl (map_get (x := v) (by simpa using hva)) (by omega) rfl rfl rfl rfl ?_) | refine G_splitD rfl (fun h => ?_) (fun h => ?_) | refine D_splitD rfl (fun h => ?_) (fun h => ?_) | ((fail_if_success refine G_isL rfl rfl ?_); refine G_split rfl (fun h => ?_) (fun h => ?_)) | ((fail_if_success refine D_isL rfl rfl ?_); refine D_split rfl (fun h => ?_) (fun h => ?_)) | refine G_condD rfl (fun h => ?_) (fun h => ?_) | refine G_condN rfl (fun h => ?_) (fun h => ?_) | refine G_cond rfl (fun h => ?_) (fun h => ?_) | refine G_ret (G_leave ?_))
    refine G_loopF (fun (k : Nat) => [(3, .int .i64 k)]) (fun _ => [(1, .box [.int .i64 v.k, .int .i64 v.i]), (3, .loop [(25, sureFn line f a b), (9, .ptr 0 0), (13, .ptr 2 0)] No ps asg bdy .ready none), (0, .box [.int .i64 who]), (2, .box [.own 5]), (4, .dead), (5, seO q)]) (fun k => k ≤ line.length ∧ ∀ x ∈ line.take k, x.t ≤ f + i) (fun k => line.length - k) k rfl ⟨h2, h3⟩ (G_atL hC0 rfl rfl (by repeat' (first | exact trivial | refine ⟨⟨rfl, rfl⟩, ?_⟩ | refine ⟨⟨iv (by first | rfl | omega | (rw [w64 (by omega) (by omega)]; omega)), rfl⟩, ?_⟩)) (by repeat' (first | exact trivial | refine ⟨.inl rfl, ?_⟩ | refine ⟨.inr ⟨rfl, rfl⟩, ?_⟩ | refine ⟨.inr ⟨arrE (by first | rfl | (rw [List.map_append]; rfl)), rfl⟩, ?_⟩)) (by repeat' (first | exact trivial | refine ⟨⟨rfl, rfl⟩, ?_⟩))) ?_
    rintro k ⟨g1, g2⟩
    dsimp only [List.cons_append, List.nil_append] at *
    repeat' (first | refine G_ops Kx_ok 6 rfl ?_ | refine G_op Kx_ok rfl ?_ | refine G_run rfl rfl rfl ?_ | refine G_nil ?_ | refine G_seq ?_ | refine G_region rfl ?_ | refine G_skip ?_ | refine G_block ?_ | refine G_drawn Kx_mixed rfl ?_ | refine D_ops Kx_ok 6 rfl ?_ | refine D_op Kx_ok rfl ?_ | refine D_nil rfl ?_ | refine G_cond_t rfl ?_ | refine G_cond_f rfl ?_ | refine G_exit ?_ | refine G_splitD rfl (fun h => ?_) (fun h => ?_) | refine D_splitD rfl (fun h => ?_) (fun h => ?_) | ((fail_if_success refine G_isL rfl rfl ?_); refine G_split rfl (fun h => ?_) (fun h => ?_)) | ((fail_if_success refine D_isL rfl rfl ?_); refine D_split rfl (fun h => ?_) (fun h => ?_)) | refine G_condD rfl (fun h => ?_) (fun h => ?_) | refine G_condN rfl (fun h => ?_) (fun h => ?_) | refine G_cond rfl (fun h => ?_) (fun h => ?_) | refine G_ret (G_leave ?_))
    · obtain ⟨s, hs, hds⟩ := drop_get (xs := line) (i := k) (by simp at * <;> omega)
      have hkl : k < line.length := by simp at * <;> omega
      repeat' (first | refine G_ops Kx_ok 6 rfl ?_ | refine G_op Kx_ok rfl ?_ | refine G_run rfl rfl rfl ?_ | refine G_nil ?_ | refine G_seq ?_ | refine G_region rfl ?_ | refine G_skip ?_ | refine G_block ?_ | refine G_drawn Kx_mixed rfl ?_ | refine D_ops Kx_ok 6 rfl ?_ | refine D_op Kx_ok rfl ?_ | refine D_nil rfl ?_ | refine G_cond_t rfl ?_ | refine G_cond_f rfl ?_ | refine G_exit ?_ | (refine G_index_lst Kx_ok rfl rfl rfl rfl rfl (map_get (x := s) (by simpa using hs)) (by omega) rfl rfl rfl ?_) | (refine D_index_lst Kx_ok _ rfl rfl rfl rfl rfl rfl (map_get (x := s) (by simpa using hs)) (by omega) rfl rfl rfl rfl ?_) | refine G_splitD rfl (fun h => ?_) (fun h => ?_) | refine D_splitD rfl (fun h => ?_) (fun h => ?_) | ((fail_if_success refine G_isL rfl rfl ?_); refine G_split rfl (fun h => ?_) (fun h => ?_)) | ((fail_if_success refine D_isL rfl rfl ?_); refine D_split rfl (fun h => ?_) (fun h => ?_)) | refine G_condD rfl (fun h => ?_) (fun h => ?_) | refine G_condN rfl (fun h => ?_) (fun h => ?_) | refine G_cond rfl (fun h => ?_) (fun h => ?_) | refine G_ret (G_leave ?_))
      · have hst := ‹s.t ≤ IntKind.i64.wrap (f + i)›
        rw [ew] at hst
        refine G_nextF (k + 1) ⟨by omega, fun x hx => ?_⟩ (by omega) (G_atL hC0 rfl rfl (by repeat' (first | exact trivial | refine ⟨⟨rfl, rfl⟩, ?_⟩ | refine ⟨⟨iv (by first | rfl | omega | (rw [w64 (by omega) (by omega)]; omega)), rfl⟩, ?_⟩)) (by repeat' (first | exact trivial | refine ⟨.inl rfl, ?_⟩ | refine ⟨.inr ⟨rfl, rfl⟩, ?_⟩ | refine ⟨.inr ⟨arrE (by first | rfl | (rw [List.map_append]; rfl)), rfl⟩, ?_⟩)) (by repeat' (first | exact trivial | refine ⟨⟨rfl, rfl⟩, ?_⟩)))
        rw [List.take_add_one, hs] at hx
        rcases List.mem_append.1 hx with hx | hx
        · exact g2 x hx
        · simp only [Option.toList_some, List.mem_singleton] at hx
          rw [hx]; exact hst
      · have hst := ‹¬ s.t ≤ IntKind.i64.wrap (f + i)›
        rw [ew] at hst
        have hown := ownAt_eq hv (T := f + i) (by omega) hs g2 (by omega)
        repeat' (first | refine G_ops Kx_ok 6 rfl ?_ | refine G_op Kx_ok rfl ?_ | refine G_run rfl rfl rfl ?_ | refine G_nil ?_ | refine G_seq ?_ | refine G_region rfl ?_ | refine G_skip ?_ | refine G_block ?_ | refine G_drawn Kx_mixed rfl ?_ | refine D_ops Kx_ok 6 rfl ?_ | refine D_op Kx_ok rfl ?_ | refine D_nil rfl ?_ | refine G_cond_t rfl ?_ | refine G_cond_f rfl ?_ | refine G_exit ?_ | (refine G_index_lst Kx_ok rfl rfl rfl rfl rfl (map_get (x := w) (by simpa using hwb)) (by omega) rfl rfl rfl ?_) | (refine D_index_lst Kx_ok _ rfl rfl rfl rfl rfl rfl (map_get (x := w) (by simpa using hwb)) (by omega) rfl rfl rfl rfl ?_) | (refine G_index_lst Kx_ok rfl rfl rfl rfl rfl (map_get (x := s) (by simpa using hs)) (by omega) rfl rfl rfl ?_) | (refine D_index_lst Kx_ok _ rfl rfl rfl rfl rfl rfl (map_get (x := s) (by simpa using hs)) (by omega) rfl rfl rfl rfl ?_) | refine G_eqS Kx_ok (neg := true) rfl rfl rfl rfl rfl rfl eqVer rfl ?_ | refine D_eqS Kx_ok true rfl rfl rfl rfl rfl rfl rfl eqVer rfl rfl ?_ | refine G_eqS Kx_ok (neg := false) rfl rfl rfl rfl rfl rfl eqVer rfl ?_ | refine D_eqS Kx_ok false rfl rfl rfl rfl rfl rfl rfl eqVer rfl rfl ?_ | refine D_yieldA (hy q (IntKind.i64.wrap (f + i)) s.o v (by omega)) rfl rfl rfl rfl rfl rfl (by repeat' (first | exact trivial | refine ⟨⟨rfl, rfl, rfl⟩, ?_⟩)) rfl (by repeat' (first | exact trivial | refine ⟨.inl rfl, ?_⟩ | refine ⟨.inr rfl, ?_⟩)) rfl rfl rfl rfl rfl rfl ?_ | refine D_call rfl rfl rfl rfl rfl ((c_judge_ruleOf v.k).eq (ruleA_sure v.k)) rfl (ruleB v.k) rfl rfl ?_ | refine G_splitD rfl (fun h => ?_) (fun h => ?_) | refine D_splitD rfl (fun h => ?_) (fun h => ?_) | ((fail_if_success refine G_isL rfl rfl ?_); refine G_split rfl (fun h => ?_) (fun h => ?_)) | ((fail_if_success refine D_isL rfl rfl ?_); refine D_split rfl (fun h => ?_) (fun h => ?_)) | refine G_condD rfl (fun h => ?_) (fun h => ?_) | refine G_condN rfl (fun h => ?_) (fun h => ?_) | refine G_cond rfl (fun h => ?_) (fun h => ?_) | refine G_ret (G_leave ?_))
        all_goals first
          | (refine G_nextF (i + 1, k, stepV who q (IntKind.i64.wrap (f + i)) s.o v) ⟨by omega, by omega, fun x hx => ?_, ?_, ?_⟩ (by omega) (G_atL hC0 rfl rfl (by repeat' (first | exact trivial | refine ⟨⟨rfl, rfl⟩, ?_⟩ | refine ⟨⟨iv (by first | rfl | omega | (rw [w64 (by omega) (by omega)]; omega)), rfl⟩, ?_⟩)) (by repeat' (first | exact trivial | refine ⟨.inl rfl, ?_⟩ | refine ⟨.inr ⟨rfl, rfl⟩, ?_⟩ | refine ⟨.inr ⟨arrE (by first | rfl | (rw [List.map_append]; rfl)), rfl⟩, ?_⟩)) (by repeat' (first | exact trivial | refine ⟨⟨rfl, rfl⟩, ?_⟩)))
             · have := g2 x hx; simp only; omega
             · exact (by have := stepV_len who q (IntKind.i64.wrap (f + i)) s.o v; simp only at *; omega)
             · have hc : certain v w = true := by
                 rw [certain_iff]
                 cases v; cases w
                 simp_all
               rw [← h5, hda, hdb]
               simp only [sureF, hc, if_true]
               rw [ew, hown, show f + ((i + 1 : Nat) : Int) = f + i + 1 by omega])
          | (refine G_nextF (i + 1, k, q) ⟨by omega, by omega, fun x hx => ?_, ?_, ?_⟩ (by omega) (G_atL hC0 rfl rfl (by repeat' (first | exact trivial | refine ⟨⟨rfl, rfl⟩, ?_⟩ | refine ⟨⟨iv (by first | rfl | omega | (rw [w64 (by omega) (by omega)]; omega)), rfl⟩, ?_⟩)) (by repeat' (first | exact trivial | refine ⟨.inl rfl, ?_⟩ | refine ⟨.inr ⟨rfl, rfl⟩, ?_⟩ | refine ⟨.inr ⟨arrE (by first | rfl | (rw [List.map_append]; rfl)), rfl⟩, ?_⟩)) (by repeat' (first | exact trivial | refine ⟨⟨rfl, rfl⟩, ?_⟩)))
             · have := g2 x hx; simp only; omega
             · simp only at *; omega
             · have hc : certain v w = false := by
                 rw [← Bool.not_eq_true, certain_iff]
                 rintro ⟨rfl, e2⟩
                 simp_all
               rw [← h5, hda, hdb]
               simp only [sureF, hc]
               rw [show f + ((i + 1 : Nat) : Int) = f + i + 1 by omega]; rfl)
    · exfalso
      have hkl : k = line.length := by simp at * <;> omega
      rw [hkl, List.take_length] at g2
      have := endOf_le (T := f + i) (by omega) g2
      omega
  · refine G_leave_end ?_
    have hia : a.length ≤ i := by simp at * <;> omega
    rw [List.drop_eq_nil_of_le hia] at h5
    have h5 : q = sureF (stepV who) line f a b [] := by rw [← h5]; cases hbd : b.drop i <;> simp [sureF]
    rw [← h5]
    refine G_wk [] [(3, .loop [(25, sureFn line f a b), (9, .ptr 0 0), (13, .ptr 2 0)] No ps asg bdy .ready none), (0, .box [.int .i64 who]), (2, .box [.own 5]), (4, .dead), (5, seO q)] hC0 rfl rfl (by repeat' (first | exact trivial | refine ⟨⟨rfl, rfl⟩, ?_⟩ | refine ⟨⟨iv (by first | rfl | omega | (rw [w64 (by omega) (by omega)]; omega)), rfl⟩, ?_⟩)) (by repeat' (first | exact trivial | refine ⟨.inl rfl, ?_⟩ | refine ⟨.inr ⟨rfl, rfl⟩, ?_⟩ | refine ⟨.inr ⟨arrE (by first | rfl | (rw [List.map_append]; rfl)), rfl⟩, ?_⟩)) (by repeat' (first | exact trivial | refine ⟨⟨rfl, rfl⟩, ?_⟩)) ?_
    exact G_return Kx_ok rfl rfl

end Go.Proofs.YtmdbpbncdkdipaaDoor
namespace Go.Proofs.YtmdbpbncdkdipaaDoor
open Go.Asl
set_option maxRecDepth 100000
set_option maxHeartbeats 4000000
attribute [local irreducible] Go.Asl.wpG Go.Code.wpIn Go.Asl.DrawG Go.Asl.LvX Go.Asl.G
def pproven (line : List Spn) (f : Int) (a b : List Ver) (who : Int) : Option (List Spe) := if jvalid line f a b = true then some (sureF (stepV who) line f a b []) else none
theorem stepV_off {who t w : Int} {q : List Spe} {v : Ver} (h : ¬ (w = who ∧ v = ⟨1, IntKind.i64.wrap (who - 1)⟩)) : stepV who q t w v = q := if_neg h
theorem stepV_ext {who t : Int} {q : List Spe} {l : Spe} (hl : q.getLast? = some l) (ht : t = l.t) : stepV who q t who ⟨1, IntKind.i64.wrap (who - 1)⟩ = q.set (q.length - 1) ⟨l.f, IntKind.i64.wrap (l.t + 1)⟩ := by
  have hne : q ≠ [] := by rintro rfl; cases hl
  rw [stepV, if_pos ⟨rfl, rfl⟩, last_setE _ _ hne]
  simp only [extE, hl]
  rw [if_pos ht.symm, ht]
theorem stepV_new {who t : Int} {q : List Spe} (h : ∀ l, q.getLast? = some l → t ≠ l.t) : stepV who q t who ⟨1, IntKind.i64.wrap (who - 1)⟩ = q ++ [⟨t, IntKind.i64.wrap (t + 1)⟩] := by
  rw [stepV, if_pos ⟨rfl, rfl⟩]
  unfold extE
  split
  · rename_i l hl
    rw [if_neg (fun e => h l hl e.symm)]
  · rfl
theorem c_judge_Proven (line : List Spn) (f : Int) (a b : List Ver) (who : Int) (h1 : line.length ≤ 1000000000) (h2 : a.length ≤ 1000000000) (h3 : b.length ≤ 1000000000) :
    FnP Kx 18 [spL line, .int .i64 f, verL a, verL b, .int .i64 who] (.tup [seL ((pproven line f a b who).getD []), .int .i64 (errJ (pproven line f a b who))]) := by
  refine FnT_of_body ent18 Tryd.func18 rfl Tryd.ntmps18 rfl (fun C0 hC0 => ?_)
  repeat' (first | refine G_ops Kx_ok 6 rfl ?_ | refine G_op Kx_ok rfl ?_ | refine G_run rfl rfl rfl ?_ | refine G_nil ?_ | refine G_seq ?_ | refine G_region rfl ?_ | refine G_skip ?_ | refine G_block ?_ | refine G_drawn Kx_mixed rfl ?_ | refine D_ops Kx_ok 6 rfl ?_ | refine D_op Kx_ok rfl ?_ | refine D_nil rfl ?_ | refine G_cond_t rfl ?_ | refine G_cond_f rfl ?_ | refine G_exit ?_ | refine G_callP rfl rfl rfl rfl (c_judge_valid line f a b h1 h2 h3) rfl rfl rfl ?_ | refine D_call rfl rfl rfl rfl rfl (c_judge_valid line f a b h1 h2 h3) rfl rfl rfl rfl ?_ | refine G_callP rfl rfl rfl rfl (c_judge_sure line f a b) rfl rfl rfl ?_ | refine D_call rfl rfl rfl rfl rfl (c_judge_sure line f a b) rfl rfl rfl rfl ?_ | refine G_splitD rfl (fun h => ?_) (fun h => ?_) | refine D_splitD rfl (fun h => ?_) (fun h => ?_) | ((fail_if_success refine G_isL rfl rfl ?_); refine G_split rfl (fun h => ?_) (fun h => ?_)) | ((fail_if_success refine D_isL rfl rfl ?_); refine D_split rfl (fun h => ?_) (fun h => ?_)) | refine G_condD rfl (fun h => ?_) (fun h => ?_) | refine G_condN rfl (fun h => ?_) (fun h => ?_) | refine G_cond rfl (fun h => ?_) (fun h => ?_) | refine G_ret (G_leave ?_))
  · refine G_lst_nil (t := 10) rfl ?_
    refine G_return Kx_ok rfl ?_
    rw [pproven, if_neg (by simp_all)]; rfl
  · have hj : jvalid line f a b = true := by assumption
    refine G_box_nil (m := 2) (j := 0) 4 79 2 rfl rfl rfl ?_
    refine G_wk [(25, sureFn line f a b), (9, .ptr 0 0), (13, .ptr 2 0)] [(0, .box [.int .i64 who]), (2, .box [.own 4]), (4, seO [])] hC0 rfl rfl (by repeat' (first | exact trivial | refine ⟨⟨rfl, rfl⟩, ?_⟩ | refine ⟨⟨iv (by first | rfl | omega | (rw [w64 (by omega) (by omega)]; omega)), rfl⟩, ?_⟩)) (by repeat' (first | exact trivial | refine ⟨.inl rfl, ?_⟩ | refine ⟨.inr ⟨rfl, rfl⟩, ?_⟩ | refine ⟨.inr ⟨arrE (by first | rfl | (rw [List.map_append]; rfl)), rfl⟩, ?_⟩)) (by repeat' (first | exact trivial | refine ⟨⟨rfl, rfl⟩, ?_⟩)) ?_
    refine G_range 3 rfl rfl rfl ((c_sure_V line f a b who hj ?_).mono ?_)
    · intro q t w v hq
      refine YldT_of_body rfl rfl rfl ?_
      intro F _ n C1 l' hS hφ
      have hkn : C1.kn 3 := by show (C1.S 3).known = true; rw [hS]; rfl
      repeat' (first | refine G_ops Kx_ok 6 rfl ?_ | refine G_op Kx_ok rfl ?_ | refine G_run rfl rfl rfl ?_ | refine G_nil ?_ | refine G_seq ?_ | refine G_region rfl ?_ | refine G_skip ?_ | refine G_block ?_ | refine G_drawn Kx_mixed rfl ?_ | refine D_ops Kx_ok 6 rfl ?_ | refine D_op Kx_ok rfl ?_ | refine D_nil rfl ?_ | refine G_cond_t rfl ?_ | refine G_cond_f rfl ?_ | refine G_exit ?_ | refine G_splitD rfl (fun h => ?_) (fun h => ?_) | refine D_splitD rfl (fun h => ?_) (fun h => ?_) | ((fail_if_success refine G_isL rfl rfl ?_); refine G_split rfl (fun h => ?_) (fun h => ?_)) | ((fail_if_success refine D_isL rfl rfl ?_); refine D_split rfl (fun h => ?_) (fun h => ?_)) | refine G_condD rfl (fun h => ?_) (fun h => ?_) | refine G_condN rfl (fun h => ?_) (fun h => ?_) | refine G_cond rfl (fun h => ?_) (fun h => ?_) | refine G_ret (G_leave ?_))
      refine G_begin hφ hkn rfl ?_
      repeat' (first | refine G_ops Kx_ok 6 rfl ?_ | refine G_op Kx_ok rfl ?_ | refine G_run rfl rfl rfl ?_ | refine G_nil ?_ | refine G_seq ?_ | refine G_region rfl ?_ | refine G_skip ?_ | refine G_block ?_ | refine G_drawn Kx_mixed rfl ?_ | refine D_ops Kx_ok 6 rfl ?_ | refine D_op Kx_ok rfl ?_ | refine D_nil rfl ?_ | refine G_cond_t rfl ?_ | refine G_cond_f rfl ?_ | refine G_exit ?_ | refine G_eqS Kx_ok (neg := true) rfl rfl rfl rfl rfl rfl eqVer rfl ?_ | refine D_eqS Kx_ok true rfl rfl rfl rfl rfl rfl rfl eqVer rfl rfl ?_ | refine G_eqS Kx_ok (neg := false) rfl rfl rfl rfl rfl rfl eqVer rfl ?_ | refine D_eqS Kx_ok false rfl rfl rfl rfl rfl rfl rfl eqVer rfl rfl ?_ | refine G_splitD rfl (fun h => ?_) (fun h => ?_) | refine D_splitD rfl (fun h => ?_) (fun h => ?_) | ((fail_if_success refine G_isL rfl rfl ?_); refine G_split rfl (fun h => ?_) (fun h => ?_)) | ((fail_if_success refine D_isL rfl rfl ?_); refine D_split rfl (fun h => ?_) (fun h => ?_)) | refine G_condD rfl (fun h => ?_) (fun h => ?_) | refine G_condN rfl (fun h => ?_) (fun h => ?_) | refine G_cond rfl (fun h => ?_) (fun h => ?_))
      · rw [show stepV who q t w v = q from stepV_off (fun e => h e.1)]
        refine G_wk [] [(3, .loop [(25, sureFn line f a b), (9, .ptr 0 0), (13, .ptr 2 0)] _ _ _ _ .busy none), (0, .box [.int .i64 who]), (2, .box [.own 6]), (4, .dead), (5, .dead), (6, seO q)] hS rfl rfl (by repeat' (first | exact trivial | refine ⟨⟨rfl, rfl⟩, ?_⟩ | refine ⟨⟨iv (by first | rfl | omega | (rw [w64 (by omega) (by omega)]; omega)), rfl⟩, ?_⟩)) (by repeat' (first | exact trivial | refine ⟨.inl rfl, ?_⟩ | refine ⟨.inr ⟨rfl, rfl⟩, ?_⟩ | refine ⟨.inr ⟨arrE (by first | rfl | (rw [List.map_append]; rfl)), rfl⟩, ?_⟩)) (by repeat' (first | exact trivial | refine ⟨⟨rfl, rfl⟩, ?_⟩)) ?_
        exact G_round_onS [(3, .loop [(25, sureFn line f a b), (9, .ptr 0 0), (13, .ptr 2 0)] _ _ _ _ .ready none), (0, .box [.int .i64 who]), (2, .box [.own 6]), (4, .dead), (5, .dead), (6, seO q)] hφ hkn rfl (by repeat' (first | exact trivial | refine ⟨rfl, ?_⟩)) (by repeat' (first | exact trivial | refine ⟨rfl, ?_⟩)) ⟨rfl, rfl⟩
      · rw [show stepV who q t w v = q from stepV_off (fun e => by
          have e2 := e.2
          subst e2
          simp at h)]
        refine G_wk [] [(3, .loop [(25, sureFn line f a b), (9, .ptr 0 0), (13, .ptr 2 0)] _ _ _ _ .busy none), (0, .box [.int .i64 who]), (2, .box [.own 6]), (4, .dead), (5, .dead), (6, seO q)] hS rfl rfl (by repeat' (first | exact trivial | refine ⟨⟨rfl, rfl⟩, ?_⟩ | refine ⟨⟨iv (by first | rfl | omega | (rw [w64 (by omega) (by omega)]; omega)), rfl⟩, ?_⟩)) (by repeat' (first | exact trivial | refine ⟨.inl rfl, ?_⟩ | refine ⟨.inr ⟨rfl, rfl⟩, ?_⟩ | refine ⟨.inr ⟨arrE (by first | rfl | (rw [List.map_append]; rfl)), rfl⟩, ?_⟩)) (by repeat' (first | exact trivial | refine ⟨⟨rfl, rfl⟩, ?_⟩)) ?_
        exact G_round_onS [(3, .loop [(25, sureFn line f a b), (9, .ptr 0 0), (13, .ptr 2 0)] _ _ _ _ .ready none), (0, .box [.int .i64 who]), (2, .box [.own 6]), (4, .dead), (5, .dead), (6, seO q)] hφ hkn rfl (by repeat' (first | exact trivial | refine ⟨rfl, ?_⟩)) (by repeat' (first | exact trivial | refine ⟨rfl, ?_⟩)) ⟨rfl, rfl⟩
      · have hpos : 0 < q.length := by simp at * <;> omega
        have hw : who = w := by simp_all
        have hv : v = ⟨1, IntKind.i64.wrap (who - 1)⟩ := by
          obtain ⟨k1, k2⟩ := v
          simp_all
        subst hv
        subst hw
        obtain ⟨l, hget⟩ : ∃ l, q[q.length - 1]? = some l := ⟨q[q.length - 1], List.getElem?_eq_getElem (by omega)⟩
        have hgl : q.getLast? = some l := by rw [List.getLast?_eq_getElem?]; exact hget
        refine D_int (t := 57) (b := ((q.length - 1 : Nat) : Int)) rfl (by rw [w64] <;> simp <;> omega) ?_
        repeat' (first | refine G_ops Kx_ok 6 rfl ?_ | refine G_op Kx_ok rfl ?_ | refine G_run rfl rfl rfl ?_ | refine G_nil ?_ | refine G_seq ?_ | refine G_region rfl ?_ | refine G_skip ?_ | refine G_block ?_ | refine G_drawn Kx_mixed rfl ?_ | refine D_ops Kx_ok 6 rfl ?_ | refine D_op Kx_ok rfl ?_ | refine D_nil rfl ?_ | refine G_cond_t rfl ?_ | refine G_cond_f rfl ?_ | refine G_exit ?_ | refine G_load_elem Kx_ok rfl rfl rfl rfl (map_get (x := l) (by simpa using hget)) rfl rfl rfl rfl ?_ | refine D_load_elem Kx_ok rfl rfl rfl rfl rfl (map_get (x := l) (by simpa using hget)) rfl rfl rfl rfl rfl ?_ | refine G_store_elem Kx_ok rfl rfl rfl rfl (map_get (x := l) (by simpa using hget)) rfl rfl rfl rfl rfl rfl ?_ | refine D_store_elem Kx_ok rfl rfl rfl rfl rfl (map_get (x := l) (by simpa using hget)) rfl rfl rfl rfl rfl rfl rfl ?_ | refine G_index_own Kx_ok rfl rfl rfl rfl rfl rfl rfl (by omega) (by first | omega | (simp at * <;> omega)) rfl ?_ | refine D_index_own Kx_ok rfl rfl rfl rfl rfl rfl rfl rfl (by omega) (by first | omega | (simp at * <;> omega)) rfl rfl ?_ | refine G_appA Kx_ok rfl rfl rfl rfl rfl rfl rfl rfl rfl (fun zs e => by cases e <;> (intro y hy; obtain ⟨_, _, rfl⟩ := List.mem_map.1 hy; exact ⟨_, rfl, rfl⟩)) rfl (by first | omega | (simp at * <;> omega)) rfl rfl rfl ?_ | refine D_appA Kx_ok rfl rfl rfl rfl rfl rfl rfl rfl rfl rfl (fun zs e => by cases e <;> (intro y hy; obtain ⟨_, _, rfl⟩ := List.mem_map.1 hy; exact ⟨_, rfl, rfl⟩)) rfl (by first | omega | (simp at * <;> omega)) rfl rfl rfl rfl ?_ | refine G_appN Kx_ok rfl rfl rfl rfl rfl rfl rfl rfl (fun zs e => by cases e <;> (intro y hy; obtain ⟨_, _, rfl⟩ := List.mem_map.1 hy; exact ⟨_, rfl, rfl⟩)) rfl (by first | omega | (simp at * <;> omega)) rfl rfl rfl ?_ | refine D_appN Kx_ok rfl rfl rfl rfl rfl rfl rfl rfl rfl (fun zs e => by cases e <;> (intro y hy; obtain ⟨_, _, rfl⟩ := List.mem_map.1 hy; exact ⟨_, rfl, rfl⟩)) rfl (by first | omega | (simp at * <;> omega)) rfl rfl rfl rfl ?_ | refine G_splitD rfl (fun h => ?_) (fun h => ?_) | refine D_splitD rfl (fun h => ?_) (fun h => ?_) | ((fail_if_success refine G_isL rfl rfl ?_); refine G_split rfl (fun h => ?_) (fun h => ?_)) | ((fail_if_success refine D_isL rfl rfl ?_); refine D_split rfl (fun h => ?_) (fun h => ?_)) | refine G_condD rfl (fun h => ?_) (fun h => ?_) | refine G_condN rfl (fun h => ?_) (fun h => ?_) | refine G_cond rfl (fun h => ?_) (fun h => ?_))
        · refine G_int (t := 67) (b := ((q.length - 1 : Nat) : Int)) rfl (by rw [w64] <;> simp <;> omega) ?_
          repeat' (first | refine G_ops Kx_ok 6 rfl ?_ | refine G_op Kx_ok rfl ?_ | refine G_run rfl rfl rfl ?_ | refine G_nil ?_ | refine G_seq ?_ | refine G_region rfl ?_ | refine G_skip ?_ | refine G_block ?_ | refine G_drawn Kx_mixed rfl ?_ | refine D_ops Kx_ok 6 rfl ?_ | refine D_op Kx_ok rfl ?_ | refine D_nil rfl ?_ | refine G_cond_t rfl ?_ | refine G_cond_f rfl ?_ | refine G_exit ?_ | refine G_load_elem Kx_ok rfl rfl rfl rfl (map_get (x := l) (by simpa using hget)) rfl rfl rfl rfl ?_ | refine D_load_elem Kx_ok rfl rfl rfl rfl rfl (map_get (x := l) (by simpa using hget)) rfl rfl rfl rfl rfl ?_ | refine G_store_elem Kx_ok rfl rfl rfl rfl (map_get (x := l) (by simpa using hget)) rfl rfl rfl rfl rfl rfl ?_ | refine D_store_elem Kx_ok rfl rfl rfl rfl rfl (map_get (x := l) (by simpa using hget)) rfl rfl rfl rfl rfl rfl rfl ?_ | refine G_index_own Kx_ok rfl rfl rfl rfl rfl rfl rfl (by omega) (by first | omega | (simp at * <;> omega)) rfl ?_ | refine D_index_own Kx_ok rfl rfl rfl rfl rfl rfl rfl rfl (by omega) (by first | omega | (simp at * <;> omega)) rfl rfl ?_ | refine G_appA Kx_ok rfl rfl rfl rfl rfl rfl rfl rfl rfl (fun zs e => by cases e <;> (intro y hy; obtain ⟨_, _, rfl⟩ := List.mem_map.1 hy; exact ⟨_, rfl, rfl⟩)) rfl (by first | omega | (simp at * <;> omega)) rfl rfl rfl ?_ | refine D_appA Kx_ok rfl rfl rfl rfl rfl rfl rfl rfl rfl rfl (fun zs e => by cases e <;> (intro y hy; obtain ⟨_, _, rfl⟩ := List.mem_map.1 hy; exact ⟨_, rfl, rfl⟩)) rfl (by first | omega | (simp at * <;> omega)) rfl rfl rfl rfl ?_ | refine G_appN Kx_ok rfl rfl rfl rfl rfl rfl rfl rfl (fun zs e => by cases e <;> (intro y hy; obtain ⟨_, _, rfl⟩ := List.mem_map.1 hy; exact ⟨_, rfl, rfl⟩)) rfl (by first | omega | (simp at * <;> omega)) rfl rfl rfl ?_ | refine D_appN Kx_ok rfl rfl rfl rfl rfl rfl rfl rfl rfl (fun zs e => by cases e <;> (intro y hy; obtain ⟨_, _, rfl⟩ := List.mem_map.1 hy; exact ⟨_, rfl, rfl⟩)) rfl (by first | omega | (simp at * <;> omega)) rfl rfl rfl rfl ?_ | refine G_splitD rfl (fun h => ?_) (fun h => ?_) | refine D_splitD rfl (fun h => ?_) (fun h => ?_) | ((fail_if_success refine G_isL rfl rfl ?_); refine G_split rfl (fun h => ?_) (fun h => ?_)) | ((fail_if_success refine D_isL rfl rfl ?_); refine D_split rfl (fun h => ?_) (fun h => ?_)) | refine G_condD rfl (fun h => ?_) (fun h => ?_) | refine G_condN rfl (fun h => ?_) (fun h => ?_) | refine G_cond rfl (fun h => ?_) (fun h => ?_))
          refine G_arr (t := 5) (ys' := (q.set (q.length - 1) ⟨l.f, IntKind.i64.wrap (l.t + 1)⟩).map seA) rfl (map_setE q (q.length - 1) ⟨l.f, IntKind.i64.wrap (l.t + 1)⟩) ?_
          rw [stepV_ext hgl h.symm]
          refine G_wk [] [(3, .loop [(25, sureFn line f a b), (9, .ptr 0 0), (13, .ptr 2 0)] _ _ _ _ .busy none), (0, .box [.int .i64 who]), (2, .box [.own 6]), (4, .dead), (5, .dead), (6, seO (q.set (q.length - 1) ⟨l.f, IntKind.i64.wrap (l.t + 1)⟩))] hS rfl rfl (by repeat' (first | exact trivial | refine ⟨⟨rfl, rfl⟩, ?_⟩ | refine ⟨⟨iv (by first | rfl | omega | (rw [w64 (by omega) (by omega)]; omega)), rfl⟩, ?_⟩)) (by repeat' (first | exact trivial | refine ⟨.inl rfl, ?_⟩ | refine ⟨.inr ⟨rfl, rfl⟩, ?_⟩ | refine ⟨.inr ⟨arrE (by first | rfl | (rw [List.map_append]; rfl)), rfl⟩, ?_⟩)) (by repeat' (first | exact trivial | refine ⟨⟨rfl, rfl⟩, ?_⟩)) ?_
          exact G_round_onS [(3, .loop [(25, sureFn line f a b), (9, .ptr 0 0), (13, .ptr 2 0)] _ _ _ _ .ready none), (0, .box [.int .i64 who]), (2, .box [.own 6]), (4, .dead), (5, .dead), (6, seO (q.set (q.length - 1) ⟨l.f, IntKind.i64.wrap (l.t + 1)⟩))] hφ hkn rfl (by repeat' (first | exact trivial | refine ⟨rfl, ?_⟩)) (by repeat' (first | exact trivial | refine ⟨rfl, ?_⟩)) ⟨rfl, rfl⟩
        · rw [stepV_new (fun l' h' e => h (by rw [hgl] at h'; cases h'; exact e.symm))]
          refine G_wk [] [(3, .loop [(25, sureFn line f a b), (9, .ptr 0 0), (13, .ptr 2 0)] _ _ _ _ .busy none), (0, .box [.int .i64 who]), (2, .box [.own 6]), (4, .dead), (5, .dead), (6, seO (q ++ [⟨t, IntKind.i64.wrap (t + 1)⟩]))] hS rfl rfl (by repeat' (first | exact trivial | refine ⟨⟨rfl, rfl⟩, ?_⟩ | refine ⟨⟨iv (by first | rfl | omega | (rw [w64 (by omega) (by omega)]; omega)), rfl⟩, ?_⟩)) (by repeat' (first | exact trivial | refine ⟨.inl rfl, ?_⟩ | refine ⟨.inr ⟨rfl, rfl⟩, ?_⟩ | refine ⟨.inr ⟨arrE (by first | rfl | (rw [List.map_append]; rfl)), rfl⟩, ?_⟩)) (by repeat' (first | exact trivial | refine ⟨⟨rfl, rfl⟩, ?_⟩)) ?_
          exact G_round_onS [(3, .loop [(25, sureFn line f a b), (9, .ptr 0 0), (13, .ptr 2 0)] _ _ _ _ .ready none), (0, .box [.int .i64 who]), (2, .box [.own 6]), (4, .dead), (5, .dead), (6, seO (q ++ [⟨t, IntKind.i64.wrap (t + 1)⟩]))] hφ hkn rfl (by repeat' (first | exact trivial | refine ⟨rfl, ?_⟩)) (by repeat' (first | exact trivial | refine ⟨rfl, ?_⟩)) ⟨rfl, rfl⟩
      · have hq0 : q = [] := by cases q with
          | nil => rfl
          | cons a r => exfalso; simp at * <;> omega
        subst hq0
        have hw : who = w := by simp_all
        have hv : v = ⟨1, IntKind.i64.wrap (who - 1)⟩ := by
          obtain ⟨k1, k2⟩ := v
          simp_all
        subst hv
        subst hw
        repeat' (first | refine G_ops Kx_ok 6 rfl ?_ | refine G_op Kx_ok rfl ?_ | refine G_run rfl rfl rfl ?_ | refine G_nil ?_ | refine G_seq ?_ | refine G_region rfl ?_ | refine G_skip ?_ | refine G_block ?_ | refine G_drawn Kx_mixed rfl ?_ | refine D_ops Kx_ok 6 rfl ?_ | refine D_op Kx_ok rfl ?_ | refine D_nil rfl ?_ | refine G_cond_t rfl ?_ | refine G_cond_f rfl ?_ | refine G_exit ?_ | refine G_appA Kx_ok rfl rfl rfl rfl rfl rfl rfl rfl rfl (fun zs e => by cases e <;> (intro y hy; obtain ⟨_, _, rfl⟩ := List.mem_map.1 hy; exact ⟨_, rfl, rfl⟩)) rfl (by first | omega | (simp at * <;> omega)) rfl rfl rfl ?_ | refine D_appA Kx_ok rfl rfl rfl rfl rfl rfl rfl rfl rfl rfl (fun zs e => by cases e <;> (intro y hy; obtain ⟨_, _, rfl⟩ := List.mem_map.1 hy; exact ⟨_, rfl, rfl⟩)) rfl (by first | omega | (simp at * <;> omega)) rfl rfl rfl rfl ?_ | refine G_appN Kx_ok rfl rfl rfl rfl rfl rfl rfl rfl (fun zs e => by cases e <;> (intro y hy; obtain ⟨_, _, rfl⟩ := List.mem_map.1 hy; exact ⟨_, rfl, rfl⟩)) rfl (by first | omega | (simp at * <;> omega)) rfl rfl rfl ?_ | refine D_appN Kx_ok rfl rfl rfl rfl rfl rfl rfl rfl rfl (fun zs e => by cases e <;> (intro y hy; obtain ⟨_, _, rfl⟩ := List.mem_map.1 hy; exact ⟨_, rfl, rfl⟩)) rfl (by first | omega | (simp at * <;> omega)) rfl rfl rfl rfl ?_ | refine G_splitD rfl (fun h => ?_) (fun h => ?_) | refine D_splitD rfl (fun h => ?_) (fun h => ?_) | ((fail_if_success refine G_isL rfl rfl ?_); refine G_split rfl (fun h => ?_) (fun h => ?_)) | ((fail_if_success refine D_isL rfl rfl ?_); refine D_split rfl (fun h => ?_) (fun h => ?_)) | refine G_condD rfl (fun h => ?_) (fun h => ?_) | refine G_condN rfl (fun h => ?_) (fun h => ?_) | refine G_cond rfl (fun h => ?_) (fun h => ?_))
        rw [show stepV who [] t who ⟨1, IntKind.i64.wrap (who - 1)⟩ = [⟨t, IntKind.i64.wrap (t + 1)⟩] from stepV_new (fun l hl => by cases hl)]
        refine G_wk [] [(3, .loop [(25, sureFn line f a b), (9, .ptr 0 0), (13, .ptr 2 0)] _ _ _ _ .busy none), (0, .box [.int .i64 who]), (2, .box [.own 6]), (4, .dead), (5, .dead), (6, seO [⟨t, IntKind.i64.wrap (t + 1)⟩])] hS rfl rfl (by repeat' (first | exact trivial | refine ⟨⟨rfl, rfl⟩, ?_⟩ | refine ⟨⟨iv (by first | rfl | omega | (rw [w64 (by omega) (by omega)]; omega)), rfl⟩, ?_⟩)) (by repeat' (first | exact trivial | refine ⟨.inl rfl, ?_⟩ | refine ⟨.inr ⟨rfl, rfl⟩, ?_⟩ | refine ⟨.inr ⟨arrE (by first | rfl | (rw [List.map_append]; rfl)), rfl⟩, ?_⟩)) (by repeat' (first | exact trivial | refine ⟨⟨rfl, rfl⟩, ?_⟩)) ?_
        exact G_round_onS [(3, .loop [(25, sureFn line f a b), (9, .ptr 0 0), (13, .ptr 2 0)] _ _ _ _ .ready none), (0, .box [.int .i64 who]), (2, .box [.own 6]), (4, .dead), (5, .dead), (6, seO [⟨t, IntKind.i64.wrap (t + 1)⟩])] hφ hkn rfl (by repeat' (first | exact trivial | refine ⟨rfl, ?_⟩)) (by repeat' (first | exact trivial | refine ⟨rfl, ?_⟩)) ⟨rfl, rfl⟩
    · rintro _ M rfl
      refine ⟨.ready, none, rfl, by simp, ?_⟩
      dsimp only
      repeat' (first | refine G_ops Kx_ok 6 rfl ?_ | refine G_op Kx_ok rfl ?_ | refine G_run rfl rfl rfl ?_ | refine G_nil ?_ | refine G_seq ?_ | refine G_region rfl ?_ | refine G_skip ?_ | refine G_block ?_ | refine G_drawn Kx_mixed rfl ?_ | refine D_ops Kx_ok 6 rfl ?_ | refine D_op Kx_ok rfl ?_ | refine D_nil rfl ?_ | refine G_cond_t rfl ?_ | refine G_cond_f rfl ?_ | refine G_exit ?_ | refine G_splitD rfl (fun h => ?_) (fun h => ?_) | refine D_splitD rfl (fun h => ?_) (fun h => ?_) | ((fail_if_success refine G_isL rfl rfl ?_); refine G_split rfl (fun h => ?_) (fun h => ?_)) | ((fail_if_success refine D_isL rfl rfl ?_); refine D_split rfl (fun h => ?_) (fun h => ?_)) | refine G_condD rfl (fun h => ?_) (fun h => ?_) | refine G_condN rfl (fun h => ?_) (fun h => ?_) | refine G_cond rfl (fun h => ?_) (fun h => ?_) | refine G_ret (G_leave ?_))
      refine G_freeze (m := 5) 10 rfl rfl ?_
      refine G_marks rfl ?_
      refine G_return Kx_ok rfl ?_
      rw [pproven, if_pos hj]; rfl

end Go.Proofs.YtmdbpbncdkdipaaDoor
namespace Go.Proofs.YtmdbpbncdkdipaaDoor
open Go.Asl
set_option maxRecDepth 100000
set_option maxHeartbeats 4000000
attribute [local irreducible] Go.Asl.wpG Go.Code.wpIn Go.Asl.DrawG Go.Asl.LvX Go.Asl.G
theorem c_ref38_pick (c n : Int) (hc : R64 c) (hn : n ≠ 0) : FnP Kx 70 [.int .i64 c, .int .i64 n] (.int .i64 (pickI c n)) := by
  refine FnT_of_body ent70 Tryd.func70 rfl Tryd.ntmps70 rfl (fun C0 hC0 => ?_)
  obtain ⟨hc1, hc2⟩ := hc
  repeat' (first | refine G_ops Kx_ok 6 rfl ?_ | refine G_op Kx_ok rfl ?_ | refine G_run rfl rfl rfl ?_ | refine G_nil ?_ | refine G_seq ?_ | refine G_region rfl ?_ | refine G_skip ?_ | refine G_block ?_ | refine G_drawn Kx_mixed rfl ?_ | refine D_ops Kx_ok 6 rfl ?_ | refine D_op Kx_ok rfl ?_ | refine D_nil rfl ?_ | refine G_cond_t rfl ?_ | refine G_cond_f rfl ?_ | refine G_exit ?_ | refine G_rem rfl rfl rfl hn rfl ?_ | refine G_splitD rfl (fun h => ?_) (fun h => ?_) | refine D_splitD rfl (fun h => ?_) (fun h => ?_) | ((fail_if_success refine G_isL rfl rfl ?_); refine G_split rfl (fun h => ?_) (fun h => ?_)) | ((fail_if_success refine D_isL rfl rfl ?_); refine D_split rfl (fun h => ?_) (fun h => ?_)) | refine G_condD rfl (fun h => ?_) (fun h => ?_) | refine G_condN rfl (fun h => ?_) (fun h => ?_) | refine G_cond rfl (fun h => ?_) (fun h => ?_) | refine G_ret (G_leave ?_))
  · refine G_return Kx_ok rfl ?_
    have h' := ‹c < 0›
    simp only [resV, pickI, if_pos h']
    rw [w64 (n := c + 1) (by omega) (by omega), w64 (by omega) (by omega)]
    congr 2; omega
  · refine G_return Kx_ok rfl ?_
    have h' := ‹¬ c < 0›
    simp only [resV, pickI, if_neg h']
theorem c_law38_pick (c n : Int) (hc : R64 c) (hn : n ≠ 0) : FnP Kx 14 [.int .i64 c, .int .i64 n] (.int .i64 (pickI c n)) := by
  refine FnT_of_body ent14 Tryd.func14 rfl Tryd.ntmps14 rfl (fun C0 hC0 => ?_)
  obtain ⟨hc1, hc2⟩ := hc
  repeat' (first | refine G_ops Kx_ok 6 rfl ?_ | refine G_op Kx_ok rfl ?_ | refine G_run rfl rfl rfl ?_ | refine G_nil ?_ | refine G_seq ?_ | refine G_region rfl ?_ | refine G_skip ?_ | refine G_block ?_ | refine G_drawn Kx_mixed rfl ?_ | refine D_ops Kx_ok 6 rfl ?_ | refine D_op Kx_ok rfl ?_ | refine D_nil rfl ?_ | refine G_cond_t rfl ?_ | refine G_cond_f rfl ?_ | refine G_exit ?_ | refine G_rem rfl rfl rfl hn rfl ?_ | refine G_splitD rfl (fun h => ?_) (fun h => ?_) | refine D_splitD rfl (fun h => ?_) (fun h => ?_) | ((fail_if_success refine G_isL rfl rfl ?_); refine G_split rfl (fun h => ?_) (fun h => ?_)) | ((fail_if_success refine D_isL rfl rfl ?_); refine D_split rfl (fun h => ?_) (fun h => ?_)) | refine G_condD rfl (fun h => ?_) (fun h => ?_) | refine G_condN rfl (fun h => ?_) (fun h => ?_) | refine G_cond rfl (fun h => ?_) (fun h => ?_) | refine G_ret (G_leave ?_))
  · refine G_return Kx_ok rfl ?_
    have h' := ‹c < 0›
    simp only [resV, pickI, if_pos h']
    rw [w64 (n := c + 1) (by omega) (by omega), w64 (by omega) (by omega)]
    congr 2; omega
  · refine G_return Kx_ok rfl ?_
    have h' := ‹¬ c < 0›
    simp only [resV, pickI, if_neg h']
theorem verA_size (xs : List Ver) : ∀ y ∈ xs.map verA, ∃ cs, y.cells = some cs ∧ cs.length = 2 := by
  intro y hy
  obtain ⟨s, _, rfl⟩ := List.mem_map.1 hy
  exact ⟨_, rfl, rfl⟩
theorem c_law38_few (xs : List Ver) (hl : xs.length ≤ 9223372036854775807) : FnP Kx 12 [verL xs] (verL (xs.take 8)) := by
  refine FnT_of_body ent12 Tryd.func12 rfl Tryd.ntmps12 rfl (fun C0 hC0 => ?_)
  repeat' (first | refine G_ops Kx_ok 6 rfl ?_ | refine G_op Kx_ok rfl ?_ | refine G_run rfl rfl rfl ?_ | refine G_nil ?_ | refine G_seq ?_ | refine G_region rfl ?_ | refine G_skip ?_ | refine G_block ?_ | refine G_drawn Kx_mixed rfl ?_ | refine D_ops Kx_ok 6 rfl ?_ | refine D_op Kx_ok rfl ?_ | refine D_nil rfl ?_ | refine G_cond_t rfl ?_ | refine G_cond_f rfl ?_ | refine G_exit ?_ | refine G_slice Kx_ok rfl rfl rfl rfl rfl rfl (by omega) (by split <;> omega) (by simp; split <;> omega) (verA_size xs) rfl ?_ | refine G_splitD rfl (fun h => ?_) (fun h => ?_) | refine D_splitD rfl (fun h => ?_) (fun h => ?_) | ((fail_if_success refine G_isL rfl rfl ?_); refine G_split rfl (fun h => ?_) (fun h => ?_)) | ((fail_if_success refine D_isL rfl rfl ?_); refine D_split rfl (fun h => ?_) (fun h => ?_)) | refine G_condD rfl (fun h => ?_) (fun h => ?_) | refine G_condN rfl (fun h => ?_) (fun h => ?_) | refine G_cond rfl (fun h => ?_) (fun h => ?_) | refine G_ret (G_leave ?_))
  refine G_return Kx_ok rfl ?_
  simp only [resV, verL, List.map_take, List.length_map]
  congr 1
  by_cases h8 : 8 < (xs.length : Int)
  · rw [if_pos h8]; rfl
  · rw [if_neg h8]
    have e1 : xs.length ≤ 8 := by omega
    rw [List.take_of_length_le (l := xs.map verA) (i := 8) (by simpa using e1), List.take_of_length_le (by simp)]
    rfl
theorem c_ref38_Known : FnP Kx 17 [] (intL [0, 1, 2, 3, 4, 5]) := by
  refine FnT_of_body ent17 Tryd.func17 rfl Tryd.ntmps17 rfl (fun C0 hC0 => ?_)
  repeat' (first | refine G_opsF Kx_ok 6 rfl ?_ | refine G_opF Kx_ok rfl ?_ | refine G_run rfl rfl rfl ?_ | refine G_nil ?_ | refine G_seq ?_ | refine G_region rfl ?_ | refine G_skip ?_ | refine G_block ?_ | refine G_drawn Kx_mixed rfl ?_ | refine D_opsF Kx_ok 6 rfl ?_ | refine D_opF Kx_ok rfl ?_ | refine D_nil rfl ?_ | refine G_cond_t rfl ?_ | refine G_cond_f rfl ?_ | refine G_exit ?_ | refine G_splitD rfl (fun h => ?_) (fun h => ?_) | refine D_splitD rfl (fun h => ?_) (fun h => ?_) | ((fail_if_success refine G_isL rfl rfl ?_); refine G_split rfl (fun h => ?_) (fun h => ?_)) | ((fail_if_success refine D_isL rfl rfl ?_); refine D_split rfl (fun h => ?_) (fun h => ?_)) | refine G_condD rfl (fun h => ?_) (fun h => ?_) | refine G_condN rfl (fun h => ?_) (fun h => ?_) | refine G_cond rfl (fun h => ?_) (fun h => ?_) | refine G_ret (G_leave ?_))
  exact G_return Kx_ok rfl rfl
def verdV (w v : Int) : Ver := if pickI v 96 < 16 then ⟨3, 0⟩ else if pickI v 96 < 20 then ⟨4, 0⟩ else if pickI v 96 < 26 then ⟨1, pickI v 96 - 20⟩ else if pickI v 96 = 26 then ⟨2, 0⟩ else if 1 ≤ w ∧ w < 7 then ⟨1, w - 1⟩ else ⟨2, 0⟩
theorem c_ref38_verdict (w v : Int) (hv : R64 v) : FnP Kx 43 [.int .i64 w, .int .i64 v] (verA (verdV w v)) := by
  refine FnT_of_body ent43 Tryd.func43 rfl Tryd.ntmps43 rfl (fun C0 hC0 => ?_)
  have hp := pickI_range v 96 (by omega)
  repeat' (first | refine G_ops Kx_ok 6 rfl ?_ | refine G_op Kx_ok rfl ?_ | refine G_run rfl rfl rfl ?_ | refine G_nil ?_ | refine G_seq ?_ | refine G_region rfl ?_ | refine G_skip ?_ | refine G_block ?_ | refine G_drawn Kx_mixed rfl ?_ | refine D_ops Kx_ok 6 rfl ?_ | refine D_op Kx_ok rfl ?_ | refine D_nil rfl ?_ | refine G_cond_t rfl ?_ | refine G_cond_f rfl ?_ | refine G_exit ?_ | refine G_callP rfl rfl rfl rfl (c_ref38_pick v 96 hv (by omega)) rfl rfl rfl ?_ | refine D_call rfl rfl rfl rfl rfl (c_ref38_pick v 96 hv (by omega)) rfl rfl rfl rfl ?_ | refine G_splitD rfl (fun h => ?_) (fun h => ?_) | refine D_splitD rfl (fun h => ?_) (fun h => ?_) | ((fail_if_success refine G_isL rfl rfl ?_); refine G_split rfl (fun h => ?_) (fun h => ?_)) | ((fail_if_success refine D_isL rfl rfl ?_); refine D_split rfl (fun h => ?_) (fun h => ?_)) | refine G_condD rfl (fun h => ?_) (fun h => ?_) | refine G_condN rfl (fun h => ?_) (fun h => ?_) | refine G_cond rfl (fun h => ?_) (fun h => ?_) | refine G_ret (G_leave ?_))
  all_goals refine G_return Kx_ok rfl ?_
  all_goals simp only [resV, verA, verdV]
  · rw [if_pos h]
  · rw [if_neg (by omega), if_pos h]
  · rw [if_neg (by omega), if_neg (by omega), if_pos h, w64 (by omega) (by omega)]
  · rw [if_neg (by omega), if_neg (by omega), if_neg (by omega), if_pos h]
  · rw [if_neg (by omega), if_neg (by omega), if_neg (by omega), if_neg (by omega), if_pos (by omega), w64 (by omega) (by omega)]
  · rw [if_neg (by omega), if_neg (by omega), if_neg (by omega), if_neg (by omega), if_neg (by omega)]
  · rw [if_neg (by omega), if_neg (by omega), if_neg (by omega), if_neg (by omega), if_neg (by omega)]
/-- Who owns a second, as the reference tells it. -/
def atW (line : List Spn) (t : Int) : Int := if valid line = true then ownAt line t else 0
def atE (line : List Spn) (t : Int) : Int := if valid line = true ∧ (line.find? (hit t)).isSome = true then 0 else 150
theorem atR_eq (line : List Spn) (t : Int) : atR (rvalid line) line t = .tup [.int .i64 (atW line t), .int .i64 (atE line t)] := by
  rw [valid_eq]
  unfold atR atW atE ownAt
  cases hv : valid line with
  | false => simp
  | true => cases hf : line.find? (hit t) <;> simp
abbrev Duo := Int × Int
def duoA (p : Duo) : AV := .agg [.int .i64 p.1, .int .i64 p.2]
def duoL (xs : List Duo) : AV := .lst (xs.map duoA)
def R64d (p : Duo) : Prop := R64 p.1 ∧ R64 p.2
def evidA (line : List Spn) (raw : List Duo) (n : Nat) : List Ver := (List.range n).map (fun (i : Nat) => verdV (atW line i) (raw.getD i (0, 0)).1)
def evidB (line : List Spn) (raw : List Duo) (n : Nat) : List Ver := (List.range n).map (fun (i : Nat) => verdV (atW line i) (raw.getD i (0, 0)).2)
def evN (line : List Spn) (raw : List Duo) : Nat := min (min raw.length 60) (if valid line = true then endOf line else -1).toNat
theorem evidA_succ {line : List Spn} {raw : List Duo} {i : Nat} {p : Duo} (h : raw[i]? = some p) : evidA line raw (i + 1) = evidA line raw i ++ [verdV (atW line i) p.1] := by
  simp [evidA, List.range_succ, List.getD_eq_getElem?_getD, h]
theorem evidB_succ {line : List Spn} {raw : List Duo} {i : Nat} {p : Duo} (h : raw[i]? = some p) : evidB line raw (i + 1) = evidB line raw i ++ [verdV (atW line i) p.2] := by
  simp [evidB, List.range_succ, List.getD_eq_getElem?_getD, h]
def verO (xs : List Ver) : AObj := .arr 54 2 (xs.map verA)
theorem c_ref38_Evidence (line : List Spn) (raw : List Duo) (hl : line.length ≤ 1000000000) (hr : ∀ p ∈ raw, R64d p) (hrl : raw.length ≤ 9223372036854775807) :
    FnP Kx 11 [spL line, duoL raw] (.tup [verL (evidA line raw (evN line raw)), verL (evidB line raw (evN line raw))]) := by
  refine FnT_of_body ent11 Tryd.func11 rfl Tryd.ntmps11 rfl (fun C0 hC0 => ?_)
  repeat' (first | refine G_ops Kx_ok 6 rfl ?_ | refine G_op Kx_ok rfl ?_ | refine G_run rfl rfl rfl ?_ | refine G_nil ?_ | refine G_seq ?_ | refine G_region rfl ?_ | refine G_skip ?_ | refine G_block ?_ | refine G_drawn Kx_mixed rfl ?_ | refine D_ops Kx_ok 6 rfl ?_ | refine D_op Kx_ok rfl ?_ | refine D_nil rfl ?_ | refine G_cond_t rfl ?_ | refine G_cond_f rfl ?_ | refine G_exit ?_ | refine G_splitD rfl (fun h => ?_) (fun h => ?_) | refine D_splitD rfl (fun h => ?_) (fun h => ?_) | ((fail_if_success refine G_isL rfl rfl ?_); refine G_split rfl (fun h => ?_) (fun h => ?_)) | ((fail_if_success refine D_isL rfl rfl ?_); refine D_split rfl (fun h => ?_) (fun h => ?_)) | refine G_condD rfl (fun h => ?_) (fun h => ?_) | refine G_condN rfl (fun h => ?_) (fun h => ?_) | refine G_cond rfl (fun h => ?_) (fun h => ?_) | refine G_ret (G_leave ?_))
  refine G_own_nil (t := 6) 1 54 2 rfl rfl ?_
  refine G_own_nil (t := 7) 2 54 2 rfl rfl ?_
  refine G_weakE [(6, .own 1), (7, .own 2), (0, spL line), (1, duoL raw), (8, .int .i64 0)] (by repeat' (first | exact trivial | refine ⟨rfl, ?_⟩ | refine ⟨iv (by first | rfl | omega | (rw [w64 (by omega) (by omega)]; omega)), ?_⟩)) ?_
  refine G_loopF (fun (i : Nat) => [(6, .own 1), (7, .own 2), (8, .int .i64 i)]) (fun i => [(1, verO (evidA line raw i)), (2, verO (evidB line raw i))])
    (fun i => i ≤ raw.length ∧ i ≤ 60 ∧ i ≤ (if valid line = true then endOf line else -1).toNat) (fun i => raw.length - i) 0 rfl ⟨by simp, by simp, by simp⟩ (G_atL hC0 rfl rfl (by repeat' (first | exact trivial | refine ⟨⟨rfl, rfl⟩, ?_⟩ | refine ⟨⟨iv (by first | rfl | omega | (rw [w64 (by omega) (by omega)]; omega)), rfl⟩, ?_⟩)) (by repeat' (first | exact trivial | refine ⟨.inl rfl, ?_⟩ | refine ⟨.inr ⟨rfl, rfl⟩, ?_⟩ | refine ⟨.inr ⟨arrE (by first | rfl | (rw [List.map_append]; rfl)), rfl⟩, ?_⟩)) (by repeat' (first | exact trivial | refine ⟨⟨rfl, rfl⟩, ?_⟩))) ?_
  rintro i ⟨g1, g2, g3⟩
  dsimp only [List.cons_append, List.nil_append] at *
  repeat' (first | refine G_ops Kx_ok 6 rfl ?_ | refine G_op Kx_ok rfl ?_ | refine G_run rfl rfl rfl ?_ | refine G_nil ?_ | refine G_seq ?_ | refine G_region rfl ?_ | refine G_skip ?_ | refine G_block ?_ | refine G_drawn Kx_mixed rfl ?_ | refine D_ops Kx_ok 6 rfl ?_ | refine D_op Kx_ok rfl ?_ | refine D_nil rfl ?_ | refine G_cond_t rfl ?_ | refine G_cond_f rfl ?_ | refine G_exit ?_ | refine G_callP rfl rfl rfl rfl ((c_ref15_End line (by omega)).eq (by rw [valid_eq])) rfl rfl rfl ?_ | refine D_call rfl rfl rfl rfl rfl ((c_ref15_End line (by omega)).eq (by rw [valid_eq])) rfl rfl rfl rfl ?_ | refine G_splitD rfl (fun h => ?_) (fun h => ?_) | refine D_splitD rfl (fun h => ?_) (fun h => ?_) | ((fail_if_success refine G_isL rfl rfl ?_); refine G_split rfl (fun h => ?_) (fun h => ?_)) | ((fail_if_success refine D_isL rfl rfl ?_); refine D_split rfl (fun h => ?_) (fun h => ?_)) | refine G_condD rfl (fun h => ?_) (fun h => ?_) | refine G_condN rfl (fun h => ?_) (fun h => ?_) | refine G_cond rfl (fun h => ?_) (fun h => ?_) | refine G_ret (G_leave ?_))
  · obtain ⟨p, hp, hd⟩ := drop_get (xs := raw) (i := i) (by simp at * <;> omega)
    have hlt : i < raw.length := by simp at * <;> omega
    obtain ⟨r1, r2⟩ := hr p (List.mem_of_getElem? hp)
    have lA : (evidA line raw i).length = i := by simp [evidA]
    have lB : (evidB line raw i).length = i := by simp [evidB]
    repeat' (first | refine G_ops Kx_ok 6 rfl ?_ | refine G_op Kx_ok rfl ?_ | refine G_run rfl rfl rfl ?_ | refine G_nil ?_ | refine G_seq ?_ | refine G_region rfl ?_ | refine G_skip ?_ | refine G_block ?_ | refine G_drawn Kx_mixed rfl ?_ | refine D_ops Kx_ok 6 rfl ?_ | refine D_op Kx_ok rfl ?_ | refine D_nil rfl ?_ | refine G_cond_t rfl ?_ | refine G_cond_f rfl ?_ | refine G_exit ?_ | (refine G_index_lst Kx_ok rfl rfl rfl rfl rfl (map_get (x := p) (by simpa using hp)) (by omega) rfl rfl rfl ?_) | (refine D_index_lst Kx_ok _ rfl rfl rfl rfl rfl rfl (map_get (x := p) (by simpa using hp)) (by omega) rfl rfl rfl rfl ?_) | refine G_appA Kx_ok rfl rfl rfl rfl rfl rfl rfl rfl rfl (fun zs e => by cases e <;> (intro y hy; obtain ⟨_, _, rfl⟩ := List.mem_map.1 hy; exact ⟨_, rfl, rfl⟩)) rfl (by simp at * <;> omega) rfl rfl rfl ?_ | refine D_appA Kx_ok rfl rfl rfl rfl rfl rfl rfl rfl rfl rfl (fun zs e => by cases e <;> (intro y hy; obtain ⟨_, _, rfl⟩ := List.mem_map.1 hy; exact ⟨_, rfl, rfl⟩)) rfl (by simp at * <;> omega) rfl rfl rfl rfl ?_ | refine G_appN Kx_ok rfl rfl rfl rfl rfl rfl rfl rfl (fun zs e => by cases e <;> (intro y hy; obtain ⟨_, _, rfl⟩ := List.mem_map.1 hy; exact ⟨_, rfl, rfl⟩)) rfl (by simp at * <;> omega) rfl rfl rfl ?_ | refine D_appN Kx_ok rfl rfl rfl rfl rfl rfl rfl rfl rfl (fun zs e => by cases e <;> (intro y hy; obtain ⟨_, _, rfl⟩ := List.mem_map.1 hy; exact ⟨_, rfl, rfl⟩)) rfl (by simp at * <;> omega) rfl rfl rfl rfl ?_ | refine G_callP rfl rfl rfl rfl ((c_ref15_At line i (by omega)).eq (atR_eq line i)) rfl rfl rfl ?_ | refine D_call rfl rfl rfl rfl rfl ((c_ref15_At line i (by omega)).eq (atR_eq line i)) rfl rfl rfl rfl ?_ | refine G_callP rfl rfl rfl rfl (c_ref38_verdict (atW line i) p.1 r1) rfl rfl rfl ?_ | refine D_call rfl rfl rfl rfl rfl (c_ref38_verdict (atW line i) p.1 r1) rfl rfl rfl rfl ?_ | refine G_callP rfl rfl rfl rfl (c_ref38_verdict (atW line i) p.2 r2) rfl rfl rfl ?_ | refine D_call rfl rfl rfl rfl rfl (c_ref38_verdict (atW line i) p.2 r2) rfl rfl rfl rfl ?_ | refine G_splitD rfl (fun h => ?_) (fun h => ?_) | refine D_splitD rfl (fun h => ?_) (fun h => ?_) | ((fail_if_success refine G_isL rfl rfl ?_); refine G_split rfl (fun h => ?_) (fun h => ?_)) | ((fail_if_success refine D_isL rfl rfl ?_); refine D_split rfl (fun h => ?_) (fun h => ?_)) | refine G_condD rfl (fun h => ?_) (fun h => ?_) | refine G_condN rfl (fun h => ?_) (fun h => ?_) | refine G_cond rfl (fun h => ?_) (fun h => ?_) | refine G_ret (G_leave ?_))
    refine G_nextF (i + 1) ⟨by omega, by omega, by omega⟩ (by omega) ?_
    rw [evidA_succ hp, evidB_succ hp]
    exact (G_atL hC0 rfl rfl (by repeat' (first | exact trivial | refine ⟨⟨rfl, rfl⟩, ?_⟩ | refine ⟨⟨iv (by first | rfl | omega | (rw [w64 (by omega) (by omega)]; omega)), rfl⟩, ?_⟩)) (by repeat' (first | exact trivial | refine ⟨.inl rfl, ?_⟩ | refine ⟨.inr ⟨rfl, rfl⟩, ?_⟩ | refine ⟨.inr ⟨arrE (by first | rfl | (rw [List.map_append]; rfl)), rfl⟩, ?_⟩)) (by repeat' (first | exact trivial | refine ⟨⟨rfl, rfl⟩, ?_⟩)))
  all_goals have hn : i = evN line raw := by simp only [evN, List.length_map] at *; omega
  all_goals subst hn
  all_goals refine G_freeze (m := 1) 4 rfl rfl ?_
  all_goals refine G_freeze (m := 2) 5 rfl rfl ?_
  all_goals exact G_return Kx_ok rfl rfl

end Go.Proofs.YtmdbpbncdkdipaaDoor
namespace Go.Proofs.YtmdbpbncdkdipaaDoor
open Go.Asl
set_option maxRecDepth 100000
set_option maxHeartbeats 4000000
attribute [local irreducible] Go.Asl.wpG Go.Code.wpIn Go.Asl.DrawG Go.Asl.LvX Go.Asl.G
structure Rec where
  t : Int
  k : Int
  a : Int
  b : Int
  s : ByteArray
def recA (r : Rec) : AV := .agg [.int .i64 r.t, .int .i64 r.k, .int .i64 r.a, .int .i64 r.b, .str r.s]
def recL (xs : List Rec) : AV := .lst (xs.map recA)
def recO (xs : List Rec) : AObj := .arr 66 5 (xs.map recA)
def logA (st : Int) (rs : List Rec) : AV := .agg [.int .i64 st, recL rs]
theorem c_logbook_isIn (n l u : Int) : FnP Kx 60 [.int .i64 n, .int .i64 l, .int .i64 u] (.bool (decide (l ≤ n) && decide (n ≤ u))) := by
  refine FnT_of_body ent60 Tryd.func60 rfl Tryd.ntmps60 rfl (fun C0 hC0 => ?_)
  repeat' (first | refine G_ops Kx_ok 6 rfl ?_ | refine G_op Kx_ok rfl ?_ | refine G_run rfl rfl rfl ?_ | refine G_nil ?_ | refine G_seq ?_ | refine G_region rfl ?_ | refine G_skip ?_ | refine G_block ?_ | refine G_drawn Kx_mixed rfl ?_ | refine D_ops Kx_ok 6 rfl ?_ | refine D_op Kx_ok rfl ?_ | refine D_nil rfl ?_ | refine G_cond_t rfl ?_ | refine G_cond_f rfl ?_ | refine G_exit ?_ | refine G_splitD rfl (fun h => ?_) (fun h => ?_) | refine D_splitD rfl (fun h => ?_) (fun h => ?_) | ((fail_if_success refine G_isL rfl rfl ?_); refine G_split rfl (fun h => ?_) (fun h => ?_)) | ((fail_if_success refine D_isL rfl rfl ?_); refine D_split rfl (fun h => ?_) (fun h => ?_)) | refine G_condD rfl (fun h => ?_) (fun h => ?_) | refine G_condN rfl (fun h => ?_) (fun h => ?_) | refine G_cond rfl (fun h => ?_) (fun h => ?_) | refine G_ret (G_leave ?_))
  all_goals refine G_return Kx_ok rfl ?_
  all_goals simp_all [resV]
  all_goals omega
def recOk (r : Rec) : Bool := decide (0 ≤ r.t) && decide (r.t ≤ 10000000) && decide (1 ≤ r.k) && decide (r.k ≤ 20) && decide (-1 ≤ r.a) && decide (r.a ≤ 99999999) && decide (-1 ≤ r.b) && decide (r.b ≤ 99999999) && decide (r.s.size ≤ 200)
theorem recOk_iff (r : Rec) : recOk r = true ↔ 0 ≤ r.t ∧ r.t ≤ 10000000 ∧ 1 ≤ r.k ∧ r.k ≤ 20 ∧ -1 ≤ r.a ∧ r.a ≤ 99999999 ∧ -1 ≤ r.b ∧ r.b ≤ 99999999 ∧ r.s.size ≤ 200 := by
  unfold recOk
  simp only [Bool.and_eq_true, decide_eq_true_eq, and_assoc]
theorem c_logbook_isRecord (r : Rec) : FnP Kx 59 [recA r] (.bool (recOk r)) := by
  refine FnT_of_body ent59 Tryd.func59 rfl Tryd.ntmps59 rfl (fun C0 hC0 => ?_)
  repeat' (first | refine G_ops Kx_ok 6 rfl ?_ | refine G_op Kx_ok rfl ?_ | refine G_run rfl rfl rfl ?_ | refine G_nil ?_ | refine G_seq ?_ | refine G_region rfl ?_ | refine G_skip ?_ | refine G_block ?_ | refine G_drawn Kx_mixed rfl ?_ | refine D_ops Kx_ok 6 rfl ?_ | refine D_op Kx_ok rfl ?_ | refine D_nil rfl ?_ | refine G_cond_t rfl ?_ | refine G_cond_f rfl ?_ | refine G_exit ?_ | refine G_callP rfl rfl rfl rfl (c_logbook_isIn r.t 0 10000000) rfl rfl rfl ?_ | refine D_call rfl rfl rfl rfl rfl (c_logbook_isIn r.t 0 10000000) rfl rfl rfl rfl ?_ | refine G_callP rfl rfl rfl rfl (c_logbook_isIn r.k 1 20) rfl rfl rfl ?_ | refine D_call rfl rfl rfl rfl rfl (c_logbook_isIn r.k 1 20) rfl rfl rfl rfl ?_ | refine G_callP rfl rfl rfl rfl (c_logbook_isIn r.a (-1) 99999999) rfl rfl rfl ?_ | refine D_call rfl rfl rfl rfl rfl (c_logbook_isIn r.a (-1) 99999999) rfl rfl rfl rfl ?_ | refine G_callP rfl rfl rfl rfl (c_logbook_isIn r.b (-1) 99999999) rfl rfl rfl ?_ | refine D_call rfl rfl rfl rfl rfl (c_logbook_isIn r.b (-1) 99999999) rfl rfl rfl rfl ?_ | refine G_splitD rfl (fun h => ?_) (fun h => ?_) | refine D_splitD rfl (fun h => ?_) (fun h => ?_) | ((fail_if_success refine G_isL rfl rfl ?_); refine G_split rfl (fun h => ?_) (fun h => ?_)) | ((fail_if_success refine D_isL rfl rfl ?_); refine D_split rfl (fun h => ?_) (fun h => ?_)) | refine G_condD rfl (fun h => ?_) (fun h => ?_) | refine G_condN rfl (fun h => ?_) (fun h => ?_) | refine G_cond rfl (fun h => ?_) (fun h => ?_) | refine G_ret (G_leave ?_))
  all_goals refine G_return Kx_ok rfl ?_
  all_goals simp only [resV, AV.bool.injEq]
  all_goals rw [Bool.eq_iff_iff, recOk_iff]
  all_goals simp only [Bool.and_eq_true, Bool.and_eq_false_iff, decide_eq_true_eq, decide_eq_false_iff_not, Bool.false_eq_true, false_iff] at *
  all_goals omega
def lvalidG (w : Int) : List Rec → Bool
  | [] => true
  | r :: rs => recOk r && decide (w ≤ r.t) && lvalidG r.t rs
def logOk (st : Int) (rs : List Rec) : Bool := lvalidG 0 rs && (decide (0 ≤ st) && decide (st ≤ 99)) && decide (rs.length ≤ 60)
theorem c_logbook_Valid (st : Int) (rs : List Rec) (hl : rs.length ≤ 4611686018427387904) : FnP Kx 32 [logA st rs] (.bool (logOk st rs)) := by
  refine FnT_of_body ent32 Tryd.func32 rfl Tryd.ntmps32 rfl (fun C0 hC0 => ?_)
  repeat' (first | refine G_ops Kx_ok 6 rfl ?_ | refine G_op Kx_ok rfl ?_ | refine G_run rfl rfl rfl ?_ | refine G_nil ?_ | refine G_seq ?_ | refine G_region rfl ?_ | refine G_skip ?_ | refine G_block ?_ | refine G_drawn Kx_mixed rfl ?_ | refine D_ops Kx_ok 6 rfl ?_ | refine D_op Kx_ok rfl ?_ | refine D_nil rfl ?_ | refine G_cond_t rfl ?_ | refine G_cond_f rfl ?_ | refine G_exit ?_ | refine G_splitD rfl (fun h => ?_) (fun h => ?_) | refine D_splitD rfl (fun h => ?_) (fun h => ?_) | ((fail_if_success refine G_isL rfl rfl ?_); refine G_split rfl (fun h => ?_) (fun h => ?_)) | ((fail_if_success refine D_isL rfl rfl ?_); refine D_split rfl (fun h => ?_) (fun h => ?_)) | refine G_condD rfl (fun h => ?_) (fun h => ?_) | refine G_condN rfl (fun h => ?_) (fun h => ?_) | refine G_cond rfl (fun h => ?_) (fun h => ?_) | refine G_ret (G_leave ?_))
  refine G_loopF (fun (p : Nat × Int) => [(3, .int .i64 p.2), (9, .int .i64 p.1)]) (fun _ => [(0, .box [.int .i64 st, recL rs])]) (fun p => p.1 ≤ rs.length ∧ lvalidG p.2 (rs.drop p.1) = lvalidG 0 rs) (fun p => rs.length - p.1) (0, 0) rfl ⟨by simp, rfl⟩ (G_atL hC0 rfl rfl (by repeat' (first | exact trivial | refine ⟨⟨rfl, rfl⟩, ?_⟩ | refine ⟨⟨iv (by first | rfl | omega | (rw [w64 (by omega) (by omega)]; omega)), rfl⟩, ?_⟩)) (by repeat' (first | exact trivial | refine ⟨.inl rfl, ?_⟩ | refine ⟨.inr ⟨rfl, rfl⟩, ?_⟩ | refine ⟨.inr ⟨arrE (by first | rfl | (rw [List.map_append]; rfl)), rfl⟩, ?_⟩)) (by repeat' (first | exact trivial | refine ⟨⟨rfl, rfl⟩, ?_⟩))) ?_
  rintro ⟨i, w⟩ ⟨h1, h2⟩
  dsimp only [List.cons_append, List.nil_append] at *
  repeat' (first | refine G_ops Kx_ok 6 rfl ?_ | refine G_op Kx_ok rfl ?_ | refine G_run rfl rfl rfl ?_ | refine G_nil ?_ | refine G_seq ?_ | refine G_region rfl ?_ | refine G_skip ?_ | refine G_block ?_ | refine G_drawn Kx_mixed rfl ?_ | refine D_ops Kx_ok 6 rfl ?_ | refine D_op Kx_ok rfl ?_ | refine D_nil rfl ?_ | refine G_cond_t rfl ?_ | refine G_cond_f rfl ?_ | refine G_exit ?_ | refine G_splitD rfl (fun h => ?_) (fun h => ?_) | refine D_splitD rfl (fun h => ?_) (fun h => ?_) | ((fail_if_success refine G_isL rfl rfl ?_); refine G_split rfl (fun h => ?_) (fun h => ?_)) | ((fail_if_success refine D_isL rfl rfl ?_); refine D_split rfl (fun h => ?_) (fun h => ?_)) | refine G_condD rfl (fun h => ?_) (fun h => ?_) | refine G_condN rfl (fun h => ?_) (fun h => ?_) | refine G_cond rfl (fun h => ?_) (fun h => ?_) | refine G_ret (G_leave ?_))
  · obtain ⟨r, hr, hd⟩ := drop_get (xs := rs) (i := i) (by simp at * <;> omega)
    have hlt : i < rs.length := by simp at * <;> omega
    rw [hd] at h2
    have hres : (recOk r = true → r.t < w) → AV.bool false = .bool (logOk st rs) := by
      intro h
      have h3 : lvalidG 0 rs = false := by
        rw [← h2, ← Bool.not_eq_true]
        simp only [lvalidG, Bool.and_eq_true, decide_eq_true_eq]
        intro q
        have := h q.1.1
        omega
      rw [logOk, h3]; rfl
    repeat' (first | refine G_ops Kx_ok 6 rfl ?_ | refine G_op Kx_ok rfl ?_ | refine G_run rfl rfl rfl ?_ | refine G_nil ?_ | refine G_seq ?_ | refine G_region rfl ?_ | refine G_skip ?_ | refine G_block ?_ | refine G_drawn Kx_mixed rfl ?_ | refine D_ops Kx_ok 6 rfl ?_ | refine D_op Kx_ok rfl ?_ | refine D_nil rfl ?_ | refine G_cond_t rfl ?_ | refine G_cond_f rfl ?_ | refine G_exit ?_ | (refine G_index_lst Kx_ok rfl rfl rfl rfl rfl (map_get (x := r) (by simpa using hr)) (by omega) rfl rfl rfl ?_) | (refine D_index_lst Kx_ok _ rfl rfl rfl rfl rfl rfl (map_get (x := r) (by simpa using hr)) (by omega) rfl rfl rfl rfl ?_) | refine G_callP rfl rfl rfl rfl (c_logbook_isRecord r) rfl rfl rfl ?_ | refine D_call rfl rfl rfl rfl rfl (c_logbook_isRecord r) rfl rfl rfl rfl ?_ | refine G_splitD rfl (fun h => ?_) (fun h => ?_) | refine D_splitD rfl (fun h => ?_) (fun h => ?_) | ((fail_if_success refine G_isL rfl rfl ?_); refine G_split rfl (fun h => ?_) (fun h => ?_)) | ((fail_if_success refine D_isL rfl rfl ?_); refine D_split rfl (fun h => ?_) (fun h => ?_)) | refine G_condD rfl (fun h => ?_) (fun h => ?_) | refine G_condN rfl (fun h => ?_) (fun h => ?_) | refine G_cond rfl (fun h => ?_) (fun h => ?_) | refine G_ret (G_leave ?_))
    · exact G_return Kx_ok rfl (hres (fun q => by simp_all))
    · exact G_return Kx_ok rfl (hres (fun q => h))
    · refine G_nextF (i + 1, r.t) ⟨by omega, ?_⟩ (by omega) (G_atL hC0 rfl rfl (by repeat' (first | exact trivial | refine ⟨⟨rfl, rfl⟩, ?_⟩ | refine ⟨⟨iv (by first | rfl | omega | (rw [w64 (by omega) (by omega)]; omega)), rfl⟩, ?_⟩)) (by repeat' (first | exact trivial | refine ⟨.inl rfl, ?_⟩ | refine ⟨.inr ⟨rfl, rfl⟩, ?_⟩ | refine ⟨.inr ⟨arrE (by first | rfl | (rw [List.map_append]; rfl)), rfl⟩, ?_⟩)) (by repeat' (first | exact trivial | refine ⟨⟨rfl, rfl⟩, ?_⟩)))
      have hr1 : recOk r = true := by simp_all
      rw [← h2]
      simp only [lvalidG, hr1, Bool.true_and]
      rw [decide_eq_true (by omega), Bool.true_and]
  · have hi : rs.length ≤ i := by simp at * <;> omega
    rw [List.drop_eq_nil_of_le hi] at h2
    repeat' (first | refine G_ops Kx_ok 6 rfl ?_ | refine G_op Kx_ok rfl ?_ | refine G_run rfl rfl rfl ?_ | refine G_nil ?_ | refine G_seq ?_ | refine G_region rfl ?_ | refine G_skip ?_ | refine G_block ?_ | refine G_drawn Kx_mixed rfl ?_ | refine D_ops Kx_ok 6 rfl ?_ | refine D_op Kx_ok rfl ?_ | refine D_nil rfl ?_ | refine G_cond_t rfl ?_ | refine G_cond_f rfl ?_ | refine G_exit ?_ | refine G_callP rfl rfl rfl rfl (c_logbook_isIn st 0 99) rfl rfl rfl ?_ | refine D_call rfl rfl rfl rfl rfl (c_logbook_isIn st 0 99) rfl rfl rfl rfl ?_ | refine G_splitD rfl (fun h => ?_) (fun h => ?_) | refine D_splitD rfl (fun h => ?_) (fun h => ?_) | ((fail_if_success refine G_isL rfl rfl ?_); refine G_split rfl (fun h => ?_) (fun h => ?_)) | ((fail_if_success refine D_isL rfl rfl ?_); refine D_split rfl (fun h => ?_) (fun h => ?_)) | refine G_condD rfl (fun h => ?_) (fun h => ?_) | refine G_condN rfl (fun h => ?_) (fun h => ?_) | refine G_cond rfl (fun h => ?_) (fun h => ?_) | refine G_ret (G_leave ?_))
    · refine G_return Kx_ok rfl ?_
      rw [logOk, ← h2, h]
      simp only [resV, List.length_map, lvalidG, Bool.true_and, AV.bool.injEq, decide_eq_decide]
      omega
    · refine G_return Kx_ok rfl ?_
      rw [logOk, h, Bool.and_false]; rfl
def logR (st : Int) (o : Option (List Rec)) : AV := match o with
  | some l => logA st l
  | none => logA 0 []
def errA {α : Type} (o : Option α) : Int := match o with
  | some _ => 0
  | none => 350
def padd (st : Int) (rs : List Rec) (r : Rec) : Option (List Rec) := if logOk st rs = true ∧ logOk st (rs ++ [r]) = true then some (rs ++ [r]) else none
theorem c_logbook_Add (st : Int) (rs : List Rec) (r : Rec) (hl : rs.length ≤ 1000000000) : FnP Kx 33 [logA st rs, recA r] (.tup [logR st (padd st rs r), .int .i64 (errA (padd st rs r))]) := by
  refine FnT_of_body ent33 Tryd.func33 rfl Tryd.ntmps33 rfl (fun C0 hC0 => ?_)
  repeat' (first | (refine G_freeze_cell (b := 7) (j := 1) (xs := (rs ++ [r]).map recA) rfl rfl (by rw [List.map_append]; rfl) ?_) | refine G_ops Kx_ok 6 rfl ?_ | refine G_op Kx_ok rfl ?_ | refine G_run rfl rfl rfl ?_ | refine G_nil ?_ | refine G_seq ?_ | refine G_region rfl ?_ | refine G_skip ?_ | refine G_block ?_ | refine G_drawn Kx_mixed rfl ?_ | refine D_ops Kx_ok 6 rfl ?_ | refine D_op Kx_ok rfl ?_ | refine D_nil rfl ?_ | refine G_cond_t rfl ?_ | refine G_cond_f rfl ?_ | refine G_exit ?_ | refine G_appA Kx_ok rfl rfl rfl rfl rfl rfl rfl rfl rfl (fun zs e => by cases e <;> (intro y hy; obtain ⟨_, _, rfl⟩ := List.mem_map.1 hy; exact ⟨_, rfl, rfl⟩)) rfl (by first | omega | (simp at * <;> omega)) rfl rfl rfl ?_ | refine D_appA Kx_ok rfl rfl rfl rfl rfl rfl rfl rfl rfl rfl (fun zs e => by cases e <;> (intro y hy; obtain ⟨_, _, rfl⟩ := List.mem_map.1 hy; exact ⟨_, rfl, rfl⟩)) rfl (by first | omega | (simp at * <;> omega)) rfl rfl rfl rfl ?_ | refine G_appN Kx_ok rfl rfl rfl rfl rfl rfl rfl rfl (fun zs e => by cases e <;> (intro y hy; obtain ⟨_, _, rfl⟩ := List.mem_map.1 hy; exact ⟨_, rfl, rfl⟩)) rfl (by first | omega | (simp at * <;> omega)) rfl rfl rfl ?_ | refine D_appN Kx_ok rfl rfl rfl rfl rfl rfl rfl rfl rfl (fun zs e => by cases e <;> (intro y hy; obtain ⟨_, _, rfl⟩ := List.mem_map.1 hy; exact ⟨_, rfl, rfl⟩)) rfl (by first | omega | (simp at * <;> omega)) rfl rfl rfl rfl ?_ | refine G_callP rfl rfl rfl rfl (c_logbook_Valid st rs (by omega)) rfl rfl rfl ?_ | refine D_call rfl rfl rfl rfl rfl (c_logbook_Valid st rs (by omega)) rfl rfl rfl rfl ?_ | refine G_callP rfl rfl rfl rfl (c_logbook_Valid st (rs ++ [r]) (by simp; omega)) rfl rfl rfl ?_ | refine D_call rfl rfl rfl rfl rfl (c_logbook_Valid st (rs ++ [r]) (by simp; omega)) rfl rfl rfl rfl ?_ | refine G_splitD rfl (fun h => ?_) (fun h => ?_) | refine D_splitD rfl (fun h => ?_) (fun h => ?_) | ((fail_if_success refine G_isL rfl rfl ?_); refine G_split rfl (fun h => ?_) (fun h => ?_)) | ((fail_if_success refine D_isL rfl rfl ?_); refine D_split rfl (fun h => ?_) (fun h => ?_)) | refine G_condD rfl (fun h => ?_) (fun h => ?_) | refine G_condN rfl (fun h => ?_) (fun h => ?_) | refine G_cond rfl (fun h => ?_) (fun h => ?_) | refine G_ret (G_leave ?_))
  · refine G_box_nil (m := 2) (j := 1) 10 66 5 rfl rfl rfl ?_
    refine G_freeze_cell (b := 2) (j := 1) rfl rfl rfl ?_
    refine G_return Kx_ok rfl ?_
    rw [padd, if_neg (by simp_all)]; rfl
  · refine G_box_nil (m := 2) (j := 1) 10 66 5 rfl rfl rfl ?_
    refine G_freeze_cell (b := 2) (j := 1) rfl rfl rfl ?_
    refine G_return Kx_ok rfl ?_
    rw [padd, if_neg (by simp_all)]; rfl
  · refine G_return Kx_ok rfl ?_
    rw [padd, if_pos (by simp_all)]; rfl
def recOf (s : Spn) : Rec := ⟨s.f, 1, s.o, -1, ⟨#[]⟩⟩
def pwrite (line : List Spn) (st : Int) : Option (List Rec) := if valid line = true ∧ logOk st (line.map recOf) = true then some (line.map recOf) else none
theorem c_judge_Write (line : List Spn) (st : Int) (hl : line.length ≤ 1000000000) : FnP Kx 21 [spL line, .int .i64 st] (.tup [logR st (pwrite line st), .int .i64 (errJ (pwrite line st))]) := by
  refine FnT_of_body ent21 Tryd.func21 rfl Tryd.ntmps21 rfl (fun C0 hC0 => ?_)
  repeat' (first | refine G_ops Kx_ok 6 rfl ?_ | refine G_op Kx_ok rfl ?_ | refine G_run rfl rfl rfl ?_ | refine G_nil ?_ | refine G_seq ?_ | refine G_region rfl ?_ | refine G_skip ?_ | refine G_block ?_ | refine G_drawn Kx_mixed rfl ?_ | refine D_ops Kx_ok 6 rfl ?_ | refine D_op Kx_ok rfl ?_ | refine D_nil rfl ?_ | refine G_cond_t rfl ?_ | refine G_cond_f rfl ?_ | refine G_exit ?_ | refine G_splitD rfl (fun h => ?_) (fun h => ?_) | refine D_splitD rfl (fun h => ?_) (fun h => ?_) | ((fail_if_success refine G_isL rfl rfl ?_); refine G_split rfl (fun h => ?_) (fun h => ?_)) | ((fail_if_success refine D_isL rfl rfl ?_); refine D_split rfl (fun h => ?_) (fun h => ?_)) | refine G_condD rfl (fun h => ?_) (fun h => ?_) | refine G_condN rfl (fun h => ?_) (fun h => ?_) | refine G_cond rfl (fun h => ?_) (fun h => ?_) | refine G_ret (G_leave ?_))
  refine G_box_nil (m := 1) (j := 1) 2 66 5 rfl rfl rfl ?_
  refine G_weakE [(0, spL line), (1, .int .i64 st), (4, .ptr 0 0), (5, .int .i64 0), (6, .ptr 1 0), (11, spL line), (12, .int .i64 (List.map spA line).length), (13, .int .i64 0)] (by repeat' (first | exact trivial | refine ⟨rfl, ?_⟩ | refine ⟨iv (by first | rfl | omega | (rw [w64 (by omega) (by omega)]; omega)), ?_⟩)) ?_
  refine G_loopF (fun (i : Nat) => [(13, .int .i64 i)]) (fun i => [(0, .box [.int .i64 0, .nils]), (1, .box [.int .i64 st, .own 2]), (2, recO ((line.take i).map recOf))])
    (fun i => i ≤ line.length) (fun i => line.length - i) 0 rfl (by simp) (G_atL hC0 rfl rfl (by repeat' (first | exact trivial | refine ⟨⟨rfl, rfl⟩, ?_⟩ | refine ⟨⟨iv (by first | rfl | omega | (rw [w64 (by omega) (by omega)]; omega)), rfl⟩, ?_⟩)) (by repeat' (first | exact trivial | refine ⟨.inl rfl, ?_⟩ | refine ⟨.inr ⟨rfl, rfl⟩, ?_⟩ | refine ⟨.inr ⟨arrE (by first | rfl | (rw [List.map_append]; rfl)), rfl⟩, ?_⟩)) (by repeat' (first | exact trivial | refine ⟨⟨rfl, rfl⟩, ?_⟩))) ?_
  intro i h1
  dsimp only [List.cons_append, List.nil_append] at *
  repeat' (first | refine G_ops Kx_ok 6 rfl ?_ | refine G_op Kx_ok rfl ?_ | refine G_run rfl rfl rfl ?_ | refine G_nil ?_ | refine G_seq ?_ | refine G_region rfl ?_ | refine G_skip ?_ | refine G_block ?_ | refine G_drawn Kx_mixed rfl ?_ | refine D_ops Kx_ok 6 rfl ?_ | refine D_op Kx_ok rfl ?_ | refine D_nil rfl ?_ | refine G_cond_t rfl ?_ | refine G_cond_f rfl ?_ | refine G_exit ?_ | refine G_splitD rfl (fun h => ?_) (fun h => ?_) | refine D_splitD rfl (fun h => ?_) (fun h => ?_) | ((fail_if_success refine G_isL rfl rfl ?_); refine G_split rfl (fun h => ?_) (fun h => ?_)) | ((fail_if_success refine D_isL rfl rfl ?_); refine D_split rfl (fun h => ?_) (fun h => ?_)) | refine G_condD rfl (fun h => ?_) (fun h => ?_) | refine G_condN rfl (fun h => ?_) (fun h => ?_) | refine G_cond rfl (fun h => ?_) (fun h => ?_) | refine G_ret (G_leave ?_))
  · obtain ⟨s, hs, hd⟩ := drop_get (xs := line) (i := i) (by simp at * <;> omega)
    have hlt : i < line.length := by simp at * <;> omega
    have htk : (line.take (i + 1)).map recOf = (line.take i).map recOf ++ [recOf s] := by
      rw [List.take_add_one, hs]; simp
    repeat' (first | refine G_ops Kx_ok 6 rfl ?_ | refine G_op Kx_ok rfl ?_ | refine G_run rfl rfl rfl ?_ | refine G_nil ?_ | refine G_seq ?_ | refine G_region rfl ?_ | refine G_skip ?_ | refine G_block ?_ | refine G_drawn Kx_mixed rfl ?_ | refine D_ops Kx_ok 6 rfl ?_ | refine D_op Kx_ok rfl ?_ | refine D_nil rfl ?_ | refine G_cond_t rfl ?_ | refine G_cond_f rfl ?_ | refine G_exit ?_ | (refine G_index_lst Kx_ok rfl rfl rfl rfl rfl (map_get (x := s) (by simpa using hs)) (by omega) rfl rfl rfl ?_) | (refine D_index_lst Kx_ok _ rfl rfl rfl rfl rfl rfl (map_get (x := s) (by simpa using hs)) (by omega) rfl rfl rfl rfl ?_) | refine G_appA Kx_ok rfl rfl rfl rfl rfl rfl rfl rfl rfl (fun zs e => by cases e <;> (intro y hy; obtain ⟨_, _, rfl⟩ := List.mem_map.1 hy; exact ⟨_, rfl, rfl⟩)) rfl (by simp at * <;> omega) rfl rfl rfl ?_ | refine D_appA Kx_ok rfl rfl rfl rfl rfl rfl rfl rfl rfl rfl (fun zs e => by cases e <;> (intro y hy; obtain ⟨_, _, rfl⟩ := List.mem_map.1 hy; exact ⟨_, rfl, rfl⟩)) rfl (by simp at * <;> omega) rfl rfl rfl rfl ?_ | refine G_appN Kx_ok rfl rfl rfl rfl rfl rfl rfl rfl (fun zs e => by cases e <;> (intro y hy; obtain ⟨_, _, rfl⟩ := List.mem_map.1 hy; exact ⟨_, rfl, rfl⟩)) rfl (by simp at * <;> omega) rfl rfl rfl ?_ | refine D_appN Kx_ok rfl rfl rfl rfl rfl rfl rfl rfl rfl (fun zs e => by cases e <;> (intro y hy; obtain ⟨_, _, rfl⟩ := List.mem_map.1 hy; exact ⟨_, rfl, rfl⟩)) rfl (by simp at * <;> omega) rfl rfl rfl rfl ?_ | refine G_splitD rfl (fun h => ?_) (fun h => ?_) | refine D_splitD rfl (fun h => ?_) (fun h => ?_) | ((fail_if_success refine G_isL rfl rfl ?_); refine G_split rfl (fun h => ?_) (fun h => ?_)) | ((fail_if_success refine D_isL rfl rfl ?_); refine D_split rfl (fun h => ?_) (fun h => ?_)) | refine G_condD rfl (fun h => ?_) (fun h => ?_) | refine G_condN rfl (fun h => ?_) (fun h => ?_) | refine G_cond rfl (fun h => ?_) (fun h => ?_) | refine G_ret (G_leave ?_))
    refine G_nextF (i + 1) (by omega) (by omega) ?_
    rw [htk]
    exact (G_atL hC0 rfl rfl (by repeat' (first | exact trivial | refine ⟨⟨rfl, rfl⟩, ?_⟩ | refine ⟨⟨iv (by first | rfl | omega | (rw [w64 (by omega) (by omega)]; omega)), rfl⟩, ?_⟩)) (by repeat' (first | exact trivial | refine ⟨.inl rfl, ?_⟩ | refine ⟨.inr ⟨rfl, rfl⟩, ?_⟩ | refine ⟨.inr ⟨arrE (by first | rfl | (rw [List.map_append]; rfl)), rfl⟩, ?_⟩)) (by repeat' (first | exact trivial | refine ⟨⟨rfl, rfl⟩, ?_⟩)))
  · have hi : i = line.length := by simp at * <;> omega
    subst hi
    rw [List.take_length]
    refine G_freeze_cell (b := 1) (j := 1) rfl rfl rfl ?_
    repeat' (first | refine G_ops Kx_ok 6 rfl ?_ | refine G_op Kx_ok rfl ?_ | refine G_run rfl rfl rfl ?_ | refine G_nil ?_ | refine G_seq ?_ | refine G_region rfl ?_ | refine G_skip ?_ | refine G_block ?_ | refine G_drawn Kx_mixed rfl ?_ | refine D_ops Kx_ok 6 rfl ?_ | refine D_op Kx_ok rfl ?_ | refine D_nil rfl ?_ | refine G_cond_t rfl ?_ | refine G_cond_f rfl ?_ | refine G_exit ?_ | refine G_callP rfl rfl rfl rfl (c_timeline_Valid line (Nat.le_trans hl (by decide))) rfl rfl rfl ?_ | refine D_call rfl rfl rfl rfl rfl (c_timeline_Valid line (Nat.le_trans hl (by decide))) rfl rfl rfl rfl ?_ | refine G_callP rfl rfl rfl rfl (c_logbook_Valid st (line.map recOf) (by simp; omega)) rfl rfl rfl ?_ | refine D_call rfl rfl rfl rfl rfl (c_logbook_Valid st (line.map recOf) (by simp; omega)) rfl rfl rfl rfl ?_ | refine G_splitD rfl (fun h => ?_) (fun h => ?_) | refine D_splitD rfl (fun h => ?_) (fun h => ?_) | ((fail_if_success refine G_isL rfl rfl ?_); refine G_split rfl (fun h => ?_) (fun h => ?_)) | ((fail_if_success refine D_isL rfl rfl ?_); refine D_split rfl (fun h => ?_) (fun h => ?_)) | refine G_condD rfl (fun h => ?_) (fun h => ?_) | refine G_condN rfl (fun h => ?_) (fun h => ?_) | refine G_cond rfl (fun h => ?_) (fun h => ?_) | refine G_ret (G_leave ?_))
    · refine G_box_nil (m := 0) (j := 1) 10 66 5 rfl rfl rfl ?_
      refine G_freeze_cell (b := 0) (j := 1) rfl rfl rfl ?_
      refine G_return Kx_ok rfl ?_
      rw [pwrite, if_neg (by simp_all)]; rfl
    · refine G_box_nil (m := 0) (j := 1) 10 66 5 rfl rfl rfl ?_
      refine G_freeze_cell (b := 0) (j := 1) rfl rfl rfl ?_
      refine G_return Kx_ok rfl ?_
      rw [pwrite, if_neg (by simp_all)]; rfl
    · refine G_return Kx_ok rfl ?_
      rw [pwrite, if_pos (by simp_all)]; rfl
def accF (e : Int) : List Rec → List Spn → Option (List Spn)
  | [], q => some q
  | r :: rs, q => if r.k ≠ 1 then accF e rs q else if r.a < 0 ∨ 2999 < r.a then none else accF e rs (if r.t < e then q ++ [⟨r.t, e, r.a⟩] else q)
def paccount (st : Int) (rs : List Rec) (e : Int) : Option (List Spn) := if logOk st rs = true ∧ 0 ≤ e ∧ e ≤ 10000000 then (accF e rs []).bind (fun q => ppaint e 0 q) else none
theorem c_judge_Account (st : Int) (rs : List Rec) (e : Int) (hl : rs.length ≤ 1000000000) : FnP Kx 28 [logA st rs, .int .i64 e] (.tup [spL ((paccount st rs e).getD []), .int .i64 (errJ (paccount st rs e))]) := by
  refine FnT_of_body ent28 Tryd.func28 rfl Tryd.ntmps28 rfl (fun C0 hC0 => ?_)
  repeat' (first | refine G_ops Kx_ok 6 rfl ?_ | refine G_op Kx_ok rfl ?_ | refine G_run rfl rfl rfl ?_ | refine G_nil ?_ | refine G_seq ?_ | refine G_region rfl ?_ | refine G_skip ?_ | refine G_block ?_ | refine G_drawn Kx_mixed rfl ?_ | refine D_ops Kx_ok 6 rfl ?_ | refine D_op Kx_ok rfl ?_ | refine D_nil rfl ?_ | refine G_cond_t rfl ?_ | refine G_cond_f rfl ?_ | refine G_exit ?_ | refine G_callP rfl rfl rfl rfl (c_logbook_Valid st rs (by omega)) rfl rfl rfl ?_ | refine D_call rfl rfl rfl rfl rfl (c_logbook_Valid st rs (by omega)) rfl rfl rfl rfl ?_ | refine G_splitD rfl (fun h => ?_) (fun h => ?_) | refine D_splitD rfl (fun h => ?_) (fun h => ?_) | ((fail_if_success refine G_isL rfl rfl ?_); refine G_split rfl (fun h => ?_) (fun h => ?_)) | ((fail_if_success refine D_isL rfl rfl ?_); refine D_split rfl (fun h => ?_) (fun h => ?_)) | refine G_condD rfl (fun h => ?_) (fun h => ?_) | refine G_condN rfl (fun h => ?_) (fun h => ?_) | refine G_cond rfl (fun h => ?_) (fun h => ?_) | refine G_ret (G_leave ?_))
  · refine G_lst_nil (t := 4) rfl ?_
    refine G_return Kx_ok rfl ?_
    rw [paccount, if_neg (by simp_all)]; rfl
  · refine G_lst_nil (t := 4) rfl ?_
    refine G_return Kx_ok rfl ?_
    rw [paccount, if_neg (by omega)]; rfl
  · refine G_lst_nil (t := 4) rfl ?_
    refine G_return Kx_ok rfl ?_
    rw [paccount, if_neg (by omega)]; rfl
  have hok : logOk st rs = true ∧ 0 ≤ e ∧ e ≤ 10000000 := ⟨by simp_all, by omega, by omega⟩
  refine G_own_nil (t := 6) 1 74 3 rfl rfl ?_
  refine G_weakE [(6, .own 1), (1, .int .i64 e), (2, .ptr 0 0), (23, recL rs), (24, .int .i64 (List.map recA rs).length), (25, .int .i64 0)] (by repeat' (first | exact trivial | refine ⟨rfl, ?_⟩ | refine ⟨iv (by first | rfl | omega | (rw [w64 (by omega) (by omega)]; omega)), ?_⟩)) ?_
  refine G_loopF (fun (p : Nat × List Spn) => [(6, .own 1), (25, .int .i64 p.1)]) (fun p => [(0, .box [.int .i64 st, recL rs]), (1, ownO p.2)])
    (fun p => p.1 ≤ rs.length ∧ p.2.length ≤ p.1 ∧ accF e (rs.drop p.1) p.2 = accF e rs []) (fun p => rs.length - p.1) (0, []) rfl ⟨by simp, by simp, rfl⟩ (G_atL hC0 rfl rfl (by repeat' (first | exact trivial | refine ⟨⟨rfl, rfl⟩, ?_⟩ | refine ⟨⟨iv (by first | rfl | omega | (rw [w64 (by omega) (by omega)]; omega)), rfl⟩, ?_⟩)) (by repeat' (first | exact trivial | refine ⟨.inl rfl, ?_⟩ | refine ⟨.inr ⟨rfl, rfl⟩, ?_⟩ | refine ⟨.inr ⟨arrE (by first | rfl | (rw [List.map_append]; rfl)), rfl⟩, ?_⟩)) (by repeat' (first | exact trivial | refine ⟨⟨rfl, rfl⟩, ?_⟩))) ?_
  rintro ⟨i, q⟩ ⟨h1, h2, h3⟩
  dsimp only [List.cons_append, List.nil_append] at *
  repeat' (first | refine G_ops Kx_ok 6 rfl ?_ | refine G_op Kx_ok rfl ?_ | refine G_run rfl rfl rfl ?_ | refine G_nil ?_ | refine G_seq ?_ | refine G_region rfl ?_ | refine G_skip ?_ | refine G_block ?_ | refine G_drawn Kx_mixed rfl ?_ | refine D_ops Kx_ok 6 rfl ?_ | refine D_op Kx_ok rfl ?_ | refine D_nil rfl ?_ | refine G_cond_t rfl ?_ | refine G_cond_f rfl ?_ | refine G_exit ?_ | refine G_splitD rfl (fun h => ?_) (fun h => ?_) | refine D_splitD rfl (fun h => ?_) (fun h => ?_) | ((fail_if_success refine G_isL rfl rfl ?_); refine G_split rfl (fun h => ?_) (fun h => ?_)) | ((fail_if_success refine D_isL rfl rfl ?_); refine D_split rfl (fun h => ?_) (fun h => ?_)) | refine G_condD rfl (fun h => ?_) (fun h => ?_) | refine G_condN rfl (fun h => ?_) (fun h => ?_) | refine G_cond rfl (fun h => ?_) (fun h => ?_) | refine G_ret (G_leave ?_))
  · obtain ⟨r, hr, hd⟩ := drop_get (xs := rs) (i := i) (by simp at * <;> omega)
    have hlt : i < rs.length := by simp at * <;> omega
    rw [hd, accF] at h3
    repeat' (first | refine G_ops Kx_ok 6 rfl ?_ | refine G_op Kx_ok rfl ?_ | refine G_run rfl rfl rfl ?_ | refine G_nil ?_ | refine G_seq ?_ | refine G_region rfl ?_ | refine G_skip ?_ | refine G_block ?_ | refine G_drawn Kx_mixed rfl ?_ | refine D_ops Kx_ok 6 rfl ?_ | refine D_op Kx_ok rfl ?_ | refine D_nil rfl ?_ | refine G_cond_t rfl ?_ | refine G_cond_f rfl ?_ | refine G_exit ?_ | (refine G_index_lst Kx_ok rfl rfl rfl rfl rfl (map_get (x := r) (by simpa using hr)) (by omega) rfl rfl rfl ?_) | (refine D_index_lst Kx_ok _ rfl rfl rfl rfl rfl rfl (map_get (x := r) (by simpa using hr)) (by omega) rfl rfl rfl rfl ?_) | refine G_appA Kx_ok rfl rfl rfl rfl rfl rfl rfl rfl rfl (fun zs e => by cases e <;> (intro y hy; obtain ⟨_, _, rfl⟩ := List.mem_map.1 hy; exact ⟨_, rfl, rfl⟩)) rfl (by simp at * <;> omega) rfl rfl rfl ?_ | refine D_appA Kx_ok rfl rfl rfl rfl rfl rfl rfl rfl rfl rfl (fun zs e => by cases e <;> (intro y hy; obtain ⟨_, _, rfl⟩ := List.mem_map.1 hy; exact ⟨_, rfl, rfl⟩)) rfl (by simp at * <;> omega) rfl rfl rfl rfl ?_ | refine G_appN Kx_ok rfl rfl rfl rfl rfl rfl rfl rfl (fun zs e => by cases e <;> (intro y hy; obtain ⟨_, _, rfl⟩ := List.mem_map.1 hy; exact ⟨_, rfl, rfl⟩)) rfl (by simp at * <;> omega) rfl rfl rfl ?_ | refine D_appN Kx_ok rfl rfl rfl rfl rfl rfl rfl rfl rfl (fun zs e => by cases e <;> (intro y hy; obtain ⟨_, _, rfl⟩ := List.mem_map.1 hy; exact ⟨_, rfl, rfl⟩)) rfl (by simp at * <;> omega) rfl rfl rfl rfl ?_ | refine G_splitD rfl (fun h => ?_) (fun h => ?_) | refine D_splitD rfl (fun h => ?_) (fun h => ?_) | ((fail_if_success refine G_isL rfl rfl ?_); refine G_split rfl (fun h => ?_) (fun h => ?_)) | ((fail_if_success refine D_isL rfl rfl ?_); refine D_split rfl (fun h => ?_) (fun h => ?_)) | refine G_condD rfl (fun h => ?_) (fun h => ?_) | refine G_condN rfl (fun h => ?_) (fun h => ?_) | refine G_cond rfl (fun h => ?_) (fun h => ?_) | refine G_ret (G_leave ?_))
    · rw [if_pos h] at h3
      exact G_nextF (i + 1, q) ⟨by omega, by simp only; omega, h3⟩ (by omega) (G_atL hC0 rfl rfl (by repeat' (first | exact trivial | refine ⟨⟨rfl, rfl⟩, ?_⟩ | refine ⟨⟨iv (by first | rfl | omega | (rw [w64 (by omega) (by omega)]; omega)), rfl⟩, ?_⟩)) (by repeat' (first | exact trivial | refine ⟨.inl rfl, ?_⟩ | refine ⟨.inr ⟨rfl, rfl⟩, ?_⟩ | refine ⟨.inr ⟨arrE (by first | rfl | (rw [List.map_append]; rfl)), rfl⟩, ?_⟩)) (by repeat' (first | exact trivial | refine ⟨⟨rfl, rfl⟩, ?_⟩)))
    · refine G_lst_nil (t := 4) rfl ?_
      refine G_return Kx_ok rfl ?_
      rw [if_neg (by assumption), if_pos (.inl h)] at h3
      rw [paccount, if_pos hok, ← h3]; rfl
    · refine G_lst_nil (t := 4) rfl ?_
      refine G_return Kx_ok rfl ?_
      rw [if_neg (by assumption), if_pos (.inr h)] at h3
      rw [paccount, if_pos hok, ← h3]; rfl
    · rw [if_neg (by assumption), if_neg (by omega), if_pos h] at h3
      exact G_nextF (i + 1, q ++ [⟨r.t, e, r.a⟩]) ⟨by omega, by simp; omega, h3⟩ (by omega) (G_atL hC0 rfl rfl (by repeat' (first | exact trivial | refine ⟨⟨rfl, rfl⟩, ?_⟩ | refine ⟨⟨iv (by first | rfl | omega | (rw [w64 (by omega) (by omega)]; omega)), rfl⟩, ?_⟩)) (by repeat' (first | exact trivial | refine ⟨.inl rfl, ?_⟩ | refine ⟨.inr ⟨rfl, rfl⟩, ?_⟩ | refine ⟨.inr ⟨arrE (by first | rfl | (rw [List.map_append]; rfl)), rfl⟩, ?_⟩)) (by repeat' (first | exact trivial | refine ⟨⟨rfl, rfl⟩, ?_⟩)))
    · rw [if_neg (by assumption), if_neg (by omega), if_neg h] at h3
      exact G_nextF (i + 1, q) ⟨by omega, by simp only; omega, h3⟩ (by omega) (G_atL hC0 rfl rfl (by repeat' (first | exact trivial | refine ⟨⟨rfl, rfl⟩, ?_⟩ | refine ⟨⟨iv (by first | rfl | omega | (rw [w64 (by omega) (by omega)]; omega)), rfl⟩, ?_⟩)) (by repeat' (first | exact trivial | refine ⟨.inl rfl, ?_⟩ | refine ⟨.inr ⟨rfl, rfl⟩, ?_⟩ | refine ⟨.inr ⟨arrE (by first | rfl | (rw [List.map_append]; rfl)), rfl⟩, ?_⟩)) (by repeat' (first | exact trivial | refine ⟨⟨rfl, rfl⟩, ?_⟩)))
  · refine G_freeze (m := 1) 59 rfl rfl ?_
    rw [List.drop_eq_nil_of_le (by simp at * <;> omega), accF] at h3
    cases hp : ppaint e 0 q with
    | none =>
      repeat' (first | refine G_ops Kx_ok 6 rfl ?_ | refine G_op Kx_ok rfl ?_ | refine G_run rfl rfl rfl ?_ | refine G_nil ?_ | refine G_seq ?_ | refine G_region rfl ?_ | refine G_skip ?_ | refine G_block ?_ | refine G_drawn Kx_mixed rfl ?_ | refine D_ops Kx_ok 6 rfl ?_ | refine D_op Kx_ok rfl ?_ | refine D_nil rfl ?_ | refine G_cond_t rfl ?_ | refine G_cond_f rfl ?_ | refine G_exit ?_ | refine G_callP rfl rfl rfl rfl ((c_tl_Paint e 0 q (by omega)).eq (show _ = AV.tup [spL [], .int .i64 150] by rw [hp]; rfl)) rfl rfl rfl ?_ | refine D_call rfl rfl rfl rfl rfl ((c_tl_Paint e 0 q (by omega)).eq (show _ = AV.tup [spL [], .int .i64 150] by rw [hp]; rfl)) rfl rfl rfl rfl ?_ | refine G_splitD rfl (fun h => ?_) (fun h => ?_) | refine D_splitD rfl (fun h => ?_) (fun h => ?_) | ((fail_if_success refine G_isL rfl rfl ?_); refine G_split rfl (fun h => ?_) (fun h => ?_)) | ((fail_if_success refine D_isL rfl rfl ?_); refine D_split rfl (fun h => ?_) (fun h => ?_)) | refine G_condD rfl (fun h => ?_) (fun h => ?_) | refine G_condN rfl (fun h => ?_) (fun h => ?_) | refine G_cond rfl (fun h => ?_) (fun h => ?_) | refine G_ret (G_leave ?_))
      refine G_lst_nil (t := 4) rfl ?_
      refine G_return Kx_ok rfl ?_
      rw [paccount, if_pos hok, ← h3, Option.bind_some, hp]; rfl
    | some l =>
      repeat' (first | refine G_ops Kx_ok 6 rfl ?_ | refine G_op Kx_ok rfl ?_ | refine G_run rfl rfl rfl ?_ | refine G_nil ?_ | refine G_seq ?_ | refine G_region rfl ?_ | refine G_skip ?_ | refine G_block ?_ | refine G_drawn Kx_mixed rfl ?_ | refine D_ops Kx_ok 6 rfl ?_ | refine D_op Kx_ok rfl ?_ | refine D_nil rfl ?_ | refine G_cond_t rfl ?_ | refine G_cond_f rfl ?_ | refine G_exit ?_ | refine G_callP rfl rfl rfl rfl ((c_tl_Paint e 0 q (by omega)).eq (show _ = AV.tup [spL l, .int .i64 0] by rw [hp]; rfl)) rfl rfl rfl ?_ | refine D_call rfl rfl rfl rfl rfl ((c_tl_Paint e 0 q (by omega)).eq (show _ = AV.tup [spL l, .int .i64 0] by rw [hp]; rfl)) rfl rfl rfl rfl ?_ | refine G_splitD rfl (fun h => ?_) (fun h => ?_) | refine D_splitD rfl (fun h => ?_) (fun h => ?_) | ((fail_if_success refine G_isL rfl rfl ?_); refine G_split rfl (fun h => ?_) (fun h => ?_)) | ((fail_if_success refine D_isL rfl rfl ?_); refine D_split rfl (fun h => ?_) (fun h => ?_)) | refine G_condD rfl (fun h => ?_) (fun h => ?_) | refine G_condN rfl (fun h => ?_) (fun h => ?_) | refine G_cond rfl (fun h => ?_) (fun h => ?_) | refine G_ret (G_leave ?_))
      refine G_return Kx_ok rfl ?_
      rw [paccount, if_pos hok, ← h3, Option.bind_some, hp]; rfl

end Go.Proofs.YtmdbpbncdkdipaaDoor
namespace Go.Proofs.YtmdbpbncdkdipaaDoor
open Go.Asl
set_option maxRecDepth 100000
set_option maxHeartbeats 4000000
attribute [local irreducible] Go.Asl.wpG Go.Code.wpIn Go.Asl.DrawG Go.Asl.LvX Go.Asl.G
theorem eqRul : eqPlain Kx.P 37 = true := by kernel_rfl
theorem eqRec : eqPlain Kx.P 66 = true := by kernel_rfl
theorem c_law38_example : FnP Kx 39 [] (.tup [spL [⟨0, 10, 4⟩, ⟨10, 20, 0⟩], verL [⟨1, 3⟩, ⟨1, 3⟩, ⟨2, 0⟩, ⟨1, 8⟩, ⟨3, 0⟩], verL [⟨1, 3⟩, ⟨3, 0⟩, ⟨2, 0⟩, ⟨1, 8⟩, ⟨1, 8⟩]]) := by
  refine FnT_of_body ent39 Tryd.func39 rfl Tryd.ntmps39 rfl (fun C0 hC0 => ?_)
  repeat' (first | refine G_opsF Kx_ok 6 rfl ?_ | refine G_opF Kx_ok rfl ?_ | refine G_run rfl rfl rfl ?_ | refine G_nil ?_ | refine G_seq ?_ | refine G_region rfl ?_ | refine G_skip ?_ | refine G_block ?_ | refine G_drawn Kx_mixed rfl ?_ | refine D_opsF Kx_ok 6 rfl ?_ | refine D_opF Kx_ok rfl ?_ | refine D_nil rfl ?_ | refine G_cond_t rfl ?_ | refine G_cond_f rfl ?_ | refine G_exit ?_ | refine G_splitD rfl (fun h => ?_) (fun h => ?_) | refine D_splitD rfl (fun h => ?_) (fun h => ?_) | ((fail_if_success refine G_isL rfl rfl ?_); refine G_split rfl (fun h => ?_) (fun h => ?_)) | ((fail_if_success refine D_isL rfl rfl ?_); refine D_split rfl (fun h => ?_) (fun h => ?_)) | refine G_condD rfl (fun h => ?_) (fun h => ?_) | refine G_condN rfl (fun h => ?_) (fun h => ?_) | refine G_cond rfl (fun h => ?_) (fun h => ?_) | refine G_ret (G_leave ?_))
  all_goals exact G_return Kx_ok rfl rfl
theorem c_law38_sane : FnP Kx 9 [] (.bool true) := by
  refine FnT_of_body ent9 Tryd.func9 rfl Tryd.ntmps9 rfl (fun C0 hC0 => ?_)
  repeat' (first | refine G_opsF Kx_ok 6 rfl ?_ | refine G_opF Kx_ok rfl ?_ | refine G_run rfl rfl rfl ?_ | refine G_nil ?_ | refine G_seq ?_ | refine G_region rfl ?_ | refine G_skip ?_ | refine G_block ?_ | refine G_drawn Kx_mixed rfl ?_ | refine D_opsF Kx_ok 6 rfl ?_ | refine D_opF Kx_ok rfl ?_ | refine D_nil rfl ?_ | refine G_cond_t rfl ?_ | refine G_cond_f rfl ?_ | refine G_exit ?_ | refine G_eqS Kx_ok (neg := true) rfl rfl rfl rfl rfl rfl eqRul rfl ?_ | refine D_eqS Kx_ok true rfl rfl rfl rfl rfl rfl rfl eqRul rfl rfl ?_ | refine G_eqS Kx_ok (neg := false) rfl rfl rfl rfl rfl rfl eqRul rfl ?_ | refine D_eqS Kx_ok false rfl rfl rfl rfl rfl rfl rfl eqRul rfl rfl ?_ | refine G_eqS Kx_ok (neg := true) rfl rfl rfl rfl rfl rfl eqRec rfl ?_ | refine D_eqS Kx_ok true rfl rfl rfl rfl rfl rfl rfl eqRec rfl rfl ?_ | refine G_eqS Kx_ok (neg := false) rfl rfl rfl rfl rfl rfl eqRec rfl ?_ | refine D_eqS Kx_ok false rfl rfl rfl rfl rfl rfl rfl eqRec rfl rfl ?_ | refine G_eqS Kx_ok (neg := true) rfl rfl rfl rfl rfl rfl eqVer rfl ?_ | refine D_eqS Kx_ok true rfl rfl rfl rfl rfl rfl rfl eqVer rfl rfl ?_ | refine G_eqS Kx_ok (neg := false) rfl rfl rfl rfl rfl rfl eqVer rfl ?_ | refine D_eqS Kx_ok false rfl rfl rfl rfl rfl rfl rfl eqVer rfl rfl ?_ | refine G_callP rfl rfl rfl rfl (c_law38_example) rfl rfl rfl ?_ | refine D_call rfl rfl rfl rfl rfl (c_law38_example) rfl rfl rfl rfl ?_ | refine G_callP rfl rfl rfl rfl ((c_judge_Judge [⟨0, 10, 4⟩, ⟨10, 20, 0⟩] 8 [⟨1, 3⟩, ⟨1, 3⟩, ⟨2, 0⟩, ⟨1, 8⟩, ⟨3, 0⟩] [⟨1, 3⟩, ⟨3, 0⟩, ⟨2, 0⟩, ⟨1, 8⟩, ⟨1, 8⟩] [3, 8] (by simp) (by simp) (by simp) (by simp)).eq (show _ = AV.tup [.agg [.bool false, .int .i64 11, .int .i64 3, .int .i64 1], .int .i64 0] by kernel_rfl)) rfl rfl rfl ?_ | refine D_call rfl rfl rfl rfl rfl ((c_judge_Judge [⟨0, 10, 4⟩, ⟨10, 20, 0⟩] 8 [⟨1, 3⟩, ⟨1, 3⟩, ⟨2, 0⟩, ⟨1, 8⟩, ⟨3, 0⟩] [⟨1, 3⟩, ⟨3, 0⟩, ⟨2, 0⟩, ⟨1, 8⟩, ⟨1, 8⟩] [3, 8] (by simp) (by simp) (by simp) (by simp)).eq (show _ = AV.tup [.agg [.bool false, .int .i64 11, .int .i64 3, .int .i64 1], .int .i64 0] by kernel_rfl)) rfl rfl rfl rfl ?_ | refine G_callP rfl rfl rfl rfl ((c_judge_Judge [⟨0, 10, 4⟩, ⟨10, 11, 0⟩, ⟨11, 20, 9⟩] 8 [⟨1, 3⟩, ⟨1, 3⟩, ⟨2, 0⟩, ⟨1, 8⟩, ⟨3, 0⟩] [⟨1, 3⟩, ⟨3, 0⟩, ⟨2, 0⟩, ⟨1, 8⟩, ⟨1, 8⟩] [3, 8] (by simp) (by simp) (by simp) (by simp)).eq (show _ = AV.tup [.agg [.bool true, .int .i64 (-1), .int .i64 3, .int .i64 0], .int .i64 0] by kernel_rfl)) rfl rfl rfl ?_ | refine D_call rfl rfl rfl rfl rfl ((c_judge_Judge [⟨0, 10, 4⟩, ⟨10, 11, 0⟩, ⟨11, 20, 9⟩] 8 [⟨1, 3⟩, ⟨1, 3⟩, ⟨2, 0⟩, ⟨1, 8⟩, ⟨3, 0⟩] [⟨1, 3⟩, ⟨3, 0⟩, ⟨2, 0⟩, ⟨1, 8⟩, ⟨1, 8⟩] [3, 8] (by simp) (by simp) (by simp) (by simp)).eq (show _ = AV.tup [.agg [.bool true, .int .i64 (-1), .int .i64 3, .int .i64 0], .int .i64 0] by kernel_rfl)) rfl rfl rfl rfl ?_ | refine G_callP rfl rfl rfl rfl ((c_judge_Judge [⟨0, 10, 4⟩, ⟨10, 20, 0⟩] 16 [⟨1, 3⟩, ⟨1, 3⟩, ⟨2, 0⟩, ⟨1, 8⟩, ⟨3, 0⟩] [⟨1, 3⟩, ⟨3, 0⟩, ⟨2, 0⟩, ⟨1, 8⟩, ⟨1, 8⟩] [3, 8] (by simp) (by simp) (by simp) (by simp)).eq (show _ = AV.tup [.agg [.bool false, .int .i64 0, .int .i64 0, .int .i64 0], .int .i64 380] by kernel_rfl)) rfl rfl rfl ?_ | refine D_call rfl rfl rfl rfl rfl ((c_judge_Judge [⟨0, 10, 4⟩, ⟨10, 20, 0⟩] 16 [⟨1, 3⟩, ⟨1, 3⟩, ⟨2, 0⟩, ⟨1, 8⟩, ⟨3, 0⟩] [⟨1, 3⟩, ⟨3, 0⟩, ⟨2, 0⟩, ⟨1, 8⟩, ⟨1, 8⟩] [3, 8] (by simp) (by simp) (by simp) (by simp)).eq (show _ = AV.tup [.agg [.bool false, .int .i64 0, .int .i64 0, .int .i64 0], .int .i64 380] by kernel_rfl)) rfl rfl rfl rfl ?_ | refine G_callP rfl rfl rfl rfl ((c_judge_Proven [⟨0, 10, 4⟩, ⟨10, 20, 0⟩] 8 [⟨1, 3⟩, ⟨1, 3⟩, ⟨2, 0⟩, ⟨1, 8⟩, ⟨3, 0⟩] [⟨1, 3⟩, ⟨3, 0⟩, ⟨2, 0⟩, ⟨1, 8⟩, ⟨1, 8⟩] 4 (by simp) (by simp) (by simp)).eq (show _ = AV.tup [seL [⟨8, 9⟩], .int .i64 0] by kernel_rfl)) rfl rfl rfl ?_ | refine D_call rfl rfl rfl rfl rfl ((c_judge_Proven [⟨0, 10, 4⟩, ⟨10, 20, 0⟩] 8 [⟨1, 3⟩, ⟨1, 3⟩, ⟨2, 0⟩, ⟨1, 8⟩, ⟨3, 0⟩] [⟨1, 3⟩, ⟨3, 0⟩, ⟨2, 0⟩, ⟨1, 8⟩, ⟨1, 8⟩] 4 (by simp) (by simp) (by simp)).eq (show _ = AV.tup [seL [⟨8, 9⟩], .int .i64 0] by kernel_rfl)) rfl rfl rfl rfl ?_ | refine G_callP rfl rfl rfl rfl ((c_judge_Proven [⟨0, 10, 4⟩, ⟨10, 11, 0⟩, ⟨11, 20, 9⟩] 8 [⟨1, 3⟩, ⟨1, 3⟩, ⟨2, 0⟩, ⟨1, 8⟩, ⟨3, 0⟩] [⟨1, 3⟩, ⟨3, 0⟩, ⟨2, 0⟩, ⟨1, 8⟩, ⟨1, 8⟩] 9 (by simp) (by simp) (by simp)).eq (show _ = AV.tup [seL [⟨11, 12⟩], .int .i64 0] by kernel_rfl)) rfl rfl rfl ?_ | refine D_call rfl rfl rfl rfl rfl ((c_judge_Proven [⟨0, 10, 4⟩, ⟨10, 11, 0⟩, ⟨11, 20, 9⟩] 8 [⟨1, 3⟩, ⟨1, 3⟩, ⟨2, 0⟩, ⟨1, 8⟩, ⟨3, 0⟩] [⟨1, 3⟩, ⟨3, 0⟩, ⟨2, 0⟩, ⟨1, 8⟩, ⟨1, 8⟩] 9 (by simp) (by simp) (by simp)).eq (show _ = AV.tup [seL [⟨11, 12⟩], .int .i64 0] by kernel_rfl)) rfl rfl rfl rfl ?_ | refine G_callP rfl rfl rfl rfl ((c_judge_Write [⟨0, 10, 4⟩, ⟨10, 20, 0⟩] 7 (by simp)).eq (show _ = AV.tup [logA 7 [⟨0, 1, 4, -1, ⟨#[]⟩⟩, ⟨10, 1, 0, -1, ⟨#[]⟩⟩], .int .i64 0] by kernel_rfl)) rfl rfl rfl ?_ | refine D_call rfl rfl rfl rfl rfl ((c_judge_Write [⟨0, 10, 4⟩, ⟨10, 20, 0⟩] 7 (by simp)).eq (show _ = AV.tup [logA 7 [⟨0, 1, 4, -1, ⟨#[]⟩⟩, ⟨10, 1, 0, -1, ⟨#[]⟩⟩], .int .i64 0] by kernel_rfl)) rfl rfl rfl rfl ?_ | refine G_callP rfl rfl rfl rfl ((c_judge_Account 7 [⟨0, 1, 4, -1, ⟨#[]⟩⟩, ⟨10, 1, 0, -1, ⟨#[]⟩⟩] 20 (by simp)).eq (show _ = AV.tup [spL [⟨0, 10, 4⟩, ⟨10, 20, 0⟩], .int .i64 0] by kernel_rfl)) rfl rfl rfl ?_ | refine D_call rfl rfl rfl rfl rfl ((c_judge_Account 7 [⟨0, 1, 4, -1, ⟨#[]⟩⟩, ⟨10, 1, 0, -1, ⟨#[]⟩⟩] 20 (by simp)).eq (show _ = AV.tup [spL [⟨0, 10, 4⟩, ⟨10, 20, 0⟩], .int .i64 0] by kernel_rfl)) rfl rfl rfl rfl ?_ | refine G_callP rfl rfl rfl rfl ((c_judge_Against 4 ⟨2, 0⟩ [3, 8] (by simp)).eq (show _ = AV.bool true by kernel_rfl)) rfl rfl rfl ?_ | refine D_call rfl rfl rfl rfl rfl ((c_judge_Against 4 ⟨2, 0⟩ [3, 8] (by simp)).eq (show _ = AV.bool true by kernel_rfl)) rfl rfl rfl rfl ?_ | refine G_callP rfl rfl rfl rfl ((c_judge_Against 5 ⟨2, 0⟩ [3, 8] (by simp)).eq (show _ = AV.bool false by kernel_rfl)) rfl rfl rfl ?_ | refine D_call rfl rfl rfl rfl rfl ((c_judge_Against 5 ⟨2, 0⟩ [3, 8] (by simp)).eq (show _ = AV.bool false by kernel_rfl)) rfl rfl rfl rfl ?_ | refine G_callP rfl rfl rfl rfl ((((c_judge_Against 0 ⟨1, 3⟩ [] (by simp)).eq (show _ = AV.bool true by kernel_rfl)).nils ⟨.inl rfl, .inl rfl, .inr ⟨rfl, rfl⟩, trivial⟩)) rfl rfl rfl ?_ | refine D_call rfl rfl rfl rfl rfl ((((c_judge_Against 0 ⟨1, 3⟩ [] (by simp)).eq (show _ = AV.bool true by kernel_rfl)).nils ⟨.inl rfl, .inl rfl, .inr ⟨rfl, rfl⟩, trivial⟩)) rfl rfl rfl rfl ?_ | refine G_callP rfl rfl rfl rfl ((c_ref15_Same [⟨0, 10, 4⟩, ⟨10, 20, 0⟩] [⟨0, 10, 4⟩, ⟨10, 20, 0⟩] (by simp) (by simp)).eq (show _ = AV.bool true by kernel_rfl)) rfl rfl rfl ?_ | refine D_call rfl rfl rfl rfl rfl ((c_ref15_Same [⟨0, 10, 4⟩, ⟨10, 20, 0⟩] [⟨0, 10, 4⟩, ⟨10, 20, 0⟩] (by simp) (by simp)).eq (show _ = AV.bool true by kernel_rfl)) rfl rfl rfl rfl ?_ | refine G_callP rfl rfl rfl rfl ((c_ref07_SameSpells [⟨8, 9⟩] [⟨8, 9⟩] (by simp) (by simp)).eq (show _ = AV.bool true by kernel_rfl)) rfl rfl rfl ?_ | refine D_call rfl rfl rfl rfl rfl ((c_ref07_SameSpells [⟨8, 9⟩] [⟨8, 9⟩] (by simp) (by simp)).eq (show _ = AV.bool true by kernel_rfl)) rfl rfl rfl rfl ?_ | refine G_callP rfl rfl rfl rfl ((c_ref07_SameSpells [⟨11, 12⟩] [⟨11, 12⟩] (by simp) (by simp)).eq (show _ = AV.bool true by kernel_rfl)) rfl rfl rfl ?_ | refine D_call rfl rfl rfl rfl rfl ((c_ref07_SameSpells [⟨11, 12⟩] [⟨11, 12⟩] (by simp) (by simp)).eq (show _ = AV.bool true by kernel_rfl)) rfl rfl rfl rfl ?_ | refine G_splitD rfl (fun h => ?_) (fun h => ?_) | refine D_splitD rfl (fun h => ?_) (fun h => ?_) | ((fail_if_success refine G_isL rfl rfl ?_); refine G_split rfl (fun h => ?_) (fun h => ?_)) | ((fail_if_success refine D_isL rfl rfl ?_); refine D_split rfl (fun h => ?_) (fun h => ?_)) | refine G_condD rfl (fun h => ?_) (fun h => ?_) | refine G_condN rfl (fun h => ?_) (fun h => ?_) | refine G_cond rfl (fun h => ?_) (fun h => ?_) | refine G_ret (G_leave ?_))
  all_goals first
    | exact G_return Kx_ok rfl rfl
    | (exfalso; simp at h; done)
end Go.Proofs.YtmdbpbncdkdipaaDoor
namespace Go.Proofs.YtmdbpbncdkdipaaDoor
open Go.Asl
set_option maxRecDepth 100000
set_option maxHeartbeats 4000000
attribute [local irreducible] Go.Asl.wpG Go.Code.wpIn Go.Asl.DrawG Go.Asl.LvX Go.Asl.G
/-! ### Lines of spans, as plain lists -/
def endG (a : Int) (xs : List Spn) : Int := match xs.getLast? with
  | some l => l.t
  | none => a
def lastO (w : Int) (xs : List Spn) : Int := match xs.getLast? with
  | some l => l.o
  | none => w
theorem endOf_endG (xs : List Spn) : endOf xs = endG 0 xs := rfl
theorem endG_cons (a : Int) (x : Spn) (r : List Spn) : endG a (x :: r) = endG x.t r := by
  unfold endG
  rw [List.getLast?_cons]
  cases r.getLast? <;> rfl
theorem lastO_cons (w : Int) (x : Spn) (r : List Spn) : lastO w (x :: r) = lastO x.o r := by
  unfold lastO
  rw [List.getLast?_cons]
  cases r.getLast? <;> rfl
theorem endG_snoc (a : Int) (xs : List Spn) (s : Spn) : endG a (xs ++ [s]) = s.t := by
  unfold endG; simp
theorem validG_cons {a w : Int} {x : Spn} {r : List Spn} : validG a w (x :: r) = true ↔ x.f = a ∧ a < x.t ∧ x.t ≤ 10000000 ∧ isOwn x.o = true ∧ x.o ≠ w ∧ validG x.t x.o r = true := by
  simp only [validG, Bool.and_eq_true, decide_eq_true_eq, and_assoc]
theorem validG_snoc (s : Spn) : ∀ (xs : List Spn) (a w : Int), validG a w (xs ++ [s]) = true ↔ validG a w xs = true ∧ s.f = endG a xs ∧ endG a xs < s.t ∧ s.t ≤ 10000000 ∧ isOwn s.o = true ∧ s.o ≠ lastO w xs
  | [], a, w => by
    rw [List.nil_append, validG_cons]
    simp [validG, endG, lastO]
  | x :: r, a, w => by
    rw [List.cons_append, validG_cons, validG_snoc s r, validG_cons, endG_cons, lastO_cons]
    simp only [and_assoc]
theorem validG_end : ∀ {xs : List Spn} {a w : Int}, validG a w xs = true → a ≤ endG a xs ∧ (xs ≠ [] → endG a xs ≤ 10000000)
  | [], a, w, _ => by simp [endG]
  | x :: r, a, w, h => by
    rw [validG_cons] at h
    obtain ⟨h1, h2, h3, _, _, h6⟩ := h
    have := validG_end h6
    rw [endG_cons]
    refine ⟨by omega, fun _ => ?_⟩
    by_cases hr : r = []
    · subst hr; simpa [endG] using h3
    · exact this.2 hr
theorem mem_ge : ∀ {xs : List Spn} {a w : Int} {s : Spn}, validG a w xs = true → s ∈ xs → a ≤ s.f ∧ s.f < s.t ∧ s.t ≤ endG a xs ∧ s.t ≤ 10000000 ∧ isOwn s.o = true
  | x :: r, a, w, s, h, hs => by
    rw [validG_cons] at h
    obtain ⟨h1, h2, h3, h4, _, h6⟩ := h
    have he := validG_end h6
    rw [endG_cons]
    rcases List.mem_cons.1 hs with rfl | hs
    · exact ⟨by omega, by omega, he.1, h3, h4⟩
    · have := mem_ge h6 hs
      exact ⟨by omega, this.2.1, this.2.2.1, this.2.2.2.1, this.2.2.2.2⟩
theorem hit_iff (T : Int) (s : Spn) : hit T s = true ↔ s.f ≤ T ∧ T < s.t := by
  simp only [hit, Bool.and_eq_true, decide_eq_true_eq]
theorem mem_own : ∀ {xs : List Spn} {a w T : Int} {s : Spn}, validG a w xs = true → s ∈ xs → s.f ≤ T → T < s.t → ownAt xs T = s.o
  | x :: r, a, w, T, s, h, hs, h1, h2 => by
    rw [validG_cons] at h
    obtain ⟨g1, g2, g3, g4, g5, g6⟩ := h
    rcases List.mem_cons.1 hs with rfl | hs
    · unfold ownAt
      rw [List.find?_cons_of_pos (by rw [hit_iff]; omega)]
    · have := mem_ge g6 hs
      have ih := mem_own g6 hs h1 h2
      unfold ownAt at ih ⊢
      rw [List.find?_cons_of_neg (by rw [hit_iff]; omega)]
      exact ih
theorem own_cons {x : Spn} {r : List Spn} {T : Int} (h : x.t ≤ T) : ownAt (x :: r) T = ownAt r T := by
  unfold ownAt
  rw [List.find?_cons_of_neg (by rw [hit_iff]; omega)]
theorem ex_hit : ∀ {xs : List Spn} {a w T : Int}, validG a w xs = true → a ≤ T → T < endG a xs → ∃ s ∈ xs, s.f ≤ T ∧ T < s.t
  | [], a, w, T, _, h1, h2 => by simp [endG] at h2; omega
  | x :: r, a, w, T, h, h1, h2 => by
    rw [validG_cons] at h
    obtain ⟨g1, g2, g3, g4, g5, g6⟩ := h
    by_cases hT : T < x.t
    · exact ⟨x, by simp, by omega, hT⟩
    · rw [endG_cons] at h2
      obtain ⟨s, h3, h4⟩ := ex_hit g6 (by omega) h2
      exact ⟨s, by simp [h3], h4⟩
/-- A line that is being laid: from 0 to e, and who owns what. -/
def Owns (acc : List Spn) (e : Int) (φ : Int → Int) : Prop := validG 0 (-1) acc = true ∧ endG 0 acc = e ∧ ∀ s ∈ acc, ∀ T, s.f ≤ T → T < s.t → φ T = s.o
theorem Owns.own {acc : List Spn} {e T : Int} {φ : Int → Int} (h : Owns acc e φ) (h0 : 0 ≤ T) (h1 : T < e) : ownAt acc T = φ T := by
  obtain ⟨h2, h3, h4⟩ := h
  obtain ⟨s, hs, g1, g2⟩ := ex_hit h2 h0 (by rw [h3]; exact h1)
  rw [mem_own h2 hs g1 g2, h4 s hs T g1 g2]
theorem isOwn_ne {o : Int} (h : isOwn o = true) : 0 ≤ o ∧ o ≤ 2999 ∧ o ≠ -1 := by
  simp only [isOwn, Bool.and_eq_true, decide_eq_true_eq] at h
  omega
theorem Owns.ext {acc : List Spn} {e : Int} {φ : Int → Int} {s : Spn} (h : Owns acc e φ) (hf : s.f = e) (ht : s.f < s.t) (hm : s.t ≤ 10000000) (ho : isOwn s.o = true) (hφ : ∀ T, s.f ≤ T → T < s.t → φ T = s.o) : Owns (extS acc s) s.t φ := by
  obtain ⟨h1, h2, h3⟩ := h
  have ho' := isOwn_ne ho
  unfold extS
  split
  · rename_i l hl
    obtain ⟨ys, rfl⟩ := List.getLast?_eq_some_iff.1 hl
    rw [validG_snoc] at h1
    obtain ⟨g1, g2, g3, g4, g5, g6⟩ := h1
    rw [endG_snoc] at h2
    split
    · rename_i hlo
      rw [List.dropLast_concat]
      refine ⟨?_, endG_snoc _ _ _, fun x hx T t1 t2 => ?_⟩
      · rw [validG_snoc]
        exact ⟨g1, g2, by simp only; omega, hm, g5, g6⟩
      · rcases List.mem_append.1 hx with hx | hx
        · exact h3 x (by simp [hx]) T t1 t2
        · simp only [List.mem_singleton] at hx
          subst hx
          simp only at t1 t2 ⊢
          by_cases hT : T < l.t
          · exact h3 l (by simp) T t1 hT
          · rw [hφ T (by omega) t2, hlo]
    · rename_i hlo
      refine ⟨?_, endG_snoc _ _ _, fun x hx T t1 t2 => ?_⟩
      · rw [validG_snoc, validG_snoc]
        refine ⟨⟨g1, g2, g3, g4, g5, g6⟩, by rw [endG_snoc]; omega, by rw [endG_snoc]; omega, hm, ho, ?_⟩
        have : lastO (-1) (ys ++ [l]) = l.o := by unfold lastO; simp
        rw [this]
        exact fun e => hlo e.symm
      · rcases List.mem_append.1 hx with hx | hx
        · exact h3 x hx T t1 t2
        · simp only [List.mem_singleton] at hx
          subst hx
          exact hφ T t1 t2
  · rename_i hl
    have hn : acc = [] := List.getLast?_eq_none_iff.1 hl
    subst hn
    simp only [endG, List.getLast?_nil] at h2
    refine ⟨?_, endG_snoc _ _ _, fun x hx T t1 t2 => ?_⟩
    · rw [validG_snoc]
      refine ⟨rfl, ?_, ?_, hm, ho, ?_⟩
      · simp [endG]; omega
      · simp [endG]; omega
      · simp [lastO]; omega
    · simp only [List.nil_append, List.mem_singleton] at hx
      subst hx
      exact hφ T t1 t2
/-- Where a clipped line stands. -/
def clampP (a b p : Int) : Int := if p < a then a else if b < p then b else p
theorem Owns.part {a b : Int} (hab : a ≤ b) (ha : 0 ≤ a) {φ : Int → Int} : ∀ {xs acc : List Spn} {p w : Int}, validG p w xs = true → Owns acc (clampP a b p) φ → (∀ s ∈ xs, ∀ T, s.f ≤ T → T < s.t → a ≤ T → T < b → φ T = s.o) → Owns (partW xs a b acc) (clampP a b (endG p xs)) φ
  | [], acc, p, w, _, h, _ => by simpa [partW, endG] using h
  | x :: r, acc, p, w, hv, h, hφ => by
    rw [validG_cons] at hv
    obtain ⟨g1, g2, g3, g4, g5, g6⟩ := hv
    rw [endG_cons]
    show Owns (partW r a b (stepW a b acc x)) _ φ
    refine Owns.part hab ha g6 ?_ (fun s hs => hφ s (by simp [hs]))
    unfold stepW
    split
    · rename_i hc
      have h2 := Owns.ext (s := cutW a b x) h ?_ hc ?_ g4 ?_
      · have e : (cutW a b x).t = clampP a b x.t := by
          simp only [cutW] at hc ⊢
          unfold clampP
          split at hc <;> split at hc <;> split <;> (try split) <;> omega
        rw [← e]; exact h2
      · simp only [cutW] at hc ⊢
        unfold clampP
        split at hc <;> split at hc <;> split <;> (try split) <;> omega
      · simp only [cutW]
        split <;> omega
      · intro T t1 t2
        simp only [cutW] at t1 t2 hc ⊢
        refine hφ x (by simp) T ?_ ?_ ?_ ?_
        · split at t1 <;> omega
        · split at t2 <;> omega
        · split at t1 <;> omega
        · split at t2 <;> omega
    · rename_i hc
      have e : clampP a b x.t = clampP a b p := by
        simp only [cutW] at hc
        unfold clampP
        split at hc <;> split at hc <;> (repeat' split) <;> omega
      rw [e]; exact h

end Go.Proofs.YtmdbpbncdkdipaaDoor
namespace Go.Proofs.YtmdbpbncdkdipaaDoor
open Go.Asl
set_option maxRecDepth 100000
set_option maxHeartbeats 4000000
attribute [local irreducible] Go.Asl.wpG Go.Code.wpIn Go.Asl.DrawG Go.Asl.LvX Go.Asl.G
/-- How many spans a clip can lay. -/
def cutN (a b : Int) (xs : List Spn) : Nat := (xs.filter (fun s => decide (s.f < b) && decide (a < s.t))).length
theorem partW_cut (a b : Int) : ∀ (xs acc : List Spn), (partW xs a b acc).length ≤ acc.length + cutN a b xs
  | [], acc => by simp [partW]
  | s :: r, acc => by
    have h1 := partW_cut a b r (stepW a b acc s)
    have : partW (s :: r) a b acc = partW r a b (stepW a b acc s) := rfl
    rw [this]
    unfold cutN at h1 ⊢
    rw [List.filter_cons]
    split
    · have h2 := stepW_len a b acc s
      simp only [List.length_cons]; omega
    · rename_i hc
      have e : stepW a b acc s = acc := by
        unfold stepW
        rw [if_neg]
        simp only [Bool.and_eq_true, decide_eq_true_eq] at hc
        simp only [cutW]
        split <;> split <;> omega
      rw [e] at h1 ⊢; exact h1
theorem cutN_le (a b : Int) (xs : List Spn) : cutN a b xs ≤ xs.length := List.length_filter_le _ _
theorem cutN_two {c d u v : Int} (hcd : c ≤ d) : ∀ {xs : List Spn} {a w : Int}, validG a w xs = true → cutN u c xs + cutN d v xs ≤ xs.length + 1
  | [], _, _, _ => by simp [cutN]
  | x :: r, a, w, h => by
    rw [validG_cons] at h
    obtain ⟨g1, g2, g3, g4, g5, g6⟩ := h
    have ih := cutN_two hcd (u := u) (v := v) g6
    have hle := cutN_le d v r
    have hle' := cutN_le u c r
    by_cases hx : x.t ≤ d
    · have e : cutN d v (x :: r) = cutN d v r := by
        unfold cutN
        rw [List.filter_cons_of_neg]
        simp only [Bool.and_eq_true, decide_eq_true_eq]; omega
      have e2 : cutN u c (x :: r) ≤ cutN u c r + 1 := by
        unfold cutN
        rw [List.filter_cons]
        split <;> simp
      simp only [List.length_cons]; omega
    · have e : cutN u c r = 0 := by
        unfold cutN
        rw [List.length_eq_zero_iff, List.filter_eq_nil_iff]
        intro s hs
        have := mem_ge g6 hs
        simp only [Bool.and_eq_true, decide_eq_true_eq]; omega
      have e1 : cutN d v (x :: r) ≤ r.length + 1 := cutN_le d v (x :: r)
      have e2 : cutN u c (x :: r) ≤ cutN u c r + 1 := by
        unfold cutN
        rw [List.filter_cons]
        split <;> simp
      simp only [List.length_cons]; omega
theorem put_ok {xs : List Spn} {s : Spn} (hv : valid xs = true) (hi : isIn xs s.f s.t = true) (ho : isOwn s.o = true) (hl : xs.length ≤ 198) :
    ∃ ys, pput xs s = some ys ∧ valid ys = true ∧ endOf ys = endOf xs ∧ ys.length ≤ xs.length + 2 ∧ ∀ T, 0 ≤ T → T < endOf xs → ownAt ys T = if s.f ≤ T ∧ T < s.t then s.o else ownAt xs T := by
  have hv0 := hv
  unfold valid at hv
  rw [Bool.and_eq_true] at hv
  obtain ⟨hv, _⟩ := hv
  have hi0 := hi
  simp only [isIn, Bool.and_eq_true, decide_eq_true_eq] at hi
  rw [endOf_endG] at hi
  obtain ⟨⟨i1, i2⟩, i3⟩ := hi
  have he := validG_end hv
  have hne : xs ≠ [] := by rintro rfl; simp [endG] at i3; omega
  have hm := he.2 hne
  let φ : Int → Int := fun T => if s.f ≤ T ∧ T < s.t then s.o else ownAt xs T
  have hφ : ∀ x ∈ xs, ∀ T, x.f ≤ T → T < x.t → ¬ (s.f ≤ T ∧ T < s.t) → φ T = x.o := by
    intro x hx T t1 t2 hn
    show (if s.f ≤ T ∧ T < s.t then s.o else ownAt xs T) = x.o
    rw [if_neg hn, mem_own hv hx t1 t2]
  have o0 : Owns [] (clampP 0 s.f 0) φ := by
    refine ⟨rfl, ?_, by simp⟩
    unfold clampP
    rw [if_neg (by omega), if_neg (by omega)]; rfl
  have o1 := Owns.part (by omega) (by omega) hv o0 (fun x hx T t1 t2 t3 t4 => hφ x hx T t1 t2 (by omega))
  have e1 : clampP 0 s.f (endG 0 xs) = s.f := by
    unfold clampP
    rw [if_neg (by omega)]
    split <;> omega
  rw [e1] at o1
  have o2 := Owns.ext (s := s) o1 rfl i2 (by omega) ho (fun T t1 t2 => by
    show (if s.f ≤ T ∧ T < s.t then s.o else ownAt xs T) = s.o
    rw [if_pos ⟨t1, t2⟩])
  have e2 : s.t = clampP s.t (endG 0 xs) 0 := by
    unfold clampP
    rw [if_pos (by omega)]
  rw [e2] at o2
  have o3 := Owns.part (by omega) (by omega) hv o2 (fun x hx T t1 t2 t3 t4 => hφ x hx T t1 t2 (by omega))
  have e3 : clampP s.t (endG 0 xs) (endG 0 xs) = endG 0 xs := by
    unfold clampP
    rw [if_neg (by omega), if_neg (by omega)]
  rw [e3] at o3
  have l1 := partW_cut 0 s.f xs []
  have l2 := extS_len (partW xs 0 s.f []) s
  have l3 := partW_cut s.t (endG 0 xs) xs (extS (partW xs 0 s.f []) s)
  have l4 := cutN_two (c := s.f) (d := s.t) (u := 0) (v := endG 0 xs) (by omega) hv
  simp only [List.length_nil] at l1
  have hlen : (partW xs s.t (endG 0 xs) (extS (partW xs 0 s.f []) s)).length ≤ xs.length + 2 := by omega
  refine ⟨_, ?_, ?_, o3.2.1, hlen, fun T t1 t2 => o3.own t1 t2⟩
  · unfold pput
    rw [if_pos ⟨hv0, hi0, ho, by rw [endOf_endG]; omega⟩]; rfl
  · unfold valid
    rw [Bool.and_eq_true]
    exact ⟨o3.1, decide_eq_true (by omega)⟩
/-- Who owns a second once spans are painted. -/
def paintO (w : Int) (ss : List Spn) (T : Int) : Int := ss.foldl (fun o s => if s.f ≤ T ∧ T < s.t then s.o else o) w
theorem puts_ok : ∀ {ss xs : List Spn} {e : Int}, valid xs = true → endOf xs = e → (∀ s ∈ ss, 0 ≤ s.f ∧ s.f < s.t ∧ s.t ≤ e ∧ isOwn s.o = true) → xs.length + 2 * ss.length ≤ 200 →
    ∃ ys, ss.foldl stepP (some xs) = some ys ∧ valid ys = true ∧ endOf ys = e ∧ ys.length ≤ xs.length + 2 * ss.length ∧ ∀ T, 0 ≤ T → T < e → ownAt ys T = ss.foldl (fun o s => if s.f ≤ T ∧ T < s.t then s.o else o) (ownAt xs T)
  | [], xs, e, h1, h2, _, _ => ⟨xs, rfl, h1, h2, by simp, fun T _ _ => rfl⟩
  | s :: r, xs, e, h1, h2, h3, h4 => by
    obtain ⟨a1, a2, a3, a4⟩ := h3 s (by simp)
    simp only [List.length_cons] at h4
    obtain ⟨zs, z1, z2, z3, z4, z5⟩ := put_ok (s := s) h1 (by simp only [isIn, Bool.and_eq_true, decide_eq_true_eq]; omega) a4 (by omega)
    obtain ⟨ys, y1, y2, y3, y4, y5⟩ := puts_ok (ss := r) (xs := zs) (e := e) z2 (by omega) (fun x hx => h3 x (by simp [hx])) (by omega)
    refine ⟨ys, ?_, y2, y3, by simp only [List.length_cons]; omega, fun T t1 t2 => ?_⟩
    · rw [List.foldl_cons]
      show r.foldl stepP (pput xs s) = _
      rw [z1]; exact y1
    · rw [y5 T t1 t2, List.foldl_cons, z5 T t1 (by omega)]
theorem paint_ok {e w : Int} {ss : List Spn} (he : 0 ≤ e) (he' : e ≤ 10000000) (hw : isOwn w = true) (hs : ∀ s ∈ ss, 0 ≤ s.f ∧ s.f < s.t ∧ s.t ≤ e ∧ isOwn s.o = true) (hl : 1 + 2 * ss.length ≤ 200) :
    ∃ ys, ppaint e w ss = some ys ∧ valid ys = true ∧ endOf ys = e ∧ ys.length ≤ 1 + 2 * ss.length ∧ ∀ T, 0 ≤ T → T < e → ownAt ys T = paintO w ss T := by
  have hw' := isOwn_ne hw
  have hn : newS e w = some (if e = 0 then [] else [⟨0, e, w⟩]) := by
    unfold newS
    rw [if_pos ⟨he, he', hw⟩]
  by_cases h0 : e = 0
  · rw [if_pos h0] at hn
    obtain ⟨ys, y1, y2, y3, y4, y5⟩ := puts_ok (ss := ss) (xs := []) (e := e) (by decide) (by rw [h0]; rfl) hs (by simp only [List.length_nil]; omega)
    refine ⟨ys, by unfold ppaint; rw [hn]; exact y1, y2, y3, by simp only [List.length_nil] at y4; omega, fun T t1 t2 => by omega⟩
  · rw [if_neg h0] at hn
    have hv : valid [⟨0, e, w⟩] = true := by
      simp only [valid, validG, Bool.and_eq_true, decide_eq_true_eq, hw]
      refine ⟨⟨⟨⟨⟨⟨trivial, by omega⟩, by omega⟩, trivial⟩, by omega⟩, trivial⟩, by simp⟩
    obtain ⟨ys, y1, y2, y3, y4, y5⟩ := puts_ok (ss := ss) (xs := [⟨0, e, w⟩]) (e := e) hv rfl hs (by simp only [List.length_cons, List.length_nil]; omega)
    refine ⟨ys, by unfold ppaint; rw [hn]; exact y1, y2, y3, by simp only [List.length_cons, List.length_nil] at y4; omega, fun T t1 t2 => ?_⟩
    rw [y5 T t1 t2]
    have : ownAt [⟨0, e, w⟩] T = w := by
      unfold ownAt
      rw [List.find?_cons_of_pos (by rw [hit_iff]; exact ⟨t1, t2⟩)]
    rw [this]; rfl
/-- A line is told by its end and its owners. -/
theorem canon : ∀ {xs ys : List Spn} {a w w' : Int}, validG a w xs = true → validG a w' ys = true → endG a xs = endG a ys → (∀ T, a ≤ T → T < endG a xs → ownAt xs T = ownAt ys T) → xs = ys
  | [], [], _, _, _, _, _, _, _ => rfl
  | [], y :: r, a, w, w', _, hy, he, _ => by
    exfalso
    have h2 := (validG_cons.1 hy)
    have h3 := validG_end h2.2.2.2.2.2
    rw [endG_cons] at he
    simp only [endG, List.getLast?_nil] at he
    unfold endG at h3
    omega
  | x :: r, [], a, w, w', hx, _, he, _ => by
    exfalso
    have h2 := (validG_cons.1 hx)
    have h3 := validG_end h2.2.2.2.2.2
    rw [endG_cons] at he
    simp only [endG, List.getLast?_nil] at he
    unfold endG at h3
    omega
  | x :: r, y :: q, a, w, w', hx, hy, he, ho => by
    obtain ⟨x1, x2, x3, x4, x5, x6⟩ := validG_cons.1 hx
    obtain ⟨y1, y2, y3, y4, y5, y6⟩ := validG_cons.1 hy
    have ex := validG_end x6
    have ey := validG_end y6
    rw [endG_cons] at he ho
    rw [endG_cons] at he
    have eo : x.o = y.o := by
      have := ho a (by omega) (by omega)
      rwa [mem_own hx (s := x) (by simp) (by omega) (by omega), mem_own hy (s := y) (by simp) (by omega) (by omega)] at this
    have key : ∀ {u v : Spn} {p q : List Spn}, validG a w (u :: p) = true → validG a w' (v :: q) = true → u.o = v.o → endG u.t p = endG v.t q → (∀ T, a ≤ T → T < endG u.t p → ownAt (u :: p) T = ownAt (v :: q) T) → ¬ u.t < v.t := by
      intro u v p q hu hv heo hee hoo hlt
      obtain ⟨u1, u2, u3, u4, u5, u6⟩ := validG_cons.1 hu
      obtain ⟨v1, v2, v3, v4, v5, v6⟩ := validG_cons.1 hv
      have ev := validG_end v6
      have h1 := hoo u.t (by omega) (by omega)
      rw [mem_own hv (s := v) (by simp) (by omega) (by omega), own_cons (Int.le_refl _)] at h1
      cases p with
      | nil => simp only [endG, List.getLast?_nil] at hee; unfold endG at ev; omega
      | cons z p =>
        obtain ⟨z1, z2, z3, z4, z5, z6⟩ := validG_cons.1 u6
        rw [mem_own u6 (s := z) (by simp) (by omega) (by omega)] at h1
        exact z5 (by omega)
    have key2 : ∀ {u v : Spn} {p q : List Spn}, validG a w' (u :: p) = true → validG a w (v :: q) = true → u.o = v.o → endG u.t p = endG v.t q → (∀ T, a ≤ T → T < endG u.t p → ownAt (u :: p) T = ownAt (v :: q) T) → ¬ u.t < v.t := by
      intro u v p q hu hv heo hee hoo hlt
      obtain ⟨u1, u2, u3, u4, u5, u6⟩ := validG_cons.1 hu
      obtain ⟨v1, v2, v3, v4, v5, v6⟩ := validG_cons.1 hv
      have ev := validG_end v6
      have h1 := hoo u.t (by omega) (by omega)
      rw [mem_own hv (s := v) (by simp) (by omega) (by omega), own_cons (Int.le_refl _)] at h1
      cases p with
      | nil => simp only [endG, List.getLast?_nil] at hee; unfold endG at ev; omega
      | cons z p =>
        obtain ⟨z1, z2, z3, z4, z5, z6⟩ := validG_cons.1 u6
        rw [mem_own u6 (s := z) (by simp) (by omega) (by omega)] at h1
        exact z5 (by omega)
    have k1 := key hx hy eo he ho
    have k2 := key2 hy hx eo.symm he.symm (fun T t1 t2 => (ho T t1 (by omega)).symm)
    have et : x.t = y.t := by omega
    have exy : x = y := by
      cases x; cases y
      simp only at x1 y1 eo et
      subst x1 y1 eo et
      rfl
    subst exy
    rw [canon x6 y6 he (fun T t1 t2 => by
      have := ho T (by omega) t2
      rwa [own_cons t1, own_cons t1] at this)]
theorem canonV {xs ys : List Spn} (hx : valid xs = true) (hy : valid ys = true) (he : endOf xs = endOf ys) (ho : ∀ T, 0 ≤ T → T < endOf xs → ownAt xs T = ownAt ys T) : xs = ys := by
  unfold valid at hx hy
  rw [Bool.and_eq_true] at hx hy
  exact canon hx.1 hy.1 he ho

end Go.Proofs.YtmdbpbncdkdipaaDoor
namespace Go.Proofs.YtmdbpbncdkdipaaDoor
open Go.Asl
set_option maxRecDepth 100000
set_option maxHeartbeats 4000000
attribute [local irreducible] Go.Asl.wpG Go.Code.wpIn Go.Asl.DrawG Go.Asl.LvX Go.Asl.G
/-! ### The laws' lines and evidence, as plain lists -/
theorem spansS_ok (e : Int) (xs : List Tri) (h1 : 1 ≤ e) (h2 : e ≤ 10000000) : (spansS e xs).length ≤ 20 ∧ ∀ s ∈ spansS e xs, 0 ≤ s.f ∧ s.f < s.t ∧ s.t ≤ e ∧ isOwn s.o = true ∧ s.o ≤ 7 := by
  refine ⟨by simp [spansS]; omega, fun s hs => ?_⟩
  simp only [spansS, List.mem_map] at hs
  obtain ⟨p, _, rfl⟩ := hs
  have b1 := pickI_range p.1 e (by omega)
  have b2 := pickI_range p.2.1 (e - pickI p.1 e) (by omega)
  have b3 := pickI_range p.2.2 8 (by omega)
  have hi : isOwn (pickI p.2.2 8) = true := by simp only [isOwn, Bool.and_eq_true, decide_eq_true_eq]; omega
  refine ⟨b1.1, ?_, ?_, hi, ?_⟩
  all_goals simp only [spanOf]
  all_goals omega
theorem made_ok (n : Int) (x : List Tri) : valid (madeS n x) = true ∧ endOf (madeS n x) = 1 + pickI n 400 ∧ (madeS n x).length ≤ 41 ∧ ∀ T, 0 ≤ T → T < 1 + pickI n 400 → ownAt (madeS n x) T = paintO 0 (spansS (1 + pickI n 400) x) T := by
  have b := pickI_range n 400 (by omega)
  obtain ⟨h1, h2⟩ := spansS_ok (1 + pickI n 400) x (by omega) (by omega)
  obtain ⟨ys, y1, y2, y3, y4, y5⟩ := paint_ok (e := 1 + pickI n 400) (w := 0) (ss := spansS (1 + pickI n 400) x) (by omega) (by omega) (by decide) (fun s hs => by have := h2 s hs; exact ⟨this.1, this.2.1, this.2.2.1, this.2.2.2.1⟩) (by omega)
  have e : madeS n x = ys := by unfold madeS; rw [rpaint_eq, y1]; rfl
  rw [e]
  exact ⟨y2, y3, by omega, y5⟩
theorem verdV_ok (w v : Int) : verOk (verdV w v) = true := by
  have := pickI_range v 96 (by omega)
  unfold verdV
  split
  · rfl
  · split
    · rfl
    · split
      · rw [verOk_iff]; exact ⟨Int.le_refl _, by simp only; omega, by simp only; omega, by simp only; omega, .inl rfl⟩
      · split
        · rfl
        · split
          · rw [verOk_iff]; exact ⟨Int.le_refl _, by simp only; omega, by simp only; omega, by simp only; omega, .inl rfl⟩
          · rfl
theorem vOk_iff (xs : List Ver) : vOk xs = true ↔ (∀ v ∈ xs, verOk v = true) ∧ xs.length ≤ 200 := by
  simp only [vOk, Bool.and_eq_true, List.all_eq_true, decide_eq_true_eq]
theorem evN_le (line : List Spn) (raw : List Duo) : evN line raw ≤ 60 ∧ (valid line = true → (evN line raw : Int) ≤ endOf line ∨ evN line raw = 0) := by
  unfold evN
  refine ⟨by omega, fun h => ?_⟩
  rw [if_pos h]; omega
theorem evidA_len (line : List Spn) (raw : List Duo) (n : Nat) : (evidA line raw n).length = n := by simp [evidA]
theorem evidB_len (line : List Spn) (raw : List Duo) (n : Nat) : (evidB line raw n).length = n := by simp [evidB]
theorem evidA_ok (line : List Spn) (raw : List Duo) (n : Nat) : ∀ v ∈ evidA line raw n, verOk v = true := by
  intro v hv
  simp only [evidA, List.mem_map] at hv
  obtain ⟨i, _, rfl⟩ := hv
  exact verdV_ok _ _
theorem evidB_ok (line : List Spn) (raw : List Duo) (n : Nat) : ∀ v ∈ evidB line raw n, verOk v = true := by
  intro v hv
  simp only [evidB, List.mem_map] at hv
  obtain ⟨i, _, rfl⟩ := hv
  exact verdV_ok _ _
theorem jv {line : List Spn} {a b : List Ver} (hv : valid line = true) (ha : ∀ v ∈ a, verOk v = true) (hb : ∀ v ∈ b, verOk v = true) (hl : b.length = a.length) (h2 : a.length ≤ 200) (h3 : (a.length : Int) ≤ endOf line) : jvalid line 0 a b = true := by
  have h4 : vOk a = true := (vOk_iff a).2 ⟨ha, h2⟩
  have h5 : vOk b = true := (vOk_iff b).2 ⟨hb, by omega⟩
  simp only [jvalid, hv, h4, h5, hl, Bool.true_and, decide_true, Bool.and_eq_true, decide_eq_true_eq]
  omega
theorem end_pos {line : List Spn} (h : valid line = true) : 0 ≤ endOf line := (endOf_range h).1
theorem jv_evid {line : List Spn} (hv : valid line = true) (raw : List Duo) : jvalid line 0 (evidA line raw (evN line raw)) (evidB line raw (evN line raw)) = true ∧ jvalid line 0 (evidB line raw (evN line raw)) (evidA line raw (evN line raw)) = true := by
  have h1 := evN_le line raw
  have h2 := h1.2 hv
  have h0 := end_pos hv
  have la := evidA_len line raw (evN line raw)
  have lb := evidB_len line raw (evN line raw)
  exact ⟨jv hv (evidA_ok _ _ _) (evidB_ok _ _ _) (by omega) (by omega) (by omega), jv hv (evidB_ok _ _ _) (evidA_ok _ _ _) (by omega) (by omega) (by omega)⟩
/-! ### What the judge's fold keeps -/
theorem certain_symm (v w : Ver) (h : certain v w = true) : v = w := ((certain_iff v w).1 h).1
theorem certain_comm (v w : Ver) : certain v w = certain w v := by
  rw [Bool.eq_iff_iff, certain_iff, certain_iff]
  constructor
  · rintro ⟨rfl, h⟩; exact ⟨rfl, h⟩
  · rintro ⟨rfl, h⟩; exact ⟨rfl, h⟩
theorem sureF_comm {σ : Type} (st : σ → Int → Int → Ver → σ) (line : List Spn) : ∀ (a b : List Ver) (t : Int) (q : σ), sureF st line t a b q = sureF st line t b a q
  | [], [], _, _ => rfl
  | [], _ :: _, _, _ => rfl
  | _ :: _, [], _, _ => rfl
  | v :: a, w :: b, t, q => by
    simp only [sureF]
    rw [sureF_comm st line a b, certain_comm v w]
    by_cases h : certain w v = true
    · rw [if_pos h, if_pos h, certain_symm w v h]
    · rw [if_neg h, if_neg h]
/-- What holds of the judge's counts up to a second. -/
def Jinv (q : Jst) (t : Int) : Prop := 0 ≤ q.ag ∧ q.ag ≤ q.su ∧ q.su ≤ t ∧ (q.ag = 0 → q.at' = -1) ∧ (q.ag ≠ 0 → 0 ≤ q.at' ∧ q.at' < t)
theorem Jinv.step {known : List Int} {q : Jst} {t w : Int} {v : Ver} (h : Jinv q t) : Jinv (stepJ known q t w v) (t + 1) := by
  obtain ⟨h1, h2, h3, h4, h5⟩ := h
  unfold stepJ Jinv
  split
  · simp only
    refine ⟨by omega, by omega, by omega, by omega, fun _ => ?_⟩
    split
    · omega
    · have := h5 (by assumption); omega
  · simp only
    refine ⟨by omega, by omega, by omega, h4, fun h => ?_⟩
    have := h5 h; omega
theorem Jinv.mono {q : Jst} {t : Int} (h : Jinv q t) : Jinv q (t + 1) := by
  obtain ⟨h1, h2, h3, h4, h5⟩ := h
  exact ⟨h1, h2, by omega, h4, fun h => by have := h5 h; omega⟩
theorem Jinv.sure {known : List Int} {line : List Spn} : ∀ {a b : List Ver} {t : Int} {q : Jst}, b.length = a.length → Jinv q t → Jinv (sureF (stepJ known) line t a b q) (t + a.length)
  | [], [], t, q, _, h => by simpa [sureF] using h
  | v :: a, w :: b, t, q, hl, h => by
    simp only [sureF, List.length_cons]
    rw [show t + ((a.length + 1 : Nat) : Int) = t + 1 + a.length by omega]
    refine Jinv.sure (by simpa using hl) ?_
    split
    · exact h.step
    · exact h.mono
theorem Jinv.zero : Jinv ⟨-1, 0, 0⟩ 0 := ⟨by simp, by simp, by simp, by simp, by simp⟩

end Go.Proofs.YtmdbpbncdkdipaaDoor
namespace Go.Proofs.YtmdbpbncdkdipaaDoor
open Go.Asl
set_option maxRecDepth 100000
set_option maxHeartbeats 4000000
attribute [local irreducible] Go.Asl.wpG Go.Code.wpIn Go.Asl.DrawG Go.Asl.LvX Go.Asl.G
theorem wrapR (z : Int) : R64 (IntKind.i64.wrap z) := by
  unfold R64
  rw [IntKind.wrap_i64]; omega
def sil : Ver := ⟨3, 0⟩
/-- Evidence of which some is struck out. -/
def DRel (a b x y : List Ver) : Prop := x.length = a.length ∧ y.length = b.length ∧ (∀ v ∈ x, verOk v = true) ∧ (∀ v ∈ y, verOk v = true) ∧ ∀ i : Nat, (x[i]? = a[i]? ∧ y[i]? = b[i]?) ∨ x[i]? = some sil ∨ y[i]? = some sil
theorem DRel.setA {a b x y : List Ver} {j : Nat} (h : DRel a b x y) (hj : j < x.length) : DRel a b (x.set j sil) y := by
  obtain ⟨h1, h2, h3, h4, h5⟩ := h
  refine ⟨by simpa using h1, h2, fun v hv => ?_, h4, fun i => ?_⟩
  · rcases List.mem_or_eq_of_mem_set hv with hv | rfl
    · exact h3 v hv
    · rfl
  · by_cases e : j = i
    · subst e
      right; left
      rw [List.getElem?_set_self hj]
    · rw [List.getElem?_set_ne e]
      exact h5 i
theorem DRel.setB {a b x y : List Ver} {j : Nat} (h : DRel a b x y) (hj : j < y.length) : DRel a b x (y.set j sil) := by
  obtain ⟨h1, h2, h3, h4, h5⟩ := h
  refine ⟨h1, by simpa using h2, h3, fun v hv => ?_, fun i => ?_⟩
  · rcases List.mem_or_eq_of_mem_set hv with hv | rfl
    · exact h4 v hv
    · rfl
  · by_cases e : j = i
    · subst e
      right; right
      rw [List.getElem?_set_self hj]
    · rw [List.getElem?_set_ne e]
      exact h5 i
theorem DRel.tail {a b x y : List Ver} {v w v' w' : Ver} (h : DRel (v :: a) (w :: b) (v' :: x) (w' :: y)) : DRel a b x y ∧ ((v' = v ∧ w' = w) ∨ v' = sil ∨ w' = sil) := by
  obtain ⟨h1, h2, h3, h4, h5⟩ := h
  refine ⟨⟨by simpa using h1, by simpa using h2, fun u hu => h3 u (by simp [hu]), fun u hu => h4 u (by simp [hu]), fun i => ?_⟩, ?_⟩
  · simpa using h5 (i + 1)
  · simpa using h5 0
/-- How the counts stand to each other when evidence is struck out. -/
def Less (p q : Jst) : Prop := p.su ≤ q.su ∧ p.ag ≤ q.ag ∧ (p.ag ≠ 0 → q.at' ≤ p.at')
theorem Less.sure {known : List Int} {line : List Spn} : ∀ {a b x y : List Ver} {t : Int} {p q : Jst}, DRel a b x y → b.length = a.length → Jinv p t → Jinv q t → Less p q → Less (sureF (stepJ known) line t x y p) (sureF (stepJ known) line t a b q)
  | [], [], [], [], t, p, q, _, _, _, _, h => h
  | [], [], v :: x, _, t, p, q, hd, _, _, _, _ => by have := hd.1; simp at this
  | [], [], [], w :: y, t, p, q, hd, _, _, _, _ => by have := hd.2.1; simp at this
  | v :: a, w :: b, [], _, t, p, q, hd, _, _, _, _ => by have := hd.1; simp at this
  | v :: a, w :: b, _ :: _, [], t, p, q, hd, _, _, _, _ => by have := hd.2.1; simp at this
  | v :: a, w :: b, v' :: x, w' :: y, t, p, q, hd, hl, hp, hq, h => by
    obtain ⟨hd1, hd2⟩ := hd.tail
    simp only [sureF]
    have key : certain v' w' = true → v' = v ∧ w' = w := by
      intro hc
      have hc' := (certain_iff _ _).1 hc
      rcases hd2 with h2 | h2 | h2
      · exact h2
      · rw [h2] at hc'; simp [sil] at hc'
      · rw [hc'.1, h2] at hc'; simp [sil] at hc'
    refine Less.sure hd1 (by simpa using hl) ?_ ?_ ?_
    · split
      · exact hp.step
      · exact hp.mono
    · split
      · exact hq.step
      · exact hq.mono
    · obtain ⟨p1, p2, p3, p4, p5⟩ := hp
      obtain ⟨q1, q2, q3, q4, q5⟩ := hq
      obtain ⟨l1, l2, l3⟩ := h
      by_cases hc' : certain v' w' = true
      · obtain ⟨rfl, rfl⟩ := key hc'
        rw [if_pos hc', if_pos hc']
        unfold stepJ Less
        split
        · simp only
          refine ⟨by omega, by omega, fun _ => ?_⟩
          by_cases e : q.ag = 0
          · rw [if_pos e, if_pos (by omega)]; omega
          · rw [if_neg e]
            by_cases e2 : p.ag = 0
            · rw [if_pos e2]; have := q5 e; omega
            · rw [if_neg e2]; exact l3 e2
        · exact ⟨by simp only; omega, l2, l3⟩
      · rw [if_neg hc']
        by_cases hc : certain v w = true
        · rw [if_pos hc]
          unfold stepJ Less
          split
          · simp only
            refine ⟨by omega, by omega, fun e => ?_⟩
            rw [if_neg (by omega)]
            exact l3 e
          · exact ⟨by simp only; omega, l2, l3⟩
        · rw [if_neg hc]; exact ⟨l1, l2, l3⟩
theorem verset (xs : List Ver) (i : Nat) (y : Ver) : (xs.map verA).set i (verA y) = (xs.set i y).map verA := by
  rw [List.map_set]
theorem c_law38_Doubts (n : Int) (x : List Tri) (raw : List Duo) (ds : List Int) (hn : R64 n) (hx : ∀ p ∈ x, R64t p) (hraw : ∀ p ∈ raw, R64d p) (hds : ∀ d ∈ ds, R64 d)
    (hxl : x.length ≤ 9223372036854775807) (hrl : raw.length ≤ 9223372036854775807) : FnP Kx 4 [.int .i64 n, triL x, duoL raw, intL ds] (.bool true) := by
  refine FnT_of_body ent4 Tryd.func4 rfl Tryd.ntmps4 rfl (fun C0 hC0 => ?_)
  obtain ⟨hv, he, hl, ho⟩ := made_ok n x
  generalize hL : madeS n x = L at hv he hl ho
  obtain ⟨j1, j2⟩ := jv_evid hv raw
  have okA := evidA_ok L raw (evN L raw)
  have okB := evidB_ok L raw (evN L raw)
  have lA := evidA_len L raw (evN L raw)
  have lB := evidB_len L raw (evN L raw)
  have lN := (evN_le L raw).1
  generalize hA : evidA L raw (evN L raw) = A at j1 j2 okA lA
  generalize hB : evidB L raw (evN L raw) = B at j1 j2 okB lB
  repeat' (first | refine G_ops Kx_ok 6 rfl ?_ | refine G_op Kx_ok rfl ?_ | refine G_run rfl rfl rfl ?_ | refine G_nil ?_ | refine G_seq ?_ | refine G_region rfl ?_ | refine G_skip ?_ | refine G_block ?_ | refine G_drawn Kx_mixed rfl ?_ | refine D_ops Kx_ok 6 rfl ?_ | refine D_op Kx_ok rfl ?_ | refine D_nil rfl ?_ | refine G_cond_t rfl ?_ | refine G_cond_f rfl ?_ | refine G_exit ?_ | refine G_appA Kx_ok rfl rfl rfl rfl rfl rfl rfl rfl rfl (fun zs e => by cases e <;> (intro y hy; obtain ⟨_, _, rfl⟩ := List.mem_map.1 hy; exact ⟨_, rfl, rfl⟩)) rfl (by first | omega | (simp at * <;> omega)) rfl rfl rfl ?_ | refine D_appA Kx_ok rfl rfl rfl rfl rfl rfl rfl rfl rfl rfl (fun zs e => by cases e <;> (intro y hy; obtain ⟨_, _, rfl⟩ := List.mem_map.1 hy; exact ⟨_, rfl, rfl⟩)) rfl (by first | omega | (simp at * <;> omega)) rfl rfl rfl rfl ?_ | refine G_appN Kx_ok rfl rfl rfl rfl rfl rfl rfl rfl (fun zs e => by cases e <;> (intro y hy; obtain ⟨_, _, rfl⟩ := List.mem_map.1 hy; exact ⟨_, rfl, rfl⟩)) rfl (by first | omega | (simp at * <;> omega)) rfl rfl rfl ?_ | refine D_appN Kx_ok rfl rfl rfl rfl rfl rfl rfl rfl rfl (fun zs e => by cases e <;> (intro y hy; obtain ⟨_, _, rfl⟩ := List.mem_map.1 hy; exact ⟨_, rfl, rfl⟩)) rfl (by first | omega | (simp at * <;> omega)) rfl rfl rfl rfl ?_ | refine G_callP rfl rfl rfl rfl (c_law38_sane) rfl rfl rfl ?_ | refine D_call rfl rfl rfl rfl rfl (c_law38_sane) rfl rfl rfl rfl ?_ | refine G_callP rfl rfl rfl rfl ((c_ref15_Made n x hn hx hxl).eq (congrArg spL hL)) rfl rfl rfl ?_ | refine D_call rfl rfl rfl rfl rfl ((c_ref15_Made n x hn hx hxl).eq (congrArg spL hL)) rfl rfl rfl rfl ?_ | refine G_callP rfl rfl rfl rfl ((c_ref38_Evidence L raw (by omega) hraw hrl).eq (show _ = AV.tup [verL A, verL B] by rw [hA, hB])) rfl rfl rfl ?_ | refine D_call rfl rfl rfl rfl rfl ((c_ref38_Evidence L raw (by omega) hraw hrl).eq (show _ = AV.tup [verL A, verL B] by rw [hA, hB])) rfl rfl rfl rfl ?_ | refine G_splitD rfl (fun h => ?_) (fun h => ?_) | refine D_splitD rfl (fun h => ?_) (fun h => ?_) | ((fail_if_success refine G_isL rfl rfl ?_); refine G_split rfl (fun h => ?_) (fun h => ?_)) | ((fail_if_success refine D_isL rfl rfl ?_); refine D_split rfl (fun h => ?_) (fun h => ?_)) | refine G_condD rfl (fun h => ?_) (fun h => ?_) | refine G_condN rfl (fun h => ?_) (fun h => ?_) | refine G_cond rfl (fun h => ?_) (fun h => ?_) | refine G_ret (G_leave ?_))
  refine G_wk [(3, intL ds), (9, spL L), (10, verL A), (11, verL B), (12, .own 1), (13, .own 3), (14, .int .i64 0)] [(1, verO A), (3, verO B)] hC0 rfl rfl (by repeat' (first | exact trivial | refine ⟨⟨rfl, rfl⟩, ?_⟩ | refine ⟨⟨iv (by first | rfl | omega | (rw [w64 (by omega) (by omega)]; omega)), rfl⟩, ?_⟩)) (by repeat' (first | exact trivial | refine ⟨.inl rfl, ?_⟩ | refine ⟨.inr ⟨rfl, rfl⟩, ?_⟩ | refine ⟨.inr ⟨arrE (by first | rfl | (rw [List.map_append]; rfl)), rfl⟩, ?_⟩)) (by repeat' (first | exact trivial | refine ⟨⟨rfl, rfl⟩, ?_⟩)) ?_
  refine G_loopF (fun (p : Nat × List Ver × List Ver) => [(14, .int .i64 p.1)]) (fun p => [(1, verO p.2.1), (3, verO p.2.2)]) (fun p => p.1 ≤ ds.length ∧ p.1 ≤ 40 ∧ DRel A B p.2.1 p.2.2) (fun p => ds.length - p.1) (0, A, B) rfl
    ⟨by simp, by simp, rfl, rfl, okA, okB, fun i => .inl ⟨rfl, rfl⟩⟩ (G_atL hC0 rfl rfl (by repeat' (first | exact trivial | refine ⟨⟨rfl, rfl⟩, ?_⟩ | refine ⟨⟨iv (by first | rfl | omega | (rw [w64 (by omega) (by omega)]; omega)), rfl⟩, ?_⟩)) (by repeat' (first | exact trivial | refine ⟨.inl rfl, ?_⟩ | refine ⟨.inr ⟨rfl, rfl⟩, ?_⟩ | refine ⟨.inr ⟨arrE (by first | rfl | (rw [List.map_append]; rfl)), rfl⟩, ?_⟩)) (by repeat' (first | exact trivial | refine ⟨⟨rfl, rfl⟩, ?_⟩))) ?_
  rintro ⟨i, a2, b2⟩ ⟨h1, h2, h3⟩
  dsimp only [List.cons_append, List.nil_append] at *
  obtain ⟨d1, d2, d3, d4, d5⟩ := id h3
  repeat' (first | refine G_ops Kx_ok 6 rfl ?_ | refine G_op Kx_ok rfl ?_ | refine G_run rfl rfl rfl ?_ | refine G_nil ?_ | refine G_seq ?_ | refine G_region rfl ?_ | refine G_skip ?_ | refine G_block ?_ | refine G_drawn Kx_mixed rfl ?_ | refine D_ops Kx_ok 6 rfl ?_ | refine D_op Kx_ok rfl ?_ | refine D_nil rfl ?_ | refine G_cond_t rfl ?_ | refine G_cond_f rfl ?_ | refine G_exit ?_ | refine G_splitD rfl (fun h => ?_) (fun h => ?_) | refine D_splitD rfl (fun h => ?_) (fun h => ?_) | ((fail_if_success refine G_isL rfl rfl ?_); refine G_split rfl (fun h => ?_) (fun h => ?_)) | ((fail_if_success refine D_isL rfl rfl ?_); refine D_split rfl (fun h => ?_) (fun h => ?_)) | refine G_condD rfl (fun h => ?_) (fun h => ?_) | refine G_condN rfl (fun h => ?_) (fun h => ?_) | refine G_cond rfl (fun h => ?_) (fun h => ?_) | refine G_ret (G_leave ?_))
  · obtain ⟨d, hd, hdd⟩ := drop_get (xs := ds) (i := i) (by simp at * <;> omega)
    have hlt : i < ds.length := by simp at * <;> omega
    have hpos : 0 < a2.length := by simp at * <;> omega
    have rd := hds d (List.mem_of_getElem? hd)
    have lm : (List.map verA a2).length = a2.length := by simp
    have lm' : (List.map verA b2).length = b2.length := by simp
    have b := pickI_range (IntKind.i64.wrap (d.tdiv 3)) (((List.map verA a2).length : Nat) : Int) (by omega)
    generalize hj : pickI (IntKind.i64.wrap (d.tdiv 3)) (((List.map verA a2).length : Nat) : Int) = j at b
    obtain ⟨u, hu⟩ : ∃ u, a2[j.toNat]? = some u := ⟨a2[j.toNat]'(by omega), List.getElem?_eq_getElem (by omega)⟩
    obtain ⟨v, hv2⟩ : ∃ v, b2[j.toNat]? = some v := ⟨b2[j.toNat]'(by omega), List.getElem?_eq_getElem (by omega)⟩
    repeat' (first | refine G_ops Kx_ok 6 rfl ?_ | refine G_op Kx_ok rfl ?_ | refine G_run rfl rfl rfl ?_ | refine G_nil ?_ | refine G_seq ?_ | refine G_region rfl ?_ | refine G_skip ?_ | refine G_block ?_ | refine G_drawn Kx_mixed rfl ?_ | refine D_ops Kx_ok 6 rfl ?_ | refine D_op Kx_ok rfl ?_ | refine D_nil rfl ?_ | refine G_cond_t rfl ?_ | refine G_cond_f rfl ?_ | refine G_exit ?_ | (refine G_index_lst Kx_ok rfl rfl rfl rfl rfl (map_get (x := d) (by simpa using hd)) (by omega) rfl rfl rfl ?_) | (refine D_index_lst Kx_ok _ rfl rfl rfl rfl rfl rfl (map_get (x := d) (by simpa using hd)) (by omega) rfl rfl rfl rfl ?_) | refine G_index_own Kx_ok rfl rfl rfl rfl rfl rfl rfl (by omega) (by first | omega | (simp at * <;> omega)) rfl ?_ | refine D_index_own Kx_ok rfl rfl rfl rfl rfl rfl rfl rfl (by omega) (by first | omega | (simp at * <;> omega)) rfl rfl ?_ | refine G_store_elem Kx_ok rfl rfl rfl rfl (map_get (x := u) (by simpa using hu)) rfl rfl rfl rfl rfl rfl ?_ | refine D_store_elem Kx_ok rfl rfl rfl rfl rfl (map_get (x := u) (by simpa using hu)) rfl rfl rfl rfl rfl rfl rfl ?_ | refine G_store_elem Kx_ok rfl rfl rfl rfl (map_get (x := v) (by simpa using hv2)) rfl rfl rfl rfl rfl rfl ?_ | refine D_store_elem Kx_ok rfl rfl rfl rfl rfl (map_get (x := v) (by simpa using hv2)) rfl rfl rfl rfl rfl rfl rfl ?_ | refine G_callP rfl rfl rfl rfl ((c_law38_pick (IntKind.i64.wrap (d.tdiv 3)) (((List.map verA a2).length : Nat) : Int) (wrapR _) (by omega)).eq (congrArg (AV.int .i64) hj)) rfl rfl rfl ?_ | refine D_call rfl rfl rfl rfl rfl ((c_law38_pick (IntKind.i64.wrap (d.tdiv 3)) (((List.map verA a2).length : Nat) : Int) (wrapR _) (by omega)).eq (congrArg (AV.int .i64) hj)) rfl rfl rfl rfl ?_ | refine G_callP rfl rfl rfl rfl (c_law38_pick d 3 rd (by omega)) rfl rfl rfl ?_ | refine D_call rfl rfl rfl rfl rfl (c_law38_pick d 3 rd (by omega)) rfl rfl rfl rfl ?_ | refine G_splitD rfl (fun h => ?_) (fun h => ?_) | refine D_splitD rfl (fun h => ?_) (fun h => ?_) | ((fail_if_success refine G_isL rfl rfl ?_); refine G_split rfl (fun h => ?_) (fun h => ?_)) | ((fail_if_success refine D_isL rfl rfl ?_); refine D_split rfl (fun h => ?_) (fun h => ?_)) | refine G_condD rfl (fun h => ?_) (fun h => ?_) | refine G_condN rfl (fun h => ?_) (fun h => ?_) | refine G_cond rfl (fun h => ?_) (fun h => ?_) | refine G_ret (G_leave ?_))
    · refine G_arr (t := 1) (ys' := (a2.set j.toNat sil).map verA) rfl (verset a2 j.toNat sil) ?_
      exact G_nextF (i + 1, a2.set j.toNat sil, b2) ⟨by omega, by simp at * <;> omega, h3.setA (by omega)⟩ (by simp only; omega) (G_atL hC0 rfl rfl (by repeat' (first | exact trivial | refine ⟨⟨rfl, rfl⟩, ?_⟩ | refine ⟨⟨iv (by first | rfl | omega | (rw [w64 (by omega) (by omega)]; omega)), rfl⟩, ?_⟩)) (by repeat' (first | exact trivial | refine ⟨.inl rfl, ?_⟩ | refine ⟨.inr ⟨rfl, rfl⟩, ?_⟩ | refine ⟨.inr ⟨arrE (by first | rfl | (rw [List.map_append]; rfl)), rfl⟩, ?_⟩)) (by repeat' (first | exact trivial | refine ⟨⟨rfl, rfl⟩, ?_⟩)))
    · refine G_arr (t := 3) (ys' := (b2.set j.toNat sil).map verA) rfl (verset b2 j.toNat sil) ?_
      exact G_nextF (i + 1, a2, b2.set j.toNat sil) ⟨by omega, by simp at * <;> omega, h3.setB (by omega)⟩ (by simp only; omega) (G_atL hC0 rfl rfl (by repeat' (first | exact trivial | refine ⟨⟨rfl, rfl⟩, ?_⟩ | refine ⟨⟨iv (by first | rfl | omega | (rw [w64 (by omega) (by omega)]; omega)), rfl⟩, ?_⟩)) (by repeat' (first | exact trivial | refine ⟨.inl rfl, ?_⟩ | refine ⟨.inr ⟨rfl, rfl⟩, ?_⟩ | refine ⟨.inr ⟨arrE (by first | rfl | (rw [List.map_append]; rfl)), rfl⟩, ?_⟩)) (by repeat' (first | exact trivial | refine ⟨⟨rfl, rfl⟩, ?_⟩)))
  all_goals refine G_freeze (m := 1) 12 rfl rfl ?_
  all_goals refine G_freeze (m := 3) 13 rfl rfl ?_
  all_goals have j3 : jvalid L 0 a2 b2 = true := jv hv d3 d4 (by omega) (by omega) (by have := (jvalid_len j1).2.2.2.2.1; omega)
  all_goals have hI1 := Jinv.sure (known := [0, 1, 2, 3, 4, 5]) (line := L) (a := A) (b := B) (by omega) Jinv.zero
  all_goals have hLe := Less.sure (known := [0, 1, 2, 3, 4, 5]) (line := L) h3 (by omega) Jinv.zero Jinv.zero ⟨Int.le_refl _, Int.le_refl _, fun _ => Int.le_refl _⟩
  all_goals have hI2 := Jinv.sure (known := [0, 1, 2, 3, 4, 5]) (line := L) (a := a2) (b := b2) (by omega) Jinv.zero
  all_goals generalize hq1 : sureF (stepJ [0, 1, 2, 3, 4, 5]) L 0 A B ⟨-1, 0, 0⟩ = q1 at hI1 hLe
  all_goals generalize hq2 : sureF (stepJ [0, 1, 2, 3, 4, 5]) L 0 a2 b2 ⟨-1, 0, 0⟩ = q2 at hI2 hLe
  all_goals obtain ⟨l1, l2, l3⟩ := hLe
  all_goals obtain ⟨k1, _, _, _, _⟩ := hI2
  all_goals clear hI1
  all_goals repeat' (first | refine G_ops Kx_ok 6 rfl ?_ | refine G_op Kx_ok rfl ?_ | refine G_run rfl rfl rfl ?_ | refine G_nil ?_ | refine G_seq ?_ | refine G_region rfl ?_ | refine G_skip ?_ | refine G_block ?_ | refine G_drawn Kx_mixed rfl ?_ | refine D_ops Kx_ok 6 rfl ?_ | refine D_op Kx_ok rfl ?_ | refine D_nil rfl ?_ | refine G_cond_t rfl ?_ | refine G_cond_f rfl ?_ | refine G_exit ?_ | refine G_splitD rfl (fun h => absurd rfl h) (fun h => ?_) | refine D_splitD rfl (fun h => absurd rfl h) (fun h => ?_) | refine G_splitD rfl (fun h => ?_) (fun h => absurd rfl h) | refine D_splitD rfl (fun h => ?_) (fun h => absurd rfl h) | refine G_callP rfl rfl rfl rfl (c_ref38_Known) rfl rfl rfl ?_ | refine D_call rfl rfl rfl rfl rfl (c_ref38_Known) rfl rfl rfl rfl ?_ | refine G_callP rfl rfl rfl rfl ((c_judge_Judge L 0 A B [0, 1, 2, 3, 4, 5] (by omega) (by omega) (by omega) (by simp)).eq (show _ = AV.tup [rulA (some q1), .int .i64 0] by rw [pjudge, if_pos j1, hq1]; rfl)) rfl rfl rfl ?_ | refine D_call rfl rfl rfl rfl rfl ((c_judge_Judge L 0 A B [0, 1, 2, 3, 4, 5] (by omega) (by omega) (by omega) (by simp)).eq (show _ = AV.tup [rulA (some q1), .int .i64 0] by rw [pjudge, if_pos j1, hq1]; rfl)) rfl rfl rfl rfl ?_ | refine G_callP rfl rfl rfl rfl ((c_judge_Judge L 0 a2 b2 [0, 1, 2, 3, 4, 5] (by omega) (by omega) (by omega) (by simp)).eq (show _ = AV.tup [rulA (some q2), .int .i64 0] by rw [pjudge, if_pos j3, hq2]; rfl)) rfl rfl rfl ?_ | refine D_call rfl rfl rfl rfl rfl ((c_judge_Judge L 0 a2 b2 [0, 1, 2, 3, 4, 5] (by omega) (by omega) (by omega) (by simp)).eq (show _ = AV.tup [rulA (some q2), .int .i64 0] by rw [pjudge, if_pos j3, hq2]; rfl)) rfl rfl rfl rfl ?_ | refine G_splitD rfl (fun h => ?_) (fun h => ?_) | refine D_splitD rfl (fun h => ?_) (fun h => ?_) | ((fail_if_success refine G_isL rfl rfl ?_); refine G_split rfl (fun h => ?_) (fun h => ?_)) | ((fail_if_success refine D_isL rfl rfl ?_); refine D_split rfl (fun h => ?_) (fun h => ?_)) | refine G_condD rfl (fun h => ?_) (fun h => ?_) | refine G_condN rfl (fun h => ?_) (fun h => ?_) | refine G_cond rfl (fun h => ?_) (fun h => ?_) | refine G_ret (G_leave ?_))
  all_goals first
    | exact G_return Kx_ok rfl rfl
    | (refine G_return Kx_ok rfl ?_
       simp only [resV, AV.bool.injEq, decide_eq_true_eq, Bool.not_eq_true', Bool.not_eq_false', decide_eq_false_iff_not] at *
       first
         | omega
         | (exfalso; omega))

end Go.Proofs.YtmdbpbncdkdipaaDoor
namespace Go.Proofs.YtmdbpbncdkdipaaDoor
open Go.Asl Go.ChangeShapes Go.WideShapes Go.ChangeAt Go.RowKit
set_option maxRecDepth 100000
set_option maxHeartbeats 4000000
attribute [local irreducible] Go.Asl.wpG Go.Code.wpIn Go.Asl.DrawG Go.Asl.LvX Go.Asl.G
abbrev fv (f : Nat) : Value := .func (.func f) #[] #[]
theorem trod_func' {W : World} {t : Nat} {a b : Array TypeId} {v : Bool} (hu : Tryd.prog.underlying t = some (.func a b v)) {n : Nat} {cs : List Value} {c : UInt8} {r : List UInt8} {p : List MemPlace}
    (h : DataW.trod (funcToken Tryd.prog) Tryd.prog W 0 (fun _ => true) true n t cs = some (.held (c :: r), p)) : ∃ f fn, cs = [fv f] ∧ Tryd.prog.funcs[f]? = some fn ∧ fn.name.toUTF8.data.toList = c :: r := by
  cases n with
  | zero => simp [DataW.trod] at h
  | succ n =>
    rcases cs with _ | ⟨x, _ | ⟨x2, r'⟩⟩
    · simp [DataW.trod, hu] at h
    · cases x with
      | func g first caps =>
        simp only [DataW.trod, hu, if_true, Option.some.injEq, Prod.mk.injEq, DataW.held.injEq] at h
        obtain ⟨f, fn, e1, e2, _, e4⟩ := funcToken_tells h.1
        exact ⟨f, fn, by rw [e1], e2, e4⟩
      | _ => simp [DataW.trod, hu] at h
    · simp [DataW.trod, hu] at h
theorem rule_cells {W : World} {n : Nat} {cs : List Value} {b : Bool} {c : UInt8} {r : List UInt8} {p : List MemPlace}
    (h : DataW.trod (funcToken Tryd.prog) Tryd.prog W 0 (fun _ => true) true n 99 cs = some (.agg [.lit (.bool b), .held (c :: r)], p)) :
    ∃ f fn, cs = [.bool b, fv f] ∧ Tryd.prog.funcs[f]? = some fn ∧ fn.name.toUTF8.data.toList = c :: r := by
  cases n with
  | zero => simp [DataW.trod] at h
  | succ n =>
    simp only [DataW.trod, Tryd.underlying99] at h
    have c1 : Tryd.prog.cellsOf 99 = 2 := by kernel_rfl
    have c2 : Tryd.prog.cellsOf 4 = 1 := by kernel_rfl
    have c3 : Tryd.prog.cellsOf 97 = 1 := by kernel_rfl
    simp only [c1, c2, c3, List.mapM_cons, List.mapM_nil, List.drop_zero, Option.pure_def, Option.bind_eq_bind] at h
    split at h
    · rename_i hl
      obtain ⟨xs, h1, h2⟩ := Option.map_eq_some_iff.1 h
      simp only [Option.bind_eq_some_iff, Option.some.injEq] at h1
      obtain ⟨x, hx, y, ⟨z, hz, w, rfl, rfl⟩, rfl⟩ := h1
      simp only [List.map_cons, List.map_nil, Prod.mk.injEq, DataW.agg.injEq, List.cons.injEq, and_true] at h2
      obtain ⟨⟨e1, e2⟩, _⟩ := h2
      match cs, hl with
      | [u, v], _ =>
        simp only [List.take_succ_cons, List.take_zero, List.drop_succ_cons, List.drop_zero] at hx hz
        obtain ⟨z1, z2⟩ := z
        simp only at e2
        subst e2
        obtain ⟨f, fn, q1, q2, q3⟩ := trod_func' Tryd.underlying97 hz
        cases n with
        | zero => simp [DataW.trod] at hx
        | succ n =>
          obtain ⟨b', hb⟩ := trod_bool' Tryd.underlying4 hx
          simp only [List.cons.injEq, and_true] at hb q1
          subst hb q1
          simp only [DataW.trod, Tryd.underlying4, Option.some.injEq] at hx
          subst hx
          simp only [DataW.lit.injEq, Lit.bool.injEq] at e1
          subst e1
          exact ⟨f, fn, rfl, q2, q3⟩
    · cases h
/-- The one function of a name. -/
noncomputable def oneOf (k : Nat) (bs : List UInt8) : Bool := (List.range Tryd.prog.funcs.size).all fun f => match Tryd.prog.funcs[f]? with
  | some fn => fn.name.toUTF8.data.toList != bs || Nat.beq f k
  | none => true
theorem oneOf_eq {k f : Nat} {bs : List UInt8} {fn : Func} (h : oneOf k bs = true) (hf : Tryd.prog.funcs[f]? = some fn) (hn : fn.name.toUTF8.data.toList = bs) : f = k := by
  have hlt := (Array.getElem?_eq_some_iff.1 hf).1
  have := List.all_eq_true.1 h f (List.mem_range.2 hlt)
  rw [hf] at this
  simp only at this
  rw [hn] at this
  simp only [bne_self_eq_false, Bool.false_or] at this
  exact Nat.eq_of_beq_eq_true this
theorem one1 : oneOf 96 [97, 105, 114, 99, 104, 101, 99, 107, 47, 106, 117, 100, 103, 101, 46, 110, 101, 118, 101, 114] = true := by kernel_rfl
theorem one2 : oneOf 97 [97, 105, 114, 99, 104, 101, 99, 107, 47, 106, 117, 100, 103, 101, 46, 114, 117, 108, 101, 115, 36, 49] = true := by kernel_rfl
theorem one3 : oneOf 98 [97, 105, 114, 99, 104, 101, 99, 107, 47, 106, 117, 100, 103, 101, 46, 114, 117, 108, 101, 115, 36, 50] = true := by kernel_rfl
/-- The table's inner datum. -/
def rulesD : DataW Unit := match (Rows.laid_aircheck_judge_rules : DataW Unit) with
  | .iface _ d => d
  | d => d
def rulesC : List Value := [.bool false, fv 96, .bool true, fv 97, .bool true, fv 98, .bool false, fv 96, .bool false, fv 96]
theorem rules_row {W : World} {n : Nat} {cs : List Value} {b : Bool} {k : Nat} {c : UInt8} {r : List UInt8} {x : DataW (List UInt8) × List MemPlace} (ho : oneOf k (c :: r) = true) (hx : x.1 = .agg [.lit (.bool b), .held (c :: r)])
    (h : DataW.trod (funcToken Tryd.prog) Tryd.prog W 0 (fun _ => true) true n 99 cs = some x) : cs = [.bool b, fv k] := by
  obtain ⟨x1, x2⟩ := x
  simp only at hx
  subst hx
  obtain ⟨f, fn, e1, e2, e3⟩ := rule_cells h
  rw [e1, oneOf_eq ho e2 e3]
theorem rules_cells {W : World} {n : Nat} {cs : List Value} {p : List MemPlace} (h : DataW.trod (funcToken Tryd.prog) Tryd.prog W 0 (fun _ => true) true n 120 cs = some (rulesD.funcsOut, p)) : cs = rulesC := by
  cases n with
  | zero => simp [DataW.trod] at h
  | succ n =>
    have e : rulesD.funcsOut = .agg [.agg [.lit (.bool false), .held [97, 105, 114, 99, 104, 101, 99, 107, 47, 106, 117, 100, 103, 101, 46, 110, 101, 118, 101, 114]], .agg [.lit (.bool true), .held [97, 105, 114, 99, 104, 101, 99, 107, 47, 106, 117, 100, 103, 101, 46, 114, 117, 108, 101, 115, 36, 49]], .agg [.lit (.bool true), .held [97, 105, 114, 99, 104, 101, 99, 107, 47, 106, 117, 100, 103, 101, 46, 114, 117, 108, 101, 115, 36, 50]], .agg [.lit (.bool false), .held [97, 105, 114, 99, 104, 101, 99, 107, 47, 106, 117, 100, 103, 101, 46, 110, 101, 118, 101, 114]], .agg [.lit (.bool false), .held [97, 105, 114, 99, 104, 101, 99, 107, 47, 106, 117, 100, 103, 101, 46, 110, 101, 118, 101, 114]]] := by kernel_rfl
    rw [e] at h
    simp only [DataW.trod, Tryd.underlying120] at h
    have c1 : Tryd.prog.cellsOf 99 = 2 := by kernel_rfl
    have c2 : Tryd.prog.cellsOf 120 = 10 := by kernel_rfl
    simp only [c1, c2] at h
    split at h
    · rename_i hl
      obtain ⟨xs, h1, h2⟩ := Option.map_eq_some_iff.1 h
      simp only [Prod.mk.injEq, DataW.agg.injEq] at h2
      obtain ⟨h2, _⟩ := h2
      match cs, hl with
      | [a0, a1, a2, a3, a4, a5, a6, a7, a8, a9], _ =>
        rw [show List.range 5 = [0, 1, 2, 3, 4] from rfl] at h1
        simp only [List.mapM_cons, List.mapM_nil, Option.pure_def, Option.bind_eq_bind, Option.bind_eq_some_iff, Option.some.injEq] at h1
        obtain ⟨x0, q0, l0, ⟨x1, q1, l1, ⟨x2, q2, l2, ⟨x3, q3, l3, ⟨x4, q4, l4, e5, e4⟩, e3⟩, e2⟩, e1⟩, e0⟩ := h1
        subst e5 e4 e3 e2 e1 e0
        simp only [List.map_cons, List.map_nil, List.cons.injEq, and_true] at h2
        obtain ⟨g0, g1, g2, g3, g4⟩ := h2
        have r0 := rules_row one1 g0 q0
        have r1 := rules_row one2 g1 q1
        have r2 := rules_row one3 g2 q2
        have r3 := rules_row one1 g3 q3
        have r4 := rules_row one1 g4 q4
        simp only [Nat.zero_mul, Nat.one_mul, Nat.reduceMul, List.drop_zero, List.drop_succ_cons, List.take_succ_cons, List.take_zero, List.cons.injEq, and_true] at r0 r1 r2 r3 r4
        simp [rulesC, r0, r1, r2, r3, r4]
    · cases h
/-- What the row's list gives: the table's cells. -/
theorem rules_glob {W : World} (h : funcsAt Tryd.prog W "aircheck/judge.rules" rulesD) : GlobR Kx (cfg0 W) := by
  obtain ⟨g, t, cs, fuel, p, hg, ht, hv, hx⟩ := h
  have e0 : Tryd.prog.globalNamed "aircheck/judge.rules" = some 0 := by kernel_rfl
  have e1 : (Tryd.prog.globals[0]?).map (·.type) = some 120 := by kernel_rfl
  rw [e0, Option.some.injEq] at hg
  subst hg
  rw [e1, Option.some.injEq] at ht
  subst ht
  have hcs := rules_cells hx
  unfold World.var? at hv
  rw [e0, Option.bind_some] at hv
  intro g x hgx
  have hgl : gls g = some x := hgx
  unfold gls at hgl
  split at hgl
  · rename_i hz
    have hz := Nat.eq_of_beq_eq_true hz
    subst hz
    simp only [Option.some.injEq] at hgl
    subst hgl
    split at hv
    · rename_i cs' T fz hh
      simp only [Option.some.injEq] at hv
      subst hv
      have hlt : 0 < W.heap.size := (Array.getElem?_eq_some_iff.1 hh).1
      refine ⟨rulesC, ?_, rfl, ⟨⟨hlt, fun n hn => by simp [cfg0, getS, AObj.live] at hn⟩, fun h => h⟩, fun i u hu => ?_⟩
      · simp [rulesA, rulesC, VE, VEs, VVs]
      · show W.cell? _ = _
        rw [Asl.add_plain]
        rw [← hcs] at hu
        have : cs'[i]? = some u := by simpa using hu
        simp [World.cell?, hh, this]
    · cases hv
  · cases hgl

end Go.Proofs.YtmdbpbncdkdipaaDoor
namespace Go.Proofs.YtmdbpbncdkdipaaDoor
open Go.Asl Go.ChangeShapes Go.WideShapes Go.ChangeAt Go.RowKit
set_option maxRecDepth 100000
set_option maxHeartbeats 4000000
attribute [local irreducible] Go.Asl.wpG Go.Code.wpIn Go.Asl.DrawG Go.Asl.LvX Go.Asl.G
theorem sh_int {d : Nat} {zs : List AV} (h : shC Kx (d + 1) 3 zs) : ∃ n : Int, zs = [.int .i64 n] ∧ R64 n := by
  obtain ⟨m, h1, h2⟩ : ∃ m, zs = [.int .i64 m] ∧ (Lit.int .i64 m).wf = true := h
  exact ⟨m, h1, wf_i64 h2⟩
theorem sh_tri {d : Nat} {zs : List AV} (h : shC Kx (d + 2) 110 zs) : ∃ p : Tri, zs = [.int .i64 p.1, .int .i64 p.2.1, .int .i64 p.2.2] ∧ R64t p := by
  obtain ⟨h1, h2⟩ : zs.length = 3 ∧ ∀ i, i < 3 → shC Kx (d + 1) 3 ((zs.drop (i * 1)).take 1) := h
  match zs, h1 with
  | [a, b, c], _ =>
    obtain ⟨x, ex, rx⟩ := sh_int (h2 0 (by omega))
    obtain ⟨y, ey, ry⟩ := sh_int (h2 1 (by omega))
    obtain ⟨z, ez, rz⟩ := sh_int (h2 2 (by omega))
    simp at ex ey ez
    subst ex ey ez
    exact ⟨(x, y, z), rfl, rx, ry, rz⟩
theorem sh_duo {d : Nat} {zs : List AV} (h : shC Kx (d + 2) 84 zs) : ∃ p : Duo, zs = [.int .i64 p.1, .int .i64 p.2] ∧ R64d p := by
  obtain ⟨h1, h2⟩ : zs.length = 2 ∧ ∀ i, i < 2 → shC Kx (d + 1) 3 ((zs.drop (i * 1)).take 1) := h
  match zs, h1 with
  | [a, b], _ =>
    obtain ⟨x, ex, rx⟩ := sh_int (h2 0 (by omega))
    obtain ⟨y, ey, ry⟩ := sh_int (h2 1 (by omega))
    simp at ex ey
    subst ex ey
    exact ⟨(x, y), rfl, rx, ry⟩
theorem sh_tris {d : Nat} {zs : List AV} (h : shC Kx (d + 3) 22 zs) : ∃ xs : List Tri, zs = [triL xs] ∧ xs.length ≤ maxLen ∧ ∀ p ∈ xs, R64t p := by
  obtain ⟨xs, h1, h2, h3⟩ : ∃ xs, zs = [.lst xs] ∧ xs.length ≤ maxLen ∧ ∀ x ∈ xs, ∃ ys, x = mkE true ys ∧ ys.length = szT Kx 110 ∧ shC Kx (d + 2) 110 ys := h
  obtain ⟨ys, rfl, hy⟩ := lst_typed (f := triA) (Q := R64t) (xs := xs) (fun x hx => by
    obtain ⟨ys, rfl, _, hs⟩ := h3 x hx
    obtain ⟨p, rfl, hp⟩ := sh_tri hs
    exact ⟨p, rfl, hp⟩)
  exact ⟨ys, h1, by simpa using h2, hy⟩
theorem sh_duos {d : Nat} {zs : List AV} (h : shC Kx (d + 3) 23 zs) : ∃ xs : List Duo, zs = [duoL xs] ∧ xs.length ≤ maxLen ∧ ∀ p ∈ xs, R64d p := by
  obtain ⟨xs, h1, h2, h3⟩ : ∃ xs, zs = [.lst xs] ∧ xs.length ≤ maxLen ∧ ∀ x ∈ xs, ∃ ys, x = mkE true ys ∧ ys.length = szT Kx 84 ∧ shC Kx (d + 2) 84 ys := h
  obtain ⟨ys, rfl, hy⟩ := lst_typed (f := duoA) (Q := R64d) (xs := xs) (fun x hx => by
    obtain ⟨ys, rfl, _, hs⟩ := h3 x hx
    obtain ⟨p, rfl, hp⟩ := sh_duo hs
    exact ⟨p, rfl, hp⟩)
  exact ⟨ys, h1, by simpa using h2, hy⟩
theorem sh_ints {d : Nat} {zs : List AV} (h : shC Kx (d + 2) 25 zs) : ∃ xs : List Int, zs = [intL xs] ∧ xs.length ≤ maxLen ∧ ∀ p ∈ xs, R64 p := by
  obtain ⟨xs, h1, h2, h3⟩ : ∃ xs, zs = [.lst xs] ∧ xs.length ≤ maxLen ∧ ∀ x ∈ xs, ∃ ys, x = mkE false ys ∧ ys.length = szT Kx 3 ∧ shC Kx (d + 1) 3 ys := h
  obtain ⟨ys, rfl, hy⟩ := lst_typed (f := AV.int .i64) (Q := R64) (xs := xs) (fun x hx => by
    obtain ⟨ys, rfl, _, hs⟩ := h3 x hx
    obtain ⟨p, rfl, hp⟩ := sh_int hs
    exact ⟨p, rfl, hp⟩)
  exact ⟨ys, h1, by simpa using h2, hy⟩
theorem maxI {n : Nat} (h : n ≤ maxLen) : n ≤ 9223372036854775807 := Nat.le_trans h (by decide)
theorem ownK : ownKnob Tryd.prog.godebug = none := by kernel_rfl
/-- A world for the witness: the settled one, the table holding what its initialiser lays. -/
noncomputable def laidWorld (os : Os) (vs : Array Value) : World :=
  { World.holding Tryd.prog os ⟨#[], vs, []⟩ with heap := (World.holding Tryd.prog os ⟨#[], vs, []⟩).heap.modify 0 fun
      | .cells _ t frozen => .cells rulesC.toArray t frozen
      | o => o }

end Go.Proofs.YtmdbpbncdkdipaaDoor
namespace Go.Proofs.YtmdbpbncdkdipaaDoor
open Go.Asl Go.ChangeShapes Go.WideShapes Go.ChangeAt Go.RowKit
set_option maxRecDepth 100000
set_option maxHeartbeats 4000000
attribute [local irreducible] Go.Asl.wpG Go.Code.wpIn Go.Asl.DrawG Go.Asl.LvX Go.Asl.G
theorem laid_met (os : Os) : laidMetH Tryd.prog Rows.judgeDoubtsRow.laid ((laidWorld os #[.int .i64 0, .slice none 0 0, .slice none 0 0, .slice none 0 0]).forCall (fun _ _ => 0) ⟨#[], #[.int .i64 0, .slice none 0 0, .slice none 0 0, .slice none 0 0], []⟩).memory :=
  laidMetH_of_parts3 (fuel := 8) (laidMet_of_run' 8 (by kernel_rfl) (by kernel_rfl)) (by kernel_rfl) (by kernel_rfl)
theorem reads (os : Os) {H : Type} (enc : TypeId × Value → H) : ∃ places, DataW.whole enc Tryd.prog ((laidWorld os #[.int .i64 0, .slice none 0 0, .slice none 0 0, .slice none 0 0]).forCall (fun _ _ => 0) ⟨#[], #[.int .i64 0, .slice none 0 0, .slice none 0 0, .slice none 0 0], []⟩).memory Tryd.f4.params.toList Rows.judgeDoubtsSpec.vars false (#[.int .i64 0, .slice none 0 0, .slice none 0 0, .slice none 0 0] : Array Value).toList 8 = some ([.lit (.int .i64 0), .nil, .nil, .nil], [], places) :=
  ⟨[], by kernel_rfl⟩
/-- The row's step. -/
theorem lifted (os : Os) (started : os.Started) (H : Type) (enc : TypeId × Value → H) (F : Stop.Interp) :
    ReturnsInHanded {} Tryd.checked os 4 .any ((OpenSpec.ofChange Rows.judgeDoubtsSpec).preRow enc Tryd.prog Tryd.f4 Rows.judgeDoubtsRow.domain false Rows.judgeDoubtsRow.laid) (((OpenSpec.ofChange Rows.judgeDoubtsSpec).at F).post enc Tryd.prog Tryd.f4 false true false false) := by
  obtain ⟨places, hx⟩ := reads os enc
  refine returnsInHanded_of_row (C := Tryd.checked) (s := OpenSpec.ofChange Rows.judgeDoubtsSpec) ownK started (by kernel_rfl) Tryd.func4
    (witness_row_at (enc := enc) (C := Tryd.checked) false (laidWorld os #[.int .i64 0, .slice none 0 0, .slice none 0 0, .slice none 0 0]) #[.int .i64 0, .slice none 0 0, .slice none 0 0, .slice none 0 0] rfl (by kernel_rfl) (by kernel_rfl) (by kernel_rfl)
      (OpenSpec.preRow_of_cond 8 hx (by kernel_rfl) (fun k hk => by cases hk) (by kernel_rfl) (laid_met os))) ?_
  intro W base args ds gs before hval0 hW _ _ _ hL _ _
  have hval : ∀ (j : Nat) t v, Tryd.f4.params[j]? = some t → args[j]? = some v → Value.okWide Tryd.prog W .any base t v := hval0
  have hG := rules_glob (laidMetH.funcs (d := rulesD) hL (List.mem_singleton.2 rfl))
  have hW' := hW
  obtain ⟨p, q, hA0, hV, rfl, hfz, hnd⟩ := hW
  have hA : DataW.TrodAll enc Tryd.prog W 0 (fun _ => true) true Tryd.f4.params.toList args.toList ds p := hA0
  rw [Tryd.params4] at hA hval
  obtain ⟨v0, vs0, d0, ds0, p0, q0, e0, f0, g0, h0, ra0⟩ := trodAll_cons hA
  subst f0 g0
  obtain ⟨v1, vs1, d1, ds1, p1, q1, e1, f1, g1, h1, ra1⟩ := trodAll_cons ra0
  subst f1 g1
  subst e1
  obtain ⟨v2, vs2, d2, ds2, p2, q2, e2, f2, g2, h2, ra2⟩ := trodAll_cons ra1
  subst f2 g2
  subst e2
  obtain ⟨v3, vs3, d3, ds3, p3, q3, e3, f3, g3, h3, ra3⟩ := trodAll_cons ra2
  subst f3 g3
  subst e3
  obtain ⟨rfl, rfl, rfl⟩ := trodAll_nil ra3
  obtain rfl : args = #[v0, v1, v2, v3] := by cases args; simp_all
  obtain ⟨rfl, rfl⟩ := trodVars_none hV
  obtain ⟨as0, w0, _, s0⟩ := open_arg (d := 5) Kx_ok (t := 3) rfl (hval 0 3 v0 rfl rfl) h0
  obtain ⟨x0, rfl, r0⟩ := sh_int s0
  obtain ⟨as1, w1, _, s1⟩ := open_arg (d := 5) Kx_ok (t := 22) rfl (hval 1 22 v1 rfl rfl) h1
  obtain ⟨x1, rfl, l1, r1⟩ := sh_tris s1
  obtain ⟨as2, w2, _, s2⟩ := open_arg (d := 5) Kx_ok (t := 23) rfl (hval 2 23 v2 rfl rfl) h2
  obtain ⟨x2, rfl, l2, r2⟩ := sh_duos s2
  obtain ⟨as3, w3, _, s3⟩ := open_arg (d := 5) Kx_ok (t := 25) rfl (hval 3 25 v3 rfl rfl) h3
  obtain ⟨x3, rfl, l3, r3⟩ := sh_ints s3
  exact law_calls (K := Kx) (by kernel_rfl) (by kernel_rfl) (by kernel_rfl) hW' (by kernel_rfl) rfl rfl Tryd.underlying4 rfl rfl rfl hG
    (c_law38_Doubts x0 x1 x2 x3 r0 r1 r2 r3 (maxI l1) (maxI l2)) ⟨_, _, rfl, w0, ⟨_, _, rfl, w1, ⟨_, _, rfl, w2, ⟨_, _, rfl, w3, rfl⟩⟩⟩⟩
theorem said : Rows.JudgeDoubtsSaid :=
  OpenClaim.holds_of_cond 4 Tryd.f4 rfl rfl rfl rfl rfl rfl rfl ⟨rfl, rfl, rfl, rfl, rfl⟩ rfl rfl rfl rfl rfl (by kernel_rfl) Tryd.func4 (by kernel_rfl)
    (of_decide_eq_true (by kernel_rfl)) (by unfold Func.isWrapper; first | (rw [if_pos (by decide +kernel)]; kernel_rfl) | (rw [if_neg (by decide +kernel)]; exact ⟨rfl, rfl⟩))
    (fun os started H enc _ F => by rw [OpenClaim.pre_eq_preRow]; exact lifted os started H enc F)
/-- No parameter wants a stand-in; the program's own looks are off. -/
theorem plain (f : FuncId) (fn : Func) (hf : Tryd.pinned.checked.prog.funcNamed "aircheck/airchecklaw38.JudgeDoubts" = some f) (hfn : Tryd.pinned.checked.prog.funcs[f]? = some fn) :
    false = Tryd.pinned.checked.prog.looks [] ∧ ∀ (j : Nat) t, fn.params[j]? = some t → Tryd.pinned.checked.prog.wantsStandIn t = false := by
  obtain rfl : f = 4 := Option.some.inj ((show Tryd.prog.funcNamed "aircheck/airchecklaw38.JudgeDoubts" = some 4 by kernel_rfl).symm.trans hf) |>.symm
  obtain rfl : fn = Tryd.f4 := (Option.some.inj (Tryd.func4.symm.trans hfn)).symm
  refine ⟨by kernel_rfl, fun j t ht => ?_⟩
  have hall : (Tryd.f4.params.toList.all fun t => !Tryd.prog.wantsStandIn t) = true := by kernel_rfl
  have := List.all_eq_true.1 hall t (Array.mem_toList_iff.2 (Array.mem_of_getElem? ht))
  have h2 : Tryd.prog.wantsStandIn t = false := by simpa using this
  exact h2
theorem judgeDoubtsCard_holds : Rows.JudgeDoubtsCardSaid :=
  Claim7.holds_tied_plain_at .later [] _ _ _ _ said (fun _ h => by cases h) (by kernel_rfl) (fun _ h => by cases h) judgeDoubts_row_tie rfl ⟨rfl, rfl⟩ (by kernel_rfl) rfl plain (by kernel_rfl)

end Go.Proofs.YtmdbpbncdkdipaaDoor
