/- For every input the law TimelineMatchesReference returns true, and each argument reads behind the call as it read before; no condition. -/
import Derived.Test.YtmdbpbncdkdipaaLawA
import Derived.Test.YtmdbpbncdkdipaaAslB
import Derived.Test.YtmdbpbncdkdipaaRows
namespace Go.Proofs.Ytmdbpbncdkdipaa
open Go.Asl
set_option maxRecDepth 100000
set_option maxHeartbeats 4000000
attribute [local irreducible] Go.Asl.wpG Go.Code.wpIn Go.Asl.DrawG Go.Asl.LvX Go.Asl.G
theorem stepDW_len (w a b : Int) (acc : List Spe) (s : Spn) : (stepDW w a b acc s).length ≤ acc.length + 1 := by
  unfold stepDW
  split
  · exact stepD_len _ _ _
  · omega
def rowD (ys : List Spn) (acc : List Spe) (s : Spn) : List Spe := ys.foldl (stepDW s.o s.f s.t) acc
theorem rowD_len (s : Spn) : ∀ (ys : List Spn) (acc : List Spe), (rowD ys acc s).length ≤ acc.length + ys.length
  | [], acc => by simp [rowD]
  | y :: r, acc => by
    have h1 := rowD_len s r (stepDW s.o s.f s.t acc y)
    have h2 := stepDW_len s.o s.f s.t acc y
    have : rowD (y :: r) acc s = rowD r (stepDW s.o s.f s.t acc y) s := rfl
    rw [this]; simp; omega
def diffW (xs ys : List Spn) : List Spe := xs.foldl (rowD ys) []
def pdiff (xs ys : List Spn) : Option (List Spe) := if valid xs = true ∧ valid ys = true ∧ endOf xs = endOf ys then some (diffW xs ys) else none
theorem c_tl_Diff (xs ys : List Spn) (hl : xs.length ≤ 10000) (hl' : ys.length ≤ 10000) : FnP Kx 27 [spL xs, spL ys] (.tup [seL ((pdiff xs ys).getD []), .int .i64 (errOf (pdiff xs ys))]) := by
  refine FnT_of_body ent27 Try.func27 rfl Try.ntmps27 rfl (fun C0 hC0 => ?_)
  repeat' (first | refine G_ops Kx_ok 6 rfl ?_ | refine G_op Kx_ok rfl ?_ | refine G_run rfl rfl rfl ?_ | refine G_nil ?_ | refine G_seq ?_ | refine G_region rfl ?_ | refine G_skip ?_ | refine G_block ?_ | refine G_drawn Kx_mixed rfl ?_ | refine D_ops Kx_ok 6 rfl ?_ | refine D_op Kx_ok rfl ?_ | refine D_nil rfl ?_ | refine G_cond_t rfl ?_ | refine G_cond_f rfl ?_ | refine G_exit ?_ | refine G_callP rfl rfl rfl rfl (c_timeline_Valid xs (by first | omega | (simp at * <;> omega))) rfl rfl rfl ?_ | refine D_call rfl rfl rfl rfl rfl (c_timeline_Valid xs (by first | omega | (simp at * <;> omega))) rfl rfl rfl rfl ?_ | refine G_callP rfl rfl rfl rfl (c_timeline_Valid ys (by first | omega | (simp at * <;> omega))) rfl rfl rfl ?_ | refine D_call rfl rfl rfl rfl rfl (c_timeline_Valid ys (by first | omega | (simp at * <;> omega))) rfl rfl rfl rfl ?_ | refine G_callP rfl rfl rfl rfl (c_timeline_end xs (by first | omega | (simp at * <;> omega))) rfl rfl rfl ?_ | refine D_call rfl rfl rfl rfl rfl (c_timeline_end xs (by first | omega | (simp at * <;> omega))) rfl rfl rfl rfl ?_ | refine G_callP rfl rfl rfl rfl (c_timeline_end ys (by first | omega | (simp at * <;> omega))) rfl rfl rfl ?_ | refine D_call rfl rfl rfl rfl rfl (c_timeline_end ys (by first | omega | (simp at * <;> omega))) rfl rfl rfl rfl ?_ | refine G_splitD rfl (fun h => ?_) (fun h => ?_) | refine D_splitD rfl (fun h => ?_) (fun h => ?_) | ((fail_if_success refine G_isL rfl rfl ?_); refine G_split rfl (fun h => ?_) (fun h => ?_)) | ((fail_if_success refine D_isL rfl rfl ?_); refine D_split rfl (fun h => ?_) (fun h => ?_)) | refine G_condD rfl (fun h => ?_) (fun h => ?_) | refine G_condN rfl (fun h => ?_) (fun h => ?_) | refine G_cond rfl (fun h => ?_) (fun h => ?_) | refine G_ret (G_leave ?_))
  all_goals try (refine G_lst_nil (t := 4) rfl ?_; refine G_return Kx_ok rfl ?_; rw [pdiff, if_neg (by simp_all)]; rfl)
  refine G_box_nil (m := 0) (j := 0) 2 45 2 rfl rfl rfl ?_
  refine G_weakE [(6, .ptr 0 0), (1, spL ys), (25, spL xs), (26, .int .i64 (List.map spA xs).length), (27, .int .i64 0)] (by repeat' (first | exact trivial | refine ⟨rfl, ?_⟩ | refine ⟨iv (by first | rfl | omega | (rw [w64 (by omega) (by omega)]; omega)), ?_⟩)) ?_
  refine G_loopD (fun (p : Nat × List Spe) => [(27, .int .i64 p.1)]) (fun p => [(0, .box [.own 2]), (2, seO p.2)]) (fun p => (C0.w.heap.size, p.1))
    (fun p => p.1 ≤ xs.length ∧ p.2.length + (xs.length - p.1) * ys.length ≤ 100000000 ∧ (xs.drop p.1).foldl (rowD ys) p.2 = diffW xs ys) (fun p => xs.length - p.1) (0, []) rfl ⟨by simp, ?_, rfl⟩ (G_atL hC0 rfl rfl (by repeat' (first | exact trivial | refine ⟨⟨rfl, rfl⟩, ?_⟩ | refine ⟨⟨iv (by first | rfl | omega | (rw [w64 (by omega) (by omega)]; omega)), rfl⟩, ?_⟩)) (by repeat' (first | exact trivial | refine ⟨.inl rfl, ?_⟩ | refine ⟨.inr ⟨rfl, rfl⟩, ?_⟩ | refine ⟨.inr ⟨arrE (by first | rfl | (rw [List.map_append]; rfl)), rfl⟩, ?_⟩)) (by repeat' (first | exact trivial | refine ⟨⟨rfl, rfl⟩, ?_⟩))) ?_
  · have := Nat.mul_le_mul hl hl'; simp; omega
  rintro ⟨i, q⟩ ⟨h1, h2, h3⟩
  dsimp only [List.cons_append, List.nil_append] at *
  repeat' (first | refine G_ops Kx_ok 6 rfl ?_ | refine G_op Kx_ok rfl ?_ | refine G_run rfl rfl rfl ?_ | refine G_nil ?_ | refine G_seq ?_ | refine G_region rfl ?_ | refine G_skip ?_ | refine G_block ?_ | refine G_drawn Kx_mixed rfl ?_ | refine D_ops Kx_ok 6 rfl ?_ | refine D_op Kx_ok rfl ?_ | refine D_nil rfl ?_ | refine G_cond_t rfl ?_ | refine G_cond_f rfl ?_ | refine G_exit ?_ | refine G_splitD rfl (fun h => ?_) (fun h => ?_) | refine D_splitD rfl (fun h => ?_) (fun h => ?_) | ((fail_if_success refine G_isL rfl rfl ?_); refine G_split rfl (fun h => ?_) (fun h => ?_)) | ((fail_if_success refine D_isL rfl rfl ?_); refine D_split rfl (fun h => ?_) (fun h => ?_)) | refine G_condD rfl (fun h => ?_) (fun h => ?_) | refine G_condN rfl (fun h => ?_) (fun h => ?_) | refine G_cond rfl (fun h => ?_) (fun h => ?_) | refine G_ret (G_leave ?_))
  · obtain ⟨s, hs, hd⟩ := drop_get (xs := xs) (i := i) (by simp at * <;> omega)
    have hlt : i < xs.length := by simp at * <;> omega
    have hmul : q.length + ys.length + (xs.length - (i + 1)) * ys.length ≤ 100000000 := by
      rw [show xs.length - i = xs.length - (i + 1) + 1 by omega, Nat.add_mul] at h2; omega
    repeat' (first | refine G_ops Kx_ok 6 rfl ?_ | refine G_op Kx_ok rfl ?_ | refine G_run rfl rfl rfl ?_ | refine G_nil ?_ | refine G_seq ?_ | refine G_region rfl ?_ | refine G_skip ?_ | refine G_block ?_ | refine G_drawn Kx_mixed rfl ?_ | refine D_ops Kx_ok 6 rfl ?_ | refine D_op Kx_ok rfl ?_ | refine D_nil rfl ?_ | refine G_cond_t rfl ?_ | refine G_cond_f rfl ?_ | refine G_exit ?_ | (refine G_index_lst Kx_ok rfl rfl rfl rfl rfl (map_get (x := s) (by simpa using hs)) (by omega) rfl rfl rfl ?_) | (refine D_index_lst Kx_ok _ rfl rfl rfl rfl rfl rfl (map_get (x := s) (by simpa using hs)) (by omega) rfl rfl rfl rfl ?_) | refine G_callP rfl rfl rfl rfl (c_tl_within ys s.f s.t) rfl rfl rfl ?_ | refine D_call rfl rfl rfl rfl rfl (c_tl_within ys s.f s.t) rfl rfl rfl rfl ?_ | refine G_splitD rfl (fun h => ?_) (fun h => ?_) | refine D_splitD rfl (fun h => ?_) (fun h => ?_) | ((fail_if_success refine G_isL rfl rfl ?_); refine G_split rfl (fun h => ?_) (fun h => ?_)) | ((fail_if_success refine D_isL rfl rfl ?_); refine D_split rfl (fun h => ?_) (fun h => ?_)) | refine G_condD rfl (fun h => ?_) (fun h => ?_) | refine G_condN rfl (fun h => ?_) (fun h => ?_) | refine G_cond rfl (fun h => ?_) (fun h => ?_) | refine G_ret (G_leave ?_))
    refine G_wk [(36, wFn ys s.f s.t), (6, .ptr 0 0), (8, .ptr 1 0), (1, spL ys), (25, spL xs), (26, .int .i64 (List.map spA xs).length), (27, .int .i64 i)] [(1, .box [.int .i64 s.f, .int .i64 s.t, .int .i64 s.o]), (0, .box [.own 2]), (2, seO q)] hC0 rfl rfl (by repeat' (first | exact trivial | refine ⟨⟨rfl, rfl⟩, ?_⟩ | refine ⟨⟨iv (by first | rfl | omega | (rw [w64 (by omega) (by omega)]; omega)), rfl⟩, ?_⟩)) (by repeat' (first | exact trivial | refine ⟨.inl rfl, ?_⟩ | refine ⟨.inr ⟨rfl, rfl⟩, ?_⟩ | refine ⟨.inr ⟨arrE (by first | rfl | (rw [List.map_append]; rfl)), rfl⟩, ?_⟩)) (by repeat' (first | exact trivial | refine ⟨⟨rfl, rfl⟩, ?_⟩)) ?_
    refine G_range 3 rfl rfl rfl ((c_tl_within1_Diff ys xs i s.f s.t s q (by omega) ?_).mono ?_)
    · intro acc' c hacc
      refine YldT_of_body rfl rfl rfl ?_
      intro F _ n C1 l' hS hφ
      have hk : C1.kn 3 := by show (C1.S 3).known = true; rw [hS]; rfl
      repeat' (first | refine G_ops Kx_ok 6 rfl ?_ | refine G_op Kx_ok rfl ?_ | refine G_run rfl rfl rfl ?_ | refine G_nil ?_ | refine G_seq ?_ | refine G_region rfl ?_ | refine G_skip ?_ | refine G_block ?_ | refine G_drawn Kx_mixed rfl ?_ | refine D_ops Kx_ok 6 rfl ?_ | refine D_op Kx_ok rfl ?_ | refine D_nil rfl ?_ | refine G_cond_t rfl ?_ | refine G_cond_f rfl ?_ | refine G_exit ?_ | refine G_splitD rfl (fun h => ?_) (fun h => ?_) | refine D_splitD rfl (fun h => ?_) (fun h => ?_) | ((fail_if_success refine G_isL rfl rfl ?_); refine G_split rfl (fun h => ?_) (fun h => ?_)) | ((fail_if_success refine D_isL rfl rfl ?_); refine D_split rfl (fun h => ?_) (fun h => ?_)) | refine G_condD rfl (fun h => ?_) (fun h => ?_) | refine G_condN rfl (fun h => ?_) (fun h => ?_) | refine G_cond rfl (fun h => ?_) (fun h => ?_) | refine G_ret (G_leave ?_))
      refine G_begin hφ hk rfl ?_
      repeat' (first | refine G_ops Kx_ok 6 rfl ?_ | refine G_op Kx_ok rfl ?_ | refine G_run rfl rfl rfl ?_ | refine G_nil ?_ | refine G_seq ?_ | refine G_region rfl ?_ | refine G_skip ?_ | refine G_block ?_ | refine G_drawn Kx_mixed rfl ?_ | refine D_ops Kx_ok 6 rfl ?_ | refine D_op Kx_ok rfl ?_ | refine D_nil rfl ?_ | refine G_cond_t rfl ?_ | refine G_cond_f rfl ?_ | refine G_exit ?_ | refine G_callA (c_tl_extE acc' ⟨c.f, c.t⟩ hacc) rfl rfl rfl rfl rfl rfl (by repeat' (first | exact trivial | refine ⟨⟨rfl, rfl, rfl⟩, ?_⟩)) rfl (by repeat' (first | exact trivial | refine ⟨.inl rfl, ?_⟩ | refine ⟨.inr rfl, ?_⟩)) rfl rfl rfl rfl rfl ?_ | refine D_callA (c_tl_extE acc' ⟨c.f, c.t⟩ hacc) rfl rfl rfl rfl rfl rfl rfl (by repeat' (first | exact trivial | refine ⟨⟨rfl, rfl, rfl⟩, ?_⟩)) rfl (by repeat' (first | exact trivial | refine ⟨.inl rfl, ?_⟩ | refine ⟨.inr rfl, ?_⟩)) rfl rfl rfl rfl rfl rfl ?_ | refine G_splitD rfl (fun h => ?_) (fun h => ?_) | refine D_splitD rfl (fun h => ?_) (fun h => ?_) | ((fail_if_success refine G_isL rfl rfl ?_); refine G_split rfl (fun h => ?_) (fun h => ?_)) | ((fail_if_success refine D_isL rfl rfl ?_); refine D_split rfl (fun h => ?_) (fun h => ?_)) | refine G_condD rfl (fun h => ?_) (fun h => ?_) | refine G_condN rfl (fun h => ?_) (fun h => ?_) | refine G_cond rfl (fun h => ?_) (fun h => ?_))
      · rw [show stepD s.o acc' c = acc' from if_pos h]
        refine G_wk [] [(3, .loop [(36, wFn ys s.f s.t), (6, .ptr 0 0), (8, .ptr 1 0), (1, spL ys), (25, spL xs), (26, .int .i64 (List.map spA xs).length), (27, .int .i64 i)] _ _ _ _ .busy none), (1, .box [.int .i64 s.f, .int .i64 s.t, .int .i64 s.o]), (0, .box [.own 5]), (2, .dead), (4, .dead), (5, seO acc')] hS rfl rfl (by repeat' (first | exact trivial | refine ⟨⟨rfl, rfl⟩, ?_⟩ | refine ⟨⟨iv (by first | rfl | omega | (rw [w64 (by omega) (by omega)]; omega)), rfl⟩, ?_⟩)) (by repeat' (first | exact trivial | refine ⟨.inl rfl, ?_⟩ | refine ⟨.inr ⟨rfl, rfl⟩, ?_⟩ | refine ⟨.inr ⟨arrE (by first | rfl | (rw [List.map_append]; rfl)), rfl⟩, ?_⟩)) (by repeat' (first | exact trivial | refine ⟨⟨rfl, rfl⟩, ?_⟩)) ?_
        show G _ _ _ _ (roundPost _ _ _ .normal)
        exact G_round_onS _ hφ hk rfl (by repeat' (first | exact trivial | refine ⟨rfl, ?_⟩)) (by repeat' (first | exact trivial | refine ⟨rfl, ?_⟩)) ⟨rfl, rfl⟩
      · rw [show stepD s.o acc' c = extE acc' ⟨c.f, c.t⟩ from if_neg h]
        refine G_wk [] [(3, .loop [(36, wFn ys s.f s.t), (6, .ptr 0 0), (8, .ptr 1 0), (1, spL ys), (25, spL xs), (26, .int .i64 (List.map spA xs).length), (27, .int .i64 i)] _ _ _ _ .busy none), (1, .box [.int .i64 s.f, .int .i64 s.t, .int .i64 s.o]), (0, .box [.own 5]), (2, .dead), (4, .dead), (5, seO (extE acc' ⟨c.f, c.t⟩))] hS rfl rfl (by repeat' (first | exact trivial | refine ⟨⟨rfl, rfl⟩, ?_⟩ | refine ⟨⟨iv (by first | rfl | omega | (rw [w64 (by omega) (by omega)]; omega)), rfl⟩, ?_⟩)) (by repeat' (first | exact trivial | refine ⟨.inl rfl, ?_⟩ | refine ⟨.inr ⟨rfl, rfl⟩, ?_⟩ | refine ⟨.inr ⟨arrE (by first | rfl | (rw [List.map_append]; rfl)), rfl⟩, ?_⟩)) (by repeat' (first | exact trivial | refine ⟨⟨rfl, rfl⟩, ?_⟩)) ?_
        show G _ _ _ _ (roundPost _ _ _ .normal)
        exact G_round_onS _ hφ hk rfl (by repeat' (first | exact trivial | refine ⟨rfl, ?_⟩)) (by repeat' (first | exact trivial | refine ⟨rfl, ?_⟩)) ⟨rfl, rfl⟩
    · rintro _ M rfl
      refine ⟨.ready, none, rfl, by simp, ?_⟩
      repeat' (first | refine G_ops Kx_ok 6 rfl ?_ | refine G_op Kx_ok rfl ?_ | refine G_run rfl rfl rfl ?_ | refine G_nil ?_ | refine G_seq ?_ | refine G_region rfl ?_ | refine G_skip ?_ | refine G_block ?_ | refine G_drawn Kx_mixed rfl ?_ | refine D_ops Kx_ok 6 rfl ?_ | refine D_op Kx_ok rfl ?_ | refine D_nil rfl ?_ | refine G_cond_t rfl ?_ | refine G_cond_f rfl ?_ | refine G_exit ?_ | refine G_splitD rfl (fun h => ?_) (fun h => ?_) | refine D_splitD rfl (fun h => ?_) (fun h => ?_) | ((fail_if_success refine G_isL rfl rfl ?_); refine G_split rfl (fun h => ?_) (fun h => ?_)) | ((fail_if_success refine D_isL rfl rfl ?_); refine D_split rfl (fun h => ?_) (fun h => ?_)) | refine G_condD rfl (fun h => ?_) (fun h => ?_) | refine G_condN rfl (fun h => ?_) (fun h => ?_) | refine G_cond rfl (fun h => ?_) (fun h => ?_) | refine G_ret (G_leave ?_))
      have hr := rowD_len s ys q
      refine G_nextD (i + 1, rowD ys q s) ⟨by simp at * <;> omega, by simp at * <;> omega, by rw [← h3, hd]; rfl⟩ (by simp at * <;> omega) (G_atL hC0 rfl rfl (by repeat' (first | exact trivial | refine ⟨⟨rfl, rfl⟩, ?_⟩ | refine ⟨⟨iv (by first | rfl | omega | (rw [w64 (by omega) (by omega)]; omega)), rfl⟩, ?_⟩)) (by repeat' (first | exact trivial | refine ⟨.inl rfl, ?_⟩ | refine ⟨.inr ⟨rfl, rfl⟩, ?_⟩ | refine ⟨.inr ⟨arrE (by first | rfl | (rw [List.map_append]; rfl)), rfl⟩, ?_⟩)) (by repeat' (first | exact trivial | refine ⟨⟨rfl, rfl⟩, ?_⟩)))
  · have hi : xs.length ≤ i := by simp at * <;> omega
    rw [List.drop_eq_nil_of_le hi] at h3
    refine G_freeze (m := 2) 4 rfl rfl ?_
    refine G_marks rfl ?_
    refine G_return Kx_ok rfl ?_
    rw [pdiff, if_pos (by simp_all)]; simp only [Option.getD_some, ← h3]; rfl
end Go.Proofs.Ytmdbpbncdkdipaa
namespace Go.Proofs.Ytmdbpbncdkdipaa
open Go.Asl
set_option maxRecDepth 100000
set_option maxHeartbeats 4000000
attribute [local irreducible] Go.Asl.wpG Go.Code.wpIn Go.Asl.DrawG Go.Asl.LvX Go.Asl.G
def stepP (o : Option (List Spn)) (s : Spn) : Option (List Spn) := o.bind (pput · s)
def ppaint (e w : Int) (xs : List Spn) : Option (List Spn) := xs.foldl stepP (newS e w)
theorem stepP_none (xs : List Spn) : xs.foldl stepP none = none := by induction xs with
  | nil => rfl
  | cons s r ih => exact ih
theorem pput_len {xs ys : List Spn} {s : Spn} (h : pput xs s = some ys) : ys.length ≤ 200 := by
  unfold pput at h
  split at h
  · cases h; rename_i h'; exact h'.2.2.2
  · cases h
theorem newS_len {e w : Int} {l : List Spn} (h : newS e w = some l) : l.length ≤ 1 := by
  unfold newS at h
  split at h
  · cases h; split <;> simp
  · cases h
theorem c_tl_Paint (e w : Int) (xs : List Spn) (hl : xs.length ≤ 1000000000) : FnP Kx 31 [.int .i64 e, .int .i64 w, spL xs] (.tup [spL ((ppaint e w xs).getD []), .int .i64 (errOf (ppaint e w xs))]) := by
  refine FnT_of_body ent31 Try.func31 rfl Try.ntmps31 rfl (fun C0 hC0 => ?_)
  repeat' (first | refine G_ops Kx_ok 6 rfl ?_ | refine G_op Kx_ok rfl ?_ | refine G_run rfl rfl rfl ?_ | refine G_nil ?_ | refine G_seq ?_ | refine G_region rfl ?_ | refine G_skip ?_ | refine G_block ?_ | refine G_drawn Kx_mixed rfl ?_ | refine D_ops Kx_ok 6 rfl ?_ | refine D_op Kx_ok rfl ?_ | refine D_nil rfl ?_ | refine G_cond_t rfl ?_ | refine G_cond_f rfl ?_ | refine G_exit ?_ | refine G_callP rfl rfl rfl rfl ((c_timeline_New e w).eq (optR_eq _)) rfl rfl rfl ?_ | refine D_call rfl rfl rfl rfl rfl ((c_timeline_New e w).eq (optR_eq _)) rfl rfl rfl rfl ?_ | refine G_splitD rfl (fun h => ?_) (fun h => ?_) | refine D_splitD rfl (fun h => ?_) (fun h => ?_) | ((fail_if_success refine G_isL rfl rfl ?_); refine G_split rfl (fun h => ?_) (fun h => ?_)) | ((fail_if_success refine D_isL rfl rfl ?_); refine D_split rfl (fun h => ?_) (fun h => ?_)) | refine G_condD rfl (fun h => ?_) (fun h => ?_) | refine G_condN rfl (fun h => ?_) (fun h => ?_) | refine G_cond rfl (fun h => ?_) (fun h => ?_) | refine G_ret (G_leave ?_))
  refine G_loopF (fun (p : Nat × Option (List Spn)) => [(8, spL (p.2.getD [])), (9, .int .i64 (errOf p.2)), (20, .int .i64 p.1)]) (fun _ => [])
    (fun p => p.1 ≤ xs.length ∧ (∀ l, p.2 = some l → l.length ≤ 200) ∧ (xs.drop p.1).foldl stepP p.2 = ppaint e w xs) (fun p => xs.length - p.1) (0, newS e w) rfl ⟨by simp, fun l hl' => ?_, rfl⟩ (G_atE (by repeat' (first | exact trivial | refine ⟨rfl, ?_⟩))) ?_
  · have := newS_len hl'; simp only at *; omega
  rintro ⟨i, q⟩ ⟨h1, h2, h3⟩
  dsimp only [List.cons_append, List.nil_append] at *
  repeat' (first | refine G_ops Kx_ok 6 rfl ?_ | refine G_op Kx_ok rfl ?_ | refine G_run rfl rfl rfl ?_ | refine G_nil ?_ | refine G_seq ?_ | refine G_region rfl ?_ | refine G_skip ?_ | refine G_block ?_ | refine G_drawn Kx_mixed rfl ?_ | refine D_ops Kx_ok 6 rfl ?_ | refine D_op Kx_ok rfl ?_ | refine D_nil rfl ?_ | refine G_cond_t rfl ?_ | refine G_cond_f rfl ?_ | refine G_exit ?_ | refine G_splitD rfl (fun h => ?_) (fun h => ?_) | refine D_splitD rfl (fun h => ?_) (fun h => ?_) | ((fail_if_success refine G_isL rfl rfl ?_); refine G_split rfl (fun h => ?_) (fun h => ?_)) | ((fail_if_success refine D_isL rfl rfl ?_); refine D_split rfl (fun h => ?_) (fun h => ?_)) | refine G_condD rfl (fun h => ?_) (fun h => ?_) | refine G_condN rfl (fun h => ?_) (fun h => ?_) | refine G_cond rfl (fun h => ?_) (fun h => ?_) | refine G_ret (G_leave ?_))
  · obtain ⟨s, hs, hd⟩ := drop_get (xs := xs) (i := i) (by simp at * <;> omega)
    cases q with
    | none =>
      repeat' (first | refine G_ops Kx_ok 6 rfl ?_ | refine G_op Kx_ok rfl ?_ | refine G_run rfl rfl rfl ?_ | refine G_nil ?_ | refine G_seq ?_ | refine G_region rfl ?_ | refine G_skip ?_ | refine G_block ?_ | refine G_drawn Kx_mixed rfl ?_ | refine D_ops Kx_ok 6 rfl ?_ | refine D_op Kx_ok rfl ?_ | refine D_nil rfl ?_ | refine G_cond_t rfl ?_ | refine G_cond_f rfl ?_ | refine G_exit ?_ | (refine G_index_lst Kx_ok rfl rfl rfl rfl rfl (map_get (x := s) (by simpa using hs)) (by omega) rfl rfl rfl ?_) | (refine D_index_lst Kx_ok _ rfl rfl rfl rfl rfl rfl (map_get (x := s) (by simpa using hs)) (by omega) rfl rfl rfl rfl ?_) | refine G_splitD rfl (fun h => ?_) (fun h => ?_) | refine D_splitD rfl (fun h => ?_) (fun h => ?_) | ((fail_if_success refine G_isL rfl rfl ?_); refine G_split rfl (fun h => ?_) (fun h => ?_)) | ((fail_if_success refine D_isL rfl rfl ?_); refine D_split rfl (fun h => ?_) (fun h => ?_)) | refine G_condD rfl (fun h => ?_) (fun h => ?_) | refine G_condN rfl (fun h => ?_) (fun h => ?_) | refine G_cond rfl (fun h => ?_) (fun h => ?_) | refine G_ret (G_leave ?_))
      refine G_lst_nil (t := 6) rfl ?_
      refine G_return Kx_ok rfl ?_
      rw [← h3, stepP_none]; rfl
    | some l =>
    have hl2 := h2 l rfl
    repeat' (first | refine G_ops Kx_ok 6 rfl ?_ | refine G_op Kx_ok rfl ?_ | refine G_run rfl rfl rfl ?_ | refine G_nil ?_ | refine G_seq ?_ | refine G_region rfl ?_ | refine G_skip ?_ | refine G_block ?_ | refine G_drawn Kx_mixed rfl ?_ | refine D_ops Kx_ok 6 rfl ?_ | refine D_op Kx_ok rfl ?_ | refine D_nil rfl ?_ | refine G_cond_t rfl ?_ | refine G_cond_f rfl ?_ | refine G_exit ?_ | (refine G_index_lst Kx_ok rfl rfl rfl rfl rfl (map_get (x := s) (by simpa using hs)) (by omega) rfl rfl rfl ?_) | (refine D_index_lst Kx_ok _ rfl rfl rfl rfl rfl rfl (map_get (x := s) (by simpa using hs)) (by omega) rfl rfl rfl rfl ?_) | refine G_callP rfl rfl rfl rfl (c_tl_Put l s (by omega)) rfl rfl rfl ?_ | refine D_call rfl rfl rfl rfl rfl (c_tl_Put l s (by omega)) rfl rfl rfl rfl ?_ | refine G_splitD rfl (fun h => ?_) (fun h => ?_) | refine D_splitD rfl (fun h => ?_) (fun h => ?_) | ((fail_if_success refine G_isL rfl rfl ?_); refine G_split rfl (fun h => ?_) (fun h => ?_)) | ((fail_if_success refine D_isL rfl rfl ?_); refine D_split rfl (fun h => ?_) (fun h => ?_)) | refine G_condD rfl (fun h => ?_) (fun h => ?_) | refine G_condN rfl (fun h => ?_) (fun h => ?_) | refine G_cond rfl (fun h => ?_) (fun h => ?_) | refine G_ret (G_leave ?_))
    all_goals try (exfalso; rename_i h; exact h rfl)
    refine G_nextF (i + 1, pput l s) ⟨by simp at * <;> omega, fun l' h' => pput_len h', ?_⟩ (by simp at * <;> omega) (G_atL hC0 rfl rfl (by repeat' (first | exact trivial | refine ⟨⟨rfl, rfl⟩, ?_⟩ | refine ⟨⟨iv (by first | rfl | omega | (rw [w64 (by omega) (by omega)]; omega)), rfl⟩, ?_⟩)) (by repeat' (first | exact trivial | refine ⟨.inl rfl, ?_⟩ | refine ⟨.inr ⟨rfl, rfl⟩, ?_⟩ | refine ⟨.inr ⟨arrE (by first | rfl | (rw [List.map_append]; rfl)), rfl⟩, ?_⟩)) (by repeat' (first | exact trivial | refine ⟨⟨rfl, rfl⟩, ?_⟩)))
    rw [← h3, hd]; rfl
  · refine G_return Kx_ok rfl ?_
    rw [← h3, List.drop_eq_nil_of_le (by simp at * <;> omega)]; rfl
end Go.Proofs.Ytmdbpbncdkdipaa
namespace Go.Proofs.Ytmdbpbncdkdipaa
open Go.Asl
set_option maxRecDepth 100000
set_option maxHeartbeats 4000000
attribute [local irreducible] Go.Asl.wpG Go.Code.wpIn Go.Asl.DrawG Go.Asl.LvX Go.Asl.G
def meet (s y : Spn) : Spe := ⟨if s.f < y.f then y.f else s.f, if y.t < s.t then y.t else s.t⟩
def rstepD (s : Spn) (acc : List Spe) (y : Spn) : List Spe := if (meet s y).t ≤ (meet s y).f ∨ s.o = y.o then acc else extE acc (meet s y)
theorem rstepD_len (s : Spn) (acc : List Spe) (y : Spn) : (rstepD s acc y).length ≤ acc.length + 1 := by
  unfold rstepD
  split
  · omega
  · exact extE_len _ _
def rrowD (ys : List Spn) (acc : List Spe) (s : Spn) : List Spe := ys.foldl (rstepD s) acc
theorem rrowD_len (s : Spn) : ∀ (ys : List Spn) (acc : List Spe), (rrowD ys acc s).length ≤ acc.length + ys.length
  | [], acc => by simp [rrowD]
  | y :: r, acc => by
    have h1 := rrowD_len s r (rstepD s acc y)
    have h2 := rstepD_len s acc y
    have : rrowD (y :: r) acc s = rrowD r (rstepD s acc y) s := rfl
    rw [this]; simp; omega
def rdiffW (xs ys : List Spn) : List Spe := xs.foldl (rrowD ys) []
def rdiff (xs ys : List Spn) : Option (List Spe) := if rvalid xs = true ∧ rvalid ys = true ∧ endOf xs = endOf ys then some (rdiffW xs ys) else none
theorem c_ref15_Diff (xs ys : List Spn) (hl : xs.length ≤ 10000) (hl' : ys.length ≤ 10000) : FnP Kx 28 [spL xs, spL ys] (.tup [seL ((rdiff xs ys).getD []), .int .i64 (errOf (rdiff xs ys))]) := by
  refine FnT_of_body ent28 Try.func28 rfl Try.ntmps28 rfl (fun C0 hC0 => ?_)
  repeat' (first | refine G_ops Kx_ok 6 rfl ?_ | refine G_op Kx_ok rfl ?_ | refine G_run rfl rfl rfl ?_ | refine G_nil ?_ | refine G_seq ?_ | refine G_region rfl ?_ | refine G_skip ?_ | refine G_block ?_ | refine G_drawn Kx_mixed rfl ?_ | refine D_ops Kx_ok 6 rfl ?_ | refine D_op Kx_ok rfl ?_ | refine D_nil rfl ?_ | refine G_cond_t rfl ?_ | refine G_cond_f rfl ?_ | refine G_exit ?_ | refine G_callP rfl rfl rfl rfl (c_ref15_Valid xs (by first | omega | (simp at * <;> omega))) rfl rfl rfl ?_ | refine D_call rfl rfl rfl rfl rfl (c_ref15_Valid xs (by first | omega | (simp at * <;> omega))) rfl rfl rfl rfl ?_ | refine G_callP rfl rfl rfl rfl (c_ref15_Valid ys (by first | omega | (simp at * <;> omega))) rfl rfl rfl ?_ | refine D_call rfl rfl rfl rfl rfl (c_ref15_Valid ys (by first | omega | (simp at * <;> omega))) rfl rfl rfl rfl ?_ | refine G_callP rfl rfl rfl rfl (c_ref15_end xs (by first | omega | (simp at * <;> omega))) rfl rfl rfl ?_ | refine D_call rfl rfl rfl rfl rfl (c_ref15_end xs (by first | omega | (simp at * <;> omega))) rfl rfl rfl rfl ?_ | refine G_callP rfl rfl rfl rfl (c_ref15_end ys (by first | omega | (simp at * <;> omega))) rfl rfl rfl ?_ | refine D_call rfl rfl rfl rfl rfl (c_ref15_end ys (by first | omega | (simp at * <;> omega))) rfl rfl rfl rfl ?_ | refine G_splitD rfl (fun h => ?_) (fun h => ?_) | refine D_splitD rfl (fun h => ?_) (fun h => ?_) | ((fail_if_success refine G_isL rfl rfl ?_); refine G_split rfl (fun h => ?_) (fun h => ?_)) | ((fail_if_success refine D_isL rfl rfl ?_); refine D_split rfl (fun h => ?_) (fun h => ?_)) | refine G_condD rfl (fun h => ?_) (fun h => ?_) | refine G_condN rfl (fun h => ?_) (fun h => ?_) | refine G_cond rfl (fun h => ?_) (fun h => ?_) | refine G_ret (G_leave ?_))
  all_goals try (refine G_lst_nil (t := 4) rfl ?_; refine G_return Kx_ok rfl ?_; rw [rdiff, if_neg (by simp_all)]; rfl)
  refine G_own_nil (t := 6) 1 45 2 rfl rfl ?_
  refine G_weakE [(6, .own 1), (0, spL xs), (1, spL ys), (7, .int .i64 0)] (by repeat' (first | exact trivial | refine ⟨rfl, ?_⟩ | refine ⟨iv (by first | rfl | omega | (rw [w64 (by omega) (by omega)]; omega)), ?_⟩)) ?_
  refine G_loopF (fun (p : Nat × List Spe) => [(6, .own 1), (7, .int .i64 p.1)]) (fun p => [(1, seO p.2)])
    (fun p => p.1 ≤ xs.length ∧ p.2.length + (xs.length - p.1) * ys.length ≤ 100000000 ∧ (xs.drop p.1).foldl (rrowD ys) p.2 = rdiffW xs ys) (fun p => xs.length - p.1) (0, []) rfl ⟨by simp, ?_, rfl⟩ (G_atL hC0 rfl rfl (by repeat' (first | exact trivial | refine ⟨⟨rfl, rfl⟩, ?_⟩ | refine ⟨⟨iv (by first | rfl | omega | (rw [w64 (by omega) (by omega)]; omega)), rfl⟩, ?_⟩)) (by repeat' (first | exact trivial | refine ⟨.inl rfl, ?_⟩ | refine ⟨.inr ⟨rfl, rfl⟩, ?_⟩ | refine ⟨.inr ⟨arrE (by first | rfl | (rw [List.map_append]; rfl)), rfl⟩, ?_⟩)) (by repeat' (first | exact trivial | refine ⟨⟨rfl, rfl⟩, ?_⟩))) ?_
  · have := Nat.mul_le_mul hl hl'; simp; omega
  rintro ⟨i, q⟩ ⟨h1, h2, h3⟩
  dsimp only [List.cons_append, List.nil_append] at *
  repeat' (first | refine G_ops Kx_ok 6 rfl ?_ | refine G_op Kx_ok rfl ?_ | refine G_run rfl rfl rfl ?_ | refine G_nil ?_ | refine G_seq ?_ | refine G_region rfl ?_ | refine G_skip ?_ | refine G_block ?_ | refine G_drawn Kx_mixed rfl ?_ | refine D_ops Kx_ok 6 rfl ?_ | refine D_op Kx_ok rfl ?_ | refine D_nil rfl ?_ | refine G_cond_t rfl ?_ | refine G_cond_f rfl ?_ | refine G_exit ?_ | refine G_splitD rfl (fun h => ?_) (fun h => ?_) | refine D_splitD rfl (fun h => ?_) (fun h => ?_) | ((fail_if_success refine G_isL rfl rfl ?_); refine G_split rfl (fun h => ?_) (fun h => ?_)) | ((fail_if_success refine D_isL rfl rfl ?_); refine D_split rfl (fun h => ?_) (fun h => ?_)) | refine G_condD rfl (fun h => ?_) (fun h => ?_) | refine G_condN rfl (fun h => ?_) (fun h => ?_) | refine G_cond rfl (fun h => ?_) (fun h => ?_) | refine G_ret (G_leave ?_))
  · obtain ⟨s, hs, hd⟩ := drop_get (xs := xs) (i := i) (by simp at * <;> omega)
    have hlt : i < xs.length := by simp at * <;> omega
    have hmul : q.length + ys.length + (xs.length - (i + 1)) * ys.length ≤ 100000000 := by
      rw [show xs.length - i = xs.length - (i + 1) + 1 by omega, Nat.add_mul] at h2; omega
    refine G_loopF (fun (p : Nat × List Spe) => [(6, .own 1), (8, .int .i64 p.1)]) (fun p => [(1, seO p.2)])
      (fun p => p.1 ≤ ys.length ∧ p.2.length + (ys.length - p.1) ≤ q.length + ys.length ∧ (ys.drop p.1).foldl (rstepD s) p.2 = rrowD ys q s) (fun p => ys.length - p.1) (0, q) rfl ⟨by simp, by simp, rfl⟩ (G_atL hC0 rfl rfl (by repeat' (first | exact trivial | refine ⟨⟨rfl, rfl⟩, ?_⟩ | refine ⟨⟨iv (by first | rfl | omega | (rw [w64 (by omega) (by omega)]; omega)), rfl⟩, ?_⟩)) (by repeat' (first | exact trivial | refine ⟨.inl rfl, ?_⟩ | refine ⟨.inr ⟨rfl, rfl⟩, ?_⟩ | refine ⟨.inr ⟨arrE (by first | rfl | (rw [List.map_append]; rfl)), rfl⟩, ?_⟩)) (by repeat' (first | exact trivial | refine ⟨⟨rfl, rfl⟩, ?_⟩))) ?_
    rintro ⟨k, q2⟩ ⟨g1, g2, g3⟩
    dsimp only [List.cons_append, List.nil_append] at *
    repeat' (first | refine G_ops Kx_ok 6 rfl ?_ | refine G_op Kx_ok rfl ?_ | refine G_run rfl rfl rfl ?_ | refine G_nil ?_ | refine G_seq ?_ | refine G_region rfl ?_ | refine G_skip ?_ | refine G_block ?_ | refine G_drawn Kx_mixed rfl ?_ | refine D_ops Kx_ok 6 rfl ?_ | refine D_op Kx_ok rfl ?_ | refine D_nil rfl ?_ | refine G_cond_t rfl ?_ | refine G_cond_f rfl ?_ | refine G_exit ?_ | refine G_splitD rfl (fun h => ?_) (fun h => ?_) | refine D_splitD rfl (fun h => ?_) (fun h => ?_) | ((fail_if_success refine G_isL rfl rfl ?_); refine G_split rfl (fun h => ?_) (fun h => ?_)) | ((fail_if_success refine D_isL rfl rfl ?_); refine D_split rfl (fun h => ?_) (fun h => ?_)) | refine G_condD rfl (fun h => ?_) (fun h => ?_) | refine G_condN rfl (fun h => ?_) (fun h => ?_) | refine G_cond rfl (fun h => ?_) (fun h => ?_) | refine G_ret (G_leave ?_))
    · obtain ⟨y, hy, hdy⟩ := drop_get (xs := ys) (i := k) (by simp at * <;> omega)
      have hq2 : q2.length ≤ 100000000 := by omega
      repeat' (first | refine G_ops Kx_ok 6 rfl ?_ | refine G_op Kx_ok rfl ?_ | refine G_run rfl rfl rfl ?_ | refine G_nil ?_ | refine G_seq ?_ | refine G_region rfl ?_ | refine G_skip ?_ | refine G_block ?_ | refine G_drawn Kx_mixed rfl ?_ | refine D_ops Kx_ok 6 rfl ?_ | refine D_op Kx_ok rfl ?_ | refine D_nil rfl ?_ | refine G_cond_t rfl ?_ | refine G_cond_f rfl ?_ | refine G_exit ?_ | (refine G_index_lst Kx_ok rfl rfl rfl rfl rfl (map_get (x := s) (by simpa using hs)) (by omega) rfl rfl rfl ?_) | (refine D_index_lst Kx_ok _ rfl rfl rfl rfl rfl rfl (map_get (x := s) (by simpa using hs)) (by omega) rfl rfl rfl rfl ?_) | (refine G_index_lst Kx_ok rfl rfl rfl rfl rfl (map_get (x := y) (by simpa using hy)) (by omega) rfl rfl rfl ?_) | (refine D_index_lst Kx_ok _ rfl rfl rfl rfl rfl rfl (map_get (x := y) (by simpa using hy)) (by omega) rfl rfl rfl rfl ?_) | refine G_splitD rfl (fun h => ?_) (fun h => ?_) | refine D_splitD rfl (fun h => ?_) (fun h => ?_) | ((fail_if_success refine G_isL rfl rfl ?_); refine G_split rfl (fun h => ?_) (fun h => ?_)) | ((fail_if_success refine D_isL rfl rfl ?_); refine D_split rfl (fun h => ?_) (fun h => ?_)) | refine G_condD rfl (fun h => ?_) (fun h => ?_) | refine G_condN rfl (fun h => ?_) (fun h => ?_) | refine G_cond rfl (fun h => ?_) (fun h => ?_) | refine G_ret (G_leave ?_))
      · have e : rstepD s q2 y = q2 := if_pos (.inl ‹_›)
        refine G_nextF (k + 1, q2) ⟨by simp at * <;> omega, ?_, ?_⟩ (by simp at * <;> omega) (G_atL hC0 rfl rfl (by repeat' (first | exact trivial | refine ⟨⟨rfl, rfl⟩, ?_⟩ | refine ⟨⟨iv (by first | rfl | omega | (rw [w64 (by omega) (by omega)]; omega)), rfl⟩, ?_⟩)) (by repeat' (first | exact trivial | refine ⟨.inl rfl, ?_⟩ | refine ⟨.inr ⟨rfl, rfl⟩, ?_⟩ | refine ⟨.inr ⟨arrE (by first | rfl | (rw [List.map_append]; rfl)), rfl⟩, ?_⟩)) (by repeat' (first | exact trivial | refine ⟨⟨rfl, rfl⟩, ?_⟩)))
        · have := rstepD_len s q2 y; rw [e] at this; simp at * <;> omega
        · rw [← g3, hdy, List.foldl_cons, e]
      · have e : rstepD s q2 y = q2 := if_pos (.inr ‹_›)
        refine G_nextF (k + 1, q2) ⟨by simp at * <;> omega, ?_, ?_⟩ (by simp at * <;> omega) (G_atL hC0 rfl rfl (by repeat' (first | exact trivial | refine ⟨⟨rfl, rfl⟩, ?_⟩ | refine ⟨⟨iv (by first | rfl | omega | (rw [w64 (by omega) (by omega)]; omega)), rfl⟩, ?_⟩)) (by repeat' (first | exact trivial | refine ⟨.inl rfl, ?_⟩ | refine ⟨.inr ⟨rfl, rfl⟩, ?_⟩ | refine ⟨.inr ⟨arrE (by first | rfl | (rw [List.map_append]; rfl)), rfl⟩, ?_⟩)) (by repeat' (first | exact trivial | refine ⟨⟨rfl, rfl⟩, ?_⟩)))
        · have := rstepD_len s q2 y; rw [e] at this; simp at * <;> omega
        · rw [← g3, hdy, List.foldl_cons, e]
      · have e : rstepD s q2 y = extE q2 (meet s y) := if_neg (fun h => h.elim ‹¬ _ ≤ _› ‹¬ _ = _›)
        have hpos : 0 < q2.length := by simp at * <;> omega
        have hne : q2 ≠ [] := List.length_pos_iff.1 hpos
        obtain ⟨l, hget⟩ : ∃ l, q2[q2.length - 1]? = some l := ⟨q2[q2.length - 1], List.getElem?_eq_getElem (by omega)⟩
        have hgl : q2.getLast? = some l := by rw [List.getLast?_eq_getElem?]; exact hget
        refine D_int (t := 85) (b := ((q2.length - 1 : Nat) : Int)) rfl (by rw [w64] <;> simp <;> omega) ?_
        repeat' (first | refine G_ops Kx_ok 6 rfl ?_ | refine G_op Kx_ok rfl ?_ | refine G_run rfl rfl rfl ?_ | refine G_nil ?_ | refine G_seq ?_ | refine G_region rfl ?_ | refine G_skip ?_ | refine G_block ?_ | refine G_drawn Kx_mixed rfl ?_ | refine D_ops Kx_ok 6 rfl ?_ | refine D_op Kx_ok rfl ?_ | refine D_nil rfl ?_ | refine G_cond_t rfl ?_ | refine G_cond_f rfl ?_ | refine G_exit ?_ | refine G_index_own Kx_ok rfl rfl rfl rfl rfl rfl rfl (by omega) (by first | omega | (simp at * <;> omega)) rfl ?_ | refine D_index_own Kx_ok rfl rfl rfl rfl rfl rfl rfl rfl (by omega) (by first | omega | (simp at * <;> omega)) rfl rfl ?_ | refine G_load_elem Kx_ok rfl rfl rfl rfl (map_get (x := l) (by simpa using hget)) rfl rfl rfl rfl ?_ | refine D_load_elem Kx_ok rfl rfl rfl rfl rfl (map_get (x := l) (by simpa using hget)) rfl rfl rfl rfl rfl ?_ | refine G_splitD rfl (fun h => ?_) (fun h => ?_) | refine D_splitD rfl (fun h => ?_) (fun h => ?_) | ((fail_if_success refine G_isL rfl rfl ?_); refine G_split rfl (fun h => ?_) (fun h => ?_)) | ((fail_if_success refine D_isL rfl rfl ?_); refine D_split rfl (fun h => ?_) (fun h => ?_)) | refine G_condD rfl (fun h => ?_) (fun h => ?_) | refine G_condN rfl (fun h => ?_) (fun h => ?_) | refine G_cond rfl (fun h => ?_) (fun h => ?_) | refine G_ret (G_leave ?_))
        · have e2 : extE q2 (meet s y) = q2.set (q2.length - 1) ⟨l.f, (meet s y).t⟩ := by simp only [extE, hgl]; rw [if_pos (by assumption), last_setE _ _ hne]
          refine G_int (t := 96) (b := ((q2.length - 1 : Nat) : Int)) rfl (by rw [w64] <;> simp <;> omega) ?_
          repeat' (first | refine G_ops Kx_ok 6 rfl ?_ | refine G_op Kx_ok rfl ?_ | refine G_run rfl rfl rfl ?_ | refine G_nil ?_ | refine G_seq ?_ | refine G_region rfl ?_ | refine G_skip ?_ | refine G_block ?_ | refine G_drawn Kx_mixed rfl ?_ | refine D_ops Kx_ok 6 rfl ?_ | refine D_op Kx_ok rfl ?_ | refine D_nil rfl ?_ | refine G_cond_t rfl ?_ | refine G_cond_f rfl ?_ | refine G_exit ?_ | refine G_index_own Kx_ok rfl rfl rfl rfl rfl rfl rfl (by omega) (by first | omega | (simp at * <;> omega)) rfl ?_ | refine D_index_own Kx_ok rfl rfl rfl rfl rfl rfl rfl rfl (by omega) (by first | omega | (simp at * <;> omega)) rfl rfl ?_ | refine G_store_elem Kx_ok rfl rfl rfl rfl (map_get (x := l) (by simpa using hget)) rfl rfl rfl rfl rfl rfl ?_ | refine D_store_elem Kx_ok rfl rfl rfl rfl rfl (map_get (x := l) (by simpa using hget)) rfl rfl rfl rfl rfl rfl rfl ?_ | refine G_splitD rfl (fun h => ?_) (fun h => ?_) | refine D_splitD rfl (fun h => ?_) (fun h => ?_) | ((fail_if_success refine G_isL rfl rfl ?_); refine G_split rfl (fun h => ?_) (fun h => ?_)) | ((fail_if_success refine D_isL rfl rfl ?_); refine D_split rfl (fun h => ?_) (fun h => ?_)) | refine G_condD rfl (fun h => ?_) (fun h => ?_) | refine G_condN rfl (fun h => ?_) (fun h => ?_) | refine G_cond rfl (fun h => ?_) (fun h => ?_) | refine G_ret (G_leave ?_))
          refine G_arr (t := 1) (ys' := (q2.set (q2.length - 1) ⟨l.f, (meet s y).t⟩).map seA) rfl (map_setE q2 (q2.length - 1) ⟨l.f, (meet s y).t⟩) ?_
          refine G_nextF (k + 1, q2.set (q2.length - 1) ⟨l.f, (meet s y).t⟩) ⟨by simp at * <;> omega, ?_, ?_⟩ (by simp at * <;> omega) (G_atL hC0 rfl rfl (by repeat' (first | exact trivial | refine ⟨⟨rfl, rfl⟩, ?_⟩ | refine ⟨⟨iv (by first | rfl | omega | (rw [w64 (by omega) (by omega)]; omega)), rfl⟩, ?_⟩)) (by repeat' (first | exact trivial | refine ⟨.inl rfl, ?_⟩ | refine ⟨.inr ⟨rfl, rfl⟩, ?_⟩ | refine ⟨.inr ⟨arrE (by first | rfl | (rw [List.map_append]; rfl)), rfl⟩, ?_⟩)) (by repeat' (first | exact trivial | refine ⟨⟨rfl, rfl⟩, ?_⟩)))
          · have := rstepD_len s q2 y; rw [e, e2] at this; simp at * <;> omega
          · rw [← g3, hdy, List.foldl_cons, e, e2]
        · have e2 : extE q2 (meet s y) = q2 ++ [meet s y] := by simp only [extE, hgl]; rw [if_neg (by assumption)]
          repeat' (first | refine G_ops Kx_ok 6 rfl ?_ | refine G_op Kx_ok rfl ?_ | refine G_run rfl rfl rfl ?_ | refine G_nil ?_ | refine G_seq ?_ | refine G_region rfl ?_ | refine G_skip ?_ | refine G_block ?_ | refine G_drawn Kx_mixed rfl ?_ | refine D_ops Kx_ok 6 rfl ?_ | refine D_op Kx_ok rfl ?_ | refine D_nil rfl ?_ | refine G_cond_t rfl ?_ | refine G_cond_f rfl ?_ | refine G_exit ?_ | refine G_appA Kx_ok rfl rfl rfl rfl rfl rfl rfl rfl rfl (fun zs e => by cases e) rfl (by first | omega | (simp at * <;> omega)) rfl rfl rfl ?_ | refine D_appA Kx_ok rfl rfl rfl rfl rfl rfl rfl rfl rfl rfl (fun zs e => by cases e) rfl (by first | omega | (simp at * <;> omega)) rfl rfl rfl rfl ?_ | refine G_appN Kx_ok rfl rfl rfl rfl rfl rfl rfl rfl (fun zs e => by cases e) rfl (by first | omega | (simp at * <;> omega)) rfl rfl rfl ?_ | refine D_appN Kx_ok rfl rfl rfl rfl rfl rfl rfl rfl rfl (fun zs e => by cases e) rfl (by first | omega | (simp at * <;> omega)) rfl rfl rfl rfl ?_ | refine G_splitD rfl (fun h => ?_) (fun h => ?_) | refine D_splitD rfl (fun h => ?_) (fun h => ?_) | ((fail_if_success refine G_isL rfl rfl ?_); refine G_split rfl (fun h => ?_) (fun h => ?_)) | ((fail_if_success refine D_isL rfl rfl ?_); refine D_split rfl (fun h => ?_) (fun h => ?_)) | refine G_condD rfl (fun h => ?_) (fun h => ?_) | refine G_condN rfl (fun h => ?_) (fun h => ?_) | refine G_cond rfl (fun h => ?_) (fun h => ?_) | refine G_ret (G_leave ?_))
          refine G_nextF (k + 1, q2 ++ [meet s y]) ⟨by simp at * <;> omega, ?_, ?_⟩ (by simp at * <;> omega) (G_atL hC0 rfl rfl (by repeat' (first | exact trivial | refine ⟨⟨rfl, rfl⟩, ?_⟩ | refine ⟨⟨iv (by first | rfl | omega | (rw [w64 (by omega) (by omega)]; omega)), rfl⟩, ?_⟩)) (by repeat' (first | exact trivial | refine ⟨.inl rfl, ?_⟩ | refine ⟨.inr ⟨rfl, rfl⟩, ?_⟩ | refine ⟨.inr ⟨arrE (by first | rfl | (rw [List.map_append]; rfl)), rfl⟩, ?_⟩)) (by repeat' (first | exact trivial | refine ⟨⟨rfl, rfl⟩, ?_⟩)))
          · have := rstepD_len s q2 y; rw [e, e2] at this; simp at * <;> omega
          · rw [← g3, hdy, List.foldl_cons, e, e2]
      · have e : rstepD s q2 y = extE q2 (meet s y) := if_neg (fun h => h.elim ‹¬ _ ≤ _› ‹¬ _ = _›)
        have hne : q2 = [] := by cases q2 with
          | nil => rfl
          | cons a r => exfalso; simp at * <;> omega
        have e2 : extE q2 (meet s y) = q2 ++ [meet s y] := by subst hne; rfl
        repeat' (first | refine G_ops Kx_ok 6 rfl ?_ | refine G_op Kx_ok rfl ?_ | refine G_run rfl rfl rfl ?_ | refine G_nil ?_ | refine G_seq ?_ | refine G_region rfl ?_ | refine G_skip ?_ | refine G_block ?_ | refine G_drawn Kx_mixed rfl ?_ | refine D_ops Kx_ok 6 rfl ?_ | refine D_op Kx_ok rfl ?_ | refine D_nil rfl ?_ | refine G_cond_t rfl ?_ | refine G_cond_f rfl ?_ | refine G_exit ?_ | refine G_appA Kx_ok rfl rfl rfl rfl rfl rfl rfl rfl rfl (fun zs e => by cases e) rfl (by first | omega | (simp at * <;> omega)) rfl rfl rfl ?_ | refine D_appA Kx_ok rfl rfl rfl rfl rfl rfl rfl rfl rfl rfl (fun zs e => by cases e) rfl (by first | omega | (simp at * <;> omega)) rfl rfl rfl rfl ?_ | refine G_appN Kx_ok rfl rfl rfl rfl rfl rfl rfl rfl (fun zs e => by cases e) rfl (by first | omega | (simp at * <;> omega)) rfl rfl rfl ?_ | refine D_appN Kx_ok rfl rfl rfl rfl rfl rfl rfl rfl rfl (fun zs e => by cases e) rfl (by first | omega | (simp at * <;> omega)) rfl rfl rfl rfl ?_ | refine G_splitD rfl (fun h => ?_) (fun h => ?_) | refine D_splitD rfl (fun h => ?_) (fun h => ?_) | ((fail_if_success refine G_isL rfl rfl ?_); refine G_split rfl (fun h => ?_) (fun h => ?_)) | ((fail_if_success refine D_isL rfl rfl ?_); refine D_split rfl (fun h => ?_) (fun h => ?_)) | refine G_condD rfl (fun h => ?_) (fun h => ?_) | refine G_condN rfl (fun h => ?_) (fun h => ?_) | refine G_cond rfl (fun h => ?_) (fun h => ?_) | refine G_ret (G_leave ?_))
        refine G_nextF (k + 1, q2 ++ [meet s y]) ⟨by simp at * <;> omega, ?_, ?_⟩ (by simp at * <;> omega) (G_atL hC0 rfl rfl (by repeat' (first | exact trivial | refine ⟨⟨rfl, rfl⟩, ?_⟩ | refine ⟨⟨iv (by first | rfl | omega | (rw [w64 (by omega) (by omega)]; omega)), rfl⟩, ?_⟩)) (by repeat' (first | exact trivial | refine ⟨.inl rfl, ?_⟩ | refine ⟨.inr ⟨rfl, rfl⟩, ?_⟩ | refine ⟨.inr ⟨arrE (by first | rfl | (rw [List.map_append]; rfl)), rfl⟩, ?_⟩)) (by repeat' (first | exact trivial | refine ⟨⟨rfl, rfl⟩, ?_⟩)))
        · have := rstepD_len s q2 y; rw [e, e2] at this; simp at * <;> omega
        · rw [← g3, hdy, List.foldl_cons, e, e2]
    · have hk : ys.length ≤ k := by simp at * <;> omega
      rw [List.drop_eq_nil_of_le hk] at g3
      have g3 : q2 = rrowD ys q s := g3
      have hr := rrowD_len s ys q
      refine G_nextF (i + 1, q2) ⟨by simp at * <;> omega, by rw [g3]; simp at * <;> omega, by rw [← h3, hd, List.foldl_cons, g3]⟩ (by simp at * <;> omega) (G_atL hC0 rfl rfl (by repeat' (first | exact trivial | refine ⟨⟨rfl, rfl⟩, ?_⟩ | refine ⟨⟨iv (by first | rfl | omega | (rw [w64 (by omega) (by omega)]; omega)), rfl⟩, ?_⟩)) (by repeat' (first | exact trivial | refine ⟨.inl rfl, ?_⟩ | refine ⟨.inr ⟨rfl, rfl⟩, ?_⟩ | refine ⟨.inr ⟨arrE (by first | rfl | (rw [List.map_append]; rfl)), rfl⟩, ?_⟩)) (by repeat' (first | exact trivial | refine ⟨⟨rfl, rfl⟩, ?_⟩)))
  · have hi : xs.length ≤ i := by simp at * <;> omega
    rw [List.drop_eq_nil_of_le hi] at h3
    refine G_freeze (m := 1) 4 rfl rfl ?_
    refine G_return Kx_ok rfl ?_
    rw [rdiff, if_pos (by simp_all)]; simp only [Option.getD_some, ← h3]; rfl
end Go.Proofs.Ytmdbpbncdkdipaa
namespace Go.Proofs.Ytmdbpbncdkdipaa
open Go.Asl
set_option maxRecDepth 100000
set_option maxHeartbeats 4000000
attribute [local irreducible] Go.Asl.wpG Go.Code.wpIn Go.Asl.DrawG Go.Asl.LvX Go.Asl.G
theorem pickI_range (c n : Int) (hn : 0 < n) : 0 ≤ pickI c n ∧ pickI c n < n := by
  unfold pickI
  have key : ∀ m : Int, 0 ≤ m → 0 ≤ m.tmod n ∧ m.tmod n < n := fun m hm => ⟨Int.tmod_nonneg _ hm, Int.tmod_lt_of_pos _ hn⟩
  split
  · exact key _ (by omega)
  · exact key _ (by omega)
abbrev Tri := Int × Int × Int
def triA (p : Tri) : AV := .agg [.int .i64 p.1, .int .i64 p.2.1, .int .i64 p.2.2]
def triL (xs : List Tri) : AV := .lst (xs.map triA)
def R64t (p : Tri) : Prop := R64 p.1 ∧ R64 p.2.1 ∧ R64 p.2.2
def spanOf (e : Int) (p : Tri) : Spn := ⟨pickI p.1 e, pickI p.1 e + 1 + pickI p.2.1 (e - pickI p.1 e), pickI p.2.2 8⟩
def spansS (e : Int) (xs : List Tri) : List Spn := (xs.take 20).map (spanOf e)
theorem c_ref15_Spans (e : Int) (xs : List Tri) (h1 : 1 ≤ e) (h2 : e ≤ 10000000) (hx : ∀ p ∈ xs, R64t p) (hl : xs.length ≤ 9223372036854775807) : FnP Kx 7 [.int .i64 e, triL xs] (spL (spansS e xs)) := by
  refine FnT_of_body ent7 Try.func7 rfl Try.ntmps7 rfl (fun C0 hC0 => ?_)
  repeat' (first | refine G_ops Kx_ok 6 rfl ?_ | refine G_op Kx_ok rfl ?_ | refine G_run rfl rfl rfl ?_ | refine G_nil ?_ | refine G_seq ?_ | refine G_region rfl ?_ | refine G_skip ?_ | refine G_block ?_ | refine G_drawn Kx_mixed rfl ?_ | refine D_ops Kx_ok 6 rfl ?_ | refine D_op Kx_ok rfl ?_ | refine D_nil rfl ?_ | refine G_cond_t rfl ?_ | refine G_cond_f rfl ?_ | refine G_exit ?_ | refine G_splitD rfl (fun h => ?_) (fun h => ?_) | refine D_splitD rfl (fun h => ?_) (fun h => ?_) | ((fail_if_success refine G_isL rfl rfl ?_); refine G_split rfl (fun h => ?_) (fun h => ?_)) | ((fail_if_success refine D_isL rfl rfl ?_); refine D_split rfl (fun h => ?_) (fun h => ?_)) | refine G_condD rfl (fun h => ?_) (fun h => ?_) | refine G_condN rfl (fun h => ?_) (fun h => ?_) | refine G_cond rfl (fun h => ?_) (fun h => ?_) | refine G_ret (G_leave ?_))
  refine G_own_nil (t := 5) 1 25 3 rfl rfl ?_
  refine G_weakE [(5, .own 1), (0, .int .i64 e), (1, triL xs), (6, .int .i64 0)] (by repeat' (first | exact trivial | refine ⟨rfl, ?_⟩ | refine ⟨iv (by first | rfl | omega | (rw [w64 (by omega) (by omega)]; omega)), ?_⟩)) ?_
  refine G_loopF (fun (i : Nat) => [(5, .own 1), (6, .int .i64 i)]) (fun i => [(1, ownO ((xs.take i).map (spanOf e)))])
    (fun i => i ≤ xs.length ∧ i ≤ 20) (fun i => xs.length - i) 0 rfl ⟨by simp, by simp⟩ (G_atL hC0 rfl rfl (by repeat' (first | exact trivial | refine ⟨⟨rfl, rfl⟩, ?_⟩ | refine ⟨⟨iv (by first | rfl | omega | (rw [w64 (by omega) (by omega)]; omega)), rfl⟩, ?_⟩)) (by repeat' (first | exact trivial | refine ⟨.inl rfl, ?_⟩ | refine ⟨.inr ⟨rfl, rfl⟩, ?_⟩ | refine ⟨.inr ⟨arrE (by first | rfl | (rw [List.map_append]; rfl)), rfl⟩, ?_⟩)) (by repeat' (first | exact trivial | refine ⟨⟨rfl, rfl⟩, ?_⟩))) ?_
  rintro i ⟨g1, g2⟩
  dsimp only [List.cons_append, List.nil_append] at *
  repeat' (first | refine G_ops Kx_ok 6 rfl ?_ | refine G_op Kx_ok rfl ?_ | refine G_run rfl rfl rfl ?_ | refine G_nil ?_ | refine G_seq ?_ | refine G_region rfl ?_ | refine G_skip ?_ | refine G_block ?_ | refine G_drawn Kx_mixed rfl ?_ | refine D_ops Kx_ok 6 rfl ?_ | refine D_op Kx_ok rfl ?_ | refine D_nil rfl ?_ | refine G_cond_t rfl ?_ | refine G_cond_f rfl ?_ | refine G_exit ?_ | refine G_splitD rfl (fun h => ?_) (fun h => ?_) | refine D_splitD rfl (fun h => ?_) (fun h => ?_) | ((fail_if_success refine G_isL rfl rfl ?_); refine G_split rfl (fun h => ?_) (fun h => ?_)) | ((fail_if_success refine D_isL rfl rfl ?_); refine D_split rfl (fun h => ?_) (fun h => ?_)) | refine G_condD rfl (fun h => ?_) (fun h => ?_) | refine G_condN rfl (fun h => ?_) (fun h => ?_) | refine G_cond rfl (fun h => ?_) (fun h => ?_) | refine G_ret (G_leave ?_))
  · obtain ⟨p, hp, hd⟩ := drop_get (xs := xs) (i := i) (by simp at * <;> omega)
    have hlt : i < xs.length := by simp at * <;> omega
    obtain ⟨r1, r2, r3⟩ := hx p (List.mem_of_getElem? hp)
    have b1 := pickI_range p.1 e (by omega)
    have b2 := pickI_range p.2.1 (e - pickI p.1 e) (by omega)
    have e1 : IntKind.i64.wrap (e - pickI p.1 e) = e - pickI p.1 e := w64 (by omega) (by omega)
    have e2 : IntKind.i64.wrap (pickI p.1 e + 1) = pickI p.1 e + 1 := w64 (by omega) (by omega)
    have e3 : IntKind.i64.wrap (pickI p.1 e + 1 + pickI p.2.1 (e - pickI p.1 e)) = pickI p.1 e + 1 + pickI p.2.1 (e - pickI p.1 e) := w64 (by omega) (by omega)
    have htk : (xs.take (i + 1)).map (spanOf e) = (xs.take i).map (spanOf e) ++ [spanOf e p] := by
      rw [List.take_add_one, hp]; simp
    repeat' (first | refine G_ops Kx_ok 6 rfl ?_ | refine G_op Kx_ok rfl ?_ | refine G_run rfl rfl rfl ?_ | refine G_nil ?_ | refine G_seq ?_ | refine G_region rfl ?_ | refine G_skip ?_ | refine G_block ?_ | refine G_drawn Kx_mixed rfl ?_ | refine D_ops Kx_ok 6 rfl ?_ | refine D_op Kx_ok rfl ?_ | refine D_nil rfl ?_ | refine G_cond_t rfl ?_ | refine G_cond_f rfl ?_ | refine G_exit ?_ | (refine G_index_lst Kx_ok rfl rfl rfl rfl rfl (map_get (x := p) (by simpa using hp)) (by omega) rfl rfl rfl ?_) | (refine D_index_lst Kx_ok _ rfl rfl rfl rfl rfl rfl (map_get (x := p) (by simpa using hp)) (by omega) rfl rfl rfl rfl ?_) | refine G_appA Kx_ok rfl rfl rfl rfl rfl rfl rfl rfl rfl (fun zs e => by cases e <;> (intro y hy; obtain ⟨_, _, rfl⟩ := List.mem_map.1 hy; exact ⟨_, rfl, rfl⟩)) rfl (by simp at * <;> omega) rfl rfl rfl ?_ | refine D_appA Kx_ok rfl rfl rfl rfl rfl rfl rfl rfl rfl rfl (fun zs e => by cases e <;> (intro y hy; obtain ⟨_, _, rfl⟩ := List.mem_map.1 hy; exact ⟨_, rfl, rfl⟩)) rfl (by simp at * <;> omega) rfl rfl rfl rfl ?_ | refine G_appN Kx_ok rfl rfl rfl rfl rfl rfl rfl rfl (fun zs e => by cases e <;> (intro y hy; obtain ⟨_, _, rfl⟩ := List.mem_map.1 hy; exact ⟨_, rfl, rfl⟩)) rfl (by simp at * <;> omega) rfl rfl rfl ?_ | refine D_appN Kx_ok rfl rfl rfl rfl rfl rfl rfl rfl rfl (fun zs e => by cases e <;> (intro y hy; obtain ⟨_, _, rfl⟩ := List.mem_map.1 hy; exact ⟨_, rfl, rfl⟩)) rfl (by simp at * <;> omega) rfl rfl rfl rfl ?_ | refine G_callP rfl rfl rfl rfl (c_ref15_pick p.1 e r1 (by omega)) rfl rfl rfl ?_ | refine D_call rfl rfl rfl rfl rfl (c_ref15_pick p.1 e r1 (by omega)) rfl rfl rfl rfl ?_ | refine G_callP rfl rfl rfl rfl (c_ref15_pick p.2.1 (IntKind.i64.wrap (e - pickI p.1 e)) r2 (by rw [e1]; omega)) rfl rfl rfl ?_ | refine D_call rfl rfl rfl rfl rfl (c_ref15_pick p.2.1 (IntKind.i64.wrap (e - pickI p.1 e)) r2 (by rw [e1]; omega)) rfl rfl rfl rfl ?_ | refine G_callP rfl rfl rfl rfl (c_ref15_pick p.2.2 8 r3 (by omega)) rfl rfl rfl ?_ | refine D_call rfl rfl rfl rfl rfl (c_ref15_pick p.2.2 8 r3 (by omega)) rfl rfl rfl rfl ?_ | refine G_splitD rfl (fun h => ?_) (fun h => ?_) | refine D_splitD rfl (fun h => ?_) (fun h => ?_) | ((fail_if_success refine G_isL rfl rfl ?_); refine G_split rfl (fun h => ?_) (fun h => ?_)) | ((fail_if_success refine D_isL rfl rfl ?_); refine D_split rfl (fun h => ?_) (fun h => ?_)) | refine G_condD rfl (fun h => ?_) (fun h => ?_) | refine G_condN rfl (fun h => ?_) (fun h => ?_) | refine G_cond rfl (fun h => ?_) (fun h => ?_) | refine G_ret (G_leave ?_))
    rw [e1, e2, e3]
    refine G_nextF (i + 1) ⟨by omega, by simp at * <;> omega⟩ (by omega) ?_
    rw [htk]
    exact (G_atL hC0 rfl rfl (by repeat' (first | exact trivial | refine ⟨⟨rfl, rfl⟩, ?_⟩ | refine ⟨⟨iv (by first | rfl | omega | (rw [w64 (by omega) (by omega)]; omega)), rfl⟩, ?_⟩)) (by repeat' (first | exact trivial | refine ⟨.inl rfl, ?_⟩ | refine ⟨.inr ⟨rfl, rfl⟩, ?_⟩ | refine ⟨.inr ⟨arrE (by first | rfl | (rw [List.map_append]; rfl)), rfl⟩, ?_⟩)) (by repeat' (first | exact trivial | refine ⟨⟨rfl, rfl⟩, ?_⟩)))
  · refine G_freeze (m := 1) 4 rfl rfl ?_
    refine G_return Kx_ok rfl ?_
    rw [show i = 20 by omega]; rfl
  · refine G_freeze (m := 1) 4 rfl rfl ?_
    refine G_return Kx_ok rfl ?_
    have hi : i = xs.length := by simp at * <;> omega
    rw [spansS, List.take_of_length_le (by omega : xs.length ≤ 20), hi, List.take_length]; rfl
def madeS (n : Int) (xs : List Tri) : List Spn := (rpaint (1 + pickI n 400) 0 (spansS (1 + pickI n 400) xs)).getD []
theorem c_ref15_Made (n : Int) (xs : List Tri) (hn : R64 n) (hx : ∀ p ∈ xs, R64t p) (hl : xs.length ≤ 9223372036854775807) : FnP Kx 6 [.int .i64 n, triL xs] (spL (madeS n xs)) := by
  refine FnT_of_body ent6 Try.func6 rfl Try.ntmps6 rfl (fun C0 hC0 => ?_)
  have b := pickI_range n 400 (by omega)
  have e : IntKind.i64.wrap (1 + pickI n 400) = 1 + pickI n 400 := w64 (by omega) (by omega)
  have hs : (spansS (IntKind.i64.wrap (1 + pickI n 400)) xs).length ≤ 1000000000 := by simp [spansS]; omega
  repeat' (first | refine G_ops Kx_ok 6 rfl ?_ | refine G_op Kx_ok rfl ?_ | refine G_run rfl rfl rfl ?_ | refine G_nil ?_ | refine G_seq ?_ | refine G_region rfl ?_ | refine G_skip ?_ | refine G_block ?_ | refine G_drawn Kx_mixed rfl ?_ | refine D_ops Kx_ok 6 rfl ?_ | refine D_op Kx_ok rfl ?_ | refine D_nil rfl ?_ | refine G_cond_t rfl ?_ | refine G_cond_f rfl ?_ | refine G_exit ?_ | refine G_callP rfl rfl rfl rfl (c_ref15_pick n 400 hn (by omega)) rfl rfl rfl ?_ | refine D_call rfl rfl rfl rfl rfl (c_ref15_pick n 400 hn (by omega)) rfl rfl rfl rfl ?_ | refine G_callP rfl rfl rfl rfl (c_ref15_Spans (IntKind.i64.wrap (1 + pickI n 400)) xs (by omega) (by omega) hx hl) rfl rfl rfl ?_ | refine D_call rfl rfl rfl rfl rfl (c_ref15_Spans (IntKind.i64.wrap (1 + pickI n 400)) xs (by omega) (by omega) hx hl) rfl rfl rfl rfl ?_ | refine G_callP rfl rfl rfl rfl (c_ref15_Paint (IntKind.i64.wrap (1 + pickI n 400)) 0 (spansS (IntKind.i64.wrap (1 + pickI n 400)) xs) hs) rfl rfl rfl ?_ | refine D_call rfl rfl rfl rfl rfl (c_ref15_Paint (IntKind.i64.wrap (1 + pickI n 400)) 0 (spansS (IntKind.i64.wrap (1 + pickI n 400)) xs) hs) rfl rfl rfl rfl ?_ | refine G_splitD rfl (fun h => ?_) (fun h => ?_) | refine D_splitD rfl (fun h => ?_) (fun h => ?_) | ((fail_if_success refine G_isL rfl rfl ?_); refine G_split rfl (fun h => ?_) (fun h => ?_)) | ((fail_if_success refine D_isL rfl rfl ?_); refine D_split rfl (fun h => ?_) (fun h => ?_)) | refine G_condD rfl (fun h => ?_) (fun h => ?_) | refine G_condN rfl (fun h => ?_) (fun h => ?_) | refine G_cond rfl (fun h => ?_) (fun h => ?_) | refine G_ret (G_leave ?_))
  refine G_return Kx_ok rfl ?_
  rw [e]; rfl
def bentS (xs : List Spn) (how odd at' : Int) : List Spn :=
  if xs = [] then [⟨0, odd, 0⟩] else
  match xs[(pickI at' xs.length).toNat]? with
  | none => []
  | some s =>
    if pickI how 5 = 0 then xs.set (pickI at' xs.length).toNat ⟨odd, s.t, s.o⟩
    else if pickI how 5 = 1 then xs.set (pickI at' xs.length).toNat ⟨s.f, odd, s.o⟩
    else if pickI how 5 = 2 then xs.set (pickI at' xs.length).toNat ⟨s.f, s.t, odd⟩
    else if pickI how 5 = 3 then xs.take (pickI at' xs.length).toNat ++ xs.drop ((pickI at' xs.length).toNat + 1)
    else xs ++ [⟨endOf xs, odd, pickI at' 9⟩]
theorem spn_sized (xs : List Spn) : ∀ y ∈ xs.map spA, ∃ cs, y.cells = some cs ∧ cs.length = 3 := by
  intro y hy; obtain ⟨_, _, rfl⟩ := List.mem_map.1 hy; exact ⟨_, rfl, rfl⟩
theorem c_ref15_Bent (xs : List Spn) (how odd at' : Int) (h1 : R64 how) (h3 : R64 at') (hl : xs.length ≤ 1000000000) : FnP Kx 9 [spL xs, .int .i64 how, .int .i64 odd, .int .i64 at'] (spL (bentS xs how odd at')) := by
  refine FnT_of_body ent9 Try.func9 rfl Try.ntmps9 rfl (fun C0 hC0 => ?_)
  repeat' (first | refine G_ops Kx_ok 6 rfl ?_ | refine G_op Kx_ok rfl ?_ | refine G_run rfl rfl rfl ?_ | refine G_nil ?_ | refine G_seq ?_ | refine G_region rfl ?_ | refine G_skip ?_ | refine G_block ?_ | refine G_drawn Kx_mixed rfl ?_ | refine D_ops Kx_ok 6 rfl ?_ | refine D_op Kx_ok rfl ?_ | refine D_nil rfl ?_ | refine G_cond_t rfl ?_ | refine G_cond_f rfl ?_ | refine G_exit ?_ | refine G_appA Kx_ok rfl rfl rfl rfl rfl rfl rfl rfl rfl (fun zs e => by cases e <;> (intro y hy; obtain ⟨_, _, rfl⟩ := List.mem_map.1 hy; exact ⟨_, rfl, rfl⟩)) rfl (by first | omega | (simp at * <;> omega)) rfl rfl rfl ?_ | refine D_appA Kx_ok rfl rfl rfl rfl rfl rfl rfl rfl rfl rfl (fun zs e => by cases e <;> (intro y hy; obtain ⟨_, _, rfl⟩ := List.mem_map.1 hy; exact ⟨_, rfl, rfl⟩)) rfl (by first | omega | (simp at * <;> omega)) rfl rfl rfl rfl ?_ | refine G_appN Kx_ok rfl rfl rfl rfl rfl rfl rfl rfl (fun zs e => by cases e <;> (intro y hy; obtain ⟨_, _, rfl⟩ := List.mem_map.1 hy; exact ⟨_, rfl, rfl⟩)) rfl (by first | omega | (simp at * <;> omega)) rfl rfl rfl ?_ | refine D_appN Kx_ok rfl rfl rfl rfl rfl rfl rfl rfl rfl (fun zs e => by cases e <;> (intro y hy; obtain ⟨_, _, rfl⟩ := List.mem_map.1 hy; exact ⟨_, rfl, rfl⟩)) rfl (by first | omega | (simp at * <;> omega)) rfl rfl rfl rfl ?_ | refine G_splitD rfl (fun h => ?_) (fun h => ?_) | refine D_splitD rfl (fun h => ?_) (fun h => ?_) | ((fail_if_success refine G_isL rfl rfl ?_); refine G_split rfl (fun h => ?_) (fun h => ?_)) | ((fail_if_success refine D_isL rfl rfl ?_); refine D_split rfl (fun h => ?_) (fun h => ?_)) | refine G_condD rfl (fun h => ?_) (fun h => ?_) | refine G_condN rfl (fun h => ?_) (fun h => ?_) | refine G_cond rfl (fun h => ?_) (fun h => ?_) | refine G_ret (G_leave ?_))
  · have hx : xs = [] := by cases xs with
      | nil => rfl
      | cons a r => exfalso; simp at h <;> omega
    refine G_freeze (m := 2) 8 rfl rfl ?_
    refine G_return Kx_ok rfl ?_
    rw [hx]; rfl
  have hne : xs ≠ [] := fun e => by subst e; exact h rfl
  have hpos : 0 < xs.length := List.length_pos_iff.2 hne
  have b := pickI_range at' xs.length (by omega)
  obtain ⟨k, hk, hkl⟩ : ∃ k : Nat, pickI at' xs.length = k ∧ k < xs.length := ⟨(pickI at' xs.length).toNat, by omega, by omega⟩
  obtain ⟨s, hs⟩ : ∃ s, xs[k]? = some s := ⟨xs[k], List.getElem?_eq_getElem hkl⟩
  refine G_int (t := 22) (b := (xs.length : Int)) rfl (by simp) ?_
  refine G_arr (t := 1) (ys' := xs.map spA) rfl rfl ?_
  refine G_weakE [(22, .int .i64 xs.length), (9, .own 1), (0, spL xs), (1, .int .i64 how), (2, .int .i64 odd), (3, .int .i64 at'), (20, .int .i64 at')] (by repeat' (first | exact trivial | refine ⟨rfl, ?_⟩ | refine ⟨iv (by first | rfl | omega | (rw [w64 (by omega) (by omega)]; omega)), ?_⟩)) ?_
  repeat' (first | refine G_ops Kx_ok 6 rfl ?_ | refine G_op Kx_ok rfl ?_ | refine G_run rfl rfl rfl ?_ | refine G_nil ?_ | refine G_seq ?_ | refine G_region rfl ?_ | refine G_skip ?_ | refine G_block ?_ | refine D_ops Kx_ok 6 rfl ?_ | refine D_op Kx_ok rfl ?_ | refine D_nil rfl ?_ | refine G_cond_t rfl ?_ | refine G_cond_f rfl ?_ | refine G_exit ?_ | refine G_callP rfl rfl rfl rfl ((c_ref15_pick at' xs.length h3 (by omega)).eq (iv hk)) rfl rfl rfl ?_ | refine D_call rfl rfl rfl rfl rfl ((c_ref15_pick at' xs.length h3 (by omega)).eq (iv hk)) rfl rfl rfl rfl ?_ | refine G_callP rfl rfl rfl rfl (c_ref15_pick how 5 h1 (by omega)) rfl rfl rfl ?_ | refine D_call rfl rfl rfl rfl rfl (c_ref15_pick how 5 h1 (by omega)) rfl rfl rfl rfl ?_ | refine G_splitD rfl (fun h => ?_) (fun h => ?_) | refine D_splitD rfl (fun h => ?_) (fun h => ?_) | ((fail_if_success refine G_isL rfl rfl ?_); refine G_split rfl (fun h => ?_) (fun h => ?_)) | ((fail_if_success refine D_isL rfl rfl ?_); refine D_split rfl (fun h => ?_) (fun h => ?_)) | refine G_condD rfl (fun h => ?_) (fun h => ?_) | refine G_condN rfl (fun h => ?_) (fun h => ?_) | refine G_cond rfl (fun h => ?_) (fun h => ?_) | refine G_ret (G_leave ?_))
  · have e : bentS xs how odd at' = xs.set k ⟨odd, s.t, s.o⟩ := by simp only [bentS, if_neg hne, hk, Int.toNat_natCast, hs, if_pos ‹pickI how 5 = 0›]
    repeat' (first | refine G_ops Kx_ok 6 rfl ?_ | refine G_op Kx_ok rfl ?_ | refine G_run rfl rfl rfl ?_ | refine G_nil ?_ | refine G_seq ?_ | refine G_region rfl ?_ | refine G_skip ?_ | refine G_block ?_ | refine G_drawn Kx_mixed rfl ?_ | refine D_ops Kx_ok 6 rfl ?_ | refine D_op Kx_ok rfl ?_ | refine D_nil rfl ?_ | refine G_cond_t rfl ?_ | refine G_cond_f rfl ?_ | refine G_exit ?_ | refine G_index_own Kx_ok rfl rfl rfl rfl rfl rfl rfl (by omega) (by first | omega | (simp at * <;> omega)) rfl ?_ | refine D_index_own Kx_ok rfl rfl rfl rfl rfl rfl rfl rfl (by omega) (by first | omega | (simp at * <;> omega)) rfl rfl ?_ | refine G_store_elem Kx_ok rfl rfl rfl rfl (map_get (x := s) (by simpa using hs)) rfl rfl rfl rfl rfl rfl ?_ | refine D_store_elem Kx_ok rfl rfl rfl rfl rfl (map_get (x := s) (by simpa using hs)) rfl rfl rfl rfl rfl rfl rfl ?_ | refine G_splitD rfl (fun h => ?_) (fun h => ?_) | refine D_splitD rfl (fun h => ?_) (fun h => ?_) | ((fail_if_success refine G_isL rfl rfl ?_); refine G_split rfl (fun h => ?_) (fun h => ?_)) | ((fail_if_success refine D_isL rfl rfl ?_); refine D_split rfl (fun h => ?_) (fun h => ?_)) | refine G_condD rfl (fun h => ?_) (fun h => ?_) | refine G_condN rfl (fun h => ?_) (fun h => ?_) | refine G_cond rfl (fun h => ?_) (fun h => ?_) | refine G_ret (G_leave ?_))
    refine G_arr (t := 1) (ys' := (xs.set k ⟨odd, s.t, s.o⟩).map spA) rfl (map_set xs k ⟨odd, s.t, s.o⟩) ?_
    repeat' (first | refine G_ops Kx_ok 6 rfl ?_ | refine G_op Kx_ok rfl ?_ | refine G_run rfl rfl rfl ?_ | refine G_nil ?_ | refine G_seq ?_ | refine G_region rfl ?_ | refine G_skip ?_ | refine G_block ?_ | refine G_drawn Kx_mixed rfl ?_ | refine D_ops Kx_ok 6 rfl ?_ | refine D_op Kx_ok rfl ?_ | refine D_nil rfl ?_ | refine G_cond_t rfl ?_ | refine G_cond_f rfl ?_ | refine G_exit ?_ | refine G_splitD rfl (fun h => ?_) (fun h => ?_) | refine D_splitD rfl (fun h => ?_) (fun h => ?_) | ((fail_if_success refine G_isL rfl rfl ?_); refine G_split rfl (fun h => ?_) (fun h => ?_)) | ((fail_if_success refine D_isL rfl rfl ?_); refine D_split rfl (fun h => ?_) (fun h => ?_)) | refine G_condD rfl (fun h => ?_) (fun h => ?_) | refine G_condN rfl (fun h => ?_) (fun h => ?_) | refine G_cond rfl (fun h => ?_) (fun h => ?_) | refine G_ret (G_leave ?_))
    refine G_freeze (m := 1) 8 rfl rfl ?_
    refine G_return Kx_ok rfl ?_
    rw [e]; rfl
  · have e : bentS xs how odd at' = xs.set k ⟨s.f, odd, s.o⟩ := by simp only [bentS, if_neg hne, hk, Int.toNat_natCast, hs, if_neg ‹¬ pickI how 5 = 0›, if_pos ‹pickI how 5 = 1›]
    repeat' (first | refine G_ops Kx_ok 6 rfl ?_ | refine G_op Kx_ok rfl ?_ | refine G_run rfl rfl rfl ?_ | refine G_nil ?_ | refine G_seq ?_ | refine G_region rfl ?_ | refine G_skip ?_ | refine G_block ?_ | refine G_drawn Kx_mixed rfl ?_ | refine D_ops Kx_ok 6 rfl ?_ | refine D_op Kx_ok rfl ?_ | refine D_nil rfl ?_ | refine G_cond_t rfl ?_ | refine G_cond_f rfl ?_ | refine G_exit ?_ | refine G_index_own Kx_ok rfl rfl rfl rfl rfl rfl rfl (by omega) (by first | omega | (simp at * <;> omega)) rfl ?_ | refine D_index_own Kx_ok rfl rfl rfl rfl rfl rfl rfl rfl (by omega) (by first | omega | (simp at * <;> omega)) rfl rfl ?_ | refine G_store_elem Kx_ok rfl rfl rfl rfl (map_get (x := s) (by simpa using hs)) rfl rfl rfl rfl rfl rfl ?_ | refine D_store_elem Kx_ok rfl rfl rfl rfl rfl (map_get (x := s) (by simpa using hs)) rfl rfl rfl rfl rfl rfl rfl ?_ | refine G_splitD rfl (fun h => ?_) (fun h => ?_) | refine D_splitD rfl (fun h => ?_) (fun h => ?_) | ((fail_if_success refine G_isL rfl rfl ?_); refine G_split rfl (fun h => ?_) (fun h => ?_)) | ((fail_if_success refine D_isL rfl rfl ?_); refine D_split rfl (fun h => ?_) (fun h => ?_)) | refine G_condD rfl (fun h => ?_) (fun h => ?_) | refine G_condN rfl (fun h => ?_) (fun h => ?_) | refine G_cond rfl (fun h => ?_) (fun h => ?_) | refine G_ret (G_leave ?_))
    refine G_arr (t := 1) (ys' := (xs.set k ⟨s.f, odd, s.o⟩).map spA) rfl (map_set xs k ⟨s.f, odd, s.o⟩) ?_
    repeat' (first | refine G_ops Kx_ok 6 rfl ?_ | refine G_op Kx_ok rfl ?_ | refine G_run rfl rfl rfl ?_ | refine G_nil ?_ | refine G_seq ?_ | refine G_region rfl ?_ | refine G_skip ?_ | refine G_block ?_ | refine G_drawn Kx_mixed rfl ?_ | refine D_ops Kx_ok 6 rfl ?_ | refine D_op Kx_ok rfl ?_ | refine D_nil rfl ?_ | refine G_cond_t rfl ?_ | refine G_cond_f rfl ?_ | refine G_exit ?_ | refine G_splitD rfl (fun h => ?_) (fun h => ?_) | refine D_splitD rfl (fun h => ?_) (fun h => ?_) | ((fail_if_success refine G_isL rfl rfl ?_); refine G_split rfl (fun h => ?_) (fun h => ?_)) | ((fail_if_success refine D_isL rfl rfl ?_); refine D_split rfl (fun h => ?_) (fun h => ?_)) | refine G_condD rfl (fun h => ?_) (fun h => ?_) | refine G_condN rfl (fun h => ?_) (fun h => ?_) | refine G_cond rfl (fun h => ?_) (fun h => ?_) | refine G_ret (G_leave ?_))
    refine G_freeze (m := 1) 8 rfl rfl ?_
    refine G_return Kx_ok rfl ?_
    rw [e]; rfl
  · have e : bentS xs how odd at' = xs.set k ⟨s.f, s.t, odd⟩ := by simp only [bentS, if_neg hne, hk, Int.toNat_natCast, hs, if_neg ‹¬ pickI how 5 = 0›, if_neg ‹¬ pickI how 5 = 1›, if_pos ‹pickI how 5 = 2›]
    repeat' (first | refine G_ops Kx_ok 6 rfl ?_ | refine G_op Kx_ok rfl ?_ | refine G_run rfl rfl rfl ?_ | refine G_nil ?_ | refine G_seq ?_ | refine G_region rfl ?_ | refine G_skip ?_ | refine G_block ?_ | refine G_drawn Kx_mixed rfl ?_ | refine D_ops Kx_ok 6 rfl ?_ | refine D_op Kx_ok rfl ?_ | refine D_nil rfl ?_ | refine G_cond_t rfl ?_ | refine G_cond_f rfl ?_ | refine G_exit ?_ | refine G_index_own Kx_ok rfl rfl rfl rfl rfl rfl rfl (by omega) (by first | omega | (simp at * <;> omega)) rfl ?_ | refine D_index_own Kx_ok rfl rfl rfl rfl rfl rfl rfl rfl (by omega) (by first | omega | (simp at * <;> omega)) rfl rfl ?_ | refine G_store_elem Kx_ok rfl rfl rfl rfl (map_get (x := s) (by simpa using hs)) rfl rfl rfl rfl rfl rfl ?_ | refine D_store_elem Kx_ok rfl rfl rfl rfl rfl (map_get (x := s) (by simpa using hs)) rfl rfl rfl rfl rfl rfl rfl ?_ | refine G_splitD rfl (fun h => ?_) (fun h => ?_) | refine D_splitD rfl (fun h => ?_) (fun h => ?_) | ((fail_if_success refine G_isL rfl rfl ?_); refine G_split rfl (fun h => ?_) (fun h => ?_)) | ((fail_if_success refine D_isL rfl rfl ?_); refine D_split rfl (fun h => ?_) (fun h => ?_)) | refine G_condD rfl (fun h => ?_) (fun h => ?_) | refine G_condN rfl (fun h => ?_) (fun h => ?_) | refine G_cond rfl (fun h => ?_) (fun h => ?_) | refine G_ret (G_leave ?_))
    refine G_arr (t := 1) (ys' := (xs.set k ⟨s.f, s.t, odd⟩).map spA) rfl (map_set xs k ⟨s.f, s.t, odd⟩) ?_
    repeat' (first | refine G_ops Kx_ok 6 rfl ?_ | refine G_op Kx_ok rfl ?_ | refine G_run rfl rfl rfl ?_ | refine G_nil ?_ | refine G_seq ?_ | refine G_region rfl ?_ | refine G_skip ?_ | refine G_block ?_ | refine G_drawn Kx_mixed rfl ?_ | refine D_ops Kx_ok 6 rfl ?_ | refine D_op Kx_ok rfl ?_ | refine D_nil rfl ?_ | refine G_cond_t rfl ?_ | refine G_cond_f rfl ?_ | refine G_exit ?_ | refine G_splitD rfl (fun h => ?_) (fun h => ?_) | refine D_splitD rfl (fun h => ?_) (fun h => ?_) | ((fail_if_success refine G_isL rfl rfl ?_); refine G_split rfl (fun h => ?_) (fun h => ?_)) | ((fail_if_success refine D_isL rfl rfl ?_); refine D_split rfl (fun h => ?_) (fun h => ?_)) | refine G_condD rfl (fun h => ?_) (fun h => ?_) | refine G_condN rfl (fun h => ?_) (fun h => ?_) | refine G_cond rfl (fun h => ?_) (fun h => ?_) | refine G_ret (G_leave ?_))
    refine G_freeze (m := 1) 8 rfl rfl ?_
    refine G_return Kx_ok rfl ?_
    rw [e]; rfl
  · have e : bentS xs how odd at' = xs.take k ++ xs.drop (k + 1) := by simp only [bentS, if_neg hne, hk, Int.toNat_natCast, hs, if_neg ‹¬ pickI how 5 = 0›, if_neg ‹¬ pickI how 5 = 1›, if_neg ‹¬ pickI how 5 = 2›, if_pos ‹pickI how 5 = 3›]
    refine G_freeze (m := 1) 9 rfl rfl ?_
    repeat' (first | refine G_ops Kx_ok 6 rfl ?_ | refine G_op Kx_ok rfl ?_ | refine G_run rfl rfl rfl ?_ | refine G_nil ?_ | refine G_seq ?_ | refine G_region rfl ?_ | refine G_skip ?_ | refine G_block ?_ | refine G_drawn Kx_mixed rfl ?_ | refine D_ops Kx_ok 6 rfl ?_ | refine D_op Kx_ok rfl ?_ | refine D_nil rfl ?_ | refine G_cond_t rfl ?_ | refine G_cond_f rfl ?_ | refine G_exit ?_ | refine D_slice3 Kx_ok rfl rfl rfl rfl rfl rfl rfl (by omega) (by simp; omega) (spn_sized xs) rfl rfl ?_ | refine G_splitD rfl (fun h => ?_) (fun h => ?_) | refine D_splitD rfl (fun h => ?_) (fun h => ?_) | ((fail_if_success refine G_isL rfl rfl ?_); refine G_split rfl (fun h => ?_) (fun h => ?_)) | ((fail_if_success refine D_isL rfl rfl ?_); refine D_split rfl (fun h => ?_) (fun h => ?_)) | refine G_condD rfl (fun h => ?_) (fun h => ?_) | refine G_condN rfl (fun h => ?_) (fun h => ?_) | refine G_cond rfl (fun h => ?_) (fun h => ?_) | refine G_ret (G_leave ?_))
    refine D_val (t := 61) (v := .clip ((xs.map spA).take k)) (v' := .clip ((xs.take k).map spA)) rfl (by rw [List.map_take]) ?_
    refine D_int (t := 64) (b := ((k + 1 : Nat) : Int)) rfl (by rw [w64] <;> omega) ?_
    repeat' (first | refine G_ops Kx_ok 6 rfl ?_ | refine G_op Kx_ok rfl ?_ | refine G_run rfl rfl rfl ?_ | refine G_nil ?_ | refine G_seq ?_ | refine G_region rfl ?_ | refine G_skip ?_ | refine G_block ?_ | refine G_drawn Kx_mixed rfl ?_ | refine D_ops Kx_ok 6 rfl ?_ | refine D_op Kx_ok rfl ?_ | refine D_nil rfl ?_ | refine G_cond_t rfl ?_ | refine G_cond_f rfl ?_ | refine G_exit ?_ | refine D_slice Kx_ok rfl rfl rfl rfl rfl rfl rfl (by omega) (by simp; omega) (by simp) (spn_sized xs) rfl rfl ?_ | refine G_splitD rfl (fun h => ?_) (fun h => ?_) | refine D_splitD rfl (fun h => ?_) (fun h => ?_) | ((fail_if_success refine G_isL rfl rfl ?_); refine G_split rfl (fun h => ?_) (fun h => ?_)) | ((fail_if_success refine D_isL rfl rfl ?_); refine D_split rfl (fun h => ?_) (fun h => ?_)) | refine G_condD rfl (fun h => ?_) (fun h => ?_) | refine G_condN rfl (fun h => ?_) (fun h => ?_) | refine G_cond rfl (fun h => ?_) (fun h => ?_) | refine G_ret (G_leave ?_))
    refine D_val (t := 65) (v := .lst (((xs.map spA).take (xs.map spA).length).drop (k + 1))) (v' := .lst ((xs.drop (k + 1)).map spA)) rfl (by rw [List.map_drop, List.take_of_length_le (Nat.le_refl _)]) ?_
    by_cases hlast : xs.drop (k + 1) = []
    · rw [hlast]
      repeat' (first | refine G_ops Kx_ok 6 rfl ?_ | refine G_op Kx_ok rfl ?_ | refine G_run rfl rfl rfl ?_ | refine G_nil ?_ | refine G_seq ?_ | refine G_region rfl ?_ | refine G_skip ?_ | refine G_block ?_ | refine G_drawn Kx_mixed rfl ?_ | refine D_ops Kx_ok 6 rfl ?_ | refine D_op Kx_ok rfl ?_ | refine D_nil rfl ?_ | refine G_cond_t rfl ?_ | refine G_cond_f rfl ?_ | refine G_exit ?_ | refine D_appC0 Kx_ok rfl rfl rfl rfl rfl rfl rfl rfl rfl rfl rfl ?_ | refine G_splitD rfl (fun h => ?_) (fun h => ?_) | refine D_splitD rfl (fun h => ?_) (fun h => ?_) | ((fail_if_success refine G_isL rfl rfl ?_); refine G_split rfl (fun h => ?_) (fun h => ?_)) | ((fail_if_success refine D_isL rfl rfl ?_); refine D_split rfl (fun h => ?_) (fun h => ?_)) | refine G_condD rfl (fun h => ?_) (fun h => ?_) | refine G_condN rfl (fun h => ?_) (fun h => ?_) | refine G_cond rfl (fun h => ?_) (fun h => ?_) | refine G_ret (G_leave ?_))
      refine G_clip (t := 8) rfl ?_
      refine G_return Kx_ok rfl ?_
      rw [e, hlast, List.append_nil]; rfl
    · repeat' (first | refine G_ops Kx_ok 6 rfl ?_ | refine G_op Kx_ok rfl ?_ | refine G_run rfl rfl rfl ?_ | refine G_nil ?_ | refine G_seq ?_ | refine G_region rfl ?_ | refine G_skip ?_ | refine G_block ?_ | refine G_drawn Kx_mixed rfl ?_ | refine D_ops Kx_ok 6 rfl ?_ | refine D_op Kx_ok rfl ?_ | refine D_nil rfl ?_ | refine G_cond_t rfl ?_ | refine G_cond_f rfl ?_ | refine G_exit ?_ | refine D_appC Kx_ok rfl rfl rfl rfl rfl rfl rfl rfl rfl (spn_sized _) (spn_sized _) (by simpa using hlast) rfl (by simp; omega) rfl rfl rfl ?_ | refine G_splitD rfl (fun h => ?_) (fun h => ?_) | refine D_splitD rfl (fun h => ?_) (fun h => ?_) | ((fail_if_success refine G_isL rfl rfl ?_); refine G_split rfl (fun h => ?_) (fun h => ?_)) | ((fail_if_success refine D_isL rfl rfl ?_); refine D_split rfl (fun h => ?_) (fun h => ?_)) | refine G_condD rfl (fun h => ?_) (fun h => ?_) | refine G_condN rfl (fun h => ?_) (fun h => ?_) | refine G_cond rfl (fun h => ?_) (fun h => ?_) | refine G_ret (G_leave ?_))
      refine G_freeze (m := 2) 8 rfl rfl ?_
      refine G_return Kx_ok rfl ?_
      rw [e, spL, List.map_append]; rfl
  · have e : bentS xs how odd at' = xs ++ [⟨endOf xs, odd, pickI at' 9⟩] := by simp only [bentS, if_neg hne, hk, Int.toNat_natCast, hs, if_neg ‹¬ pickI how 5 = 0›, if_neg ‹¬ pickI how 5 = 1›, if_neg ‹¬ pickI how 5 = 2›, if_neg ‹¬ pickI how 5 = 3›]
    repeat' (first | refine G_ops Kx_ok 6 rfl ?_ | refine G_op Kx_ok rfl ?_ | refine G_run rfl rfl rfl ?_ | refine G_nil ?_ | refine G_seq ?_ | refine G_region rfl ?_ | refine G_skip ?_ | refine G_block ?_ | refine G_drawn Kx_mixed rfl ?_ | refine D_ops Kx_ok 6 rfl ?_ | refine D_op Kx_ok rfl ?_ | refine D_nil rfl ?_ | refine G_cond_t rfl ?_ | refine G_cond_f rfl ?_ | refine G_exit ?_ | refine G_appA Kx_ok rfl rfl rfl rfl rfl rfl rfl rfl rfl (fun zs e => by cases e <;> (intro y hy; obtain ⟨_, _, rfl⟩ := List.mem_map.1 hy; exact ⟨_, rfl, rfl⟩)) rfl (by simp; omega) rfl rfl rfl ?_ | refine D_appA Kx_ok rfl rfl rfl rfl rfl rfl rfl rfl rfl rfl (fun zs e => by cases e <;> (intro y hy; obtain ⟨_, _, rfl⟩ := List.mem_map.1 hy; exact ⟨_, rfl, rfl⟩)) rfl (by simp; omega) rfl rfl rfl rfl ?_ | refine G_appN Kx_ok rfl rfl rfl rfl rfl rfl rfl rfl (fun zs e => by cases e <;> (intro y hy; obtain ⟨_, _, rfl⟩ := List.mem_map.1 hy; exact ⟨_, rfl, rfl⟩)) rfl (by simp; omega) rfl rfl rfl ?_ | refine D_appN Kx_ok rfl rfl rfl rfl rfl rfl rfl rfl rfl (fun zs e => by cases e <;> (intro y hy; obtain ⟨_, _, rfl⟩ := List.mem_map.1 hy; exact ⟨_, rfl, rfl⟩)) rfl (by simp; omega) rfl rfl rfl rfl ?_ | refine G_callP rfl rfl rfl rfl (c_ref15_end xs (by omega)) rfl rfl rfl ?_ | refine D_call rfl rfl rfl rfl rfl (c_ref15_end xs (by omega)) rfl rfl rfl rfl ?_ | refine G_callP rfl rfl rfl rfl (c_ref15_pick at' 9 h3 (by omega)) rfl rfl rfl ?_ | refine D_call rfl rfl rfl rfl rfl (c_ref15_pick at' 9 h3 (by omega)) rfl rfl rfl rfl ?_ | refine G_splitD rfl (fun h => ?_) (fun h => ?_) | refine D_splitD rfl (fun h => ?_) (fun h => ?_) | ((fail_if_success refine G_isL rfl rfl ?_); refine G_split rfl (fun h => ?_) (fun h => ?_)) | ((fail_if_success refine D_isL rfl rfl ?_); refine D_split rfl (fun h => ?_) (fun h => ?_)) | refine G_condD rfl (fun h => ?_) (fun h => ?_) | refine G_condN rfl (fun h => ?_) (fun h => ?_) | refine G_cond rfl (fun h => ?_) (fun h => ?_) | refine G_ret (G_leave ?_))
    refine G_freeze (m := 3) 8 rfl rfl ?_
    refine G_return Kx_ok rfl ?_
    rw [e, spL, List.map_append]; rfl

end Go.Proofs.Ytmdbpbncdkdipaa
/- The plain law of the timelines: what the program computes is what the reference computes. -/
namespace Go.Proofs.Ytmdbpbncdkdipaa
open Go.Asl
theorem valid_eqG : ∀ (xs : List Spn) (a w : Int) (w' : Option Int), (w' = none → w = -1) → (∀ v, w' = some v → w = v) → validG a w xs = rvalidG a w' xs
  | [], _, _, _, _, _ => rfl
  | s :: r, a, w, w', h1, h2 => by
    have ih := valid_eqG r s.t s.o (some s.o) (by simp) (by simp)
    rw [Bool.eq_iff_iff]
    simp only [validG, rvalidG, isOwn, Bool.and_eq_true, decide_eq_true_eq, ih]
    cases w' with
    | none =>
      have := h1 rfl
      subst this
      constructor
      · rintro ⟨⟨⟨⟨⟨a1, a2⟩, a3⟩, a4, a5⟩, a6⟩, a7⟩
        exact ⟨⟨⟨⟨⟨⟨a1, a2⟩, a3⟩, a4⟩, a5⟩, by simp⟩, a7⟩
      · rintro ⟨⟨⟨⟨⟨⟨a1, a2⟩, a3⟩, a4⟩, a5⟩, a6⟩, a7⟩
        exact ⟨⟨⟨⟨⟨a1, a2⟩, a3⟩, a4, a5⟩, by omega⟩, a7⟩
    | some v =>
      have := h2 v rfl
      subst this
      constructor
      · rintro ⟨⟨⟨⟨⟨a1, a2⟩, a3⟩, a4, a5⟩, a6⟩, a7⟩
        exact ⟨⟨⟨⟨⟨⟨a1, a2⟩, a3⟩, a4⟩, a5⟩, by simpa using a6⟩, a7⟩
      · rintro ⟨⟨⟨⟨⟨⟨a1, a2⟩, a3⟩, a4⟩, a5⟩, a6⟩, a7⟩
        exact ⟨⟨⟨⟨⟨a1, a2⟩, a3⟩, a4, a5⟩, by simpa using a6⟩, a7⟩
theorem valid_eq (xs : List Spn) : rvalid xs = valid xs := by
  unfold valid rvalid
  rw [valid_eqG xs 0 (-1) none (by simp) (by simp), Bool.and_comm]
theorem cut_eq (a b : Int) (s : Spn) : cut a b s = cutW a b s := by
  simp only [cut, cutW, Spn.mk.injEq, and_true]
  constructor <;> split <;> split <;> omega
theorem addS_eq (xs : List Spn) (s : Spn) : addS xs s = if s.f < s.t then extS xs s else xs := by
  unfold addS extS
  by_cases h : s.t ≤ s.f
  · rw [if_pos h, if_neg (by omega)]
  · rw [if_neg h, if_pos (by omega)]
    cases hg : xs.getLast? with
    | none => have : xs = [] := by simpa using hg
              subst this; rfl
    | some l => rfl
theorem part_eq (a b : Int) (xs : List Spn) : ∀ acc, partS acc xs a b = partW xs a b acc := by
  induction xs with
  | nil => intro acc; rfl
  | cons s r ih =>
    intro acc
    show partS (addS acc (cut a b s)) r a b = partW r a b (stepW a b acc s)
    rw [ih, addS_eq, cut_eq]; rfl
theorem valid_len {xs : List Spn} (h : valid xs = true) : xs.length ≤ 200 := by
  unfold valid at h
  rw [Bool.and_eq_true, decide_eq_true_eq] at h
  exact h.2
theorem rput_eq (xs : List Spn) (s : Spn) : rput xs s = pput xs s := by
  unfold rput pput
  by_cases hs : s.f < s.t
  · rw [part_eq, part_eq, addS_eq, if_pos hs, valid_eq]
    simp only [isIn, isOwn, Bool.and_eq_true, decide_eq_true_eq]
    by_cases hc : valid xs = true ∧ ((0 ≤ s.f ∧ s.f < s.t) ∧ s.t ≤ endOf xs) ∧ (0 ≤ s.o ∧ s.o ≤ 2999) ∧ (partW xs s.t (endOf xs) (extS (partW xs 0 s.f []) s)).length ≤ 200
    · rw [if_pos hc, if_pos ⟨hc.1, hc.2.1.1.1, hc.2.1.1.2, hc.2.1.2, hc.2.2.1.1, hc.2.2.1.2, hc.2.2.2⟩]
    · rw [if_neg hc, if_neg (fun h => hc ⟨h.1, ⟨⟨h.2.1, h.2.2.1⟩, h.2.2.2.1⟩, ⟨h.2.2.2.2.1, h.2.2.2.2.2.1⟩, h.2.2.2.2.2.2⟩)]
  · rw [if_neg (fun h => hs h.2.2.1), if_neg (fun h => hs (by have := h.2.1; simp only [isIn, Bool.and_eq_true, decide_eq_true_eq] at this; exact this.1.2))]
theorem rjoin_eq (xs ys : List Spn) (t : Int) : rjoin xs ys t = pjoin xs ys t := by
  unfold rjoin pjoin
  rw [part_eq, part_eq, valid_eq, valid_eq]
theorem rwithin_eq (xs : List Spn) (s : Spe) : rwithin xs s = pwithin xs s := by
  unfold rwithin pwithin
  rw [part_eq, valid_eq]
  simp only [isIn, Bool.and_eq_true, decide_eq_true_eq]
  by_cases hc : valid xs = true ∧ 0 ≤ s.f ∧ s.f < s.t ∧ s.t ≤ endOf xs
  · have h1 := partW_len s.f s.t xs []
    have h2 := valid_len hc.1
    rw [List.length_nil] at h1
    rw [if_pos hc, if_pos ⟨hc.1, ⟨⟨hc.2.1, hc.2.2.1⟩, hc.2.2.2⟩, by omega⟩]
  · rw [if_neg hc, if_neg (fun h => hc ⟨h.1, h.2.1.1.1, h.2.1.1.2, h.2.1.2⟩)]
theorem rowned_eq (xs : List Spn) (w : Int) : rowned xs w = powned xs w := by
  unfold rowned powned
  rw [valid_eq]
theorem newR_eq (e w : Int) : newR e w = newS e w := by
  unfold newR newS
  split
  · rename_i h
    rw [addS_eq]
    by_cases he : e = 0
    · subst he; rfl
    · rw [if_neg he, if_pos (by show (0:Int) < e; omega)]; try rfl
  · rfl
theorem rpaint_eq (e w : Int) (xs : List Spn) : rpaint e w xs = ppaint e w xs := by
  unfold rpaint ppaint
  rw [newR_eq]
  congr 1
  funext o s
  cases o with
  | none => rfl
  | some l => exact rput_eq l s
theorem stepD_eq (s y : Spn) (acc : List Spe) : rstepD s acc y = stepDW s.o s.f s.t acc y := by
  have e1 : (cutW s.f s.t y).f = (meet s y).f := by simp only [cutW, meet]; split <;> split <;> omega
  have e2 : (cutW s.f s.t y).t = (meet s y).t := by simp only [cutW, meet]; split <;> split <;> omega
  have e3 : (cutW s.f s.t y).o = y.o := rfl
  unfold rstepD stepDW stepD
  rw [e1, e2, e3]
  by_cases h : (meet s y).f < (meet s y).t
  · rw [if_pos h]
    by_cases h2 : y.o = s.o
    · rw [if_pos h2, if_pos (.inr h2.symm)]
    · rw [if_neg h2, if_neg (fun q => q.elim (fun q => absurd h (by omega)) (fun q => h2 q.symm))]
  · rw [if_neg h, if_pos (.inl (by omega))]
theorem rdiff_eq (xs ys : List Spn) : rdiff xs ys = pdiff xs ys := by
  unfold rdiff pdiff
  rw [valid_eq, valid_eq]
  have : rdiffW xs ys = diffW xs ys := by
    unfold rdiffW diffW
    congr 1
    funext acc s
    unfold rrowD rowD
    congr 1
    funext acc y
    exact stepD_eq s y acc
  rw [this]
theorem valid_hit {a w : Int} : ∀ {xs : List Spn}, validG a w xs = true → ∀ s ∈ xs, s.t ≤ 10000000
  | [], _, s, h => by simp at h
  | x :: r, hv, s, h => by
    simp only [validG, Bool.and_eq_true, decide_eq_true_eq] at hv
    rcases List.mem_cons.1 h with rfl | h
    · exact hv.1.1.1.2
    · exact valid_hit hv.2 s h
theorem find_eq (xs : List Spn) (t : Int) (ht : R64 t) (h : ∀ s ∈ xs, s.t ≤ 10000000) : (firstW xs t (IntKind.i64.wrap (t + 1))).map (·.o) = (xs.find? (hit t)).map (·.o) := by
  induction xs with
  | nil => rfl
  | cons s r ih =>
    have ih := ih (fun x hx => h x (List.mem_cons_of_mem _ hx))
    have hs := h s (List.mem_cons_self ..)
    have key : ((cutW t (IntKind.i64.wrap (t + 1)) s).f < (cutW t (IntKind.i64.wrap (t + 1)) s).t) ↔ hit t s = true := by
      simp only [hit, Bool.and_eq_true, decide_eq_true_eq]
      obtain ⟨r1, r2⟩ := ht
      by_cases hm : t = 9223372036854775807
      · subst hm
        have : IntKind.i64.wrap (9223372036854775807 + 1) = -9223372036854775808 := by decide
        rw [this]
        simp only [cutW]
        split <;> split <;> omega
      · rw [w64 (by omega) (by omega)]
        simp only [cutW]
        split <;> split <;> omega
    unfold firstW at ih ⊢
    by_cases hh : hit t s = true
    · rw [List.map_cons, List.find?_cons_of_pos (by simpa using key.2 hh), List.find?_cons_of_pos hh]; rfl
    · rw [List.map_cons, List.find?_cons_of_neg (by simp only [decide_eq_true_eq]; exact fun q => hh (key.1 q)), List.find?_cons_of_neg hh]
      exact ih
theorem at_eq (xs : List Spn) (t : Int) (ht : R64 t) : atR (rvalid xs) xs t = .tup [.int .i64 (atS (patE xs t)), .int .i64 (errOf (patE xs t))] := by
  rw [valid_eq]
  unfold patE atR
  cases hv : valid xs with
  | false => rfl
  | true =>
    have h : ∀ s ∈ xs, s.t ≤ 10000000 := by
      unfold valid at hv
      rw [Bool.and_eq_true] at hv
      exact valid_hit hv.1
    have := find_eq xs t ht h
    rw [if_pos rfl]
    cases h1 : firstW xs t (IntKind.i64.wrap (t + 1)) with
    | none =>
      rw [h1] at this
      cases h2 : xs.find? (hit t) with
      | none => rfl
      | some s => rw [h2] at this; cases this
    | some c =>
      rw [h1] at this
      cases h2 : xs.find? (hit t) with
      | none => rw [h2] at this; cases this
      | some s =>
        rw [h2] at this
        simp only [Option.map_some, Option.some.injEq] at this
        simp only [atS, errOf, this]
end Go.Proofs.Ytmdbpbncdkdipaa
namespace Go.Proofs.Ytmdbpbncdkdipaa
open Go.Asl
set_option maxRecDepth 100000
set_option maxHeartbeats 4000000
attribute [local irreducible] Go.Asl.wpG Go.Code.wpIn Go.Asl.DrawG Go.Asl.LvX Go.Asl.G
theorem optE_eq (o : Option (List Spe)) : optE o = .tup [seL (o.getD []), .int .i64 (errOf o)] := by cases o <;> rfl
theorem c_law15_sane : FnP Kx 5 [] (.bool true) := by
  refine FnT_of_body ent5 Try.func5 rfl Try.ntmps5 rfl (fun C0 hC0 => ?_)
  repeat' (first | refine G_opsF Kx_ok 6 rfl ?_ | refine G_opF Kx_ok rfl ?_ | refine G_run rfl rfl rfl ?_ | refine G_nil ?_ | refine G_seq ?_ | refine G_region rfl ?_ | refine G_skip ?_ | refine G_block ?_ | refine G_drawn Kx_mixed rfl ?_ | refine D_opsF Kx_ok 6 rfl ?_ | refine D_opF Kx_ok rfl ?_ | refine D_nil rfl ?_ | refine G_cond_t rfl ?_ | refine G_cond_f rfl ?_ | refine G_exit ?_ | refine G_callP rfl rfl rfl rfl ((c_tl_Paint 100 0 [⟨20, 50, 7⟩] (by simp)).eq (show _ = AV.tup [spL [⟨0, 20, 0⟩, ⟨20, 50, 7⟩, ⟨50, 100, 0⟩], .int .i64 0] by kernel_rfl)) rfl rfl rfl ?_ | refine D_call rfl rfl rfl rfl rfl ((c_tl_Paint 100 0 [⟨20, 50, 7⟩] (by simp)).eq (show _ = AV.tup [spL [⟨0, 20, 0⟩, ⟨20, 50, 7⟩, ⟨50, 100, 0⟩], .int .i64 0] by kernel_rfl)) rfl rfl rfl rfl ?_ | refine G_callP rfl rfl rfl rfl ((c_tl_Put [⟨0, 20, 0⟩, ⟨20, 50, 7⟩, ⟨50, 100, 0⟩] ⟨40, 60, 9⟩ (by simp)).eq (show _ = AV.tup [spL [⟨0, 20, 0⟩, ⟨20, 40, 7⟩, ⟨40, 60, 9⟩, ⟨60, 100, 0⟩], .int .i64 0] by kernel_rfl)) rfl rfl rfl ?_ | refine D_call rfl rfl rfl rfl rfl ((c_tl_Put [⟨0, 20, 0⟩, ⟨20, 50, 7⟩, ⟨50, 100, 0⟩] ⟨40, 60, 9⟩ (by simp)).eq (show _ = AV.tup [spL [⟨0, 20, 0⟩, ⟨20, 40, 7⟩, ⟨40, 60, 9⟩, ⟨60, 100, 0⟩], .int .i64 0] by kernel_rfl)) rfl rfl rfl rfl ?_ | refine G_callP rfl rfl rfl rfl ((c_tl_Put [⟨0, 20, 0⟩, ⟨20, 50, 7⟩, ⟨50, 100, 0⟩] ⟨50, 60, 7⟩ (by simp)).eq (show _ = AV.tup [spL [⟨0, 20, 0⟩, ⟨20, 60, 7⟩, ⟨60, 100, 0⟩], .int .i64 0] by kernel_rfl)) rfl rfl rfl ?_ | refine D_call rfl rfl rfl rfl rfl ((c_tl_Put [⟨0, 20, 0⟩, ⟨20, 50, 7⟩, ⟨50, 100, 0⟩] ⟨50, 60, 7⟩ (by simp)).eq (show _ = AV.tup [spL [⟨0, 20, 0⟩, ⟨20, 60, 7⟩, ⟨60, 100, 0⟩], .int .i64 0] by kernel_rfl)) rfl rfl rfl rfl ?_ | refine G_callP rfl rfl rfl rfl ((c_timeline_Owned [⟨0, 20, 0⟩, ⟨20, 50, 7⟩, ⟨50, 100, 0⟩] 0 (by simp)).eq (show _ = AV.tup [seL [⟨0, 20⟩, ⟨50, 100⟩], .int .i64 0] by kernel_rfl)) rfl rfl rfl ?_ | refine D_call rfl rfl rfl rfl rfl ((c_timeline_Owned [⟨0, 20, 0⟩, ⟨20, 50, 7⟩, ⟨50, 100, 0⟩] 0 (by simp)).eq (show _ = AV.tup [seL [⟨0, 20⟩, ⟨50, 100⟩], .int .i64 0] by kernel_rfl)) rfl rfl rfl rfl ?_ | refine G_callP rfl rfl rfl rfl ((c_timeline_Owned [⟨0, 20, 0⟩, ⟨20, 50, 7⟩, ⟨50, 100, 0⟩] 5 (by simp)).eq (show _ = AV.tup [seL [], .int .i64 0] by kernel_rfl)) rfl rfl rfl ?_ | refine D_call rfl rfl rfl rfl rfl ((c_timeline_Owned [⟨0, 20, 0⟩, ⟨20, 50, 7⟩, ⟨50, 100, 0⟩] 5 (by simp)).eq (show _ = AV.tup [seL [], .int .i64 0] by kernel_rfl)) rfl rfl rfl rfl ?_ | refine G_callP rfl rfl rfl rfl ((c_tl_Diff [⟨0, 20, 0⟩, ⟨20, 50, 7⟩, ⟨50, 100, 0⟩] [⟨0, 20, 0⟩, ⟨20, 40, 7⟩, ⟨40, 60, 9⟩, ⟨60, 100, 0⟩] (by simp) (by simp)).eq (show _ = AV.tup [seL [⟨40, 60⟩], .int .i64 0] by kernel_rfl)) rfl rfl rfl ?_ | refine D_call rfl rfl rfl rfl rfl ((c_tl_Diff [⟨0, 20, 0⟩, ⟨20, 50, 7⟩, ⟨50, 100, 0⟩] [⟨0, 20, 0⟩, ⟨20, 40, 7⟩, ⟨40, 60, 9⟩, ⟨60, 100, 0⟩] (by simp) (by simp)).eq (show _ = AV.tup [seL [⟨40, 60⟩], .int .i64 0] by kernel_rfl)) rfl rfl rfl rfl ?_ | refine G_callP rfl rfl rfl rfl ((c_tl_At [⟨0, 20, 0⟩, ⟨20, 50, 7⟩, ⟨50, 100, 0⟩] 49 (by simp)).eq (show _ = AV.tup [.int .i64 7, .int .i64 0] by kernel_rfl)) rfl rfl rfl ?_ | refine D_call rfl rfl rfl rfl rfl ((c_tl_At [⟨0, 20, 0⟩, ⟨20, 50, 7⟩, ⟨50, 100, 0⟩] 49 (by simp)).eq (show _ = AV.tup [.int .i64 7, .int .i64 0] by kernel_rfl)) rfl rfl rfl rfl ?_ | refine G_callP rfl rfl rfl rfl ((c_tl_At [⟨0, 20, 0⟩, ⟨20, 50, 7⟩, ⟨50, 100, 0⟩] 50 (by simp)).eq (show _ = AV.tup [.int .i64 0, .int .i64 0] by kernel_rfl)) rfl rfl rfl ?_ | refine D_call rfl rfl rfl rfl rfl ((c_tl_At [⟨0, 20, 0⟩, ⟨20, 50, 7⟩, ⟨50, 100, 0⟩] 50 (by simp)).eq (show _ = AV.tup [.int .i64 0, .int .i64 0] by kernel_rfl)) rfl rfl rfl rfl ?_ | refine G_callP rfl rfl rfl rfl ((c_tl_At [⟨0, 20, 0⟩, ⟨20, 50, 7⟩, ⟨50, 100, 0⟩] 100 (by simp)).eq (show _ = AV.tup [.int .i64 0, .int .i64 150] by kernel_rfl)) rfl rfl rfl ?_ | refine D_call rfl rfl rfl rfl rfl ((c_tl_At [⟨0, 20, 0⟩, ⟨20, 50, 7⟩, ⟨50, 100, 0⟩] 100 (by simp)).eq (show _ = AV.tup [.int .i64 0, .int .i64 150] by kernel_rfl)) rfl rfl rfl rfl ?_ | refine G_callP rfl rfl rfl rfl ((c_tl_Within [⟨0, 20, 0⟩, ⟨20, 50, 7⟩, ⟨50, 100, 0⟩] ⟨10, 30⟩ (by simp)).eq (show _ = AV.tup [spL [⟨10, 20, 0⟩, ⟨20, 30, 7⟩], .int .i64 0] by kernel_rfl)) rfl rfl rfl ?_ | refine D_call rfl rfl rfl rfl rfl ((c_tl_Within [⟨0, 20, 0⟩, ⟨20, 50, 7⟩, ⟨50, 100, 0⟩] ⟨10, 30⟩ (by simp)).eq (show _ = AV.tup [spL [⟨10, 20, 0⟩, ⟨20, 30, 7⟩], .int .i64 0] by kernel_rfl)) rfl rfl rfl rfl ?_ | refine G_callP rfl rfl rfl rfl ((c_tl_Join [⟨0, 20, 0⟩, ⟨20, 50, 7⟩, ⟨50, 100, 0⟩] [⟨0, 20, 0⟩, ⟨20, 40, 7⟩, ⟨40, 60, 9⟩, ⟨60, 100, 0⟩] 45 (by simp) (by simp)).eq (show _ = AV.tup [spL [⟨0, 20, 0⟩, ⟨20, 45, 7⟩, ⟨45, 60, 9⟩, ⟨60, 100, 0⟩], .int .i64 0] by kernel_rfl)) rfl rfl rfl ?_ | refine D_call rfl rfl rfl rfl rfl ((c_tl_Join [⟨0, 20, 0⟩, ⟨20, 50, 7⟩, ⟨50, 100, 0⟩] [⟨0, 20, 0⟩, ⟨20, 40, 7⟩, ⟨40, 60, 9⟩, ⟨60, 100, 0⟩] 45 (by simp) (by simp)).eq (show _ = AV.tup [spL [⟨0, 20, 0⟩, ⟨20, 45, 7⟩, ⟨45, 60, 9⟩, ⟨60, 100, 0⟩], .int .i64 0] by kernel_rfl)) rfl rfl rfl rfl ?_ | refine G_callP rfl rfl rfl rfl ((c_timeline_Valid [⟨0, 20, 0⟩, ⟨20, 50, 7⟩, ⟨50, 100, 0⟩] (by simp)).eq (show _ = AV.bool true by kernel_rfl)) rfl rfl rfl ?_ | refine D_call rfl rfl rfl rfl rfl ((c_timeline_Valid [⟨0, 20, 0⟩, ⟨20, 50, 7⟩, ⟨50, 100, 0⟩] (by simp)).eq (show _ = AV.bool true by kernel_rfl)) rfl rfl rfl rfl ?_ | refine G_callP rfl rfl rfl rfl ((c_timeline_End [⟨0, 20, 0⟩, ⟨20, 50, 7⟩, ⟨50, 100, 0⟩] (by decide)).eq (show _ = AV.int .i64 100 by kernel_rfl)) rfl rfl rfl ?_ | refine D_call rfl rfl rfl rfl rfl ((c_timeline_End [⟨0, 20, 0⟩, ⟨20, 50, 7⟩, ⟨50, 100, 0⟩] (by decide)).eq (show _ = AV.int .i64 100 by kernel_rfl)) rfl rfl rfl rfl ?_ | refine G_callP rfl rfl rfl rfl ((c_timeline_End [⟨1, 2, 0⟩] (by decide)).eq (show _ = AV.int .i64 (-1) by kernel_rfl)) rfl rfl rfl ?_ | refine D_call rfl rfl rfl rfl rfl ((c_timeline_End [⟨1, 2, 0⟩] (by decide)).eq (show _ = AV.int .i64 (-1) by kernel_rfl)) rfl rfl rfl rfl ?_ | refine G_callP rfl rfl rfl rfl ((c_ref15_Same [⟨0, 20, 0⟩, ⟨20, 50, 7⟩, ⟨50, 100, 0⟩] [⟨0, 20, 0⟩, ⟨20, 50, 7⟩, ⟨50, 100, 0⟩] (by simp) (by simp)).eq (show _ = AV.bool true by kernel_rfl)) rfl rfl rfl ?_ | refine D_call rfl rfl rfl rfl rfl ((c_ref15_Same [⟨0, 20, 0⟩, ⟨20, 50, 7⟩, ⟨50, 100, 0⟩] [⟨0, 20, 0⟩, ⟨20, 50, 7⟩, ⟨50, 100, 0⟩] (by simp) (by simp)).eq (show _ = AV.bool true by kernel_rfl)) rfl rfl rfl rfl ?_ | refine G_callP rfl rfl rfl rfl ((c_ref15_Same [⟨0, 20, 0⟩, ⟨20, 40, 7⟩, ⟨40, 60, 9⟩, ⟨60, 100, 0⟩] [⟨0, 20, 0⟩, ⟨20, 40, 7⟩, ⟨40, 60, 9⟩, ⟨60, 100, 0⟩] (by simp) (by simp)).eq (show _ = AV.bool true by kernel_rfl)) rfl rfl rfl ?_ | refine D_call rfl rfl rfl rfl rfl ((c_ref15_Same [⟨0, 20, 0⟩, ⟨20, 40, 7⟩, ⟨40, 60, 9⟩, ⟨60, 100, 0⟩] [⟨0, 20, 0⟩, ⟨20, 40, 7⟩, ⟨40, 60, 9⟩, ⟨60, 100, 0⟩] (by simp) (by simp)).eq (show _ = AV.bool true by kernel_rfl)) rfl rfl rfl rfl ?_ | refine G_callP rfl rfl rfl rfl ((c_ref15_Same [⟨0, 20, 0⟩, ⟨20, 60, 7⟩, ⟨60, 100, 0⟩] [⟨0, 20, 0⟩, ⟨20, 60, 7⟩, ⟨60, 100, 0⟩] (by simp) (by simp)).eq (show _ = AV.bool true by kernel_rfl)) rfl rfl rfl ?_ | refine D_call rfl rfl rfl rfl rfl ((c_ref15_Same [⟨0, 20, 0⟩, ⟨20, 60, 7⟩, ⟨60, 100, 0⟩] [⟨0, 20, 0⟩, ⟨20, 60, 7⟩, ⟨60, 100, 0⟩] (by simp) (by simp)).eq (show _ = AV.bool true by kernel_rfl)) rfl rfl rfl rfl ?_ | refine G_callP rfl rfl rfl rfl ((c_ref15_Same [⟨10, 20, 0⟩, ⟨20, 30, 7⟩] [⟨10, 20, 0⟩, ⟨20, 30, 7⟩] (by simp) (by simp)).eq (show _ = AV.bool true by kernel_rfl)) rfl rfl rfl ?_ | refine D_call rfl rfl rfl rfl rfl ((c_ref15_Same [⟨10, 20, 0⟩, ⟨20, 30, 7⟩] [⟨10, 20, 0⟩, ⟨20, 30, 7⟩] (by simp) (by simp)).eq (show _ = AV.bool true by kernel_rfl)) rfl rfl rfl rfl ?_ | refine G_callP rfl rfl rfl rfl ((c_ref15_Same [⟨0, 20, 0⟩, ⟨20, 45, 7⟩, ⟨45, 60, 9⟩, ⟨60, 100, 0⟩] [⟨0, 20, 0⟩, ⟨20, 45, 7⟩, ⟨45, 60, 9⟩, ⟨60, 100, 0⟩] (by simp) (by simp)).eq (show _ = AV.bool true by kernel_rfl)) rfl rfl rfl ?_ | refine D_call rfl rfl rfl rfl rfl ((c_ref15_Same [⟨0, 20, 0⟩, ⟨20, 45, 7⟩, ⟨45, 60, 9⟩, ⟨60, 100, 0⟩] [⟨0, 20, 0⟩, ⟨20, 45, 7⟩, ⟨45, 60, 9⟩, ⟨60, 100, 0⟩] (by simp) (by simp)).eq (show _ = AV.bool true by kernel_rfl)) rfl rfl rfl rfl ?_ | refine G_callP rfl rfl rfl rfl ((c_ref07_SameSpells [⟨0, 20⟩, ⟨50, 100⟩] [⟨0, 20⟩, ⟨50, 100⟩] (by simp) (by simp)).eq (show _ = AV.bool true by kernel_rfl)) rfl rfl rfl ?_ | refine D_call rfl rfl rfl rfl rfl ((c_ref07_SameSpells [⟨0, 20⟩, ⟨50, 100⟩] [⟨0, 20⟩, ⟨50, 100⟩] (by simp) (by simp)).eq (show _ = AV.bool true by kernel_rfl)) rfl rfl rfl rfl ?_ | refine G_callP rfl rfl rfl rfl ((c_ref07_SameSpells [⟨40, 60⟩] [⟨40, 60⟩] (by simp) (by simp)).eq (show _ = AV.bool true by kernel_rfl)) rfl rfl rfl ?_ | refine D_call rfl rfl rfl rfl rfl ((c_ref07_SameSpells [⟨40, 60⟩] [⟨40, 60⟩] (by simp) (by simp)).eq (show _ = AV.bool true by kernel_rfl)) rfl rfl rfl rfl ?_ | refine G_splitD rfl (fun h => ?_) (fun h => ?_) | refine D_splitD rfl (fun h => ?_) (fun h => ?_) | ((fail_if_success refine G_isL rfl rfl ?_); refine G_split rfl (fun h => ?_) (fun h => ?_)) | ((fail_if_success refine D_isL rfl rfl ?_); refine D_split rfl (fun h => ?_) (fun h => ?_)) | refine G_condD rfl (fun h => ?_) (fun h => ?_) | refine G_condN rfl (fun h => ?_) (fun h => ?_) | refine G_cond rfl (fun h => ?_) (fun h => ?_) | refine G_ret (G_leave ?_))
  all_goals exact G_return Kx_ok rfl rfl
end Go.Proofs.Ytmdbpbncdkdipaa
namespace Go.Proofs.Ytmdbpbncdkdipaa
open Go.Asl
set_option maxRecDepth 100000
set_option maxHeartbeats 4000000
attribute [local irreducible] Go.Asl.wpG Go.Code.wpIn Go.Asl.DrawG Go.Asl.LvX Go.Asl.G

theorem foldP_len : ∀ (xs : List Spn) (o : Option (List Spn)), (∀ l, o = some l → l.length ≤ 200) → ∀ l, xs.foldl stepP o = some l → l.length ≤ 200
  | [], o, h, l, e => h l e
  | s :: r, o, h, l, e => foldP_len r (stepP o s) (fun l' e' => by
      cases o with
      | none => cases e'
      | some q => exact pput_len e') l e
theorem ppaint_len (e w : Int) (xs : List Spn) : ((ppaint e w xs).getD []).length ≤ 200 := by
  cases h : ppaint e w xs with
  | none => simp
  | some l => exact foldP_len xs _ (fun l' e' => by have := newS_len e'; omega) l h
theorem madeS_len (n : Int) (x : List Tri) : (madeS n x).length ≤ 200 := by
  unfold madeS; rw [rpaint_eq]; exact ppaint_len _ _ _
theorem bentS_len (xs : List Spn) (h o a : Int) : (bentS xs h o a).length ≤ xs.length + 1 := by
  unfold bentS
  split
  · simp
  · split
    · simp
    · split
      · simp
      · split
        · simp
        · split
          · simp
          · split
            · simp; omega
            · simp
theorem pjoin_len (xs ys : List Spn) (t : Int) : ((pjoin xs ys t).getD []).length ≤ 200 := by
  unfold pjoin
  split
  · rename_i h; exact h.2.2.2.2.2
  · simp
theorem pwithin_len (xs : List Spn) (s : Spe) : ((pwithin xs s).getD []).length ≤ 200 := by
  unfold pwithin
  split
  · rename_i h; exact h.2.2
  · simp
theorem pput_len' (xs : List Spn) (s : Spn) : ((pput xs s).getD []).length ≤ 200 := by
  cases h : pput xs s with
  | none => simp
  | some l => exact pput_len h
theorem powned_len (xs : List Spn) (w : Int) : ((powned xs w).getD []).length ≤ xs.length := by
  unfold powned
  split
  · exact ownedS_len xs w
  · simp
theorem diffW_len (ys : List Spn) : ∀ (xs : List Spn) (acc : List Spe), (xs.foldl (rowD ys) acc).length ≤ acc.length + xs.length * ys.length
  | [], acc => by simp
  | s :: r, acc => by
    have h1 := diffW_len ys r (rowD ys acc s)
    have h2 := rowD_len s ys acc
    rw [List.foldl_cons, List.length_cons, Nat.add_mul]; omega
theorem pdiff_len (xs ys : List Spn) (h : xs.length ≤ 201) (h' : ys.length ≤ 201) : ((pdiff xs ys).getD []).length ≤ 100000 := by
  unfold pdiff
  split
  · have := diffW_len ys xs []
    have h2 := Nat.mul_le_mul h h'
    simp only [Option.getD_some]
    unfold diffW
    rw [List.length_nil] at this
    omega
  · simp
theorem newS_len' (e w : Int) : ((newS e w).getD []).length ≤ 1 := by
  cases h : newS e w with
  | none => simp
  | some l => exact newS_len h

theorem c_law15_Timeline (n : Int) (x : List Tri) (m : Int) (y : List Tri) (raw : List Spn) (how odd at' : Int) (s : Spn) (t : Int) (hn : R64 n) (hm : R64 m) (hh : R64 how) (ha : R64 at') (ht : R64 t) (hs : R64t (s.f, s.t, s.o))
    (hx : ∀ p ∈ x, R64t p) (hy : ∀ p ∈ y, R64t p) (hxl : x.length ≤ 9223372036854775807) (hyl : y.length ≤ 9223372036854775807) (hr : raw.length ≤ 9223372036854775807) :
    FnP Kx 3 [.int .i64 n, triL x, .int .i64 m, triL y, spL raw, .int .i64 how, .int .i64 odd, .int .i64 at', spA s, .int .i64 t] (.bool true) := by
  refine FnT_of_body ent3 Try.func3 rfl Try.ntmps3 rfl (fun C0 hC0 => ?_)
  have lA := madeS_len n x
  have lB := madeS_len m y
  have lC := bentS_len (madeS n x) how odd at'
  have lD : (raw.take 8).length ≤ 8 := by simp; omega
  have bp := pickI_range n 400 (by omega)
  have e400 : IntKind.i64.wrap (1 + pickI n 400) = 1 + pickI n 400 := w64 (by omega) (by omega)
  repeat' (first | refine G_opsF Kx_ok 6 rfl ?_ | refine G_opF Kx_ok rfl ?_ | refine G_run rfl rfl rfl ?_ | refine G_nil ?_ | refine G_seq ?_ | refine G_region rfl ?_ | refine G_skip ?_ | refine G_block ?_ | refine G_drawn Kx_mixed rfl ?_ | refine D_opsF Kx_ok 6 rfl ?_ | refine D_opF Kx_ok rfl ?_ | refine D_nil rfl ?_ | refine G_cond_t rfl ?_ | refine G_cond_f rfl ?_ | refine G_exit ?_ | refine G_callP rfl rfl rfl rfl (c_law15_sane) rfl rfl rfl ?_ | refine D_call rfl rfl rfl rfl rfl (c_law15_sane) rfl rfl rfl rfl ?_ | refine G_callP rfl rfl rfl rfl (c_ref15_Made n x hn hx hxl) rfl rfl rfl ?_ | refine D_call rfl rfl rfl rfl rfl (c_ref15_Made n x hn hx hxl) rfl rfl rfl rfl ?_ | refine G_callP rfl rfl rfl rfl (c_ref15_Made m y hm hy hyl) rfl rfl rfl ?_ | refine D_call rfl rfl rfl rfl rfl (c_ref15_Made m y hm hy hyl) rfl rfl rfl rfl ?_ | refine G_callP rfl rfl rfl rfl (c_law15_pick n 400 hn (by omega)) rfl rfl rfl ?_ | refine D_call rfl rfl rfl rfl rfl (c_law15_pick n 400 hn (by omega)) rfl rfl rfl rfl ?_ | refine G_callP rfl rfl rfl rfl (c_ref15_Spans (IntKind.i64.wrap (1 + pickI n 400)) [(s.f, s.t, s.o)] (by omega) (by omega) (by simpa using hs) (by simp)) rfl rfl rfl ?_ | refine D_call rfl rfl rfl rfl rfl (c_ref15_Spans (IntKind.i64.wrap (1 + pickI n 400)) [(s.f, s.t, s.o)] (by omega) (by omega) (by simpa using hs) (by simp)) rfl rfl rfl rfl ?_ | refine G_callP rfl rfl rfl rfl (c_ref15_Bent (madeS n x) how odd at' hh ha (by omega)) rfl rfl rfl ?_ | refine D_call rfl rfl rfl rfl rfl (c_ref15_Bent (madeS n x) how odd at' hh ha (by omega)) rfl rfl rfl rfl ?_ | refine G_callP rfl rfl rfl rfl (c_law15_few raw hr) rfl rfl rfl ?_ | refine D_call rfl rfl rfl rfl rfl (c_law15_few raw hr) rfl rfl rfl rfl ?_ | refine G_splitD rfl (fun h => ?_) (fun h => ?_) | refine D_splitD rfl (fun h => ?_) (fun h => ?_) | ((fail_if_success refine G_isL rfl rfl ?_); refine G_split rfl (fun h => ?_) (fun h => ?_)) | ((fail_if_success refine D_isL rfl rfl ?_); refine D_split rfl (fun h => ?_) (fun h => ?_)) | refine G_condD rfl (fun h => ?_) (fun h => ?_) | refine G_condN rfl (fun h => ?_) (fun h => ?_) | refine G_cond rfl (fun h => ?_) (fun h => ?_) | refine G_ret (G_leave ?_))
  refine G_wk [(0, .int .i64 n), (4, spL raw), (6, .int .i64 odd), (9, .int .i64 t), (18, .ptr 0 0), (21, .bool true), (22, spL (madeS n x)), (23, spL (madeS m y)), (24, spL (spansS (IntKind.i64.wrap (1 + pickI n 400)) [(s.f, s.t, s.o)])), (96, .lst [spL (madeS n x), spL (bentS (madeS n x) how odd at'), spL (raw.take 8)]), (97, .int .i64 3), (98, .int .i64 0)] [(0, .box [.int .i64 s.f, .int .i64 s.t, .int .i64 s.o])] hC0 rfl rfl (by repeat' (first | exact trivial | refine ⟨⟨rfl, rfl⟩, ?_⟩ | refine ⟨⟨iv (by first | rfl | omega | (rw [w64 (by omega) (by omega)]; omega)), rfl⟩, ?_⟩)) (by repeat' (first | exact trivial | refine ⟨.inl rfl, ?_⟩ | refine ⟨.inr ⟨rfl, rfl⟩, ?_⟩ | refine ⟨.inr ⟨arrE (by first | rfl | (rw [List.map_append]; rfl)), rfl⟩, ?_⟩)) (by repeat' (first | exact trivial | refine ⟨⟨rfl, rfl⟩, ?_⟩)) ?_
  refine G_loopF (fun (i : Nat) => [(98, .int .i64 i)]) (fun _ => [(0, .box [.int .i64 s.f, .int .i64 s.t, .int .i64 s.o])]) (fun i => i ≤ 3) (fun i => 3 - i) 0 rfl (by omega) (G_atL hC0 rfl rfl (by repeat' (first | exact trivial | refine ⟨⟨rfl, rfl⟩, ?_⟩ | refine ⟨⟨iv (by first | rfl | omega | (rw [w64 (by omega) (by omega)]; omega)), rfl⟩, ?_⟩)) (by repeat' (first | exact trivial | refine ⟨.inl rfl, ?_⟩ | refine ⟨.inr ⟨rfl, rfl⟩, ?_⟩ | refine ⟨.inr ⟨arrE (by first | rfl | (rw [List.map_append]; rfl)), rfl⟩, ?_⟩)) (by repeat' (first | exact trivial | refine ⟨⟨rfl, rfl⟩, ?_⟩))) ?_
  · intro i hi
    dsimp only [List.cons_append, List.nil_append] at *
    repeat' (first | refine G_opsF Kx_ok 6 rfl ?_ | refine G_opF Kx_ok rfl ?_ | refine G_run rfl rfl rfl ?_ | refine G_nil ?_ | refine G_seq ?_ | refine G_region rfl ?_ | refine G_skip ?_ | refine G_block ?_ | refine G_drawn Kx_mixed rfl ?_ | refine D_opsF Kx_ok 6 rfl ?_ | refine D_opF Kx_ok rfl ?_ | refine D_nil rfl ?_ | refine G_cond_t rfl ?_ | refine G_cond_f rfl ?_ | refine G_exit ?_ | refine G_splitD rfl (fun h => ?_) (fun h => ?_) | refine D_splitD rfl (fun h => ?_) (fun h => ?_) | ((fail_if_success refine G_isL rfl rfl ?_); refine G_split rfl (fun h => ?_) (fun h => ?_)) | ((fail_if_success refine D_isL rfl rfl ?_); refine D_split rfl (fun h => ?_) (fun h => ?_)) | refine G_condD rfl (fun h => ?_) (fun h => ?_) | refine G_condN rfl (fun h => ?_) (fun h => ?_) | refine G_cond rfl (fun h => ?_) (fun h => ?_) | refine G_ret (G_leave ?_))
    · obtain ⟨l, hl, hll⟩ : ∃ l : List Spn, ([spL (madeS n x), spL (bentS (madeS n x) how odd at'), spL (raw.take 8)] : List AV)[i]? = some (spL l) ∧ l.length ≤ 201 := by
        have hi3 : i < 3 := by simp at * <;> omega
        match i, hi3 with
        | 0, _ => exact ⟨_, rfl, by omega⟩
        | 1, _ => exact ⟨_, rfl, by omega⟩
        | 2, _ => exact ⟨_, rfl, by omega⟩
      repeat' (first | refine G_splitD rfl (fun h => absurd rfl h) (fun h => ?_) | refine D_splitD rfl (fun h => absurd rfl h) (fun h => ?_) | refine G_splitD rfl (fun h => ?_) (fun h => absurd rfl h) | refine D_splitD rfl (fun h => ?_) (fun h => absurd rfl h) | refine G_condD rfl (fun h => absurd rfl h) (fun h => ?_) | refine G_condD rfl (fun h => ?_) (fun h => absurd rfl h) | refine G_eqBS Kx_ok true rfl rfl rfl rfl rfl rfl ?_ | refine G_eqBS Kx_ok false rfl rfl rfl rfl rfl rfl ?_ | refine G_opsF Kx_ok 6 rfl ?_ | refine G_opF Kx_ok rfl ?_ | refine G_run rfl rfl rfl ?_ | refine G_nil ?_ | refine G_seq ?_ | refine G_region rfl ?_ | refine G_skip ?_ | refine G_block ?_ | refine G_drawn Kx_mixed rfl ?_ | refine D_opsF Kx_ok 6 rfl ?_ | refine D_opF Kx_ok rfl ?_ | refine D_nil rfl ?_ | refine G_cond_t rfl ?_ | refine G_cond_f rfl ?_ | refine G_exit ?_ | (refine G_index_lst Kx_ok rfl rfl rfl rfl rfl (by simpa using hl) (by omega) rfl rfl rfl ?_) | refine G_callP rfl rfl rfl rfl (c_timeline_Valid l (by omega)) rfl rfl rfl ?_ | refine D_call rfl rfl rfl rfl rfl (c_timeline_Valid l (by omega)) rfl rfl rfl rfl ?_ | refine G_callP rfl rfl rfl rfl ((c_ref15_Valid l (by omega)).eq (bv (valid_eq l))) rfl rfl rfl ?_ | refine D_call rfl rfl rfl rfl rfl ((c_ref15_Valid l (by omega)).eq (bv (valid_eq l))) rfl rfl rfl rfl ?_ | refine G_callP rfl rfl rfl rfl (c_timeline_End l (Nat.le_trans hll (by decide))) rfl rfl rfl ?_ | refine D_call rfl rfl rfl rfl rfl (c_timeline_End l (Nat.le_trans hll (by decide))) rfl rfl rfl rfl ?_ | refine G_callP rfl rfl rfl rfl ((c_ref15_End l (by omega)).eq (by rw [valid_eq])) rfl rfl rfl ?_ | refine D_call rfl rfl rfl rfl rfl ((c_ref15_End l (by omega)).eq (by rw [valid_eq])) rfl rfl rfl rfl ?_ | refine G_callP rfl rfl rfl rfl (c_law15_pick n 400 hn (by omega)) rfl rfl rfl ?_ | refine D_call rfl rfl rfl rfl rfl (c_law15_pick n 400 hn (by omega)) rfl rfl rfl rfl ?_ | refine G_callP rfl rfl rfl rfl (c_law15_pick t (IntKind.i64.wrap (1 + pickI n 400)) ht (by omega)) rfl rfl rfl ?_ | refine D_call rfl rfl rfl rfl rfl (c_law15_pick t (IntKind.i64.wrap (1 + pickI n 400)) ht (by omega)) rfl rfl rfl rfl ?_ | refine G_splitD rfl (fun h => ?_) (fun h => ?_) | refine D_splitD rfl (fun h => ?_) (fun h => ?_) | ((fail_if_success refine G_isL rfl rfl ?_); refine G_split rfl (fun h => ?_) (fun h => ?_)) | ((fail_if_success refine D_isL rfl rfl ?_); refine D_split rfl (fun h => ?_) (fun h => ?_)) | refine G_condD rfl (fun h => ?_) (fun h => ?_) | refine G_condN rfl (fun h => ?_) (fun h => ?_) | refine G_cond rfl (fun h => ?_) (fun h => ?_) | refine G_ret (G_leave ?_))
      refine G_wk [(0, .int .i64 n), (4, spL raw), (6, .int .i64 odd), (9, .int .i64 t), (18, .ptr 0 0), (21, .bool true), (22, spL (madeS n x)), (23, spL (madeS m y)), (24, spL (spansS (IntKind.i64.wrap (1 + pickI n 400)) [(s.f, s.t, s.o)])), (96, .lst [spL (madeS n x), spL (bentS (madeS n x) how odd at'), spL (raw.take 8)]), (97, .int .i64 3), (26, spL l), (98, .int .i64 i), (120, .lst [.int .i64 t, .int .i64 (pickI t (IntKind.i64.wrap (1 + pickI n 400)))]), (121, .int .i64 2), (122, .int .i64 0)] [(0, .box [.int .i64 s.f, .int .i64 s.t, .int .i64 s.o])] hC0 rfl rfl (by repeat' (first | exact trivial | refine ⟨⟨rfl, rfl⟩, ?_⟩ | refine ⟨⟨iv (by first | rfl | omega | (rw [w64 (by omega) (by omega)]; omega)), rfl⟩, ?_⟩)) (by repeat' (first | exact trivial | refine ⟨.inl rfl, ?_⟩ | refine ⟨.inr ⟨rfl, rfl⟩, ?_⟩ | refine ⟨.inr ⟨arrE (by first | rfl | (rw [List.map_append]; rfl)), rfl⟩, ?_⟩)) (by repeat' (first | exact trivial | refine ⟨⟨rfl, rfl⟩, ?_⟩)) ?_
      refine G_loopF (fun (j : Nat) => [(122, .int .i64 j)]) (fun _ => [(0, .box [.int .i64 s.f, .int .i64 s.t, .int .i64 s.o])]) (fun j => j ≤ 2) (fun j => 2 - j) 0 rfl (by omega) (G_atL hC0 rfl rfl (by repeat' (first | exact trivial | refine ⟨⟨rfl, rfl⟩, ?_⟩ | refine ⟨⟨iv (by first | rfl | omega | (rw [w64 (by omega) (by omega)]; omega)), rfl⟩, ?_⟩)) (by repeat' (first | exact trivial | refine ⟨.inl rfl, ?_⟩ | refine ⟨.inr ⟨rfl, rfl⟩, ?_⟩ | refine ⟨.inr ⟨arrE (by first | rfl | (rw [List.map_append]; rfl)), rfl⟩, ?_⟩)) (by repeat' (first | exact trivial | refine ⟨⟨rfl, rfl⟩, ?_⟩))) ?_
      intro j hj
      dsimp only [List.cons_append, List.nil_append] at *
      repeat' (first | refine G_opsF Kx_ok 6 rfl ?_ | refine G_opF Kx_ok rfl ?_ | refine G_run rfl rfl rfl ?_ | refine G_nil ?_ | refine G_seq ?_ | refine G_region rfl ?_ | refine G_skip ?_ | refine G_block ?_ | refine G_drawn Kx_mixed rfl ?_ | refine D_opsF Kx_ok 6 rfl ?_ | refine D_opF Kx_ok rfl ?_ | refine D_nil rfl ?_ | refine G_cond_t rfl ?_ | refine G_cond_f rfl ?_ | refine G_exit ?_ | refine G_splitD rfl (fun h => ?_) (fun h => ?_) | refine D_splitD rfl (fun h => ?_) (fun h => ?_) | ((fail_if_success refine G_isL rfl rfl ?_); refine G_split rfl (fun h => ?_) (fun h => ?_)) | ((fail_if_success refine D_isL rfl rfl ?_); refine D_split rfl (fun h => ?_) (fun h => ?_)) | refine G_condD rfl (fun h => ?_) (fun h => ?_) | refine G_condN rfl (fun h => ?_) (fun h => ?_) | refine G_cond rfl (fun h => ?_) (fun h => ?_) | refine G_ret (G_leave ?_))
      · obtain ⟨k, hk, hkr⟩ : ∃ k : Int, ([.int .i64 t, .int .i64 (pickI t (IntKind.i64.wrap (1 + pickI n 400)))] : List AV)[j]? = some (.int .i64 k) ∧ R64 k := by
          have hj3 : j < 2 := by simp at * <;> omega
          match j, hj3 with
          | 0, _ => exact ⟨_, rfl, ht⟩
          | 1, _ => exact ⟨_, rfl, by have := pickI_range t (IntKind.i64.wrap (1 + pickI n 400)) (by omega); unfold R64; omega⟩
        repeat' (first | refine G_splitD rfl (fun h => absurd rfl h) (fun h => ?_) | refine D_splitD rfl (fun h => absurd rfl h) (fun h => ?_) | refine G_splitD rfl (fun h => ?_) (fun h => absurd rfl h) | refine D_splitD rfl (fun h => ?_) (fun h => absurd rfl h) | refine G_condD rfl (fun h => absurd rfl h) (fun h => ?_) | refine G_condD rfl (fun h => ?_) (fun h => absurd rfl h) | refine G_eqBS Kx_ok true rfl rfl rfl rfl rfl rfl ?_ | refine G_eqBS Kx_ok false rfl rfl rfl rfl rfl rfl ?_ | refine G_opsF Kx_ok 6 rfl ?_ | refine G_opF Kx_ok rfl ?_ | refine G_run rfl rfl rfl ?_ | refine G_nil ?_ | refine G_seq ?_ | refine G_region rfl ?_ | refine G_skip ?_ | refine G_block ?_ | refine G_drawn Kx_mixed rfl ?_ | refine D_opsF Kx_ok 6 rfl ?_ | refine D_opF Kx_ok rfl ?_ | refine D_nil rfl ?_ | refine G_cond_t rfl ?_ | refine G_cond_f rfl ?_ | refine G_exit ?_ | (refine G_index_lst Kx_ok rfl rfl rfl rfl rfl (by simpa using hk) (by omega) rfl rfl rfl ?_) | refine G_callP rfl rfl rfl rfl (c_tl_At l k (by omega)) rfl rfl rfl ?_ | refine D_call rfl rfl rfl rfl rfl (c_tl_At l k (by omega)) rfl rfl rfl rfl ?_ | refine G_callP rfl rfl rfl rfl ((c_ref15_At l k (by omega)).eq (at_eq l k hkr)) rfl rfl rfl ?_ | refine D_call rfl rfl rfl rfl rfl ((c_ref15_At l k (by omega)).eq (at_eq l k hkr)) rfl rfl rfl rfl ?_ | refine G_callP rfl rfl rfl rfl (c_tl_Join l (madeS m y) k (by omega) (by omega)) rfl rfl rfl ?_ | refine D_call rfl rfl rfl rfl rfl (c_tl_Join l (madeS m y) k (by omega) (by omega)) rfl rfl rfl rfl ?_ | refine G_callP rfl rfl rfl rfl ((c_ref15_Join l (madeS m y) k (by omega)).eq (by rw [optR_eq, rjoin_eq])) rfl rfl rfl ?_ | refine D_call rfl rfl rfl rfl rfl ((c_ref15_Join l (madeS m y) k (by omega)).eq (by rw [optR_eq, rjoin_eq])) rfl rfl rfl rfl ?_ | refine G_callP rfl rfl rfl rfl (c_tl_Join (madeS m y) l k (by omega) (by omega)) rfl rfl rfl ?_ | refine D_call rfl rfl rfl rfl rfl (c_tl_Join (madeS m y) l k (by omega) (by omega)) rfl rfl rfl rfl ?_ | refine G_callP rfl rfl rfl rfl ((c_ref15_Join (madeS m y) l k (by omega)).eq (by rw [optR_eq, rjoin_eq])) rfl rfl rfl ?_ | refine D_call rfl rfl rfl rfl rfl ((c_ref15_Join (madeS m y) l k (by omega)).eq (by rw [optR_eq, rjoin_eq])) rfl rfl rfl rfl ?_ | refine G_callP rfl rfl rfl rfl ((c_ref15_Same ((pjoin l (madeS m y) k).getD []) ((pjoin l (madeS m y) k).getD []) (Nat.le_trans (pjoin_len _ _ _) (by decide)) (Nat.le_trans (pjoin_len _ _ _) (by decide))).eq (bt rfl)) rfl rfl rfl ?_ | refine D_call rfl rfl rfl rfl rfl ((c_ref15_Same ((pjoin l (madeS m y) k).getD []) ((pjoin l (madeS m y) k).getD []) (Nat.le_trans (pjoin_len _ _ _) (by decide)) (Nat.le_trans (pjoin_len _ _ _) (by decide))).eq (bt rfl)) rfl rfl rfl rfl ?_ | refine G_callP rfl rfl rfl rfl ((c_ref15_Same ((pjoin (madeS m y) l k).getD []) ((pjoin (madeS m y) l k).getD []) (Nat.le_trans (pjoin_len _ _ _) (by decide)) (Nat.le_trans (pjoin_len _ _ _) (by decide))).eq (bt rfl)) rfl rfl rfl ?_ | refine D_call rfl rfl rfl rfl rfl ((c_ref15_Same ((pjoin (madeS m y) l k).getD []) ((pjoin (madeS m y) l k).getD []) (Nat.le_trans (pjoin_len _ _ _) (by decide)) (Nat.le_trans (pjoin_len _ _ _) (by decide))).eq (bt rfl)) rfl rfl rfl rfl ?_ | refine G_splitD rfl (fun h => ?_) (fun h => ?_) | refine D_splitD rfl (fun h => ?_) (fun h => ?_) | ((fail_if_success refine G_isL rfl rfl ?_); refine G_split rfl (fun h => ?_) (fun h => ?_)) | ((fail_if_success refine D_isL rfl rfl ?_); refine D_split rfl (fun h => ?_) (fun h => ?_)) | refine G_condD rfl (fun h => ?_) (fun h => ?_) | refine G_condN rfl (fun h => ?_) (fun h => ?_) | refine G_cond rfl (fun h => ?_) (fun h => ?_) | refine G_ret (G_leave ?_))
        exact G_nextF (j + 1) (by simp at * <;> omega) (by simp at * <;> omega) (G_atL hC0 rfl rfl (by repeat' (first | exact trivial | refine ⟨⟨rfl, rfl⟩, ?_⟩ | refine ⟨⟨iv (by first | rfl | omega | (rw [w64 (by omega) (by omega)]; omega)), rfl⟩, ?_⟩)) (by repeat' (first | exact trivial | refine ⟨.inl rfl, ?_⟩ | refine ⟨.inr ⟨rfl, rfl⟩, ?_⟩ | refine ⟨.inr ⟨arrE (by first | rfl | (rw [List.map_append]; rfl)), rfl⟩, ?_⟩)) (by repeat' (first | exact trivial | refine ⟨⟨rfl, rfl⟩, ?_⟩)))
      repeat' (first | refine G_splitD rfl (fun h => absurd rfl h) (fun h => ?_) | refine D_splitD rfl (fun h => absurd rfl h) (fun h => ?_) | refine G_splitD rfl (fun h => ?_) (fun h => absurd rfl h) | refine D_splitD rfl (fun h => ?_) (fun h => absurd rfl h) | refine G_condD rfl (fun h => absurd rfl h) (fun h => ?_) | refine G_condD rfl (fun h => ?_) (fun h => absurd rfl h) | refine G_eqBS Kx_ok true rfl rfl rfl rfl rfl rfl ?_ | refine G_eqBS Kx_ok false rfl rfl rfl rfl rfl rfl ?_ | refine G_opsF Kx_ok 6 rfl ?_ | refine G_opF Kx_ok rfl ?_ | refine G_run rfl rfl rfl ?_ | refine G_nil ?_ | refine G_seq ?_ | refine G_region rfl ?_ | refine G_skip ?_ | refine G_block ?_ | refine G_drawn Kx_mixed rfl ?_ | refine D_opsF Kx_ok 6 rfl ?_ | refine D_opF Kx_ok rfl ?_ | refine D_nil rfl ?_ | refine G_cond_t rfl ?_ | refine G_cond_f rfl ?_ | refine G_exit ?_ | refine G_splitD rfl (fun h => ?_) (fun h => ?_) | refine D_splitD rfl (fun h => ?_) (fun h => ?_) | ((fail_if_success refine G_isL rfl rfl ?_); refine G_split rfl (fun h => ?_) (fun h => ?_)) | ((fail_if_success refine D_isL rfl rfl ?_); refine D_split rfl (fun h => ?_) (fun h => ?_)) | refine G_condD rfl (fun h => ?_) (fun h => ?_) | refine G_condN rfl (fun h => ?_) (fun h => ?_) | refine G_cond rfl (fun h => ?_) (fun h => ?_) | refine G_ret (G_leave ?_))
      refine G_wk [(0, .int .i64 n), (4, spL raw), (6, .int .i64 odd), (9, .int .i64 t), (18, .ptr 0 0), (21, .bool true), (22, spL (madeS n x)), (23, spL (madeS m y)), (24, spL (spansS (IntKind.i64.wrap (1 + pickI n 400)) [(s.f, s.t, s.o)])), (96, .lst [spL (madeS n x), spL (bentS (madeS n x) how odd at'), spL (raw.take 8)]), (97, .int .i64 3), (26, spL l), (98, .int .i64 i), (199, .lst [spA s, spA (spanOf (IntKind.i64.wrap (1 + pickI n 400)) (s.f, s.t, s.o))]), (200, .int .i64 2), (201, .int .i64 0)] [(0, .box [.int .i64 s.f, .int .i64 s.t, .int .i64 s.o])] hC0 rfl rfl (by repeat' (first | exact trivial | refine ⟨⟨rfl, rfl⟩, ?_⟩ | refine ⟨⟨iv (by first | rfl | omega | (rw [w64 (by omega) (by omega)]; omega)), rfl⟩, ?_⟩)) (by repeat' (first | exact trivial | refine ⟨.inl rfl, ?_⟩ | refine ⟨.inr ⟨rfl, rfl⟩, ?_⟩ | refine ⟨.inr ⟨arrE (by first | rfl | (rw [List.map_append]; rfl)), rfl⟩, ?_⟩)) (by repeat' (first | exact trivial | refine ⟨⟨rfl, rfl⟩, ?_⟩)) ?_
      refine G_loopF (fun (j : Nat) => [(201, .int .i64 j)]) (fun _ => [(0, .box [.int .i64 s.f, .int .i64 s.t, .int .i64 s.o])]) (fun j => j ≤ 2) (fun j => 2 - j) 0 rfl (by omega) (G_atL hC0 rfl rfl (by repeat' (first | exact trivial | refine ⟨⟨rfl, rfl⟩, ?_⟩ | refine ⟨⟨iv (by first | rfl | omega | (rw [w64 (by omega) (by omega)]; omega)), rfl⟩, ?_⟩)) (by repeat' (first | exact trivial | refine ⟨.inl rfl, ?_⟩ | refine ⟨.inr ⟨rfl, rfl⟩, ?_⟩ | refine ⟨.inr ⟨arrE (by first | rfl | (rw [List.map_append]; rfl)), rfl⟩, ?_⟩)) (by repeat' (first | exact trivial | refine ⟨⟨rfl, rfl⟩, ?_⟩))) ?_
      intro j hj
      dsimp only [List.cons_append, List.nil_append] at *
      repeat' (first | refine G_opsF Kx_ok 6 rfl ?_ | refine G_opF Kx_ok rfl ?_ | refine G_run rfl rfl rfl ?_ | refine G_nil ?_ | refine G_seq ?_ | refine G_region rfl ?_ | refine G_skip ?_ | refine G_block ?_ | refine G_drawn Kx_mixed rfl ?_ | refine D_opsF Kx_ok 6 rfl ?_ | refine D_opF Kx_ok rfl ?_ | refine D_nil rfl ?_ | refine G_cond_t rfl ?_ | refine G_cond_f rfl ?_ | refine G_exit ?_ | refine G_splitD rfl (fun h => ?_) (fun h => ?_) | refine D_splitD rfl (fun h => ?_) (fun h => ?_) | ((fail_if_success refine G_isL rfl rfl ?_); refine G_split rfl (fun h => ?_) (fun h => ?_)) | ((fail_if_success refine D_isL rfl rfl ?_); refine D_split rfl (fun h => ?_) (fun h => ?_)) | refine G_condD rfl (fun h => ?_) (fun h => ?_) | refine G_condN rfl (fun h => ?_) (fun h => ?_) | refine G_cond rfl (fun h => ?_) (fun h => ?_) | refine G_ret (G_leave ?_))
      · obtain ⟨z, hz⟩ : ∃ z : Spn, ([spA s, spA (spanOf (IntKind.i64.wrap (1 + pickI n 400)) (s.f, s.t, s.o))] : List AV)[j]? = some (spA z) := by
          have hj3 : j < 2 := by simp at * <;> omega
          match j, hj3 with
          | 0, _ => exact ⟨_, rfl⟩
          | 1, _ => exact ⟨_, rfl⟩
        repeat' (first | refine G_splitD rfl (fun h => absurd rfl h) (fun h => ?_) | refine D_splitD rfl (fun h => absurd rfl h) (fun h => ?_) | refine G_splitD rfl (fun h => ?_) (fun h => absurd rfl h) | refine D_splitD rfl (fun h => ?_) (fun h => absurd rfl h) | refine G_condD rfl (fun h => absurd rfl h) (fun h => ?_) | refine G_condD rfl (fun h => ?_) (fun h => absurd rfl h) | refine G_eqBS Kx_ok true rfl rfl rfl rfl rfl rfl ?_ | refine G_eqBS Kx_ok false rfl rfl rfl rfl rfl rfl ?_ | refine G_opsF Kx_ok 6 rfl ?_ | refine G_opF Kx_ok rfl ?_ | refine G_run rfl rfl rfl ?_ | refine G_nil ?_ | refine G_seq ?_ | refine G_region rfl ?_ | refine G_skip ?_ | refine G_block ?_ | refine G_drawn Kx_mixed rfl ?_ | refine D_opsF Kx_ok 6 rfl ?_ | refine D_opF Kx_ok rfl ?_ | refine D_nil rfl ?_ | refine G_cond_t rfl ?_ | refine G_cond_f rfl ?_ | refine G_exit ?_ | (refine G_index_lst Kx_ok rfl rfl rfl rfl rfl (by simpa using hz) (by omega) rfl rfl rfl ?_) | refine G_callP rfl rfl rfl rfl (c_tl_Put l z (by omega)) rfl rfl rfl ?_ | refine D_call rfl rfl rfl rfl rfl (c_tl_Put l z (by omega)) rfl rfl rfl rfl ?_ | refine G_callP rfl rfl rfl rfl ((c_ref15_Put l z (by omega)).eq (by rw [optR_eq, rput_eq])) rfl rfl rfl ?_ | refine D_call rfl rfl rfl rfl rfl ((c_ref15_Put l z (by omega)).eq (by rw [optR_eq, rput_eq])) rfl rfl rfl rfl ?_ | refine G_callP rfl rfl rfl rfl (c_tl_Within l ⟨z.f, z.t⟩ (by omega)) rfl rfl rfl ?_ | refine D_call rfl rfl rfl rfl rfl (c_tl_Within l ⟨z.f, z.t⟩ (by omega)) rfl rfl rfl rfl ?_ | refine G_callP rfl rfl rfl rfl ((c_ref15_Within l ⟨z.f, z.t⟩ (by omega)).eq (by rw [optR_eq, rwithin_eq])) rfl rfl rfl ?_ | refine D_call rfl rfl rfl rfl rfl ((c_ref15_Within l ⟨z.f, z.t⟩ (by omega)).eq (by rw [optR_eq, rwithin_eq])) rfl rfl rfl rfl ?_ | refine G_callP rfl rfl rfl rfl ((c_timeline_Owned l z.o (by omega)).eq (optE_eq _)) rfl rfl rfl ?_ | refine D_call rfl rfl rfl rfl rfl ((c_timeline_Owned l z.o (by omega)).eq (optE_eq _)) rfl rfl rfl rfl ?_ | refine G_callP rfl rfl rfl rfl ((c_ref15_Owned l z.o (by omega)).eq (by rw [optE_eq, rowned_eq])) rfl rfl rfl ?_ | refine D_call rfl rfl rfl rfl rfl ((c_ref15_Owned l z.o (by omega)).eq (by rw [optE_eq, rowned_eq])) rfl rfl rfl rfl ?_ | refine G_callP rfl rfl rfl rfl ((c_ref15_Same ((pput l z).getD []) ((pput l z).getD []) (Nat.le_trans (pput_len' _ _) (by decide)) (Nat.le_trans (pput_len' _ _) (by decide))).eq (bt rfl)) rfl rfl rfl ?_ | refine D_call rfl rfl rfl rfl rfl ((c_ref15_Same ((pput l z).getD []) ((pput l z).getD []) (Nat.le_trans (pput_len' _ _) (by decide)) (Nat.le_trans (pput_len' _ _) (by decide))).eq (bt rfl)) rfl rfl rfl rfl ?_ | refine G_callP rfl rfl rfl rfl ((c_ref15_Same ((pwithin l ⟨z.f, z.t⟩).getD []) ((pwithin l ⟨z.f, z.t⟩).getD []) (Nat.le_trans (pwithin_len _ _) (by decide)) (Nat.le_trans (pwithin_len _ _) (by decide))).eq (bt rfl)) rfl rfl rfl ?_ | refine D_call rfl rfl rfl rfl rfl ((c_ref15_Same ((pwithin l ⟨z.f, z.t⟩).getD []) ((pwithin l ⟨z.f, z.t⟩).getD []) (Nat.le_trans (pwithin_len _ _) (by decide)) (Nat.le_trans (pwithin_len _ _) (by decide))).eq (bt rfl)) rfl rfl rfl rfl ?_ | refine G_callP rfl rfl rfl rfl ((c_ref07_SameSpells ((powned l z.o).getD []) ((powned l z.o).getD []) (Nat.le_trans (powned_len _ _) (by omega)) (Nat.le_trans (powned_len _ _) (by omega))).eq (bt rfl)) rfl rfl rfl ?_ | refine D_call rfl rfl rfl rfl rfl ((c_ref07_SameSpells ((powned l z.o).getD []) ((powned l z.o).getD []) (Nat.le_trans (powned_len _ _) (by omega)) (Nat.le_trans (powned_len _ _) (by omega))).eq (bt rfl)) rfl rfl rfl rfl ?_ | refine G_splitD rfl (fun h => ?_) (fun h => ?_) | refine D_splitD rfl (fun h => ?_) (fun h => ?_) | ((fail_if_success refine G_isL rfl rfl ?_); refine G_split rfl (fun h => ?_) (fun h => ?_)) | ((fail_if_success refine D_isL rfl rfl ?_); refine D_split rfl (fun h => ?_) (fun h => ?_)) | refine G_condD rfl (fun h => ?_) (fun h => ?_) | refine G_condN rfl (fun h => ?_) (fun h => ?_) | refine G_cond rfl (fun h => ?_) (fun h => ?_) | refine G_ret (G_leave ?_))
        exact G_nextF (j + 1) (by simp at * <;> omega) (by simp at * <;> omega) (G_atL hC0 rfl rfl (by repeat' (first | exact trivial | refine ⟨⟨rfl, rfl⟩, ?_⟩ | refine ⟨⟨iv (by first | rfl | omega | (rw [w64 (by omega) (by omega)]; omega)), rfl⟩, ?_⟩)) (by repeat' (first | exact trivial | refine ⟨.inl rfl, ?_⟩ | refine ⟨.inr ⟨rfl, rfl⟩, ?_⟩ | refine ⟨.inr ⟨arrE (by first | rfl | (rw [List.map_append]; rfl)), rfl⟩, ?_⟩)) (by repeat' (first | exact trivial | refine ⟨⟨rfl, rfl⟩, ?_⟩)))
      repeat' (first | refine G_splitD rfl (fun h => absurd rfl h) (fun h => ?_) | refine D_splitD rfl (fun h => absurd rfl h) (fun h => ?_) | refine G_splitD rfl (fun h => ?_) (fun h => absurd rfl h) | refine D_splitD rfl (fun h => ?_) (fun h => absurd rfl h) | refine G_condD rfl (fun h => absurd rfl h) (fun h => ?_) | refine G_condD rfl (fun h => ?_) (fun h => absurd rfl h) | refine G_eqBS Kx_ok true rfl rfl rfl rfl rfl rfl ?_ | refine G_eqBS Kx_ok false rfl rfl rfl rfl rfl rfl ?_ | refine G_opsF Kx_ok 6 rfl ?_ | refine G_opF Kx_ok rfl ?_ | refine G_run rfl rfl rfl ?_ | refine G_nil ?_ | refine G_seq ?_ | refine G_region rfl ?_ | refine G_skip ?_ | refine G_block ?_ | refine G_drawn Kx_mixed rfl ?_ | refine D_opsF Kx_ok 6 rfl ?_ | refine D_opF Kx_ok rfl ?_ | refine D_nil rfl ?_ | refine G_cond_t rfl ?_ | refine G_cond_f rfl ?_ | refine G_exit ?_ | refine G_callP rfl rfl rfl rfl (c_law15_few raw hr) rfl rfl rfl ?_ | refine D_call rfl rfl rfl rfl rfl (c_law15_few raw hr) rfl rfl rfl rfl ?_ | refine G_splitD rfl (fun h => ?_) (fun h => ?_) | refine D_splitD rfl (fun h => ?_) (fun h => ?_) | ((fail_if_success refine G_isL rfl rfl ?_); refine G_split rfl (fun h => ?_) (fun h => ?_)) | ((fail_if_success refine D_isL rfl rfl ?_); refine D_split rfl (fun h => ?_) (fun h => ?_)) | refine G_condD rfl (fun h => ?_) (fun h => ?_) | refine G_condN rfl (fun h => ?_) (fun h => ?_) | refine G_cond rfl (fun h => ?_) (fun h => ?_) | refine G_ret (G_leave ?_))
      refine G_wk [(0, .int .i64 n), (4, spL raw), (6, .int .i64 odd), (9, .int .i64 t), (18, .ptr 0 0), (21, .bool true), (22, spL (madeS n x)), (23, spL (madeS m y)), (24, spL (spansS (IntKind.i64.wrap (1 + pickI n 400)) [(s.f, s.t, s.o)])), (96, .lst [spL (madeS n x), spL (bentS (madeS n x) how odd at'), spL (raw.take 8)]), (97, .int .i64 3), (26, spL l), (98, .int .i64 i), (287, .lst [spL (madeS n x), spL (madeS m y), spL (raw.take 8)]), (288, .int .i64 3), (289, .int .i64 0)] [(0, .box [.int .i64 s.f, .int .i64 s.t, .int .i64 s.o])] hC0 rfl rfl (by repeat' (first | exact trivial | refine ⟨⟨rfl, rfl⟩, ?_⟩ | refine ⟨⟨iv (by first | rfl | omega | (rw [w64 (by omega) (by omega)]; omega)), rfl⟩, ?_⟩)) (by repeat' (first | exact trivial | refine ⟨.inl rfl, ?_⟩ | refine ⟨.inr ⟨rfl, rfl⟩, ?_⟩ | refine ⟨.inr ⟨arrE (by first | rfl | (rw [List.map_append]; rfl)), rfl⟩, ?_⟩)) (by repeat' (first | exact trivial | refine ⟨⟨rfl, rfl⟩, ?_⟩)) ?_
      refine G_loopF (fun (j : Nat) => [(289, .int .i64 j)]) (fun _ => [(0, .box [.int .i64 s.f, .int .i64 s.t, .int .i64 s.o])]) (fun j => j ≤ 3) (fun j => 3 - j) 0 rfl (by omega) (G_atL hC0 rfl rfl (by repeat' (first | exact trivial | refine ⟨⟨rfl, rfl⟩, ?_⟩ | refine ⟨⟨iv (by first | rfl | omega | (rw [w64 (by omega) (by omega)]; omega)), rfl⟩, ?_⟩)) (by repeat' (first | exact trivial | refine ⟨.inl rfl, ?_⟩ | refine ⟨.inr ⟨rfl, rfl⟩, ?_⟩ | refine ⟨.inr ⟨arrE (by first | rfl | (rw [List.map_append]; rfl)), rfl⟩, ?_⟩)) (by repeat' (first | exact trivial | refine ⟨⟨rfl, rfl⟩, ?_⟩))) ?_
      intro j hj
      dsimp only [List.cons_append, List.nil_append] at *
      repeat' (first | refine G_opsF Kx_ok 6 rfl ?_ | refine G_opF Kx_ok rfl ?_ | refine G_run rfl rfl rfl ?_ | refine G_nil ?_ | refine G_seq ?_ | refine G_region rfl ?_ | refine G_skip ?_ | refine G_block ?_ | refine G_drawn Kx_mixed rfl ?_ | refine D_opsF Kx_ok 6 rfl ?_ | refine D_opF Kx_ok rfl ?_ | refine D_nil rfl ?_ | refine G_cond_t rfl ?_ | refine G_cond_f rfl ?_ | refine G_exit ?_ | refine G_splitD rfl (fun h => ?_) (fun h => ?_) | refine D_splitD rfl (fun h => ?_) (fun h => ?_) | ((fail_if_success refine G_isL rfl rfl ?_); refine G_split rfl (fun h => ?_) (fun h => ?_)) | ((fail_if_success refine D_isL rfl rfl ?_); refine D_split rfl (fun h => ?_) (fun h => ?_)) | refine G_condD rfl (fun h => ?_) (fun h => ?_) | refine G_condN rfl (fun h => ?_) (fun h => ?_) | refine G_cond rfl (fun h => ?_) (fun h => ?_) | refine G_ret (G_leave ?_))
      · obtain ⟨z, hz, hzl⟩ : ∃ z : List Spn, ([spL (madeS n x), spL (madeS m y), spL (raw.take 8)] : List AV)[j]? = some (spL z) ∧ z.length ≤ 201 := by
          have hj3 : j < 3 := by simp at * <;> omega
          match j, hj3 with
          | 0, _ => exact ⟨_, rfl, by omega⟩
          | 1, _ => exact ⟨_, rfl, by omega⟩
          | 2, _ => exact ⟨_, rfl, by omega⟩
        repeat' (first | refine G_splitD rfl (fun h => absurd rfl h) (fun h => ?_) | refine D_splitD rfl (fun h => absurd rfl h) (fun h => ?_) | refine G_splitD rfl (fun h => ?_) (fun h => absurd rfl h) | refine D_splitD rfl (fun h => ?_) (fun h => absurd rfl h) | refine G_condD rfl (fun h => absurd rfl h) (fun h => ?_) | refine G_condD rfl (fun h => ?_) (fun h => absurd rfl h) | refine G_eqBS Kx_ok true rfl rfl rfl rfl rfl rfl ?_ | refine G_eqBS Kx_ok false rfl rfl rfl rfl rfl rfl ?_ | refine G_opsF Kx_ok 6 rfl ?_ | refine G_opF Kx_ok rfl ?_ | refine G_run rfl rfl rfl ?_ | refine G_nil ?_ | refine G_seq ?_ | refine G_region rfl ?_ | refine G_skip ?_ | refine G_block ?_ | refine G_drawn Kx_mixed rfl ?_ | refine D_opsF Kx_ok 6 rfl ?_ | refine D_opF Kx_ok rfl ?_ | refine D_nil rfl ?_ | refine G_cond_t rfl ?_ | refine G_cond_f rfl ?_ | refine G_exit ?_ | (refine G_index_lst Kx_ok rfl rfl rfl rfl rfl (by simpa using hz) (by omega) rfl rfl rfl ?_) | refine G_callP rfl rfl rfl rfl (c_tl_Diff l z (by omega) (by omega)) rfl rfl rfl ?_ | refine D_call rfl rfl rfl rfl rfl (c_tl_Diff l z (by omega) (by omega)) rfl rfl rfl rfl ?_ | refine G_callP rfl rfl rfl rfl ((c_ref15_Diff l z (by omega) (by omega)).eq (by rw [rdiff_eq])) rfl rfl rfl ?_ | refine D_call rfl rfl rfl rfl rfl ((c_ref15_Diff l z (by omega) (by omega)).eq (by rw [rdiff_eq])) rfl rfl rfl rfl ?_ | refine G_callP rfl rfl rfl rfl ((c_ref07_SameSpells ((pdiff l z).getD []) ((pdiff l z).getD []) (Nat.le_trans (pdiff_len l z hll hzl) (by omega)) (Nat.le_trans (pdiff_len l z hll hzl) (by omega))).eq (bt rfl)) rfl rfl rfl ?_ | refine D_call rfl rfl rfl rfl rfl ((c_ref07_SameSpells ((pdiff l z).getD []) ((pdiff l z).getD []) (Nat.le_trans (pdiff_len l z hll hzl) (by omega)) (Nat.le_trans (pdiff_len l z hll hzl) (by omega))).eq (bt rfl)) rfl rfl rfl rfl ?_ | refine G_splitD rfl (fun h => ?_) (fun h => ?_) | refine D_splitD rfl (fun h => ?_) (fun h => ?_) | ((fail_if_success refine G_isL rfl rfl ?_); refine G_split rfl (fun h => ?_) (fun h => ?_)) | ((fail_if_success refine D_isL rfl rfl ?_); refine D_split rfl (fun h => ?_) (fun h => ?_)) | refine G_condD rfl (fun h => ?_) (fun h => ?_) | refine G_condN rfl (fun h => ?_) (fun h => ?_) | refine G_cond rfl (fun h => ?_) (fun h => ?_) | refine G_ret (G_leave ?_))
        exact G_nextF (j + 1) (by simp at * <;> omega) (by simp at * <;> omega) (G_atL hC0 rfl rfl (by repeat' (first | exact trivial | refine ⟨⟨rfl, rfl⟩, ?_⟩ | refine ⟨⟨iv (by first | rfl | omega | (rw [w64 (by omega) (by omega)]; omega)), rfl⟩, ?_⟩)) (by repeat' (first | exact trivial | refine ⟨.inl rfl, ?_⟩ | refine ⟨.inr ⟨rfl, rfl⟩, ?_⟩ | refine ⟨.inr ⟨arrE (by first | rfl | (rw [List.map_append]; rfl)), rfl⟩, ?_⟩)) (by repeat' (first | exact trivial | refine ⟨⟨rfl, rfl⟩, ?_⟩)))
      repeat' (first | refine G_opsF Kx_ok 6 rfl ?_ | refine G_opF Kx_ok rfl ?_ | refine G_run rfl rfl rfl ?_ | refine G_nil ?_ | refine G_seq ?_ | refine G_region rfl ?_ | refine G_skip ?_ | refine G_block ?_ | refine G_drawn Kx_mixed rfl ?_ | refine D_opsF Kx_ok 6 rfl ?_ | refine D_opF Kx_ok rfl ?_ | refine D_nil rfl ?_ | refine G_cond_t rfl ?_ | refine G_cond_f rfl ?_ | refine G_exit ?_ | refine G_splitD rfl (fun h => ?_) (fun h => ?_) | refine D_splitD rfl (fun h => ?_) (fun h => ?_) | ((fail_if_success refine G_isL rfl rfl ?_); refine G_split rfl (fun h => ?_) (fun h => ?_)) | ((fail_if_success refine D_isL rfl rfl ?_); refine D_split rfl (fun h => ?_) (fun h => ?_)) | refine G_condD rfl (fun h => ?_) (fun h => ?_) | refine G_condN rfl (fun h => ?_) (fun h => ?_) | refine G_cond rfl (fun h => ?_) (fun h => ?_) | refine G_ret (G_leave ?_))
      exact G_nextF (i + 1) (by simp at * <;> omega) (by simp at * <;> omega) (G_atL hC0 rfl rfl (by repeat' (first | exact trivial | refine ⟨⟨rfl, rfl⟩, ?_⟩ | refine ⟨⟨iv (by first | rfl | omega | (rw [w64 (by omega) (by omega)]; omega)), rfl⟩, ?_⟩)) (by repeat' (first | exact trivial | refine ⟨.inl rfl, ?_⟩ | refine ⟨.inr ⟨rfl, rfl⟩, ?_⟩ | refine ⟨.inr ⟨arrE (by first | rfl | (rw [List.map_append]; rfl)), rfl⟩, ?_⟩)) (by repeat' (first | exact trivial | refine ⟨⟨rfl, rfl⟩, ?_⟩)))
    · repeat' (first | refine G_splitD rfl (fun h => absurd rfl h) (fun h => ?_) | refine D_splitD rfl (fun h => absurd rfl h) (fun h => ?_) | refine G_splitD rfl (fun h => ?_) (fun h => absurd rfl h) | refine D_splitD rfl (fun h => ?_) (fun h => absurd rfl h) | refine G_condD rfl (fun h => absurd rfl h) (fun h => ?_) | refine G_condD rfl (fun h => ?_) (fun h => absurd rfl h) | refine G_eqBS Kx_ok true rfl rfl rfl rfl rfl rfl ?_ | refine G_eqBS Kx_ok false rfl rfl rfl rfl rfl rfl ?_ | refine G_opsF Kx_ok 6 rfl ?_ | refine G_opF Kx_ok rfl ?_ | refine G_run rfl rfl rfl ?_ | refine G_nil ?_ | refine G_seq ?_ | refine G_region rfl ?_ | refine G_skip ?_ | refine G_block ?_ | refine G_drawn Kx_mixed rfl ?_ | refine D_opsF Kx_ok 6 rfl ?_ | refine D_opF Kx_ok rfl ?_ | refine D_nil rfl ?_ | refine G_cond_t rfl ?_ | refine G_cond_f rfl ?_ | refine G_exit ?_ | refine G_callP rfl rfl rfl rfl ((c_timeline_New odd s.o).eq (optR_eq _)) rfl rfl rfl ?_ | refine D_call rfl rfl rfl rfl rfl ((c_timeline_New odd s.o).eq (optR_eq _)) rfl rfl rfl rfl ?_ | refine G_callP rfl rfl rfl rfl ((c_ref15_New odd s.o).eq (by rw [optR_eq, newR_eq])) rfl rfl rfl ?_ | refine D_call rfl rfl rfl rfl rfl ((c_ref15_New odd s.o).eq (by rw [optR_eq, newR_eq])) rfl rfl rfl rfl ?_ | refine G_callP rfl rfl rfl rfl (c_law15_pick n 400 hn (by omega)) rfl rfl rfl ?_ | refine D_call rfl rfl rfl rfl rfl (c_law15_pick n 400 hn (by omega)) rfl rfl rfl rfl ?_ | refine G_callP rfl rfl rfl rfl (c_law15_pick s.o 9 hs.2.2 (by omega)) rfl rfl rfl ?_ | refine D_call rfl rfl rfl rfl rfl (c_law15_pick s.o 9 hs.2.2 (by omega)) rfl rfl rfl rfl ?_ | refine G_callP rfl rfl rfl rfl (c_law15_few raw hr) rfl rfl rfl ?_ | refine D_call rfl rfl rfl rfl rfl (c_law15_few raw hr) rfl rfl rfl rfl ?_ | refine G_callP rfl rfl rfl rfl (c_tl_Paint (IntKind.i64.wrap (1 + pickI n 400)) (pickI s.o 9) (raw.take 8) (by omega)) rfl rfl rfl ?_ | refine D_call rfl rfl rfl rfl rfl (c_tl_Paint (IntKind.i64.wrap (1 + pickI n 400)) (pickI s.o 9) (raw.take 8) (by omega)) rfl rfl rfl rfl ?_ | refine G_callP rfl rfl rfl rfl ((c_ref15_Paint (IntKind.i64.wrap (1 + pickI n 400)) (pickI s.o 9) (raw.take 8) (by omega)).eq (by rw [rpaint_eq])) rfl rfl rfl ?_ | refine D_call rfl rfl rfl rfl rfl ((c_ref15_Paint (IntKind.i64.wrap (1 + pickI n 400)) (pickI s.o 9) (raw.take 8) (by omega)).eq (by rw [rpaint_eq])) rfl rfl rfl rfl ?_ | refine G_callP rfl rfl rfl rfl ((c_ref15_Same ((newS odd s.o).getD []) ((newS odd s.o).getD []) (Nat.le_trans (newS_len' _ _) (by decide)) (Nat.le_trans (newS_len' _ _) (by decide))).eq (bt rfl)) rfl rfl rfl ?_ | refine D_call rfl rfl rfl rfl rfl ((c_ref15_Same ((newS odd s.o).getD []) ((newS odd s.o).getD []) (Nat.le_trans (newS_len' _ _) (by decide)) (Nat.le_trans (newS_len' _ _) (by decide))).eq (bt rfl)) rfl rfl rfl rfl ?_ | refine G_callP rfl rfl rfl rfl ((c_ref15_Same ((ppaint (IntKind.i64.wrap (1 + pickI n 400)) (pickI s.o 9) (raw.take 8)).getD []) ((ppaint (IntKind.i64.wrap (1 + pickI n 400)) (pickI s.o 9) (raw.take 8)).getD []) (Nat.le_trans (ppaint_len _ _ _) (by decide)) (Nat.le_trans (ppaint_len _ _ _) (by decide))).eq (bt rfl)) rfl rfl rfl ?_ | refine D_call rfl rfl rfl rfl rfl ((c_ref15_Same ((ppaint (IntKind.i64.wrap (1 + pickI n 400)) (pickI s.o 9) (raw.take 8)).getD []) ((ppaint (IntKind.i64.wrap (1 + pickI n 400)) (pickI s.o 9) (raw.take 8)).getD []) (Nat.le_trans (ppaint_len _ _ _) (by decide)) (Nat.le_trans (ppaint_len _ _ _) (by decide))).eq (bt rfl)) rfl rfl rfl rfl ?_ | refine G_splitD rfl (fun h => ?_) (fun h => ?_) | refine D_splitD rfl (fun h => ?_) (fun h => ?_) | ((fail_if_success refine G_isL rfl rfl ?_); refine G_split rfl (fun h => ?_) (fun h => ?_)) | ((fail_if_success refine D_isL rfl rfl ?_); refine D_split rfl (fun h => ?_) (fun h => ?_)) | refine G_condD rfl (fun h => ?_) (fun h => ?_) | refine G_condN rfl (fun h => ?_) (fun h => ?_) | refine G_cond rfl (fun h => ?_) (fun h => ?_) | refine G_ret (G_leave ?_))
      exact G_return Kx_ok rfl rfl
end Go.Proofs.Ytmdbpbncdkdipaa
namespace Go.Proofs.Ytmdbpbncdkdipaa
open Go.Asl Go.ChangeShapes Go.WideShapes Go.ChangeAt Go.RowKit
set_option maxRecDepth 100000
set_option maxHeartbeats 4000000
attribute [local irreducible] Go.Asl.wpG Go.Code.wpIn Go.Asl.DrawG Go.Asl.LvX Go.Asl.G
theorem sh_int {d : Nat} {zs : List AV} (h : shC Kx (d + 1) 3 zs) : ∃ n : Int, zs = [.int .i64 n] ∧ R64 n := by
  obtain ⟨m, h1, h2⟩ : ∃ m, zs = [.int .i64 m] ∧ (Lit.int .i64 m).wf = true := h
  exact ⟨m, h1, wf_i64 h2⟩
theorem sh_tri {d : Nat} {zs : List AV} (h : shC Kx (d + 2) 29 zs) : ∃ p : Tri, zs = [.int .i64 p.1, .int .i64 p.2.1, .int .i64 p.2.2] ∧ R64t p := by
  obtain ⟨h1, h2⟩ : zs.length = 3 ∧ ∀ i, i < 3 → shC Kx (d + 1) 3 ((zs.drop (i * 1)).take 1) := h
  match zs, h1 with
  | [a, b, c], _ =>
    obtain ⟨x, ex, rx⟩ := sh_int (h2 0 (by omega))
    obtain ⟨y, ey, ry⟩ := sh_int (h2 1 (by omega))
    obtain ⟨z, ez, rz⟩ := sh_int (h2 2 (by omega))
    simp at ex ey ez
    subst ex ey ez
    exact ⟨(x, y, z), rfl, rx, ry, rz⟩
theorem sh_span {d : Nat} {zs : List AV} (h : shC Kx (d + 2) 25 zs) : ∃ s : Spn, zs = [.int .i64 s.f, .int .i64 s.t, .int .i64 s.o] ∧ R64t (s.f, s.t, s.o) := by
  obtain ⟨h1, h2⟩ : zs.length = 3 ∧ ∀ f ∈ [(0, 3), (1, 3), (2, 3)], shC Kx (d + 1) f.2 ((zs.drop f.1).take (szT Kx f.2)) := h
  match zs, h1 with
  | [a, b, c], _ =>
    obtain ⟨x, ex, rx⟩ := sh_int (h2 (0, 3) (by simp))
    obtain ⟨y, ey, ry⟩ := sh_int (h2 (1, 3) (by simp))
    obtain ⟨z, ez, rz⟩ := sh_int (h2 (2, 3) (by simp))
    have e1 : szT Kx 3 = 1 := rfl
    rw [e1] at ex ey ez
    simp at ex ey ez
    subst ex ey ez
    exact ⟨⟨x, y, z⟩, rfl, rx, ry, rz⟩
theorem sh_tris {d : Nat} {zs : List AV} (h : shC Kx (d + 3) 22 zs) : ∃ xs : List Tri, zs = [triL xs] ∧ xs.length ≤ maxLen ∧ ∀ p ∈ xs, R64t p := by
  obtain ⟨xs, h1, h2, h3⟩ : ∃ xs, zs = [.lst xs] ∧ xs.length ≤ maxLen ∧ ∀ x ∈ xs, ∃ ys, x = mkE true ys ∧ ys.length = szT Kx 29 ∧ shC Kx (d + 2) 29 ys := h
  obtain ⟨ys, rfl, hy⟩ := lst_typed (f := triA) (Q := R64t) (xs := xs) (fun x hx => by
    obtain ⟨ys, rfl, _, hs⟩ := h3 x hx
    obtain ⟨p, rfl, hp⟩ := sh_tri hs
    exact ⟨p, rfl, hp⟩)
  exact ⟨ys, h1, by simpa using h2, hy⟩
theorem sh_spans {d : Nat} {zs : List AV} (h : shC Kx (d + 3) 23 zs) : ∃ xs : List Spn, zs = [spL xs] ∧ xs.length ≤ maxLen ∧ ∀ s ∈ xs, R64t (s.f, s.t, s.o) := by
  obtain ⟨xs, h1, h2, h3⟩ : ∃ xs, zs = [.lst xs] ∧ xs.length ≤ maxLen ∧ ∀ x ∈ xs, ∃ ys, x = mkE true ys ∧ ys.length = szT Kx 25 ∧ shC Kx (d + 2) 25 ys := h
  obtain ⟨ys, rfl, hy⟩ := lst_typed (f := spA) (Q := fun s => R64t (s.f, s.t, s.o)) (xs := xs) (fun x hx => by
    obtain ⟨ys, rfl, _, hs⟩ := h3 x hx
    obtain ⟨p, rfl, hp⟩ := sh_span hs
    exact ⟨p, rfl, hp⟩)
  exact ⟨ys, h1, by simpa using h2, hy⟩

set_option maxRecDepth 100000 in
/-- The row's step. -/
theorem timeline_lifted (os : Os) (started : os.Started) (H : Type) (enc : TypeId × Value → H) :
    ReturnsInHanded {} Try.checked os 3 .any (Rows.timelineMatchesReferenceSpec.pre6 enc Try.prog Try.f3 Rows.timelineMatchesReferenceRow.domain false) (Rows.timelineMatchesReferenceSpec.post enc Try.prog Try.f3 false true false false) := by
  refine returnsInHanded_of_change (C := Try.checked) (by kernel_rfl) started (by kernel_rfl) Try.func3
    (ChangeSpec.witness6 (enc := enc) (C := Try.checked) false ⟨#[], #[.int .i64 0, .slice none 0 0, .int .i64 0, .slice none 0 0, .slice none 0 0, .int .i64 0, .int .i64 0, .int .i64 0, .agg #[.int .i64 0, .int .i64 0, .int .i64 0], .int .i64 0], []⟩ 8 (by kernel_rfl) (by kernel_rfl) (by kernel_rfl) (by kernel_rfl)) ?_
  intro W base args ds gs before hval0 hW hcnd _
  have hval : ∀ (j : Nat) t v, Try.f3.params[j]? = some t → args[j]? = some v → Value.okWide Try.prog W .any base t v := hval0
  have hW' := hW
  obtain ⟨p, q, hA0, hV, rfl, hfz, hnd⟩ := hW
  have hA : DataW.TrodAll enc Try.prog W 0 (fun _ => true) true Try.f3.params.toList args.toList ds p := hA0
  rw [Try.params3] at hA hval
  obtain ⟨v0, vs0, d0, ds0, p0, q0, e0, f0, g0, h0, ra0⟩ := trodAll_cons hA
  subst f0 g0
  obtain ⟨v1, vs1, d1, ds1, p1, q1, e1, f1, g1, h1, ra1⟩ := trodAll_cons ra0
  subst f1 g1
  subst e1
  obtain ⟨v2, vs2, d2, ds2, p2, q2, e2, f2, g2, h2, ra2⟩ := trodAll_cons ra1
  subst f2 g2
  subst e2
  obtain ⟨v3, vs3, d3, ds3, p3, q3, e3, f3, g3, h3, ra3⟩ := trodAll_cons ra2
  subst f3 g3
  subst e3
  obtain ⟨v4, vs4, d4, ds4, p4, q4, e4, f4, g4, h4, ra4⟩ := trodAll_cons ra3
  subst f4 g4
  subst e4
  obtain ⟨v5, vs5, d5, ds5, p5, q5, e5, f5, g5, h5, ra5⟩ := trodAll_cons ra4
  subst f5 g5
  subst e5
  obtain ⟨v6, vs6, d6, ds6, p6, q6, e6, f6, g6, h6, ra6⟩ := trodAll_cons ra5
  subst f6 g6
  subst e6
  obtain ⟨v7, vs7, d7, ds7, p7, q7, e7, f7, g7, h7, ra7⟩ := trodAll_cons ra6
  subst f7 g7
  subst e7
  obtain ⟨v8, vs8, d8, ds8, p8, q8, e8, f8, g8, h8, ra8⟩ := trodAll_cons ra7
  subst f8 g8
  subst e8
  obtain ⟨v9, vs9, d9, ds9, p9, q9, e9, f9, g9, h9, ra9⟩ := trodAll_cons ra8
  subst f9 g9
  subst e9
  obtain ⟨rfl, rfl, rfl⟩ := trodAll_nil ra9
  obtain rfl : args = #[v0, v1, v2, v3, v4, v5, v6, v7, v8, v9] := by cases args; simp_all
  obtain ⟨rfl, rfl⟩ := trodVars_none hV
  obtain ⟨as0, w0, _, s0⟩ := open_arg (d := 5) Kx_ok (t := 3) rfl (hval 0 3 v0 rfl rfl) h0
  obtain ⟨x0, rfl, r0⟩ := sh_int s0
  obtain ⟨as1, w1, _, s1⟩ := open_arg (d := 5) Kx_ok (t := 22) rfl (hval 1 22 v1 rfl rfl) h1
  obtain ⟨x1, rfl, l1, r1⟩ := sh_tris s1
  obtain ⟨as2, w2, _, s2⟩ := open_arg (d := 5) Kx_ok (t := 3) rfl (hval 2 3 v2 rfl rfl) h2
  obtain ⟨x2, rfl, r2⟩ := sh_int s2
  obtain ⟨as3, w3, _, s3⟩ := open_arg (d := 5) Kx_ok (t := 22) rfl (hval 3 22 v3 rfl rfl) h3
  obtain ⟨x3, rfl, l3, r3⟩ := sh_tris s3
  obtain ⟨as4, w4, _, s4⟩ := open_arg (d := 5) Kx_ok (t := 23) rfl (hval 4 23 v4 rfl rfl) h4
  obtain ⟨x4, rfl, l4, r4⟩ := sh_spans s4
  obtain ⟨as5, w5, _, s5⟩ := open_arg (d := 5) Kx_ok (t := 3) rfl (hval 5 3 v5 rfl rfl) h5
  obtain ⟨x5, rfl, r5⟩ := sh_int s5
  obtain ⟨as6, w6, _, s6⟩ := open_arg (d := 5) Kx_ok (t := 3) rfl (hval 6 3 v6 rfl rfl) h6
  obtain ⟨x6, rfl, r6⟩ := sh_int s6
  obtain ⟨as7, w7, _, s7⟩ := open_arg (d := 5) Kx_ok (t := 3) rfl (hval 7 3 v7 rfl rfl) h7
  obtain ⟨x7, rfl, r7⟩ := sh_int s7
  obtain ⟨as8, w8, _, s8⟩ := open_arg (d := 5) Kx_ok (t := 25) rfl (hval 8 25 v8 rfl rfl) h8
  obtain ⟨x8, rfl, r8⟩ := sh_span s8
  obtain ⟨as9, w9, _, s9⟩ := open_arg (d := 5) Kx_ok (t := 3) rfl (hval 9 3 v9 rfl rfl) h9
  obtain ⟨x9, rfl, r9⟩ := sh_int s9
  have hb : ∀ {n : Nat}, n ≤ maxLen → n ≤ 9223372036854775807 := fun h => Nat.le_trans h (by decide)
  exact law_calls (K := Kx) (by kernel_rfl) (by kernel_rfl) (by kernel_rfl) hW' (by kernel_rfl) rfl rfl Try.underlying4 rfl rfl rfl (globR_none fun _ => rfl)
    (c_law15_Timeline x0 x1 x2 x3 x4 x5 x6 x7 x8 x9 r0 r2 r5 r7 r9 r8 r1 r3 (hb l1) (hb l3) (hb l4)) ⟨_, _, rfl, w0, ⟨_, _, rfl, w1, ⟨_, _, rfl, w2, ⟨_, _, rfl, w3, ⟨_, _, rfl, w4, ⟨_, _, rfl, w5, ⟨_, _, rfl, w6, ⟨_, _, rfl, w7, ⟨_, _, rfl, w8, ⟨_, _, rfl, w9, rfl⟩⟩⟩⟩⟩⟩⟩⟩⟩⟩
theorem timelineMatchesReference_holds : Rows.TimelineMatchesReferenceSaid :=
  OpenClaim.holds_of_wide 3 Try.f3 rfl rfl rfl rfl rfl rfl rfl ⟨rfl, rfl, rfl, rfl, rfl⟩ rfl rfl rfl rfl rfl (by kernel_rfl) Try.func3 (by kernel_rfl)
    (of_decide_eq_true (by kernel_rfl)) (by unfold Func.isWrapper; first | (rw [if_pos (by decide +kernel)]; kernel_rfl) | (rw [if_neg (by decide +kernel)]; exact ⟨rfl, rfl⟩))
    (fun os started H enc _ => timeline_lifted os started H enc)

end Go.Proofs.Ytmdbpbncdkdipaa
