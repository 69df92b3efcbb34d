/- A logic of abstract states for the machine of the model, part 2: no statement on the program stands here; no condition. -/
import Derived.Test.YtmdbpbncdkdipaaDoorAslA
import Derived.Laws.StructEq
import Derived.IntWalk
import Derived.ArgAppend
import Derived.Laws.Small
import Derived.ReadAgain
import Derived.Deep.Slices
import Derived.ProofKit
import Derived.OpenShut
set_option linter.unusedVariables false
set_option linter.unusedSimpArgs false
/- Forgetting and renaming; contracts on objects, and calls with them. -/
set_option linter.unusedVariables false
set_option linter.unusedSimpArgs false
namespace Go.Asl
open Go.RowKit

/-- Names to names, out of a list. -/
def getR : List (Nat × Nat) → Nat → Nat
  | [], t => t
  | (k, a) :: r, t => match Nat.beq t k with
    | true => a
    | false => getR r t
def keysL : List (Nat × AObj) → List Nat
  | [] => []
  | (k, o) :: r => k :: keysL r
def liveK : List (Nat × AObj) → List Nat
  | [] => []
  | (k, o) :: r => match o.live with
    | true => k :: liveK r
    | false => liveK r
theorem keys_of_known : ∀ {L : List (Nat × AObj)} {k : Nat}, (getS L k).known = true → k ∈ keysL L
  | [], k, h => by simp [getS, AObj.known] at h
  | (j, o) :: r, k, h => by
    rw [getS_cons] at h
    simp only [keysL, List.mem_cons]
    split at h
    · exact .inl ‹_›
    · exact .inr (keys_of_known h)
theorem live_mem : ∀ {L : List (Nat × AObj)} {k : Nat}, (getS L k).live = true → k ∈ liveK L
  | [], k, h => by simp [getS, AObj.live] at h
  | (j, o) :: r, k, h => by
    rw [getS_cons] at h
    simp only [liveK]
    split at h
    · rename_i e; rw [h]; simp [e]
    · split
      · exact List.mem_cons_of_mem _ (live_mem h)
      · exact live_mem h
def apartN (ρ : Nat → Nat) (k : Nat) : List Nat → Bool
  | [] => true
  | m :: r => (Nat.beq m k || !Nat.beq (ρ m) (ρ k)) && apartN ρ k r
def injN (ρ : Nat → Nat) : List Nat → Bool
  | [] => true
  | k :: r => apartN ρ k r && injN ρ r
theorem apartN_spec {ρ : Nat → Nat} {k : Nat} : ∀ {l : List Nat}, apartN ρ k l = true → ∀ m ∈ l, m ≠ k → ρ m ≠ ρ k
  | [], _, m, h, _ => by simp at h
  | x :: r, h, m, hm, hne => by
    simp only [apartN, Bool.and_eq_true, Bool.or_eq_true, Bool.not_eq_true'] at h
    rcases List.mem_cons.1 hm with e | hm
    · subst e
      rcases h.1 with h1 | h1
      · exact absurd (Nat.eq_of_beq_eq_true h1) hne
      · exact Nat.ne_of_beq_eq_false h1
    · exact apartN_spec h.2 m hm hne
theorem injN_spec {ρ : Nat → Nat} : ∀ {l : List Nat}, injN ρ l = true → ∀ k ∈ l, ∀ m ∈ l, k ≠ m → ρ k ≠ ρ m
  | [], _, k, h, _, _, _ => by simp at h
  | x :: r, h, k, hk, m, hm, hne => by
    simp only [injN, Bool.and_eq_true] at h
    rcases List.mem_cons.1 hk with e | hk2
    · subst e
      rcases List.mem_cons.1 hm with e | hm
      · exact absurd e.symm hne
      · exact fun e => apartN_spec h.1 m hm (Ne.symm hne) e.symm
    · rcases List.mem_cons.1 hm with e | hm2
      · exact fun e2 => apartN_spec h.1 k hk2 (by rw [← e]; exact hne) (by rw [e2, e])
      · exact injN_spec h.2 k hk2 m hm2 hne

section
variable {K : Ctx} {C0 : Cfg} {E E' : List (Nat × AV)} {N : Nat} {ds : Nat × Nat} {L L' : List (Nat × AObj)} {X : Act → World → Prop}

def AllE (ρ : Nat → Nat) (L' : List (Nat × AObj)) (E : List (Nat × AV)) : List (Nat × AV) → Prop
  | [] => True
  | (t, a) :: r => (getE E t = ren ρ a ∧ okA (kB (getS L')) a = true) ∧ AllE ρ L' E r
def AllL (ρ : Nat → Nat) (L' L : List (Nat × AObj)) : List (Nat × AObj) → Prop
  | [] => True
  | (k, o) :: r => (o = .dead ∨ (getS L (ρ k) = renO ρ o ∧ okO (kB (getS L')) o = true)) ∧ AllL ρ L' L r
def AllK (ρ : Nat → Nat) (L' : List (Nat × AObj)) : List (Nat × AObj) → Prop
  | [] => True
  | (k, _) :: r => (ρ k = k ∧ (getS L' k).known = true) ∧ AllK ρ L' r
theorem AllE.get {ρ : Nat → Nat} : ∀ {l : List (Nat × AV)}, AllE ρ L' E l → ∀ t, getE l t = .undef ∨ (getE E t = ren ρ (getE l t) ∧ okA (kB (getS L')) (getE l t) = true)
  | [], _, t => .inl rfl
  | (k, a) :: r, h, t => by
    rw [getE_cons]
    split
    · rename_i e; subst e; exact .inr h.1
    · exact AllE.get h.2 t
theorem AllL.get {ρ : Nat → Nat} : ∀ {l : List (Nat × AObj)}, AllL ρ L' L l → ∀ k, (getS l k).live = true → getS L (ρ k) = renO ρ (getS l k) ∧ okO (kB (getS L')) (getS l k) = true
  | [], _, k, h => by simp [getS, AObj.live] at h
  | (j, o) :: r, h, k, hk => by
    rw [getS_cons] at hk ⊢
    split at hk
    · rename_i e
      subst e
      rw [if_pos rfl]
      rcases h.1 with e | h
      · subst e; simp [AObj.live] at hk
      · exact h
    · rename_i hne
      rw [if_neg hne]
      exact AllL.get h.2 k hk
theorem AllK.get {ρ : Nat → Nat} : ∀ {l : List (Nat × AObj)}, AllK ρ L' l → ∀ k, (getS l k).known = true → ρ k = k ∧ (getS L' k).known = true
  | [], _, k, h => by simp [getS, AObj.known] at h
  | (j, o) :: r, h, k, hk => by
    rw [getS_cons] at hk
    split at hk
    · rename_i e; subst e; exact h.1
    · exact AllK.get h.2 k hk

/-- Less told, and under other names. -/
theorem G_weak (rs : List (Nat × Nat)) (E' : List (Nat × AV)) (L' : List (Nat × AObj)) {Li : List (Nat × AObj)} (hC0 : C0.S = getS Li) (hE : AllE (getR rs) L' E E') (hL : AllL (getR rs) L' L L') (hK : AllK (getR rs) L' Li)
    (hi : injN (getR rs) (liveK L') = true) (h : G K C0 ⟨E', N, ds⟩ L' X) : G K C0 ⟨E, N, ds⟩ L X := fun φ w fb a h1 h2 h3 h4 => by
  have hl : ∀ k, (getS L' k).live = true → (getS L (getR rs k)).live = true := fun k hk => by rw [(hL.get k hk).1, renO_live]; exact hk
  have hinj : ∀ k m, (getS L' k).live = true → (getS L' m).live = true → k ≠ m → getR rs k ≠ getR rs m := fun k m hk hm hne => injN_spec hi k (live_mem hk) m (live_mem hm) hne
  have hrest : ∀ b, Cfg.rest ⟨φ, getS L, w, fb⟩ b → Cfg.rest ⟨fun n => φ (getR rs n), getS L', w, fb⟩ b := fun b hb => ⟨hb.1, fun k hk => hb.2 _ (hl k hk)⟩
  have htr : TrV (kB (getS L')) (getR rs) (fun n => n) (Cfg.v ⟨φ, getS L, w, fb⟩) (Cfg.v ⟨fun n => φ (getR rs n), getS L', w, fb⟩) :=
    ⟨fun n hn _ => ⟨hn, rfl⟩, fun b hb => ⟨⟨hrest b hb.1, hb.2⟩, rfl⟩⟩
  refine h (fun n => φ (getR rs n)) w fb a ?_ ?_ ?_ ?_
  · refine ⟨fun n hn => ?_, fun b hb => ⟨hrest b (h1.rest b hb).1, (h1.rest b hb).2⟩, h1.fb, h1.fb', h1.os, h1.tape, h1.output, h1.size⟩
    have hn' : (getS Li n).known = true := by rw [← hC0]; exact hn
    obtain ⟨e1, e2⟩ := hK.get n hn'
    refine ⟨e2, ?_⟩
    show φ (getR rs n) = _
    rw [e1]
    exact (h1.kn n hn).2
  · refine ⟨fun k => ?_, fun k b hk hb => h2.fbl _ b (hl k hk) hb, h2.fbs, fun k m b hne hk hm => h2.disj _ _ b (hinj k m hk hm hne) (hl k hk) (hl m hm)⟩
    by_cases hk : (getS L' k).live = true
    · obtain ⟨g1, g2⟩ := hL.get k hk
      have ho := h2.obj (getR rs k)
      rw [show (Cfg.mk φ (getS L) w fb).S (getR rs k) = _ from g1] at ho
      have := ObjR.tr (τ := fun n => n) (C' := ⟨fun n => φ (getR rs n), getS L', w, fb⟩) htr g2 hk rfl (fun _ _ => rfl) ho
      rwa [renO_id] at this
    · show ObjR _ k (getS L' k)
      cases hn : getS L' k <;> first | trivial | (rw [hn] at hk; simp [AObj.live] at hk)
  · intro g x hg
    obtain ⟨us, g1, g2⟩ := h3 g x hg
    exact ⟨us, VE.step htr.bare g1, g2.step htr.bare⟩
  · refine ⟨h4.size, fun t => ?_, ?_⟩
    · rcases hE.get t with e | ⟨e1, e2⟩
      · show VV _ (getE E' t) _
        rw [e]; simp only [VV]
      · have hv := h4.val t
        rw [show getE (Fr.mk E N ds).E t = _ from e1] at hv
        have := VV.tr htr e2 hv
        rwa [ren_id] at this
    · have : ∀ {k : Nat} {l : List Deferred}, DsR ⟨φ, getS L, w, fb⟩ ds.1 k l → DsR ⟨fun n => φ (getR rs n), getS L', w, fb⟩ ds.1 k l := by
        intro k
        induction k with
        | zero => intro l h; exact h
        | succ k ih =>
          rintro l ⟨b, r, e1, e2, e3, e4, e5, e6, e7⟩
          exact ⟨b, r, e1, e2, hrest b e3, e4, e5, e6, ih e7⟩
      exact this h4.ds
end

/-! ### Contracts on objects -/
/-- A function of objects: the store is all that it touches. -/
def FnS (K : Ctx) (f : Nat) (args : List AV) (L : List (Nat × AObj)) (v : AV) (L' : List (Nat × AObj)) : Prop := FnT K f args L (fun x M => x = v ∧ M = L')
def renS (ρ : Nat → Nat) : List (Nat × AObj) → List (Nat × AObj)
  | [] => []
  | (k, o) :: r => (ρ k, renO ρ o) :: renS ρ r
theorem renS_get {ρ : Nat → Nat} : ∀ {l : List (Nat × AObj)} {M : List (Nat × AObj)} {k : Nat}, (∀ m ∈ keysL l, m ≠ k → ρ m ≠ ρ k) → k ∈ keysL l → getS (renS ρ l ++ M) (ρ k) = renO ρ (getS l k)
  | [], _, _, _, h => by simp [keysL] at h
  | (j, o) :: r, M, k, hi, hk => by
    simp only [renS, List.cons_append, getS_cons]
    by_cases e : k = j
    · subst e; rw [if_pos rfl, if_pos rfl]
    · rw [if_neg (Ne.symm (hi j (by simp [keysL]) (Ne.symm e))), if_neg e]
      refine renS_get (fun m hm => hi m (by simp [keysL, hm])) ?_
      simp only [keysL, List.mem_cons] at hk
      exact hk.resolve_left e
theorem renS_other {ρ : Nat → Nat} {c : Nat} : ∀ {l : List (Nat × AObj)} {M : List (Nat × AObj)}, (∀ m ∈ keysL l, ρ m ≠ c) → getS (renS ρ l ++ M) c = getS M c
  | [], _, _ => rfl
  | (j, o) :: r, M, h => by
    simp only [renS, List.cons_append, getS_cons]
    rw [if_neg (Ne.symm (h j (by simp [keysL])))]
    exact renS_other fun m hm => h m (by simp [keysL, hm])

def AllO (ρ : Nat → Nat) (Lc : List (Nat × AObj)) (L : List (Nat × AObj)) : List (Nat × AObj) → Prop
  | [] => True
  | (k, _) :: r => (getS Lc (ρ k) = renO ρ (getS L k) ∧ okO (kB (getS L)) (getS L k) = true ∧ (getS L k).known = true) ∧ AllO ρ Lc L r
theorem AllO.get {ρ : Nat → Nat} {Lc L : List (Nat × AObj)} : ∀ {l : List (Nat × AObj)}, AllO ρ Lc L l → ∀ k ∈ keysL l, getS Lc (ρ k) = renO ρ (getS L k) ∧ okO (kB (getS L)) (getS L k) = true ∧ (getS L k).known = true
  | [], _, k, h => by simp [keysL] at h
  | (j, o) :: r, h, k, hk => by
    simp only [keysL, List.mem_cons] at hk
    rcases hk with e | hk
    · subst e; exact h.1
    · exact AllO.get h.2 k hk
def AllN (ρ : Nat → Nat) (Lc L : List (Nat × AObj)) : List Nat → Prop
  | [] => True
  | k :: r => ((getS L k).known = true ∨ getS Lc (ρ k) = .free) ∧ AllN ρ Lc L r
theorem AllN.get {ρ : Nat → Nat} {Lc L : List (Nat × AObj)} : ∀ {l : List Nat}, AllN ρ Lc L l → ∀ k ∈ l, (getS L k).known = true ∨ getS Lc (ρ k) = .free
  | [], _, k, h => by simp at h
  | j :: r, h, k, hk => by
    rcases List.mem_cons.1 hk with e | hk
    · subst e; exact h.1
    · exact AllN.get h.2 k hk
def okS (L : List (Nat × AObj)) : List (Nat × AObj) → Bool
  | [] => true
  | (k, o) :: r => okO (kB (getS L)) o && o.known && okS L r
theorem okS_get {L : List (Nat × AObj)} : ∀ {l : List (Nat × AObj)}, okS L l = true → ∀ k ∈ keysL l, okO (kB (getS L)) (getS l k) = true ∧ (getS l k).known = true
  | [], _, k, h => by simp [keysL] at h
  | (j, o) :: r, h, k, hk => by
    simp only [okS, Bool.and_eq_true] at h
    rw [getS_cons]
    split
    · exact h.1
    · rename_i hne
      simp only [keysL, List.mem_cons] at hk
      exact okS_get h.2 k (hk.resolve_left hne)

theorem FnS.at {K : Ctx} {f : Nat} {args : List AV} {L L' : List (Nat × AObj)} {v : AV} (hf : FnS K f args L v L') (rs : List (Nat × Nat)) {Lc : List (Nat × AObj)} (ho : AllO (getR rs) Lc L L) (ha : okL (kB (getS L)) args = true)
    (hn : AllN (getR rs) Lc L (keysL L')) (hi : injN (getR rs) (keysL L') = true) (hi0 : injN (getR rs) (keysL L) = true) (hs : okS L' L' = true) (hv : okA (kB (getS L')) v = true) :
    FnT K f (renL (getR rs) args) Lc (fun x M => x = ren (getR rs) v ∧ M = renS (getR rs) L' ++ Lc) := by
  refine ⟨hf.ent, fun φ w fb vs h1 h2 h3 => ?_⟩
  have hinj := injN_spec hi
  have hinj0 := injN_spec hi0
  have hok : HidOk (kB (getS L)) ⟨φ, getS Lc, w, fb⟩ (getR rs) (getS L) := by
    refine ⟨fun k hk => ?_, fun k hk _ => hk, fun k m hk hm hne => hinj0 k (keys_of_known (live_known hk)) m (keys_of_known (live_known hm)) hne⟩
    obtain ⟨g1, g2, _⟩ := ho.get k (keys_of_known (live_known hk))
    exact ⟨g1, g2⟩
  have hav : VVs (Hid ⟨φ, getS Lc, w, fb⟩ (getR rs) (getS L)).v args vs := by
    have := VVs.tr (Hid.tr hok) ha h3
    rwa [renL_id] at this
  refine calls_mono (hf.calls _ w _ vs (Hid.sim h1 hok) (Hid.glob h2 hok) hav) ?_
  rintro e w' ⟨u, x, φ', L1, fb', rfl, hst, hS, hvv, rfl, rfl⟩
  -- the whole's names
  let inv : Nat → Option Nat := fun c => (keysL L1).find? fun k => Nat.beq (getR rs k) c
  let φ2 : Nat → Value := fun c => match inv c with
    | some k => φ' k
    | none => φ c
  have hinv : ∀ k ∈ keysL L1, inv (getR rs k) = some k := fun k hk => by
    show (keysL L1).find? _ = _
    cases hf : (keysL L1).find? fun m => Nat.beq (getR rs m) (getR rs k) with
    | none =>
      have := List.find?_eq_none.1 hf k hk
      simp at this
    | some m =>
      have hm := List.mem_of_find?_eq_some hf
      have he := List.find?_some hf
      have he := Nat.eq_of_beq_eq_true he
      by_cases hmk : m = k
      · rw [hmk]
      · exact absurd he (hinj m hm k hk hmk)
  have hinvn : ∀ c, (∀ k ∈ keysL L1, getR rs k ≠ c) → inv c = none := fun c hc => by
    show (keysL L1).find? _ = _
    rw [List.find?_eq_none]
    intro k hk he
    exact hc k hk (Nat.eq_of_beq_eq_true he)
  have hkn : ∀ k, (getS L k).known = true → (getS L1 k).known = true ∧ φ' k = φ (getR rs k) := fun k hk => hst.kn k hk
  have hgetS : ∀ k ∈ keysL L1, getS (renS (getR rs) L1 ++ Lc) (getR rs k) = renO (getR rs) (getS L1 k) := fun k hk => renS_get (fun m hm hne => hinj m hm k hk hne) hk
  have hb : HidBack (kB (getS L1)) ⟨φ, getS Lc, w, fb⟩ (getR rs) (getS L) ⟨φ', getS L1, w', fb'⟩ ⟨φ2, getS (renS (getR rs) L1 ++ Lc), w', fb⟩ (getR rs) := by
    refine ⟨rfl, rfl, fun k hk => ?_, fun c hc => ?_, fun c hc => ?_, fun k hk => ?_, fun k m hk hm hne => hinj k (keys_of_known (live_known hk)) m (keys_of_known (live_known hm)) hne⟩
    · have hm := keys_of_known (live_known hk)
      exact ⟨hgetS k hm, (okS_get hs k hm).1⟩
    · by_cases hex : ∃ k ∈ keysL L1, getR rs k = c
      · obtain ⟨k, hk, rfl⟩ := hex
        refine .inl ⟨k, ?_, rfl⟩
        have hc' : (getS (renS (getR rs) L1 ++ Lc) (getR rs k)).live = true := hc
        rw [hgetS k hk, renO_live] at hc'
        exact hc'
      · have hno : ∀ k ∈ keysL L1, getR rs k ≠ c := fun k hk e => hex ⟨k, hk, e⟩
        have e1 : getS (renS (getR rs) L1 ++ Lc) c = getS Lc c := renS_other hno
        have hc' : (getS (renS (getR rs) L1 ++ Lc) c).live = true := hc
        refine .inr ⟨by rw [e1] at hc'; exact hc', fun k hk => hno k (keys_of_known (hkn k (live_known hk)).1), e1⟩
    · by_cases hex : ∃ k ∈ keysL L1, getR rs k = c
      · obtain ⟨k, hk, rfl⟩ := hex
        have hkk : (getS L k).known = true := by
          rcases hn.get k hk with h | h
          · exact h
          · have hc' : (getS Lc (getR rs k)).known = true := hc
            rw [h] at hc'; simp [AObj.known] at hc'
        refine ⟨?_, ?_⟩
        · show (getS (renS (getR rs) L1 ++ Lc) (getR rs k)).known = true
          rw [hgetS k hk, renO_known]; exact (hkn k hkk).1
        · show (match inv (getR rs k) with | some k => φ' k | none => φ (getR rs k)) = φ (getR rs k)
          rw [hinv k hk]; exact (hkn k hkk).2
      · have hno : ∀ k ∈ keysL L1, getR rs k ≠ c := fun k hk e => hex ⟨k, hk, e⟩
        refine ⟨?_, ?_⟩
        · show (getS (renS (getR rs) L1 ++ Lc) c).known = true
          rw [renS_other hno]; exact hc
        · show (match inv c with | some k => φ' k | none => φ c) = φ c
          rw [hinvn c hno]
    · have hm := keys_of_known (L := L1) hk
      refine ⟨?_, ?_⟩
      · show (getS (renS (getR rs) L1 ++ Lc) (getR rs k)).known = true
        rw [hgetS k hm, renO_known]; exact hk
      · show (match inv (getR rs k) with | some k => φ' k | none => φ (getR rs k)) = φ' k
        rw [hinv k hm]
  obtain ⟨k1, k2, k3⟩ := hb.ok h1 hok hst hS
  have hvv' : VV (Cfg.v ⟨φ', getS L1, w', fb'⟩) (ren (fun n => n) x) u := by rw [ren_id]; exact hvv
  exact ⟨u, ren (getR rs) x, φ2, renS (getR rs) L1 ++ Lc, fb, rfl, k1, k2, VV.tr k3 hv hvv', rfl, rfl⟩

section
variable {K : Ctx} {N : Nat} {E : List (Nat × AV)} {L : List (Nat × AObj)} {o : Oper}
/-- A call with a contract on objects. -/
theorem Sp_callS {c : Call} {x : Operand} {f : Nat} {first caps as args : List AV} {v : AV} {L0 L1 : List (Nat × AObj)} (rs : List (Nat × Nat)) (hop : o.op = .call c) (hc : c.callee = .value x) (hx : opS K E x = some (.fn f first caps)) (has : argsS K E c.args.toList = some as)
    (hf : FnS K f args L0 v L1) (hargs : first ++ (as ++ caps) = renL (getR rs) args) (ho : AllO (getR rs) L L0 L0) (ha : okL (kB (getS L0)) args = true)
    (hn : AllN (getR rs) L L0 (keysL L1)) (hi : (injN (getR rs) (keysL L1) && injN (getR rs) (keysL L0) && okS L1 L1 && okA (kB (getS L1)) v) = true) (hd : dstB o.dst N = true) :
    SpOk K N (o, none) ⟨slotsOf (x :: c.args.toList), o.dst, ren (getR rs) v, (keysL L0 ++ keysL L1).map (getR rs), renS (getR rs) L1⟩ E L := by
  simp only [Bool.and_eq_true] at hi
  obtain ⟨⟨⟨i1, i2⟩, i3⟩, i4⟩ := hi
  intro C0 ds F _ n Q r E' L' hE hL h
  have hag := opS_agree (K := K) (l := x :: c.args.toList) (fun t ht => ht) hE
  have ho' : AllO (getR rs) L' L0 L0 := by
    have : ∀ {l : List (Nat × AObj)}, (∀ k ∈ keysL l, k ∈ keysL L0) → AllO (getR rs) L L0 l → AllO (getR rs) L' L0 l := by
      intro l
      induction l with
      | nil => intro _ _; trivial
      | cons y l ih =>
        obtain ⟨k, o⟩ := y
        intro hk h
        refine ⟨⟨(hL _ (List.mem_map_of_mem (List.mem_append_left _ (hk k (by simp [keysL]))))).trans h.1.1, h.1.2⟩, ih (fun m hm => hk m (by simp [keysL, hm])) h.2⟩
    exact this (fun _ h => h) ho
  have hn' : AllN (getR rs) L' L0 (keysL L1) := by
    have : ∀ {l : List Nat}, (∀ k ∈ l, k ∈ keysL L1) → AllN (getR rs) L L0 l → AllN (getR rs) L' L0 l := by
      intro l
      induction l with
      | nil => intro _ _; trivial
      | cons k l ih =>
        intro hk h
        refine ⟨h.1.imp id fun e => (hL _ (List.mem_map_of_mem (List.mem_append_right _ (hk k (by simp))))).trans e, ih (fun m hm => hk m (by simp [hm])) h.2⟩
    exact this (fun _ h => h) hn
  refine G_call hop hc ((hag x (by simp)).trans hx) ((argsS_agree fun y hy => hag y (by simp [hy])).trans has) ?_
  rw [hargs]
  refine (hf.at rs ho' ha hn' i1 i2 i3 i4).mono ?_
  rintro u M ⟨rfl, rfl⟩
  exact ⟨_, dstB_ok _ hd, h⟩
end
end Go.Asl
/- Ranges over functions. -/
set_option linter.unusedVariables false
set_option linter.unusedSimpArgs false
namespace Go.Asl
open Go.RowKit

/-- A round's contract: yield called with as, at the store L. -/
def YldT (K : Ctx) (l : Nat) (as : List AV) (L : List (Nat × AObj)) (R : AV → List (Nat × AObj) → Prop) : Prop :=
  ∀ (F : Fence) [OpenF F] (n : Nat) φ w fb vs l', Sim ⟨φ, getS L, w, fb⟩ → GlobR K ⟨φ, getS L, w, fb⟩ → φ l = .func (.yield l') #[] #[] → VVs (Cfg.v ⟨φ, getS L, w, fb⟩) as vs →
    YieldAt F n K.P l' vs.toArray w (RetPost ⟨φ, getS L, w, fb⟩ R)
theorem RoundIn_mono {F : Fence} {n : Nat} {P : Program} {l : Nat} {f : FuncId} {tmps : Array Value} {assign body : Code} {w : World} {R R' : Ending → World → Prop} (h : RoundIn F n P l f tmps assign body w R) (hr : ∀ e w, R e w → R' e w) : RoundIn F n P l f tmps assign body w R' := h.mono hr
theorem YldT.mono {K : Ctx} {l : Nat} {as : List AV} {L : List (Nat × AObj)} {R R' : AV → List (Nat × AObj) → Prop} (h : YldT K l as L R) (hR : ∀ x M, R x M → R' x M) : YldT K l as L R' := by
  intro F _ n φ w fb vs l' h1 h2 h3 h4
  obtain ⟨fn, tmps, assign, body, e, hr⟩ := h F n φ w fb vs l' h1 h2 h3 h4
  exact ⟨fn, tmps, assign, body, e, RoundIn_mono hr fun e w' ⟨v, x, φ', M, fb', a, b, c, d, e'⟩ => ⟨v, x, φ', M, fb', a, b, c, d, hR _ _ e'⟩⟩

section
variable {K : Ctx} {C0 : Cfg} {E : List (Nat × AV)} {N : Nat} {ds : Nat × Nat} {L : List (Nat × AObj)} {F : Fence} {n : Nat} {Q : Exit → Act → World → Prop} {o : Oper} {r : List (Oper × Option (Nat × Bool))}

/-- yield is called. -/
theorem G_yield [OpenF F] {c : Call} {x : Operand} {l : Nat} {as : List AV} (hop : o.op = .call c) (hc : c.callee = .value x) (hx : opS K E x = some (.yld l)) (has : argsS K E c.args.toList = some as)
    (hf : YldT K l as L (fun v L' => ∃ E', dstE E N o.dst v = some E' ∧ G K C0 ⟨E', N, ds⟩ L' (wpG F n K.P Q r))) : G K C0 ⟨E, N, ds⟩ L (wpG F n K.P Q ((o, none) :: r)) := fun φ w fb a h1 h2 h3 h4 => by
  have hxv := opS_VV hx h3 h4
  simp only [VV] at hxv
  obtain ⟨_, l', hl, hxe⟩ := hxv
  have hl' : φ l = .func (.yield l') #[] #[] := hl
  have hxe' : a.eval x = .func (.yield l') #[] #[] := hxe.trans hl'
  have hav := argsS_VVs h3 h4 has
  obtain ⟨fn, tmps, assign, body, e, hr⟩ := hf F (n - 1) φ w fb _ l' h2 h3 hl' hav
  refine ⟨fun f _ => OpenF.fn f, ?_⟩
  rw [Oper.semAt_eq _ _ _ (by simp [hop])]
  have e1 : (c.args.toList.map a.eval).toArray = #[] ++ c.args.map a.eval := by
    apply Array.ext'; simp
  rw [e1] at e
  have hrun : (execOp a.eval o).run K.P w = .ok (.round l' fn tmps assign body) w := by
    simp only [execOp, hop, resolve, hc, hxe', Deferred.ofValue, Sem.run_bind, Sem.run_pure, Result.andThen_ok, invoke]
    exact e
  rw [hrun]
  refine ⟨(fun hdep => by rw [OpenF.depth (F := F)] at hdep; cases hdep), RoundIn_mono hr ?_⟩
  rintro e w' ⟨v, y, φ', L', fb', rfl, hs, hS, hv, E', hd, hR⟩
  exact hR φ' w' fb' _ (h1.trans hs) hS (h3.step hs) (put_E hd (h4.step hs) hv)

/-! ### A round out of the loop's body -/
def setPs : List Nat → List AV → List (Nat × AV) → List (Nat × AV)
  | p :: ps, a :: as, E => setPs ps as ((p, a) :: E)
  | _, _, E => E
def allLt (N : Nat) : List Nat → Bool
  | [] => true
  | p :: r => Nat.blt p N && allLt N r
theorem setPs_val {C : VC} : ∀ (ps : List Nat) (as : List AV) (vs : List Value) (E : List (Nat × AV)) (tmps : Array Value), ps.length = as.length → VVs C as vs → allLt tmps.size ps = true → (∀ t, VV C (getE E t) (tmps.getD t undef)) →
    ((ps.zip vs).foldl (fun (tm : Array Value) (x : Nat × Value) => tm.setIfInBounds x.1 x.2) tmps).size = tmps.size ∧ ∀ t, VV C (getE (setPs ps as E) t) (((ps.zip vs).foldl (fun (tm : Array Value) (x : Nat × Value) => tm.setIfInBounds x.1 x.2) tmps).getD t undef)
  | [], as, vs, E, tmps, hl, hv, hlt, h => by
    cases as with
    | cons a as => simp at hl
    | nil => exact ⟨rfl, h⟩
  | p :: ps, [], vs, E, tmps, hl, _, _, _ => by simp at hl
  | p :: ps, a :: as, vs, E, tmps, hl, hv, hlt, h => by
    simp only [VVs] at hv
    obtain ⟨v, vs', rfl, h1, h2⟩ := hv
    simp only [allLt, Bool.and_eq_true] at hlt
    have hp : p < tmps.size := Nat.le_of_ble_eq_true hlt.1
    have := setPs_val ps as vs' ((p, a) :: E) (tmps.setIfInBounds p v) (by simpa using hl) h2 (by simpa using hlt.2) (fun t => by
      rw [getE_cons]
      split
      · rename_i e; subst e; simpa [Array.getD_eq_getD_getElem?, hp] using h1
      · rename_i e
        have := h t
        simpa [Array.getD_eq_getD_getElem?, Array.getElem?_setIfInBounds_ne (Ne.symm e)] using this)
    simpa [setPs] using this

def BeginX (K : Ctx) (F : Fence) (n : Nat) (l' : Nat) (body : Code) (R : Ending → World → Prop) (a : Act) (w : World) : Prop :=
  ∃ w₂, (Instr.beginRound l').run K.P w = .ok () w₂ ∧ body.wpIn (F.inRound l') n K.P (roundPost K.P l' R) a w₂

theorem YldT_of_body {l : Nat} {as : List AV} {R : AV → List (Nat × AObj) → Prop} {E1 : List (Nat × AV)} {N1 : Nat} {ps : Array Tmp} {asg body : Code} {st : LoopState} {pe : Option Code} (hl : getS L l = .loop E1 N1 ps asg body st pe) (hps : Nat.beq ps.toList.length as.length = true) (hlt : allLt N1 ps.toList = true)
    (h : ∀ (F : Fence) [OpenF F] (n : Nat) (C1 : Cfg) (l' : Nat), C1.S = getS L → C1.φ l = .func (.yield l') #[] #[] → G K C1 ⟨setPs ps.toList as E1, N1, (C1.w.heap.size, 0)⟩ L (asg.wpIn (F.inRound l') n K.P (Exit.then (BeginX K F n l' body (RetPost C1 R)) (fun _ _ _ => False)))) : YldT K l as L R := by
  intro F _ n φ w fb vs l' h1 h2 h3 h4
  have hps := Nat.eq_of_beq_eq_true hps
  have ho := h1.obj l
  rw [show (Cfg.mk φ (getS L) w fb).S l = _ from hl] at ho
  obtain ⟨l2, rr, e1, e2, e3, e4, e5, e6, e7, e8, e9⟩ := ho
  have e1' : φ l = .func (.yield l2) #[] #[] := e1
  rw [h3] at e1'
  simp only [Value.func.injEq, Fn.yield.injEq, and_true] at e1'
  subst e1'
  have hlen := (VVs_iff.1 h4).1
  have hargs : vs.toArray.size = rr.params.size := by rw [e5]; simp; rw [← hlen, ← hps]; simp
  refine ⟨rr.fn, _, rr.assign, rr.body, run_yield e2 hargs, roundIn_of_wpIn (OpenF.fn _) ?_⟩
  rw [e6, e7]
  have hv := setPs_val (C := Cfg.v ⟨φ, getS L, w, fb⟩) ps.toList as vs E1 rr.tmps hps h4 (by rw [e8]; exact hlt) e9
  have etm : Array.foldl (fun tmps (x : Tmp × Value) => tmps.setIfInBounds x.1 x.2) rr.tmps (rr.params.zip vs.toArray) = (ps.toList.zip vs).foldl (fun (tm : Array Value) (x : Nat × Value) => tm.setIfInBounds x.1 x.2) rr.tmps := by
    rw [e5, ← Array.foldl_toList]
    simp
  refine h F n ⟨φ, getS L, w, fb⟩ l' rfl h3 φ w fb _ (Stp.refl _) h1 h2 ⟨?_, fun t => ?_, rfl⟩
  · show (Array.foldl (fun tmps (x : Tmp × Value) => tmps.setIfInBounds x.1 x.2) rr.tmps (rr.params.zip vs.toArray)).size = N1
    rw [etm, hv.1, e8]
  · show VV _ (getE (setPs ps.toList as E1) t) ((Array.foldl (fun tmps (x : Tmp × Value) => tmps.setIfInBounds x.1 x.2) rr.tmps (rr.params.zip vs.toArray)).getD t undef)
    rw [etm]
    exact hv.2 t

theorem loop_obj {φ : Nat → Value} {w : World} {fb : Nat → Prop} {l l' : Nat} {E1 : List (Nat × AV)} {N1 : Nat} {ps : Array Tmp} {asg body : Code} {st : LoopState} {pe : Option Code} (hS : Sim ⟨φ, getS L, w, fb⟩) (hl : getS L l = .loop E1 N1 ps asg body st pe)
    (hφ : φ l = .func (.yield l') #[] #[]) : ∃ rr : Loop, w.heap[l']? = some (.loop rr) ∧ rr.state = st ∧ rr.pending = pe ∧ ∀ st' pe', Stp ⟨φ, getS L, w, fb⟩ ⟨φ, getS ((l, .loop E1 N1 ps asg body st' pe') :: L), w.putObj l' (.loop { rr with state := st', pending := pe' }), fb⟩ ∧
      Sim ⟨φ, getS ((l, .loop E1 N1 ps asg body st' pe') :: L), w.putObj l' (.loop { rr with state := st', pending := pe' }), fb⟩ := by
  have ho := hS.obj l
  rw [show (Cfg.mk φ (getS L) w fb).S l = _ from hl] at ho
  obtain ⟨l2, rr, e1, e2, e3, e4, e5, e6, e7, e8, e9⟩ := ho
  have e1' : φ l = .func (.yield l2) #[] #[] := e1
  rw [hφ] at e1'
  simp only [Value.func.injEq, Fn.yield.injEq, and_true] at e1'
  subst e1'
  have e2' : w.heap[l']? = some (.loop rr) := e2
  refine ⟨rr, e2', e3, e4, fun st' pe' => ?_⟩
  refine hS.turn (m := l) (w' := w.putObj l' (.loop { rr with state := st', pending := pe' })) (by rw [hl]; rfl) (.loop E1 N1 ps asg body st' pe') rfl
    ⟨rfl, rfl, rfl, by simp, fun k _ hk => World.putObj_heap_other (fun e => hk (by rw [hφ]; simp [blk, e]))⟩ (fun hs => ?_)
  exact ⟨l', { rr with state := st', pending := pe' }, hφ, World.putObj_heap_same ((Array.getElem?_eq_some_iff.1 e2').1), rfl, rfl, e5, e6, e7, e8, fun t => VV.step hs.v (e9 t)⟩

variable {fr : Fr}
theorem G_begin {l l' : Nat} {body : Code} {R : Ending → World → Prop} {E1 : List (Nat × AV)} {N1 : Nat} {ps : Array Tmp} {asg body' : Code} {pe : Option Code} (hφ : C0.φ l = .func (.yield l') #[] #[]) (hk : C0.kn l) (hl : getS L l = .loop E1 N1 ps asg body' .ready pe)
    (h : G K C0 fr ((l, .loop E1 N1 ps asg body' .busy pe) :: L) (body.wpIn (F.inRound l') n K.P (roundPost K.P l' R))) : G K C0 fr L (BeginX K F n l' body R) := fun φ w fb a h1 h2 h3 h4 => by
  have hφ' : φ l = .func (.yield l') #[] #[] := ((h1.kn l hk).2).trans hφ
  obtain ⟨rr, e1, e2, e3, e4⟩ := loop_obj h2 hl hφ'
  obtain ⟨k1, k2⟩ := e4 .busy pe
  refine ⟨_, run_beginRound e1 e2, ?_⟩
  have : ({ rr with state := LoopState.busy } : Loop) = { rr with state := .busy, pending := pe } := by rw [← e3]
  rw [this]
  exact h φ _ fb a (h1.trans k1) k2 (h3.step k1) (h4.step k1)
theorem G_round_on {l l' : Nat} {R : AV → List (Nat × AObj) → Prop} {E1 : List (Nat × AV)} {N1 : Nat} {ps : Array Tmp} {asg body : Code} {st : LoopState} {pe : Option Code} (hφ : C0.φ l = .func (.yield l') #[] #[]) (hk : C0.kn l) (hl : getS L l = .loop E1 N1 ps asg body st pe)
    (h : R (.bool true) ((l, .loop E1 N1 ps asg body .ready none) :: L)) : G K C0 fr L (roundPost K.P l' (RetPost C0 R) .normal) := fun φ w fb a h1 h2 h3 h4 => by
  have hφ' : φ l = .func (.yield l') #[] #[] := ((h1.kn l hk).2).trans hφ
  obtain ⟨rr, e1, e2, e3, e4⟩ := loop_obj h2 hl hφ'
  obtain ⟨k1, k2⟩ := e4 .ready none
  refine ⟨_, _, run_endRound none e1, .bool true, .bool true, φ, _, fb, rfl, h1.trans ?_, ?_, by simp only [VV], h⟩
  · simpa using k1
  · simpa using k2
/-- The round is left by a jump. -/
def jumpOf : Exit → Option Code
  | .ret => some .ret
  | .exit id => some (.exit id)
  | .goto t => some (.goto t)
  | _ => none
theorem G_round_off {l l' : Nat} {R : AV → List (Nat × AObj) → Prop} {E1 : List (Nat × AV)} {N1 : Nat} {ps : Array Tmp} {asg body : Code} {st : LoopState} {pe : Option Code} {e : Exit} {c : Code} (hj : jumpOf e = some c) (hφ : C0.φ l = .func (.yield l') #[] #[]) (hk : C0.kn l) (hl : getS L l = .loop E1 N1 ps asg body st pe)
    (h : R (.bool false) ((l, .loop E1 N1 ps asg body .done (some c)) :: L)) : G K C0 fr L (roundPost K.P l' (RetPost C0 R) e) := fun φ w fb a h1 h2 h3 h4 => by
  have hφ' : φ l = .func (.yield l') #[] #[] := ((h1.kn l hk).2).trans hφ
  obtain ⟨rr, e1, e2, e3, e4⟩ := loop_obj h2 hl hφ'
  obtain ⟨k1, k2⟩ := e4 .done (some c)
  cases e <;> simp only [jumpOf, Option.some.injEq] at hj <;> first | (cases hj; done) | skip
  all_goals
    subst hj
    exact ⟨_, _, run_endRound (some _) e1, .bool false, .bool false, φ, _, fb, rfl, h1.trans (by simpa using k1), by simpa using k2, by simp only [VV], h⟩

/-! ### The statement -/
theorem DsR_targets {C : Cfg} {lo : Nat} : ∀ {k : Nat} {l : List Deferred}, DsR C lo k l → ∀ d ∈ l, ∃ b, d.target = .collected b ∧ C.rest b
  | 0, _, h, d, hd => by simp only [DsR] at h; subst h; simp at hd
  | k + 1, _, h, d, hd => by
    obtain ⟨b, r, rfl, _, e3, _, _, _, e7⟩ := h
    rcases List.mem_cons.1 hd with e | hd
    · subst e; exact ⟨b, rfl, e3⟩
    · exact DsR_targets e7 d hd
/-- A block that is no one's here. -/
theorem Sim.foreign {φ : Nat → Value} {w : World} {fb : Nat → Prop} (hS : Sim ⟨φ, getS L, w, fb⟩) (ob : Obj) :
    Stp ⟨φ, getS L, w, fb⟩ ⟨φ, getS L, w.alloc ob, fun b => fb b ∨ b = w.heap.size⟩ ∧ Sim ⟨φ, getS L, w.alloc ob, fun b => fb b ∨ b = w.heap.size⟩ := by
  have hg := World.grownBy_alloc w ob none
  have hs : Stp ⟨φ, getS L, w, fb⟩ ⟨φ, getS L, w.alloc ob, fun b => fb b ∨ b = w.heap.size⟩ :=
    ⟨fun _ h => ⟨h, rfl⟩, fun b hb => ⟨⟨Nat.lt_of_lt_of_le hb.1 hg.size, hb.2⟩, hg.block b hb.1 (by simp)⟩, fun _ h => .inl h, fun b hb h => h.resolve_right (fun e => by have := hb.1; subst e; exact absurd this (Nat.lt_irrefl _)), hg.os, hg.tape, hg.output, hg.size⟩
  refine ⟨hs, ⟨fun k => ?_, fun k b hk hb => ?_, fun b hb => ?_, hS.disj⟩⟩
  · by_cases hk : (getS L k).live = true
    · exact (hS.obj k).keep hs hk (live_known hk) fun b hb => hg.block b (hS.lt hk hb) (by simp)
    · show ObjR _ k (getS L k)
      cases hn : getS L k <;> first | trivial | (rw [hn] at hk; simp [AObj.live] at hk)
  · rintro (h | h)
    · exact hS.fbl k b hk hb h
    · have := hS.lt hk hb
      simp only at this
      omega
  · rcases hb with hb | hb
    · exact Nat.lt_of_lt_of_le (hS.fbs b hb) hg.size
    · subst hb; simp

theorem G_range [OpenF F] {g : Operand} {ps : Array Tmp} {asg body : Code} {f : Nat} {first caps : List AV} {k : Nat} (l : Nat) (hround : F.round = none) (hx : opS K E g = some (.fn f first caps)) (hl : getS L l = .free)
    (hf : FnT K f (first ++ (.yld l :: caps)) ((l, .loop E N ps asg body .ready none) :: L) (fun _ L2 => ∃ st pe, getS L2 l = .loop E N ps asg body st pe ∧ st ≠ .busy ∧
      (match pe with
       | none => G K C0 ⟨E, N, (C0.w.heap.size, k + 1)⟩ ((l, .dead) :: L2) (Q .normal)
       | some c => G K C0 ⟨E, N, (C0.w.heap.size, k + 1)⟩ ((l, .dead) :: L2) (c.wpIn F n K.P Q)))) :
    G K C0 ⟨E, N, (C0.w.heap.size, k)⟩ L ((Code.rangeFunc g ps asg body).wpIn F n K.P Q) := fun φ w fb a h1 h2 h3 h4 => by
  refine wpIn_rangeFunc fun fn _ => ?_
  rw [hround]
  have hxv := opS_VV hx h3 h4
  simp only [VV] at hxv
  obtain ⟨us, vs, hxe, hus, hvs⟩ := hxv
  obtain ⟨k1, s1⟩ := h2.foreign (.deferred (some []))
  have h4a := h4.step k1
  obtain ⟨w1, hw1⟩ : ∃ w1, w1 = w.alloc (.deferred (some [])) := ⟨_, rfl⟩
  have hw1s : w1.heap.size = w.heap.size + 1 := by rw [hw1]; simp
  rw [← hw1] at k1 s1 h4a
  obtain ⟨k2, s2⟩ := s1.new (m := l) (w' := w1.alloc (.loop { state := .ready, pending := none, fn, tmps := a.tmps, params := ps, assign := asg, body, defers := w.heap.size })) hl (.func (.yield (w.heap.size + 1)) #[] #[]) (.loop E N ps asg body .ready none) rfl (World.grownBy_alloc w1 _ none)
    (fun b hb => by simp only [blk, Option.some.injEq] at hb; omega) (fun hs => by
      refine ⟨w.heap.size + 1, { state := .ready, pending := none, fn, tmps := a.tmps, params := ps, assign := asg, body, defers := w.heap.size }, upd_same _ _ _, ?_, rfl, rfl, rfl, rfl, rfl, h4.size, fun t => VV.step hs.v (h4a.val t)⟩
      have := World.alloc_heap_new w1 (.loop { state := .ready, pending := none, fn, tmps := a.tmps, params := ps, assign := asg, body, defers := w.heap.size })
      rw [hw1s] at this
      exact this)
  have hdef : (w1.alloc (.loop { state := .ready, pending := none, fn, tmps := a.tmps, params := ps, assign := asg, body, defers := w.heap.size })).heap[w.heap.size]? = some (.deferred (some [])) := by
    have e1 := World.alloc_heap_new w (.deferred (some []))
    rw [← hw1] at e1
    have := (World.grownBy_alloc w1 (.loop { state := .ready, pending := none, fn, tmps := a.tmps, params := ps, assign := asg, body, defers := w.heap.size }) none).block w.heap.size (by omega) (by simp)
    exact this.trans e1
  obtain ⟨w2, hw2⟩ : ∃ w2, w2 = w1.alloc (.loop { state := .ready, pending := none, fn, tmps := a.tmps, params := ps, assign := asg, body, defers := w.heap.size }) := ⟨_, rfl⟩
  rw [← hw2] at k2 s2 hdef
  have kall := k1.trans k2
  have h4b := h4.step kall
  -- the frame with the mark
  have hF : FrR ⟨upd φ l (.func (.yield (w.heap.size + 1)) #[] #[]), getS ((l, .loop E N ps asg body .ready none) :: L), w2, fun b => fb b ∨ b = w.heap.size⟩ ⟨E, N, (C0.w.heap.size, k + 1)⟩
      { a with defers := [{ target := .collected w.heap.size, args := #[] }] ++ a.defers } := by
    refine ⟨h4b.size, h4b.val, ⟨w.heap.size, a.defers, rfl, h1.size, ⟨?_, fun m hm e => ?_⟩, .inr rfl, hdef, fun d hd e => ?_, h4b.ds⟩⟩
    · show w.heap.size < w2.heap.size
      rw [hw2]; simp; omega
    · by_cases hml : m = l
      · subst hml
        have e2 : blk (upd φ m (.func (.yield (w.heap.size + 1)) #[] #[]) m) = some w.heap.size := e
        rw [upd_same] at e2
        simp only [blk, Option.some.injEq] at e2
        omega
      · have hm' : (getS L m).live = true := by
          have hm2 : (getS ((l, .loop E N ps asg body .ready none) :: L) m).live = true := hm
          rwa [getS_cons, if_neg hml] at hm2
        have e2 : blk (upd φ l (.func (.yield (w.heap.size + 1)) #[] #[]) m) = some w.heap.size := e
        rw [upd_ne hml] at e2
        have := h2.lt (n := m) hm' e2
        simp only at this
        omega
    · obtain ⟨b, hb1, hb2⟩ := DsR_targets h4.ds d hd
      rw [hb1] at e
      simp only [Target.collected.injEq] at e
      have := hb2.1
      simp only at this
      omega
  have hall : VVs (Cfg.v ⟨upd φ l (.func (.yield (w.heap.size + 1)) #[] #[]), getS ((l, .loop E N ps asg body .ready none) :: L), w2, fun b => fb b ∨ b = w.heap.size⟩) (first ++ (.yld l :: caps)) (us ++ (.func (.yield (w.heap.size + 1)) #[] #[] :: vs)) := by
    refine VVs_append (VVs.step kall.v hus) ⟨_, _, rfl, ?_, VVs.step kall.v hvs⟩
    simp only [VV]
    refine ⟨?_, _, upd_same _ _ _, (upd_same _ _ _).symm⟩
    show (getS ((l, .loop E N ps asg body .ready none) :: L) l).known = true
    rw [getS_cons, if_pos rfl]; rfl
  refine ⟨w.heap.size + 1, [{ target := .collected w.heap.size, args := #[] }], w2, { target := .fn (.func f) vs.toArray, args := us.toArray ++ #[.func (.yield (w.heap.size + 1)) #[] #[]] }, w2, f, (us ++ (.func (.yield (w.heap.size + 1)) #[] #[] :: vs)).toArray, w2, ?_, ?_, fun f' _ => OpenF.fn f', ?_, (fun hdep => by rw [OpenF.depth (F := F)] at hdep; cases hdep), ?_⟩
  · rw [hw2, hw1]; exact run_enterLoop_outer fn a.tmps ps asg body
  · simp only [resolve, rangeCall]
    rw [hxe]
    simp [Deferred.ofValue, Act.eval]
  · have he := hf.ent (us.toArray ++ #[.func (.yield (w.heap.size + 1)) #[] #[]] ++ vs.toArray) w2
    have e1 : (us ++ (.func (.yield (w.heap.size + 1)) #[] #[] :: vs)).toArray = us.toArray ++ #[.func (.yield (w.heap.size + 1)) #[] #[]] ++ vs.toArray := by
      apply Array.ext'; simp
    rw [e1]
    exact he
  · refine callsIn_open (calls_mono (hf.calls _ w2 _ _ s2 (h3.step kall) hall) ?_)
    rintro e w' ⟨v, y, φ', L2, fb', rfl, hs, hS, hv, st, pe, hl2, hst, hR⟩
    have hkl : Cfg.kn ⟨upd φ l (.func (.yield (w.heap.size + 1)) #[] #[]), getS ((l, .loop E N ps asg body .ready none) :: L), w2, fun b => fb b ∨ b = w.heap.size⟩ l := by
      show (getS ((l, .loop E N ps asg body .ready none) :: L) l).known = true
      rw [getS_cons, if_pos rfl]; rfl
    have hφ' : φ' l = .func (.yield (w.heap.size + 1)) #[] #[] := (hs.kn l hkl).2.trans (upd_same _ _ _)
    obtain ⟨rr, e1, e2, e3, _⟩ := loop_obj hS hl2 hφ'
    have hend := run_endLoop (P := K.P) e1 (by rw [e2]; exact hst)
    obtain ⟨k3, s3⟩ := hS.turn (m := l) (w' := w'.putObj (w.heap.size + 1) (.loop { rr with state := .exhausted })) (by rw [hl2]; rfl) .dead rfl
      ⟨rfl, rfl, rfl, by simp, fun j _ hj => World.putObj_heap_other (fun e => hj (by rw [hφ']; simp [blk, e]))⟩ (fun _ => trivial)
    obtain ⟨w4, hw4⟩ : ∃ w4, w4 = w'.putObj (w.heap.size + 1) (.loop { rr with state := .exhausted }) := ⟨_, rfl⟩
    rw [← hw4] at hend k3 s3
    rw [e3] at hend
    have hF2 := (hF.step hs).step k3
    refine ⟨pe, w4, hend, ?_⟩
    cases pe with
    | none => exact hR φ' _ fb' _ (((h1.trans kall).trans hs).trans k3) s3 (((h3.step kall).step hs).step k3) hF2
    | some c => exact hR φ' _ fb' _ (((h1.trans kall).trans hs).trans k3) s3 (((h3.step kall).step hs).step k3) hF2
end
/-! ### What the iterator holds for itself -/
def deads : List (Nat × AObj) → List (Nat × AObj)
  | [] => []
  | (k, _) :: r => (k, .dead) :: deads r
def knownL : List (Nat × AObj) → Bool
  | [] => true
  | (_, o) :: r => o.known && knownL r
theorem deads_in {k : Nat} : ∀ {Xs : List (Nat × AObj)} {M M' : List (Nat × AObj)}, k ∈ keysL Xs → getS (deads Xs ++ M) k = .dead ∧ getS (Xs ++ M) k = getS (Xs ++ M') k
  | [], _, _, h => by simp [keysL] at h
  | (j, o) :: r, M, M', h => by
    simp only [deads, List.cons_append, getS_cons]
    by_cases e : k = j
    · simp [e]
    · simp only [keysL, List.mem_cons] at h
      simp only [if_neg e]
      exact deads_in (h.resolve_left e)
theorem deads_out {k : Nat} : ∀ {Xs : List (Nat × AObj)} {M : List (Nat × AObj)}, k ∉ keysL Xs → getS (deads Xs ++ M) k = getS M k ∧ getS (Xs ++ M) k = getS M k
  | [], _, h => ⟨rfl, rfl⟩
  | (j, o) :: r, M, h => by
    simp only [keysL, List.mem_cons, not_or] at h
    simp only [deads, List.cons_append, getS_cons, if_neg h.1]
    exact deads_out h.2
theorem knownL_get {k : Nat} : ∀ {Xs : List (Nat × AObj)} {M : List (Nat × AObj)}, knownL Xs = true → k ∈ keysL Xs → (getS (Xs ++ M) k).known = true
  | [], _, _, h => by simp [keysL] at h
  | (j, o) :: r, M, hk, h => by
    simp only [knownL, Bool.and_eq_true] at hk
    simp only [List.cons_append, getS_cons]
    split
    · exact hk.1
    · rename_i e
      simp only [keysL, List.mem_cons] at h
      exact knownL_get hk.2 (h.resolve_left e)
mutual
theorem okA_all : ∀ (a : AV), okA (fun _ => true) a = true
  | .agg cs => by simp only [okA, okL_all cs]
  | .tup cs => by simp only [okA, okL_all cs]
  | .fn _ as bs => by simp only [okA, okL_all as, okL_all bs, Bool.and_self]
  | .undef => rfl
  | .int .. => rfl
  | .bool .. => rfl
  | .str .. => rfl
  | .nils => rfl
  | .lst .. => rfl
  | .clip .. => rfl
  | .own .. => rfl
  | .ptr .. => rfl
  | .eptr .. => rfl
  | .rptr .. => rfl
  | .yld .. => rfl
  | .map .. => rfl
  | .nilmap => rfl
  | .nilfn => rfl
  | .niliface => rfl
theorem okL_all : ∀ (l : List AV), okL (fun _ => true) l = true
  | [] => rfl
  | a :: r => by simp only [okL, okA_all a, okL_all r, Bool.and_self]
end
theorem okO_all (o : AObj) : okO (fun _ => true) o = true := by
  cases o with
  | box cs => exact okL_all cs
  | loop E N ps asg body st pe =>
    simp only [okO]
    induction E with
    | nil => rfl
    | cons x r ih => obtain ⟨t, a⟩ := x; simp only [okE, okA_all, ih, Bool.and_self]
  | _ => rfl

/-- A round does not see what the iterator holds. -/
theorem YldT.hide {K : Ctx} {l : Nat} {as : List AV} {Xs L : List (Nat × AObj)} {R : AV → List (Nat × AObj) → Prop} (hX : knownL Xs = true) (h : YldT K l as (deads Xs ++ L) (fun v M => ∃ M', (∀ m, getS M m = getS (deads Xs ++ M') m) ∧ R v M')) :
    YldT K l as (Xs ++ L) (fun v M => ∃ M', M = Xs ++ M' ∧ R v M') := by
  intro F _ n φ w fb vs l' h1 h2 h3 h4
  have hkn : ∀ {M : List (Nat × AObj)} (k : Nat), (getS (Xs ++ M) k).known = true ↔ (getS (deads Xs ++ M) k).known = true := fun {M} k => by
    by_cases hk : k ∈ keysL Xs
    · rw [(deads_in (M' := []) hk).1]
      exact ⟨fun _ => rfl, fun _ => knownL_get hX hk⟩
    · rw [(deads_out hk).1, (deads_out hk).2]
  have hnl : ∀ {M : List (Nat × AObj)} (k : Nat), (getS (deads Xs ++ M) k).live = true → k ∉ keysL Xs := fun {M} k hl hk => by
    rw [(deads_in (M' := []) hk).1] at hl; simp [AObj.live] at hl
  have hok : HidOk (fun _ => true) ⟨φ, getS (Xs ++ L), w, fb⟩ (fun n => n) (getS (deads Xs ++ L)) := by
    refine ⟨fun k hk => ⟨?_, okO_all _⟩, fun k _ hk => (hkn k).1 hk, fun k m _ _ hne => hne⟩
    have hx := hnl k hk
    show getS (Xs ++ L) k = _
    rw [renO_id, (deads_out hx).1, (deads_out hx).2]
  have hav : VVs (Hid ⟨φ, getS (Xs ++ L), w, fb⟩ (fun n => n) (getS (deads Xs ++ L))).v as vs := by
    have h4' : VVs (Cfg.v ⟨φ, getS (Xs ++ L), w, fb⟩) (renL (fun n => n) as) vs := by rw [renL_id]; exact h4
    have := VVs.tr (Hid.tr hok) (okL_all as) h4'
    rwa [renL_id] at this
  obtain ⟨fn, tmps, assign, body, e, hr⟩ := h F n _ w _ vs l' (Hid.sim h1 hok) (Hid.glob h2 hok) h3 hav
  refine ⟨fn, tmps, assign, body, e, RoundIn_mono hr ?_⟩
  rintro e w' ⟨u, x, φ', L1, fb', rfl, hst, hS, hvv, M', hM, hR⟩
  have hb : HidBack (fun _ => true) ⟨φ, getS (Xs ++ L), w, fb⟩ (fun n => n) (getS (deads Xs ++ L)) ⟨φ', getS L1, w', fb'⟩ ⟨φ', getS (Xs ++ M'), w', fb⟩ (fun n => n) := by
    refine ⟨rfl, rfl, fun k hk => ⟨?_, okO_all _⟩, fun c hc => ?_, fun c hc => ?_, fun k hk => ⟨?_, rfl⟩, fun k m _ _ hne => hne⟩
    · have hk' : (getS (deads Xs ++ M') k).live = true := by rw [← hM]; exact hk
      have hx := hnl k hk'
      show getS (Xs ++ M') k = renO (fun n => n) (getS L1 k)
      rw [renO_id, hM, (deads_out hx).1, (deads_out hx).2]
    · by_cases hx : c ∈ keysL Xs
      · have hc' : (getS (Xs ++ M') c).live = true := hc
        have e1 : getS (Xs ++ M') c = getS (Xs ++ L) c := (deads_in hx).2
        exact .inr ⟨by rw [e1] at hc'; exact hc', fun k hk e => hnl k hk (by rw [show k = c from e]; exact hx), e1⟩
      · refine .inl ⟨c, ?_, rfl⟩
        have hc' : (getS (Xs ++ M') c).live = true := hc
        show (getS L1 c).live = true
        rw [hM, (deads_out hx).1, ← (deads_out hx).2]
        exact hc'
    · have hc1 := (hkn c).1 hc
      obtain ⟨g1, g2⟩ := hst.kn c hc1
      refine ⟨(hkn c).2 ?_, g2⟩
      rw [← hM]; exact g1
    · refine (hkn k).2 ?_
      rw [← hM]; exact hk
  obtain ⟨k1, k2, k3⟩ := hb.ok h1 hok hst hS
  have hvv' : VV (Cfg.v ⟨φ', getS L1, w', fb'⟩) (ren (fun n => n) x) u := by rw [ren_id]; exact hvv
  have := VV.tr k3 (okA_all x) hvv'
  rw [ren_id] at this
  exact ⟨u, x, φ', Xs ++ M', fb, rfl, k1, k2, this, M', rfl, hR⟩
end Go.Asl
/- More operations: division, equality of structs, slicing of what is only read. -/
set_option linter.unusedVariables false
set_option linter.unusedSimpArgs false
namespace Go.Asl
open Go.RowKit

section
variable {K : Ctx} {C0 : Cfg} {E : List (Nat × AV)} {N : Nat} {ds : Nat × Nat} {L L' : List (Nat × AObj)} {F : Fence} {n : Nat} {Q : Exit → Act → World → Prop}
  {o : Oper} {r : List (Oper × Option (Nat × Bool))} {E' : List (Nat × AV)}

/-- An operation of a binary operator whose run is told. -/
theorem binOp_run {P : Program} {a : Act} {w : World} {op : BinOp} {t u : TypeId} {x y : Operand} {z : Value} (hop : o.op = .binOp op t x y u)
    (h : (do eqGuard op t x y (a.eval x) (a.eval y); binOp op t (a.eval x) (a.eval y)).run P w = .ok z w) : (execOp a.eval o).run P w = .ok (.value z) w := by
  have h2 := h
  simp only [execOp, hop]
  simp only [Sem.run_bind] at h2 ⊢
  revert h2
  generalize (eqGuard op t x y (a.eval x) (a.eval y)).run P w = r1
  intro h2
  cases r1 with
  | halt e w1 => simp [Result.andThen] at h2
  | ok u1 w1 =>
    simp only [Result.andThen_ok] at h2 ⊢
    rw [h2]
    rfl

theorem G_rem [OpenF F] {t u : TypeId} {x y : Operand} {k : IntKind} {p q : Int} (hop : o.op = .binOp .rem t x y u) (hx : opS K E x = some (.int k p)) (hy : opS K E y = some (.int k q)) (hq : q ≠ 0) (hd : dstE E N o.dst (.int k (p.tmod q)) = some E')
    (h : G K C0 ⟨E', N, ds⟩ L (wpG F n K.P Q r)) : G K C0 ⟨E, N, ds⟩ L (wpG F n K.P Q ((o, none) :: r)) := by
  refine G_value (by simp [hop]) hd (fun φ w fb a hS hG hF => ?_) h
  have hxv := opS_VV hx hG hF
  have hyv := opS_VV hy hG hF
  simp only [VV] at hxv hyv
  refine ⟨.int k (p.tmod q), φ, w, binOp_run hop ?_, Stp.refl _, hS, by simp only [VV]⟩
  rw [hxv, hyv]
  simp [eqGuard, binOp, Op.intDiv, hq]
theorem G_quo [OpenF F] {t u : TypeId} {x y : Operand} {k : IntKind} {p q : Int} (hop : o.op = .binOp .quo t x y u) (hx : opS K E x = some (.int k p)) (hy : opS K E y = some (.int k q)) (hq : q ≠ 0) (hd : dstE E N o.dst (.int k (k.wrap (p.tdiv q))) = some E')
    (h : G K C0 ⟨E', N, ds⟩ L (wpG F n K.P Q r)) : G K C0 ⟨E, N, ds⟩ L (wpG F n K.P Q ((o, none) :: r)) := by
  refine G_value (by simp [hop]) hd (fun φ w fb a hS hG hF => ?_) h
  have hxv := opS_VV hx hG hF
  have hyv := opS_VV hy hG hF
  simp only [VV] at hxv hyv
  refine ⟨.int k (k.wrap (p.tdiv q)), φ, w, binOp_run hop ?_, Stp.refl _, hS, by simp only [VV]⟩
  rw [hxv, hyv]
  simp [eqGuard, binOp, Op.intDiv, hq]
theorem Sp_rem {t u : TypeId} {x y : Operand} {k : IntKind} {p q : Int} (hop : o.op = .binOp .rem t x y u) (hx : opS K E x = some (.int k p)) (hy : opS K E y = some (.int k q)) (hq : q ≠ 0) (hd : dstB o.dst N = true) :
    SpOk K N (o, none) ⟨slotsOf [x, y], o.dst, .int k (p.tmod q), [], []⟩ E L := by
  intro C0 ds F _ n Q r E' L' hE hL h
  have ha := opS_agree (K := K) (l := [x, y]) (fun t ht => ht) hE
  exact G_rem hop ((ha x (by simp)).trans hx) ((ha y (by simp)).trans hy) hq (dstB_ok _ hd) h
theorem Sp_quo {t u : TypeId} {x y : Operand} {k : IntKind} {p q : Int} (hop : o.op = .binOp .quo t x y u) (hx : opS K E x = some (.int k p)) (hy : opS K E y = some (.int k q)) (hq : q ≠ 0) (hd : dstB o.dst N = true) :
    SpOk K N (o, none) ⟨slotsOf [x, y], o.dst, .int k (k.wrap (p.tdiv q)), [], []⟩ E L := by
  intro C0 ds F _ n Q r E' L' hE hL h
  have ha := opS_agree (K := K) (l := [x, y]) (fun t ht => ht) hE
  exact G_quo hop ((ha x (by simp)).trans hx) ((ha y (by simp)).trans hy) hq (dstB_ok _ hd) h

/-! ### Structs of plain fields -/
def eq1 (k : TK) (a b : AV) : Option Bool :=
  match k, a, b with
  | .int _, .int k x, .int k' y => if k = k' then some (decide (x = y)) else none
  | .bool, .bool x, .bool y => some (decide (x = y))
  | .string, .str x, .str y => some (x.toList == y.toList)
  | _, _, _ => none
def eqFs (K : Ctx) (cs es : List AV) : List (Nat × Nat) → Option Bool
  | [] => some true
  | [(off, t)] => match K.T t, cs[off]?, es[off]? with
    | some ti, some a, some b => eq1 ti.kind a b
    | _, _, _ => none
  | (off, t) :: r => match K.T t, cs[off]?, es[off]?, eqFs K cs es r with
    | some ti, some a, some b, some y => match eq1 ti.kind a b with
      | some x => some (x && y)
      | none => none
    | _, _, _, _ => none
theorem eq1_ok {P : Program} {C : VC} {t : Nat} {ti : TI} (hf : TFacts P t ti) {a b : AV} {x : Bool} (h : eq1 ti.kind a b = some x) {u v : Value} (ha : VE C a [u]) (hb : VE C b [v]) (d : Nat) (w : World) : (Op.equalIn (d + 1) t u v).run P w = .ok x w := by
  obtain ⟨de, hu, hk⟩ := hf.desc
  unfold eq1 at h
  split at h
  · rename_i k1 k x k' y hkk
    split at h
    · rename_i e
      subst e
      simp only [Option.some.injEq] at h
      simp only [VE, List.cons.injEq, and_true] at ha hb
      subst ha; subst hb; subst h
      rw [hkk] at hk
      cases de <;> simp [kindIs] at hk
      rw [run_equalIn_int w d t _ _ _ _ hu]
      congr 1
    · cases h
  · rename_i x y hkk
    simp only [Option.some.injEq] at h
    simp only [VE, List.cons.injEq, and_true] at ha hb
    subst ha; subst hb; subst h
    rw [hkk] at hk
    cases de <;> simp [kindIs] at hk
    rw [run_equalIn_bool' w d t _ _ hu]
    cases x <;> cases y <;> rfl
  · rename_i x y hkk
    simp only [Option.some.injEq] at h
    simp only [VE, List.cons.injEq, and_true] at ha hb
    subst ha; subst hb; subst h
    rw [hkk] at hk
    cases de <;> simp [kindIs] at hk
    exact run_equalIn_string w d t _ _ hu
  · cases h
theorem eq1_row {k : TK} {a b : AV} {x : Bool} (h : eq1 k a b = some x) : isRowK k = false := by
  cases k <;> first | rfl | (simp [eq1] at h)
theorem part_run {P : Program} {t : Nat} {ti : TI} (hf : TFacts P t ti) (hr : isRowK ti.kind = false) {us : List Value} {off : Nat} {u : Value} (hu : us[off]? = some u) (w : World) : (part t us.toArray off).run P w = .ok u w := by
  simp [part, Sem.run_bind, hf.row w, hr, hu]
theorem eqFs_ok {C : VC} (hK : K.Ok) {cs es : List AV} {us vs : List Value} (hc : VEs C cs us) (he : VEs C es vs) (d : Nat) (w : World) : ∀ (fs : List (Nat × Nat)) (fields : List Field) (x : Bool), fieldsAre fields fs = true → eqFs K cs es fs = some x →
    (Op.eqFields (d + 1) us.toArray vs.toArray fields).run K.P w = .ok x w := by
  obtain ⟨hl1, hp1⟩ := VEs_iff.1 hc
  obtain ⟨hl2, hp2⟩ := VEs_iff.1 he
  have one : ∀ {off t : Nat} {ti : TI} {a b : AV} {x : Bool}, K.T t = some ti → cs[off]? = some a → es[off]? = some b → eq1 ti.kind a b = some x →
      ∃ u v, (part t us.toArray off).run K.P w = .ok u w ∧ (part t vs.toArray off).run K.P w = .ok v w ∧ (Op.equalIn (d + 1) t u v).run K.P w = .ok x w := by
    intro off t ti a b x ht ha hb h1
    have hlt1 : off < us.length := by rw [← hl1]; exact (List.getElem?_eq_some_iff.1 ha).1
    have hlt2 : off < vs.length := by rw [← hl2]; exact (List.getElem?_eq_some_iff.1 hb).1
    have hu := List.getElem?_eq_getElem hlt1
    have hv := List.getElem?_eq_getElem hlt2
    exact ⟨_, _, part_run (hK.facts ht) (eq1_row h1) hu w, part_run (hK.facts ht) (eq1_row h1) hv w, eq1_ok (hK.facts ht) h1 (hp1 off a _ ha hu) (hp2 off b _ hb hv) d w⟩
  intro fs
  induction fs with
  | nil =>
    intro fields x hf h
    cases fields with
    | nil => simp only [eqFs, Option.some.injEq] at h; subst h; rfl
    | cons f fields => simp [fieldsAre] at hf
  | cons y fs ih =>
    obtain ⟨off, t⟩ := y
    intro fields x hf h
    cases fields with
    | nil => simp [fieldsAre] at hf
    | cons f fields =>
      simp only [fieldsAre, Bool.and_eq_true, beq_iff_eq, bne_iff_ne] at hf
      obtain ⟨⟨⟨rfl, rfl⟩, hn⟩, hf⟩ := hf
      cases fs with
      | nil =>
        have hfn : fields = [] := by cases fields with | nil => rfl | cons _ _ => simp [fieldsAre] at hf
        subst hfn
        simp only [eqFs] at h
        split at h
        · rename_i ti a b ht ha hb
          obtain ⟨u, v, e1, e2, e3⟩ := one ht ha hb h
          simp only [Op.eqFields, hn, ne_eq, not_false_eq_true, if_true, Sem.run_bind, e1, e2, e3, Result.andThen_ok]
          cases x <;> rfl
        · cases h
      | cons z fs =>
        simp only [eqFs] at h
        split at h
        · rename_i ti a b y ht ha hb hy
          split at h
          · rename_i x1 h1
            simp only [Option.some.injEq] at h
            subst h
            obtain ⟨u, v, e1, e2, e3⟩ := one ht ha hb h1
            have hrest := ih fields y hf hy
            simp only [Op.eqFields, hn, ne_eq, not_false_eq_true, if_true, Sem.run_bind, e1, e2, e3, Result.andThen_ok]
            cases x1
            · rfl
            · simpa using hrest
          · cases h
        · cases h
/-- The equality of a struct type is plain. -/
def eqPlain (P : Program) (t : Nat) : Bool := !P.stoodInHeld t && !P.eqGuardType P.depth t
theorem G_eqS [OpenF F] (hK : K.Ok) {neg : Bool} {op : BinOp} {t u : TypeId} {x y : Operand} {b1 b2 : Nat} {z cs es : List AV} {fs : List (Nat × Nat)} {v : Bool} (hneg : op = (if neg then .neq else .eql)) (hop : o.op = .binOp op t x y u) (ht : K.T t = some ⟨b1, b2, z, .struct fs⟩)
    (hx : opS K E x = some (.agg cs)) (hy : opS K E y = some (.agg es)) (hv : eqFs K cs es fs = some v) (hp : eqPlain K.P t = true) (hd : dstE E N o.dst (.bool (neg != v)) = some E')
    (h : G K C0 ⟨E', N, ds⟩ L (wpG F n K.P Q r)) : G K C0 ⟨E, N, ds⟩ L (wpG F n K.P Q ((o, none) :: r)) := by
  refine G_value (by simp [hop]) hd (fun φ w fb a hS hG hF => ?_) h
  have hxv := opS_VV hx hG hF
  have hyv := opS_VV hy hG hF
  simp only [VV] at hxv hyv
  obtain ⟨us, hus, h1⟩ := hxv
  obtain ⟨vs, hvs, h2⟩ := hyv
  simp only [eqPlain, Bool.and_eq_true, Bool.not_eq_true'] at hp
  refine ⟨.bool (neg != v), φ, w, binOp_run hop ?_, Stp.refl _, hS, by simp only [VV]⟩
  obtain ⟨fields, hu, hfa⟩ := struct_facts (hK.facts ht)
  have hfo : K.P.fieldsOf t = fields := by simp [Program.fieldsOf, hu]
  have heq : (Op.equalIn 10000 t (.agg us.toArray) (.agg vs.toArray)).run K.P w = .ok v w := by
    rw [run_equalIn_struct w 9999 t _ _ (by rw [hfo]; exact hu) hp.1, hfo]
    exact eqFs_ok hK h1 h2 9998 w fs fields.toList v hfa hv
  rw [hus, hvs, Sem.run_bind, run_eqGuard_agg w op t x y _ _ hp.2, Result.andThen_ok]
  cases neg with
  | true =>
    simp only [if_true] at hneg
    subst hneg
    rw [run_neq_struct, heq]
    simp
  | false =>
    simp only [Bool.false_eq_true, if_false] at hneg
    subst hneg
    rw [run_eql_struct, heq]
    simp
theorem Sp_eqS (hK : K.Ok) (neg : Bool) {op : BinOp} {t u : TypeId} {x y : Operand} {b1 b2 : Nat} {z cs es : List AV} {fs : List (Nat × Nat)} {v : Bool} (hop : o.op = .binOp op t x y u) (hneg : op = (if neg then .neq else .eql)) (ht : K.T t = some ⟨b1, b2, z, .struct fs⟩)
    (hx : opS K E x = some (.agg cs)) (hy : opS K E y = some (.agg es)) (hv : eqFs K cs es fs = some v) (hp : eqPlain K.P t = true) (hd : dstB o.dst N = true) : SpOk K N (o, none) ⟨slotsOf [x, y], o.dst, .bool (neg != v), [], []⟩ E L := by
  intro C0 ds F _ n Q r E' L' hE hL h
  have ha := opS_agree (K := K) (l := [x, y]) (fun t ht => ht) hE
  exact G_eqS hK hneg hop ht ((ha x (by simp)).trans hx) ((ha y (by simp)).trans hy) hv hp (dstB_ok _ hd) h

/-! ### Slicing what is only read -/
/-- A bound: none, or a number. -/
def bndS (K : Ctx) (E : List (Nat × AV)) (dflt : Nat) : Option Operand → Option Int
  | none => some dflt
  | some x => match opS K E x with
    | some (.int _ n) => some n
    | _ => none
theorem G_slice [OpenF F] (hK : K.Ok) {t e : Nat} {b1 b2 : Nat} {z : List AV} {ti : TI} {x : Operand} {lo hi : Option Operand} {xs : List AV} {l h' : Int} (hop : o.op = .slice t x lo hi none) (ht : K.T t = some ⟨b1, b2, z, .slice e⟩) (he : K.T e = some ti)
    (hx : opS K E x = some (.lst xs)) (hlo : bndS K E 0 lo = some l) (hhi : bndS K E xs.length hi = some h') (h0 : 0 ≤ l) (h1 : l ≤ h') (h2 : h' ≤ xs.length) (hz : ∀ y ∈ xs, ∃ cs, y.cells = some cs ∧ cs.length = ti.sz) (hd : dstE E N o.dst (.lst ((xs.take h'.toNat).drop l.toNat)) = some E')
    (h : G K C0 ⟨E', N, ds⟩ L (wpG F n K.P Q r)) : G K C0 ⟨E, N, ds⟩ L (wpG F n K.P Q ((o, none) :: r)) := by
  refine G_value (by simp [hop]) hd (fun φ w fb a hS hG hF => ?_) h
  obtain ⟨A, c, sz, us, hv, hc, hr, hlies⟩ := lst_row (opS_VV hx hG hF)
  obtain ⟨d, hu, hk⟩ := (hK.facts ht).desc
  have hu' : K.P.underlying t = some (.slice e) := by
    cases d <;> simp [kindIs] at hk
    subst hk; exact hu
  have hsz := (hK.facts he).size w
  -- the bounds' values
  have hhv : hi = none ∧ h' = xs.length ∨ ∃ y k, hi = some y ∧ a.eval y = .int k h' := by
    cases hi with
    | none => simp only [bndS, Option.some.injEq] at hhi; exact .inl ⟨rfl, hhi.symm⟩
    | some y =>
      simp only [bndS] at hhi
      split at hhi
      · rename_i k m hm
        simp only [Option.some.injEq] at hhi
        subst hhi
        have := opS_VV hm hG hF
        simp only [VV] at this
        exact .inr ⟨y, k, rfl, this⟩
      · cases hhi
  have hlv : lo = none ∧ l = 0 ∨ ∃ y k, lo = some y ∧ a.eval y = .int k l := by
    cases lo with
    | none => simp only [bndS, Option.some.injEq] at hlo; exact .inl ⟨rfl, hlo.symm⟩
    | some y =>
      simp only [bndS] at hlo
      split at hlo
      · rename_i k m hm
        simp only [Option.some.injEq] at hlo
        subst hlo
        have := opS_VV hm hG hF
        simp only [VV] at this
        exact .inr ⟨y, k, rfl, this⟩
      · cases hlo
  have hb : (Instr.sliceBounds true xs.length c (lo.map a.eval) (hi.map a.eval) none).run K.P w = .ok (l.toNat, h'.toNat, c) w := by
    have e2 : l ≤ (h'.toNat : Int) := by omega
    have e3 : h' ≤ (c : Int) := by omega
    rcases hhv with ⟨rfl, rfl⟩ | ⟨y, k, rfl, ey⟩ <;> rcases hlv with ⟨rfl, rfl⟩ | ⟨y', k', rfl, ey'⟩
    · simp [Instr.sliceBounds]
    · simp [Instr.sliceBounds, Instr.sliceBound, ey', asIntOf, h0, h1]
    · simp [Instr.sliceBounds, Instr.sliceBound, ey, asIntOf, e3, show (0 : Int) ≤ h' by omega]
    · simp [Instr.sliceBounds, Instr.sliceBound, ey, ey', asIntOf, e3, e2, h0, show (0 : Int) ≤ h' by omega]
      intro hlt
      exact absurd hlt (by omega)
  refine ⟨.slice (if c = l.toNat then A else A.map (·.add (l.toNat * ti.sz))) (h'.toNat - l.toNat) (c - l.toNat), φ, w, ?_, Stp.refl _, hS, ?_⟩
  · have : (Instr.slice t (a.eval x) (lo.map a.eval) (hi.map a.eval) none).run K.P w = .ok (.slice (if c = l.toNat then A else A.map (·.add (l.toNat * ti.sz))) (h'.toNat - l.toNat) (c - l.toNat)) w := by
      rw [hv]
      simp only [Instr.slice, Sem.run_bind, run_underlying hu', Result.andThen_ok]
      simp only [Sem.run_bind, hb, Result.andThen_ok, hsz, Sem.run_pure]
    have hat : (Instr.sliceAt t (a.eval x) (lo.map a.eval) (hi.map a.eval) none).run K.P w = .ok (.slice (if c = l.toNat then A else A.map (·.add (l.toNat * ti.sz))) (h'.toNat - l.toNat) (c - l.toNat)) w := by
      simp only [Instr.sliceAt, Sem.run_bind, run_underlying hu', Result.andThen_ok]
      exact this
    simp only [execOp, hop, Option.map_none, Sem.run_bind, hat, Result.andThen_ok, Sem.run_pure]
  · simp only [VV]
    have hlen : ((xs.take h'.toNat).drop l.toNat).length = h'.toNat - l.toNat := by simp; omega
    by_cases hne : (xs.take h'.toNat).drop l.toNat = []
    · refine ⟨_, _, sz, [], by rw [hlen], by rw [hlen]; omega, by rw [hne]; simp [VErow], fun e => absurd hne e⟩
    · have hxs : xs ≠ [] := fun e => hne (by rw [e]; simp)
      have hlt : l.toNat < c := by
        have : 0 < ((xs.take h'.toNat).drop l.toNat).length := List.length_pos_iff.2 hne
        rw [hlen] at this; omega
      obtain ⟨ad, rfl, hla⟩ := hlies hxs
      -- the elements' size
      have hsize : sz = ti.sz := by
        obtain ⟨y, xs', rfl⟩ := List.exists_cons_of_ne_nil hxs
        obtain ⟨cs, hcs, hcl⟩ := hz y (by simp)
        simp only [VErow] at hr
        obtain ⟨c0, r0, _, ⟨hc0, _⟩, hy, _⟩ := hr
        have := VEs_length (VE_cells hcs hy)
        omega
      subst hsize
      have hrow := VErow_drop l.toNat (VErow_take h'.toNat hr)
      refine ⟨_, _, ti.sz, _, by rw [hlen], by rw [hlen]; omega, hrow, fun _ => ⟨ad.add (l.toNat * ti.sz), by rw [if_neg (by omega)]; rfl, ?_⟩⟩
      refine ⟨?_, by rw [add_block]; exact hla.2.1, fun i u hui => ?_⟩
      · have hsp := hla.1
        unfold Addr.add
        split
        · exact hsp
        · simp [hsp]
      · rw [add_add]
        refine hla.2.2 _ u ?_
        rw [List.getElem?_drop, List.getElem?_take] at hui
        split at hui
        · exact hui
        · cases hui
theorem bndS_agree {dflt : Nat} {b : Option Operand} (h : ∀ x, b = some x → opS K E' x = opS K E x) : bndS K E' dflt b = bndS K E dflt b := by
  cases b with
  | none => rfl
  | some x => simp only [bndS, h x rfl]
theorem Sp_slice (hK : K.Ok) {t e : Nat} {b1 b2 : Nat} {z : List AV} {ti : TI} {x : Operand} {lo hi : Option Operand} {xs : List AV} {l h' : Int} (hop : o.op = .slice t x lo hi none) (ht : K.T t = some ⟨b1, b2, z, .slice e⟩) (he : K.T e = some ti)
    (hx : opS K E x = some (.lst xs)) (hlo : bndS K E 0 lo = some l) (hhi : bndS K E xs.length hi = some h') (h0 : 0 ≤ l) (h1 : l ≤ h') (h2 : h' ≤ xs.length) (hz : ∀ y ∈ xs, ∃ cs, y.cells = some cs ∧ cs.length = ti.sz) (hd : dstB o.dst N = true) :
    SpOk K N (o, none) ⟨slotsOf (x :: (lo.toList ++ hi.toList)), o.dst, .lst ((xs.take h'.toNat).drop l.toNat), [], []⟩ E L := by
  intro C0 ds F _ n Q r E' L' hE hL h
  have ha := opS_agree (K := K) (l := x :: (lo.toList ++ hi.toList)) (fun t ht => ht) hE
  exact G_slice hK hop ht he ((ha x (by simp)).trans hx) ((bndS_agree fun y hy => ha y (by simp [hy])).trans hlo) ((bndS_agree fun y hy => ha y (by simp [hy])).trans hhi) h0 h1 h2 hz (dstB_ok _ hd) h
end
end Go.Asl
/- Small aids. -/
set_option linter.unusedVariables false
namespace Go.Asl
theorem w64 {n : Int} (h1 : -9223372036854775808 ≤ n) (h2 : n ≤ 9223372036854775807) : IntKind.i64.wrap n = n := by rw [IntKind.wrap_i64]; omega
theorem iv {a b : Int} (h : a = b) : AV.int .i64 a = AV.int .i64 b := by rw [h]
theorem bt {p : Prop} [Decidable p] (h : p) : AV.bool (decide p) = AV.bool true := by rw [decide_eq_true h]
theorem bf {p : Prop} [Decidable p] (h : ¬ p) : AV.bool (decide p) = AV.bool false := by rw [decide_eq_false h]
theorem bv {a b : Bool} (h : a = b) : AV.bool a = AV.bool b := by rw [h]
theorem map_get {α : Type} {f : α → AV} {xs : List α} {i : Nat} {x : α} (h : xs[i]? = some x) : (xs.map f)[i]? = some (f x) := by rw [List.getElem?_map, h]; rfl
section
variable {K : Ctx} {C0 : Cfg} {E : List (Nat × AV)} {N : Nat} {ds : Nat × Nat} {L : List (Nat × AObj)} {X : Act → World → Prop}
/-- A slot's integer in other words. -/
theorem G_int {t : Nat} {k : IntKind} {a b : Int} (hv : getE E t = .int k a) (e : a = b) (h : G K C0 ⟨(t, .int k b) :: E, N, ds⟩ L X) : G K C0 ⟨E, N, ds⟩ L X := G_val hv (by rw [e]) h
theorem G_bool {t : Nat} {a b : Bool} (hv : getE E t = .bool a) (e : a = b) (h : G K C0 ⟨(t, .bool b) :: E, N, ds⟩ L X) : G K C0 ⟨E, N, ds⟩ L X := G_val hv (by rw [e]) h
end
/-! ### The rules once more, with the state brought to its constructors -/
def forceN : List Nat → Option (List Nat)
  | [] => some []
  | x :: r => match forceN r with
    | some r' => some (x :: r')
    | none => none
theorem forceN_eq : ∀ {a b : List Nat}, forceN a = some b → b = a
  | [], _, h => by simp only [forceN, Option.some.injEq] at h; exact h.symm
  | x :: r, _, h => by
    simp only [forceN] at h
    split at h
    · rename_i r' hr
      simp only [Option.some.injEq] at h
      rw [← h, forceN_eq hr]
    · cases h
def skP (rs : List Nat) (d : Option Nat) (R W : List Nat) : Option Sk :=
  match forceN rs, d, forceN R, forceN W with
  | some rs', some t, some R', some W' => some ⟨rs', some t, R', W'⟩
  | some rs', none, some R', some W' => some ⟨rs', none, R', W'⟩
  | _, _, _, _ => none
theorem skP_eq {rs : List Nat} {d : Option Nat} {R W : List Nat} {k : Sk} (h : skP rs d R W = some k) : k = ⟨rs, d, R, W⟩ := by
  unfold skP at h
  split at h
  · rename_i h1 h2 h3
    simp only [Option.some.injEq] at h
    rw [← h, forceN_eq h1, forceN_eq h2, forceN_eq h3]
  · rename_i h1 h2 h3
    simp only [Option.some.injEq] at h
    rw [← h, forceN_eq h1, forceN_eq h2, forceN_eq h3]
  · cases h
theorem dstE_dstB {E E' : List (Nat × AV)} {N : Nat} {d : Option Nat} {v : AV} (h : dstE E N d v = some E') : dstB d N = true ∧ putE E d v = E' := by
  cases d with
  | none => simp only [dstE, Option.some.injEq] at h; exact ⟨rfl, h⟩
  | some t =>
    simp only [dstE] at h
    split at h
    · rename_i hb; simp only [Option.some.injEq] at h; exact ⟨hb, h⟩
    · cases h

section
variable {K : Ctx} {C0 : Cfg} {N : Nat} {ds : Nat × Nat} {F : Fence} {n : Nat} {Q : Exit → Act → World → Prop} {ops : Array Oper} {E E' : List (Nat × AV)} {L : List (Nat × AObj)} {o : Oper} {r : List (Oper × Option (Nat × Bool))} {done : List Sk} {k : Sk}
  {X : Act → World → Prop} {g : Option (Nat × Bool)}

theorem G_run [OpenF F] {t : Nat} {b : Bool} (hg : getE E t = .bool b) (ht : Nat.blt t N = true) (hd : dstB o.dst N = true) (h : G K C0 ⟨E, N, ds⟩ L (wpG F n K.P Q ((o, none) :: r))) : G K C0 ⟨E, N, ds⟩ L (wpG F n K.P Q ((o, some (t, b)) :: r)) :=
  G_guard hg (Nat.le_of_ble_eq_true ht) (fun _ => h) (fun e => by cases b <;> cases e) (fun d e => by rw [e] at hd; exact Nat.le_of_ble_eq_true hd)
theorem G_not [OpenF F] {t : Nat} {b c : Bool} (hg : getE E t = .bool c) (hc : c = !b) (ht : Nat.blt t N = true) (hd : dstE E N o.dst (.tup []) = some E') (h : G K C0 ⟨E', N, ds⟩ L (wpG F n K.P Q r)) : G K C0 ⟨E, N, ds⟩ L (wpG F n K.P Q ((o, some (t, b)) :: r)) := by
  obtain ⟨h1, rfl⟩ := dstE_dstB hd
  refine G_guard hg (Nat.le_of_ble_eq_true ht) (fun e => by subst hc; cases b <;> cases e) (fun _ => ?_) (fun d e => by rw [e] at h1; exact Nat.le_of_ble_eq_true h1)
  rw [set_eq]; exact h

/-- Guards: none, or one that is met. -/
def guardS (E : List (Nat × AV)) (N : Nat) : Option (Nat × Bool) → Bool
  | none => true
  | some (t, b) => (match getE E t, b with
    | .bool true, true => true
    | .bool false, false => true
    | _, _ => false) && Nat.blt t N
def guardR : Option (Nat × Bool) → List Nat → List Nat
  | none, rs => rs
  | some (t, _), rs => t :: rs
theorem Sp_guard {s : Sp} (hg : guardS E N g = true) (hd : dstB o.dst N = true) (h : SpOk K N (o, none) s E L) : SpOk K N (o, g) ⟨guardR g s.rs, s.dst, s.v, s.R, s.W⟩ E L := by
  cases g with
  | none => exact h
  | some tb =>
    obtain ⟨t, b⟩ := tb
    simp only [guardS, Bool.and_eq_true] at hg
    refine Sp_run ?_ hg.2 hd h
    revert hg
    cases getE E t <;> cases b <;> simp
    all_goals (rename_i b; cases b <;> simp)

theorem D_of {x : Oper × Option (Nat × Bool)} {rs R : List Nat} {d : Option Nat} {v : AV} {W : List (Nat × AObj)} (hs : SpOk K N x ⟨rs, d, v, R, W⟩ E L) (hk : skP rs d R (W.map (·.1)) = some k) (hd : dstE E N d v = some E') (h : DrawG K C0 N ds ops (done ++ [k]) r E' (W ++ L) X) :
    DrawG K C0 N ds ops done (x :: r) E L X := by
  obtain ⟨_, e⟩ := dstE_dstB hd
  refine D_sp hs ?_
  have : (Sp.mk rs d v R W).sk = k := (skP_eq hk).symm
  rw [this]
  show DrawG K C0 N ds ops (done ++ [k]) r (putE E d v) (W ++ L) X
  rw [e]; exact h

theorem D_pure (hK : K.Ok) {v : AV} (hg : guardS E N g = true) (hv : evalS K E L o.op = some v) (hd : dstE E N o.dst v = some E') (hk : skP (guardR g (slotsOf o.op.operands.toList)) o.dst (rdN (opd K ⟨E, 0, (0, 0)⟩) o.op) [] = some k)
    (h : DrawG K C0 N ds ops (done ++ [k]) r E' L X) : DrawG K C0 N ds ops done ((o, g) :: r) E L X :=
  D_of (Sp_guard hg (dstE_dstB hd).1 (Sp_pure hK hv (dstE_dstB hd).1)) hk hd h
theorem D_not {t : Nat} {b c : Bool} (hg : getE E t = .bool c) (hc : c = !b) (ht : Nat.blt t N = true) (hd : dstE E N o.dst (.tup []) = some E') (hk : skP [t] o.dst [] [] = some k) (h : DrawG K C0 N ds ops (done ++ [k]) r E' L X) : DrawG K C0 N ds ops done ((o, some (t, b)) :: r) E L X :=
  D_of (Sp_not hg hc ht (dstE_dstB hd).1) hk hd h
theorem D_none {t : Nat} {b : Bool} (hg : getE E t = .tup []) (ht : Nat.blt t N = true) (hd : dstE E N o.dst (.tup []) = some E') (hk : skP [t] o.dst [] [] = some k) (h : DrawG K C0 N ds ops (done ++ [k]) r E' L X) : DrawG K C0 N ds ops done ((o, some (t, b)) :: r) E L X :=
  D_of (Sp_none hg ht (dstE_dstB hd).1) hk hd h
theorem G_gnone [OpenF F] {t : Nat} {b : Bool} (hg : getE E t = .tup []) (ht : Nat.blt t N = true) (hd : dstE E N o.dst (.tup []) = some E') (h : G K C0 ⟨E', N, ds⟩ L (wpG F n K.P Q r)) : G K C0 ⟨E, N, ds⟩ L (wpG F n K.P Q ((o, some (t, b)) :: r)) := by
  obtain ⟨h1, rfl⟩ := dstE_dstB hd
  refine G_guard_none hg (Nat.le_of_ble_eq_true ht) ?_ (fun d e => by rw [e] at h1; exact Nat.le_of_ble_eq_true h1)
  rw [set_eq]; exact h
theorem D_alloc (hK : K.Ok) {t : Nat} {ti : TI} (m : Nat) (hg : guardS E N g = true) (hop : o.op = .alloc t) (ht : K.T t = some ti) (hm : getS L m = .free) (hd : dstE E N o.dst (.ptr m 0) = some E') (hk : skP (guardR g []) o.dst [m] [m] = some k)
    (h : DrawG K C0 N ds ops (done ++ [k]) r E' ((m, .box ti.zero) :: L) X) : DrawG K C0 N ds ops done ((o, g) :: r) E L X :=
  D_of (Sp_guard hg (dstE_dstB hd).1 (Sp_alloc hK m hop ht hm (dstE_dstB hd).1)) hk hd h
theorem D_box (hK : K.Ok) {t : Nat} {x : Operand} {a0 : AV} {cs : List AV} (m : Nat) (hg : guardS E N g = true) (hop : o.op = .box t x) (hx : opS K E x = some a0) (hcs : a0.cells = some cs) (hm : getS L m = .free) (hd : dstE E N o.dst (.ptr m 0) = some E') (hk : skP (guardR g (slotsOf [x])) o.dst [m] [m] = some k)
    (h : DrawG K C0 N ds ops (done ++ [k]) r E' ((m, .box cs) :: L) X) : DrawG K C0 N ds ops done ((o, g) :: r) E L X :=
  D_of (Sp_guard hg (dstE_dstB hd).1 (Sp_box hK m hop hx hcs hm (dstE_dstB hd).1)) hk hd h
theorem D_store (hK : K.Ok) {t : Nat} {ti : TI} {p x : Operand} {m off : Nat} {cs xs : List AV} {a0 : AV} (hg : guardS E N g = true) (hop : o.op = .store t p x) (ht : K.T t = some ti)
    (hp : opS K E p = some (.ptr m off)) (hx : opS K E x = some a0) (hxs : a0.cells = some xs) (hm : getS L m = .box cs)
    (hc : (Nat.beq xs.length ti.sz && Nat.ble (off + ti.sz) cs.length && xs.all flat) = true) (hd : dstE E N o.dst .undef = some E') (hk : skP (guardR g (slotsOf [p, x])) o.dst [m] [m] = some k)
    (h : DrawG K C0 N ds ops (done ++ [k]) r E' ((m, .box (putAt cs off xs)) :: L) X) : DrawG K C0 N ds ops done ((o, g) :: r) E L X :=
  D_of (Sp_guard hg (dstE_dstB hd).1 (Sp_store hK hop ht hp hx hxs hm hc (dstE_dstB hd).1)) hk hd h
theorem D_index_lst (hK : K.Ok) {t e : Nat} {b1 b2 : Nat} {z : List AV} {ti : TI} {x i : Operand} {xs cs : List AV} {kk : IntKind} {j : Int} (y : AV) (hg : guardS E N g = true) (hop : o.op = .indexAddr t x i)
    (ht : K.T t = some ⟨b1, b2, z, .slice e⟩) (he : K.T e = some ti) (hx : opS K E x = some (.lst xs)) (hi : opS K E i = some (.int kk j))
    (hy : xs[j.toNat]? = some y) (hj : 0 ≤ j) (hcs : y.cells = some cs) (hl : Nat.beq cs.length ti.sz = true) (hd : dstE E N o.dst (.rptr y 0) = some E') (hk : skP (guardR g (slotsOf [x, i])) o.dst [] [] = some k)
    (h : DrawG K C0 N ds ops (done ++ [k]) r E' L X) : DrawG K C0 N ds ops done ((o, g) :: r) E L X :=
  D_of (Sp_guard hg (dstE_dstB hd).1 (Sp_index_lst hK y hop ht he hx hi hy hj hcs hl (dstE_dstB hd).1)) hk hd h
theorem D_index_own (hK : K.Ok) {t e : Nat} {b1 b2 : Nat} {z : List AV} {ti : TI} {x i : Operand} {xs : List AV} {kk : IntKind} {j : Int} {m e' sz : Nat} (hg : guardS E N g = true) (hop : o.op = .indexAddr t x i)
    (ht : K.T t = some ⟨b1, b2, z, .slice e⟩) (he : K.T e = some ti) (hx : opS K E x = some (.own m)) (hi : opS K E i = some (.int kk j)) (hm : getS L m = .arr e' sz xs) (hsz : Nat.beq sz ti.sz = true)
    (hj : 0 ≤ j) (hlt : j < xs.length) (hd : dstE E N o.dst (.eptr m sz j.toNat 0) = some E') (hk : skP (guardR g (slotsOf [x, i])) o.dst [m] [] = some k)
    (h : DrawG K C0 N ds ops (done ++ [k]) r E' L X) : DrawG K C0 N ds ops done ((o, g) :: r) E L X :=
  D_of (Sp_guard hg (dstE_dstB hd).1 (Sp_index_own hK hop ht he hx hi hm hsz hj hlt (dstE_dstB hd).1)) hk hd h
theorem D_load_elem (hK : K.Ok) {t : Nat} {ti : TI} {p : Operand} {m sz i off e' : Nat} {xs cs : List AV} {y v v' : AV} (hg : guardS E N g = true) (hop : o.op = .load t p) (ht : K.T t = some ti)
    (hp : opS K E p = some (.eptr m sz i off)) (hm : getS L m = .arr e' sz xs) (hy : xs[i]? = some y) (hcs : y.cells = some cs) (hv : cellsAt ti cs off = some v') (hv' : force v' = some v) (hd : dstE E N o.dst v = some E') (hk : skP (guardR g (slotsOf [p])) o.dst [m] [] = some k)
    (h : DrawG K C0 N ds ops (done ++ [k]) r E' L X) : DrawG K C0 N ds ops done ((o, g) :: r) E L X :=
  D_of (Sp_guard hg (dstE_dstB hd).1 (Sp_load_elem hK hop ht hp hm hy hcs hv hv' (dstE_dstB hd).1)) hk hd h
theorem D_lit (hK : K.Ok) {t e : Nat} {b1 b2 : Nat} {z : List AV} {ti : TI} {len : Nat} {parts : Array (Nat × Operand)} {ys : List AV} (m : Nat) (hg : guardS E N g = true) (hop : o.op = .buildSlice t len parts)
    (ht : K.T t = some ⟨b1, b2, z, .slice e⟩) (he : K.T e = some ti) (hys : partsS K E ti.sz parts.toList 0 = some ys) (hlen : (Nat.beq parts.toList.length len && Nat.ble (len * ti.sz) 16777216 && Nat.blt 0 ti.sz) = true) (hm : getS L m = .free) (hd : dstE E N o.dst (.own m) = some E')
    (hk : skP (guardR g (slotsOf (parts.toList.map (·.2)))) o.dst [m] [m] = some k)
    (h : DrawG K C0 N ds ops (done ++ [k]) r E' ((m, .arr e ti.sz ys) :: L) X) : DrawG K C0 N ds ops done ((o, g) :: r) E L X :=
  D_of (Sp_guard hg (dstE_dstB hd).1 (Sp_lit hK m hop ht he hys hlen hm (dstE_dstB hd).1)) hk hd h
theorem D_append (hK : K.Ok) {t e : Nat} {b1 b2 : Nat} {z : List AV} {ti : TI} {s x : Operand} {c : Call} {xs ys : List AV} {y0 : AV} {m e' sz : Nat} (m' : Nat) (hg : guardS E N g = true) (hop : o.op = .call c) (c1 : c.callee = .builtin .append) (c2 : c.args.toList = [s, x]) (c3 : c.argTypes.toList = [t, t])
    (ht : K.T t = some ⟨b1, b2, z, .slice e⟩) (he : K.T e = some ti) (hs : opS K E s = some (.own m)) (hm : getS L m = .arr e' sz xs) (hx : opS K E x = some y0) (hys : sliceOf (getS L) sz y0 = some ys)
    (hz : ∀ zs, y0 = .lst zs → ∀ y ∈ zs, ∃ cs, y.cells = some cs ∧ cs.length = sz) (hc : (Nat.beq e' e && Nat.beq sz ti.sz && Nat.blt 0 sz) = true) (hb : (xs.length + ys.length) * (ti.bytes + 1) ≤ 140737488355328) (hm' : getS L m' = .free) (hd : dstE E N o.dst (.own m') = some E')
    (hk : skP (guardR g (slotsOf [s, x])) o.dst (m' :: m :: nmOf y0) [m', m] = some k)
    (h : DrawG K C0 N ds ops (done ++ [k]) r E' ((m', .arr e sz (xs ++ ys)) :: (m, .dead) :: L) X) : DrawG K C0 N ds ops done ((o, g) :: r) E L X :=
  D_of (Sp_guard hg (dstE_dstB hd).1 (Sp_append hK m' hop c1 c2 c3 ht he hs hm hx hys hz hc hb hm' (dstE_dstB hd).1)) hk hd h
theorem D_call {c : Call} {x : Operand} {f : Nat} {first caps as : List AV} {v : AV} (hg : guardS E N g = true) (hop : o.op = .call c) (hc : c.callee = .value x) (hx : opS K E x = some (.fn f first caps)) (has : argsS K E c.args.toList = some as)
    (hf : FnP K f (first ++ (as ++ caps)) v) (hb : bareL (first ++ (as ++ caps)) = true) (hr : bareB v = true) (hd : dstE E N o.dst v = some E') (hk : skP (guardR g (slotsOf (x :: c.args.toList))) o.dst [] [] = some k)
    (h : DrawG K C0 N ds ops (done ++ [k]) r E' L X) : DrawG K C0 N ds ops done ((o, g) :: r) E L X :=
  D_of (Sp_guard hg (dstE_dstB hd).1 (Sp_call hop hc hx has hf hb hr (dstE_dstB hd).1)) hk hd h
theorem D_eqS (hK : K.Ok) (neg : Bool) {op : BinOp} {t u : TypeId} {x y : Operand} {b1 b2 : Nat} {z cs es : List AV} {fs : List (Nat × Nat)} {v : Bool} (hg : guardS E N g = true) (hop : o.op = .binOp op t x y u) (hneg : op = (if neg then .neq else .eql)) (ht : K.T t = some ⟨b1, b2, z, .struct fs⟩)
    (hx : opS K E x = some (.agg cs)) (hy : opS K E y = some (.agg es)) (hv : eqFs K cs es fs = some v) (hp : eqPlain K.P t = true) (hd : dstE E N o.dst (.bool (neg != v)) = some E') (hk : skP (guardR g (slotsOf [x, y])) o.dst [] [] = some k)
    (h : DrawG K C0 N ds ops (done ++ [k]) r E' L X) : DrawG K C0 N ds ops done ((o, g) :: r) E L X :=
  D_of (Sp_guard hg (dstE_dstB hd).1 (Sp_eqS hK neg hop hneg ht hx hy hv hp (dstE_dstB hd).1)) hk hd h

/-- A pure call, in the order of the text. -/
theorem G_callP [OpenF F] {c : Call} {x : Operand} {f : Nat} {first caps as : List AV} {v : AV} (hop : o.op = .call c) (hc : c.callee = .value x) (hx : opS K E x = some (.fn f first caps)) (has : argsS K E c.args.toList = some as)
    (hf : FnP K f (first ++ (as ++ caps)) v) (hb : bareL (first ++ (as ++ caps)) = true) (hr : bareB v = true) (hd : dstE E N o.dst v = some E') (h : G K C0 ⟨E', N, ds⟩ L (wpG F n K.P Q r)) : G K C0 ⟨E, N, ds⟩ L (wpG F n K.P Q ((o, none) :: r)) :=
  G_call hop hc hx has (hf.use hb hr ⟨E', hd, h⟩)
end
end Go.Asl
/- Splits. -/
set_option linter.unusedVariables false
namespace Go.Asl
section
variable {K : Ctx} {C0 : Cfg} {N : Nat} {ds : Nat × Nat} {F : Fence} {n : Nat} {Q : Exit → Act → World → Prop} {ops : Array Oper} {E E' : List (Nat × AV)} {L : List (Nat × AObj)} {o : Oper} {r : List (Oper × Option (Nat × Bool))} {done : List Sk} {k : Sk}
  {X : Act → World → Prop} {g : Option (Nat × Bool)}
/-- A guard that is not told: both ways. -/
theorem G_split {t : Nat} {b c : Bool} (hg : getE E t = .bool c) (h1 : c = true → G K C0 ⟨(t, .bool true) :: E, N, ds⟩ L (wpG F n K.P Q ((o, some (t, b)) :: r))) (h2 : c = false → G K C0 ⟨(t, .bool false) :: E, N, ds⟩ L (wpG F n K.P Q ((o, some (t, b)) :: r))) :
    G K C0 ⟨E, N, ds⟩ L (wpG F n K.P Q ((o, some (t, b)) :: r)) := by
  cases hc : c with
  | true => exact G_bool hg hc (h1 hc)
  | false => exact G_bool hg hc (h2 hc)
theorem D_split {t : Nat} {b c : Bool} (hg : getE E t = .bool c) (h1 : c = true → DrawG K C0 N ds ops done ((o, some (t, b)) :: r) ((t, .bool true) :: E) L X) (h2 : c = false → DrawG K C0 N ds ops done ((o, some (t, b)) :: r) ((t, .bool false) :: E) L X) :
    DrawG K C0 N ds ops done ((o, some (t, b)) :: r) E L X := by
  cases hc : c with
  | true => exact D_val hg (by rw [hc]) (h1 hc)
  | false => exact D_val hg (by rw [hc]) (h2 hc)
theorem D_bool {t : Nat} {a b : Bool} (hv : getE E t = .bool a) (e : a = b) (h : DrawG K C0 N ds ops done r ((t, .bool b) :: E) L X) : DrawG K C0 N ds ops done r E L X := D_val hv (by rw [e]) h
theorem D_int {t : Nat} {kk : IntKind} {a b : Int} (hv : getE E t = .int kk a) (e : a = b) (h : DrawG K C0 N ds ops done r ((t, .int kk b) :: E) L X) : DrawG K C0 N ds ops done r E L X := D_val hv (by rw [e]) h
theorem G_retn {fn : Func} {R : AV → List (Nat × AObj) → Prop} {lo : Nat} (hK : K.Ok) {vs : List AV} (hr : resS K E L fn.results.toList = some vs) (h : R (resV vs) L) : G K C0 ⟨E, N, (lo, 0)⟩ L (Code.ret.wpIn F n K.P (bodyPostM F n K.P fn (RetPost C0 R))) :=
  G_ret (G_leave (G_return hK hr h))
/-- A row of one's own in other words. -/
theorem G_arr {t e sz : Nat} {ys ys' : List AV} (hv : getS L t = .arr e sz ys) (hy : ys = ys') (h : G K C0 ⟨E, N, ds⟩ ((t, .arr e sz ys') :: L) X) : G K C0 ⟨E, N, ds⟩ L X := G_obj hv (by rw [hy]) h
theorem G_cells {t : Nat} {ys ys' : List AV} (hv : getS L t = .box ys) (hy : ys = ys') (h : G K C0 ⟨E, N, ds⟩ ((t, .box ys') :: L) X) : G K C0 ⟨E, N, ds⟩ L X := G_obj hv (by rw [hy]) h
/-- A nil slice as a list without elements. -/
theorem G_lst_nil {t : Nat} (ht : getE E t = .nils) (h : G K C0 ⟨(t, .lst []) :: E, N, ds⟩ L X) : G K C0 ⟨E, N, ds⟩ L X := fun φ w fb a h1 h2 h3 h4 => by
  refine h φ w fb a h1 h2 h3 ⟨h4.size, fun u => ?_, h4.ds⟩
  show VV _ (getE ((t, .lst []) :: E) u) _
  rw [getE_cons]
  split
  · rename_i e
    subst e
    have := h4.val u
    rw [show getE (Fr.mk E N ds).E u = _ from ht] at this
    simp only [VV] at this ⊢
    exact ⟨none, 0, 1, [], this, Nat.le_refl _, rfl, fun e => absurd rfl e⟩
  · exact h4.val u
/-- A call with a contract on objects, in a drawn region. -/
theorem D_callS {c : Call} {x : Operand} {f : Nat} {first caps as args : List AV} {v0 v : AV} {L0 L1 : List (Nat × AObj)} (rs : List (Nat × Nat)) (hf : FnS K f args L0 v0 L1) (hg : guardS E N g = true) (hop : o.op = .call c) (hc : c.callee = .value x) (hx : opS K E x = some (.fn f first caps)) (has : argsS K E c.args.toList = some as)
    (hargs : first ++ (as ++ caps) = renL (getR rs) args) (ho : AllO (getR rs) L L0 L0) (ha : okL (kB (getS L0)) args = true)
    (hn : AllN (getR rs) L L0 (keysL L1)) (hi : (injN (getR rs) (keysL L1) && injN (getR rs) (keysL L0) && okS L1 L1 && okA (kB (getS L1)) v0) = true) (hv : force (ren (getR rs) v0) = some v) (hd : dstE E N o.dst v = some E')
    (hk : skP (guardR g (slotsOf (x :: c.args.toList))) o.dst ((keysL L0 ++ keysL L1).map (getR rs)) ((renS (getR rs) L1).map (·.1)) = some k)
    (h : DrawG K C0 N ds ops (done ++ [k]) r E' (renS (getR rs) L1 ++ L) X) : DrawG K C0 N ds ops done ((o, g) :: r) E L X := by
  have e := force_eq hv
  subst e
  exact D_of (Sp_guard hg (dstE_dstB hd).1 (Sp_callS rs hop hc hx has hf hargs ho ha hn hi (dstE_dstB hd).1)) hk hd h
theorem G_callS [OpenF F] {c : Call} {x : Operand} {f : Nat} {first caps as args : List AV} {v0 v : AV} {L0 L1 : List (Nat × AObj)} (rs : List (Nat × Nat)) (hf : FnS K f args L0 v0 L1) (hop : o.op = .call c) (hc : c.callee = .value x) (hx : opS K E x = some (.fn f first caps)) (has : argsS K E c.args.toList = some as)
    (hargs : first ++ (as ++ caps) = renL (getR rs) args) (ho : AllO (getR rs) L L0 L0) (ha : okL (kB (getS L0)) args = true)
    (hn : AllN (getR rs) L L0 (keysL L1)) (hi : (injN (getR rs) (keysL L1) && injN (getR rs) (keysL L0) && okS L1 L1 && okA (kB (getS L1)) v0) = true) (hv : force (ren (getR rs) v0) = some v) (hd : dstE E N o.dst v = some E')
    (h : G K C0 ⟨E', N, ds⟩ (renS (getR rs) L1 ++ L) (wpG F n K.P Q r)) : G K C0 ⟨E, N, ds⟩ L (wpG F n K.P Q ((o, none) :: r)) := by
  have e := force_eq hv
  subst e
  obtain ⟨h1, h2⟩ := dstE_dstB hd
  refine G_sp (Sp_callS rs hop hc hx has hf hargs ho ha hn hi h1) ?_
  show G K C0 ⟨putE E o.dst _, N, ds⟩ (renS (getR rs) L1 ++ L) _
  rw [h2]
  exact h
end
end Go.Asl
/- Contracts on a slice of one's own, called with nil. -/
set_option linter.unusedVariables false
namespace Go.Asl
theorem VVs_split {C : VC} : ∀ {as bs : List AV} {us : List Value}, VVs C (as ++ bs) us → ∃ u1 u2, us = u1 ++ u2 ∧ VVs C as u1 ∧ VVs C bs u2
  | [], bs, us, h => ⟨[], us, rfl, rfl, h⟩
  | a :: as, bs, us, h => by
    simp only [List.cons_append, VVs] at h
    obtain ⟨v, r, rfl, h1, h2⟩ := h
    obtain ⟨u1, u2, rfl, h3, h4⟩ := VVs_split h2
    exact ⟨v :: u1, u2, rfl, ⟨v, u1, rfl, h1, h3⟩, h4⟩
theorem FnT.own_nil {K : Ctx} {f : Nat} {pre post : List AV} {L : List (Nat × AObj)} {R : AV → List (Nat × AObj) → Prop} (m e sz : Nat) (h : FnT K f (pre ++ .own m :: post) ((m, .arr e sz []) :: L) R) (hm : getS L m = .free) : FnT K f (pre ++ .nils :: post) L R := by
  refine ⟨h.ent, fun φ w fb vs h1 h2 h3 => ?_⟩
  obtain ⟨k1, k2⟩ := h1.new (w' := w) hm (.slice none 0 0) (.arr e sz []) rfl ⟨rfl, rfl, rfl, Nat.le_refl _, fun _ _ _ => rfl⟩ (fun b hb => by simp [blk] at hb) (fun hs => by
    refine ⟨[], ?_, by simp [VErow]⟩
    refine ⟨by simp, .inl ⟨by simp [upd_same], rfl⟩⟩)
  obtain ⟨u1, u2, rfl, g1, g2⟩ := VVs_split h3
  simp only [VVs] at g2
  obtain ⟨v, r, rfl, g3, g4⟩ := g2
  simp only [VV] at g3
  have hv : VVs (Cfg.v ⟨upd φ m (.slice none 0 0), getS ((m, .arr e sz []) :: L), w, fb⟩) (pre ++ .own m :: post) (u1 ++ v :: r) := by
    refine VVs_append (VVs.step k1.v g1) ⟨v, r, rfl, ?_, VVs.step k1.v g4⟩
    simp only [VV]
    refine ⟨?_, ⟨none, 0, 0, upd_same _ _ _⟩, by rw [g3]; exact (upd_same _ _ _).symm⟩
    show (getS ((m, .arr e sz []) :: L) m).known = true
    rw [getS_cons, if_pos rfl]; rfl
  refine calls_mono (h.calls _ w fb _ k2 (h2.step k1) hv) ?_
  rintro e w' ⟨u, x, φ', M, fb', a, b, c, d, hR⟩
  exact ⟨u, x, φ', M, fb', a, k1.trans b, c, d, hR⟩
end Go.Asl
/- One rule for the operations that are told by the state alone. -/
set_option linter.unusedVariables false
set_option linter.unusedSimpArgs false
namespace Go.Asl
open Go.RowKit
def nameList : List Nat := [0, 1, 2, 3, 4, 5, 6, 7, 8, 9, 10, 11, 12, 13, 14, 15, 16, 17, 18, 19, 20, 21, 22, 23, 24, 25, 26, 27, 28, 29, 30, 31, 32, 33, 34, 35, 36, 37, 38, 39, 40, 41, 42, 43, 44, 45, 46, 47, 48, 49, 50, 51, 52, 53, 54, 55, 56, 57, 58, 59]
/-- A name that nothing has. -/
def freeOf (L : List (Nat × AObj)) : List Nat → Option Nat
  | [] => none
  | m :: r => match getS L m with
    | .free => some m
    | _ => freeOf L r
theorem freeOf_free {L : List (Nat × AObj)} : ∀ {l : List Nat} {m : Nat}, freeOf L l = some m → getS L m = .free
  | [], m, h => by simp [freeOf] at h
  | k :: r, m, h => by
    simp only [freeOf] at h
    split at h
    · rename_i e; cases h; exact e
    · exact freeOf_free h
structure Ef where
  rs : List Nat
  v : AV
  R : List Nat
  W : List (Nat × AObj)
def pureE (K : Ctx) (E : List (Nat × AV)) (L : List (Nat × AObj)) (o : Op) : Option Ef :=
  match evalS K E L o with
  | some v => some ⟨slotsOf o.operands.toList, v, rdN (opd K ⟨E, 0, (0, 0)⟩) o, []⟩
  | none => none
def remE (K : Ctx) (E : List (Nat × AV)) (op : BinOp) (x y : Operand) : Option Ef :=
  match opS K E x, opS K E y with
  | some (.int k p), some (.int k' q) => match decide (k' = k), decide (q = 0) with
    | true, false => match op with
      | .rem => some ⟨slotsOf [x, y], .int k (p.tmod q), [], []⟩
      | .quo => some ⟨slotsOf [x, y], .int k (k.wrap (p.tdiv q)), [], []⟩
      | _ => none
    | _, _ => none
  | _, _ => none
def opE (K : Ctx) (E : List (Nat × AV)) (L : List (Nat × AObj)) (o : Op) : Option Ef :=
  match o with
  | .alloc t => match K.T t, freeOf L nameList with
    | some ti, some m => some ⟨[], .ptr m 0, [m], [(m, .box ti.zero)]⟩
    | _, _ => none
  | .box t x => match opS K E x, freeOf L nameList with
    | some a0, some m => match a0.cells with
      | some cs => some ⟨slotsOf [x], .ptr m 0, [m], [(m, .box cs)]⟩
      | none => none
    | _, _ => none
  | .store t p x => match K.T t, opS K E p, opS K E x with
    | some ti, some (.ptr m off), some a0 => match a0.cells, getS L m with
      | some xs, .box cs => match Nat.beq xs.length ti.sz && Nat.ble (off + ti.sz) cs.length && xs.all flat with
        | true => some ⟨slotsOf [p, x], .undef, [m], [(m, .box (putAt cs off xs))]⟩
        | false => none
      | _, _ => none
    | some ti, some (.eptr m sz i off), some a0 => match a0.cells, getS L m with
      | some vs, .arr e' sz' xs => match xs[i]? with
        | some y => match y.cells, putElem y off vs with
          | some cs, some y' => match Nat.beq sz' sz && (Nat.beq vs.length ti.sz && Nat.ble (off + ti.sz) cs.length && vs.all flat && bareL vs && (isRowK ti.kind || Nat.beq cs.length 1 || true)) with
            | true => some ⟨slotsOf [p, x], .undef, [m], [(m, .arr e' sz (xs.set i y'))]⟩
            | false => none
          | _, _ => none
        | none => none
      | _, _ => none
    | _, _, _ => none
  | .buildSlice t len parts => match K.T t with
    | some ⟨_, _, _, .slice e⟩ => match K.T e with
      | some ti => match partsS K E ti.sz parts.toList 0 with
        | some ys => match Nat.beq parts.toList.length len && Nat.ble (len * ti.sz) 16777216 && Nat.blt 0 ti.sz, freeOf L nameList with
          | true, some m => some ⟨slotsOf (parts.toList.map (·.2)), .own m, [m], [(m, .arr e ti.sz ys)]⟩
          | _, _ => none
        | none => none
      | none => none
    | _ => none
  | .indexAddr t x i => match K.T t with
    | some ⟨_, _, _, .slice e⟩ => match K.T e, opS K E x, opS K E i with
      | some ti, some (.lst xs), some (.int k (.ofNat j)) => match xs[j]? with
        | some y => match y.cells with
          | some cs => match Nat.beq cs.length ti.sz with
            | true => some ⟨slotsOf [x, i], .rptr y 0, [], []⟩
            | false => none
          | none => none
        | none => none
      | some ti, some (.own m), some (.int k (.ofNat j)) => match getS L m with
        | .arr e' sz xs => match Nat.beq sz ti.sz, Nat.blt j xs.length with
          | true, true => some ⟨slotsOf [x, i], .eptr m sz j 0, [m], []⟩
          | _, _ => none
        | _ => none
      | _, _, _ => none
    | _ => pureE K E L (.indexAddr t x i)
  | .load t p => match opS K E p with
    | some (.eptr m sz i off) => match K.T t, getS L m with
      | some ti, .arr e' sz' xs => match Nat.beq sz' sz, xs[i]? with
        | true, some y => match y.cells with
          | some cs => match cellsAt ti cs off with
            | some v' => match force v' with
              | some v => some ⟨slotsOf [p], v, [m], []⟩
              | none => none
            | none => none
          | none => none
        | _, _ => none
      | _, _ => none
    | _ => pureE K E L (.load t p)
  | .binOp .rem t x y u => remE K E .rem x y
  | .binOp .quo t x y u => remE K E .quo x y
  | o => pureE K E L o
def forceO : AObj → Option AObj
  | .free => some .free
  | .dead => some .dead
  | .box cs => match forceL cs with
    | some cs' => some (.box cs')
    | none => none
  | .arr e sz xs => some (.arr e sz xs)
  | .mp es => some (.mp es)
  | .loop E N ps asg body st pe => some (.loop E N ps asg body st pe)
theorem forceO_eq : ∀ {a b : AObj}, forceO a = some b → b = a
  | .free, b, h => by simp [forceO] at h; exact h.symm
  | .dead, b, h => by simp [forceO] at h; exact h.symm
  | .box cs, b, h => by
    simp only [forceO] at h
    split at h
    · rename_i e; cases h; rw [forceL_eq e]
    · cases h
  | .arr .., b, h => by simp [forceO] at h; exact h.symm
  | .mp _, b, h => by simp [forceO] at h; exact h.symm
  | .loop .., b, h => by simp [forceO] at h; exact h.symm
def forceW : List (Nat × AObj) → Option (List (Nat × AObj))
  | [] => some []
  | (k, o) :: r => match forceO o, forceW r with
    | some o', some r' => some ((k, o') :: r')
    | _, _ => none
theorem forceW_eq : ∀ {a b : List (Nat × AObj)}, forceW a = some b → b = a
  | [], b, h => by simp [forceW] at h; first | exact h | exact h.symm
  | (k, o) :: r, b, h => by
    simp only [forceW] at h
    split at h
    · rename_i e1 e2; cases h; rw [forceO_eq e1, forceW_eq e2]
    · cases h
variable {K : Ctx} {N : Nat} {E : List (Nat × AV)} {L : List (Nat × AObj)} {o : Oper}
theorem pureE_ok (hK : K.Ok) {op : Op} (hop : o.op = op) {s : Ef} (h : pureE K E L op = some s) (hd : dstB o.dst N = true) : SpOk K N (o, none) ⟨s.rs, o.dst, s.v, s.R, s.W⟩ E L := by
  subst hop
  unfold pureE at h
  split at h
  · rename_i v hv
    cases h
    exact Sp_pure hK hv hd
  · cases h
theorem remE_ok {op : BinOp} {t u : TypeId} {x y : Operand} (hop : o.op = .binOp op t x y u) {s : Ef} (h : remE K E op x y = some s) (hd : dstB o.dst N = true) : SpOk K N (o, none) ⟨s.rs, o.dst, s.v, s.R, s.W⟩ E L := by
  unfold remE at h
  split at h
  · rename_i k p k' q hx hy
    split at h
    · rename_i e1 e2
      have e1 := of_decide_eq_true e1
      have e2 := of_decide_eq_false e2
      subst e1
      split at h
      · cases h; exact Sp_rem hop hx hy e2 hd
      · cases h; exact Sp_quo hop hx hy e2 hd
      · cases h
    · cases h
  · cases h
theorem opE_ok (hK : K.Ok) {op : Op} (hop : o.op = op) {s : Ef} (h : opE K E L op = some s) (hd : dstB o.dst N = true) : SpOk K N (o, none) ⟨s.rs, o.dst, s.v, s.R, s.W⟩ E L := by
  unfold opE at h
  split at h
  · split at h
    · rename_i ti m ht hm; cases h; exact Sp_alloc hK _ hop ht (freeOf_free hm) hd
    · cases h
  · split at h
    · rename_i a0 m hx hm
      split at h
      · rename_i hcs; cases h; exact Sp_box hK _ hop hx hcs (freeOf_free hm) hd
      · cases h
    · cases h
  · split at h
    · rename_i ti m off a0 ht hp hx
      split at h
      · rename_i xs cs hxs hm
        split at h
        · rename_i hc; cases h; exact Sp_store hK hop ht hp hx hxs hm hc hd
        · cases h
      · cases h
    · rename_i ti m sz i off a0 ht hp hx
      split at h
      · rename_i vs e' sz' xs hvs hm
        split at h
        · rename_i y hy
          split at h
          · rename_i cs y' hcs hy'
            split at h
            · rename_i hc
              rw [Bool.and_eq_true] at hc
              have := Nat.eq_of_beq_eq_true hc.1
              subst this
              cases h; exact Sp_store_elem hK hop ht hp hm hy hcs hx hvs hy' hc.2 hd
            · cases h
          · cases h
        · cases h
      · cases h
    · cases h
  · split at h
    · rename_i e ht
      split at h
      · rename_i ti he
        split at h
        · rename_i ys hys
          split at h
          · rename_i hlen hm; cases h; exact Sp_lit hK _ hop ht he hys hlen (freeOf_free hm) hd
          · cases h
        · cases h
      · cases h
    · cases h
  · split at h
    · rename_i e ht
      split at h
      · rename_i ti xs k j he hx hi
        split at h
        · rename_i y hy
          split at h
          · rename_i cs hcs
            split at h
            · rename_i hl; cases h; exact Sp_index_lst hK y hop ht he hx hi (by simpa using hy) (by simp) hcs hl hd
            · cases h
          · cases h
        · cases h
      · rename_i ti m k j he hx hi
        split at h
        · rename_i e' sz xs hm
          split at h
          · rename_i hsz hlt
            cases h
            have hlt : j < xs.length := by simp [Nat.blt] at hlt; omega
            exact Sp_index_own hK (j := Int.ofNat j) hop ht he hx hi hm hsz (by simp) (by simpa using hlt) hd
          · cases h
        · cases h
      · cases h
    · exact pureE_ok hK hop h hd
  · split at h
    · rename_i m sz i off hp
      split at h
      · rename_i ti e' sz' xs ht hm
        split at h
        · rename_i y hsz hy
          split at h
          · rename_i cs hcs
            split at h
            · rename_i v' hv
              split at h
              · rename_i v hv'
                have := Nat.eq_of_beq_eq_true hsz
                subst this
                cases h; exact Sp_load_elem hK hop ht hp hm hy hcs hv hv' hd
              · cases h
            · cases h
          · cases h
        · cases h
      · cases h
    · exact pureE_ok hK hop h hd
  · exact remE_ok hop h hd
  · exact remE_ok hop h hd
  · exact pureE_ok hK hop h hd
/-- An operation with its guard, the state behind it. -/
def stE (K : Ctx) (N : Nat) (E : List (Nat × AV)) (L : List (Nat × AObj)) : Oper × Option (Nat × Bool) → Option Ef
  | (o, none) => opE K E L o.op
  | (o, some (t, b)) => match getE E t with
    | .bool true => match b with
      | true => match opE K E L o.op with
        | some s => some ⟨t :: s.rs, s.v, s.R, s.W⟩
        | none => none
      | false => some ⟨[t], .tup [], [], []⟩
    | .bool false => match b with
      | false => match opE K E L o.op with
        | some s => some ⟨t :: s.rs, s.v, s.R, s.W⟩
        | none => none
      | true => some ⟨[t], .tup [], [], []⟩
    | .tup [] => some ⟨[t], .tup [], [], []⟩
    | _ => none
def gB : Option (Nat × Bool) → Nat → Bool
  | none, _ => true
  | some (t, _), N => Nat.blt t N
theorem stE_ok (hK : K.Ok) {x : Oper × Option (Nat × Bool)} {s : Ef} (h : stE K N E L x = some s) (hg : gB x.2 N = true) (hd : dstB x.1.dst N = true) : SpOk K N x ⟨s.rs, x.1.dst, s.v, s.R, s.W⟩ E L := by
  obtain ⟨o, g⟩ := x
  cases g with
  | none => exact opE_ok hK rfl h hd
  | some tb =>
    obtain ⟨t, b⟩ := tb
    simp only [stE] at h
    split at h
    · rename_i hg'
      split at h
      · split at h
        · rename_i s' hs
          cases h
          exact Sp_run hg' hg hd (opE_ok hK rfl hs hd)
        · cases h
      · cases h
        exact Sp_not hg' rfl hg hd
    · rename_i hg'
      split at h
      · split at h
        · rename_i s' hs
          cases h
          exact Sp_run hg' hg hd (opE_ok hK rfl hs hd)
        · cases h
      · cases h
        exact Sp_not hg' rfl hg hd
    · rename_i hg'
      cases h
      exact Sp_none hg' hg hd
    · cases h
/-- .. with all brought to constructors. -/
def stS (K : Ctx) (N : Nat) (E : List (Nat × AV)) (L : List (Nat × AObj)) (x : Oper × Option (Nat × Bool)) : Option (Sk × List (Nat × AV) × List (Nat × AObj)) :=
  match gB x.2 N, stE K N E L x with
  | true, some s => match force s.v with
    | some v => match forceW s.W, dstE E N x.1.dst v with
      | some W, some E' => match skP s.rs x.1.dst s.R (W.map (·.1)) with
        | some k => match W with
          | [] => some (k, E', L)
          | [x] => some (k, E', x :: L)
          | [x, y] => some (k, E', x :: y :: L)
          | W => some (k, E', W ++ L)
        | none => none
      | _, _ => none
    | none => none
  | _, _ => none
theorem stS_ok (hK : K.Ok) {x : Oper × Option (Nat × Bool)} {k : Sk} {E' : List (Nat × AV)} {L' : List (Nat × AObj)} (h : stS K N E L x = some (k, E', L')) :
    ∃ s : Sp, SpOk K N x s E L ∧ s.sk = k ∧ E' = putE E s.dst s.v ∧ L' = s.W ++ L := by
  unfold stS at h
  split at h
  · rename_i s hg hs
    split at h
    · rename_i v hv
      split at h
      · rename_i W E1 hW hE
        split at h
        · rename_i k1 hk
          have h : k1 = k ∧ E1 = E' ∧ W ++ L = L' := by
            split at h <;> (simp only [Option.some.injEq, Prod.mk.injEq] at h; exact h)
          obtain ⟨rfl, rfl, rfl⟩ := h
          have hv := force_eq hv
          subst hv
          have hW := forceW_eq hW
          subst hW
          obtain ⟨h1, h2⟩ := dstE_dstB hE
          exact ⟨_, stE_ok hK hs hg h1, (skP_eq hk).symm, h2.symm, rfl⟩
        · cases h
      · cases h
    · cases h
  · cases h
/-- Up to m of them. -/
def stN (K : Ctx) (N : Nat) : Nat → List Sk → List (Nat × AV) → List (Nat × AObj) → List (Oper × Option (Nat × Bool)) → Option (List Sk × List (Nat × AV) × List (Nat × AObj) × List (Oper × Option (Nat × Bool)))
  | 0, ks, E, L, gs => some (ks, E, L, gs)
  | m + 1, ks, E, L, [] => none
  | m + 1, ks, E, L, x :: r => match stS K N E L x with
    | some (k, E', L') => stN K N m (ks ++ [k]) E' L' r
    | none => none
section
variable {C0 : Cfg} {ds : Nat × Nat} {F : Fence} {n : Nat} {Q : Exit → Act → World → Prop} {ops : Array Oper} {E' : List (Nat × AV)} {L' : List (Nat × AObj)} {r : List (Oper × Option (Nat × Bool))} {x : Oper × Option (Nat × Bool)} {done : List Sk} {k : Sk} {X : Act → World → Prop}
theorem G_op [OpenF F] (hK : K.Ok) (hs : stS K N E L x = some (k, E', L')) (h : G K C0 ⟨E', N, ds⟩ L' (wpG F n K.P Q r)) : G K C0 ⟨E, N, ds⟩ L (wpG F n K.P Q (x :: r)) := by
  obtain ⟨s, h1, h2, rfl, rfl⟩ := stS_ok hK hs
  exact G_sp h1 h
theorem D_op (hK : K.Ok) (hs : stS K N E L x = some (k, E', L')) (h : DrawG K C0 N ds ops (done ++ [k]) r E' L' X) : DrawG K C0 N ds ops done (x :: r) E L X := by
  obtain ⟨s, h1, h2, rfl, rfl⟩ := stS_ok hK hs
  exact D_sp h1 (h2 ▸ h)
theorem stN_ok (hK : K.Ok) : ∀ {m : Nat} {ks ks' : List Sk} {E E' : List (Nat × AV)} {L L' : List (Nat × AObj)} {gs r : List (Oper × Option (Nat × Bool))}, stN K N m ks E L gs = some (ks', E', L', r) →
    (∀ (C0 : Cfg) (ds : Nat × Nat) (F : Fence) [OpenF F] (n : Nat) (Q : Exit → Act → World → Prop), G K C0 ⟨E', N, ds⟩ L' (wpG F n K.P Q r) → G K C0 ⟨E, N, ds⟩ L (wpG F n K.P Q gs)) ∧
    (∀ (C0 : Cfg) (ds : Nat × Nat) (ops : Array Oper) (X : Act → World → Prop), DrawG K C0 N ds ops ks' r E' L' X → DrawG K C0 N ds ops ks gs E L X)
  | 0, ks, ks', E, E', L, L', gs, r, h => by
    simp only [stN, Option.some.injEq, Prod.mk.injEq] at h
    obtain ⟨rfl, rfl, rfl, rfl⟩ := h
    exact ⟨fun _ _ _ _ _ _ h => h, fun _ _ _ _ h => h⟩
  | m + 1, ks, ks', E, E', L, L', [], r, h => by simp [stN] at h
  | m + 1, ks, ks', E, E', L, L', x :: gs, r, h => by
    simp only [stN] at h
    split at h
    · rename_i k E1 L1 hs
      obtain ⟨h1, h2⟩ := stN_ok hK h
      exact ⟨fun C0 ds F _ n Q hh => G_op hK hs (h1 C0 ds F n Q hh), fun C0 ds ops X hh => D_op hK hs (h2 C0 ds ops X hh)⟩
    · cases h
theorem G_ops [OpenF F] (hK : K.Ok) (m : Nat) {gs : List (Oper × Option (Nat × Bool))} {ks : List Sk} (hs : stN K N m [] E L gs = some (ks, E', L', r)) (h : G K C0 ⟨E', N, ds⟩ L' (wpG F n K.P Q r)) : G K C0 ⟨E, N, ds⟩ L (wpG F n K.P Q gs) :=
  (stN_ok hK hs).1 C0 ds F n Q h
theorem D_ops (hK : K.Ok) (m : Nat) {gs : List (Oper × Option (Nat × Bool))} {ks : List Sk} (hs : stN K N m done E L gs = some (ks, E', L', r)) (h : DrawG K C0 N ds ops ks r E' L' X) : DrawG K C0 N ds ops done gs E L X :=
  (stN_ok hK hs).2 C0 ds ops X h
end
end Go.Asl
/- Loops: only what a round turns is told. -/
set_option linter.unusedVariables false
namespace Go.Asl
open Go.RowKit
def dstsO : List Oper → List Nat
  | [] => []
  | o :: r => match o.dst with
    | some t => t :: dstsO r
    | none => dstsO r
/-- The slots that a code writes. -/
def wrC : Code → List Nat
  | .region _ ops _ => dstsO ops.toList
  | .seq a b => wrC a ++ wrC b
  | .cond _ a b => wrC a ++ wrC b
  | .block _ c => wrC c
  | .loop c => wrC c
  | .rangeFunc _ ps a b => ps.toList ++ (wrC a ++ wrC b)
  | .scope c => wrC c
  | _ => []
def keysE : List (Nat × AV) → List Nat
  | [] => []
  | (t, _) :: r => t :: keysE r
/-- The slots but some, each once. -/
def fixS (ks : List Nat) : List (Nat × AV) → Option (List (Nat × AV))
  | [] => some []
  | (t, a) :: r => match hasN ks t with
    | true => fixS ks r
    | false => match fixS (t :: ks) r with
      | some r' => match a with
        | .undef => some r'
        | a => some ((t, a) :: r')
      | none => none
def AllEq (E : List (Nat × AV)) : List (Nat × AV) → Prop
  | [] => True
  | (t, a) :: r => getE E t = a ∧ AllEq E r
theorem AllEq.get {E : List (Nat × AV)} : ∀ {l : List (Nat × AV)}, AllEq E l → ∀ t, getE l t = .undef ∨ getE E t = getE l t
  | [], _, t => .inl rfl
  | (k, a) :: r, h, t => by
    rw [getE_cons]
    by_cases e : t = k
    · subst e; rw [if_pos rfl]; exact .inr h.1
    · rw [if_neg e]; exact h.2.get t
mutual
/-- Names of the one, names of the other. -/
def mtA : AV → AV → List (Nat × Nat)
  | .own n, b => match b with
    | .own m => [(n, m)]
    | _ => []
  | .ptr n _, b => match b with
    | .ptr m _ => [(n, m)]
    | _ => []
  | .eptr n _ _ _, b => match b with
    | .eptr m _ _ _ => [(n, m)]
    | _ => []
  | .yld n, b => match b with
    | .yld m => [(n, m)]
    | _ => []
  | .map n, b => match b with
    | .map m => [(n, m)]
    | _ => []
  | .agg cs, b => match b with
    | .agg es => mtL cs es
    | _ => []
  | .tup cs, b => match b with
    | .tup es => mtL cs es
    | _ => []
  | .fn _ as bs, b => match b with
    | .fn _ cs es => mtL as cs ++ mtL bs es
    | _ => []
  | _, _ => []
def mtL : List AV → List AV → List (Nat × Nat)
  | a :: r, l => match l with
    | b :: s => mtA a b ++ mtL r s
    | [] => []
  | [], _ => []
end
def mtE (E : List (Nat × AV)) : List (Nat × AV) → List (Nat × Nat)
  | [] => []
  | (t, a) :: r => mtA a (getE E t) ++ mtE E r
def mtO : AObj → AObj → List (Nat × Nat)
  | .box cs, .box es => mtL cs es
  | .loop E _ _ _ _ _ _, .loop E' _ _ _ _ _ _ => mtE E' E
  | _, _ => []
def mtS (rs : List (Nat × Nat)) (L : List (Nat × AObj)) : List (Nat × AObj) → List (Nat × Nat)
  | [] => []
  | (k, o) :: r => mtO o (getS L (getR rs k)) ++ mtS rs L r
def forceP : List (Nat × Nat) → Option (List (Nat × Nat))
  | [] => some []
  | (a, b) :: r => match forceP r with
    | some r' => match Nat.beq a b with
      | true => some r'
      | false => some ((a, b) :: r')
    | none => none
/-- How the names of a state are found in another. -/
def mtR (E : List (Nat × AV)) (L : List (Nat × AObj)) (E' : List (Nat × AV)) (L' : List (Nat × AObj)) : Option (List (Nat × Nat)) :=
  forceP (mtE E E' ++ mtS (mtE E E') L L')
variable {K : Ctx} {C0 : Cfg} {E E' : List (Nat × AV)} {N : Nat} {ds : Nat × Nat} {L L' : List (Nat × AObj)} {X : Act → World → Prop} {F : Fence} {n : Nat} {P : Program} {Q : Exit → Act → World → Prop} {fr : Fr}
/-- Less told of the slots. -/
theorem G_weakE (E' : List (Nat × AV)) (hE : AllEq E E') (h : G K C0 ⟨E', N, ds⟩ L X) : G K C0 ⟨E, N, ds⟩ L X := fun φ w fb a h1 h2 h3 h4 => by
  refine h φ w fb a h1 h2 h3 ⟨h4.size, fun t => ?_, h4.ds⟩
  rcases hE.get t with e | e
  · show VV _ (getE E' t) _
    rw [e]; simp only [VV]
  · show VV _ (getE E' t) _
    rw [← e]; exact h4.val t
def AtX (K : Ctx) (C0 : Cfg) (fr' : Fr) (L' : List (Nat × AObj)) : Act → World → Prop := At K C0 (fun fr L => fr = fr' ∧ L = L')
theorem G_atX : G K C0 fr L (AtX K C0 fr L) := G_at ⟨rfl, rfl⟩
theorem G_atE (hE : AllEq E E') : G K C0 ⟨E, N, ds⟩ L (AtX K C0 ⟨E', N, ds⟩ L) := G_weakE E' hE G_atX
theorem G_atL {Li : List (Nat × AObj)} {rs : List (Nat × Nat)} (hC0 : C0.S = getS Li) (hrs : mtR E L E' L' = some rs) (hi : injN (getR rs) (liveK L') = true) (hE : AllE (getR rs) L' E E') (hL : AllL (getR rs) L' L L') (hK : AllK (getR rs) L' Li) :
    G K C0 ⟨E, N, ds⟩ L (AtX K C0 ⟨E', N, ds⟩ L') := G_weak rs E' L' hC0 hE hL hK hi G_atX
def NextX (K : Ctx) (C0 : Cfg) {α : Type} (ρ : α → List (Nat × AV)) (σ : α → List (Nat × AObj)) (Pr : α → Prop) (μ : α → Nat) (Ef : List (Nat × AV)) (N : Nat) (ds : Nat × Nat) (x : α) : Act → World → Prop :=
  fun a w => ∃ x', Pr x' ∧ μ x' < μ x ∧ AtX K C0 ⟨ρ x' ++ Ef, N, ds⟩ (σ x') a w
/-- A loop: what changes, as a function of a state; how far it still goes. -/
theorem G_loopF {c : Code} {α : Type} (ρ : α → List (Nat × AV)) (σ : α → List (Nat × AObj)) (Pr : α → Prop) (μ : α → Nat) (x0 : α) {Ef : List (Nat × AV)} (hE : fixS (keysE (ρ x0) ++ wrC c) E = some Ef) (hP : Pr x0)
    (h0 : G K C0 ⟨E, N, ds⟩ L (AtX K C0 ⟨ρ x0 ++ Ef, N, ds⟩ (σ x0)))
    (hround : ∀ x, Pr x → G K C0 ⟨ρ x ++ Ef, N, ds⟩ (σ x) (c.wpIn F n P (Exit.then (NextX K C0 ρ σ Pr μ Ef N ds x) Q))) :
    G K C0 ⟨E, N, ds⟩ L ((Code.loop c).wpIn F n P Q) := by
  refine G_loop (fun m fr L => ∃ x, Pr x ∧ μ x = m ∧ fr = ⟨ρ x ++ Ef, N, ds⟩ ∧ L = σ x) (m := μ x0) ?_ ?_
  · refine h0.mono fun a w h => h.elim fun fr L hI => ?_
    obtain ⟨rfl, rfl⟩ := hI
    exact G_at ⟨x0, hP, rfl, rfl, rfl⟩
  · rintro m fr L ⟨x, hx, rfl, rfl, rfl⟩
    have := hround x hx
    refine G.mono this fun a w h => ?_
    refine wpIn_mono h ?_
    intro e a' w' hq
    cases e with
    | normal =>
      obtain ⟨x', h1, h2, h3⟩ := hq
      refine ⟨μ x', h2, h3.elim fun fr L hI => ?_⟩
      obtain ⟨rfl, rfl⟩ := hI
      exact G_at ⟨x', h1, rfl, rfl, rfl⟩
    | exit id => exact hq
    | goto l => exact hq
    | ret => exact hq
    | panic c => exact hq
    | outgrown => exact hq
theorem G_nextF {α : Type} {ρ : α → List (Nat × AV)} {σ : α → List (Nat × AObj)} {Pr : α → Prop} {μ : α → Nat} {Ef : List (Nat × AV)} {x : α} (x' : α) (hP : Pr x') (hm : μ x' < μ x) (h : G K C0 fr L (AtX K C0 ⟨ρ x' ++ Ef, N, ds⟩ (σ x'))) :
    G K C0 fr L (NextX K C0 ρ σ Pr μ Ef N ds x) := fun φ w fb a h1 h2 h3 h4 => ⟨x', hP, hm, h φ w fb a h1 h2 h3 h4⟩
end Go.Asl
/- Splits that give the fact itself; contracts in other words; nil in a variable. -/
set_option linter.unusedVariables false
namespace Go.Asl
open Go.RowKit
section
variable {K : Ctx} {C0 : Cfg} {N : Nat} {ds : Nat × Nat} {F : Fence} {n : Nat} {Q : Exit → Act → World → Prop} {ops : Array Oper} {E E' : List (Nat × AV)} {L : List (Nat × AObj)} {o : Oper} {r : List (Oper × Option (Nat × Bool))} {done : List Sk} {k : Sk}
  {X : Act → World → Prop} {g : Option (Nat × Bool)} {fr : Fr} {P : Program}
theorem G_condD {c : Operand} {x y : Code} {p : Prop} [i : Decidable p] (hc : opd K fr c = .bool (decide p)) (ht : p → G K C0 fr L (x.wpIn F n P Q)) (hf : ¬ p → G K C0 fr L (y.wpIn F n P Q)) :
    G K C0 fr L ((Code.cond c x y).wpIn F n P Q) := G_cond hc (fun h => ht (of_decide_eq_true h)) (fun h => hf (of_decide_eq_false h))
theorem G_condN {c : Operand} {x y : Code} {b : Bool} (hc : opd K fr c = .bool (!b)) (ht : b = false → G K C0 fr L (x.wpIn F n P Q)) (hf : b = true → G K C0 fr L (y.wpIn F n P Q)) :
    G K C0 fr L ((Code.cond c x y).wpIn F n P Q) := G_cond hc (fun h => ht (by simpa using h)) (fun h => hf (by simpa using h))
theorem G_splitD {t : Nat} {b : Bool} {p : Prop} [i : Decidable p] (hg : getE E t = .bool (decide p)) (h1 : p → G K C0 ⟨(t, .bool true) :: E, N, ds⟩ L (wpG F n K.P Q ((o, some (t, b)) :: r))) (h2 : ¬ p → G K C0 ⟨(t, .bool false) :: E, N, ds⟩ L (wpG F n K.P Q ((o, some (t, b)) :: r))) :
    G K C0 ⟨E, N, ds⟩ L (wpG F n K.P Q ((o, some (t, b)) :: r)) := G_split hg (fun h => h1 (of_decide_eq_true h)) (fun h => h2 (of_decide_eq_false h))
theorem D_splitD {t : Nat} {b : Bool} {p : Prop} [i : Decidable p] (hg : getE E t = .bool (decide p)) (h1 : p → DrawG K C0 N ds ops done ((o, some (t, b)) :: r) ((t, .bool true) :: E) L X) (h2 : ¬ p → DrawG K C0 N ds ops done ((o, some (t, b)) :: r) ((t, .bool false) :: E) L X) :
    DrawG K C0 N ds ops done ((o, some (t, b)) :: r) E L X := D_split hg (fun h => h1 (of_decide_eq_true h)) (fun h => h2 (of_decide_eq_false h))
def isLitB : Bool → Bool
  | true => true
  | false => true
theorem G_isL {t : Nat} {b c : Bool} (hg : getE E t = .bool c) (hl : isLitB c = true) (h : G K C0 ⟨E, N, ds⟩ L (wpG F n K.P Q ((o, some (t, b)) :: r))) : G K C0 ⟨E, N, ds⟩ L (wpG F n K.P Q ((o, some (t, b)) :: r)) := h
theorem D_isL {t : Nat} {b c : Bool} (hg : getE E t = .bool c) (hl : isLitB c = true) (h : DrawG K C0 N ds ops done ((o, some (t, b)) :: r) E L X) : DrawG K C0 N ds ops done ((o, some (t, b)) :: r) E L X := h
theorem G_condL {c : Operand} {x y : Code} {b : Bool} (hc : opd K fr c = .bool b) (hl : isLitB b = true) (h : G K C0 fr L ((Code.cond c x y).wpIn F n P Q)) : G K C0 fr L ((Code.cond c x y).wpIn F n P Q) := h
end
theorem FnP.eq {K : Ctx} {f : Nat} {args : List AV} {r r' : AV} (h : FnP K f args r) (e : r = r') : FnP K f args r' := e ▸ h
theorem FnP.eqa {K : Ctx} {f : Nat} {args args' : List AV} {r r' : AV} (h : FnP K f args r) (ea : args = args') (e : r = r') : FnP K f args' r' := ea ▸ e ▸ h
/-- What stands behind an element. -/
theorem drop_get {α : Type} {xs : List α} {i : Nat} (h : i < xs.length) : ∃ x, xs[i]? = some x ∧ xs.drop i = x :: xs.drop (i + 1) :=
  ⟨xs[i], List.getElem?_eq_getElem h, List.drop_eq_getElem_cons h⟩
end Go.Asl
/- nil in a variable; a state less told, with its names found again. -/
set_option linter.unusedVariables false
namespace Go.Asl
open Go.RowKit
variable {K : Ctx} {C0 : Cfg} {E E' : List (Nat × AV)} {N : Nat} {ds : Nat × Nat} {L L' : List (Nat × AObj)} {X : Act → World → Prop} {F : Fence} {n : Nat} {P : Program} {Q : Exit → Act → World → Prop} {fr : Fr}
theorem grown_refl (w : World) (b : Option Nat) : w.grownBy w b := ⟨rfl, rfl, rfl, Nat.le_refl _, fun _ _ _ => rfl⟩
theorem VEs_set {C : VC} : ∀ {cs : List AV} {us : List Value} {j : Nat} {a : AV}, VEs C cs us → (∀ u, us[j]? = some u → VE C a [u]) → VEs C (cs.set j a) us
  | [], us, j, a, h, _ => by simpa using h
  | c :: cs, us, 0, a, h, ha => by
    simp only [VEs, List.set_cons_zero] at h ⊢
    obtain ⟨v, r, rfl, h1, h2⟩ := h
    exact ⟨v, r, rfl, ha v rfl, h2⟩
  | c :: cs, us, j + 1, a, h, ha => by
    simp only [VEs, List.set_cons_succ] at h ⊢
    obtain ⟨v, r, rfl, h1, h2⟩ := h
    exact ⟨v, r, rfl, h1, VEs_set h2 fun u hu => ha u (by simpa using hu)⟩
/-- A nil slice in a variable as a slice of one's own, without elements. -/
theorem G_box_nil {m j : Nat} {cs : List AV} (m' e sz : Nat) (hb : getS L m = .box cs) (hj : cs[j]? = some .nils) (hm : getS L m' = .free) (h : G K C0 ⟨E, N, ds⟩ ((m, .box (cs.set j (.own m'))) :: (m', .arr e sz []) :: L) X) : G K C0 ⟨E, N, ds⟩ L X := fun φ w fb a h1 h2 h3 h4 => by
  have hne : m ≠ m' := fun e => by subst e; rw [hm] at hb; cases hb
  obtain ⟨k1, k2⟩ := h2.new (w' := w) hm (.slice none 0 0) (.arr e sz []) rfl (grown_refl w none) (fun b hb => by simp [blk] at hb) (fun hs => by
    refine ⟨[], ?_, by simp [VErow]⟩
    refine ⟨by simp, .inl ⟨by simp [upd_same], rfl⟩⟩)
  have hb1 : getS ((m', .arr e sz []) :: L) m = .box cs := by rw [getS_cons, if_neg hne]; exact hb
  obtain ⟨q1, q2⟩ := k2.turn (w' := w) (m := m) (by rw [hb1]; rfl) (.box (cs.set j (.own m'))) rfl (grown_refl w _) (fun hs => by
    have ho := k2.obj m
    rw [show (Cfg.mk (upd φ m' (.slice none 0 0)) (getS ((m', .arr e sz []) :: L)) w fb).S m = _ from hb1] at ho
    obtain ⟨b, T, us, e1, e2, e3⟩ := ho
    refine ⟨b, T, us, e1, e2, ?_⟩
    refine VEs_set (VEs.step hs.v e3) fun u hu => ?_
    have := (VEs_iff.1 e3).2 j .nils u hj hu
    simp only [VE] at this
    simp only [List.cons.injEq, and_true] at this
    subst this
    simp only [VE]
    refine ⟨?_, ⟨none, 0, 0, upd_same _ _ _⟩, by
      show [Value.slice none 0 0] = [upd φ m' (.slice none 0 0) m']
      rw [upd_same]⟩
    show (getS ((m, _) :: (m', .arr e sz []) :: L) m').known = true
    rw [getS_cons, if_neg (Ne.symm hne), getS_cons, if_pos rfl]; rfl)
  exact h _ w fb a ((h1.trans k1).trans q1) q2 ((h3.step k1).step q1) ((h4.step k1).step q1)
/-- Less told, the names found again by what the slots and the variables hold. -/
theorem G_wk (E' : List (Nat × AV)) (L' : List (Nat × AObj)) {Li : List (Nat × AObj)} {rs : List (Nat × Nat)} (hC0 : C0.S = getS Li) (hrs : mtR E L E' L' = some rs) (hi : injN (getR rs) (liveK L') = true) (hE : AllE (getR rs) L' E E') (hL : AllL (getR rs) L' L L') (hK : AllK (getR rs) L' Li)
    (h : G K C0 ⟨E', N, ds⟩ L' X) : G K C0 ⟨E, N, ds⟩ L X := G_weak rs E' L' hC0 hE hL hK hi h
/-- A list that is all old names of an own slice. -/
theorem G_lst_nil2 {t : Nat} (ht : getE E t = .nils) (h : G K C0 ⟨(t, .lst []) :: E, N, ds⟩ L X) : G K C0 ⟨E, N, ds⟩ L X := G_lst_nil ht h
theorem arrE {e sz : Nat} {xs ys : List AV} (h : xs = ys) : AObj.arr e sz xs = AObj.arr e sz ys := h ▸ rfl
theorem boxE {xs ys : List AV} (h : xs = ys) : AObj.box xs = AObj.box ys := h ▸ rfl
theorem freeOf_free' {L : List (Nat × AObj)} {m : Nat} (h : freeOf L nameList = some m) : getS L m = .free := freeOf_free h
variable {o : Oper} {r : List (Oper × Option (Nat × Bool))} {done : List Sk} {k : Sk} {g : Option (Nat × Bool)} {ops : Array Oper}
/-- append, the new name chosen. -/
theorem G_appA [OpenF F] (hK : K.Ok) {t e : Nat} {b1 b2 : Nat} {z : List AV} {ti : TI} {s x : Operand} {c : Call} {xs ys : List AV} {y0 : AV} {m e' sz m' : Nat} (hop : o.op = .call c) (c1 : c.callee = .builtin .append) (c2 : c.args.toList = [s, x]) (c3 : c.argTypes.toList = [t, t])
    (ht : K.T t = some ⟨b1, b2, z, .slice e⟩) (he : K.T e = some ti) (hs : opS K E s = some (.own m)) (hm : getS L m = .arr e' sz xs) (hx : opS K E x = some y0) (hz : ∀ zs, y0 = .lst zs → ∀ y ∈ zs, ∃ cs, y.cells = some cs ∧ cs.length = sz) (hys : sliceOf (getS L) sz y0 = some ys)
    (hb : (xs.length + ys.length) * (ti.bytes + 1) ≤ 140737488355328) (hc : (Nat.beq e' e && Nat.beq sz ti.sz && Nat.blt 0 sz) = true) (hm' : freeOf L nameList = some m') (hd : dstE E N o.dst (.own m') = some E')
    (h : G K C0 ⟨E', N, ds⟩ ((m', .arr e sz (xs ++ ys)) :: (m, .dead) :: L) (wpG F n K.P Q r)) : G K C0 ⟨E, N, ds⟩ L (wpG F n K.P Q ((o, none) :: r)) :=
  G_append hK m' hop c1 c2 c3 ht he hs hm hx hys hz hc hb (freeOf_free hm') hd h
theorem D_appA (hK : K.Ok) {t e : Nat} {b1 b2 : Nat} {z : List AV} {ti : TI} {s x : Operand} {c : Call} {xs ys : List AV} {y0 : AV} {m e' sz m' : Nat} (hg : guardS E N g = true) (hop : o.op = .call c) (c1 : c.callee = .builtin .append) (c2 : c.args.toList = [s, x]) (c3 : c.argTypes.toList = [t, t])
    (ht : K.T t = some ⟨b1, b2, z, .slice e⟩) (he : K.T e = some ti) (hs : opS K E s = some (.own m)) (hm : getS L m = .arr e' sz xs) (hx : opS K E x = some y0) (hz : ∀ zs, y0 = .lst zs → ∀ y ∈ zs, ∃ cs, y.cells = some cs ∧ cs.length = sz) (hys : sliceOf (getS L) sz y0 = some ys)
    (hb : (xs.length + ys.length) * (ti.bytes + 1) ≤ 140737488355328) (hc : (Nat.beq e' e && Nat.beq sz ti.sz && Nat.blt 0 sz) = true) (hm' : freeOf L nameList = some m') (hd : dstE E N o.dst (.own m') = some E')
    (hk : skP (guardR g (slotsOf [s, x])) o.dst (m' :: m :: nmOf y0) [m', m] = some k)
    (h : DrawG K C0 N ds ops (done ++ [k]) r E' ((m', .arr e sz (xs ++ ys)) :: (m, .dead) :: L) X) : DrawG K C0 N ds ops done ((o, g) :: r) E L X :=
  D_append hK m' hg hop c1 c2 c3 ht he hs hm hx hys hz hc hb (freeOf_free hm') hd hk h
/-- append to nil. -/
theorem G_appN [OpenF F] (hK : K.Ok) {t e : Nat} {b1 b2 : Nat} {z : List AV} {ti : TI} {s x : Operand} {c : Call} {ys : List AV} {y0 : AV} {m' : Nat} (hop : o.op = .call c) (c1 : c.callee = .builtin .append) (c2 : c.args.toList = [s, x]) (c3 : c.argTypes.toList = [t, t])
    (ht : K.T t = some ⟨b1, b2, z, .slice e⟩) (he : K.T e = some ti) (hs : opS K E s = some .nils) (hx : opS K E x = some y0) (hz : ∀ zs, y0 = .lst zs → ∀ y ∈ zs, ∃ cs, y.cells = some cs ∧ cs.length = ti.sz) (hys : sliceOf (getS L) ti.sz y0 = some ys)
    (hb : ys.length * (ti.bytes + 1) ≤ 140737488355328) (hc : Nat.blt 0 ti.sz = true) (hm' : freeOf L nameList = some m') (hd : dstE E N o.dst (.own m') = some E')
    (h : G K C0 ⟨E', N, ds⟩ ((m', .arr e ti.sz ys) :: L) (wpG F n K.P Q r)) : G K C0 ⟨E, N, ds⟩ L (wpG F n K.P Q ((o, none) :: r)) :=
  G_append_nil hK m' hop c1 c2 c3 ht he hs hx hys hz hc hb (freeOf_free hm') hd h
theorem D_appN (hK : K.Ok) {t e : Nat} {b1 b2 : Nat} {z : List AV} {ti : TI} {s x : Operand} {c : Call} {ys : List AV} {y0 : AV} {m' : Nat} (hg : guardS E N g = true) (hop : o.op = .call c) (c1 : c.callee = .builtin .append) (c2 : c.args.toList = [s, x]) (c3 : c.argTypes.toList = [t, t])
    (ht : K.T t = some ⟨b1, b2, z, .slice e⟩) (he : K.T e = some ti) (hs : opS K E s = some .nils) (hx : opS K E x = some y0) (hz : ∀ zs, y0 = .lst zs → ∀ y ∈ zs, ∃ cs, y.cells = some cs ∧ cs.length = ti.sz) (hys : sliceOf (getS L) ti.sz y0 = some ys)
    (hb : ys.length * (ti.bytes + 1) ≤ 140737488355328) (hc : Nat.blt 0 ti.sz = true) (hm' : freeOf L nameList = some m') (hd : dstE E N o.dst (.own m') = some E')
    (hk : skP (guardR g (slotsOf [s, x])) o.dst (m' :: nmOf y0) [m'] = some k)
    (h : DrawG K C0 N ds ops (done ++ [k]) r E' ((m', .arr e ti.sz ys) :: L) X) : DrawG K C0 N ds ops done ((o, g) :: r) E L X := by
  have hs' := Sp_append_nil (o := o) (N := N) hK m' hop c1 c2 c3 ht he hs hx hys hz hc hb (freeOf_free hm') (dstE_dstB hd).1
  refine D_of (Sp_guard hg (dstE_dstB hd).1 hs') ?_ hd h
  exact hk
end Go.Asl
/- Calls with contracts on objects, the names found by the arguments. -/
set_option linter.unusedVariables false
namespace Go.Asl
open Go.RowKit
def freeOf2 (L : List (Nat × AObj)) (used : List Nat) : List Nat → Option Nat
  | [] => none
  | m :: r => match getS L m, hasN used m with
    | .free, false => some m
    | _, _ => freeOf2 L used r
def allocN (L : List (Nat × AObj)) (old : List Nat) : List Nat → List Nat → Option (List (Nat × Nat))
  | _, [] => some []
  | used, k :: r => match hasN old k with
    | true => allocN L old used r
    | false => match freeOf2 L used nameList with
      | some m => match allocN L old (m :: used) r with
        | some l => some ((k, m) :: l)
        | none => none
      | none => none
def forceQ : List (Nat × Nat) → Option (List (Nat × Nat))
  | [] => some []
  | (a, b) :: r => match forceQ r with
    | some r' => some ((a, b) :: r')
    | none => none
/-- Where a contract's names lie in the caller's store: args and L0 are the contract's, as and L the caller's. -/
def rsFor (args as : List AV) (L0 L1 L : List (Nat × AObj)) : Option (List (Nat × Nat)) :=
  match forceQ (mtL args as ++ mtS (mtL args as) L L0), allocN L (keysL L0) [] (keysL L1) with
  | some a, some b => forceQ (a ++ b)
  | _, _ => none
def forceL2 : List (Nat × AObj) → Option (List (Nat × AObj)) := forceW
def catS : List (Nat × AObj) → List (Nat × AObj) → Option (List (Nat × AObj))
  | [], L => some L
  | (k, o) :: r, L => match catS r L with
    | some l => some ((k, o) :: l)
    | none => none
theorem catS_eq : ∀ {W L l : List (Nat × AObj)}, catS W L = some l → l = W ++ L
  | [], L, l, h => by simp [catS] at h; exact h.symm
  | (k, o) :: r, L, l, h => by
    simp only [catS] at h
    split at h
    · rename_i e; cases h; rw [catS_eq e]; rfl
    · cases h
def forceK : List (Nat × AObj) → Option (List (Nat × AObj))
  | [] => some []
  | (k, o) :: r => match forceO o, forceK r with
    | some o', some r' => some ((k, o') :: r')
    | _, _ => none
def getRo : List (Nat × Nat) → Nat → Option Nat
  | [], t => some t
  | (k, a) :: r, t => match Nat.beq t k with
    | true => some a
    | false => getRo r t
theorem getRo_eq : ∀ {rs : List (Nat × Nat)} {k k' : Nat}, getRo rs k = some k' → k' = getR rs k
  | [], k, k', h => by simp [getRo] at h; simp [getR, h]
  | (a, b) :: r, k, k', h => by
    simp only [getRo] at h
    simp only [getR]
    cases hb : Nat.beq k a with
    | true =>
      try rw [hb] at h
      cases h; rfl
    | false =>
      try rw [hb] at h
      exact getRo_eq h
mutual
/-- The names changed, all brought to constructors. -/
def renF (rs : List (Nat × Nat)) : AV → Option AV
  | .own n => match getRo rs n with
    | some m => some (.own m)
    | none => none
  | .ptr n o => match getRo rs n with
    | some m => some (.ptr m o)
    | none => none
  | .eptr n s i o => match getRo rs n with
    | some m => some (.eptr m s i o)
    | none => none
  | .yld n => match getRo rs n with
    | some m => some (.yld m)
    | none => none
  | .map n => match getRo rs n with
    | some m => some (.map m)
    | none => none
  | .agg cs => match renFL rs cs with
    | some cs' => some (.agg cs')
    | none => none
  | .tup cs => match renFL rs cs with
    | some cs' => some (.tup cs')
    | none => none
  | .fn f as bs => match renFL rs as, renFL rs bs with
    | some as', some bs' => some (.fn f as' bs')
    | _, _ => none
  | .undef => some .undef
  | .int k n => some (.int k n)
  | .bool b => some (.bool b)
  | .str s => some (.str s)
  | .nils => some .nils
  | .lst xs => some (.lst xs)
  | .clip xs => some (.clip xs)
  | .rptr x o => some (.rptr x o)
  | .nilmap => some .nilmap
  | .nilfn => some .nilfn
  | .niliface => some .niliface
def renFL (rs : List (Nat × Nat)) : List AV → Option (List AV)
  | [] => some []
  | a :: r => match renF rs a, renFL rs r with
    | some a', some r' => some (a' :: r')
    | _, _ => none
end
mutual
theorem renF_eq {rs : List (Nat × Nat)} : ∀ {a b : AV}, renF rs a = some b → b = ren (getR rs) a
  | .own n, b, h => by
    simp only [renF] at h; simp only [ren]
    split at h
    · rename_i e; cases h; rw [getRo_eq e]
    · cases h
  | .ptr n _, b, h => by
    simp only [renF] at h; simp only [ren]
    split at h
    · rename_i e; cases h; rw [getRo_eq e]
    · cases h
  | .eptr n _ _ _, b, h => by
    simp only [renF] at h; simp only [ren]
    split at h
    · rename_i e; cases h; rw [getRo_eq e]
    · cases h
  | .yld n, b, h => by
    simp only [renF] at h; simp only [ren]
    split at h
    · rename_i e; cases h; rw [getRo_eq e]
    · cases h
  | .map n, b, h => by
    simp only [renF] at h; simp only [ren]
    split at h
    · rename_i e; cases h; rw [getRo_eq e]
    · cases h
  | .agg cs, b, h => by
    simp only [renF] at h; simp only [ren]
    split at h
    · rename_i e; cases h; rw [renFL_eq e]
    · cases h
  | .tup cs, b, h => by
    simp only [renF] at h; simp only [ren]
    split at h
    · rename_i e; cases h; rw [renFL_eq e]
    · cases h
  | .fn f as bs, b, h => by
    simp only [renF] at h; simp only [ren]
    split at h
    · rename_i e1 e2; cases h; rw [renFL_eq e1, renFL_eq e2]
    · cases h
  | .undef, b, h => by simp only [renF, Option.some.injEq] at h; simp only [ren]; exact h.symm
  | .int .., b, h => by simp only [renF, Option.some.injEq] at h; simp only [ren]; exact h.symm
  | .bool _, b, h => by simp only [renF, Option.some.injEq] at h; simp only [ren]; exact h.symm
  | .str _, b, h => by simp only [renF, Option.some.injEq] at h; simp only [ren]; exact h.symm
  | .nils, b, h => by simp only [renF, Option.some.injEq] at h; simp only [ren]; exact h.symm
  | .lst _, b, h => by simp only [renF, Option.some.injEq] at h; simp only [ren]; exact h.symm
  | .clip _, b, h => by simp only [renF, Option.some.injEq] at h; simp only [ren]; exact h.symm
  | .rptr .., b, h => by simp only [renF, Option.some.injEq] at h; simp only [ren]; exact h.symm
  | .nilmap, b, h => by simp only [renF, Option.some.injEq] at h; simp only [ren]; exact h.symm
  | .nilfn, b, h => by simp only [renF, Option.some.injEq] at h; simp only [ren]; exact h.symm
  | .niliface, b, h => by simp only [renF, Option.some.injEq] at h; simp only [ren]; exact h.symm
theorem renFL_eq {rs : List (Nat × Nat)} : ∀ {a b : List AV}, renFL rs a = some b → b = renL (getR rs) a
  | [], b, h => by simp only [renFL, Option.some.injEq] at h; simp only [renL]; exact h.symm
  | a :: r, b, h => by
    simp only [renFL] at h; simp only [renL]
    split at h
    · rename_i e1 e2; cases h; rw [renF_eq e1, renFL_eq e2]
    · cases h
end
def renOF (rs : List (Nat × Nat)) (o : AObj) : Option AObj :=
  match o with
  | .box cs => match renFL rs cs with
    | some cs' => some (.box cs')
    | none => none
  | o => forceO (renO (getR rs) o)
theorem renOF_eq {rs : List (Nat × Nat)} {o b : AObj} (h : renOF rs o = some b) : b = renO (getR rs) o := by
  unfold renOF at h
  split at h
  · split at h
    · rename_i e; cases h; simp only [renO]; rw [renFL_eq e]
    · cases h
  · exact forceO_eq h
def renW (rs : List (Nat × Nat)) : List (Nat × AObj) → Option (List (Nat × AObj))
  | [] => some []
  | (k, o) :: r => match getRo rs k, renOF rs o, renW rs r with
    | some k', some o', some r' => some ((k', o') :: r')
    | _, _, _ => none
theorem renW_eq {rs : List (Nat × Nat)} : ∀ {W l : List (Nat × AObj)}, renW rs W = some l → l = renS (getR rs) W
  | [], l, h => by simp [renW] at h; simp [renS, h]
  | (k, o) :: r, l, h => by
    simp only [renW] at h
    split at h
    · rename_i e1 e2 e3
      cases h
      simp only [renS]
      rw [getRo_eq e1, renOF_eq e2, renW_eq e3]
    · cases h
mutual
theorem force_self : ∀ (a : AV), force a = some a
  | .undef => rfl
  | .int .. => rfl
  | .bool _ => rfl
  | .str _ => rfl
  | .nils => rfl
  | .lst _ => rfl
  | .clip _ => rfl
  | .own _ => rfl
  | .ptr .. => rfl
  | .eptr .. => rfl
  | .rptr .. => rfl
  | .agg cs => by simp only [force]; rw [forceL_self cs]
  | .tup cs => by simp only [force]; rw [forceL_self cs]
  | .fn f as bs => by simp only [force]; rw [forceL_self as, forceL_self bs]
  | .yld _ => rfl
  | .map _ => rfl
  | .nilmap => rfl
  | .nilfn => rfl
  | .niliface => rfl
theorem forceL_self : ∀ (a : List AV), forceL a = some a
  | [] => rfl
  | a :: r => by simp only [forceL]; rw [force_self a, forceL_self r]
end
variable {K : Ctx} {C0 : Cfg} {N : Nat} {ds : Nat × Nat} {F : Fence} {n : Nat} {Q : Exit → Act → World → Prop} {ops : Array Oper} {E E' : List (Nat × AV)} {L L' M : List (Nat × AObj)} {o : Oper} {r : List (Oper × Option (Nat × Bool))} {done : List Sk} {k : Sk}
  {X : Act → World → Prop} {g : Option (Nat × Bool)}
theorem G_callA [OpenF F] {c : Call} {x : Operand} {f : Nat} {first caps as args : List AV} {v0 v : AV} {L0 L1 : List (Nat × AObj)} {rs : List (Nat × Nat)} (hf : FnS K f args L0 v0 L1) (hop : o.op = .call c) (hc : c.callee = .value x) (hx : opS K E x = some (.fn f first caps)) (has : argsS K E c.args.toList = some as)
    (hrs : rsFor args (first ++ (as ++ caps)) L0 L1 L = some rs) (hargs : first ++ (as ++ caps) = renL (getR rs) args) (ho : AllO (getR rs) L L0 L0) (ha : okL (kB (getS L0)) args = true)
    (hn : AllN (getR rs) L L0 (keysL L1)) (hi : (injN (getR rs) (keysL L1) && injN (getR rs) (keysL L0) && okS L1 L1 && okA (kB (getS L1)) v0) = true) (hv : renF rs v0 = some v) (hd : dstE E N o.dst v = some E')
    (hW : renW rs L1 = some M) (hL' : catS M L = some L') (h : G K C0 ⟨E', N, ds⟩ L' (wpG F n K.P Q r)) : G K C0 ⟨E, N, ds⟩ L (wpG F n K.P Q ((o, none) :: r)) := by
  have e1 := renW_eq hW
  have e2 := catS_eq hL'
  subst e1 e2
  exact G_callS rs hf hop hc hx has hargs ho ha hn hi (renF_eq hv ▸ force_self _) hd h
theorem D_callA {c : Call} {x : Operand} {f : Nat} {first caps as args : List AV} {v0 v : AV} {L0 L1 : List (Nat × AObj)} {rs : List (Nat × Nat)} (hf : FnS K f args L0 v0 L1) (hg : guardS E N g = true) (hop : o.op = .call c) (hc : c.callee = .value x) (hx : opS K E x = some (.fn f first caps)) (has : argsS K E c.args.toList = some as)
    (hrs : rsFor args (first ++ (as ++ caps)) L0 L1 L = some rs) (hargs : first ++ (as ++ caps) = renL (getR rs) args) (ho : AllO (getR rs) L L0 L0) (ha : okL (kB (getS L0)) args = true)
    (hn : AllN (getR rs) L L0 (keysL L1)) (hi : (injN (getR rs) (keysL L1) && injN (getR rs) (keysL L0) && okS L1 L1 && okA (kB (getS L1)) v0) = true) (hv : renF rs v0 = some v) (hd : dstE E N o.dst v = some E')
    (hk : skP (guardR g (slotsOf (x :: c.args.toList))) o.dst ((keysL L0 ++ keysL L1).map (getR rs)) ((renS (getR rs) L1).map (·.1)) = some k)
    (hW : renW rs L1 = some M) (hL' : catS M L = some L') (h : DrawG K C0 N ds ops (done ++ [k]) r E' L' X) : DrawG K C0 N ds ops done ((o, g) :: r) E L X := by
  have e1 := renW_eq hW
  have e2 := catS_eq hL'
  subst e1 e2
  exact D_callS rs hf hg hop hc hx has hargs ho ha hn hi (renF_eq hv ▸ force_self _) hd hk h
end Go.Asl
/- Rounds' ends, the store in other words. -/
set_option linter.unusedVariables false
namespace Go.Asl
open Go.RowKit
def EqK (A B : List (Nat × AObj)) : List (Nat × AObj) → Prop
  | [] => True
  | (k, _) :: r => getS A k = getS B k ∧ EqK A B r
theorem EqK.get {A B : List (Nat × AObj)} : ∀ {l : List (Nat × AObj)}, EqK A B l → ∀ k ∈ keysL l, getS A k = getS B k
  | [], _, _, hk => by simp [keysL] at hk
  | (m, o) :: r, h, k, hk => by
    simp only [keysL, List.mem_cons] at hk
    rcases hk with rfl | hk
    · exact h.1
    · exact h.2.get k hk
theorem free_of_keys : ∀ {L : List (Nat × AObj)} {k : Nat}, k ∉ keysL L → getS L k = .free
  | [], _, _ => rfl
  | (m, o) :: r, k, h => by
    simp only [keysL, List.mem_cons, not_or] at h
    rw [getS_cons, if_neg h.1]
    exact free_of_keys h.2
theorem eqS {A B : List (Nat × AObj)} (hA : EqK A B A) (hB : EqK A B B) : getS A = getS B := by
  funext k
  by_cases h1 : k ∈ keysL A
  · exact hA.get k h1
  · by_cases h2 : k ∈ keysL B
    · exact hB.get k h2
    · rw [free_of_keys h1, free_of_keys h2]
variable {K : Ctx} {C0 : Cfg} {L : List (Nat × AObj)} {fr : Fr}
theorem G_round_onS {l l' : Nat} {R : AV → List (Nat × AObj) → Prop} {E1 : List (Nat × AV)} {N1 : Nat} {ps : Array Tmp} {asg body : Code} {st : LoopState} {pe : Option Code} (L' : List (Nat × AObj)) (hφ : C0.φ l = .func (.yield l') #[] #[]) (hk : C0.kn l) (hl : getS L l = .loop E1 N1 ps asg body st pe)
    (hA : EqK ((l, .loop E1 N1 ps asg body .ready none) :: L) L' ((l, .loop E1 N1 ps asg body .ready none) :: L)) (hB : EqK ((l, .loop E1 N1 ps asg body .ready none) :: L) L' L')
    (h : R (.bool true) L') : G K C0 fr L (roundPost K.P l' (RetPost C0 R) .normal) := fun φ w fb a h1 h2 h3 h4 => by
  have hφ' : φ l = .func (.yield l') #[] #[] := ((h1.kn l hk).2).trans hφ
  obtain ⟨rr, e1, e2, e3, e4⟩ := loop_obj h2 hl hφ'
  obtain ⟨k1, k2⟩ := e4 .ready none
  rw [eqS hA hB] at k1 k2
  refine ⟨_, _, run_endRound none e1, .bool true, .bool true, φ, L', fb, rfl, h1.trans ?_, ?_, by simp only [VV], h⟩
  · simpa using k1
  · simpa using k2
theorem G_round_offS {l l' : Nat} {R : AV → List (Nat × AObj) → Prop} {E1 : List (Nat × AV)} {N1 : Nat} {ps : Array Tmp} {asg body : Code} {st : LoopState} {pe : Option Code} {e : Exit} {c : Code} (L' : List (Nat × AObj)) (hj : jumpOf e = some c) (hφ : C0.φ l = .func (.yield l') #[] #[]) (hk : C0.kn l) (hl : getS L l = .loop E1 N1 ps asg body st pe)
    (hA : EqK ((l, .loop E1 N1 ps asg body .done (some c)) :: L) L' ((l, .loop E1 N1 ps asg body .done (some c)) :: L)) (hB : EqK ((l, .loop E1 N1 ps asg body .done (some c)) :: L) L' L')
    (h : R (.bool false) L') : G K C0 fr L (roundPost K.P l' (RetPost C0 R) e) := fun φ w fb a h1 h2 h3 h4 => by
  have hφ' : φ l = .func (.yield l') #[] #[] := ((h1.kn l hk).2).trans hφ
  obtain ⟨rr, e1, e2, e3, e4⟩ := loop_obj h2 hl hφ'
  obtain ⟨k1, k2⟩ := e4 .done (some c)
  rw [eqS hA hB] at k1 k2
  cases e <;> simp only [jumpOf, Option.some.injEq] at hj <;> first | (cases hj; done) | skip
  all_goals
    subst hj
    exact ⟨_, _, run_endRound (some _) e1, .bool false, .bool false, φ, L', fb, rfl, h1.trans (by simpa using k1), by simpa using k2, by simp only [VV], h⟩
end Go.Asl
namespace Go.Asl
open Go.RowKit
variable {K : Ctx} {C0 : Cfg} {E E' : List (Nat × AV)} {N : Nat} {ds : Nat × Nat} {L L' : List (Nat × AObj)} {X : Act → World → Prop} {F : Fence} {n : Nat} {P : Program} {Q : Exit → Act → World → Prop} {fr : Fr}
def NextD (K : Ctx) (C0 : Cfg) {α : Type} (ρ : α → List (Nat × AV)) (σ : α → List (Nat × AObj)) (δ : α → Nat × Nat) (Pr : α → Prop) (μ : α → Nat) (Ef : List (Nat × AV)) (N : Nat) (x : α) : Act → World → Prop :=
  fun a w => ∃ x', Pr x' ∧ μ x' < μ x ∧ AtX K C0 ⟨ρ x' ++ Ef, N, δ x'⟩ (σ x') a w
/-- A loop with ranges over functions in it: the marks are counted. -/
theorem G_loopD {c : Code} {α : Type} (ρ : α → List (Nat × AV)) (σ : α → List (Nat × AObj)) (δ : α → Nat × Nat) (Pr : α → Prop) (μ : α → Nat) (x0 : α) {Ef : List (Nat × AV)} (hE : fixS (keysE (ρ x0) ++ wrC c) E = some Ef) (hP : Pr x0)
    (h0 : G K C0 ⟨E, N, ds⟩ L (AtX K C0 ⟨ρ x0 ++ Ef, N, δ x0⟩ (σ x0)))
    (hround : ∀ x, Pr x → G K C0 ⟨ρ x ++ Ef, N, δ x⟩ (σ x) (c.wpIn F n P (Exit.then (NextD K C0 ρ σ δ Pr μ Ef N x) Q))) :
    G K C0 ⟨E, N, ds⟩ L ((Code.loop c).wpIn F n P Q) := by
  refine G_loop (fun m fr L => ∃ x, Pr x ∧ μ x = m ∧ fr = ⟨ρ x ++ Ef, N, δ x⟩ ∧ L = σ x) (m := μ x0) ?_ ?_
  · refine h0.mono fun a w h => h.elim fun fr L hI => ?_
    obtain ⟨rfl, rfl⟩ := hI
    exact G_at ⟨x0, hP, rfl, rfl, rfl⟩
  · rintro m fr L ⟨x, hx, rfl, rfl, rfl⟩
    have := hround x hx
    refine G.mono this fun a w h => ?_
    refine wpIn_mono h ?_
    intro e a' w' hq
    cases e with
    | normal =>
      obtain ⟨x', h1, h2, h3⟩ := hq
      refine ⟨μ x', h2, h3.elim fun fr L hI => ?_⟩
      obtain ⟨rfl, rfl⟩ := hI
      exact G_at ⟨x', h1, rfl, rfl, rfl⟩
    | exit id => exact hq
    | goto l => exact hq
    | ret => exact hq
    | panic c => exact hq
    | outgrown => exact hq
theorem G_nextD {α : Type} {ρ : α → List (Nat × AV)} {σ : α → List (Nat × AObj)} {δ : α → Nat × Nat} {Pr : α → Prop} {μ : α → Nat} {Ef : List (Nat × AV)} {x : α} (x' : α) (hP : Pr x') (hm : μ x' < μ x) (h : G K C0 fr L (AtX K C0 ⟨ρ x' ++ Ef, N, δ x'⟩ (σ x'))) :
    G K C0 fr L (NextD K C0 ρ σ δ Pr μ Ef N x) := fun φ w fb a h1 h2 h3 h4 => ⟨x', hP, hm, h φ w fb a h1 h2 h3 h4⟩
end Go.Asl
/- Slices cut at their length (x[l:h:h]), and what is appended to them. -/
set_option linter.unusedVariables false
set_option linter.unusedSimpArgs false
namespace Go.Asl
open Go.RowKit
variable {K : Ctx} {C0 : Cfg} {E : List (Nat × AV)} {N : Nat} {ds : Nat × Nat} {L L' : List (Nat × AObj)} {F : Fence} {n : Nat} {Q : Exit → Act → World → Prop}
  {o : Oper} {r : List (Oper × Option (Nat × Bool))} {E' : List (Nat × AV)}
theorem G_slice3 [OpenF F] (hK : K.Ok) {t e : Nat} {b1 b2 : Nat} {z : List AV} {ti : TI} {x y1 y2 : Operand} {xs : List AV} {k1 k2 : IntKind} {h' : Int} (hop : o.op = .slice t x none (some y1) (some y2)) (ht : K.T t = some ⟨b1, b2, z, .slice e⟩) (he : K.T e = some ti)
    (hx : opS K E x = some (.lst xs)) (hhi : opS K E y1 = some (.int k1 h')) (hmx : opS K E y2 = some (.int k2 h')) (h0 : 0 ≤ h') (h2 : h' ≤ xs.length) (hz : ∀ y ∈ xs, ∃ cs, y.cells = some cs ∧ cs.length = ti.sz) (hd : dstE E N o.dst (.clip (xs.take h'.toNat)) = some E')
    (h : G K C0 ⟨E', N, ds⟩ L (wpG F n K.P Q r)) : G K C0 ⟨E, N, ds⟩ L (wpG F n K.P Q ((o, none) :: r)) := by
  refine G_value (by simp [hop]) hd (fun φ w fb a hS hG hF => ?_) h
  obtain ⟨A, c, sz, us, hv, hc, hr, hlies⟩ := lst_row (opS_VV hx hG hF)
  obtain ⟨d, hu, hk⟩ := (hK.facts ht).desc
  have hu' : K.P.underlying t = some (.slice e) := by
    cases d <;> simp [kindIs] at hk
    subst hk; exact hu
  have hsz := (hK.facts he).size w
  have e1 := opS_VV hhi hG hF
  have e2 := opS_VV hmx hG hF
  simp only [VV] at e1 e2
  have hb : (Instr.sliceBounds true xs.length c none (some (a.eval y1)) (some (a.eval y2))).run K.P w = .ok (0, h'.toNat, h'.toNat) w := by
    simp [Instr.sliceBounds, Instr.sliceBound, e1, e2, asIntOf, h0, show h' ≤ (c : Int) by omega, show h' ≤ (h'.toNat : Int) by omega, show ¬ (h'.toNat : Int) < h' by omega]
    intro hlt
    exact absurd hlt (by omega)
  refine ⟨.slice (if h'.toNat = 0 then A else A.map (·.add (0 * ti.sz))) (h'.toNat - 0) (h'.toNat - 0), φ, w, ?_, Stp.refl _, hS, ?_⟩
  · have : (Instr.slice t (a.eval x) none (some (a.eval y1)) (some (a.eval y2))).run K.P w = .ok (.slice (if h'.toNat = 0 then A else A.map (·.add (0 * ti.sz))) (h'.toNat - 0) (h'.toNat - 0)) w := by
      rw [hv]
      simp only [Instr.slice, Sem.run_bind, run_underlying hu', Result.andThen_ok]
      simp only [Sem.run_bind, hb, Result.andThen_ok, hsz, Sem.run_pure]
    have hat : (Instr.sliceAt t (a.eval x) none (some (a.eval y1)) (some (a.eval y2))).run K.P w = .ok (.slice (if h'.toNat = 0 then A else A.map (·.add (0 * ti.sz))) (h'.toNat - 0) (h'.toNat - 0)) w := by
      simp only [Instr.sliceAt, Sem.run_bind, run_underlying hu', Result.andThen_ok]
      exact this
    simp only [execOp, hop, Option.map_none, Option.map_some, Sem.run_bind, hat, Result.andThen_ok, Sem.run_pure]
  · simp only [VV]
    have hlen : (xs.take h'.toNat).length = h'.toNat - 0 := by simp; omega
    by_cases hne : xs.take h'.toNat = []
    · refine ⟨_, sz, [], by rw [hlen], by rw [hne]; simp [VErow], fun e => absurd hne e⟩
    · have hxs : xs ≠ [] := fun e => hne (by rw [e]; simp)
      have hlt : h'.toNat ≠ 0 := fun e => hne (by rw [e]; simp)
      obtain ⟨ad, rfl, hla⟩ := hlies hxs
      have hsize : sz = ti.sz := by
        obtain ⟨y, xs', rfl⟩ := List.exists_cons_of_ne_nil hxs
        obtain ⟨cs, hcs, hcl⟩ := hz y (by simp)
        simp only [VErow] at hr
        obtain ⟨c0, r0, _, ⟨hc0, _⟩, hy, _⟩ := hr
        have := VEs_length (VE_cells hcs hy)
        omega
      subst hsize
      have hrow := VErow_take h'.toNat hr
      refine ⟨_, ti.sz, _, by rw [hlen], hrow, fun _ => ⟨ad, by rw [if_neg hlt]; simp [Addr.add], hla.1, hla.2.1, fun i u hui => hla.2.2 _ u ?_⟩⟩
      rw [List.getElem?_take] at hui
      split at hui
      · exact hui
      · cases hui
theorem Sp_slice3 (hK : K.Ok) {t e : Nat} {b1 b2 : Nat} {z : List AV} {ti : TI} {x y1 y2 : Operand} {xs : List AV} {k1 k2 : IntKind} {h' : Int} (hop : o.op = .slice t x none (some y1) (some y2)) (ht : K.T t = some ⟨b1, b2, z, .slice e⟩) (he : K.T e = some ti)
    (hx : opS K E x = some (.lst xs)) (hhi : opS K E y1 = some (.int k1 h')) (hmx : opS K E y2 = some (.int k2 h')) (h0 : 0 ≤ h') (h2 : h' ≤ xs.length) (hz : ∀ y ∈ xs, ∃ cs, y.cells = some cs ∧ cs.length = ti.sz) (hd : dstB o.dst N = true) :
    SpOk K N (o, none) ⟨slotsOf [x, y1, y2], o.dst, .clip (xs.take h'.toNat), [], []⟩ E L := by
  intro C0 ds F _ n Q r E' L' hE hL h
  have ha := opS_agree (K := K) (l := [x, y1, y2]) (fun t ht => ht) hE
  exact G_slice3 hK hop ht he ((ha x (by simp)).trans hx) ((ha y1 (by simp)).trans hhi) ((ha y2 (by simp)).trans hmx) h0 h2 hz (dstB_ok _ hd) h
/-- Nothing is appended. -/
theorem G_appC0 [OpenF F] (hK : K.Ok) {t e : Nat} {b1 b2 : Nat} {z : List AV} {ti : TI} {s x : Operand} {c : Call} {xs : List AV} {y0 : AV} (hop : o.op = .call c) (c1 : c.callee = .builtin .append) (c2 : c.args.toList = [s, x]) (c3 : c.argTypes.toList = [t, t])
    (ht : K.T t = some ⟨b1, b2, z, .slice e⟩) (he : K.T e = some ti) (hs : opS K E s = some (.clip xs)) (hx : opS K E x = some (.lst [])) (hd : dstE E N o.dst (.clip xs) = some E')
    (h : G K C0 ⟨E', N, ds⟩ L (wpG F n K.P Q r)) : G K C0 ⟨E, N, ds⟩ L (wpG F n K.P Q ((o, none) :: r)) := by
  refine G_value (by simp [hop]) hd (fun φ w fb a hS hG hF => ?_) h
  have hv := opS_VV hs hG hF
  have hxv := opS_VV hx hG hF
  obtain ⟨B, cb, szb, ub, hxe, _⟩ := lst_row hxv
  obtain ⟨d, hu, hk⟩ := (hK.facts ht).desc
  have hu' : K.P.underlying t = some (.slice e) := by
    cases d <;> simp [kindIs] at hk
    subst hk; exact hu
  obtain ⟨i, hi, hsize, hby, _⟩ := (hK.facts he).info
  have hv' := hv
  simp only [VV] at hv'
  obtain ⟨A, sz, us, he', _⟩ := hv'
  refine ⟨a.eval s, φ, w, append_op hop c1 c2 c3 ?_, Stp.refl _, hS, hv⟩
  rw [he', hxe]
  cases A <;> cases B <;> simp [Builtin.append_, run_underlying hu', sizeOf, typeInfo, hi, Builtin.lenOf, Builtin.firstCells, storeCells, loadCells, loadCellsFrom]
/-- A new row. -/
theorem G_appC [OpenF F] (hK : K.Ok) {t e : Nat} {b1 b2 : Nat} {z : List AV} {ti : TI} {s x : Operand} {c : Call} {xs ys : List AV} (m' : Nat) (hop : o.op = .call c) (c1 : c.callee = .builtin .append) (c2 : c.args.toList = [s, x]) (c3 : c.argTypes.toList = [t, t])
    (ht : K.T t = some ⟨b1, b2, z, .slice e⟩) (he : K.T e = some ti) (hs : opS K E s = some (.clip xs)) (hx : opS K E x = some (.lst ys)) (hzx : ∀ y ∈ xs, ∃ cs, y.cells = some cs ∧ cs.length = ti.sz) (hzy : ∀ y ∈ ys, ∃ cs, y.cells = some cs ∧ cs.length = ti.sz)
    (hne : ys ≠ []) (hc : Nat.blt 0 ti.sz = true) (hb : (xs.length + ys.length) * (ti.bytes + 1) ≤ 140737488355328) (hm' : getS L m' = .free) (hd : dstE E N o.dst (.own m') = some E')
    (h : G K C0 ⟨E', N, ds⟩ ((m', .arr e ti.sz (xs ++ ys)) :: L) (wpG F n K.P Q r)) : G K C0 ⟨E, N, ds⟩ L (wpG F n K.P Q ((o, none) :: r)) := by
  refine G_value (by simp [hop]) hd (fun φ w fb a hS hG hF => ?_) h
  have hv := opS_VV hs hG hF
  have hxv := opS_VV hx hG hF
  have hrd := lst_rd hxv hzy
  obtain ⟨B, cb, ub, hxe, hcb, hrow, hlb⟩ := hrd
  obtain ⟨bd, rfl, hsp, hcell⟩ := hlb hne
  obtain ⟨d, hu, hk⟩ := (hK.facts ht).desc
  have hu' : K.P.underlying t = some (.slice e) := by
    cases d <;> simp [kindIs] at hk
    subst hk; exact hu
  obtain ⟨i, hi, hsize, hby, z0, hz0, hzz, hzl, hzk⟩ := (hK.facts he).info
  have hz0s : z0.cells.size = ti.sz := by
    have := VEs_length (zerosAre_VEs (C := Cfg.v ⟨φ, getS L, w, fb⟩) hzz)
    rw [← hzl, this]; simp
  have hsz : 0 < ti.sz := by simp [Nat.blt] at hc; omega
  simp only [VV] at hv
  obtain ⟨A, sz, us, he', hr, hlies⟩ := hv
  have hmax : xs.length + ys.length ≤ maxLen := by
    have : xs.length + ys.length ≤ (xs.length + ys.length) * (ti.bytes + 1) := Nat.le_mul_of_pos_right _ (by omega)
    simp only [maxLen]; omega
  have hbb : (xs.length + ys.length) * ti.bytes ≤ 140737488355328 := Nat.le_trans (Nat.mul_le_mul_left _ (by omega)) hb
  have hypos : 0 < ys.length := List.length_pos_iff.2 hne
  have key : ∃ v' w' us', (Builtin.append_ #[t, t] o.type #[a.eval s, a.eval x]).run K.P w = .ok v' w' ∧ w'.ownsRow w.heap.size e ti.sz v' (xs.length + ys.length) (us' ++ ub) ∧ w.grownBy w' none ∧ VErow (Cfg.v ⟨φ, getS L, w, fb⟩).bare ti.sz xs us' := by
    rw [he', hxe]
    by_cases hxs : xs = []
    · subst hxs
      cases A with
      | some ad =>
        obtain ⟨v', w', g1, g2, g3⟩ := run_append_arg_grows (P := K.P) w t o.type e i z0 ti.sz ti.bytes hu' hi hz0 hsize hby hz0s hsz ad 0 0 [] (by simp) (by simp) bd ys.length cb ub (VErow_length hrow) hcell (by omega) (by simpa using hmax) (by simpa using hbb)
        exact ⟨v', w', [], by simpa using g1, by simpa using g2, g3, by simp [VErow]⟩
      | none =>
        obtain ⟨v', w', g1, g2, g3, _, g4⟩ := run_append_own_at (P := K.P) w w.heap.size t o.type e i z0 ti.sz ti.bytes hu' hi hz0 hsize hby hz0s hsz (.slice none 0 0) 0 [] ⟨by simp, .inl ⟨rfl, rfl⟩⟩ bd ys.length cb ub (VErow_length hrow) hcell (VErow_one hrow) (by simpa using hmax) (by simpa using hbb) (Nat.le_refl _)
        exact ⟨v', w', [], by simpa using g1, by simpa using g2, g3, by simp [VErow]⟩
    · obtain ⟨ad, rfl, hla⟩ := hlies hxs
      have hsize' : sz = ti.sz := by
        obtain ⟨y, xs', rfl⟩ := List.exists_cons_of_ne_nil hxs
        obtain ⟨cs, hcs, hcl⟩ := hzx y (by simp)
        simp only [VErow] at hr
        obtain ⟨c0, r0, _, ⟨hc0, _⟩, hy, _⟩ := hr
        have := VEs_length (VE_cells hcs hy)
        omega
      subst hsize'
      obtain ⟨v', w', g1, g2, g3⟩ := run_append_arg_grows (P := K.P) w t o.type e i z0 ti.sz ti.bytes hu' hi hz0 hsize hby hz0s hsz ad xs.length xs.length us (VErow_length hr) hla.2.2 bd ys.length cb ub (VErow_length hrow) hcell (by omega) hmax hbb
      exact ⟨v', w', us, g1, g2, g3, hr⟩
  obtain ⟨v', w', us', g1, g2, g3, g4⟩ := key
  obtain ⟨k1, k2⟩ := hS.new (w' := w') hm' v' (.arr e ti.sz (xs ++ ys)) rfl g3 (fun b hb => by
    rw [blk_own g2] at hb
    exact (g2.lt b hb).1) (fun hs => by
    refine ⟨us' ++ ub, ?_, VErow_append (VErow_step' hs.v.bare g4) (VErow_step' hs.v.bare hrow)⟩
    have : w'.ownsRow 0 e ti.sz v' (xs ++ ys).length (us' ++ ub) := by
      rw [List.length_append]
      refine ⟨g2.1, ?_⟩
      rcases g2.2 with q | ⟨gg, cap, cur, q1, q2, q3⟩
      · exact .inl q
      · exact .inr ⟨gg, cap, cur, q1, Nat.zero_le _, q3⟩
    show World.ownsRow w' 0 e ti.sz (upd φ m' v' m') (xs ++ ys).length (us' ++ ub)
    rw [upd_same]; exact this)
  refine ⟨v', upd φ m' v', w', append_op hop c1 c2 c3 g1, k1, k2, ?_⟩
  simp only [VV]
  refine ⟨?_, ?_, (upd_same _ _ _).symm⟩
  · show (getS ((m', .arr e ti.sz (xs ++ ys)) :: L) m').known = true
    rw [getS_cons, if_pos rfl]; rfl
  · show ∃ A l c, upd φ m' v' m' = .slice A l c
    rw [upd_same]
    rcases g2.2 with ⟨q, _⟩ | ⟨gg, cap, cur, q1, _⟩
    · exact ⟨_, _, _, q⟩
    · exact ⟨_, _, _, q1⟩
theorem Sp_appC0 (hK : K.Ok) {t e : Nat} {b1 b2 : Nat} {z : List AV} {ti : TI} {s x : Operand} {c : Call} {xs : List AV} (hop : o.op = .call c) (c1 : c.callee = .builtin .append) (c2 : c.args.toList = [s, x]) (c3 : c.argTypes.toList = [t, t])
    (ht : K.T t = some ⟨b1, b2, z, .slice e⟩) (he : K.T e = some ti) (hs : opS K E s = some (.clip xs)) (hx : opS K E x = some (.lst [])) (hd : dstB o.dst N = true) : SpOk K N (o, none) ⟨slotsOf [s, x], o.dst, .clip xs, [], []⟩ E L := by
  intro C0 ds F _ n Q r E' L' hE hL h
  have ha := opS_agree (K := K) (l := [s, x]) (fun t ht => ht) hE
  exact G_appC0 (y0 := .lst []) hK hop c1 c2 c3 ht he ((ha s (by simp)).trans hs) ((ha x (by simp)).trans hx) (dstB_ok _ hd) h
theorem Sp_appC (hK : K.Ok) {t e : Nat} {b1 b2 : Nat} {z : List AV} {ti : TI} {s x : Operand} {c : Call} {xs ys : List AV} (m' : Nat) (hop : o.op = .call c) (c1 : c.callee = .builtin .append) (c2 : c.args.toList = [s, x]) (c3 : c.argTypes.toList = [t, t])
    (ht : K.T t = some ⟨b1, b2, z, .slice e⟩) (he : K.T e = some ti) (hs : opS K E s = some (.clip xs)) (hx : opS K E x = some (.lst ys)) (hzx : ∀ y ∈ xs, ∃ cs, y.cells = some cs ∧ cs.length = ti.sz) (hzy : ∀ y ∈ ys, ∃ cs, y.cells = some cs ∧ cs.length = ti.sz)
    (hne : ys ≠ []) (hc : Nat.blt 0 ti.sz = true) (hb : (xs.length + ys.length) * (ti.bytes + 1) ≤ 140737488355328) (hm' : getS L m' = .free) (hd : dstB o.dst N = true) :
    SpOk K N (o, none) ⟨slotsOf [s, x], o.dst, .own m', [m'], [(m', .arr e ti.sz (xs ++ ys))]⟩ E L := by
  intro C0 ds F _ n Q r E' L' hE hL h
  have ha := opS_agree (K := K) (l := [s, x]) (fun t ht => ht) hE
  exact G_appC hK m' hop c1 c2 c3 ht he ((ha s (by simp)).trans hs) ((ha x (by simp)).trans hx) hzx hzy hne hc hb ((hL m' (by simp)).trans hm') (dstB_ok _ hd) h
section
variable {ops : Array Oper} {done : List Sk} {k : Sk} {X : Act → World → Prop} {g : Option (Nat × Bool)}
theorem D_slice (hK : K.Ok) {t e : Nat} {b1 b2 : Nat} {z : List AV} {ti : TI} {x : Operand} {lo hi : Option Operand} {xs : List AV} {l h' : Int} (hg : guardS E N g = true) (hop : o.op = .slice t x lo hi none) (ht : K.T t = some ⟨b1, b2, z, .slice e⟩) (he : K.T e = some ti)
    (hx : opS K E x = some (.lst xs)) (hlo : bndS K E 0 lo = some l) (hhi : bndS K E xs.length hi = some h') (h0 : 0 ≤ l) (h1 : l ≤ h') (h2 : h' ≤ xs.length) (hz : ∀ y ∈ xs, ∃ cs, y.cells = some cs ∧ cs.length = ti.sz) (hd : dstE E N o.dst (.lst ((xs.take h'.toNat).drop l.toNat)) = some E')
    (hk : skP (guardR g (slotsOf (x :: (lo.toList ++ hi.toList)))) o.dst [] [] = some k) (h : DrawG K C0 N ds ops (done ++ [k]) r E' L X) : DrawG K C0 N ds ops done ((o, g) :: r) E L X :=
  D_of (Sp_guard hg (dstE_dstB hd).1 (Sp_slice hK hop ht he hx hlo hhi h0 h1 h2 hz (dstE_dstB hd).1)) hk hd h
theorem D_slice3 (hK : K.Ok) {t e : Nat} {b1 b2 : Nat} {z : List AV} {ti : TI} {x y1 y2 : Operand} {xs : List AV} {k1 k2 : IntKind} {h' : Int} (hg : guardS E N g = true) (hop : o.op = .slice t x none (some y1) (some y2)) (ht : K.T t = some ⟨b1, b2, z, .slice e⟩) (he : K.T e = some ti)
    (hx : opS K E x = some (.lst xs)) (hhi : opS K E y1 = some (.int k1 h')) (hmx : opS K E y2 = some (.int k2 h')) (h0 : 0 ≤ h') (h2 : h' ≤ xs.length) (hz : ∀ y ∈ xs, ∃ cs, y.cells = some cs ∧ cs.length = ti.sz) (hd : dstE E N o.dst (.clip (xs.take h'.toNat)) = some E')
    (hk : skP (guardR g (slotsOf [x, y1, y2])) o.dst [] [] = some k) (h : DrawG K C0 N ds ops (done ++ [k]) r E' L X) : DrawG K C0 N ds ops done ((o, g) :: r) E L X :=
  D_of (Sp_guard hg (dstE_dstB hd).1 (Sp_slice3 hK hop ht he hx hhi hmx h0 h2 hz (dstE_dstB hd).1)) hk hd h
theorem D_appC0 (hK : K.Ok) {t e : Nat} {b1 b2 : Nat} {z : List AV} {ti : TI} {s x : Operand} {c : Call} {xs : List AV} (hg : guardS E N g = true) (hop : o.op = .call c) (c1 : c.callee = .builtin .append) (c2 : c.args.toList = [s, x]) (c3 : c.argTypes.toList = [t, t])
    (ht : K.T t = some ⟨b1, b2, z, .slice e⟩) (he : K.T e = some ti) (hs : opS K E s = some (.clip xs)) (hx : opS K E x = some (.lst [])) (hd : dstE E N o.dst (.clip xs) = some E')
    (hk : skP (guardR g (slotsOf [s, x])) o.dst [] [] = some k) (h : DrawG K C0 N ds ops (done ++ [k]) r E' L X) : DrawG K C0 N ds ops done ((o, g) :: r) E L X :=
  D_of (Sp_guard hg (dstE_dstB hd).1 (Sp_appC0 hK hop c1 c2 c3 ht he hs hx (dstE_dstB hd).1)) hk hd h
theorem D_appC (hK : K.Ok) {t e : Nat} {b1 b2 : Nat} {z : List AV} {ti : TI} {s x : Operand} {c : Call} {xs ys : List AV} {m' : Nat} (hg : guardS E N g = true) (hop : o.op = .call c) (c1 : c.callee = .builtin .append) (c2 : c.args.toList = [s, x]) (c3 : c.argTypes.toList = [t, t])
    (ht : K.T t = some ⟨b1, b2, z, .slice e⟩) (he : K.T e = some ti) (hs : opS K E s = some (.clip xs)) (hx : opS K E x = some (.lst ys)) (hzx : ∀ y ∈ xs, ∃ cs, y.cells = some cs ∧ cs.length = ti.sz) (hzy : ∀ y ∈ ys, ∃ cs, y.cells = some cs ∧ cs.length = ti.sz)
    (hne : ys ≠ []) (hc : Nat.blt 0 ti.sz = true) (hb : (xs.length + ys.length) * (ti.bytes + 1) ≤ 140737488355328) (hm' : freeOf L nameList = some m') (hd : dstE E N o.dst (.own m') = some E')
    (hk : skP (guardR g (slotsOf [s, x])) o.dst [m'] [m'] = some k) (h : DrawG K C0 N ds ops (done ++ [k]) r E' ((m', .arr e ti.sz (xs ++ ys)) :: L) X) : DrawG K C0 N ds ops done ((o, g) :: r) E L X :=
  D_of (Sp_guard hg (dstE_dstB hd).1 (Sp_appC hK m' hop c1 c2 c3 ht he hs hx hzx hzy hne hc hb (freeOf_free hm') (dstE_dstB hd).1)) hk hd h
/-- A slice cut at its length is a list. -/
theorem G_clip {t : Nat} {xs : List AV} (ht : getE E t = .clip xs) (h : G K C0 ⟨(t, .lst xs) :: E, N, ds⟩ L X) : G K C0 ⟨E, N, ds⟩ L X := fun φ w fb a h1 h2 h3 h4 => by
  refine h φ w fb a h1 h2 h3 ⟨h4.size, fun u => ?_, h4.ds⟩
  rw [getE_cons]
  split
  · rename_i e
    subst e
    have := h4.val u
    rw [ht] at this
    simp only [VV] at this ⊢
    obtain ⟨A, sz, us, g1, g2, g3⟩ := this
    exact ⟨A, _, sz, us, g1, Nat.le_refl _, g2, g3⟩
  · exact h4.val u
end
end Go.Asl
/- The same with literals that are only read. -/
set_option linter.unusedVariables false
set_option linter.unusedSimpArgs false
namespace Go.Asl
open Go.RowKit
theorem Sp_litR {K : Ctx} {N : Nat} {E : List (Nat × AV)} {L : List (Nat × AObj)} {o : Oper} (hK : K.Ok) {t e : Nat} {b1 b2 : Nat} {z : List AV} {ti : TI} {len : Nat} {parts : Array (Nat × Operand)} {ys : List AV} (m : Nat) (hop : o.op = .buildSlice t len parts)
    (ht : K.T t = some ⟨b1, b2, z, .slice e⟩) (he : K.T e = some ti) (hys : partsS K E ti.sz parts.toList 0 = some ys) (hlen : (Nat.beq parts.toList.length len && Nat.ble (len * ti.sz) 16777216 && Nat.blt 0 ti.sz) = true) (hm : getS L m = .free) (hd : dstB o.dst N = true) :
    SpOk K N (o, none) ⟨slotsOf (parts.toList.map (·.2)), o.dst, .lst ys, [m], [(m, .dead)]⟩ E L := by
  intro C0 ds F _ n Q r E' L' hE hL h
  refine Sp_lit hK m hop ht he hys hlen hm hd C0 ds F n Q r E' L' hE hL ?_
  have h1 : getS ([(m, AObj.arr e ti.sz ys)] ++ L') m = .arr e ti.sz ys := by rw [List.singleton_append, getS_cons, if_pos rfl]
  cases hdst : o.dst with
  | none =>
    rw [hdst] at h
    refine G_drop (m := m) (by rw [h1]; rfl) (E' := E') (fun φ w fb h2 k2 k3 kv vals hvals u => hvals u) ?_
    refine G.same h (fun _ => rfl) (fun k => ?_)
    simp only [List.singleton_append, getS_cons]
    split <;> rfl
  | some t' =>
    rw [hdst] at h
    refine G_freeze (m := m) t' h1 (v := .lst ys) (by simp [putE, getE_cons, frz, force]) ?_
    refine G.same h (fun k => ?_) (fun k => ?_)
    · simp only [putE, getE_cons]
      split <;> rfl
    · simp only [List.singleton_append, getS_cons]
      split <;> rfl
def opEF (K : Ctx) (E : List (Nat × AV)) (L : List (Nat × AObj)) (o : Op) : Option Ef :=
  match o with
  | .alloc t => match K.T t, freeOf L nameList with
    | some ti, some m => some ⟨[], .ptr m 0, [m], [(m, .box ti.zero)]⟩
    | _, _ => none
  | .box t x => match opS K E x, freeOf L nameList with
    | some a0, some m => match a0.cells with
      | some cs => some ⟨slotsOf [x], .ptr m 0, [m], [(m, .box cs)]⟩
      | none => none
    | _, _ => none
  | .store t p x => match K.T t, opS K E p, opS K E x with
    | some ti, some (.ptr m off), some a0 => match a0.cells, getS L m with
      | some xs, .box cs => match Nat.beq xs.length ti.sz && Nat.ble (off + ti.sz) cs.length && xs.all flat with
        | true => some ⟨slotsOf [p, x], .undef, [m], [(m, .box (putAt cs off xs))]⟩
        | false => none
      | _, _ => none
    | some ti, some (.eptr m sz i off), some a0 => match a0.cells, getS L m with
      | some vs, .arr e' sz' xs => match xs[i]? with
        | some y => match y.cells, putElem y off vs with
          | some cs, some y' => match Nat.beq sz' sz && (Nat.beq vs.length ti.sz && Nat.ble (off + ti.sz) cs.length && vs.all flat && bareL vs && (isRowK ti.kind || Nat.beq cs.length 1 || true)) with
            | true => some ⟨slotsOf [p, x], .undef, [m], [(m, .arr e' sz (xs.set i y'))]⟩
            | false => none
          | _, _ => none
        | none => none
      | _, _ => none
    | _, _, _ => none
  | .buildSlice t len parts => match K.T t with
    | some ⟨_, _, _, .slice e⟩ => match K.T e with
      | some ti => match partsS K E ti.sz parts.toList 0 with
        | some ys => match Nat.beq parts.toList.length len && Nat.ble (len * ti.sz) 16777216 && Nat.blt 0 ti.sz, freeOf L nameList with
          | true, some m => some ⟨slotsOf (parts.toList.map (·.2)), .lst ys, [m], [(m, .dead)]⟩
          | _, _ => none
        | none => none
      | none => none
    | _ => none
  | .indexAddr t x i => match K.T t with
    | some ⟨_, _, _, .slice e⟩ => match K.T e, opS K E x, opS K E i with
      | some ti, some (.lst xs), some (.int k (.ofNat j)) => match xs[j]? with
        | some y => match y.cells with
          | some cs => match Nat.beq cs.length ti.sz with
            | true => some ⟨slotsOf [x, i], .rptr y 0, [], []⟩
            | false => none
          | none => none
        | none => none
      | some ti, some (.own m), some (.int k (.ofNat j)) => match getS L m with
        | .arr e' sz xs => match Nat.beq sz ti.sz, Nat.blt j xs.length with
          | true, true => some ⟨slotsOf [x, i], .eptr m sz j 0, [m], []⟩
          | _, _ => none
        | _ => none
      | _, _, _ => none
    | _ => pureE K E L (.indexAddr t x i)
  | .load t p => match opS K E p with
    | some (.eptr m sz i off) => match K.T t, getS L m with
      | some ti, .arr e' sz' xs => match Nat.beq sz' sz, xs[i]? with
        | true, some y => match y.cells with
          | some cs => match cellsAt ti cs off with
            | some v' => match force v' with
              | some v => some ⟨slotsOf [p], v, [m], []⟩
              | none => none
            | none => none
          | none => none
        | _, _ => none
      | _, _ => none
    | _ => pureE K E L (.load t p)
  | .binOp .rem t x y u => remE K E .rem x y
  | .binOp .quo t x y u => remE K E .quo x y
  | o => pureE K E L o
variable {K : Ctx} {N : Nat} {E : List (Nat × AV)} {L : List (Nat × AObj)} {o : Oper}
theorem opEF_ok (hK : K.Ok) {op : Op} (hop : o.op = op) {s : Ef} (h : opEF K E L op = some s) (hd : dstB o.dst N = true) : SpOk K N (o, none) ⟨s.rs, o.dst, s.v, s.R, s.W⟩ E L := by
  unfold opEF at h
  split at h
  · split at h
    · rename_i ti m ht hm; cases h; exact Sp_alloc hK _ hop ht (freeOf_free hm) hd
    · cases h
  · split at h
    · rename_i a0 m hx hm
      split at h
      · rename_i hcs; cases h; exact Sp_box hK _ hop hx hcs (freeOf_free hm) hd
      · cases h
    · cases h
  · split at h
    · rename_i ti m off a0 ht hp hx
      split at h
      · rename_i xs cs hxs hm
        split at h
        · rename_i hc; cases h; exact Sp_store hK hop ht hp hx hxs hm hc hd
        · cases h
      · cases h
    · rename_i ti m sz i off a0 ht hp hx
      split at h
      · rename_i vs e' sz' xs hvs hm
        split at h
        · rename_i y hy
          split at h
          · rename_i cs y' hcs hy'
            split at h
            · rename_i hc
              rw [Bool.and_eq_true] at hc
              have := Nat.eq_of_beq_eq_true hc.1
              subst this
              cases h; exact Sp_store_elem hK hop ht hp hm hy hcs hx hvs hy' hc.2 hd
            · cases h
          · cases h
        · cases h
      · cases h
    · cases h
  · split at h
    · rename_i e ht
      split at h
      · rename_i ti he
        split at h
        · rename_i ys hys
          split at h
          · rename_i hlen hm; cases h; exact Sp_litR hK _ hop ht he hys hlen (freeOf_free hm) hd
          · cases h
        · cases h
      · cases h
    · cases h
  · split at h
    · rename_i e ht
      split at h
      · rename_i ti xs k j he hx hi
        split at h
        · rename_i y hy
          split at h
          · rename_i cs hcs
            split at h
            · rename_i hl; cases h; exact Sp_index_lst hK y hop ht he hx hi (by simpa using hy) (by simp) hcs hl hd
            · cases h
          · cases h
        · cases h
      · rename_i ti m k j he hx hi
        split at h
        · rename_i e' sz xs hm
          split at h
          · rename_i hsz hlt
            cases h
            have hlt : j < xs.length := by simp [Nat.blt] at hlt; omega
            exact Sp_index_own hK (j := Int.ofNat j) hop ht he hx hi hm hsz (by simp) (by simpa using hlt) hd
          · cases h
        · cases h
      · cases h
    · exact pureE_ok hK hop h hd
  · split at h
    · rename_i m sz i off hp
      split at h
      · rename_i ti e' sz' xs ht hm
        split at h
        · rename_i y hsz hy
          split at h
          · rename_i cs hcs
            split at h
            · rename_i v' hv
              split at h
              · rename_i v hv'
                have := Nat.eq_of_beq_eq_true hsz
                subst this
                cases h; exact Sp_load_elem hK hop ht hp hm hy hcs hv hv' hd
              · cases h
            · cases h
          · cases h
        · cases h
      · cases h
    · exact pureE_ok hK hop h hd
  · exact remE_ok hop h hd
  · exact remE_ok hop h hd
  · exact pureE_ok hK hop h hd
/-- An operation with its guard, the state behind it. -/
def stEF (K : Ctx) (N : Nat) (E : List (Nat × AV)) (L : List (Nat × AObj)) : Oper × Option (Nat × Bool) → Option Ef
  | (o, none) => opEF K E L o.op
  | (o, some (t, b)) => match getE E t with
    | .bool true => match b with
      | true => match opEF K E L o.op with
        | some s => some ⟨t :: s.rs, s.v, s.R, s.W⟩
        | none => none
      | false => some ⟨[t], .tup [], [], []⟩
    | .bool false => match b with
      | false => match opEF K E L o.op with
        | some s => some ⟨t :: s.rs, s.v, s.R, s.W⟩
        | none => none
      | true => some ⟨[t], .tup [], [], []⟩
    | .tup [] => some ⟨[t], .tup [], [], []⟩
    | _ => none
theorem stEF_ok (hK : K.Ok) {x : Oper × Option (Nat × Bool)} {s : Ef} (h : stEF K N E L x = some s) (hg : gB x.2 N = true) (hd : dstB x.1.dst N = true) : SpOk K N x ⟨s.rs, x.1.dst, s.v, s.R, s.W⟩ E L := by
  obtain ⟨o, g⟩ := x
  cases g with
  | none => exact opEF_ok hK rfl h hd
  | some tb =>
    obtain ⟨t, b⟩ := tb
    simp only [stEF] at h
    split at h
    · rename_i hg'
      split at h
      · split at h
        · rename_i s' hs
          cases h
          exact Sp_run hg' hg hd (opEF_ok hK rfl hs hd)
        · cases h
      · cases h
        exact Sp_not hg' rfl hg hd
    · rename_i hg'
      split at h
      · split at h
        · rename_i s' hs
          cases h
          exact Sp_run hg' hg hd (opEF_ok hK rfl hs hd)
        · cases h
      · cases h
        exact Sp_not hg' rfl hg hd
    · rename_i hg'
      cases h
      exact Sp_none hg' hg hd
    · cases h
/-- .. with all brought to constructors. -/
def stSF (K : Ctx) (N : Nat) (E : List (Nat × AV)) (L : List (Nat × AObj)) (x : Oper × Option (Nat × Bool)) : Option (Sk × List (Nat × AV) × List (Nat × AObj)) :=
  match gB x.2 N, stEF K N E L x with
  | true, some s => match force s.v with
    | some v => match forceW s.W, dstE E N x.1.dst v with
      | some W, some E' => match skP s.rs x.1.dst s.R (W.map (·.1)) with
        | some k => match W with
          | [] => some (k, E', L)
          | [x] => some (k, E', x :: L)
          | [x, y] => some (k, E', x :: y :: L)
          | W => some (k, E', W ++ L)
        | none => none
      | _, _ => none
    | none => none
  | _, _ => none
theorem stSF_ok (hK : K.Ok) {x : Oper × Option (Nat × Bool)} {k : Sk} {E' : List (Nat × AV)} {L' : List (Nat × AObj)} (h : stSF K N E L x = some (k, E', L')) :
    ∃ s : Sp, SpOk K N x s E L ∧ s.sk = k ∧ E' = putE E s.dst s.v ∧ L' = s.W ++ L := by
  unfold stSF at h
  split at h
  · rename_i s hg hs
    split at h
    · rename_i v hv
      split at h
      · rename_i W E1 hW hE
        split at h
        · rename_i k1 hk
          have h : k1 = k ∧ E1 = E' ∧ W ++ L = L' := by
            split at h <;> (simp only [Option.some.injEq, Prod.mk.injEq] at h; exact h)
          obtain ⟨rfl, rfl, rfl⟩ := h
          have hv := force_eq hv
          subst hv
          have hW := forceW_eq hW
          subst hW
          obtain ⟨h1, h2⟩ := dstE_dstB hE
          exact ⟨_, stEF_ok hK hs hg h1, (skP_eq hk).symm, h2.symm, rfl⟩
        · cases h
      · cases h
    · cases h
  · cases h
/-- Up to m of them. -/
def stNF (K : Ctx) (N : Nat) : Nat → List Sk → List (Nat × AV) → List (Nat × AObj) → List (Oper × Option (Nat × Bool)) → Option (List Sk × List (Nat × AV) × List (Nat × AObj) × List (Oper × Option (Nat × Bool)))
  | 0, ks, E, L, gs => some (ks, E, L, gs)
  | m + 1, ks, E, L, [] => none
  | m + 1, ks, E, L, x :: r => match stSF K N E L x with
    | some (k, E', L') => stNF K N m (ks ++ [k]) E' L' r
    | none => none
section
variable {C0 : Cfg} {ds : Nat × Nat} {F : Fence} {n : Nat} {Q : Exit → Act → World → Prop} {ops : Array Oper} {E' : List (Nat × AV)} {L' : List (Nat × AObj)} {r : List (Oper × Option (Nat × Bool))} {x : Oper × Option (Nat × Bool)} {done : List Sk} {k : Sk} {X : Act → World → Prop}
theorem G_opF [OpenF F] (hK : K.Ok) (hs : stSF K N E L x = some (k, E', L')) (h : G K C0 ⟨E', N, ds⟩ L' (wpG F n K.P Q r)) : G K C0 ⟨E, N, ds⟩ L (wpG F n K.P Q (x :: r)) := by
  obtain ⟨s, h1, h2, rfl, rfl⟩ := stSF_ok hK hs
  exact G_sp h1 h
theorem D_opF (hK : K.Ok) (hs : stSF K N E L x = some (k, E', L')) (h : DrawG K C0 N ds ops (done ++ [k]) r E' L' X) : DrawG K C0 N ds ops done (x :: r) E L X := by
  obtain ⟨s, h1, h2, rfl, rfl⟩ := stSF_ok hK hs
  exact D_sp h1 (h2 ▸ h)
theorem stNF_ok (hK : K.Ok) : ∀ {m : Nat} {ks ks' : List Sk} {E E' : List (Nat × AV)} {L L' : List (Nat × AObj)} {gs r : List (Oper × Option (Nat × Bool))}, stNF K N m ks E L gs = some (ks', E', L', r) →
    (∀ (C0 : Cfg) (ds : Nat × Nat) (F : Fence) [OpenF F] (n : Nat) (Q : Exit → Act → World → Prop), G K C0 ⟨E', N, ds⟩ L' (wpG F n K.P Q r) → G K C0 ⟨E, N, ds⟩ L (wpG F n K.P Q gs)) ∧
    (∀ (C0 : Cfg) (ds : Nat × Nat) (ops : Array Oper) (X : Act → World → Prop), DrawG K C0 N ds ops ks' r E' L' X → DrawG K C0 N ds ops ks gs E L X)
  | 0, ks, ks', E, E', L, L', gs, r, h => by
    simp only [stNF, Option.some.injEq, Prod.mk.injEq] at h
    obtain ⟨rfl, rfl, rfl, rfl⟩ := h
    exact ⟨fun _ _ _ _ _ _ h => h, fun _ _ _ _ h => h⟩
  | m + 1, ks, ks', E, E', L, L', [], r, h => by simp [stNF] at h
  | m + 1, ks, ks', E, E', L, L', x :: gs, r, h => by
    simp only [stNF] at h
    split at h
    · rename_i k E1 L1 hs
      obtain ⟨h1, h2⟩ := stNF_ok hK h
      exact ⟨fun C0 ds F _ n Q hh => G_opF hK hs (h1 C0 ds F n Q hh), fun C0 ds ops X hh => D_opF hK hs (h2 C0 ds ops X hh)⟩
    · cases h
theorem G_opsF [OpenF F] (hK : K.Ok) (m : Nat) {gs : List (Oper × Option (Nat × Bool))} {ks : List Sk} (hs : stNF K N m [] E L gs = some (ks, E', L', r)) (h : G K C0 ⟨E', N, ds⟩ L' (wpG F n K.P Q r)) : G K C0 ⟨E, N, ds⟩ L (wpG F n K.P Q gs) :=
  (stNF_ok hK hs).1 C0 ds F n Q h
theorem D_opsF (hK : K.Ok) (m : Nat) {gs : List (Oper × Option (Nat × Bool))} {ks : List Sk} (hs : stNF K N m done E L gs = some (ks, E', L', r)) (h : DrawG K C0 N ds ops ks r E' L' X) : DrawG K C0 N ds ops done gs E L X :=
  (stNF_ok hK hs).2 C0 ds ops X h
end
end Go.Asl
/- Equality of bools. -/
set_option linter.unusedVariables false
set_option linter.unusedSimpArgs false
namespace Go.Asl
open Go.RowKit
variable {K : Ctx} {C0 : Cfg} {E : List (Nat × AV)} {N : Nat} {ds : Nat × Nat} {L L' : List (Nat × AObj)} {F : Fence} {n : Nat} {Q : Exit → Act → World → Prop}
  {o : Oper} {r : List (Oper × Option (Nat × Bool))} {E' : List (Nat × AV)}
theorem bool_facts {P : Program} {s : Nat} {sz bytes : Nat} {zero : List AV} (h : TFacts P s ⟨sz, bytes, zero, .bool⟩) : P.underlying s = some .bool := by
  obtain ⟨d, h1, h2⟩ := h.desc
  cases d <;> simp [kindIs] at h2
  exact h1
theorem G_eqB [OpenF F] (hK : K.Ok) {neg : Bool} {op : BinOp} {t u : TypeId} {x y : Operand} {b1 b2 : Nat} {z : List AV} {a b : Bool} (hneg : op = (if neg then .neq else .eql)) (hop : o.op = .binOp op t x y u) (ht : K.T t = some ⟨b1, b2, z, .bool⟩)
    (hx : opS K E x = some (.bool a)) (hy : opS K E y = some (.bool b)) (hd : dstE E N o.dst (.bool (neg != decide (a = b))) = some E')
    (h : G K C0 ⟨E', N, ds⟩ L (wpG F n K.P Q r)) : G K C0 ⟨E, N, ds⟩ L (wpG F n K.P Q ((o, none) :: r)) := by
  refine G_value (by simp [hop]) hd (fun φ w fb c hS hG hF => ?_) h
  have hxv := opS_VV hx hG hF
  have hyv := opS_VV hy hG hF
  simp only [VV] at hxv hyv
  have hu := bool_facts (hK.facts ht)
  refine ⟨.bool (neg != decide (a = b)), φ, w, binOp_run hop ?_, Stp.refl _, hS, by simp only [VV]⟩
  rw [hxv, hyv, Sem.run_bind, eqGuard_at_bool, Sem.run_pure, Result.andThen_ok]
  cases neg with
  | true =>
    simp only [if_true] at hneg
    subst hneg
    rw [run_neq_bool w t a b hu]
    cases a <;> cases b <;> rfl
  | false =>
    simp only [Bool.false_eq_true, if_false] at hneg
    subst hneg
    rw [run_eql_bool w t a b hu]
    cases a <;> cases b <;> rfl
theorem G_eqBS [OpenF F] (hK : K.Ok) (neg : Bool) {op : BinOp} {t u : TypeId} {x y : Operand} {b1 b2 : Nat} {z : List AV} {a : Bool} (hop : o.op = .binOp op t x y u) (hneg : op = (if neg then .neq else .eql)) (ht : K.T t = some ⟨b1, b2, z, .bool⟩)
    (hx : opS K E x = some (.bool a)) (hy : opS K E y = some (.bool a)) (hd : dstE E N o.dst (.bool (!neg)) = some E')
    (h : G K C0 ⟨E', N, ds⟩ L (wpG F n K.P Q r)) : G K C0 ⟨E, N, ds⟩ L (wpG F n K.P Q ((o, none) :: r)) := by
  refine G_eqB hK hneg hop ht hx hy ?_ h
  have : (neg != decide (a = a)) = !neg := by simp
  rw [this]; exact hd
theorem Sp_eqB (hK : K.Ok) (neg : Bool) {op : BinOp} {t u : TypeId} {x y : Operand} {b1 b2 : Nat} {z : List AV} {a b : Bool} (hop : o.op = .binOp op t x y u) (hneg : op = (if neg then .neq else .eql)) (ht : K.T t = some ⟨b1, b2, z, .bool⟩)
    (hx : opS K E x = some (.bool a)) (hy : opS K E y = some (.bool b)) (hd : dstB o.dst N = true) : SpOk K N (o, none) ⟨slotsOf [x, y], o.dst, .bool (neg != decide (a = b)), [], []⟩ E L := by
  intro C0 ds F _ n Q r E' L' hE hL h
  have ha := opS_agree (K := K) (l := [x, y]) (fun t ht => ht) hE
  exact G_eqB hK hneg hop ht ((ha x (by simp)).trans hx) ((ha y (by simp)).trans hy) (dstB_ok _ hd) h
section
variable {ops : Array Oper} {done : List Sk} {k : Sk} {X : Act → World → Prop} {g : Option (Nat × Bool)}
theorem D_eqB (hK : K.Ok) (neg : Bool) {op : BinOp} {t u : TypeId} {x y : Operand} {b1 b2 : Nat} {z : List AV} {a b : Bool} (hg : guardS E N g = true) (hop : o.op = .binOp op t x y u) (hneg : op = (if neg then .neq else .eql)) (ht : K.T t = some ⟨b1, b2, z, .bool⟩)
    (hx : opS K E x = some (.bool a)) (hy : opS K E y = some (.bool b)) (hd : dstE E N o.dst (.bool (neg != decide (a = b))) = some E')
    (hk : skP (guardR g (slotsOf [x, y])) o.dst [] [] = some k) (h : DrawG K C0 N ds ops (done ++ [k]) r E' L X) : DrawG K C0 N ds ops done ((o, g) :: r) E L X :=
  D_of (Sp_guard hg (dstE_dstB hd).1 (Sp_eqB hK neg hop hneg ht hx hy (dstE_dstB hd).1)) hk hd h
end
end Go.Asl
/- A law's statement out of its contract: the arguments opened, and read again behind the call. -/
set_option linter.unusedVariables false
namespace Go.Asl
open Go.RowKit
/-- An element out of its cells. -/
def mkE (row : Bool) (ys : List AV) : AV := match row with
  | true => .agg ys
  | false => ys.headD .undef
def szT (K : Ctx) (t : Nat) : Nat := match K.T t with
  | some ti => ti.sz
  | none => 0
def rowT (K : Ctx) (t : Nat) : Bool := match K.T t with
  | some ti => isRowK ti.kind
  | none => false
/-- What cells of a type look like. -/
def shC (K : Ctx) : Nat → Nat → List AV → Prop
  | 0, _, _ => False
  | n + 1, t, cs => match K.T t with
    | some ⟨_, _, _, .int k⟩ => ∃ m, cs = [.int k m] ∧ (Lit.int k m).wf = true
    | some ⟨_, _, _, .bool⟩ => ∃ b, cs = [.bool b]
    | some ⟨_, _, _, .string⟩ => ∃ s : ByteArray, cs = [.str s] ∧ s.size ≤ maxLen
    | some ⟨_, _, _, .slice e⟩ => ∃ xs, cs = [.lst xs] ∧ xs.length ≤ maxLen ∧ ∀ x ∈ xs, ∃ ys, x = mkE (rowT K e) ys ∧ ys.length = szT K e ∧ shC K n e ys
    | some ⟨sz, _, _, .array len e⟩ => cs.length = sz ∧ ∀ i, i < len → shC K n e ((cs.drop (i * szT K e)).take (szT K e))
    | some ⟨sz, _, _, .struct fs⟩ => cs.length = sz ∧ ∀ f ∈ fs, shC K n f.2 ((cs.drop f.1).take (szT K f.2))
    | _ => False
def tilesT (K : Ctx) : Nat → List (Nat × Nat) → Option Nat
  | o, [] => some o
  | o, (off, t) :: r => match Nat.beq off o with
    | true => tilesT K (o + szT K t) r
    | false => none
/-- Types of integers, bools, strings, and of slices, arrays and structs of such. -/
def plainK (K : Ctx) : Nat → Nat → Bool
  | 0, _ => false
  | n + 1, t => match K.T t with
    | some ⟨sz, _, _, .int _⟩ => Nat.beq sz 1
    | some ⟨sz, _, _, .bool⟩ => Nat.beq sz 1
    | some ⟨sz, _, _, .string⟩ => Nat.beq sz 1
    | some ⟨sz, _, _, .slice e⟩ => Nat.beq sz 1 && plainK K n e && Nat.blt 0 (szT K e) && (rowT K e || Nat.beq (szT K e) 1)
    | some ⟨sz, _, _, .array len e⟩ => plainK K n e && Nat.beq sz (len * szT K e)
    | some ⟨sz, _, _, .struct fs⟩ => fs.all (fun f => plainK K n f.2) && (match tilesT K 0 fs with
      | some m => Nat.beq m sz
      | none => false)
    | _ => false
section
variable {K : Ctx} {W : World} {C : VC} {H : Type} {enc : TypeId × Value → H}
theorem cellsOf_sz (hK : K.Ok) {t : Nat} {ti : TI} (h : K.T t = some ti) : K.P.cellsOf t = szT K t := by
  obtain ⟨i, h1, h2, _⟩ := (hK.facts h).info
  simp [Program.cellsOf, h1, szT, h, h2]
theorem plainK_some {n t : Nat} (h : plainK K n t = true) : ∃ ti, K.T t = some ti := by
  cases n with
  | zero => simp [plainK] at h
  | succ n =>
    cases ht : K.T t with
    | none => simp [plainK, ht] at h
    | some ti => exact ⟨ti, rfl⟩
theorem VEs_flat {as : List AV} {cs : List Value} (h : VEs C as cs) (hf : as.all flat = true) : ∀ u ∈ cs, u.oneCell' = true := VEs_one hf h
/-- Cells one behind the other. -/
theorem VEs_app : ∀ {as bs : List AV} {us vs : List Value}, VEs C as us → VEs C bs vs → VEs C (as ++ bs) (us ++ vs)
  | [], bs, us, vs, h1, h2 => by simp only [VEs] at h1; subst h1; exact h2
  | a :: as, bs, us, vs, h1, h2 => by
    simp only [VEs] at h1
    obtain ⟨c, r, rfl, h3, h4⟩ := h1
    exact ⟨c, r ++ vs, rfl, h3, VEs_app h4 h2⟩
theorem open_fields (hK : K.Ok) {P' : Nat → List AV → Prop} (cs : List Value) : ∀ (fs : List (Nat × Nat)) (o m : Nat), tilesT K o fs = some m →
    (∀ f ∈ fs, ∃ as, VEs C as ((cs.drop f.1).take (szT K f.2)) ∧ as.all flat = true ∧ as.length = szT K f.2 ∧ P' f.2 as) →
    ∃ as, VEs C as ((cs.drop o).take (m - o)) ∧ as.all flat = true ∧ o ≤ m ∧ as.length = m - o ∧ ∀ f ∈ fs, o ≤ f.1 ∧ P' f.2 ((as.drop (f.1 - o)).take (szT K f.2))
  | [], o, m, h, _ => by
    simp only [tilesT, Option.some.injEq] at h
    subst h
    exact ⟨[], by simp [VEs], rfl, Nat.le_refl _, by simp, fun f hf => by cases hf⟩
  | (off, t) :: r, o, m, h, hf => by
    simp only [tilesT] at h
    split at h
    · rename_i e
      have e := Nat.eq_of_beq_eq_true e
      subst e
      obtain ⟨a1, q1, q2, q3, q4⟩ := hf (off, t) (by simp)
      obtain ⟨a2, p1, p2, p3, p5, p4⟩ := open_fields hK cs r _ m h (fun f hfr => hf f (by simp [hfr]))
      refine ⟨a1 ++ a2, ?_, by simp [q2, p2], by omega, by rw [List.length_append, q3, p5]; simp only; omega, ?_⟩
      · have := VEs_app q1 p1
        have e3 : (cs.drop off).take (m - off) = (cs.drop off).take (szT K t) ++ (cs.drop (off + szT K t)).take (m - (off + szT K t)) := by
          rw [show m - off = szT K t + (m - (off + szT K t)) by omega, List.take_add, List.drop_drop]
        rw [e3]; exact this
      · intro f hfm
        simp only [List.mem_cons] at hfm
        rcases hfm with rfl | hfm
        · refine ⟨Nat.le_refl _, ?_⟩
          simp only [Nat.sub_self, List.drop_zero]
          rw [List.take_left' q3]
          exact q4
        · obtain ⟨g1, g2⟩ := p4 f hfm
          refine ⟨by omega, ?_⟩
          rw [List.drop_append, List.drop_of_length_le (by rw [q3]; simp only; omega), List.nil_append, q3]
          simp only
          rw [show f.1 - off - szT K t = f.1 - (off + szT K t) by omega]
          exact g2
    · cases h
theorem open_array {P' : List AV → Prop} (cs : List Value) (sz : Nat) : ∀ (n : Nat), (∀ i, i < n → ∃ as, VEs C as ((cs.drop (i * sz)).take sz) ∧ as.all flat = true ∧ as.length = sz ∧ P' as) →
    ∃ as, VEs C as (cs.take (n * sz)) ∧ as.all flat = true ∧ as.length = n * sz ∧ ∀ i, i < n → P' ((as.drop (i * sz)).take sz)
  | 0, _ => ⟨[], by simp [VEs], rfl, by simp, fun i hi => by omega⟩
  | n + 1, h => by
    obtain ⟨a1, p1, p2, p3, p4⟩ := open_array cs sz n (fun i hi => h i (by omega))
    obtain ⟨a2, q1, q2, q3, q4⟩ := h n (by omega)
    refine ⟨a1 ++ a2, ?_, by simp [q2, p2], by rw [List.length_append, p3, q3, Nat.add_mul]; omega, fun i hi => ?_⟩
    · rw [Nat.add_mul, Nat.one_mul, List.take_add]
      exact VEs_app p1 q1
    · by_cases hin : i < n
      · have hle : i * sz + sz ≤ n * sz := by rw [← Nat.succ_mul]; exact Nat.mul_le_mul_right _ hin
        rw [List.drop_append_of_le_length (by omega), List.take_append_of_le_length (by simp; omega)]
        exact p4 i hin
      · have : i = n := by omega
        subst this
        rw [List.drop_append, List.drop_of_length_le (by omega), List.nil_append, p3, Nat.sub_self, List.drop_zero, List.take_of_length_le (by omega)]
        exact q4
theorem trod_int' {P : Program} {t : Nat} {k : IntKind} (hu : P.underlying t = some (.int k)) {n : Nat} {cs : List Value} {x : DataW H × List MemPlace} (h : DataW.trod enc P W 0 (fun _ => true) true (n + 1) t cs = some x) : ∃ m, cs = [.int k m] ∧ (Lit.int k m).wf = true := by
  rcases cs with _ | ⟨c, _ | ⟨c2, r⟩⟩
  · simp [DataW.trod, hu] at h
  · cases c <;> simp [DataW.trod, hu] at h
    obtain ⟨⟨rfl, h2⟩, _⟩ := h
    exact ⟨_, rfl, h2⟩
  · simp [DataW.trod, hu] at h
theorem trod_bool' {P : Program} {t : Nat} (hu : P.underlying t = some .bool) {n : Nat} {cs : List Value} {x : DataW H × List MemPlace} (h : DataW.trod enc P W 0 (fun _ => true) true (n + 1) t cs = some x) : ∃ b, cs = [.bool b] := by
  rcases cs with _ | ⟨c, _ | ⟨c2, r⟩⟩
  · simp [DataW.trod, hu] at h
  · cases c <;> simp [DataW.trod, hu] at h
    exact ⟨_, rfl⟩
  · simp [DataW.trod, hu] at h
theorem trod_string' {P : Program} {t : Nat} (hu : P.underlying t = some .string) {n : Nat} {cs : List Value} {x : DataW H × List MemPlace} (h : DataW.trod enc P W 0 (fun _ => true) true (n + 1) t cs = some x) : ∃ s, cs = [.string s] ∧ s.size ≤ maxLen := by
  rcases cs with _ | ⟨c, _ | ⟨c2, r⟩⟩
  · simp [DataW.trod, hu] at h
  · cases c <;> simp [DataW.trod, hu] at h
    exact ⟨_, rfl, h.1⟩
  · simp [DataW.trod, hu] at h
theorem trod_open (hK : K.Ok) (hst : ∀ b, b < W.heap.size → C.st b) (hw : C.w = W) : ∀ (d n t : Nat) (cs : List Value) (x : DataW H × List MemPlace), plainK K d t = true → DataW.trod enc K.P W 0 (fun _ => true) true n t cs = some x →
    ∃ as, VEs C.bare as cs ∧ as.all flat = true ∧ as.length = szT K t ∧ shC K d t as := by
  intro d
  induction d with
  | zero => intro n t cs x hp; simp [plainK] at hp
  | succ d ih =>
    intro n t cs x hp h
    obtain ⟨ti, ht⟩ := plainK_some hp
    obtain ⟨sz, by', z, kd⟩ := ti
    cases n with
    | zero => simp [DataW.trod] at h
    | succ n =>
      cases kd with
      | int k =>
        have hu := int_facts (hK.facts ht)
        simp only [plainK, ht] at hp
        have hp := Nat.eq_of_beq_eq_true hp
        obtain ⟨m, rfl, hwf⟩ := trod_int' hu h
        refine ⟨[.int k m], ⟨_, [], rfl, by simp only [VE], rfl⟩, rfl, by simp [szT, ht, hp], ?_⟩
        simp only [shC, ht]
        exact ⟨m, rfl, hwf⟩
      | bool =>
        have hu := bool_facts (hK.facts ht)
        simp only [plainK, ht] at hp
        have hp := Nat.eq_of_beq_eq_true hp
        obtain ⟨b, rfl⟩ := trod_bool' hu h
        refine ⟨[.bool b], ⟨_, [], rfl, by simp only [VE], rfl⟩, rfl, by simp [szT, ht, hp], ?_⟩
        simp only [shC, ht]
        exact ⟨b, rfl⟩
      | string =>
        have hu := string_facts (hK.facts ht)
        simp only [plainK, ht] at hp
        have hp := Nat.eq_of_beq_eq_true hp
        obtain ⟨s, rfl, hs⟩ := trod_string' hu h
        refine ⟨[.str s], ⟨_, [], rfl, by simp only [VE], rfl⟩, rfl, by simp [szT, ht, hp], ?_⟩
        simp only [shC, ht]
        exact ⟨s, rfl, hs⟩
      | slice e =>
        have hu := slice_facts (hK.facts ht)
        simp only [plainK, ht, Bool.and_eq_true, Bool.or_eq_true] at hp
        obtain ⟨⟨⟨hp1, hp2⟩, hp3⟩, hp4⟩ := hp
        have hp1 := Nat.eq_of_beq_eq_true hp1
        have hp3 : 0 < szT K e := by simp [Nat.blt] at hp3; omega
        obtain ⟨te, hte⟩ := plainK_some hp2
        have hce := cellsOf_sz hK hte
        rcases Deep.open_slice hu h with ⟨rfl, rfl⟩ | ⟨a, len, cap, m, n', D, Pl, rfl, hb, hl, hm, hmm, rfl, hx⟩
        · refine ⟨[.lst []], ⟨_, [], rfl, ?_, rfl⟩, rfl, by simp [szT, ht, hp1], ?_⟩
          · simp only [VE]
            exact ⟨none, 0, 1, [], rfl, by simp, by simp [VErow], fun hh => absurd rfl hh⟩
          · simp only [shC, ht]
            exact ⟨[], rfl, by simp, fun x hx => by cases hx⟩
        · simp only [if_true] at hmm
          subst hmm
          rw [hce] at hx
          -- the elements, one by one
          have key : ∀ k, k ≤ len → ∃ (xs : List AV) (us : List Value), xs.length = k ∧ us.length = k * szT K e ∧ VErow C.bare (szT K e) xs us ∧ (∀ j u, us[j]? = some u → W.cell? (a.add j) = some u) ∧
              (∀ x ∈ xs, ∃ ys, x = mkE (rowT K e) ys ∧ ys.length = szT K e ∧ shC K d e ys) := by
            intro k
            induction k with
            | zero => intro _; exact ⟨[], [], rfl, by simp, by simp [VErow], by simp, fun x hx => by cases hx⟩
            | succ k ihk =>
              intro hk
              obtain ⟨xs, us, e1, e2, e3, e4, e5⟩ := ihk (by omega)
              obtain ⟨cs', g1, g2⟩ := hx k (by omega)
              obtain ⟨_, g3, g4⟩ := World.cells?_some g1
              obtain ⟨as, q1, q2, q3, q4⟩ := ih n' e cs' _ hp2 g2
              have hone := VEs_one q2 q1
              have hrow : VErow C.bare (szT K e) [mkE (rowT K e) as] cs' := by
                refine ⟨cs', [], by simp, ⟨g3, hone⟩, ?_, rfl⟩
                cases hr : rowT K e with
                | true => simp only [mkE, VE]; exact q1
                | false =>
                  have h1 : szT K e = 1 := by rcases hp4 with hp4 | hp4; (rw [hr] at hp4; cases hp4); exact Nat.eq_of_beq_eq_true hp4
                  match as, q1, (by rw [q3, h1] : as.length = 1) with
                  | [y], q1, _ =>
                    simp only [VEs] at q1
                    obtain ⟨c, r, rfl, q5, rfl⟩ := q1
                    exact q5
              refine ⟨xs ++ [mkE (rowT K e) as], us ++ cs', by simp [e1], by rw [List.length_append, e2, g3, Nat.add_mul]; omega, VErow_append e3 hrow, ?_, ?_⟩
              · intro j u hj
                by_cases hju : j < us.length
                · rw [List.getElem?_append_left hju] at hj
                  exact e4 j u hj
                · rw [List.getElem?_append_right (by omega), e2] at hj
                  have hlt : j - k * szT K e < szT K e := by
                    have := (List.getElem?_eq_some_iff.1 hj).1
                    omega
                  have := g4 (j - k * szT K e) hlt
                  rw [add_add] at this
                  rw [show k * szT K e + (j - k * szT K e) = j by omega] at this
                  rw [this]; exact hj
              · intro y hy
                rcases List.mem_append.1 hy with hy | hy
                · exact e5 y hy
                · simp only [List.mem_singleton] at hy
                  exact ⟨as, hy, q3, q4⟩
          obtain ⟨xs, us, e1, e2, e3, e4, e5⟩ := key len (Nat.le_refl _)
          subst e1
          refine ⟨[.lst xs], ⟨_, [], rfl, ?_, rfl⟩, rfl, by simp [szT, ht, hp1], ?_⟩
          · simp only [VE]
            refine ⟨some a, m, szT K e, us, rfl, hl, e3, fun hne => ⟨a, rfl, ?_⟩⟩
            have hpos : 0 < us.length := by rw [e2]; exact Nat.mul_pos (List.length_pos_iff.2 hne) hp3
            have h0 := e4 0 us[0] (List.getElem?_eq_getElem hpos)
            have ha0 : a.add 0 = a := by simp [Addr.add]
            rw [ha0] at h0
            refine ⟨?_, hst _ ?_, fun i u hi => by show C.w.cell? _ = _; rw [hw]; exact e4 i u hi⟩
            · unfold World.cell? at h0
              split at h0
              · split at h0
                · cases h0
                · rename_i hs; simpa using hs
              · cases h0
            · unfold World.cell? at h0
              split at h0
              · rename_i hb'
                exact (Array.getElem?_eq_some_iff.1 hb').1
              · cases h0
          · simp only [shC, ht]
            exact ⟨xs, rfl, by omega, e5⟩
      | array len e =>
        have hu := array_facts (hK.facts ht)
        simp only [plainK, ht, Bool.and_eq_true] at hp
        obtain ⟨hp1, hp2⟩ := hp
        have hp2 := Nat.eq_of_beq_eq_true hp2
        obtain ⟨te, hte⟩ := plainK_some hp1
        have hce := cellsOf_sz hK hte
        obtain ⟨xs, m, _, _, hlen, hxl, hxs⟩ := DataW.trod_array hu h
        rw [cellsOf_sz hK ht] at hlen
        have hsz : szT K t = len * szT K e := by simp [szT, ht, hp2]
        obtain ⟨as, p1, p2, p3, p4⟩ := open_array (C := C.bare) (P' := shC K d e) cs (szT K e) len (fun i hi => by
          have hh := hxs i hi
          rw [hce] at hh
          obtain ⟨y, hy⟩ : ∃ y, xs[i]? = some y := ⟨xs[i], List.getElem?_eq_getElem (by omega)⟩
          rw [hy] at hh
          obtain ⟨bs, q1, q2, q3, q4⟩ := ih m e _ _ hp1 hh
          exact ⟨bs, q1, q2, q3, q4⟩)
        rw [List.take_of_length_le (by omega)] at p1
        refine ⟨as, p1, p2, by omega, ?_⟩
        simp only [shC, ht]
        exact ⟨by omega, p4⟩
      | struct fs =>
        obtain ⟨fields, hu, hfa⟩ := struct_facts (hK.facts ht)
        simp only [plainK, ht, Bool.and_eq_true, List.all_eq_true] at hp
        obtain ⟨hp1, hp2⟩ := hp
        split at hp2
        · rename_i m hm
          have hp2 := Nat.eq_of_beq_eq_true hp2
          subst hp2
          obtain ⟨xs, n', _, _, hlen, hxl, hxs⟩ := DataW.trod_struct hu h
          rw [cellsOf_sz hK ht] at hlen
          have hsz : szT K t = m := by simp [szT, ht]
          obtain ⟨as, p1, p2, _, p3, p4⟩ := open_fields (C := C.bare) hK (P' := fun t as => shC K d t as) cs fs 0 m hm (fun f hf => by
            obtain ⟨i, hi, rfl⟩ := List.mem_iff_getElem.1 hf
            rcases hfe : fs[i] with ⟨off, ft⟩
            obtain ⟨fld, k1, k2, k3, _⟩ := fieldsAre_get hfa (i := i) (o := off) (t := ft) (by rw [List.getElem?_eq_getElem hi, hfe])
            have hpl := hp1 (off, ft) (by rw [← hfe]; exact List.getElem_mem hi)
            obtain ⟨te, hte⟩ := plainK_some hpl
            have hh := hxs i fld (by simpa using k1)
            rw [k2, k3, cellsOf_sz hK hte] at hh
            have hil : i < xs.length := by
              have := (List.getElem?_eq_some_iff.1 k1).1
              rw [hxl]; simpa using this
            rw [List.getElem?_eq_getElem hil] at hh
            obtain ⟨bs, q1, q2, q3, q4⟩ := ih n' ft _ _ hpl hh
            exact ⟨bs, q1, q2, q3, q4⟩)
          simp only [List.drop_zero, Nat.sub_zero] at p1 p3
          rw [List.take_of_length_le (by omega)] at p1
          refine ⟨as, p1, p2, by omega, ?_⟩
          simp only [shC, ht]
          exact ⟨by omega, fun f hf => by simpa using (p4 f hf).2⟩
        · cases hp2
      | map _ _ => simp [plainK, ht] at hp
      | other => simp [plainK, ht] at hp
end
end Go.Asl
/- What a law's row asks, out of its contract. -/
set_option linter.unusedVariables false
namespace Go.Asl
open Go.RowKit Go.ChangeShapes
section
variable {H : Type} {enc : TypeId × Value → H} {P : Program} {K : Ctx}
/-- The configuration that a call begins in. -/
def cfg0 (W : World) : Cfg := ⟨fun _ => .nilFunc, getS [], W, fun _ => False⟩
theorem sim0 (W : World) : Sim (cfg0 W) :=
  ⟨fun _ => trivial, fun n b h => by simp [cfg0, getS, AObj.live] at h, fun b h => h.elim, fun n m b _ h => by simp [cfg0, getS, AObj.live] at h⟩
theorem st0 (W : World) : ∀ b, b < W.heap.size → (cfg0 W).v.st b := fun b hb => ⟨⟨hb, fun n h => by simp [cfg0, getS, AObj.live] at h⟩, fun h => h⟩
theorem open_arg (hK : K.Ok) {W : World} {base d t : Nat} {v : Value} {dd : DataW H} {p : List MemPlace} (hpl : plainK K d t = true) (hval : Value.okWide K.P W .any base t v) (h : DataW.Trod enc K.P W 0 (fun _ => true) true t v dd p) :
    ∃ as, VV (cfg0 W).v (mkE (rowT K t) as) v ∧ as.length = szT K t ∧ shC K d t as := by
  obtain ⟨n, hn⟩ := h
  obtain ⟨as, h1, h2, h3, h4⟩ := trod_open (C := (cfg0 W).v) hK (st0 W) rfl d n t _ _ hpl hn
  refine ⟨as, ?_, h3, h4⟩
  obtain ⟨ti, ht⟩ := plainK_some hpl
  obtain ⟨dsc, hu, hk⟩ := (hK.facts ht).desc
  have h1' : VEs (cfg0 W).v as v.cells.toList := VEs.step (VStp.of_bare _) h1
  have hrow : rowT K t = isRowK ti.kind := by simp [rowT, ht]
  cases hr : rowT K t with
  | true =>
    rw [hrow, ← kindIs_row hk] at hr
    simp only [Value.okWide, hu] at hval
    have : ∃ cs, v = .agg cs := by
      cases dsc <;> simp [isRowD] at hr
      · obtain ⟨cs, h, _⟩ := hval; exact ⟨cs, h⟩
      · obtain ⟨cs, h, _⟩ := hval; exact ⟨cs, h⟩
    obtain ⟨cs, rfl⟩ := this
    simp only [mkE, VV]
    exact ⟨cs.toList, by simp, h1'⟩
  | false =>
    rw [hrow, ← kindIs_row hk] at hr
    have hc : v.cells = #[v] := by
      cases v with
      | agg cs =>
        exfalso
        simp only [Value.okWide, hu] at hval
        cases dsc <;> simp [isRowD] at hr <;> simp [Cell.okWide, hu, Cell.ok] at hval
      | _ => rfl
    rw [hc] at h1'
    match as, h1', h2 with
    | [], h1', _ => simp [VEs] at h1'
    | [y], h1', h2 =>
      simp only [VEs] at h1'
      obtain ⟨c, r, e, q, _⟩ := h1'
      simp only [List.cons.injEq] at e
      obtain ⟨rfl, _⟩ := e
      refine VE_VV (fun bs e => ?_) q
      simp only [mkE, List.headD_cons] at e
      subst e
      simp [flat] at h2
    | y :: y2 :: r, h1', _ =>
      simp only [VEs] at h1'
      obtain ⟨c, r', e, _, c2, r2, e2, _⟩ := h1'
      simp [e2] at e
theorem trodAll_carry {W W' : World} {base : Nat} {sp : Nat → Bool} {hd : Bool} : ∀ {ts : List TypeId} {vs : List Value} {ds : List (DataW H)} {ps : List MemPlace}, DataW.TrodAll enc P W base sp hd ts vs ds ps → (∀ p ∈ ps, W.sameAt W' p) → DataW.TrodAll enc P W' base sp hd ts vs ds ps
  | [], [], [], _, h, _ => h
  | _ :: _, _ :: _, _ :: _, _, ⟨p, q, ⟨n, h1⟩, h2, e⟩, hs =>
    ⟨p, q, ⟨n, DataW.trod_carry n _ _ _ h1 (fun x hx => hs x (by rw [e]; exact List.mem_append_left _ hx))⟩, trodAll_carry h2 (fun x hx => hs x (by rw [e]; exact List.mem_append_right _ hx)), e⟩
theorem sameAt_of {W W' : World} (h : ∀ b, b < W.heap.size → W'.heap[b]? = W.heap[b]?) {p : MemPlace} (hp : p.block < W.heap.size) : W.sameAt W' p := by
  cases p with
  | cell b off =>
    simp only [World.sameAt, World.cell?]
    rw [h b hp]
  | map b => exact h b hp
theorem kept_of {W W' : World} (ho : W'.os = W.os) (hu : W'.output = W.output) (h : ∀ b, b < W.heap.size → W'.heap[b]? = W.heap[b]?) (may : MemPlace → Prop) : W.keptBut W' may := by
  refine ⟨ho, hu, fun i hi => ?_⟩
  have := (World.keptBut_refl W may).2.2 i hi
  rw [h i hi]
  exact this
/-- THE LAW: true, and the arguments read as they did. -/
theorem law_calls {f : Nat} {fn : Func} {s : ChangeSpec} {apart fresh handsOn : Bool} {W : World} {args : Array Value} {ds gs : List (DataW H)} {before : List MemPlace} {bt : Nat} {as : List AV}
    (hl : laidOutB K.P = true) (hm : mapsRowed K.P = true) (hsl : ((List.range K.P.types.size).all fun t => match K.P.underlying t with | some (.slice e) => decide (0 < K.P.cellsOf e) | _ => true) = true)
    (hW : DataW.Whole enc K.P fn.params.toList s.vars apart W args.toList ds gs before) (hT : (fn.params.toList.all fun t => decide (t < K.P.types.size)) = true) (hvars : s.vars = [])
    (hres : fn.resultTypes = #[bt]) (hbt : K.P.underlying bt = some .bool) (hr : (s.fn H (ds ++ gs)).results = [.lit (.bool true)]) (ha : (s.fn H (ds ++ gs)).args = ds) (hvs : (s.fn H (ds ++ gs)).vars = [])
    (hG : GlobR K (cfg0 W)) (hc : FnP K f as (.bool true)) (hv : VVs (cfg0 W).v as args.toList) :
    Calls K.P f args W fun e W' => ∃ v, e = .returned v ∧ s.post enc K.P fn apart fresh handsOn false W args v W' := by
  have hcall := hc.calls (fun _ => .nilFunc) W (fun _ => False) args.toList (sim0 W) hG hv
  rw [Array.toArray_toList] at hcall
  refine calls_mono hcall ?_
  rintro e W' ⟨v, x, φ, L, fb, rfl, h1, h2, h3, rfl⟩
  simp only [VV] at h3
  subst h3
  refine ⟨_, rfl, ?_⟩
  have hheap : ∀ b, b < W.heap.size → W'.heap[b]? = W.heap[b]? := fun b hb => (h1.rest b ⟨hb, fun n h => by simp [getS, AObj.live] at h⟩).2
  have hW' := hW
  obtain ⟨p, q, hA, hV, rfl, hfz, hnd⟩ := hW
  rw [hvars] at hV
  obtain ⟨rfl, rfl⟩ := trodVars_none hV
  have hlt := hW'.lt
  have hA' : DataW.TrodAll enc K.P W' 0 (fun b => decide (b < W.heap.size)) true fn.params.toList args.toList ds p := by
    refine trodAll_carry (DataW.TrodAll.respare (kids_rows hl hm) (slices_full_of K.P hsl) (fun t ht => ?_) hA (fun x hx => ?_)) (fun x hx => sameAt_of hheap (hlt x (by simpa using hx)))
    · have := List.all_eq_true.1 hT t ht
      simpa using this
    · simpa using hlt x (by simpa using hx)
  refine ⟨ds, [], p ++ [], [], p, [], hW', ?_, by rw [ha]; exact hA', by rw [hvars, hvs]; exact rfl, kept_of h1.os h1.output hheap _, fun h => by cases h⟩
  rw [hr, hres]
  exact trodAll_mk1 (shut_bool hbt true)
theorem globR_none {W : World} (h : ∀ g, K.gl g = none) : GlobR K (cfg0 W) := fun g x hg => by rw [h g] at hg; cases hg
theorem wf_i64 {n : Int} (h : (Lit.int .i64 n).wf = true) : -9223372036854775808 ≤ n ∧ n ≤ 9223372036854775807 := by
  simpa [Lit.wf, IntKind.min, IntKind.max, IntKind.signed, IntKind.bits] using h
/-- A list of elements, typed. -/
theorem lst_typed {α : Type} {f : α → AV} {Q : α → Prop} : ∀ {xs : List AV}, (∀ x ∈ xs, ∃ a, x = f a ∧ Q a) → ∃ ys : List α, xs = ys.map f ∧ ∀ y ∈ ys, Q y
  | [], _ => ⟨[], rfl, fun y hy => by cases hy⟩
  | x :: r, h => by
    obtain ⟨a, rfl, ha⟩ := h x (by simp)
    obtain ⟨ys, rfl, hys⟩ := lst_typed (xs := r) (fun y hy => h y (by simp [hy]))
    exact ⟨a :: ys, rfl, fun y hy => by rcases List.mem_cons.1 hy with rfl | hy; exact ha; exact hys y hy⟩
end
end Go.Asl
/- yield with a contract on objects, in drawn regions too. -/
set_option linter.unusedVariables false
set_option linter.unusedSimpArgs false
namespace Go.Asl
open Go.RowKit
theorem YldS.at {K : Ctx} {l : Nat} {args : List AV} {L L' : List (Nat × AObj)} {v : AV} (hf : YldT K l args L (fun x M => x = v ∧ M = L')) (rs : List (Nat × Nat)) (hlr : getR rs l = l) {Lc : List (Nat × AObj)} (ho : AllO (getR rs) Lc L L) (ha : okL (kB (getS L)) args = true)
    (hn : AllN (getR rs) Lc L (keysL L')) (hi : injN (getR rs) (keysL L') = true) (hi0 : injN (getR rs) (keysL L) = true) (hs : okS L' L' = true) (hv : okA (kB (getS L')) v = true) :
    YldT K l (renL (getR rs) args) Lc (fun x M => x = ren (getR rs) v ∧ M = renS (getR rs) L' ++ Lc) := by
  intro F _ n φ w fb vs l' h1 h2 hφ h3
  have hinj := injN_spec hi
  have hinj0 := injN_spec hi0
  have hok : HidOk (kB (getS L)) ⟨φ, getS Lc, w, fb⟩ (getR rs) (getS L) := by
    refine ⟨fun k hk => ?_, fun k hk _ => hk, fun k m hk hm hne => hinj0 k (keys_of_known (live_known hk)) m (keys_of_known (live_known hm)) hne⟩
    obtain ⟨g1, g2, _⟩ := ho.get k (keys_of_known (live_known hk))
    exact ⟨g1, g2⟩
  have hav : VVs (Hid ⟨φ, getS Lc, w, fb⟩ (getR rs) (getS L)).v args vs := by
    have := VVs.tr (Hid.tr hok) ha h3
    rwa [renL_id] at this
  have hφ' : (Hid ⟨φ, getS Lc, w, fb⟩ (getR rs) (getS L)).φ l = .func (.yield l') #[] #[] := by show φ (getR rs l) = _; rw [hlr]; exact hφ
  obtain ⟨fn, tmps, assign, body, ee, hr⟩ := hf F n _ w _ vs l' (Hid.sim h1 hok) (Hid.glob h2 hok) hφ' hav
  refine ⟨fn, tmps, assign, body, ee, RoundIn_mono hr ?_⟩
  rintro e w' ⟨u, x, φ', L1, fb', rfl, hst, hS, hvv, rfl, rfl⟩
  -- the whole's names
  let inv : Nat → Option Nat := fun c => (keysL L1).find? fun k => Nat.beq (getR rs k) c
  let φ2 : Nat → Value := fun c => match inv c with
    | some k => φ' k
    | none => φ c
  have hinv : ∀ k ∈ keysL L1, inv (getR rs k) = some k := fun k hk => by
    show (keysL L1).find? _ = _
    cases hf : (keysL L1).find? fun m => Nat.beq (getR rs m) (getR rs k) with
    | none =>
      have := List.find?_eq_none.1 hf k hk
      simp at this
    | some m =>
      have hm := List.mem_of_find?_eq_some hf
      have he := List.find?_some hf
      have he := Nat.eq_of_beq_eq_true he
      by_cases hmk : m = k
      · rw [hmk]
      · exact absurd he (hinj m hm k hk hmk)
  have hinvn : ∀ c, (∀ k ∈ keysL L1, getR rs k ≠ c) → inv c = none := fun c hc => by
    show (keysL L1).find? _ = _
    rw [List.find?_eq_none]
    intro k hk he
    exact hc k hk (Nat.eq_of_beq_eq_true he)
  have hkn : ∀ k, (getS L k).known = true → (getS L1 k).known = true ∧ φ' k = φ (getR rs k) := fun k hk => hst.kn k hk
  have hgetS : ∀ k ∈ keysL L1, getS (renS (getR rs) L1 ++ Lc) (getR rs k) = renO (getR rs) (getS L1 k) := fun k hk => renS_get (fun m hm hne => hinj m hm k hk hne) hk
  have hb : HidBack (kB (getS L1)) ⟨φ, getS Lc, w, fb⟩ (getR rs) (getS L) ⟨φ', getS L1, w', fb'⟩ ⟨φ2, getS (renS (getR rs) L1 ++ Lc), w', fb⟩ (getR rs) := by
    refine ⟨rfl, rfl, fun k hk => ?_, fun c hc => ?_, fun c hc => ?_, fun k hk => ?_, fun k m hk hm hne => hinj k (keys_of_known (live_known hk)) m (keys_of_known (live_known hm)) hne⟩
    · have hm := keys_of_known (live_known hk)
      exact ⟨hgetS k hm, (okS_get hs k hm).1⟩
    · by_cases hex : ∃ k ∈ keysL L1, getR rs k = c
      · obtain ⟨k, hk, rfl⟩ := hex
        refine .inl ⟨k, ?_, rfl⟩
        have hc' : (getS (renS (getR rs) L1 ++ Lc) (getR rs k)).live = true := hc
        rw [hgetS k hk, renO_live] at hc'
        exact hc'
      · have hno : ∀ k ∈ keysL L1, getR rs k ≠ c := fun k hk e => hex ⟨k, hk, e⟩
        have e1 : getS (renS (getR rs) L1 ++ Lc) c = getS Lc c := renS_other hno
        have hc' : (getS (renS (getR rs) L1 ++ Lc) c).live = true := hc
        refine .inr ⟨by rw [e1] at hc'; exact hc', fun k hk => hno k (keys_of_known (hkn k (live_known hk)).1), e1⟩
    · by_cases hex : ∃ k ∈ keysL L1, getR rs k = c
      · obtain ⟨k, hk, rfl⟩ := hex
        have hkk : (getS L k).known = true := by
          rcases hn.get k hk with h | h
          · exact h
          · have hc' : (getS Lc (getR rs k)).known = true := hc
            rw [h] at hc'; simp [AObj.known] at hc'
        refine ⟨?_, ?_⟩
        · show (getS (renS (getR rs) L1 ++ Lc) (getR rs k)).known = true
          rw [hgetS k hk, renO_known]; exact (hkn k hkk).1
        · show (match inv (getR rs k) with | some k => φ' k | none => φ (getR rs k)) = φ (getR rs k)
          rw [hinv k hk]; exact (hkn k hkk).2
      · have hno : ∀ k ∈ keysL L1, getR rs k ≠ c := fun k hk e => hex ⟨k, hk, e⟩
        refine ⟨?_, ?_⟩
        · show (getS (renS (getR rs) L1 ++ Lc) c).known = true
          rw [renS_other hno]; exact hc
        · show (match inv c with | some k => φ' k | none => φ c) = φ c
          rw [hinvn c hno]
    · have hm := keys_of_known (L := L1) hk
      refine ⟨?_, ?_⟩
      · show (getS (renS (getR rs) L1 ++ Lc) (getR rs k)).known = true
        rw [hgetS k hm, renO_known]; exact hk
      · show (match inv (getR rs k) with | some k => φ' k | none => φ (getR rs k)) = φ' k
        rw [hinv k hm]
  obtain ⟨k1, k2, k3⟩ := hb.ok h1 hok hst hS
  have hvv' : VV (Cfg.v ⟨φ', getS L1, w', fb'⟩) (ren (fun n => n) x) u := by rw [ren_id]; exact hvv
  exact ⟨u, ren (getR rs) x, φ2, renS (getR rs) L1 ++ Lc, fb, rfl, k1, k2, VV.tr k3 hv hvv', rfl, rfl⟩

section
variable {K : Ctx} {N : Nat} {E : List (Nat × AV)} {L : List (Nat × AObj)} {o : Oper}
theorem Sp_yieldS {c : Call} {x : Operand} {l : Nat} {as args : List AV} {v : AV} {L0 L1 : List (Nat × AObj)} (rs : List (Nat × Nat)) (hop : o.op = .call c) (hc : c.callee = .value x) (hx : opS K E x = some (.yld l)) (has : argsS K E c.args.toList = some as)
    (hf : YldT K l args L0 (fun x M => x = v ∧ M = L1)) (hlr : getR rs l = l) (hargs : as = renL (getR rs) args) (ho : AllO (getR rs) L L0 L0) (ha : okL (kB (getS L0)) args = true)
    (hn : AllN (getR rs) L L0 (keysL L1)) (hi : (injN (getR rs) (keysL L1) && injN (getR rs) (keysL L0) && okS L1 L1 && okA (kB (getS L1)) v) = true) (hd : dstB o.dst N = true) :
    SpOk K N (o, none) ⟨slotsOf (x :: c.args.toList), o.dst, ren (getR rs) v, (keysL L0 ++ keysL L1).map (getR rs), renS (getR rs) L1⟩ E L := by
  simp only [Bool.and_eq_true] at hi
  obtain ⟨⟨⟨i1, i2⟩, i3⟩, i4⟩ := hi
  intro C0 ds F _ n Q r E' L' hE hL h
  have hag := opS_agree (K := K) (l := x :: c.args.toList) (fun t ht => ht) hE
  have ho' : AllO (getR rs) L' L0 L0 := by
    have : ∀ {l : List (Nat × AObj)}, (∀ k ∈ keysL l, k ∈ keysL L0) → AllO (getR rs) L L0 l → AllO (getR rs) L' L0 l := by
      intro l
      induction l with
      | nil => intro _ _; trivial
      | cons y l ih =>
        obtain ⟨k, o⟩ := y
        intro hk h
        refine ⟨⟨(hL _ (List.mem_map_of_mem (List.mem_append_left _ (hk k (by simp [keysL]))))).trans h.1.1, h.1.2⟩, ih (fun m hm => hk m (by simp [keysL, hm])) h.2⟩
    exact this (fun _ h => h) ho
  have hn' : AllN (getR rs) L' L0 (keysL L1) := by
    have : ∀ {l : List Nat}, (∀ k ∈ l, k ∈ keysL L1) → AllN (getR rs) L L0 l → AllN (getR rs) L' L0 l := by
      intro l
      induction l with
      | nil => intro _ _; trivial
      | cons k l ih =>
        intro hk h
        refine ⟨h.1.imp id fun e => (hL _ (List.mem_map_of_mem (List.mem_append_right _ (hk k (by simp))))).trans e, ih (fun m hm => hk m (by simp [hm])) h.2⟩
    exact this (fun _ h => h) hn
  refine G_yield hop hc ((hag x (by simp)).trans hx) ((argsS_agree fun y hy => hag y (by simp [hy])).trans has) ?_
  rw [hargs]
  refine (YldS.at hf rs hlr ho' ha hn' i1 i2 i3 i4).mono ?_
  rintro u M ⟨rfl, rfl⟩
  exact ⟨_, dstB_ok _ hd, h⟩
variable {C0 : Cfg} {ds : Nat × Nat} {F : Fence} {n : Nat} {Q : Exit → Act → World → Prop} {ops : Array Oper} {E' : List (Nat × AV)} {L' M : List (Nat × AObj)} {r : List (Oper × Option (Nat × Bool))} {done : List Sk} {k : Sk} {X : Act → World → Prop} {g : Option (Nat × Bool)}
theorem D_yieldA {c : Call} {x : Operand} {l : Nat} {as args : List AV} {v0 v : AV} {L0 L1 : List (Nat × AObj)} (hf : YldT K l args L0 (fun x M => x = v0 ∧ M = L1)) (hg : guardS E N g = true) (hop : o.op = .call c) (hc : c.callee = .value x) (hx : opS K E x = some (.yld l)) (has : argsS K E c.args.toList = some as)
    (hargs : as = renL (getR []) args) (ho : AllO (getR []) L L0 L0) (ha : okL (kB (getS L0)) args = true)
    (hn : AllN (getR []) L L0 (keysL L1)) (hi : (injN (getR []) (keysL L1) && injN (getR []) (keysL L0) && okS L1 L1 && okA (kB (getS L1)) v0) = true) (hv : renF [] v0 = some v) (hd : dstE E N o.dst v = some E')
    (hk : skP (guardR g (slotsOf (x :: c.args.toList))) o.dst ((keysL L0 ++ keysL L1).map (getR [])) ((renS (getR []) L1).map (·.1)) = some k)
    (hW : renW [] L1 = some M) (hL' : catS M L = some L') (h : DrawG K C0 N ds ops (done ++ [k]) r E' L' X) : DrawG K C0 N ds ops done ((o, g) :: r) E L X := by
  have e1 := renW_eq hW
  have e2 := catS_eq hL'
  subst e1 e2
  have e3 := renF_eq hv
  subst e3
  exact D_of (Sp_guard hg (dstE_dstB hd).1 (Sp_yieldS [] hop hc hx has hf rfl hargs ho ha hn hi (dstE_dstB hd).1)) hk hd h
end
end Go.Asl
/- A variable's own slice, read only from here on. Own work of this place. -/
set_option linter.unusedVariables false
namespace Go.Asl
open Go.RowKit
variable {K : Ctx} {C0 : Cfg} {E E' : List (Nat × AV)} {N : Nat} {ds : Nat × Nat} {L L' : List (Nat × AObj)} {X : Act → World → Prop}
/-- A slice of one's own that a variable holds is read only from here on. -/
theorem G_freeze_cell {m b j e sz : Nat} {cs xs : List AV} (hb : getS L b = .box cs) (hj : cs[j]? = some (.own m)) (hm : getS L m = .arr e sz xs)
    (h : G K C0 ⟨E, N, ds⟩ ((b, .box (cs.set j (.lst xs))) :: (m, .dead) :: L) X) : G K C0 ⟨E, N, ds⟩ L X := fun φ w fb a h1 h2 h3 h4 => by
  have hne : b ≠ m := fun e => by subst e; rw [hm] at hb; cases hb
  obtain ⟨k1, k2, k3⟩ := h2.drop (m := m) (by rw [hm]; rfl)
  have hb1 : getS ((m, .dead) :: L) b = .box cs := by rw [getS_cons, if_neg hne]; exact hb
  obtain ⟨A, c, us, e1, e2, e3, e4⟩ := own_rd h2 (C := ⟨φ, getS L, w, fb⟩) hm
  have e1' : φ m = .slice A xs.length c := e1
  obtain ⟨q1, q2⟩ := k2.turn (w' := w) (m := b) (by rw [hb1]; rfl) (.box (cs.set j (.lst xs))) rfl (grown_refl w _) (fun hs => by
    have ho := k2.obj b
    rw [show (Cfg.mk φ (getS ((m, .dead) :: L)) w fb).S b = _ from hb1] at ho
    obtain ⟨b0, T, vs, f1, f2, f3⟩ := ho
    refine ⟨b0, T, vs, f1, f2, ?_⟩
    refine VEs_set (VEs.step hs.v f3) fun u hu => ?_
    have := (VEs_iff.1 f3).2 j (.own m) u hj hu
    simp only [VE] at this
    obtain ⟨_, _, hu'⟩ := this
    have hu2 : u = φ m := (List.cons.inj hu').1
    subst hu2
    refine VE.step hs.v (VV_VE rfl ?_)
    simp only [VV]
    refine ⟨A, c, sz, us, e1', e2, VErow.step k1.v.bare e3, fun hne => ?_⟩
    obtain ⟨ad, rfl, hsp, hcell⟩ := e4 hne
    exact ⟨ad, rfl, hsp, k3 ad.block (by rw [e1']; rfl), hcell⟩)
  exact h _ w fb a ((h1.trans k1).trans q1) q2 ((h3.step k1).step q1) ((h4.step k1).step q1)
end Go.Asl
/- A nil slice where a list without elements was told. Own work of this place. -/
set_option linter.unusedVariables false
namespace Go.Asl
open Go.RowKit
def NL : List AV → List AV → Prop
  | [], [] => True
  | a :: as, b :: bs => (b = a ∨ (b = .nils ∧ a = .lst [])) ∧ NL as bs
  | _, _ => False
theorem VVs_nils {C : VC} : ∀ {as bs : List AV} {vs : List Value}, NL as bs → VVs C bs vs → VVs C as vs
  | [], [], vs, _, h => h
  | a :: as, b :: bs, vs, hn, h => by
    simp only [VVs] at h ⊢
    obtain ⟨v, r, rfl, h1, h2⟩ := h
    refine ⟨v, r, rfl, ?_, VVs_nils hn.2 h2⟩
    rcases hn.1 with rfl | ⟨rfl, rfl⟩
    · exact h1
    · simp only [VV] at h1 ⊢
      exact ⟨none, 0, 1, [], h1, Nat.le_refl _, rfl, fun e => absurd rfl e⟩
theorem FnT.nils {K : Ctx} {f : Nat} {as bs : List AV} {L : List (Nat × AObj)} {R : AV → List (Nat × AObj) → Prop} (h : FnT K f as L R) (hn : NL as bs) : FnT K f bs L R :=
  ⟨h.ent, fun φ w fb vs h1 h2 h3 => h.calls φ w fb vs h1 h2 (VVs_nils hn h3)⟩
theorem FnP.nils {K : Ctx} {f : Nat} {as bs : List AV} {r : AV} (h : FnP K f as r) (hn : NL as bs) : FnP K f bs r := FnT.nils h hn
end Go.Asl
