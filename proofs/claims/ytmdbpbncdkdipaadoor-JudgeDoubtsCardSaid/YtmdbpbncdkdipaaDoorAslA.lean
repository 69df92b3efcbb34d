/- A logic of abstract states for the machine of the model, part 1: no statement on the program stands here; no condition. -/
import Derived.RangeFuncNested
import Derived.Laws.AppendOwn
import Derived.Below
import Derived.Deep.MidRow
import Derived.Laws.CopyRow
import Derived.Laws.OwnMore
import Derived.Laws.MakeOwn
import Derived.Maps.AppendAt
import Derived.Deep.OwnRows
import Derived.Orders
set_option linter.unusedVariables false
set_option linter.unusedSimpArgs false
/- Abstract states of the machine: values, objects, how they stand to a world, and what a step keeps. Own work of this place. -/
namespace Go.Asl
open Go.RowKit

/-- Abstract values. 'own n', 'ptr n', .. name objects of the abstract store. -/
inductive AV where
  | undef
  | int (k : IntKind) (n : Int)
  | bool (b : Bool)
  | str (s : ByteArray)
  | nils
  | lst (xs : List AV)
  | clip (xs : List AV)
  | own (n : Nat)
  | ptr (n off : Nat)
  | eptr (n sz i off : Nat)
  | rptr (x : AV) (off : Nat)
  | agg (cs : List AV)
  | tup (vs : List AV)
  | fn (f : Nat) (first caps : List AV)
  | yld (n : Nat)
  | map (n : Nat)
  | nilmap
  | nilfn
  | niliface
  deriving Inhabited

/-- Abstract objects. -/
inductive AObj where
  | free
  | dead
  | box (cs : List AV)
  | arr (e sz : Nat) (xs : List AV)
  | mp (es : List (AV × AV))
  | loop (E : List (Nat × AV)) (N : Nat) (ps : Array Tmp) (assign body : Code) (st : LoopState) (pend : Option Code)
  deriving Inhabited

def AObj.live : AObj → Bool
  | .free | .dead => false
  | _ => true
def AObj.known : AObj → Bool
  | .free => false
  | _ => true

def blk : Value → Option Nat
  | .pointer (some a) => some a.block
  | .slice (some a) _ _ => some a.block
  | .map (some r) => some r
  | .func (.yield l) _ _ => some l
  | _ => none

/-- What values are read against: which value a name stands for, which names are known, which blocks nobody writes, the world. -/
structure VC where
  φ : Nat → Value
  kn : Nat → Prop
  st : Nat → Prop
  w : World
/-- The same without any name. -/
def VC.bare (C : VC) : VC := { C with kn := fun _ => False }

/-- A configuration: which value a name stands for, the store, the world. -/
structure Cfg where
  φ : Nat → Value
  S : Nat → AObj
  w : World
  fb : Nat → Prop

def Cfg.kn (C : Cfg) (n : Nat) : Prop := (C.S n).known = true
/-- A block that no object of ours is. -/
def Cfg.rest (C : Cfg) (b : Nat) : Prop := b < C.w.heap.size ∧ ∀ n, (C.S n).live = true → blk (C.φ n) ≠ some b
/-- .. and no one else's. -/
def Cfg.st (C : Cfg) (b : Nat) : Prop := C.rest b ∧ ¬ C.fb b
def Cfg.v (C : Cfg) : VC := ⟨C.φ, C.kn, C.st, C.w⟩

/-- The cells cs lie at ad, in blocks that nobody writes. -/
def Lies (C : VC) (ad : Addr) (cs : List Value) : Prop := ad.spot = none ∧ C.st ad.block ∧ ∀ i u, cs[i]? = some u → C.w.cell? (ad.add i) = some u

mutual
/-- The cells of a value. -/
def VE (C : VC) : AV → List Value → Prop
  | .undef, cs => ∃ c : Value, cs = [c] ∧ c.oneCell' = true
  | .int k n, cs => cs = [.int k n]
  | .bool b, cs => cs = [.bool b]
  | .str s, cs => cs = [.string s]
  | .nils, cs => cs = [.slice none 0 0]
  | .lst xs, cs => ∃ A c sz us, cs = [.slice A xs.length c] ∧ xs.length ≤ c ∧ VErow C.bare sz xs us ∧ (xs ≠ [] → ∃ ad, A = some ad ∧ Lies C ad us)
  | .clip xs, cs => ∃ A sz us, cs = [.slice A xs.length xs.length] ∧ VErow C.bare sz xs us ∧ (xs ≠ [] → ∃ ad, A = some ad ∧ Lies C ad us)
  | .own n, cs => C.kn n ∧ (∃ A l c, C.φ n = .slice A l c) ∧ cs = [C.φ n]
  | .ptr n off, cs => C.kn n ∧ ∃ b, C.φ n = .pointer (some ⟨b, 0, none⟩) ∧ cs = [.pointer (some ⟨b, off, none⟩)]
  | .eptr n sz i off, cs => C.kn n ∧ ∃ b l c, C.φ n = .slice (some ⟨b, 0, none⟩) l c ∧ cs = [.pointer (some ⟨b, i * sz + off, none⟩)]
  | .rptr x off, cs => ∃ ad us, cs = [.pointer (some (ad.add off))] ∧ VE C.bare x us ∧ Lies C ad us
  | .agg as, cs => VEs C as cs
  | .tup _, _ => False
  | .fn f as bs, cs => ∃ us vs, cs = [.func (.func f) us.toArray vs.toArray] ∧ VVs C as us ∧ VVs C bs vs
  | .yld n, cs => C.kn n ∧ ∃ l, C.φ n = .func (.yield l) #[] #[] ∧ cs = [C.φ n]
  | .map n, cs => C.kn n ∧ ∃ r, C.φ n = .map (some r) ∧ cs = [C.φ n]
  | .nilmap, cs => cs = [.map none]
  | .nilfn, cs => cs = [.nilFunc]
  | .niliface, cs => cs = [.nilIface]
/-- One cell each. -/
def VEs (C : VC) : List AV → List Value → Prop
  | [], cs => cs = []
  | a :: as, cs => ∃ c r, cs = c :: r ∧ VE C a [c] ∧ VEs C as r
/-- sz cells each, one behind the other. -/
def VErow (C : VC) (sz : Nat) : List AV → List Value → Prop
  | [], cs => cs = []
  | a :: as, cs => ∃ c r, cs = c ++ r ∧ (c.length = sz ∧ ∀ u ∈ c, u.oneCell' = true) ∧ VE C a c ∧ VErow C sz as r
/-- A value as it stands in a slot. -/
def VV (C : VC) : AV → Value → Prop
  | .undef, _ => True
  | .agg as, v => ∃ us : List Value, v = .agg us.toArray ∧ VEs C as us
  | .tup as, v => ∃ us : List Value, v = .tuple us.toArray ∧ VVs C as us
  | .int k n, v => v = .int k n
  | .bool b, v => v = .bool b
  | .str s, v => v = .string s
  | .nils, v => v = .slice none 0 0
  | .lst xs, v => ∃ A c sz us, v = .slice A xs.length c ∧ xs.length ≤ c ∧ VErow C.bare sz xs us ∧ (xs ≠ [] → ∃ ad, A = some ad ∧ Lies C ad us)
  | .clip xs, v => ∃ A sz us, v = .slice A xs.length xs.length ∧ VErow C.bare sz xs us ∧ (xs ≠ [] → ∃ ad, A = some ad ∧ Lies C ad us)
  | .own n, v => C.kn n ∧ (∃ A l c, C.φ n = .slice A l c) ∧ v = C.φ n
  | .ptr n off, v => C.kn n ∧ ∃ b, C.φ n = .pointer (some ⟨b, 0, none⟩) ∧ v = .pointer (some ⟨b, off, none⟩)
  | .eptr n sz i off, v => C.kn n ∧ ∃ b l c, C.φ n = .slice (some ⟨b, 0, none⟩) l c ∧ v = .pointer (some ⟨b, i * sz + off, none⟩)
  | .rptr x off, v => ∃ ad us, v = .pointer (some (ad.add off)) ∧ VE C.bare x us ∧ Lies C ad us
  | .fn f as bs, v => ∃ us vs, v = .func (.func f) us.toArray vs.toArray ∧ VVs C as us ∧ VVs C bs vs
  | .yld n, v => C.kn n ∧ ∃ l, C.φ n = .func (.yield l) #[] #[] ∧ v = C.φ n
  | .map n, v => C.kn n ∧ ∃ r, C.φ n = .map (some r) ∧ v = C.φ n
  | .nilmap, v => v = .map none
  | .nilfn, v => v = .nilFunc
  | .niliface, v => v = .nilIface
def VVs (C : VC) : List AV → List Value → Prop
  | [], vs => vs = []
  | a :: as, vs => ∃ v r, vs = v :: r ∧ VV C a v ∧ VVs C as r
end

/-- What a step keeps, of what values lean on. -/
structure VStp (C C' : VC) : Prop where
  kn : ∀ n, C.kn n → C'.kn n ∧ C'.φ n = C.φ n
  st : ∀ b, C.st b → C'.st b ∧ C'.w.heap[b]? = C.w.heap[b]?
theorem VStp.bare {C C' : VC} (h : VStp C C') : VStp C.bare C'.bare := ⟨fun _ h => h.elim, h.st⟩
theorem VStp.of_bare (C : VC) : VStp C.bare C := ⟨fun _ h => h.elim, fun _ h => ⟨h, rfl⟩⟩
theorem VC.bare_bare (C : VC) : C.bare.bare = C.bare := rfl

/-- What a step keeps: the names that are known, and what lies in blocks that nobody writes. -/
structure Stp (C C' : Cfg) : Prop where
  kn : ∀ n, C.kn n → C'.kn n ∧ C'.φ n = C.φ n
  rest : ∀ b, C.rest b → C'.rest b ∧ C'.w.heap[b]? = C.w.heap[b]?
  fb : ∀ b, C.fb b → C'.fb b
  fb' : ∀ b, C.rest b → C'.fb b → C.fb b
  os : C'.w.os = C.w.os
  tape : C'.w.tape = C.w.tape
  output : C'.w.output = C.w.output
  size : C.w.heap.size ≤ C'.w.heap.size
theorem Stp.v {C C' : Cfg} (h : Stp C C') : VStp C.v C'.v := ⟨h.kn, fun b hb => ⟨⟨(h.rest b hb.1).1, fun hf => hb.2 (h.fb' b hb.1 hf)⟩, (h.rest b hb.1).2⟩⟩

theorem Stp.refl (C : Cfg) : Stp C C := ⟨fun _ h => ⟨h, rfl⟩, fun _ h => ⟨h, rfl⟩, fun _ h => h, fun _ _ h => h, rfl, rfl, rfl, Nat.le_refl _⟩
theorem Stp.trans {A B C : Cfg} (h : Stp A B) (k : Stp B C) : Stp A C :=
  ⟨fun n hn => ⟨(k.kn n (h.kn n hn).1).1, ((k.kn n (h.kn n hn).1).2).trans (h.kn n hn).2⟩,
   fun b hb => ⟨(k.rest b (h.rest b hb).1).1, ((k.rest b (h.rest b hb).1).2).trans (h.rest b hb).2⟩,
   fun b hb => k.fb b (h.fb b hb), fun b hb hf => h.fb' b hb (k.fb' b (h.rest b hb).1 hf), k.os.trans h.os, k.tape.trans h.tape, k.output.trans h.output, Nat.le_trans h.size k.size⟩

theorem add_block (a : Addr) (i : Nat) : (a.add i).block = a.block := by unfold Addr.add; split <;> rfl
theorem add_add (a : Addr) (i j : Nat) : (a.add i).add j = a.add (i + j) := by
  unfold Addr.add
  by_cases hi : i = 0
  · subst hi; simp
  · by_cases hj : j = 0
    · subst hj; simp
    · rw [if_neg hi, if_neg hj, if_neg (by omega)]; simp [Nat.add_assoc]
theorem add_plain (g j i : Nat) : (⟨g, j, none⟩ : Addr).add i = ⟨g, j + i, none⟩ := by unfold Addr.add; split <;> simp_all

theorem Lies.step {C C' : VC} {ad : Addr} {cs : List Value} (h : Lies C ad cs) (k : VStp C C') : Lies C' ad cs :=
  ⟨h.1, (k.st _ h.2.1).1, fun i u hu => (World.cell?_of_block (w := C.w) (by rw [add_block]; exact (k.st _ h.2.1).2)).trans (h.2.2 i u hu)⟩

mutual
theorem VE.step {C C' : VC} (k : VStp C C') : ∀ {a : AV} {cs : List Value}, VE C a cs → VE C' a cs
  | .undef, _, h => by simp only [VE] at h ⊢; exact h
  | .int .., _, h => by simp only [VE] at h ⊢; exact h
  | .bool .., _, h => by simp only [VE] at h ⊢; exact h
  | .str .., _, h => by simp only [VE] at h ⊢; exact h
  | .nils, _, h => by simp only [VE] at h ⊢; exact h
  | .lst xs, _, h => by
    simp only [VE] at h ⊢
    obtain ⟨A, c, sz, us, h1, h2, h3, h4⟩ := h
    exact ⟨A, c, sz, us, h1, h2, VErow.step k.bare h3, fun hx => by obtain ⟨ad, e, l⟩ := h4 hx; exact ⟨ad, e, l.step k⟩⟩
  | .clip xs, _, h => by
    simp only [VE] at h ⊢
    obtain ⟨A, sz, us, h1, h3, h4⟩ := h
    exact ⟨A, sz, us, h1, VErow.step k.bare h3, fun hx => by obtain ⟨ad, e, l⟩ := h4 hx; exact ⟨ad, e, l.step k⟩⟩
  | .own n, _, h => by
    simp only [VE] at h ⊢
    obtain ⟨h1, h2, h3⟩ := h
    rw [(k.kn n h1).2]
    exact ⟨(k.kn n h1).1, h2, h3⟩
  | .ptr n _, _, h => by
    simp only [VE] at h ⊢
    obtain ⟨h1, h2⟩ := h
    rw [(k.kn n h1).2]
    exact ⟨(k.kn n h1).1, h2⟩
  | .eptr n .., _, h => by
    simp only [VE] at h ⊢
    obtain ⟨h1, h2⟩ := h
    rw [(k.kn n h1).2]
    exact ⟨(k.kn n h1).1, h2⟩
  | .rptr x _, _, h => by
    simp only [VE] at h ⊢
    obtain ⟨ad, us, h1, h2, h3⟩ := h
    exact ⟨ad, us, h1, VE.step k.bare h2, h3.step k⟩
  | .agg as, _, h => by simp only [VE] at h ⊢; exact VEs.step k h
  | .tup _, _, h => by simp only [VE] at h
  | .fn _ as bs, _, h => by
    simp only [VE] at h ⊢
    obtain ⟨us, vs, h1, h2, h3⟩ := h
    exact ⟨us, vs, h1, VVs.step k h2, VVs.step k h3⟩
  | .yld n, _, h => by
    simp only [VE] at h ⊢
    obtain ⟨h1, h2⟩ := h
    rw [(k.kn n h1).2]
    exact ⟨(k.kn n h1).1, h2⟩
  | .map n, _, h => by
    simp only [VE] at h ⊢
    obtain ⟨h1, h2⟩ := h
    rw [(k.kn n h1).2]
    exact ⟨(k.kn n h1).1, h2⟩
  | .nilmap, _, h => by simp only [VE] at h ⊢; exact h
  | .nilfn, _, h => by simp only [VE] at h ⊢; exact h
  | .niliface, _, h => by simp only [VE] at h ⊢; exact h
theorem VEs.step {C C' : VC} (k : VStp C C') : ∀ {as : List AV} {cs : List Value}, VEs C as cs → VEs C' as cs
  | [], _, h => by simp only [VEs] at h ⊢; exact h
  | a :: as, _, h => by
    simp only [VEs] at h ⊢
    obtain ⟨c, r, h1, h2, h3⟩ := h
    exact ⟨c, r, h1, VE.step k h2, VEs.step k h3⟩
theorem VErow.step {C C' : VC} (k : VStp C C') {sz : Nat} : ∀ {as : List AV} {cs : List Value}, VErow C sz as cs → VErow C' sz as cs
  | [], _, h => by simp only [VErow] at h ⊢; exact h
  | a :: as, _, h => by
    simp only [VErow] at h ⊢
    obtain ⟨c, r, h1, h2, h3, h4⟩ := h
    exact ⟨c, r, h1, h2, VE.step k h3, VErow.step k h4⟩
theorem VV.step {C C' : VC} (k : VStp C C') : ∀ {a : AV} {v : Value}, VV C a v → VV C' a v
  | .undef, _, _ => by simp only [VV]
  | .int .., _, h => by simp only [VV] at h ⊢; exact h
  | .bool .., _, h => by simp only [VV] at h ⊢; exact h
  | .str .., _, h => by simp only [VV] at h ⊢; exact h
  | .nils, _, h => by simp only [VV] at h ⊢; exact h
  | .lst xs, _, h => by
    simp only [VV] at h ⊢
    obtain ⟨A, c, sz, us, h1, h2, h3, h4⟩ := h
    exact ⟨A, c, sz, us, h1, h2, VErow.step k.bare h3, fun hx => by obtain ⟨ad, e, l⟩ := h4 hx; exact ⟨ad, e, l.step k⟩⟩
  | .clip xs, _, h => by
    simp only [VV] at h ⊢
    obtain ⟨A, sz, us, h1, h3, h4⟩ := h
    exact ⟨A, sz, us, h1, VErow.step k.bare h3, fun hx => by obtain ⟨ad, e, l⟩ := h4 hx; exact ⟨ad, e, l.step k⟩⟩
  | .own n, _, h => by
    simp only [VV] at h ⊢
    obtain ⟨h1, h2, h3⟩ := h
    rw [(k.kn n h1).2]
    exact ⟨(k.kn n h1).1, h2, h3⟩
  | .ptr n _, _, h => by
    simp only [VV] at h ⊢
    obtain ⟨h1, h2⟩ := h
    rw [(k.kn n h1).2]
    exact ⟨(k.kn n h1).1, h2⟩
  | .eptr n .., _, h => by
    simp only [VV] at h ⊢
    obtain ⟨h1, h2⟩ := h
    rw [(k.kn n h1).2]
    exact ⟨(k.kn n h1).1, h2⟩
  | .rptr x _, _, h => by
    simp only [VV] at h ⊢
    obtain ⟨ad, us, h1, h2, h3⟩ := h
    exact ⟨ad, us, h1, VE.step k.bare h2, h3.step k⟩
  | .agg as, _, h => by
    simp only [VV] at h ⊢
    obtain ⟨us, h1, h2⟩ := h
    exact ⟨us, h1, VEs.step k h2⟩
  | .tup as, _, h => by
    simp only [VV] at h ⊢
    obtain ⟨us, h1, h2⟩ := h
    exact ⟨us, h1, VVs.step k h2⟩
  | .fn _ as bs, _, h => by
    simp only [VV] at h ⊢
    obtain ⟨us, vs, h1, h2, h3⟩ := h
    exact ⟨us, vs, h1, VVs.step k h2, VVs.step k h3⟩
  | .yld n, _, h => by
    simp only [VV] at h ⊢
    obtain ⟨h1, h2⟩ := h
    rw [(k.kn n h1).2]
    exact ⟨(k.kn n h1).1, h2⟩
  | .map n, _, h => by
    simp only [VV] at h ⊢
    obtain ⟨h1, h2⟩ := h
    rw [(k.kn n h1).2]
    exact ⟨(k.kn n h1).1, h2⟩
  | .nilmap, _, h => by simp only [VV] at h ⊢; exact h
  | .nilfn, _, h => by simp only [VV] at h ⊢; exact h
  | .niliface, _, h => by simp only [VV] at h ⊢; exact h
theorem VVs.step {C C' : VC} (k : VStp C C') : ∀ {as : List AV} {vs : List Value}, VVs C as vs → VVs C' as vs
  | [], _, h => by simp only [VVs] at h ⊢; exact h
  | a :: as, _, h => by
    simp only [VVs] at h ⊢
    obtain ⟨c, r, h1, h2, h3⟩ := h
    exact ⟨c, r, h1, VV.step k h2, VVs.step k h3⟩
end

def getE : List (Nat × AV) → Nat → AV
  | [], _ => .undef
  | (k, a) :: r, t => match Nat.beq t k with
    | true => a
    | false => getE r t
def getS : List (Nat × AObj) → Nat → AObj
  | [], _ => .free
  | (k, a) :: r, t => match Nat.beq t k with
    | true => a
    | false => getS r t
theorem getE_cons (k : Nat) (a : AV) (r : List (Nat × AV)) (t : Nat) : getE ((k, a) :: r) t = if t = k then a else getE r t := by
  simp only [getE]
  by_cases h : t = k
  · subst h; simp
  · rw [if_neg h]
    have : Nat.beq t k = false := by rw [← Bool.not_eq_true]; intro e; exact h (Nat.eq_of_beq_eq_true e)
    rw [this]
theorem getS_cons (k : Nat) (a : AObj) (r : List (Nat × AObj)) (t : Nat) : getS ((k, a) :: r) t = if t = k then a else getS r t := by
  simp only [getS]
  by_cases h : t = k
  · subst h; simp
  · rw [if_neg h]
    have : Nat.beq t k = false := by rw [← Bool.not_eq_true]; intro e; exact h (Nat.eq_of_beq_eq_true e)
    rw [this]

end Go.Asl
/- The store against the world: what each object is, and how a step turns at most one block. -/
set_option linter.unusedVariables false
namespace Go.Asl
open Go.RowKit

def upd {α : Type} (f : Nat → α) (n : Nat) (a : α) : Nat → α := fun k => if k = n then a else f k
theorem upd_same {α : Type} (f : Nat → α) (n : Nat) (a : α) : upd f n a n = a := by simp [upd]
theorem upd_ne {α : Type} {f : Nat → α} {n k : Nat} {a : α} (h : k ≠ n) : upd f n a k = f k := by simp [upd, h]

theorem getS_upd (k : Nat) (a : AObj) (r : List (Nat × AObj)) : getS ((k, a) :: r) = upd (getS r) k a := by
  funext t; rw [getS_cons]; rfl


/-- What an object is in the world. -/
def ObjR (C : Cfg) (n : Nat) : AObj → Prop
  | .free => True
  | .dead => True
  | .box cs => ∃ b T us, C.φ n = .pointer (some ⟨b, 0, none⟩) ∧ C.w.heap[b]? = some (.cells us T (0, 0)) ∧ VEs C.v cs us.toList
  | .arr e sz xs => ∃ inner, C.w.ownsRow 0 e sz (C.φ n) xs.length inner ∧ VErow C.v.bare sz xs inner
  | .mp es => ∃ r ents clk, C.φ n = .map (some r) ∧ C.w.heap[r]? = some (.map ents clk) ∧
      ents.toList.length = es.length ∧ ∀ (i : Nat) (e : MapEntry) (x : AV × AV), ents.toList[i]? = some e → es[i]? = some x → VV C.v.bare x.1 e.key ∧ VV C.v.bare x.2 e.val
  | .loop E N ps asg body st pe => ∃ l r, C.φ n = .func (.yield l) #[] #[] ∧ C.w.heap[l]? = some (.loop r) ∧ r.state = st ∧ r.pending = pe ∧ r.params = ps ∧ r.assign = asg ∧ r.body = body ∧
      r.tmps.size = N ∧ (∀ t, VV C.v (getE E t) (r.tmps.getD t undef))

structure Sim (C : Cfg) : Prop where
  obj : ∀ n, ObjR C n (C.S n)
  fbl : ∀ n b, (C.S n).live = true → blk (C.φ n) = some b → ¬ C.fb b
  fbs : ∀ b, C.fb b → b < C.w.heap.size
  disj : ∀ n m b, n ≠ m → (C.S n).live = true → (C.S m).live = true → blk (C.φ n) = some b → blk (C.φ m) ≠ some b

theorem live_known {o : AObj} (h : o.live = true) : o.known = true := by cases o <;> simp_all [AObj.live, AObj.known]

theorem blk_own {w : World} {base : Nat} {e : TypeId} {sz n : Nat} {v : Value} {xs : List Value} (h : w.ownsRow base e sz v n xs) : blk v = v.ownBlock := by
  rcases h.2 with ⟨rfl, _⟩ | ⟨g, cap, cur, rfl, _⟩ <;> rfl

/-- A live object's block lies in the heap. -/
theorem Sim.lt {C : Cfg} (h : Sim C) {n b : Nat} (hl : (C.S n).live = true) (hb : blk (C.φ n) = some b) : b < C.w.heap.size := by
  have ho := h.obj n
  cases hS : C.S n with
  | free => rw [hS] at hl; simp [AObj.live] at hl
  | dead => rw [hS] at hl; simp [AObj.live] at hl
  | box cs =>
    rw [hS] at ho
    obtain ⟨b', T, us, h1, h2, _⟩ := ho
    rw [h1] at hb
    simp only [blk, Option.some.injEq] at hb
    subst hb
    exact (Array.getElem?_eq_some_iff.1 h2).1
  | arr e sz xs =>
    rw [hS] at ho
    obtain ⟨inner, h1, _⟩ := ho
    rw [blk_own h1] at hb
    exact (h1.lt _ hb).2
  | mp es =>
    rw [hS] at ho
    obtain ⟨r, ents, clk, h1, h2, _⟩ := ho
    rw [h1] at hb
    simp only [blk, Option.some.injEq] at hb
    subst hb
    exact (Array.getElem?_eq_some_iff.1 h2).1
  | loop E N ps asg body st pe =>
    rw [hS] at ho
    obtain ⟨l, r, h1, h2, _⟩ := ho
    rw [h1] at hb
    simp only [blk, Option.some.injEq] at hb
    subst hb
    exact (Array.getElem?_eq_some_iff.1 h2).1

theorem owns_keep {w w' : World} {base : Nat} {e : TypeId} {sz n : Nat} {v : Value} {xs : List Value} (h : w.ownsRow base e sz v n xs)
    (hb : ∀ b, blk v = some b → w'.heap[b]? = w.heap[b]?) : w'.ownsRow base e sz v n xs := by
  obtain ⟨h1, h2⟩ := h
  refine ⟨h1, ?_⟩
  rcases h2 with h2 | ⟨g, cap, cur, rfl, hg, hh, r⟩
  · exact .inl h2
  · exact .inr ⟨g, cap, cur, rfl, hg, (hb g rfl).trans hh, r⟩

theorem ObjR.keep' {C C' : Cfg} {n : Nat} {o : AObj} (h : ObjR C n o) (k : VStp C.v C'.v) (hk : ∀ n, C.kn n → C'.kn n ∧ C'.φ n = C.φ n) (hl : o.live = true) (hn : C.kn n) (hb : ∀ b, blk (C.φ n) = some b → C'.w.heap[b]? = C.w.heap[b]?) : ObjR C' n o := by
  have hφ := (hk n hn).2
  cases o with
  | free => trivial
  | dead => trivial
  | box cs =>
    obtain ⟨b, T, us, h1, h2, h3⟩ := h
    exact ⟨b, T, us, hφ.trans h1, (hb b (by rw [h1]; rfl)).trans h2, VEs.step k h3⟩
  | arr e sz xs =>
    obtain ⟨inner, h1, h2⟩ := h
    refine ⟨inner, ?_, VErow.step k.bare h2⟩
    rw [hφ]
    exact owns_keep h1 hb
  | mp es =>
    obtain ⟨r, ents, clk, h1, h2, h3, h4⟩ := h
    exact ⟨r, ents, clk, hφ.trans h1, (hb r (by rw [h1]; rfl)).trans h2, h3, fun i e x he hv => ⟨VV.step k.bare (h4 i e x he hv).1, VV.step k.bare (h4 i e x he hv).2⟩⟩
  | loop E N ps asg body st pe =>
    obtain ⟨l, r, h1, h2, h3, h4, h5, h6, h7, h8, h9⟩ := h
    exact ⟨l, r, hφ.trans h1, (hb l (by rw [h1]; rfl)).trans h2, h3, h4, h5, h6, h7, h8, fun t => VV.step k (h9 t)⟩

theorem ObjR.keep {C C' : Cfg} {n : Nat} {o : AObj} (h : ObjR C n o) (k : Stp C C') (hl : o.live = true) (hn : C.kn n) (hb : ∀ b, blk (C.φ n) = some b → C'.w.heap[b]? = C.w.heap[b]?) : ObjR C' n o :=
  h.keep' k.v k.kn hl hn hb

/-- ONE STEP: at most the block B has turned, which was a live object's; one name n may be new or turned. -/
theorem Sim.move {C C' : Cfg} (h : Sim C) (B : Option Nat) (n : Nat)
    (hB : ∀ b, B = some b → ∃ m, (C.S m).live = true ∧ blk (C.φ m) = some b)
    (hw : C.w.grownBy C'.w B) (hfb : C'.fb = C.fb)
    (hkn : ∀ k, C.kn k → C'.kn k ∧ C'.φ k = C.φ k)
    (hoth : ∀ k, k ≠ n → (C'.S k).live = true → C'.S k = C.S k ∧ (B = none ∨ blk (C.φ k) ≠ B))
    (hnew : ∀ b, (C'.S n).live = true → blk (C'.φ n) = some b → C.w.heap.size ≤ b ∨ B = some b)
    (hobj : Stp C C' → ObjR C' n (C'.S n)) : Stp C C' ∧ Sim C' := by
  have hstep : Stp C C' := by
    refine ⟨hkn, fun b hb => ?_, fun b hb => by rw [hfb]; exact hb, fun b _ hb => by rw [← hfb]; exact hb, hw.os, hw.tape, hw.output, hw.size⟩
    have hne : some b ≠ B := fun e => by
      obtain ⟨m, hm1, hm2⟩ := hB b e.symm
      exact hb.2 m hm1 hm2
    refine ⟨⟨Nat.lt_of_lt_of_le hb.1 hw.size, fun k hk => ?_⟩, hw.block b hb.1 hne⟩
    by_cases hkn' : k = n
    · subst hkn'
      intro e
      rcases hnew b hk e with h1 | h1
      · exact absurd hb.1 (by omega)
      · exact hne h1.symm
    · have h1 := (hoth k hkn' hk).1
      have hl : (C.S k).live = true := h1 ▸ hk
      rw [(hkn k (live_known hl)).2]
      exact hb.2 k hl
  refine ⟨hstep, fun k => ?_, fun k b hk hb => ?_, fun b hb => ?_, fun a b x hab ha hb hx hy => ?_⟩
  · by_cases hkn' : k = n
    · subst hkn'
      exact hobj hstep
    · by_cases hk : (C'.S k).live = true
      · obtain ⟨h1, h2⟩ := hoth k hkn' hk
        have hl : (C.S k).live = true := h1 ▸ hk
        rw [h1]
        refine (h.obj k).keep hstep hl (live_known hl) (fun b hb => hw.block b (h.lt hl hb) (fun e => ?_))
        rcases h2 with h2 | h2
        · rw [h2] at e; cases e
        · exact h2 (hb.trans e)
      · cases hS : C'.S k <;> first | (simp only [ObjR]; done) | (rw [hS] at hk; simp [AObj.live] at hk; done)
  · rw [hfb]
    by_cases hkn' : k = n
    · subst hkn'
      rcases hnew b hk hb with h1 | h1
      · intro h2; have := h.fbs b h2; omega
      · obtain ⟨m, hm1, hm2⟩ := hB b h1
        exact h.fbl m b hm1 hm2
    · have h1 := (hoth k hkn' hk).1
      have hl : (C.S k).live = true := h1 ▸ hk
      rw [(hkn k (live_known hl)).2] at hb
      exact h.fbl k b hl hb
  · rw [hfb] at hb
    exact Nat.lt_of_lt_of_le (h.fbs b hb) hw.size
  · have main : ∀ {c : Nat}, c ≠ n → (C'.S c).live = true → (C.S c).live = true ∧ C'.φ c = C.φ c ∧ (B = none ∨ blk (C.φ c) ≠ B) := fun {c} hc hl => by
      obtain ⟨h1, h2⟩ := hoth c hc hl
      have hl' : (C.S c).live = true := h1 ▸ hl
      exact ⟨hl', (hkn c (live_known hl')).2, h2⟩
    have clash : ∀ {c : Nat}, c ≠ n → (C'.S c).live = true → (C'.S n).live = true → blk (C'.φ n) = some x → blk (C'.φ c) = some x → False := fun {c} hc hl hn hnx hcx => by
      obtain ⟨h1, h2, h3⟩ := main hc hl
      rw [h2] at hcx
      rcases hnew x hn hnx with h4 | h4
      · have := h.lt h1 hcx; omega
      · rcases h3 with h3 | h3
        · rw [h3] at h4; cases h4
        · exact h3 (hcx.trans h4.symm)
    by_cases han : a = n
    · subst han
      exact clash (Ne.symm hab) hb ha hx hy
    · by_cases hbn : b = n
      · subst hbn
        exact clash han ha hb hy hx
      · obtain ⟨ha1, ha2, _⟩ := main han ha
        obtain ⟨hb1, hb2, _⟩ := main hbn hb
        rw [ha2] at hx
        rw [hb2] at hy
        exact h.disj a b x hab ha1 hb1 hx hy

end Go.Asl
/- Types, frames, the goal 'G' and the rules of control. -/
set_option linter.unusedVariables false
namespace Go.Asl
open Go.RowKit

/-! ### Types -/
inductive TK where
  | int (k : IntKind)
  | bool
  | string
  | slice (e : Nat)
  | array (len e : Nat)
  | struct (fs : List (Nat × Nat))
  | map (k e : Nat)
  | other
  deriving Inhabited, DecidableEq
structure TI where
  sz : Nat
  bytes : Nat
  zero : List AV
  kind : TK
  deriving Inhabited

def zeroIs : Value → AV → Bool
  | .int k n, .int k' n' => k == k' && n == n'
  | .bool b, .bool b' => b == b'
  | .string s, .str s' => s.data.toList.isEmpty && s'.data.toList.isEmpty
  | .slice none 0 0, .nils => true
  | .nilFunc, .nilfn => true
  | .nilIface, .niliface => true
  | .map none, .nilmap => true
  | _, _ => false
def zerosAre : List Value → List AV → Bool
  | [], [] => true
  | v :: vs, a :: as => zeroIs v a && zerosAre vs as
  | _, _ => false
def isRowD : TypeDesc → Bool
  | .struct _ | .array _ _ => true
  | _ => false
def isRowK : TK → Bool
  | .struct _ | .array _ _ => true
  | _ => false
def fieldsAre : List Field → List (Nat × Nat) → Bool
  | [], [] => true
  | f :: fs, x :: xs => f.offset == x.1 && f.type == x.2 && f.name != "_" && fieldsAre fs xs
  | _, _ => false
def kindIs : TypeDesc → TK → Bool
  | .int k, .int k' => k == k'
  | .bool, .bool => true
  | .string, .string => true
  | .slice e, .slice e' => e == e'
  | .array n e, .array n' e' => n == n' && e == e'
  | .struct fs, .struct xs => fieldsAre fs.toList xs
  | .map k e, .map k' e' => k == k' && e == e'
  | d, .other => !isRowD d
  | _, _ => false
def checkT (P : Program) (t : Nat) (ti : TI) : Bool :=
  match P.info? t, P.underlying t with
  | some i, some d => i.size == ti.sz && i.bytes == ti.bytes && kindIs d ti.kind && (match i.zero with
    | some v => zerosAre v.cells.toList ti.zero && (match v with | .agg _ => isRowK ti.kind | .tuple _ => false | _ => !isRowK ti.kind) && ti.zero.length == ti.sz
    | none => false)
  | _, _ => false

/-- What is fixed: the program, its types, its package-level variables. -/
structure Ctx where
  P : Program
  T : Nat → Option TI
  gl : Nat → Option AV
structure Ctx.Ok (K : Ctx) : Prop where
  ty : ∀ t ti, K.T t = some ti → checkT K.P t ti = true

/-! ### Frames -/
structure Fr where
  E : List (Nat × AV)
  N : Nat
  ds : Nat × Nat
def Fr.set (fr : Fr) (d : Option Nat) (v : AV) : Fr :=
  match d with
  | some t => { fr with E := (t, v) :: fr.E }
  | none => fr

/-- The marks of ranges over functions: k blocks without calls, all from lo on, no one else's. -/
def DsR (C : Cfg) (lo : Nat) : Nat → List Deferred → Prop
  | 0, ds => ds = []
  | k + 1, ds => ∃ b r, ds = { target := .collected b, args := #[] } :: r ∧ lo ≤ b ∧ C.rest b ∧ C.fb b ∧ C.w.heap[b]? = some (.deferred (some [])) ∧ (∀ d ∈ r, d.target ≠ .collected b) ∧ DsR C lo k r
theorem DsR.step {C C' : Cfg} (k : Stp C C') {lo : Nat} : ∀ {m : Nat} {ds : List Deferred}, DsR C lo m ds → DsR C' lo m ds
  | 0, _, h => h
  | m + 1, _, h => by
    obtain ⟨b, r, h1, h2, h3, h4, h5, h6, h7⟩ := h
    exact ⟨b, r, h1, h2, (k.rest b h3).1, k.fb b h4, (k.rest b h3).2.trans h5, h6, DsR.step k h7⟩
/-- A frame as it stands. -/
structure FrR (C : Cfg) (fr : Fr) (a : Act) : Prop where
  size : a.tmps.size = fr.N
  val : ∀ t, VV C.v (getE fr.E t) (a.tmps.getD t undef)
  ds : DsR C fr.ds.1 fr.ds.2 a.defers
theorem FrR.step {C C' : Cfg} (k : Stp C C') {fr : Fr} {a : Act} (h : FrR C fr a) : FrR C' fr a := ⟨h.size, fun t => VV.step k.v (h.val t), DsR.step k h.ds⟩
theorem FrR.put {C : Cfg} {fr : Fr} {a : Act} (h : FrR C fr a) {d : Option Nat} {x : AV} {v : Value} (hv : VV C.v x v) (hd : ∀ t, d = some t → t < fr.N) : FrR C (fr.set d x) (a.put d v) := by
  cases d with
  | none => exact h
  | some t =>
    have ht := hd t rfl
    refine ⟨by simp [Act.put, Fr.set, h.size], fun u => ?_, h.ds⟩
    show VV C.v (getE ((t, x) :: fr.E) u) ((a.tmps.setIfInBounds t v).getD u undef)
    rw [getE_cons]
    by_cases hu : u = t
    · subst hu
      rw [if_pos rfl]
      have : u < a.tmps.size := by rw [h.size]; exact ht
      simpa [Array.getD_eq_getD_getElem?, this] using hv
    · rw [if_neg hu]
      have := h.val u
      simpa [Array.getD_eq_getD_getElem?, Array.getElem?_setIfInBounds_ne (Ne.symm hu)] using this

/-- Package-level variables whose contents are told, and that nobody writes. -/
def GlobR (K : Ctx) (C : Cfg) : Prop := ∀ g x, K.gl g = some x → ∃ us, VE C.v.bare x us ∧ Lies C.v.bare ⟨g, 0, none⟩ us
theorem GlobR.step {K : Ctx} {C C' : Cfg} (k : Stp C C') (h : GlobR K C) : GlobR K C' := fun g x hg => by
  obtain ⟨us, h1, h2⟩ := h g x hg
  exact ⟨us, VE.step k.v.bare h1, h2.step k.v.bare⟩

/-- THE GOAL: wherever the frame and the store stand so, X. -/
def G (K : Ctx) (C0 : Cfg) (fr : Fr) (L : List (Nat × AObj)) (X : Act → World → Prop) : Prop :=
  ∀ φ w fb a, Stp C0 ⟨φ, getS L, w, fb⟩ → Sim ⟨φ, getS L, w, fb⟩ → GlobR K ⟨φ, getS L, w, fb⟩ → FrR ⟨φ, getS L, w, fb⟩ fr a → X a w

/-! ### Control -/
class OpenF (F : Fence) : Prop where
  fn : ∀ f, F.fn f
  depth : F.depth = none
  alive : F.alive = false
instance : OpenF Fence.wide := ⟨fun _ => trivial, rfl, rfl⟩
instance (F : Fence) [h : OpenF F] (l : Nat) : OpenF (F.inRound l) := ⟨h.fn, h.depth, h.alive⟩
theorem room_open {F : Fence} [h : OpenF F] (k : Nat) : F.room k := fun d hd => by rw [h.depth] at hd; cases hd
theorem callsIn_open {F : Fence} [h : OpenF F] {n : Nat} {P : Program} {f : FuncId} {args : Array Value} {w : World} {R : Ending → World → Prop} (hc : Calls P f args w R) : CallsIn F n P f args w R := by
  refine ⟨h.fn f, fun cs _ => ?_⟩
  obtain ⟨e, w', fr, r, s, x⟩ := hc cs
  refine ⟨e, w', fr, r, ?_, x⟩
  have hf : ∀ m, Machine.fenced P F m := fun m g _ => ⟨(fun ha => by rw [h.alive] at ha; cases ha), .inl (h.fn _), fun f _ => h.fn f, room_open _⟩
  cases e with
  | returned v => exact (StepsIn.of_steps s).mono fun m _ => hf m
  | panicked chain => exact (StepsIn.of_steps s).mono fun m _ => hf m
  | outgrown => exact s
theorem calls_of_in {F : Fence} [h : OpenF F] {n : Nat} {P : Program} {f : FuncId} {args : Array Value} {w : World} {R : Ending → World → Prop} (hc : CallsIn F n P f args w R) : Calls P f args w R := hc.calls room_open

section
variable {K : Ctx} {C0 : Cfg} {fr : Fr} {L : List (Nat × AObj)} {F : Fence} {n : Nat} {P : Program} {Q : Exit → Act → World → Prop}

theorem G.mono {X Y : Act → World → Prop} (h : G K C0 fr L X) (hXY : ∀ a w, X a w → Y a w) : G K C0 fr L Y := fun φ w fb a h1 h2 h3 h4 => hXY _ _ (h φ w fb a h1 h2 h3 h4)
theorem G_skip (h : G K C0 fr L (Q .normal)) : G K C0 fr L (Code.skip.wpIn F n P Q) := h.mono fun _ _ => wpIn_skip
theorem G_exit {id : Nat} (h : G K C0 fr L (Q (.exit id))) : G K C0 fr L ((Code.exit id).wpIn F n P Q) := h.mono fun _ _ => wpIn_exit
theorem G_ret (h : G K C0 fr L (Q .ret)) : G K C0 fr L (Code.ret.wpIn F n P Q) := h.mono fun _ _ => wpIn_ret
theorem G_seq {x y : Code} (h : G K C0 fr L (x.wpIn F n P (Exit.then (y.wpIn F n P Q) Q))) : G K C0 fr L ((Code.seq x y).wpIn F n P Q) := h.mono fun _ _ => wpIn_seq
theorem G_block {id : Nat} {c : Code} (h : G K C0 fr L (c.wpIn F n P (Exit.inBlock id Q))) : G K C0 fr L ((Code.block id c).wpIn F n P Q) := h.mono fun _ _ => wpIn_block

def ofConst : Value → AV
  | .int k n => .int k n
  | .bool b => .bool b
  | .string s => .str s
  | .slice none 0 0 => .nils
  | .nilFunc => .nilfn
  | .nilIface => .niliface
  | .map none => .nilmap
  | _ => .undef
def opd (K : Ctx) (fr : Fr) : Operand → AV
  | .tmp t => getE fr.E t
  | .const v => ofConst v
  | .func f => .fn f [] []
  | .global g => match K.gl g with
    | some x => .rptr x 0
    | none => .undef
theorem ofConst_VV (C : VC) (v : Value) : VV C (ofConst v) v := by
  unfold ofConst
  split <;> simp [VV]
theorem opd_VV {C : Cfg} {a : Act} (hG : GlobR K C) (h : FrR C fr a) (x : Operand) : VV C.v (opd K fr x) (a.eval x) := by
  cases x with
  | tmp t => exact h.val t
  | const v => exact ofConst_VV _ v
  | func f => simp [opd, Act.eval, VV, VVs]
  | global g =>
    simp only [opd]
    cases hg : K.gl g with
    | none => simp [VV]
    | some x =>
      obtain ⟨us, h1, h2⟩ := hG g x hg
      simp only [VV, Act.eval]
      refine ⟨⟨g, 0, none⟩, us, by simp [add_plain], h1, ?_⟩
      exact ⟨h2.1, h2.2.1, h2.2.2⟩

theorem G_cond {c : Operand} {x y : Code} {b : Bool} (hc : opd K fr c = .bool b) (ht : b = true → G K C0 fr L (x.wpIn F n P Q)) (hf : b = false → G K C0 fr L (y.wpIn F n P Q)) :
    G K C0 fr L ((Code.cond c x y).wpIn F n P Q) := fun φ w fb a h1 h2 h3 h4 => by
  have hv := opd_VV h3 h4 c
  rw [hc] at hv
  simp only [VV] at hv
  cases b with
  | true => exact wpIn_cond_true hv (ht rfl φ w fb a h1 h2 h3 h4)
  | false => exact wpIn_cond_false hv (hf rfl φ w fb a h1 h2 h3 h4)
theorem G_cond_t {c : Operand} {x y : Code} (hc : opd K fr c = .bool true) (h : G K C0 fr L (x.wpIn F n P Q)) : G K C0 fr L ((Code.cond c x y).wpIn F n P Q) := G_cond hc (fun _ => h) (fun e => by cases e)
theorem G_cond_f {c : Operand} {x y : Code} (hc : opd K fr c = .bool false) (h : G K C0 fr L (y.wpIn F n P Q)) : G K C0 fr L ((Code.cond c x y).wpIn F n P Q) := G_cond hc (fun e => by cases e) (fun _ => h)

/-- The frame and the store meet a relation. -/
def At (K : Ctx) (C0 : Cfg) (I : Fr → List (Nat × AObj) → Prop) (a : Act) (w : World) : Prop :=
  ∃ φ fr L fb, Stp C0 ⟨φ, getS L, w, fb⟩ ∧ Sim ⟨φ, getS L, w, fb⟩ ∧ GlobR K ⟨φ, getS L, w, fb⟩ ∧ FrR ⟨φ, getS L, w, fb⟩ fr a ∧ I fr L
theorem G_at {I : Fr → List (Nat × AObj) → Prop} (h : I fr L) : G K C0 fr L (At K C0 I) := fun φ w fb a h1 h2 h3 h4 => ⟨φ, fr, L, fb, h1, h2, h3, h4, h⟩
theorem At.elim {I : Fr → List (Nat × AObj) → Prop} {a : Act} {w : World} {X : Act → World → Prop} (h : At K C0 I a w) (hX : ∀ fr L, I fr L → G K C0 fr L X) : X a w := by
  obtain ⟨φ, fr, L, fb, h1, h2, h3, h4, h5⟩ := h
  exact hX fr L h5 φ w fb a h1 h2 h3 h4

theorem least {p : Nat → Prop} (h : ∃ n, p n) : ∃ n, p n ∧ ∀ m, p m → n ≤ m := by
  obtain ⟨n, hn⟩ := h
  induction n using Nat.strongRecOn with
  | _ n ih =>
    by_cases hm : ∃ m, p m ∧ m < n
    · obtain ⟨m, h1, h2⟩ := hm
      exact ih m h2 h1
    · exact ⟨n, hn, fun m hp => by
        rcases Nat.lt_or_ge m n with h | h
        · exact absurd ⟨m, hp, h⟩ hm
        · exact h⟩
open Classical in
/-- The least measure at which the relation is met. -/
noncomputable def leastOf (p : Nat → Prop) : Nat := if h : ∃ n, p n then Classical.choose (least h) else 0
theorem leastOf_spec {p : Nat → Prop} (h : ∃ n, p n) : p (leastOf p) := by
  unfold leastOf; rw [dif_pos h]; exact (Classical.choose_spec (least h)).1
theorem leastOf_le {p : Nat → Prop} {m : Nat} (h : p m) : leastOf p ≤ m := by
  have hx : ∃ n, p n := ⟨m, h⟩
  unfold leastOf; rw [dif_pos hx]; exact (Classical.choose_spec (least hx)).2 m h
/-- A loop: a relation with a measure. -/
theorem G_loop {c : Code} (I : Nat → Fr → List (Nat × AObj) → Prop) {m : Nat} (h0 : G K C0 fr L (At K C0 (I m)))
    (hround : ∀ m fr L, I m fr L → G K C0 fr L (c.wpIn F n P (Exit.then (fun a w => ∃ m', m' < m ∧ At K C0 (I m') a w) Q))) :
    G K C0 fr L ((Code.loop c).wpIn F n P Q) := fun φ w fb a h1 h2 h3 h4 => by
  have h0' := h0 φ w fb a h1 h2 h3 h4
  refine wpIn_loop (fun a w => ∃ m, At K C0 (I m) a w) (fun a w => leastOf fun m => At K C0 (I m) a w) ⟨m, h0'⟩ ?_
  intro a w hm
  have hmin := leastOf_spec hm
  refine wpIn_mono (hmin.elim (hround _)) ?_
  intro e a' w' hq
  cases e with
  | normal =>
    obtain ⟨m', hlt, hr⟩ := hq
    exact ⟨⟨m', hr⟩, Nat.lt_of_le_of_lt (leastOf_le hr) hlt⟩
  | exit id => exact hq
  | goto l => exact hq
  | ret => exact hq
  | panic c => exact hq
  | outgrown => exact hq
/-- A round's end. -/
theorem G_again {I : Nat → Fr → List (Nat × AObj) → Prop} {m m' : Nat} (hlt : m' < m) (h : G K C0 fr L (At K C0 (I m'))) : G K C0 fr L (fun a w => ∃ m', m' < m ∧ At K C0 (I m') a w) :=
  h.mono fun _ _ h => ⟨m', hlt, h⟩
end

/-! ### Regions: the operations as a list, each with the slot that its guard asks -/
section
variable {F : Fence} {n : Nat} {P : Program} {Q : Exit → Act → World → Prop}

def wpG (F : Fence) (n : Nat) (P : Program) (Q : Exit → Act → World → Prop) : List (Oper × Option (Nat × Bool)) → Act → World → Prop
  | [], a, w => Q .normal a w
  | (o, none) :: r, a, w => o.wpIn F n P a w (wpG F n P Q r) Q
  | (o, some (t, b)) :: r, a, w => ∃ v, a.tmps[t]? = some v ∧ ((v = .bool b ∧ o.wpIn F n P a w (wpG F n P Q r) Q) ∨ (v ≠ .bool b ∧ wpG F n P Q r (a.put o.dst undef) w))
def gd (ops : Array Oper) (o : Oper) : Option (Option (Nat × Bool)) :=
  match o.guard with
  | none => some none
  | some (j, b) => match (ops[j]?).bind (·.dst) with
    | some t => some (some (t, b))
    | none => none
def withGuards (ops : Array Oper) : List Oper → Option (List (Oper × Option (Nat × Bool)))
  | [] => some []
  | o :: r => match gd ops o, withGuards ops r with
    | some g, some gs => some ((o, g) :: gs)
    | _, _ => none

theorem wpG_sound [OpenF F] (ops : Array Oper) : ∀ (k i : Nat) (gs : List (Oper × Option (Nat × Bool))) (a : Act) (w : World), i + k = ops.size → withGuards ops (ops.toList.drop i) = some gs →
    wpG F n P Q gs a w → wpOpsIn F n P ops Q (List.range' i k) a w := by
  intro k
  induction k with
  | zero =>
    intro i gs a w hi hg h
    have : ops.toList.drop i = [] := List.drop_eq_nil_of_le (by simp; omega)
    rw [this] at hg
    simp only [withGuards, Option.some.injEq] at hg
    subst hg
    simpa [wpOpsIn, wpG] using h
  | succ k ih =>
    intro i gs a w hi hg h
    have hlt : i < ops.size := by omega
    have hd : ops.toList.drop i = ops[i] :: ops.toList.drop (i + 1) := by
      rw [List.drop_eq_getElem_cons (by simpa using hlt)]; simp
    rw [hd] at hg
    simp only [withGuards] at hg
    have ho : ops[i]? = some ops[i] := Array.getElem?_eq_getElem hlt
    cases hgd : gd ops ops[i] with
    | none => rw [hgd] at hg; cases hg
    | some g =>
      cases hgs : withGuards ops (ops.toList.drop (i + 1)) with
      | none => rw [hgd, hgs] at hg; cases hg
      | some gs' =>
        rw [hgd, hgs] at hg
        simp only [Option.some.injEq] at hg
        subst hg
        simp only [List.range'_succ, wpOpsIn, ho]
        have next : ∀ a w, wpG F n P Q gs' a w → wpOpsIn F n P ops Q (List.range' (i + 1) k) a w := fun a w h => ih (i + 1) gs' a w (by omega) hgs h
        have up : ∀ (K' : Act → World → Prop), (ops[i]).wpIn F n P a w (wpG F n P Q gs') Q → (ops[i]).wpIn F n P a w (wpOpsIn F n P ops Q (List.range' (i + 1) k)) Q := fun _ h => by
          refine ⟨h.1, ?_⟩
          have h2 := h.2
          revert h2
          generalize ((ops[i]).semAt F.round a.eval).run P w = res
          intro h2
          cases res with
          | halt hh w' => cases hh <;> first | exact h2 | simpa [Oper.uponIn] using h2
          | ok nx w' =>
            cases nx <;> simp only [Oper.uponIn] at h2 ⊢ <;> first | exact next _ _ h2 | exact h2 | skip
            · refine ⟨h2.1, h2.2.mono fun e w'' hr => ?_⟩
              cases e <;> first | exact next _ _ hr | exact hr
            · refine ⟨h2.1, h2.2.mono fun e w'' hr => ?_⟩
              cases e <;> first | exact next _ _ hr | exact hr
            · exact ⟨h2.1, h2.2.mono fun v w'' hr => next _ _ hr⟩
        unfold gd at hgd
        cases hgu : (ops[i]).guard with
        | none =>
          rw [hgu] at hgd
          simp only [Option.some.injEq] at hgd
          subst hgd
          have hw : Region.wanted ops[i] (yielded ops a.tmps) = true := by simp [Region.wanted, hgu]
          rw [if_pos hw]
          exact up (fun _ _ => True) h
        | some jb =>
          obtain ⟨j, b⟩ := jb
          rw [hgu] at hgd
          dsimp only at hgd
          cases hj : (ops[j]?).bind (·.dst) with
          | none => rw [hj] at hgd; cases hgd
          | some t =>
            rw [hj] at hgd
            simp only [Option.some.injEq] at hgd
            subst hgd
            obtain ⟨c, hc, h⟩ := h
            rcases h with ⟨e, h⟩ | ⟨e, h⟩
            · have hw : Region.wanted ops[i] (yielded ops a.tmps) = true := by simp [Region.wanted, hgu, yielded, hj, hc, e]
              rw [if_pos hw]
              exact up (fun _ _ => True) h
            · have hw : Region.wanted ops[i] (yielded ops a.tmps) = false := by
                cases c <;> simp_all [Region.wanted, yielded]
              rw [hw]
              exact ⟨fun f _ => OpenF.fn f, next _ _ h⟩
end
section
variable {K : Ctx} {C0 : Cfg} {fr : Fr} {L : List (Nat × AObj)} {F : Fence} {n : Nat} {P : Program} {Q : Exit → Act → World → Prop}
theorem G_region [OpenF F] {id : Nat} {ops : Array Oper} {gs : List (Oper × Option (Nat × Bool))} (hg : withGuards ops ops.toList = some gs) (h : G K C0 fr L (wpG F n P Q gs)) :
    G K C0 fr L ((Code.region id ops false).wpIn F n P Q) := h.mono fun a w h => wpIn_region (by
      rw [List.range_eq_range']
      exact wpG_sound ops ops.size 0 gs a w (by omega) (by simpa using hg) h)
theorem G_nil (h : G K C0 fr L (Q .normal)) : G K C0 fr L (wpG F n P Q []) := h
theorem slot_get {C : Cfg} {a : Act} {t : Nat} (h4 : FrR C fr a) (hN : t < fr.N) : a.tmps[t]? = some (a.tmps.getD t undef) := by
  have hlt : t < a.tmps.size := by rw [h4.size]; exact hN
  rw [Array.getElem?_eq_getElem hlt]
  simp [Array.getD_eq_getD_getElem?, hlt]
theorem G_guard {o : Oper} {t : Nat} {b c : Bool} {r : List (Oper × Option (Nat × Bool))} (hc : getE fr.E t = .bool c) (hN : t < fr.N)
    (hy : c = b → G K C0 fr L (wpG F n P Q ((o, none) :: r))) (hn : c = !b → G K C0 (fr.set o.dst (.tup [])) L (wpG F n P Q r)) (hd : ∀ d, o.dst = some d → d < fr.N) : G K C0 fr L (wpG F n P Q ((o, some (t, b)) :: r)) := fun φ w fb a h1 h2 h3 h4 => by
  have hv := h4.val t
  rw [hc] at hv
  simp only [VV] at hv
  refine ⟨_, slot_get h4 hN, ?_⟩
  rw [hv]
  by_cases e : c = b
  · exact .inl ⟨by rw [e], hy e φ w fb a h1 h2 h3 h4⟩
  · exact .inr ⟨by simpa using e, hn (by cases b <;> cases c <;> simp_all) φ w fb _ h1 h2 h3 (h4.put ⟨[], rfl, rfl⟩ hd)⟩
/-- A guard on what was skipped itself. -/
theorem G_guard_none {o : Oper} {t : Nat} {b : Bool} {r : List (Oper × Option (Nat × Bool))} (hc : getE fr.E t = .tup []) (hN : t < fr.N)
    (hn : G K C0 (fr.set o.dst (.tup [])) L (wpG F n P Q r)) (hd : ∀ d, o.dst = some d → d < fr.N) : G K C0 fr L (wpG F n P Q ((o, some (t, b)) :: r)) := fun φ w fb a h1 h2 h3 h4 => by
  have hv := h4.val t
  rw [hc] at hv
  obtain ⟨us, hv, hu⟩ := hv
  refine ⟨_, slot_get h4 hN, .inr ⟨?_, hn φ w fb _ h1 h2 h3 (h4.put ⟨[], rfl, rfl⟩ hd)⟩⟩
  rw [hv]; simp
end
end Go.Asl
/- Operations that only compute or read: their abstract values. -/
set_option linter.unusedVariables false
namespace Go.Asl
open Go.RowKit

/-! ### Cells and values -/
theorem VE_VV {C : VC} {a : AV} {u : Value} (ha : ∀ as, a ≠ .agg as) (h : VE C a [u]) : VV C a u := by
  cases a with
  | undef => simp [VV]
  | int k n => simpa [VE, VV] using h
  | bool b => simpa [VE, VV] using h
  | str s => simpa [VE, VV] using h
  | nils => simpa [VE, VV] using h
  | lst xs =>
    simp only [VE, VV] at h ⊢
    obtain ⟨A, c, sz, us, h1, h2⟩ := h
    exact ⟨A, c, sz, us, by simpa using h1, h2⟩
  | clip xs =>
    simp only [VE, VV] at h ⊢
    obtain ⟨A, sz, us, h1, h2⟩ := h
    exact ⟨A, sz, us, by simpa using h1, h2⟩
  | own n => simp only [VE, VV] at h ⊢; exact ⟨h.1, h.2.1, by simpa using h.2.2⟩
  | ptr n off =>
    simp only [VE, VV] at h ⊢
    obtain ⟨h1, b, h2, h3⟩ := h
    exact ⟨h1, b, h2, by simpa using h3⟩
  | eptr n sz i off =>
    simp only [VE, VV] at h ⊢
    obtain ⟨h1, b, l, c, h2, h3⟩ := h
    exact ⟨h1, b, l, c, h2, by simpa using h3⟩
  | rptr x off =>
    simp only [VE, VV] at h ⊢
    obtain ⟨ad, us, h1, h2⟩ := h
    exact ⟨ad, us, by simpa using h1, h2⟩
  | agg as => exact absurd rfl (ha as)
  | tup as => simp only [VE] at h
  | fn f as bs =>
    simp only [VE, VV] at h ⊢
    obtain ⟨us, vs, h1, h2⟩ := h
    exact ⟨us, vs, by simpa using h1, h2⟩
  | yld n =>
    simp only [VE, VV] at h ⊢
    obtain ⟨h1, l, h2, h3⟩ := h
    exact ⟨h1, l, h2, by simpa using h3⟩
  | map n =>
    simp only [VE, VV] at h ⊢
    obtain ⟨h1, l, h2, h3⟩ := h
    exact ⟨h1, l, h2, by simpa using h3⟩
  | nilmap => simpa [VE, VV] using h
  | nilfn => simpa [VE, VV] using h
  | niliface => simpa [VE, VV] using h
/-- One cell's abstract value. -/
def AV.one : AV → Bool
  | .undef | .agg _ | .tup _ => false
  | _ => true
theorem VV_VE {C : VC} {a : AV} {u : Value} (ha : a.one = true) (h : VV C a u) : VE C a [u] := by
  cases a <;> first | (simp [AV.one] at ha; done) | (simp only [VE, VV] at h ⊢; simpa using h)
theorem VE_one {C : VC} {a : AV} {u : Value} (ha : ∀ as, a ≠ .agg as) (h : VE C a [u]) : u.oneCell' = true := by
  cases a with
  | undef => simp only [VE] at h; obtain ⟨c, h1, h2⟩ := h; simp at h1; subst h1; exact h2
  | int k n => simp only [VE, List.cons.injEq, and_true] at h; subst h; rfl
  | bool b => simp only [VE, List.cons.injEq, and_true] at h; subst h; rfl
  | str s => simp only [VE, List.cons.injEq, and_true] at h; subst h; rfl
  | nils => simp only [VE, List.cons.injEq, and_true] at h; subst h; rfl
  | lst xs => simp only [VE, List.cons.injEq, and_true] at h; obtain ⟨A, c, sz, us, h1, _⟩ := h; subst h1; rfl
  | clip xs => simp only [VE, List.cons.injEq, and_true] at h; obtain ⟨A, sz, us, h1, _⟩ := h; subst h1; rfl
  | own n => simp only [VE, List.cons.injEq, and_true] at h; obtain ⟨_, ⟨A, l, c, h1⟩, h2⟩ := h; rw [h2, h1]; rfl
  | ptr n off => simp only [VE, List.cons.injEq, and_true] at h; obtain ⟨_, b, _, h2⟩ := h; rw [h2]; rfl
  | eptr n sz i off => simp only [VE, List.cons.injEq, and_true] at h; obtain ⟨_, b, l, c, _, h2⟩ := h; rw [h2]; rfl
  | rptr x off => simp only [VE, List.cons.injEq, and_true] at h; obtain ⟨ad, us, h2, _⟩ := h; rw [h2]; rfl
  | agg as => exact absurd rfl (ha as)
  | tup as => simp only [VE] at h
  | fn f as bs => simp only [VE, List.cons.injEq, and_true] at h; obtain ⟨us, vs, h2, _⟩ := h; rw [h2]; rfl
  | yld n => simp only [VE, List.cons.injEq, and_true] at h; obtain ⟨_, l, h1, h2⟩ := h; rw [h2, h1]; rfl
  | map n => simp only [VE, List.cons.injEq, and_true] at h; obtain ⟨_, l, h1, h2⟩ := h; rw [h2, h1]; rfl
  | nilmap => simp only [VE, List.cons.injEq, and_true] at h; subst h; rfl
  | nilfn => simp only [VE, List.cons.injEq, and_true] at h; subst h; rfl
  | niliface => simp only [VE, List.cons.injEq, and_true] at h; subst h; rfl

/-- Point by point. -/
theorem VEs_iff {C : VC} : ∀ {as : List AV} {us : List Value}, VEs C as us ↔ as.length = us.length ∧ ∀ (i : Nat) (a : AV) (u : Value), as[i]? = some a → us[i]? = some u → VE C a [u]
  | [], us => by
    simp only [VEs]
    constructor
    · rintro rfl; exact ⟨rfl, fun i a u h => by simp at h⟩
    · rintro ⟨h, _⟩; exact List.eq_nil_of_length_eq_zero h.symm
  | a :: as, us => by
    simp only [VEs]
    constructor
    · rintro ⟨c, r, rfl, h1, h2⟩
      obtain ⟨h3, h4⟩ := VEs_iff.1 h2
      refine ⟨by simp [h3], fun i b u hb hu => ?_⟩
      cases i with
      | zero => simp at hb hu; subst hb; subst hu; exact h1
      | succ i => simp at hb hu; exact h4 i b u hb hu
    · rintro ⟨h1, h2⟩
      cases us with
      | nil => simp at h1
      | cons u us => exact ⟨u, us, rfl, h2 0 a u rfl rfl, VEs_iff.2 ⟨by simpa using h1, fun i b v hb hv => h2 (i + 1) b v (by simpa using hb) (by simpa using hv)⟩⟩
theorem VVs_iff {C : VC} : ∀ {as : List AV} {us : List Value}, VVs C as us ↔ as.length = us.length ∧ ∀ (i : Nat) (a : AV) (u : Value), as[i]? = some a → us[i]? = some u → VV C a u
  | [], us => by
    simp only [VVs]
    constructor
    · rintro rfl; exact ⟨rfl, fun i a u h => by simp at h⟩
    · rintro ⟨h, _⟩; exact List.eq_nil_of_length_eq_zero h.symm
  | a :: as, us => by
    simp only [VVs]
    constructor
    · rintro ⟨c, r, rfl, h1, h2⟩
      obtain ⟨h3, h4⟩ := VVs_iff.1 h2
      refine ⟨by simp [h3], fun i b u hb hu => ?_⟩
      cases i with
      | zero => simp at hb hu; subst hb; subst hu; exact h1
      | succ i => simp at hb hu; exact h4 i b u hb hu
    · rintro ⟨h1, h2⟩
      cases us with
      | nil => simp at h1
      | cons u us => exact ⟨u, us, rfl, h2 0 a u rfl rfl, VVs_iff.2 ⟨by simpa using h1, fun i b v hb hv => h2 (i + 1) b v (by simpa using hb) (by simpa using hv)⟩⟩

/-- The cells of an abstract value. -/
def AV.cells : AV → Option (List AV)
  | .agg as => some as
  | .undef | .tup _ => none
  | a => some [a]
theorem AV.cells_of_one {a : AV} (h : a.one = true) : a.cells = some [a] := by cases a <;> simp_all [AV.one, AV.cells]
theorem AV.cells_cases {a : AV} {cs : List AV} (h : a.cells = some cs) : a = .agg cs ∨ (a.one = true ∧ cs = [a]) := by
  cases a <;> simp_all [AV.one, AV.cells]
theorem VV_cells {C : VC} {a : AV} {v : Value} {cs : List AV} (hc : a.cells = some cs) (h : VV C a v) : VEs C cs v.cells.toList := by
  rcases AV.cells_cases hc with rfl | ⟨h1, rfl⟩
  · simp only [VV] at h
    obtain ⟨us, rfl, h2⟩ := h
    simpa [Value.cells] using h2
  · have h2 := VV_VE h1 h
    have h3 := VE_one (fun as e => by subst e; simp [AV.one] at h1) h2
    have : v.cells.toList = [v] := by cases v <;> first | rfl | (simp [Value.oneCell'] at h3)
    rw [this]
    exact ⟨v, [], rfl, h2, rfl⟩
theorem VE_cells {C : VC} {a : AV} {us : List Value} {cs : List AV} (hc : a.cells = some cs) (h : VE C a us) : VEs C cs us := by
  rcases AV.cells_cases hc with rfl | ⟨h1, rfl⟩
  · simpa [VE] using h
  · have hlen : ∃ u, us = [u] := by
      cases a <;> first | (simp [AV.one] at h1; done) | skip
      all_goals (simp only [VE] at h)
      all_goals first | exact ⟨_, h⟩ | (obtain ⟨_, _, _, _, h, _⟩ := h; exact ⟨_, h⟩) | (obtain ⟨_, _, _, h, _⟩ := h; exact ⟨_, h⟩) | (obtain ⟨_, _, h⟩ := h; exact ⟨_, h⟩) | (obtain ⟨_, _, _, h⟩ := h; exact ⟨_, h⟩) | (obtain ⟨_, _, h, _⟩ := h; exact ⟨_, h⟩) | (obtain ⟨_, _, _, _, _, h⟩ := h; exact ⟨_, h⟩)
    obtain ⟨u, rfl⟩ := hlen
    exact ⟨u, [], rfl, h, rfl⟩

/-! ### Types' facts -/
theorem kindIs_row {d : TypeDesc} {k : TK} (h : kindIs d k = true) : isRowD d = isRowK k := by
  cases d <;> cases k <;> simp_all [kindIs, isRowD, isRowK]
structure TFacts (P : Program) (t : Nat) (ti : TI) : Prop where
  info : ∃ i, P.info? t = some i ∧ i.size = ti.sz ∧ i.bytes = ti.bytes ∧ ∃ v, i.zero = some v ∧ zerosAre v.cells.toList ti.zero = true ∧ ti.zero.length = ti.sz ∧ ((isRowK ti.kind = true ∧ ∃ us, v = .agg us) ∨ (isRowK ti.kind = false ∧ v.cells = #[v]))
  desc : ∃ d, P.underlying t = some d ∧ kindIs d ti.kind = true
theorem Ctx.Ok.facts {K : Ctx} (h : K.Ok) {t : Nat} {ti : TI} (ht : K.T t = some ti) : TFacts K.P t ti := by
  have hc := h.ty t ti ht
  unfold checkT at hc
  cases hi : K.P.info? t with
  | none => rw [hi] at hc; simp at hc
  | some i =>
    cases hu : K.P.underlying t with
    | none => rw [hi, hu] at hc; simp at hc
    | some d =>
      rw [hi, hu] at hc
      simp only [Bool.and_eq_true, beq_iff_eq] at hc
      obtain ⟨⟨⟨h1, h2⟩, h3⟩, h4⟩ := hc
      cases hz : i.zero with
      | none => rw [hz] at h4; simp at h4
      | some v =>
        rw [hz] at h4
        simp only [Bool.and_eq_true, beq_iff_eq] at h4
        obtain ⟨⟨h5, h6⟩, h7⟩ := h4
        refine ⟨⟨i, hi, h1, h2, v, hz, h5, h7, ?_⟩, ⟨d, hu, h3⟩⟩
        cases v with
        | agg us => exact .inl ⟨h6, us, rfl⟩
        | tuple us => simp at h6
        | _ => exact .inr ⟨by simpa using h6, rfl⟩
theorem TFacts.size {P : Program} {t : Nat} {ti : TI} (h : TFacts P t ti) (w : World) : (sizeOf t).run P w = .ok ti.sz w := by
  obtain ⟨i, hi, h1, _⟩ := h.info
  simp [sizeOf, typeInfo, hi, h1]
theorem TFacts.row {P : Program} {t : Nat} {ti : TI} (h : TFacts P t ti) (w : World) : (isAgg t).run P w = .ok (isRowK ti.kind) w := by
  obtain ⟨d, hd, hk⟩ := h.desc
  unfold isAgg
  rw [Sem.run_bind, run_underlying hd w, ← kindIs_row hk]
  cases d <;> simp [isRowD]

/-- Reading a variable of a type out of cells that are told. -/
theorem run_loadVar_cells {P : Program} {t : Nat} {ti : TI} (h : TFacts P t ti) (w : World) (ad : Addr) (us : List Value) (hl : us.length = ti.sz) (hc : ∀ i u, us[i]? = some u → w.cell? (ad.add i) = some u) :
    (isRowK ti.kind = true → (loadVar t ad).run P w = .ok (.agg us.toArray) w) ∧ (isRowK ti.kind = false → ∀ u, us = [u] → (loadVar t ad).run P w = .ok u w) := by
  constructor
  · intro hr
    have := run_loadCells_list (P := P) w ad us hc
    simp [loadVar, Sem.run_bind, h.row w, hr, h.size w, ← hl, this]
  · intro hr u hu
    subst hu
    have h0 := hc 0 u rfl
    have : ad.add 0 = ad := by simp [Addr.add]
    rw [this] at h0
    simp [loadVar, Sem.run_bind, h.row w, hr, h0]

/-! ### The evaluator -/
def flat : AV → Bool
  | .agg _ => false
  | _ => true
/-- The value of type ti that begins at cell off of cs. -/
def cellsAt (ti : TI) (cs : List AV) (off : Nat) : Option AV :=
  match isRowK ti.kind with
  | true => match Nat.ble (off + ti.sz) cs.length with
    | true => some (.agg ((cs.drop off).take ti.sz))
    | false => none
  | false => match cs[off]? with
    | some a => match flat a with
      | true => some a
      | false => none
    | none => none
def loadP (ti : TI) (S : Nat → AObj) : AV → Option AV
  | .ptr n off => match S n with
    | .box cs => cellsAt ti cs off
    | _ => none
  | .rptr x off => match x.cells with
    | some cs => cellsAt ti cs off
    | none => none
  | _ => none
def eqInt (a b : Int) : Bool := decide (a = b)
/-- The words of binOp that need no type. -/
def binP (op : BinOp) (x y : AV) : Option AV :=
  match op, x, y with
  | .add, .int k a, .int k' b => if k = k' then some (.int k (k.wrap (a + b))) else none
  | .sub, .int k a, .int k' b => if k = k' then some (.int k (k.wrap (a - b))) else none
  | .mul, .int k a, .int k' b => if k = k' then some (.int k (k.wrap (a * b))) else none
  | .eql, .int k a, .int k' b => if k = k' then some (.bool (decide (a = b))) else none
  | .neq, .int k a, .int k' b => if k = k' then some (.bool (decide (a ≠ b))) else none
  | .lss, .int k a, .int k' b => if k = k' then some (.bool (decide (a < b))) else none
  | .leq, .int k a, .int k' b => if k = k' then some (.bool (decide (a ≤ b))) else none
  | .gtr, .int k a, .int k' b => if k = k' then some (.bool (decide (b < a))) else none
  | .geq, .int k a, .int k' b => if k = k' then some (.bool (decide (b ≤ a))) else none
  | .shr, .int k a, .int k' b => if 0 ≤ b then some (.int k (a / 2 ^ (min b.toNat k.bits))) else none
  | _, _, _ => none
def minP : AV → List AV → Option AV
  | a, [] => some a
  | .int k a, .int k' b :: r => minP (.int k (if b < a then b else a)) r
  | _, _ => none
def maxP : AV → List AV → Option AV
  | a, [] => some a
  | .int k a, .int k' b :: r => maxP (.int k (if a < b then b else a)) r
  | _, _ => none
end Go.Asl
/- The evaluator of the operations that only compute or read, and that it says what the machine does. -/
set_option linter.unusedVariables false
namespace Go.Asl
open Go.RowKit

/-- Parts of a struct put into the cells of its zero value. -/
def putAt (cells : List AV) (off : Nat) (cs : List AV) : List AV := cells.take off ++ cs ++ cells.drop (off + cs.length)
def fillP (place : Nat → Option (Nat × Nat)) (ρ : Operand → AV) (cells : List AV) : List (Nat × Operand) → Option (List AV)
  | [] => some cells
  | (i, x) :: r => match place i, (ρ x).cells with
    | some (off, size), some cs => match Nat.beq cs.length size, Nat.ble (off + size) cells.length with
      | true, true => fillP place ρ (putAt cells off cs) r
      | _, _ => none
    | _, _ => none
def fieldPlaces (K : Ctx) : List (Nat × Nat) → Option (List (Nat × Nat))
  | [] => some []
  | (off, t) :: r => match K.T t, fieldPlaces K r with
    | some ti, some ps => some ((off, ti.sz) :: ps)
    | _, _ => none

/-- A pointer moved on by some cells. -/
def moveP (p : AV) (k : Nat) : Option AV :=
  match p with
  | .ptr n o => some (.ptr n (o + k))
  | .eptr n sz i o => some (.eptr n sz i (o + k))
  | .rptr y o => some (.rptr y (o + k))
  | _ => none
def evalB (K : Ctx) (ρ : Operand → AV) (S : Nat → AObj) (b : Builtin) (args : List Operand) (ts : List TypeId) : Option AV :=
  match b with
  | .len => match args, ts with
    | [x], [t] => match K.T t with
      | some ⟨_, _, _, .slice _⟩ => match ρ x with
        | .lst xs => some (.int .i64 xs.length)
        | .nils => some (.int .i64 0)
        | .own n => match S n with
          | .arr _ _ xs => some (.int .i64 xs.length)
          | _ => none
        | _ => none
      | some ⟨_, _, _, .string⟩ => match ρ x with
        | .str s => some (.int .i64 s.size)
        | _ => none
      | _ => none
    | _, _ => none
  | .min => match args with
    | x :: r => minP (ρ x) (r.map ρ)
    | [] => none
  | .max => match args with
    | x :: r => maxP (ρ x) (r.map ρ)
    | [] => none
  | _ => none
def evalPure (K : Ctx) (ρ : Operand → AV) (S : Nat → AObj) : Op → Option AV
  | .move x => some (ρ x)
  | .assign x => some (ρ x)
  | .pick c a b => match ρ c with
    | .bool true => some (ρ a)
    | .bool false => some (ρ b)
    | _ => none
  | .load t p => match K.T t with
    | some ti => loadP ti S (ρ p)
    | none => none
  | .nilCheck x => match ρ x with
    | .ptr n off => some (.ptr n off)
    | .eptr n sz i off => some (.eptr n sz i off)
    | .rptr y off => some (.rptr y off)
    | _ => none
  | .binOp op _ x y _ => binP op (ρ x) (ρ y)
  | .unOp .not _ x => match ρ x with
    | .bool b => some (.bool (!b))
    | _ => none
  | .unOp .neg _ x => match ρ x with
    | .int k a => some (.int k (k.wrap (0 - a)))
    | _ => none
  | .makeFunc (.func f) first caps => some (.fn f (first.toList.map ρ) (caps.toList.map ρ))
  | .extract x i => match ρ x with
    | .tup vs => vs[i]?
    | _ => none
  | .fieldAddr s x f => match K.T s with
    | some ⟨_, _, _, .struct fs⟩ => match fs[f]? with
      | some (off, t) => match K.T t with
        | some ti => match Nat.blt 0 ti.sz with
          | true => moveP (ρ x) off
          | false => none
        | none => none
      | none => none
    | _ => none
  | .indexAddr t x j => match K.T t, ρ j with
    | some ⟨_, _, _, .array len e⟩, .int _ (.ofNat i) => match K.T e with
      | some ti => match Nat.blt i len with
        | true => moveP (ρ x) (i * ti.sz)
        | false => none
      | none => none
    | _, _ => none
  | .field s x f => match K.T s with
    | some ⟨_, _, _, .struct fs⟩ => match fs[f]?, ρ x with
      | some (off, t), .agg cs => match K.T t with
        | some ti => cellsAt ti cs off
        | none => none
      | _, _ => none
    | _ => none
  | .build t parts => match K.T t with
    | some ⟨_, _, zero, .struct fs⟩ => match fieldPlaces K fs with
      | some ps => match fillP (ps[·]?) ρ zero parts.toList with
        | some cells => some (.agg cells)
        | none => none
      | none => none
    | some ⟨_, _, zero, .array _ e⟩ => match K.T e with
      | some ti => match fillP (fun i => some (i * ti.sz, ti.sz)) ρ zero parts.toList with
        | some cells => some (.agg cells)
        | none => none
      | none => none
    | _ => none
  | .call c => match c.callee with
    | .builtin b => evalB K ρ S b c.args.toList c.argTypes.toList
    | _ => none
  | .convert src dst x => match K.T src, K.T dst with
    | some _, some ⟨_, _, _, .int k⟩ => match ρ x with
      | .int _ n => some (.int k (k.wrap n))
      | _ => none
    | _, _ => none
  | _ => none

/-! ### Soundness -/
section
variable {K : Ctx} {C : Cfg} {ρ : Operand → AV} {r : Operand → Value}

theorem binP_ints {op : BinOp} {a b v : AV} (h : binP op a b = some v) : ∃ k x k' y, a = .int k x ∧ b = .int k' y := by
  cases a <;> cases b <;> first | exact ⟨_, _, _, _, rfl, rfl⟩ | (cases op <;> simp [binP] at h)
theorem run_binP {P : Program} {op : BinOp} {t : TypeId} {x y : Operand} {a b v : AV} {u w' : Value} {w : World} (h : binP op a b = some v) (ha : VV C.v a u) (hb : VV C.v b w') :
    ∃ z, (do eqGuard op t x y u w'; binOp op t u w').run P w = .ok z w ∧ VV C.v v z := by
  obtain ⟨k, p, k', q, rfl, rfl⟩ := binP_ints h
  simp only [VV] at ha hb
  subst ha; subst hb
  by_cases hs : op = .shr
  · subst hs
    simp only [binP] at h
    split at h
    · rename_i hq
      simp only [Option.some.injEq] at h
      subst h
      have hb : ¬ q < 0 := Int.not_lt.mpr hq
      refine ⟨.int k (p.fdiv (2 ^ (min q.toNat k.bits))), by simp only [eqGuard, binOp, Op.shift]; simp [hb], ?_⟩
      simp only [VV]
      rw [Int.fdiv_eq_ediv_of_nonneg _ (Int.le_of_lt (Int.pow_pos (by decide)))]
    · cases h
  · by_cases hk : k = k'
    · subst hk
      cases op <;> simp only [binP, if_true] at h <;> first | (cases h; done) | (exact absurd rfl hs) | skip
      all_goals
        simp only [Option.some.injEq] at h
        subst h
        refine ⟨_, by simp [eqGuard, binOp, Op.intArith, Op.intCmp]; try rfl, ?_⟩
        first
        | (simp [VV]; done)
        | (simp only [VV]; congr 1; done)
        | (simp only [VV]; congr 1; rw [Bool.eq_iff_iff]; simp; done)
    · cases op <;> simp only [binP, if_neg hk] at h <;> first | (cases h; done) | (exact absurd rfl hs)
theorem run_minP {P : Program} : ∀ (l : List AV) (us : List Value) (a : AV) (u : Value) (v : AV) (w : World), minP a l = some v → VV C.v a u → VVs C.v l us → ∃ z, (us.foldlM Builtin.min2 u).run P w = .ok z w ∧ VV C.v v z
  | [], us, a, u, v, w, h, ha, hl => by
    simp only [VVs] at hl
    subst hl
    simp only [minP, Option.some.injEq] at h
    subst h
    exact ⟨u, rfl, ha⟩
  | b :: l, us, a, u, v, w, h, ha, hl => by
    simp only [VVs] at hl
    obtain ⟨c, us, rfl, hb, hl⟩ := hl
    cases a <;> first | (cases b <;> simp only [minP] at h <;> cases h; done) | skip
    rename_i k a
    cases b <;> first | (simp only [minP] at h; cases h; done) | skip
    rename_i k' b
    simp only [VV] at ha hb
    subst ha; subst hb
    simp only [minP] at h
    obtain ⟨z, hz, hv⟩ := run_minP (P := P) l us _ (.int k (if b < a then b else a)) v w h (by simp only [VV]) hl
    exact ⟨z, by simpa [List.foldlM, Builtin.min2] using hz, hv⟩
theorem run_maxP {P : Program} : ∀ (l : List AV) (us : List Value) (a : AV) (u : Value) (v : AV) (w : World), maxP a l = some v → VV C.v a u → VVs C.v l us → ∃ z, (us.foldlM Builtin.max2 u).run P w = .ok z w ∧ VV C.v v z
  | [], us, a, u, v, w, h, ha, hl => by
    simp only [VVs] at hl
    subst hl
    simp only [maxP, Option.some.injEq] at h
    subst h
    exact ⟨u, rfl, ha⟩
  | b :: l, us, a, u, v, w, h, ha, hl => by
    simp only [VVs] at hl
    obtain ⟨c, us, rfl, hb, hl⟩ := hl
    cases a <;> first | (cases b <;> simp only [maxP] at h <;> cases h; done) | skip
    rename_i k a
    cases b <;> first | (simp only [maxP] at h; cases h; done) | skip
    rename_i k' b
    simp only [VV] at ha hb
    subst ha; subst hb
    simp only [maxP] at h
    obtain ⟨z, hz, hv⟩ := run_maxP (P := P) l us _ (.int k (if a < b then b else a)) v w h (by simp only [VV]) hl
    exact ⟨z, by simpa [List.foldlM, Builtin.max2] using hz, hv⟩
/-- What was read of cells that are told. -/
theorem run_cellsAt {P : Program} {t : Nat} {ti : TI} (hf : TFacts P t ti) {cs : List AV} {us : List Value} {off : Nat} {v : AV} (h : cellsAt ti cs off = some v) (hv : VEs C.v cs us) {w : World} {ad : Addr}
    (hc : ∀ i u, us[i]? = some u → w.cell? (ad.add i) = some u) : ∃ z, (loadVar t (ad.add off)).run P w = .ok z w ∧ VV C.v v z := by
  obtain ⟨hl, hp⟩ := VEs_iff.1 hv
  unfold cellsAt at h
  cases hr : isRowK ti.kind with
  | true =>
    rw [hr] at h
    dsimp only at h
    split at h
    · rename_i hle
      have hle' := Nat.le_of_ble_eq_true hle
      simp only [Option.some.injEq] at h
      subst h
      have h2 := (run_loadVar_cells hf w (ad.add off) ((us.drop off).take ti.sz) (by simp; omega) (fun i u hu => by
        rw [add_add]
        refine hc _ u ?_
        rw [List.getElem?_take] at hu
        split at hu
        · rwa [List.getElem?_drop] at hu
        · cases hu)).1 hr
      refine ⟨_, h2, ?_⟩
      simp only [VV]
      refine ⟨_, rfl, VEs_iff.2 ⟨by simp; omega, fun i a u ha hu => ?_⟩⟩
      rw [List.getElem?_take] at ha hu
      split at ha
      · rename_i hi
        rw [if_pos hi] at hu
        rw [List.getElem?_drop] at ha hu
        exact hp _ a u ha hu
      · cases ha
    · cases h
  | false =>
    rw [hr] at h
    dsimp only at h
    split at h
    · rename_i a ha
      split at h
      · rename_i hfl
        simp only [Option.some.injEq] at h
        subst h
        have hlt : off < us.length := by rw [← hl]; exact (List.getElem?_eq_some_iff.1 ha).1
        have hu : us[off]? = some us[off] := List.getElem?_eq_getElem hlt
        have he := hp off a _ ha hu
        have hz : ti.sz = 1 := by
          obtain ⟨i, _, h1, _, v, _, h5, h3, h4⟩ := hf.info
          rcases h4 with ⟨h4, _⟩ | ⟨_, h4⟩
          · rw [hr] at h4; cases h4
          · rw [h4] at h5
            cases hzz : ti.zero with
            | nil => rw [hzz] at h5; simp [zerosAre] at h5
            | cons z zs =>
              cases zs with
              | nil => rw [hzz] at h3; simpa using h3.symm
              | cons z2 zs => rw [hzz] at h5; simp [zerosAre] at h5
        have h2 := (run_loadVar_cells hf w (ad.add off) [us[off]] (by simp [hz]) (fun i u hu' => by
          cases i with
          | zero =>
            simp only [List.getElem?_cons_zero, Option.some.injEq] at hu'
            subst hu'
            rw [add_add]
            exact hc _ _ hu
          | succ i => simp at hu')).2 hr _ rfl
        exact ⟨_, h2, VE_VV (fun as e => by subst e; simp [flat] at hfl) he⟩
      · cases h
    · cases h

theorem loadP_ok (hS : Sim C) {t : Nat} {ti : TI} (hf : TFacts K.P t ti) {p v : AV} {u : Value} (h : loadP ti C.S p = some v) (hp : VV C.v p u) :
    ∃ z, (Instr.loadAt t u).run K.P C.w = .ok z C.w ∧ VV C.v v z := by
  unfold loadP at h
  split at h
  · rename_i n off
    split at h
    · rename_i cs hn
      have ho := hS.obj n
      rw [hn] at ho
      obtain ⟨b, T, us, h1, h2, h3⟩ := ho
      simp only [VV] at hp
      obtain ⟨_, b', h4, rfl⟩ := hp
      have h4' : C.φ n = .pointer (some ⟨b', 0, none⟩) := h4
      rw [h1] at h4'
      simp only [Value.pointer.injEq, Option.some.injEq, Addr.mk.injEq, and_true] at h4'
      subst h4'
      obtain ⟨z, hz, hv⟩ := run_cellsAt hf h h3 (w := C.w) (ad := ⟨b, 0, none⟩) (fun i u hu => by
        rw [add_plain, Nat.zero_add]
        simp only [World.cell?, h2, Option.isSome_none, Bool.false_eq_true, if_false]
        simpa using hu)
      refine ⟨z, ?_, hv⟩
      rw [add_plain, Nat.zero_add] at hz
      simpa [Instr.loadAt, Instr.sureAddr] using hz
    · cases h
  · rename_i x off
    split at h
    · rename_i cs hcs
      simp only [VV] at hp
      obtain ⟨ad, us, rfl, h1, h2⟩ := hp
      have h3 := VEs.step (VStp.of_bare C.v) (VE_cells hcs h1)
      obtain ⟨z, hz, hv⟩ := run_cellsAt hf h h3 (w := C.w) (ad := ad) (fun i u hu => h2.2.2 i u hu)
      exact ⟨z, by simpa [Instr.loadAt, Instr.sureAddr] using hz, hv⟩
    · cases h
  · cases h

theorem fieldsAre_get {fs : List Field} {xs : List (Nat × Nat)} (h : fieldsAre fs xs = true) {i : Nat} {o t : Nat} (hx : xs[i]? = some (o, t)) : ∃ f, fs[i]? = some f ∧ f.offset = o ∧ f.type = t ∧ f.name ≠ "_" := by
  induction fs generalizing xs i with
  | nil => cases xs <;> simp_all [fieldsAre]
  | cons f fs ih =>
    cases xs with
    | nil => simp at hx
    | cons x xs =>
      simp only [fieldsAre, Bool.and_eq_true, beq_iff_eq, bne_iff_ne] at h
      obtain ⟨⟨⟨h1, h2⟩, h3⟩, h4⟩ := h
      cases i with
      | zero =>
        simp only [List.getElem?_cons_zero, Option.some.injEq] at hx
        subst hx
        exact ⟨f, rfl, h1, h2, h3⟩
      | succ i =>
        simp only [List.getElem?_cons_succ] at hx ⊢
        exact ih h4 hx
theorem fieldsAre_len {fs : List Field} {xs : List (Nat × Nat)} (h : fieldsAre fs xs = true) : fs.length = xs.length := by
  induction fs generalizing xs with
  | nil => cases xs <;> simp_all [fieldsAre]
  | cons f fs ih =>
    cases xs with
    | nil => simp [fieldsAre] at h
    | cons x xs =>
      simp only [fieldsAre, Bool.and_eq_true] at h
      simp [ih h.2]
theorem struct_facts {P : Program} {s : Nat} {sz bytes : Nat} {zero : List AV} {fs : List (Nat × Nat)} (h : TFacts P s ⟨sz, bytes, zero, .struct fs⟩) : ∃ fields : Array Field, P.underlying s = some (.struct fields) ∧ fieldsAre fields.toList fs = true := by
  obtain ⟨d, hd, hk⟩ := h.desc
  cases d <;> simp [kindIs] at hk
  exact ⟨_, hd, hk⟩
theorem array_facts {P : Program} {s : Nat} {sz bytes : Nat} {zero : List AV} {n e : Nat} (h : TFacts P s ⟨sz, bytes, zero, .array n e⟩) : P.underlying s = some (.array n e) := by
  obtain ⟨d, hd, hk⟩ := h.desc
  cases d <;> simp [kindIs] at hk
  obtain ⟨rfl, rfl⟩ := hk
  exact hd
theorem slice_facts {P : Program} {s : Nat} {sz bytes : Nat} {zero : List AV} {e : Nat} (h : TFacts P s ⟨sz, bytes, zero, .slice e⟩) : P.underlying s = some (.slice e) := by
  obtain ⟨d, hd, hk⟩ := h.desc
  cases d <;> simp [kindIs] at hk
  subst hk
  exact hd
theorem string_facts {P : Program} {s : Nat} {sz bytes : Nat} {zero : List AV} (h : TFacts P s ⟨sz, bytes, zero, .string⟩) : P.underlying s = some .string := by
  obtain ⟨d, hd, hk⟩ := h.desc
  cases d <;> simp [kindIs] at hk
  exact hd
theorem int_facts {P : Program} {s : Nat} {sz bytes : Nat} {zero : List AV} {k : IntKind} (h : TFacts P s ⟨sz, bytes, zero, .int k⟩) : P.underlying s = some (.int k) := by
  obtain ⟨d, hd, hk⟩ := h.desc
  cases d <;> simp [kindIs] at hk
  subst hk
  exact hd

theorem moveP_ok {C : VC} {p q : AV} {k : Nat} {u : Value} (h : moveP p k = some q) (hp : VV C p u) : ∃ ad, u = .pointer (some ad) ∧ VV C q (.pointer (some (ad.add k))) := by
  cases p <;> simp only [moveP] at h <;> first | (cases h; done) | skip
  · simp only [Option.some.injEq] at h
    subst h
    simp only [VV] at hp ⊢
    obtain ⟨h1, b, h2, rfl⟩ := hp
    exact ⟨_, rfl, h1, b, h2, by rw [add_plain]⟩
  · simp only [Option.some.injEq] at h
    subst h
    simp only [VV] at hp ⊢
    obtain ⟨h1, b, l, c, h2, rfl⟩ := hp
    exact ⟨_, rfl, h1, b, l, c, h2, by rw [add_plain, Nat.add_assoc]⟩
  · simp only [Option.some.injEq] at h
    subst h
    simp only [VV] at hp ⊢
    obtain ⟨ad, us, rfl, h1, h2⟩ := hp
    exact ⟨_, rfl, ad, us, by rw [add_add], h1, h2⟩
end
end Go.Asl
/- The evaluator says what the machine does. -/
set_option linter.unusedVariables false
set_option linter.unusedSimpArgs false
namespace Go.Asl
open Go.RowKit
section
variable {K : Ctx} {C : Cfg} {ρ : Operand → AV} {r : Operand → Value}

theorem VVs_map {C : VC} {ρ : Operand → AV} {r : Operand → Value} (hρ : ∀ x, VV C (ρ x) (r x)) : ∀ (l : List Operand), VVs C (l.map ρ) (l.map r)
  | [] => rfl
  | x :: l => ⟨r x, l.map r, rfl, hρ x, VVs_map hρ l⟩

/-- The zero value's cells. -/
theorem zeroIs_VE {C : VC} {v : Value} {a : AV} (h : zeroIs v a = true) : VE C a [v] := by
  unfold zeroIs at h
  split at h
  all_goals first | (cases h; done) | skip
  all_goals simp only [VE, Bool.and_eq_true, beq_iff_eq, List.isEmpty_iff] at h ⊢
  · obtain ⟨rfl, rfl⟩ := h; rfl
  · subst h; rfl
  · obtain ⟨h1, h2⟩ := h
    rename_i s s'
    have e1 : s = s' := by
      cases s with | mk d => cases s' with | mk d' => simp at h1 h2; simp [h1, h2]
    rw [e1]
theorem zerosAre_VEs {C : VC} : ∀ {vs : List Value} {as : List AV}, zerosAre vs as = true → VEs C as vs
  | [], [], _ => rfl
  | v :: vs, a :: as, h => by
    simp only [zerosAre, Bool.and_eq_true] at h
    exact ⟨v, vs, rfl, zeroIs_VE h.1, zerosAre_VEs h.2⟩
  | [], _ :: _, h => by simp [zerosAre] at h
  | _ :: _, [], h => by simp [zerosAre] at h
theorem VEs_length {C : VC} {as : List AV} {us : List Value} (h : VEs C as us) : as.length = us.length := (VEs_iff.1 h).1

/-- Cells put into cells. -/
theorem foldl_set (off : Nat) : ∀ (vs : List Value) (j : Nat) (cs : Array Value), off + j + vs.length ≤ cs.size →
    ((vs.zipIdx j).foldl (fun (cs : Array Value) (x : Value × Nat) => cs.setIfInBounds (off + x.2) x.1) cs).toList = cs.toList.take (off + j) ++ vs ++ cs.toList.drop (off + j + vs.length)
  | [], j, cs, h => by simp
  | v :: vs, j, cs, h => by
    simp only [List.zipIdx_cons, List.foldl_cons]
    have hlt : off + j < cs.size := by simp at h; omega
    rw [foldl_set off vs (j + 1) _ (by simp at h ⊢; omega)]
    have e1 : (cs.setIfInBounds (off + j) v).toList = cs.toList.set (off + j) v := by simp
    rw [e1]
    apply List.ext_getElem?
    intro i
    simp only [List.getElem?_append, List.length_take, List.length_set, List.getElem?_take, List.getElem?_set, List.getElem?_drop, List.length_append, List.length_cons, Array.length_toList, List.getElem?_cons, Nat.add_assoc]
    have hm1 : min (off + (j + 1)) cs.size = off + (j + 1) := by omega
    have hm2 : min (off + j) cs.size = off + j := by omega
    simp only [hm1, hm2]
    by_cases h1 : i < off + j
    · have h2 : i < off + (j + 1) := by omega
      have h3 : i < off + (j + 1) + vs.length := by omega
      have h4 : i < off + j + (vs.length + 1) := by omega
      have h5 : off + j ≠ i := by omega
      simp [h1, h2, h3, h4, h5]
      try omega
    · by_cases h2 : i = off + j
      · subst h2
        have h3 : off + j < off + (j + 1) := by omega
        simp [h3, hlt]
        try omega
      · by_cases h3 : i < off + j + (vs.length + 1)
        · have h4 : ¬ i < off + (j + 1) := by omega
          have h5 : i < off + (j + 1) + vs.length := by omega
          have h6 : ¬ i - (off + j) = 0 := by omega
          have h7 : i - (off + (j + 1)) = i - (off + j) - 1 := by omega
          have h8 : off + j ≠ i := by omega
          simp [h1, h3, h4, h5, h6, h7, h8]
          try omega
        · have h4 : ¬ i < off + (j + 1) + vs.length := by omega
          have h5 : ¬ i < off + (j + 1) := by omega
          have e2 : off + (j + (1 + (vs.length + (i - (off + (j + 1) + vs.length))))) = i := by omega
          have e3 : off + (j + (vs.length + 1 + (i - (off + j + (vs.length + 1))))) = i := by omega
          have h8 : off + j ≠ i := by omega
          have e4 : off + (j + (vs.length + (1 + (i - (off + j + (vs.length + 1)))))) = i := by omega
          simp [h1, h3, h4, h5, h8, e2, e3, e4]
          try omega

theorem fill_ok {C : VC} {place : Nat → Option (Nat × Nat)} {ρ : Operand → AV} {r : Operand → Value} (hρ : ∀ x, VV C (ρ x) (r x)) : ∀ (parts : List (Nat × Operand)) (cells out : List AV) (cs : Array Value),
    fillP place ρ cells parts = some out → VEs C cells cs.toList → ∃ cs', Instr.fill place cs (parts.map fun p => (p.1, r p.2)) = some cs' ∧ VEs C out cs'.toList
  | [], cells, out, cs, h, hv => by
    simp only [fillP, Option.some.injEq] at h
    subst h
    exact ⟨cs, rfl, hv⟩
  | (i, x) :: parts, cells, out, cs, h, hv => by
    simp only [fillP] at h
    split at h
    · rename_i off size xs hp hx
      split at h
      · rename_i hb1 hb2
        have e1 := Nat.eq_of_beq_eq_true hb1
        have e2 := Nat.le_of_ble_eq_true hb2
        have hc := VV_cells hx (hρ x)
        have hl := VEs_length hc
        have hl2 := VEs_length hv
        have hsz : (r x).cells.size = size := by rw [← e1, hl]; simp
        have hsz2 : ¬ (off + (r x).cells.size > cs.size) := by rw [hsz]; simp at hl2; omega
        have hset : ((r x).cells.zipIdx.foldl (fun (cs : Array Value) (x : Value × Nat) => cs.setIfInBounds (off + x.2) x.1) cs).toList = cs.toList.take off ++ (r x).cells.toList ++ cs.toList.drop (off + (r x).cells.toList.length) := by
          have := foldl_set off (r x).cells.toList 0 cs (by simp at hl2 ⊢; omega)
          rw [← Array.foldl_toList]
          simpa using this
        obtain ⟨cs', h1, h2⟩ := fill_ok hρ parts (putAt cells off xs) out ((r x).cells.zipIdx.foldl (fun (cs : Array Value) (x : Value × Nat) => cs.setIfInBounds (off + x.2) x.1) cs) h (by
          rw [hset]
          unfold putAt
          refine VEs_iff.2 ⟨by simp at hl hl2 ⊢; omega, fun k a u ha hu => ?_⟩
          obtain ⟨_, hp1⟩ := VEs_iff.1 hv
          obtain ⟨_, hp2⟩ := VEs_iff.1 hc
          rw [List.append_assoc] at ha hu
          by_cases k1 : k < off
          · rw [List.getElem?_append_left (by simp; omega), List.getElem?_take_of_lt k1] at ha
            rw [List.getElem?_append_left (by simp at hl2 ⊢; omega), List.getElem?_take_of_lt k1] at hu
            exact hp1 k a u ha hu
          · rw [List.getElem?_append_right (by simp; omega)] at ha
            rw [List.getElem?_append_right (by simp; omega)] at hu
            have m1 : min off cells.length = off := by omega
            have m2 : min off cs.toList.length = off := by rw [← hl2]; omega
            rw [List.length_take, m1] at ha
            rw [List.length_take, m2] at hu
            by_cases k2 : k - off < xs.length
            · rw [List.getElem?_append_left k2] at ha
              rw [List.getElem?_append_left (by rw [← hl]; exact k2)] at hu
              exact hp2 _ a u ha hu
            · rw [List.getElem?_append_right (by omega), List.getElem?_drop] at ha
              rw [List.getElem?_append_right (by rw [← hl]; omega), List.getElem?_drop, ← hl] at hu
              exact hp1 _ a u ha hu)
        refine ⟨cs', ?_, h2⟩
        simp only [List.map_cons, Instr.fill, hp, hsz, ne_eq, not_true, false_or]
        rw [hsz] at hsz2
        simp only [hsz2, or_self, if_false, Bool.false_eq_true, decide_false, Bool.or_self]
        exact h1
      · cases h
    · cases h

theorem fieldPlaces_run (hK : K.Ok) : ∀ (fs : List Field) (xs : List (Nat × Nat)) (ps : List (Nat × Nat)) (w : World), fieldsAre fs xs = true → fieldPlaces K xs = some ps →
    (fs.mapM fun f => do pure (f.offset, ← sizeOf f.type) : Sem (List (Nat × Nat))).run K.P w = .ok ps w
  | [], [], ps, w, _, h => by simp [fieldPlaces] at h; subst h; simp
  | f :: fs, (o, t) :: xs, ps, w, hf, h => by
    simp only [fieldsAre, Bool.and_eq_true, beq_iff_eq] at hf
    obtain ⟨⟨⟨h1, h2⟩, _⟩, h4⟩ := hf
    simp only [fieldPlaces] at h
    split at h
    · rename_i ti ps' ht hps
      simp only [Option.some.injEq] at h
      subst h
      have ih := fieldPlaces_run hK fs xs ps' w h4 hps
      have hs := (hK.facts ht).size w
      rw [← h2] at hs
      simp only [List.mapM_cons, Sem.run_bind, hs, Result.andThen_ok, Sem.run_pure]
      rw [ih]
      simp [h1]
    · cases h
  | [], _ :: _, _, _, hf, _ => by simp [fieldsAre] at hf
  | _ :: _, [], _, _, hf, _ => by simp [fieldsAre] at hf

theorem evalB_ok (hK : K.Ok) (hS : Sim C) (hρ : ∀ x, VV C.v (ρ x) (r x)) {b : Builtin} {args : List Operand} {ts : Array TypeId} {ty : TypeId} {cs : Array Bool} {v : AV} (h : evalB K ρ C.S b args ts.toList = some v) :
    ∃ z, (builtin b ts ty cs (args.map r).toArray).run K.P C.w = .ok (.value z) C.w ∧ VV C.v v z := by
  unfold evalB at h
  split at h
  · -- len
    split at h
    · rename_i x t hts
      obtain rfl : ts = #[t] := by rw [← Array.toArray_toList (xs := ts), hts]
      have hx := hρ x
      split at h
      · rename_i sz bytes zero e ht
        have hu := slice_facts (hK.facts ht)
        split at h
        · rename_i xs hxx
          rw [hxx] at hx
          simp only [VV] at hx
          obtain ⟨A, c, s2, us, hx, _⟩ := hx
          simp only [Option.some.injEq] at h; subst h
          exact ⟨.int .i64 xs.length, by simp [builtin, Builtin.len_, run_underlying hu, hx, goInt], by simp [VV]⟩
        · rename_i hxx
          rw [hxx] at hx
          simp only [VV] at hx
          simp only [Option.some.injEq] at h; subst h
          exact ⟨.int .i64 0, by simp [builtin, Builtin.len_, run_underlying hu, hx, goInt], by simp [VV]⟩
        · rename_i n hxx
          rw [hxx] at hx
          split at h
          · rename_i e' s' xs hn
            simp only [Option.some.injEq] at h; subst h
            simp only [VV] at hx
            have ho := hS.obj n
            rw [hn] at ho
            obtain ⟨inner, ho, _⟩ := ho
            obtain ⟨A, c, hA⟩ : ∃ A c, C.φ n = .slice A xs.length c := by
              rcases ho.2 with ⟨h1, h2⟩ | ⟨g, cap, cur, h1, _⟩
              · exact ⟨none, 0, by rw [h1, h2]⟩
              · exact ⟨_, cap, h1⟩
            have hx' : r x = .slice A xs.length c := hx.2.2.trans hA
            exact ⟨.int .i64 xs.length, by simp [builtin, Builtin.len_, run_underlying hu, hx', goInt], by simp [VV]⟩
          · cases h
        · cases h
      · rename_i sz bytes zero ht
        have hu := string_facts (hK.facts ht)
        split at h
        · rename_i s hxx
          rw [hxx] at hx
          simp only [VV] at hx
          simp only [Option.some.injEq] at h; subst h
          exact ⟨.int .i64 s.size, by simp [builtin, Builtin.len_, run_underlying hu, hx, goInt], by simp [VV]⟩
        · cases h
      · cases h
    · cases h
  · split at h
    · rename_i x l
      obtain ⟨z, hz, hv⟩ := run_minP (P := K.P) (l.map ρ) (l.map r) (ρ x) (r x) v C.w h (hρ x) (VVs_map hρ l)
      exact ⟨z, by simp [builtin, Builtin.min_, hz], hv⟩
    · cases h
  · split at h
    · rename_i x l
      obtain ⟨z, hz, hv⟩ := run_maxP (P := K.P) (l.map ρ) (l.map r) (ρ x) (r x) v C.w h (hρ x) (VVs_map hρ l)
      exact ⟨z, by simp [builtin, Builtin.max_, hz], hv⟩
    · cases h
  · cases h
theorem evalPure_ok (hK : K.Ok) (hS : Sim C) (hρ : ∀ x, VV C.v (ρ x) (r x)) {o : Oper} {v : AV} (h : evalPure K ρ C.S o.op = some v) :
    ∃ z, (execOp r o).run K.P C.w = .ok (.value z) C.w ∧ VV C.v v z := by
  unfold evalPure at h
  split at h
  · -- move
    rename_i x hop
    simp only [Option.some.injEq] at h; subst h
    exact ⟨r x, by simp [execOp, hop], hρ x⟩
  · rename_i x hop
    simp only [Option.some.injEq] at h; subst h
    exact ⟨r x, by simp [execOp, hop], hρ x⟩
  · -- pick
    rename_i c a b hop
    have hc := hρ c
    split at h
    · rename_i e; rw [e] at hc; simp only [VV] at hc
      simp only [Option.some.injEq] at h; subst h
      exact ⟨r a, by simp [execOp, hop, hc, asBool], hρ a⟩
    · rename_i e; rw [e] at hc; simp only [VV] at hc
      simp only [Option.some.injEq] at h; subst h
      exact ⟨r b, by simp [execOp, hop, hc, asBool], hρ b⟩
    · cases h
  · -- load
    rename_i t p hop
    split at h
    · rename_i ti ht
      obtain ⟨z, hz, hv⟩ := loadP_ok hS (hK.facts ht) h (hρ p)
      exact ⟨z, by simp [execOp, hop, hz], hv⟩
    · cases h
  · -- nilCheck
    rename_i x hop
    have hx := hρ x
    split at h
    all_goals first | (cases h; done) | skip
    all_goals
      rename_i e
      rw [e] at hx
      simp only [Option.some.injEq] at h; subst h
      refine ⟨r x, ?_, hx⟩
      simp only [VV] at hx
      first
      | (obtain ⟨_, b, _, hx⟩ := hx; simp [execOp, hop, hx]; done)
      | (obtain ⟨_, b, l, c, _, hx⟩ := hx; simp [execOp, hop, hx]; done)
      | (obtain ⟨ad, us, hx, _⟩ := hx; simp [execOp, hop, hx]; done)
  · -- binOp
    rename_i op t x y t' hop
    obtain ⟨z, hz, hv⟩ := run_binP (t := t) (x := x) (y := y) (w := C.w) (P := K.P) h (hρ x) (hρ y)
    exact ⟨z, by simp only [execOp, hop]; rw [Sem.run_bind, hz]; rfl, hv⟩
  · rename_i t x hop
    have hx := hρ x
    split at h
    · rename_i e; rw [e] at hx; simp only [VV] at hx
      simp only [Option.some.injEq] at h; subst h
      exact ⟨_, by simp [execOp, hop, hx, Op.unary]; rfl, by simp [VV]⟩
    · cases h
  · rename_i t x hop
    have hx := hρ x
    split at h
    · rename_i e; rw [e] at hx; simp only [VV] at hx
      simp only [Option.some.injEq] at h; subst h
      exact ⟨_, by simp [execOp, hop, hx, Op.unary, Op.intArith]; rfl, by simp [VV]⟩
    · cases h
  · -- makeFunc
    rename_i f first caps hop
    simp only [Option.some.injEq] at h; subst h
    refine ⟨.func (.func f) (first.map r) (caps.map r), by simp [execOp, hop, Instr.makeFunc], ?_⟩
    simp only [VV]
    exact ⟨first.toList.map r, caps.toList.map r, by congr 1 <;> (apply Array.ext'; simp), VVs_map hρ _, VVs_map hρ _⟩
  · -- extract
    rename_i x i hop
    have hx := hρ x
    split at h
    · rename_i vs e; rw [e] at hx; simp only [VV] at hx
      obtain ⟨us, hu, hvs⟩ := hx
      obtain ⟨hl, hp⟩ := VVs_iff.1 hvs
      have hlt : i < us.length := by rw [← hl]; exact (List.getElem?_eq_some_iff.1 h).1
      have hi : us[i]? = some us[i] := List.getElem?_eq_getElem hlt
      exact ⟨us[i], by simp [execOp, hop, hu, Instr.extract, hi], hp i v _ h hi⟩
    · cases h
  · -- fieldAddr
    rename_i s x f hop
    split at h
    · rename_i sz bytes zero fs hs
      split at h
      · rename_i off t hf
        split at h
        · rename_i ti ht
          split at h
          · rename_i hb
            obtain ⟨fields, hu, hfa⟩ := struct_facts (hK.facts hs)
            obtain ⟨fld, h1, h2, h3, _⟩ := fieldsAre_get hfa hf
            obtain ⟨ad, had, hv⟩ := moveP_ok h (hρ x)
            have hsz := (hK.facts ht).size C.w
            have hne : ti.sz ≠ 0 := by have := Nat.le_of_ble_eq_true hb; simp only [Nat.succ_eq_add_one] at this; omega
            refine ⟨.pointer (some (ad.add off)), ?_, hv⟩
            have h1' : fields[f]? = some fld := by simpa using h1
            simp [execOp, hop, Instr.fieldAt, run_underlying hu, h1', had, Instr.sureAddr, fieldPlace, h3, hsz, hne, h2]
          · cases h
        · cases h
      · cases h
    · cases h
  · -- indexAddr at an array
    rename_i t x j hop
    split at h
    · rename_i sz bytes zero len e k i ht hj
      split at h
      · rename_i ti hte
        split at h
        · rename_i hb
          have hu := array_facts (hK.facts ht)
          have hjj := hρ j
          rw [hj] at hjj
          simp only [VV] at hjj
          obtain ⟨ad, had, hv⟩ := moveP_ok h (hρ x)
          have hlt : i < len := by have := Nat.le_of_ble_eq_true hb; simp only [Nat.succ_eq_add_one] at this; omega
          have hsz := (hK.facts hte).size C.w
          refine ⟨_, ?_, hv⟩
          simp [execOp, hop, Instr.indexAt, hjj, asIntOf, run_underlying hu, had, Instr.sureAddr, hlt, hsz]
        · cases h
      · cases h
    · cases h
  · -- field
    rename_i s x f hop
    split at h
    · rename_i sz bytes zero fs hs
      split at h
      · rename_i off t cs hf hx
        split at h
        · rename_i ti ht
          obtain ⟨fields, hu, hfa⟩ := struct_facts (hK.facts hs)
          obtain ⟨fld, h1, h2, h3, _⟩ := fieldsAre_get hfa hf
          have h1' : fields[f]? = some fld := by simpa using h1
          have hxx := hρ x
          rw [hx] at hxx
          simp only [VV] at hxx
          obtain ⟨us, hus, hvs⟩ := hxx
          obtain ⟨hl, hp⟩ := VEs_iff.1 hvs
          unfold cellsAt at h
          cases hr : isRowK ti.kind with
          | true =>
            rw [hr] at h
            dsimp only at h
            split at h
            · rename_i hle
              have hle' := Nat.le_of_ble_eq_true hle
              simp only [Option.some.injEq] at h; subst h
              refine ⟨.agg (us.toArray.extract off (off + ti.sz)), ?_, ?_⟩
              · simp [execOp, hop, Instr.field, run_underlying hu, h1', hus, asAgg, part, h3, h2, (hK.facts ht).row C.w, hr, (hK.facts ht).size C.w]
              · simp only [VV]
                refine ⟨(us.drop off).take ti.sz, by simp [List.extract_eq_take_drop], VEs_iff.2 ⟨by simp; omega, fun i a u ha hu' => ?_⟩⟩
                rw [List.getElem?_take] at ha hu'
                split at ha
                · rename_i hi
                  rw [if_pos hi] at hu'
                  rw [List.getElem?_drop] at ha hu'
                  exact hp _ a u ha hu'
                · cases ha
            · cases h
          | false =>
            rw [hr] at h
            dsimp only at h
            split at h
            · rename_i a ha
              split at h
              · rename_i hfl
                simp only [Option.some.injEq] at h; subst h
                have hlt : off < us.length := by rw [← hl]; exact (List.getElem?_eq_some_iff.1 ha).1
                have hu' : us[off]? = some us[off] := List.getElem?_eq_getElem hlt
                refine ⟨us[off], ?_, VE_VV (fun as e => by subst e; simp [flat] at hfl) (hp off a _ ha hu')⟩
                simp [execOp, hop, Instr.field, run_underlying hu, h1', hus, asAgg, part, h3, h2, (hK.facts ht).row C.w, hr, hu']
              · cases h
            · cases h
        · cases h
      · cases h
    · cases h
  · -- build
    rename_i t parts hop
    split at h
    · rename_i sz bytes zero fs ht
      split at h
      · rename_i ps hps
        split at h
        · rename_i cells hcells
          simp only [Option.some.injEq] at h; subst h
          obtain ⟨fields, hu, hfa⟩ := struct_facts (hK.facts ht)
          obtain ⟨i, hi, _, _, zv, hz, hzs, _, _⟩ := (hK.facts ht).info
          obtain ⟨cs', h1, h2⟩ := fill_ok hρ parts.toList zero cells zv.cells hcells (zerosAre_VEs hzs)
          refine ⟨.agg cs', ?_, ?_⟩
          · have hm := fieldPlaces_run hK fields.toList fs ps C.w hfa hps
            have hm' : (fields.mapM fun f => do pure (f.offset, ← sizeOf f.type) : Sem (Array (Nat × Nat))).run K.P C.w = .ok ps.toArray C.w := by
              rw [← Array.toList_mapM] at hm
              rw [Sem.run_map] at hm
              cases hx : (fields.mapM fun f => do pure (f.offset, ← sizeOf f.type) : Sem (Array (Nat × Nat))).run K.P C.w with
              | ok a w' =>
                rw [hx] at hm
                simp only [Result.andThen_ok, Result.ok.injEq] at hm
                obtain ⟨e1, e2⟩ := hm
                subst e2
                rw [← e1]
              | halt hh w' => rw [hx] at hm; simp at hm
            simp only [execOp, hop, Instr.build, Sem.run_bind, zeroValue, typeInfo, run_program, hi, hz, Result.andThen_ok, Sem.run_pure, run_underlying hu]
            rw [hm']
            simp only [Result.andThen_ok]
            have : (parts.map fun p => (p.1, r p.2)).toList = parts.toList.map fun p => (p.1, r p.2) := by simp
            rw [this]
            simp [h1]
          · simp only [VV]
            exact ⟨cs'.toList, by simp, h2⟩
        · cases h
      · cases h
    · rename_i sz bytes zero len e ht
      split at h
      · rename_i ti he
        split at h
        · rename_i cells hcells
          simp only [Option.some.injEq] at h; subst h
          have hu := array_facts (hK.facts ht)
          obtain ⟨i, hi, _, _, zv, hz, hzs, _, _⟩ := (hK.facts ht).info
          obtain ⟨cs', h1, h2⟩ := fill_ok hρ parts.toList zero cells zv.cells hcells (zerosAre_VEs hzs)
          refine ⟨.agg cs', ?_, ?_⟩
          · simp only [execOp, hop, Instr.build, Sem.run_bind, zeroValue, typeInfo, run_program, hi, hz, Result.andThen_ok, Sem.run_pure, run_underlying hu]
            simp only [(hK.facts he).size C.w, Result.andThen_ok]
            have : (parts.map fun p => (p.1, r p.2)).toList = parts.toList.map fun p => (p.1, r p.2) := by simp
            rw [this]
            simp [h1]
          · simp only [VV]
            exact ⟨cs'.toList, by simp, h2⟩
        · cases h
      · cases h
    · cases h
  · -- a builtin
    rename_i c hop
    split at h
    · rename_i b hb
      obtain ⟨z, hz, hv⟩ := evalB_ok hK hS hρ (ty := o.type) (cs := c.args.map fun | .const _ => true | _ => false) h
      refine ⟨z, ?_, hv⟩
      simp only [execOp, hop, resolve, hb, Sem.run_bind, Sem.run_pure, Result.andThen_ok, invoke]
      have e1 : c.args.map r = (c.args.toList.map r).toArray := by apply Array.ext'; simp
      rw [e1]
      exact hz
    · cases h
  · -- convert
    rename_i src dst x hop
    split at h
    · rename_i si sz bytes zero k hts ht
      split at h
      · rename_i k' n hx
        have hxx := hρ x
        rw [hx] at hxx
        simp only [VV] at hxx
        simp only [Option.some.injEq] at h; subst h
        have hu := int_facts (hK.facts ht)
        obtain ⟨d, hd, _⟩ := (hK.facts hts).desc
        refine ⟨.int k (k.wrap n), ?_, by simp [VV]⟩
        simp [execOp, hop, convert, run_underlying hu, run_underlying hd, hxx, Conv.intToInt]
      · cases h
    · cases h
  · cases h
end
end Go.Asl
/- The rules of the operations. -/
set_option linter.unusedVariables false
set_option linter.unusedSimpArgs false
namespace Go.Asl
open Go.RowKit

/-! ### A value brought to its constructor -/
mutual
def force : AV → Option AV
  | .undef => some .undef
  | .int k n => some (.int k n)
  | .bool b => some (.bool b)
  | .str s => some (.str s)
  | .nils => some .nils
  | .lst xs => some (.lst xs)
  | .clip xs => some (.clip xs)
  | .own n => some (.own n)
  | .ptr n o => some (.ptr n o)
  | .eptr n s i o => some (.eptr n s i o)
  | .rptr x o => some (.rptr x o)
  | .agg cs => match forceL cs with
    | some cs' => some (.agg cs')
    | none => none
  | .tup cs => match forceL cs with
    | some cs' => some (.tup cs')
    | none => none
  | .fn f as bs => match forceL as, forceL bs with
    | some as', some bs' => some (.fn f as' bs')
    | _, _ => none
  | .yld n => some (.yld n)
  | .map n => some (.map n)
  | .nilmap => some .nilmap
  | .nilfn => some .nilfn
  | .niliface => some .niliface
def forceL : List AV → Option (List AV)
  | [] => some []
  | a :: r => match force a, forceL r with
    | some a', some r' => some (a' :: r')
    | _, _ => none
end
mutual
theorem force_eq : ∀ {a b : AV}, force a = some b → b = a
  | .undef, _, h => by simp [force] at h; exact h.symm
  | .int .., _, h => by simp [force] at h; exact h.symm
  | .bool .., _, h => by simp [force] at h; exact h.symm
  | .str .., _, h => by simp [force] at h; exact h.symm
  | .nils, _, h => by simp [force] at h; exact h.symm
  | .lst .., _, h => by simp [force] at h; exact h.symm
  | .clip .., _, h => by simp [force] at h; exact h.symm
  | .own .., _, h => by simp [force] at h; exact h.symm
  | .ptr .., _, h => by simp [force] at h; exact h.symm
  | .eptr .., _, h => by simp [force] at h; exact h.symm
  | .rptr .., _, h => by simp [force] at h; exact h.symm
  | .agg cs, _, h => by
    simp only [force] at h
    cases hc : forceL cs with
    | none => rw [hc] at h; cases h
    | some cs' => rw [hc] at h; simp only [Option.some.injEq] at h; rw [← h, forceL_eq hc]
  | .tup cs, _, h => by
    simp only [force] at h
    cases hc : forceL cs with
    | none => rw [hc] at h; cases h
    | some cs' => rw [hc] at h; simp only [Option.some.injEq] at h; rw [← h, forceL_eq hc]
  | .fn f as bs, _, h => by
    simp only [force] at h
    cases hc : forceL as with
    | none => rw [hc] at h; cases h
    | some as' =>
      cases hd : forceL bs with
      | none => rw [hc, hd] at h; cases h
      | some bs' => rw [hc, hd] at h; simp only [Option.some.injEq] at h; rw [← h, forceL_eq hc, forceL_eq hd]
  | .yld .., _, h => by simp [force] at h; exact h.symm
  | .map .., _, h => by simp [force] at h; exact h.symm
  | .nilmap, _, h => by simp [force] at h; exact h.symm
  | .nilfn, _, h => by simp [force] at h; exact h.symm
  | .niliface, _, h => by simp [force] at h; exact h.symm
theorem forceL_eq : ∀ {a b : List AV}, forceL a = some b → b = a
  | [], _, h => by simp only [forceL, Option.some.injEq] at h; exact h.symm
  | a :: r, _, h => by
    simp only [forceL] at h
    cases hc : force a with
    | none => rw [hc] at h; cases h
    | some a' =>
      cases hd : forceL r with
      | none => rw [hc, hd] at h; cases h
      | some r' => rw [hc, hd] at h; simp only [Option.some.injEq] at h; rw [← h, force_eq hc, forceL_eq hd]
end
def evalS (K : Ctx) (E : List (Nat × AV)) (L : List (Nat × AObj)) (o : Op) : Option AV :=
  match evalPure K (opd K ⟨E, 0, (0, 0)⟩) (getS L) o with
  | some v => force v
  | none => none
/-- An operand, brought to its constructor. -/
def opS (K : Ctx) (E : List (Nat × AV)) (x : Operand) : Option AV := force (opd K ⟨E, 0, (0, 0)⟩ x)
theorem opd_E {K : Ctx} {E : List (Nat × AV)} {N : Nat} {ds : Nat × Nat} {N' : Nat} {ds' : Nat × Nat} : opd K ⟨E, N, ds⟩ = opd K ⟨E, N', ds'⟩ := by
  funext x; cases x <;> rfl

/-- The slots behind an operation. -/
def dstE (E : List (Nat × AV)) (N : Nat) (d : Option Nat) (v : AV) : Option (List (Nat × AV)) :=
  match d with
  | some t => match Nat.blt t N with
    | true => some ((t, v) :: E)
    | false => none
  | none => some E
def putE (E : List (Nat × AV)) (d : Option Nat) (v : AV) : List (Nat × AV) :=
  match d with
  | some t => (t, v) :: E
  | none => E
theorem set_eq (E : List (Nat × AV)) (N : Nat) (ds : Nat × Nat) (d : Option Nat) (v : AV) : (Fr.mk E N ds).set d v = ⟨putE E d v, N, ds⟩ := by
  cases d <;> rfl

theorem dstE_eq {E E' : List (Nat × AV)} {N : Nat} {d : Option Nat} {v : AV} (h : dstE E N d v = some E') : E' = putE E d v ∧ ∀ t, d = some t → t < N := by
  cases d with
  | none => simp only [dstE, Option.some.injEq] at h; exact ⟨h.symm, fun t e => by cases e⟩
  | some t =>
    simp only [dstE] at h
    split at h
    · rename_i hb
      simp only [Option.some.injEq] at h
      exact ⟨h.symm, fun u e => by cases e; exact Nat.le_of_ble_eq_true hb⟩
    · cases h
theorem put_E {C : Cfg} {E E' : List (Nat × AV)} {N : Nat} {ds : Nat × Nat} {d : Option Nat} {v : AV} {a : Act} {z : Value} (h : dstE E N d v = some E') (hF : FrR C ⟨E, N, ds⟩ a) (hv : VV C.v v z) : FrR C ⟨E', N, ds⟩ (a.put d z) := by
  obtain ⟨e, hd⟩ := dstE_eq h
  rw [e, ← set_eq]
  exact hF.put hv hd
section
variable {K : Ctx} {C0 : Cfg} {E : List (Nat × AV)} {N : Nat} {ds : Nat × Nat} {L L' : List (Nat × AObj)} {F : Fence} {n : Nat} {Q : Exit → Act → World → Prop}
  {o : Oper} {r : List (Oper × Option (Nat × Bool))} {E' : List (Nat × AV)}

theorem wpIn_of_value [OpenF F] {P : Program} {a : Act} {w w' : World} {z : Value} {X : Act → World → Prop} (hnd : ∀ c, o.op ≠ .defer c) (h : (execOp a.eval o).run P w = .ok (.value z) w') (hX : X (a.put o.dst z) w') : o.wpIn F n P a w X Q := by
  refine ⟨fun f _ => OpenF.fn f, ?_⟩
  rw [Oper.semAt_eq _ _ _ hnd, h]
  exact hX
theorem wpIn_of_skip [OpenF F] {P : Program} {a : Act} {w w' : World} {X : Act → World → Prop} (hnd : ∀ c, o.op ≠ .defer c) (h : (execOp a.eval o).run P w = .ok .skip w') (hX : X (a.put o.dst undef) w') : o.wpIn F n P a w X Q := by
  refine ⟨fun f _ => OpenF.fn f, ?_⟩
  rw [Oper.semAt_eq _ _ _ hnd, h]
  exact hX

/-- An operation that hands back a value. -/
theorem G_value [OpenF F] {v : AV} (hnd : ∀ c, o.op ≠ .defer c) (hd : dstE E N o.dst v = some E')
    (H : ∀ φ w fb a, Sim ⟨φ, getS L, w, fb⟩ → GlobR K ⟨φ, getS L, w, fb⟩ → FrR ⟨φ, getS L, w, fb⟩ ⟨E, N, ds⟩ a → ∃ z φ' w', (execOp a.eval o).run K.P w = .ok (.value z) w' ∧
      Stp ⟨φ, getS L, w, fb⟩ ⟨φ', getS L', w', fb⟩ ∧ Sim ⟨φ', getS L', w', fb⟩ ∧ VV (Cfg.v ⟨φ', getS L', w', fb⟩) v z)
    (h : G K C0 ⟨E', N, ds⟩ L' (wpG F n K.P Q r)) : G K C0 ⟨E, N, ds⟩ L (wpG F n K.P Q ((o, none) :: r)) := fun φ w fb a h1 h2 h3 h4 => by
  obtain ⟨z, φ', w', hz, hs, hS, hv⟩ := H φ w fb a h2 h3 h4
  refine wpIn_of_value hnd hz (h φ' w' fb _ (h1.trans hs) hS (h3.step hs) ?_)
  exact put_E hd (h4.step hs) hv
/-- An operation that hands back nothing. -/
theorem G_none [OpenF F] (hnd : ∀ c, o.op ≠ .defer c) (hd : dstE E N o.dst .undef = some E')
    (H : ∀ φ w fb a, Sim ⟨φ, getS L, w, fb⟩ → GlobR K ⟨φ, getS L, w, fb⟩ → FrR ⟨φ, getS L, w, fb⟩ ⟨E, N, ds⟩ a → ∃ φ' w', (execOp a.eval o).run K.P w = .ok .skip w' ∧
      Stp ⟨φ, getS L, w, fb⟩ ⟨φ', getS L', w', fb⟩ ∧ Sim ⟨φ', getS L', w', fb⟩)
    (h : G K C0 ⟨E', N, ds⟩ L' (wpG F n K.P Q r)) : G K C0 ⟨E, N, ds⟩ L (wpG F n K.P Q ((o, none) :: r)) := fun φ w fb a h1 h2 h3 h4 => by
  obtain ⟨φ', w', hz, hs, hS⟩ := H φ w fb a h2 h3 h4
  refine wpIn_of_skip hnd hz (h φ' w' fb _ (h1.trans hs) hS (h3.step hs) ?_)
  exact put_E hd (h4.step hs) (by simp [VV])

theorem evalPure_nd {K : Ctx} {ρ : Operand → AV} {S : Nat → AObj} {o : Op} {v : AV} (h : evalPure K ρ S o = some v) : ∀ c, o ≠ .defer c := by
  rintro c rfl
  simp [evalPure] at h

theorem opd_VV' {C : Cfg} {a : Act} (hG : GlobR K C) (h : FrR C ⟨E, N, ds⟩ a) (x : Operand) : VV C.v (opd K ⟨E, 0, (0, 0)⟩ x) (a.eval x) := by
  rw [opd_E (N' := N) (ds' := ds)]
  exact opd_VV hG h x
/-- Computing and reading. -/
theorem G_pure [OpenF F] (hK : K.Ok) {v : AV} (hv : evalS K E L o.op = some v) (hd : dstE E N o.dst v = some E')
    (h : G K C0 ⟨E', N, ds⟩ L (wpG F n K.P Q r)) : G K C0 ⟨E, N, ds⟩ L (wpG F n K.P Q ((o, none) :: r)) := by
  unfold evalS at hv
  cases he : evalPure K (opd K ⟨E, 0, (0, 0)⟩) (getS L) o.op with
  | none => rw [he] at hv; cases hv
  | some v' =>
    rw [he] at hv
    have := force_eq hv
    subst this
    refine G_value (evalPure_nd he) hd (fun φ w fb a hS hG hF => ?_) h
    obtain ⟨z, hz, hvv⟩ := evalPure_ok (C := ⟨φ, getS L, w, fb⟩) (r := a.eval) hK hS (fun x => opd_VV' hG hF x) he
    exact ⟨z, φ, w, hz, Stp.refl _, hS, hvv⟩
end
end Go.Asl
/- The rules of the operations that make or turn objects. -/
set_option linter.unusedVariables false
set_option linter.unusedSimpArgs false
namespace Go.Asl
open Go.RowKit

section
variable {φ : Nat → Value} {L : List (Nat × AObj)} {w w' : World} {fb : Nat → Prop}
/-- A new object in a new block. -/
theorem Sim.new {m : Nat} (hS : Sim ⟨φ, getS L, w, fb⟩) (hm : getS L m = .free) (v : Value) (ob : AObj) (hl : ob.known = true) (hw : w.grownBy w' none)
    (hb : ∀ b, blk v = some b → w.heap.size ≤ b) (hobj : Stp ⟨φ, getS L, w, fb⟩ ⟨upd φ m v, getS ((m, ob) :: L), w', fb⟩ → ObjR ⟨upd φ m v, getS ((m, ob) :: L), w', fb⟩ m ob) :
    Stp ⟨φ, getS L, w, fb⟩ ⟨upd φ m v, getS ((m, ob) :: L), w', fb⟩ ∧ Sim ⟨upd φ m v, getS ((m, ob) :: L), w', fb⟩ := by
  have hne : ∀ k, Cfg.kn ⟨φ, getS L, w, fb⟩ k → k ≠ m := fun k hk e => by
    subst e
    simp [Cfg.kn, hm, AObj.known] at hk
  refine hS.move (C' := ⟨upd φ m v, getS ((m, ob) :: L), w', fb⟩) none m (fun b e => by cases e) hw rfl (fun k hk => ?_) (fun k hk hlv => ?_) (fun b _ hbb => ?_) (fun hs => ?_)
  · have h := hne k hk
    refine ⟨?_, upd_ne h⟩
    show (getS ((m, ob) :: L) k).known = true
    rw [getS_cons, if_neg h]
    exact hk
  · refine ⟨?_, .inl rfl⟩
    show getS ((m, ob) :: L) k = getS L k
    rw [getS_cons, if_neg hk]
  · refine .inl (hb b ?_)
    have : upd φ m v m = v := upd_same _ _ _
    rwa [show (Cfg.mk (upd φ m v) (getS ((m, ob) :: L)) w' fb).φ m = v from this] at hbb
  · have : getS ((m, ob) :: L) m = ob := by rw [getS_cons, if_pos rfl]
    show ObjR _ m (getS ((m, ob) :: L) m)
    rw [this]
    exact hobj hs
/-- A live object is turned, in its own block. -/
theorem Sim.turn {m : Nat} (hS : Sim ⟨φ, getS L, w, fb⟩) (hm : (getS L m).live = true) (ob : AObj) (hl : ob.known = true) (hw : w.grownBy w' (blk (φ m)))
    (hobj : Stp ⟨φ, getS L, w, fb⟩ ⟨φ, getS ((m, ob) :: L), w', fb⟩ → ObjR ⟨φ, getS ((m, ob) :: L), w', fb⟩ m ob) :
    Stp ⟨φ, getS L, w, fb⟩ ⟨φ, getS ((m, ob) :: L), w', fb⟩ ∧ Sim ⟨φ, getS ((m, ob) :: L), w', fb⟩ := by
  refine hS.move (C' := ⟨φ, getS ((m, ob) :: L), w', fb⟩) (blk (φ m)) m (fun b e => ⟨m, hm, e⟩) hw rfl (fun k hk => ⟨?_, rfl⟩) (fun k hk hlv => ?_) (fun b _ hbb => .inr hbb) (fun hs => ?_)
  · show (getS ((m, ob) :: L) k).known = true
    rw [getS_cons]
    by_cases h : k = m
    · rw [if_pos h]; exact hl
    · rw [if_neg h]; exact hk
  · have hlv' : (getS ((m, ob) :: L) k).live = true := hlv
    have e : getS ((m, ob) :: L) k = getS L k := by rw [getS_cons, if_neg hk]
    refine ⟨e, ?_⟩
    rw [e] at hlv'
    cases hb : blk (φ m) with
    | none => exact .inl rfl
    | some b => exact .inr (fun e' => hS.disj k m b hk hlv' hm e' hb)
  · have : getS ((m, ob) :: L) m = ob := by rw [getS_cons, if_pos rfl]
    show ObjR _ m (getS ((m, ob) :: L) m)
    rw [this]
    exact hobj hs
/-- A live object goes, and a new one takes its block or a new one. -/
theorem Sim.pass {m m' : Nat} (hS : Sim ⟨φ, getS L, w, fb⟩) (hm : (getS L m).live = true) (hm' : getS L m' = .free) (v : Value) (ob : AObj) (hl : ob.known = true) (hw : w.grownBy w' (blk (φ m)))
    (hb : ∀ b, blk v = some b → w.heap.size ≤ b ∨ blk (φ m) = some b)
    (hobj : Stp ⟨φ, getS L, w, fb⟩ ⟨upd φ m' v, getS ((m', ob) :: (m, .dead) :: L), w', fb⟩ → ObjR ⟨upd φ m' v, getS ((m', ob) :: (m, .dead) :: L), w', fb⟩ m' ob) :
    Stp ⟨φ, getS L, w, fb⟩ ⟨upd φ m' v, getS ((m', ob) :: (m, .dead) :: L), w', fb⟩ ∧ Sim ⟨upd φ m' v, getS ((m', ob) :: (m, .dead) :: L), w', fb⟩ := by
  have hne : ∀ k, Cfg.kn ⟨φ, getS L, w, fb⟩ k → k ≠ m' := fun k hk e => by
    subst e
    simp [Cfg.kn, hm', AObj.known] at hk
  refine hS.move (C' := ⟨upd φ m' v, getS ((m', ob) :: (m, .dead) :: L), w', fb⟩) (blk (φ m)) m' (fun b e => ⟨m, hm, e⟩) hw rfl (fun k hk => ?_) (fun k hk hlv => ?_) (fun b _ hbb => ?_) (fun hs => ?_)
  · have h := hne k hk
    refine ⟨?_, upd_ne h⟩
    show (getS ((m', ob) :: (m, .dead) :: L) k).known = true
    rw [getS_cons, if_neg h, getS_cons]
    by_cases h2 : k = m
    · rw [if_pos h2]; rfl
    · rw [if_neg h2]; exact hk
  · have hlv' : (getS ((m', ob) :: (m, .dead) :: L) k).live = true := hlv
    rw [getS_cons, if_neg hk, getS_cons] at hlv'
    by_cases h2 : k = m
    · rw [if_pos h2] at hlv'; simp [AObj.live] at hlv'
    · rw [if_neg h2] at hlv'
      refine ⟨?_, ?_⟩
      · show getS ((m', ob) :: (m, .dead) :: L) k = getS L k
        rw [getS_cons, if_neg hk, getS_cons, if_neg h2]
      · cases hb' : blk (φ m) with
        | none => exact .inl rfl
        | some b => exact .inr (fun e' => hS.disj k m b h2 hlv' hm e' hb')
  · refine hb b ?_
    have : upd φ m' v m' = v := upd_same _ _ _
    rwa [show (Cfg.mk (upd φ m' v) (getS ((m', ob) :: (m, .dead) :: L)) w' fb).φ m' = v from this] at hbb
  · have : getS ((m', ob) :: (m, .dead) :: L) m' = ob := by rw [getS_cons, if_pos rfl]
    show ObjR _ m' (getS ((m', ob) :: (m, .dead) :: L) m')
    rw [this]
    exact hobj hs
end

section
variable {K : Ctx} {C0 : Cfg} {E : List (Nat × AV)} {N : Nat} {ds : Nat × Nat} {L L' : List (Nat × AObj)} {F : Fence} {n : Nat} {Q : Exit → Act → World → Prop}
  {o : Oper} {r : List (Oper × Option (Nat × Bool))} {E' : List (Nat × AV)}

theorem grown_alloc (w : World) (o : Obj) : w.grownBy (w.alloc o) none := World.grownBy_alloc w o none
theorem heap_new (w : World) (o : Obj) : (w.alloc o).heap[w.heap.size]? = some o := World.alloc_heap_new w o

/-- A variable in memory. -/
theorem new_box {φ : Nat → Value} {w : World} {fb : Nat → Prop} {m : Nat} {us : List Value} {cs : List AV} {T : TypeId} (hS : Sim ⟨φ, getS L, w, fb⟩) (hm : getS L m = .free) (hv : VEs (Cfg.v ⟨φ, getS L, w, fb⟩) cs us) :
    let v : Value := .pointer (some ⟨w.heap.size, 0, none⟩)
    let C' : Cfg := ⟨upd φ m v, getS ((m, .box cs) :: L), w.alloc (.cells us.toArray T), fb⟩
    Stp ⟨φ, getS L, w, fb⟩ C' ∧ Sim C' ∧ VV C'.v (.ptr m 0) v := by
  intro v C'
  obtain ⟨h1, h2⟩ := hS.new hm v (.box cs) rfl (grown_alloc w (.cells us.toArray T)) (fun b e => by simp only [v, blk, Option.some.injEq] at e; omega) (fun hs => by
    refine ⟨w.heap.size, T, us.toArray, upd_same _ _ _, heap_new w _, ?_⟩
    exact VEs.step hs.v (by simpa using hv))
  refine ⟨h1, h2, ?_⟩
  simp only [VV]
  refine ⟨?_, w.heap.size, upd_same _ _ _, rfl⟩
  show (getS ((m, .box cs) :: L) m).known = true
  rw [getS_cons, if_pos rfl]; rfl

theorem G_alloc [OpenF F] (hK : K.Ok) {t : Nat} {ti : TI} (m : Nat) (hop : o.op = .alloc t) (ht : K.T t = some ti) (hm : getS L m = .free) (hd : dstE E N o.dst (.ptr m 0) = some E')
    (h : G K C0 ⟨E', N, ds⟩ ((m, .box ti.zero) :: L) (wpG F n K.P Q r)) : G K C0 ⟨E, N, ds⟩ L (wpG F n K.P Q ((o, none) :: r)) := by
  refine G_value (by simp [hop]) hd (fun φ w fb a hS hG hF => ?_) h
  obtain ⟨i, hi, _, _, zv, hz, hzs, _, _⟩ := (hK.facts ht).info
  obtain ⟨h1, h2, h3⟩ := new_box (T := t) hS hm (zerosAre_VEs (C := Cfg.v ⟨φ, getS L, w, fb⟩) hzs)
  exact ⟨_, _, _, by simp [execOp, hop, Instr.alloc, zeroValue, typeInfo, hi, hz, newVar, newRow]; try rfl, h1, h2, h3⟩
theorem G_box [OpenF F] (hK : K.Ok) {t : Nat} {x : Operand} {a0 : AV} {cs : List AV} (m : Nat) (hop : o.op = .box t x) (hx : opS K E x = some a0) (hcs : a0.cells = some cs) (hm : getS L m = .free) (hd : dstE E N o.dst (.ptr m 0) = some E')
    (h : G K C0 ⟨E', N, ds⟩ ((m, .box cs) :: L) (wpG F n K.P Q r)) : G K C0 ⟨E, N, ds⟩ L (wpG F n K.P Q ((o, none) :: r)) := by
  refine G_value (by simp [hop]) hd (fun φ w fb a hS hG hF => ?_) h
  have hv := opd_VV' hG hF x
  rw [← force_eq hx] at hv
  obtain ⟨h1, h2, h3⟩ := new_box (T := t) hS hm (VV_cells hcs hv)
  exact ⟨_, _, _, by simp [execOp, hop, Instr.box, newVar, newRow]; try rfl, h1, h2, h3⟩

theorem VEs_putAt {C : VC} {cs xs : List AV} {us vs : List Value} {off : Nat} (h : VEs C cs us) (hx : VEs C xs vs) (hl : off + xs.length ≤ cs.length) : VEs C (putAt cs off xs) (us.take off ++ vs ++ us.drop (off + vs.length)) := by
  have h1 := VEs_length h
  have h2 := VEs_length hx
  obtain ⟨_, hp1⟩ := VEs_iff.1 h
  obtain ⟨_, hp2⟩ := VEs_iff.1 hx
  unfold putAt
  refine VEs_iff.2 ⟨by simp; omega, fun k a u ha hu => ?_⟩
  rw [List.append_assoc] at ha hu
  have m1 : min off cs.length = off := by omega
  have m2 : min off us.length = off := by omega
  by_cases k1 : k < off
  · rw [List.getElem?_append_left (by simp; omega), List.getElem?_take_of_lt k1] at ha
    rw [List.getElem?_append_left (by simp; omega), List.getElem?_take_of_lt k1] at hu
    exact hp1 k a u ha hu
  · rw [List.getElem?_append_right (by simp; omega), List.length_take, m1] at ha
    rw [List.getElem?_append_right (by simp; omega), List.length_take, m2] at hu
    by_cases k2 : k - off < xs.length
    · rw [List.getElem?_append_left k2] at ha
      rw [List.getElem?_append_left (by omega)] at hu
      exact hp2 _ a u ha hu
    · rw [List.getElem?_append_right (by omega), List.getElem?_drop] at ha
      rw [List.getElem?_append_right (by omega), List.getElem?_drop, ← h2] at hu
      exact hp1 _ a u ha hu
theorem VEs_one {C : VC} {cs : List AV} {us : List Value} (hf : cs.all flat = true) (h : VEs C cs us) : ∀ u ∈ us, u.oneCell' = true := fun u hu => by
  obtain ⟨hl, hp⟩ := VEs_iff.1 h
  obtain ⟨i, hi⟩ := List.mem_iff_getElem?.1 hu
  have hlt : i < cs.length := by rw [hl]; exact (List.getElem?_eq_some_iff.1 hi).1
  have ha := List.getElem?_eq_getElem hlt
  have := hp i _ u ha hi
  refine VE_one (fun as e => ?_) this
  have hm := List.all_eq_true.1 hf _ (List.mem_of_getElem? ha)
  rw [e] at hm
  simp [flat] at hm

theorem run_storeAt_box {P : Program} {t : Nat} {ti : TI} (hf : TFacts P t ti) {w : World} {b off : Nat} {us : Array Value} {T : TypeId} {v : Value} (hb : w.heap[b]? = some (.cells us T (0, 0))) (hl : v.cells.size = ti.sz) (hfit : off + ti.sz ≤ us.size)
    (h1 : ∀ u ∈ v.cells.toList, u.oneCell' = true) :
    (Instr.storeAt t (.pointer (some ⟨b, off, none⟩)) v).run P w = .ok () (w.setRow b (us.toList.take off ++ v.cells.toList ++ us.toList.drop (off + v.cells.toList.length)).toArray) := by
  have := run_storeCells_at P b off T v.cells.toList 0 us w hb (by simp; omega) h1
  simp only [Nat.add_zero] at this
  simp [Instr.storeAt, Instr.sureAddr, storeVar, hf.size w, hl, this]

/-- A store into a variable in memory. -/
theorem G_store [OpenF F] (hK : K.Ok) {t : Nat} {ti : TI} {p x : Operand} {m off : Nat} {cs xs : List AV} {a0 : AV} (hop : o.op = .store t p x) (ht : K.T t = some ti)
    (hp : opS K E p = some (.ptr m off)) (hx : opS K E x = some a0) (hxs : a0.cells = some xs) (hm : getS L m = .box cs)
    (hc : (Nat.beq xs.length ti.sz && Nat.ble (off + ti.sz) cs.length && xs.all flat) = true) (hd : dstE E N o.dst .undef = some E')
    (h : G K C0 ⟨E', N, ds⟩ ((m, .box (putAt cs off xs)) :: L) (wpG F n K.P Q r)) : G K C0 ⟨E, N, ds⟩ L (wpG F n K.P Q ((o, none) :: r)) := by
  simp only [Bool.and_eq_true] at hc
  obtain ⟨⟨c1, c2⟩, c3⟩ := hc
  have e1 := Nat.eq_of_beq_eq_true c1
  have e2 := Nat.le_of_ble_eq_true c2
  refine G_none (by simp [hop]) hd (fun φ w fb a hS hG hF => ?_) h
  have hpv := opd_VV' hG hF p
  rw [← force_eq hp] at hpv
  have hxv := opd_VV' hG hF x
  rw [← force_eq hx] at hxv
  have hcells := VV_cells hxs hxv
  simp only [VV] at hpv
  obtain ⟨_, b, hφ, hpv⟩ := hpv
  have ho := hS.obj m
  rw [show (Cfg.mk φ (getS L) w fb).S m = .box cs from hm] at ho
  obtain ⟨b', T, us, hφ', hb, hvs⟩ := ho
  have hφ1 : φ m = .pointer (some ⟨b, 0, none⟩) := hφ
  have hφ2 : φ m = .pointer (some ⟨b', 0, none⟩) := hφ'
  rw [hφ1] at hφ2
  simp only [Value.pointer.injEq, Option.some.injEq, Addr.mk.injEq, and_true] at hφ2
  subst hφ2
  have hl1 := VEs_length hcells
  have hl2 := VEs_length hvs
  have hrun := run_storeAt_box (hK.facts ht) (w := w) (b := b) (off := off) (v := a.eval x) hb (by simp at hl1; omega) (by simp at hl2; omega) (VEs_one c3 hcells)
  obtain ⟨h1, h2⟩ := hS.turn (m := m) (w' := w.setRow b (us.toList.take off ++ (a.eval x).cells.toList ++ us.toList.drop (off + (a.eval x).cells.toList.length)).toArray) (by rw [hm]; rfl) (.box (putAt cs off xs)) rfl
    ⟨rfl, rfl, rfl, by simp [World.setRow], fun k _ hk => setRow_other w b k _ (fun e => hk (by rw [hφ1]; simp [blk, e]))⟩ (fun hs => by
      refine ⟨b, T, _, hφ1, setRow_heap w b us _ T _ hb, ?_⟩
      exact VEs.step hs.v (by simpa using VEs_putAt hvs hcells (by omega)))
  exact ⟨φ, _, by simp only [execOp, hop, hpv, Sem.run_bind, hrun, Result.andThen_ok, Sem.run_pure], h1, h2⟩
end
end Go.Asl
/- Slices: reading, writing, making, appending. -/
set_option linter.unusedVariables false
set_option linter.unusedSimpArgs false
namespace Go.Asl
open Go.RowKit

/-! ### Values that name no object -/
mutual
def bareB : AV → Bool
  | .own _ | .ptr _ _ | .eptr _ _ _ _ | .yld _ | .map _ => false
  | .agg cs => bareL cs
  | .tup cs => bareL cs
  | .fn _ as bs => bareL as && bareL bs
  | _ => true
def bareL : List AV → Bool
  | [] => true
  | a :: r => bareB a && bareL r
end
mutual
theorem VE_bare {C : VC} : ∀ {a : AV} {us : List Value}, bareB a = true → VE C a us → VE C.bare a us
  | .undef, _, _, h => by simpa only [VE] using h
  | .int .., _, _, h => by simpa only [VE] using h
  | .bool .., _, _, h => by simpa only [VE] using h
  | .str .., _, _, h => by simpa only [VE] using h
  | .nils, _, _, h => by simpa only [VE] using h
  | .lst .., _, _, h => by simp only [VE] at h ⊢; exact h
  | .clip .., _, _, h => by simp only [VE] at h ⊢; exact h
  | .own _, _, hb, _ => by simp [bareB] at hb
  | .ptr .., _, hb, _ => by simp [bareB] at hb
  | .eptr .., _, hb, _ => by simp [bareB] at hb
  | .rptr .., _, _, h => by simp only [VE] at h ⊢; exact h
  | .agg cs, _, hb, h => by simp only [VE, bareB] at h hb ⊢; exact VEs_bare hb h
  | .tup cs, _, _, h => by simp only [VE] at h
  | .fn f as bs, _, hb, h => by
    simp only [VE, bareB, Bool.and_eq_true] at h hb ⊢
    obtain ⟨us, vs, h1, h2, h3⟩ := h
    exact ⟨us, vs, h1, VVs_bare hb.1 h2, VVs_bare hb.2 h3⟩
  | .yld _, _, hb, _ => by simp [bareB] at hb
  | .map _, _, hb, _ => by simp [bareB] at hb
  | .nilmap, _, _, h => by simpa only [VE] using h
  | .nilfn, _, _, h => by simpa only [VE] using h
  | .niliface, _, _, h => by simpa only [VE] using h
theorem VEs_bare {C : VC} : ∀ {as : List AV} {us : List Value}, bareL as = true → VEs C as us → VEs C.bare as us
  | [], _, _, h => h
  | a :: r, _, hb, h => by
    simp only [bareL, Bool.and_eq_true] at hb
    obtain ⟨c, s, h1, h2, h3⟩ := h
    exact ⟨c, s, h1, VE_bare hb.1 h2, VEs_bare hb.2 h3⟩
theorem VV_bare {C : VC} : ∀ {a : AV} {v : Value}, bareB a = true → VV C a v → VV C.bare a v
  | .undef, _, _, h => by simp only [VV]
  | .int .., _, _, h => by simpa only [VV] using h
  | .bool .., _, _, h => by simpa only [VV] using h
  | .str .., _, _, h => by simpa only [VV] using h
  | .nils, _, _, h => by simpa only [VV] using h
  | .lst .., _, _, h => by simp only [VV] at h ⊢; exact h
  | .clip .., _, _, h => by simp only [VV] at h ⊢; exact h
  | .own _, _, hb, _ => by simp [bareB] at hb
  | .ptr .., _, hb, _ => by simp [bareB] at hb
  | .eptr .., _, hb, _ => by simp [bareB] at hb
  | .rptr .., _, _, h => by simp only [VV] at h ⊢; exact h
  | .agg cs, _, hb, h => by
    simp only [VV, bareB] at h hb ⊢
    obtain ⟨us, h1, h2⟩ := h
    exact ⟨us, h1, VEs_bare hb h2⟩
  | .tup cs, _, hb, h => by
    simp only [VV, bareB] at h hb ⊢
    obtain ⟨us, h1, h2⟩ := h
    exact ⟨us, h1, VVs_bare hb h2⟩
  | .fn f as bs, _, hb, h => by
    simp only [VV, bareB, Bool.and_eq_true] at h hb ⊢
    obtain ⟨us, vs, h1, h2, h3⟩ := h
    exact ⟨us, vs, h1, VVs_bare hb.1 h2, VVs_bare hb.2 h3⟩
  | .yld _, _, hb, _ => by simp [bareB] at hb
  | .map _, _, hb, _ => by simp [bareB] at hb
  | .nilmap, _, _, h => by simpa only [VV] using h
  | .nilfn, _, _, h => by simpa only [VV] using h
  | .niliface, _, _, h => by simpa only [VV] using h
theorem VVs_bare {C : VC} : ∀ {as : List AV} {us : List Value}, bareL as = true → VVs C as us → VVs C.bare as us
  | [], _, _, h => h
  | a :: r, _, hb, h => by
    simp only [bareL, Bool.and_eq_true] at hb
    obtain ⟨c, s, h1, h2, h3⟩ := h
    exact ⟨c, s, h1, VV_bare hb.1 h2, VVs_bare hb.2 h3⟩
end

/-! ### Rows of elements -/
theorem VErow_length {C : VC} {sz : Nat} : ∀ {xs : List AV} {us : List Value}, VErow C sz xs us → us.length = xs.length * sz
  | [], us, h => by simp only [VErow] at h; subst h; simp
  | x :: xs, us, h => by
    simp only [VErow] at h
    obtain ⟨c, r, rfl, ⟨h1, _⟩, _, h2⟩ := h
    have := VErow_length h2
    simp [h1, this, Nat.add_mul, Nat.add_comm]
theorem VErow_get {C : VC} {sz : Nat} : ∀ {xs : List AV} {us : List Value} {i : Nat} {x : AV}, VErow C sz xs us → xs[i]? = some x → VE C x ((us.drop (i * sz)).take sz) ∧ ((us.drop (i * sz)).take sz).length = sz ∧ ∀ u ∈ (us.drop (i * sz)).take sz, u.oneCell' = true
  | [], us, i, x, _, hx => by simp at hx
  | y :: xs, us, i, x, h, hx => by
    simp only [VErow] at h
    obtain ⟨c, r, rfl, ⟨h1, h0⟩, h2, h3⟩ := h
    cases i with
    | zero =>
      simp only [List.getElem?_cons_zero, Option.some.injEq] at hx
      subst hx
      have : ((c ++ r).drop (0 * sz)).take sz = c := by simp [← h1]
      rw [this]
      exact ⟨h2, h1, h0⟩
    | succ i =>
      simp only [List.getElem?_cons_succ] at hx
      have : (c ++ r).drop ((i + 1) * sz) = r.drop (i * sz) := by
        rw [List.drop_append, show (i + 1) * sz = sz + i * sz by rw [Nat.add_mul]; omega]
        rw [List.drop_eq_nil_of_le (by omega), h1]
        simp
      rw [this]
      exact VErow_get h3 hx
theorem VErow_append {C : VC} {sz : Nat} : ∀ {xs ys : List AV} {us vs : List Value}, VErow C sz xs us → VErow C sz ys vs → VErow C sz (xs ++ ys) (us ++ vs)
  | [], ys, us, vs, h, h2 => by simp only [VErow] at h; subst h; simpa using h2
  | x :: xs, ys, us, vs, h, h2 => by
    simp only [VErow] at h
    obtain ⟨c, r, rfl, h3, h4, h5⟩ := h
    exact ⟨c, r ++ vs, by simp, h3, h4, VErow_append h5 h2⟩
theorem VErow_take {C : VC} {sz : Nat} : ∀ {xs : List AV} {us : List Value} (k : Nat), VErow C sz xs us → VErow C sz (xs.take k) (us.take (k * sz))
  | [], us, k, h => by simp only [VErow] at h; subst h; simp [VErow]
  | x :: xs, us, 0, h => by simp [VErow]
  | x :: xs, us, k + 1, h => by
    simp only [VErow] at h
    obtain ⟨c, r, rfl, h3, h4, h5⟩ := h
    refine ⟨c, r.take (k * sz), ?_, h3, h4, VErow_take k h5⟩
    rw [show (k + 1) * sz = sz + k * sz by rw [Nat.add_mul]; omega, List.take_append]
    have h3' := h3.1
    simp [h3', List.take_of_length_le (show c.length ≤ sz + k * sz by omega)]
theorem VErow_drop {C : VC} {sz : Nat} : ∀ {xs : List AV} {us : List Value} (k : Nat), VErow C sz xs us → VErow C sz (xs.drop k) (us.drop (k * sz))
  | [], us, k, h => by simp only [VErow] at h; subst h; simp [VErow]
  | x :: xs, us, 0, h => by simpa using h
  | x :: xs, us, k + 1, h => by
    simp only [VErow] at h
    obtain ⟨c, r, rfl, h3, h4, h5⟩ := h
    have : (c ++ r).drop ((k + 1) * sz) = r.drop (k * sz) := by
      rw [List.drop_append, show (k + 1) * sz = sz + k * sz by rw [Nat.add_mul]; omega]
      have h3' := h3.1
      rw [List.drop_eq_nil_of_le (by omega), h3']
      simp
    rw [this]
    exact VErow_drop k h5
theorem VErow_set {C : VC} {sz : Nat} : ∀ {xs : List AV} {us : List Value} {i : Nat} {y : AV} {vs : List Value}, VErow C sz xs us → i < xs.length → VE C y vs → (vs.length = sz ∧ ∀ u ∈ vs, u.oneCell' = true) →
    VErow C sz (xs.set i y) (us.take (i * sz) ++ vs ++ us.drop (i * sz + sz))
  | [], us, i, y, vs, _, hi, _, _ => by simp at hi
  | x :: xs, us, 0, y, vs, h, _, hy, hl => by
    simp only [VErow] at h
    obtain ⟨c, r, rfl, h3, h4, h5⟩ := h
    refine ⟨vs, r, ?_, hl, hy, h5⟩
    have h3' := h3.1
    simp [← h3']
  | x :: xs, us, i + 1, y, vs, h, hi, hy, hl => by
    simp only [VErow] at h
    obtain ⟨c, r, rfl, h3, h4, h5⟩ := h
    have ih := VErow_set (i := i) h5 (by simpa using hi) hy hl
    refine ⟨c, _, ?_, h3, h4, ih⟩
    have h3' := h3.1
    have e1 : (i + 1) * sz = c.length + i * sz := by rw [Nat.add_mul, h3']; omega
    have e2 : (i + 1) * sz + sz = c.length + (i * sz + sz) := by rw [Nat.add_mul, h3']; omega
    rw [e2, e1, List.take_length_add_append, List.drop_length_add_append]
    simp
theorem VErow_step' {C C' : VC} (k : VStp C C') {sz : Nat} {xs : List AV} {us : List Value} (h : VErow C sz xs us) : VErow C' sz xs us := VErow.step k h

/-- A slice that can be read: its elements, where their cells lie. -/
def SliceRd (C : VC) (sz : Nat) (ys : List AV) (v : Value) : Prop :=
  ∃ A c us, v = .slice A ys.length c ∧ ys.length ≤ c ∧ VErow C.bare sz ys us ∧ (ys ≠ [] → ∃ ad, A = some ad ∧ ad.spot = none ∧ ∀ i u, us[i]? = some u → C.w.cell? (ad.add i) = some u)
theorem own_rd {C : Cfg} (hS : Sim C) {m e sz : Nat} {xs : List AV} (hm : C.S m = .arr e sz xs) : SliceRd C.v sz xs (C.φ m) := by
  have ho := hS.obj m
  rw [hm] at ho
  obtain ⟨inner, ho, hr⟩ := ho
  have hcells := fun g hg => ho.cells (g := g) hg
  rcases ho.2 with ⟨h1, h2⟩ | ⟨g, cap, cur, h1, _, h3, h4, h5, h6, h7⟩
  · refine ⟨none, 0, inner, by rw [h1, h2], by omega, hr, fun hne => ?_⟩
    exact absurd (List.eq_nil_of_length_eq_zero h2) hne
  · refine ⟨some ⟨g, 0, none⟩, cap, inner, h1, h4, hr, fun _ => ⟨_, rfl, rfl, fun i u hu => hcells g (by rw [h1]; rfl) i u hu⟩⟩
/-- What a value tells of a slice. -/
def sliceOf (S : Nat → AObj) (sz : Nat) : AV → Option (List AV)
  | .lst xs => some xs
  | .nils => some []
  | .own m => match S m with
    | .arr _ sz' xs => match Nat.beq sz' sz with
      | true => some xs
      | false => none
    | _ => none
  | _ => none
/-- The elements' cells number sz each. -/
def sized (sz : Nat) (xs : List AV) : Prop := ∀ x ∈ xs, ∃ cs, x.cells = some cs ∧ cs.length = sz
end Go.Asl
/- The rules on slices. -/
set_option linter.unusedVariables false
set_option linter.unusedSimpArgs false
namespace Go.Asl
open Go.RowKit

section
variable {K : Ctx} {C0 : Cfg} {E : List (Nat × AV)} {N : Nat} {ds : Nat × Nat} {L L' : List (Nat × AObj)} {F : Fence} {n : Nat} {Q : Exit → Act → World → Prop}
  {o : Oper} {r : List (Oper × Option (Nat × Bool))} {E' : List (Nat × AV)}

theorem opS_VV {C : Cfg} {a : Act} {x : Operand} {v : AV} (hx : opS K E x = some v) (hG : GlobR K C) (hF : FrR C ⟨E, N, ds⟩ a) : VV C.v v (a.eval x) := by
  have h := opd_VV' hG hF x
  rwa [← force_eq hx] at h

theorem lst_row {C : VC} {xs : List AV} {v : Value} (h : VV C (.lst xs) v) : ∃ A c sz us, v = .slice A xs.length c ∧ xs.length ≤ c ∧ VErow C.bare sz xs us ∧ (xs ≠ [] → ∃ ad, A = some ad ∧ Lies C ad us) := by
  simpa only [VV] using h

/-- An element of a slice that is only read. -/
theorem G_index_lst [OpenF F] (hK : K.Ok) {t e : Nat} {b1 b2 : Nat} {z : List AV} {ti : TI} {x i : Operand} {xs cs : List AV} {k : IntKind} {j : Int} {y : AV} (hop : o.op = .indexAddr t x i)
    (ht : K.T t = some ⟨b1, b2, z, .slice e⟩) (he : K.T e = some ti) (hx : opS K E x = some (.lst xs)) (hi : opS K E i = some (.int k j))
    (hy : xs[j.toNat]? = some y) (hj : 0 ≤ j) (hcs : y.cells = some cs) (hl : Nat.beq cs.length ti.sz = true) (hd : dstE E N o.dst (.rptr y 0) = some E')
    (h : G K C0 ⟨E', N, ds⟩ L (wpG F n K.P Q r)) : G K C0 ⟨E, N, ds⟩ L (wpG F n K.P Q ((o, none) :: r)) := by
  refine G_value (by simp [hop]) hd (fun φ w fb a hS hG hF => ?_) h
  obtain ⟨A, c, sz, us, hv, hc, hr, hlies⟩ := lst_row (opS_VV hx hG hF)
  have hiv := opS_VV hi hG hF
  simp only [VV] at hiv
  have hlt : j.toNat < xs.length := (List.getElem?_eq_some_iff.1 hy).1
  obtain ⟨ad, rfl, hla⟩ := hlies (fun e => by rw [e] at hlt; simp at hlt)
  obtain ⟨g1, g2, _⟩ := VErow_get hr hy
  have hsz : sz = ti.sz := by
    have h1 := VEs_length (VE_cells hcs g1)
    rw [g2] at h1
    rw [← h1]; exact Nat.eq_of_beq_eq_true hl
  subst hsz
  refine ⟨.pointer (some (ad.add (j.toNat * ti.sz))), φ, w, ?_, Stp.refl _, hS, ?_⟩
  · have : j < (xs.length : Int) := by omega
    simp [execOp, hop, Instr.indexAt, hiv, asIntOf, hv, run_underlying (slice_facts (hK.facts ht)), (hK.facts he).size w, hj, this]
  · simp only [VV]
    refine ⟨ad.add (j.toNat * ti.sz), _, by simp [Addr.add], g1, ?_, ?_, fun i u hu => ?_⟩
    · unfold Addr.add; split
      · exact hla.1
      · rfl
    · rw [add_block]; exact hla.2.1
    · rw [add_add]
      refine hla.2.2 _ u ?_
      rw [List.getElem?_take] at hu
      split at hu
      · rwa [List.getElem?_drop] at hu
      · cases hu

theorem arr_facts {C : Cfg} (hS : Sim C) {m e sz : Nat} {xs : List AV} (hm : C.S m = .arr e sz xs) (hne : xs ≠ []) :
    ∃ g cap cur, C.φ m = .slice (some ⟨g, 0, none⟩) xs.length cap ∧ C.w.heap[g]? = some (.cells cur e (0, 0)) ∧ xs.length ≤ cap ∧ cap ≤ maxLen ∧ cur.size = cap * sz ∧ VErow C.v.bare sz xs (cur.toList.take (xs.length * sz)) := by
  have ho := hS.obj m
  rw [hm] at ho
  obtain ⟨inner, ho, hr⟩ := ho
  rcases ho.2 with ⟨h1, h2⟩ | ⟨g, cap, cur, h1, _, h3, h4, h5, h6, h7⟩
  · exact absurd (List.eq_nil_of_length_eq_zero h2) hne
  · exact ⟨g, cap, cur, h1, h3, h4, h5, h6, by rw [h7]; exact hr⟩

/-- An element of a slice of one's own. -/
theorem G_index_own [OpenF F] (hK : K.Ok) {t e : Nat} {b1 b2 : Nat} {z : List AV} {ti : TI} {x i : Operand} {xs : List AV} {k : IntKind} {j : Int} {m e' sz : Nat} (hop : o.op = .indexAddr t x i)
    (ht : K.T t = some ⟨b1, b2, z, .slice e⟩) (he : K.T e = some ti) (hx : opS K E x = some (.own m)) (hi : opS K E i = some (.int k j)) (hm : getS L m = .arr e' sz xs) (hsz : Nat.beq sz ti.sz = true)
    (hj : 0 ≤ j) (hlt : j < xs.length) (hd : dstE E N o.dst (.eptr m sz j.toNat 0) = some E')
    (h : G K C0 ⟨E', N, ds⟩ L (wpG F n K.P Q r)) : G K C0 ⟨E, N, ds⟩ L (wpG F n K.P Q ((o, none) :: r)) := by
  refine G_value (by simp [hop]) hd (fun φ w fb a hS hG hF => ?_) h
  have hsz := Nat.eq_of_beq_eq_true hsz
  subst hsz
  have hxv := opS_VV hx hG hF
  have hiv := opS_VV hi hG hF
  simp only [VV] at hiv hxv
  obtain ⟨g, cap, cur, hφ, _⟩ := arr_facts (C := ⟨φ, getS L, w, fb⟩) hS hm (fun e => by rw [e] at hlt; simp at hlt; omega)
  have hφ' : φ m = .slice (some ⟨g, 0, none⟩) xs.length cap := hφ
  have hxv' : a.eval x = .slice (some ⟨g, 0, none⟩) xs.length cap := hxv.2.2.trans hφ'
  refine ⟨.pointer (some ⟨g, j.toNat * ti.sz, none⟩), φ, w, ?_, Stp.refl _, hS, ?_⟩
  · simp [execOp, hop, Instr.indexAt, hiv, asIntOf, hxv', run_underlying (slice_facts (hK.facts ht)), (hK.facts he).size w, hj, hlt, add_plain]
  · simp only [VV]
    exact ⟨hxv.1, g, xs.length, cap, hφ', by simp⟩

/-- Reading through a pointer to an element of one's own. -/
theorem G_load_elem [OpenF F] (hK : K.Ok) {t : Nat} {ti : TI} {p : Operand} {m sz i off e' : Nat} {xs cs : List AV} {y v v' : AV} (hop : o.op = .load t p) (ht : K.T t = some ti)
    (hp : opS K E p = some (.eptr m sz i off)) (hm : getS L m = .arr e' sz xs) (hy : xs[i]? = some y) (hcs : y.cells = some cs) (hv : cellsAt ti cs off = some v') (hv' : force v' = some v) (hd : dstE E N o.dst v = some E')
    (h : G K C0 ⟨E', N, ds⟩ L (wpG F n K.P Q r)) : G K C0 ⟨E, N, ds⟩ L (wpG F n K.P Q ((o, none) :: r)) := by
  have := force_eq hv'
  subst this
  refine G_value (by simp [hop]) hd (fun φ w fb a hS hG hF => ?_) h
  have hpv := opS_VV hp hG hF
  simp only [VV] at hpv
  obtain ⟨_, b, l, c, hb, hpv⟩ := hpv
  have hlt : i < xs.length := (List.getElem?_eq_some_iff.1 hy).1
  obtain ⟨g, cap, cur, hφ, hh, hc, hmx, hcur, hr⟩ := arr_facts (C := ⟨φ, getS L, w, fb⟩) hS hm (fun e => by rw [e] at hlt; simp at hlt)
  have hφ' : φ m = .slice (some ⟨g, 0, none⟩) xs.length cap := hφ
  have hb' : φ m = .slice (some ⟨b, 0, none⟩) l c := hb
  rw [hφ'] at hb'
  simp only [Value.slice.injEq, Option.some.injEq, Addr.mk.injEq, and_true] at hb'
  obtain ⟨rfl, _, _⟩ := hb'
  obtain ⟨g1, g2, _⟩ := VErow_get hr hy
  obtain ⟨z, hz, hvv⟩ := run_cellsAt (C := ⟨φ, getS L, w, fb⟩) (hK.facts ht) hv (VEs.step (VStp.of_bare _) (VE_cells hcs g1)) (w := w) (ad := ⟨g, i * sz, none⟩) (fun q u hu => by
    rw [add_plain]
    rw [List.getElem?_take] at hu
    split at hu
    · rename_i hq
      rw [List.getElem?_drop, List.getElem?_take] at hu
      split at hu
      · have hh' : w.heap[g]? = some (.cells cur e' (0, 0)) := hh
        simp only [World.cell?, hh', Option.isSome_none, Bool.false_eq_true, if_false]
        simpa using hu
      · cases hu
    · cases hu)
  rw [add_plain] at hz
  exact ⟨z, φ, w, by simp [execOp, hop, hpv, Instr.loadAt, Instr.sureAddr, hz], Stp.refl _, hS, hvv⟩

/-- What is written into an element. -/
def putElem (y : AV) (off : Nat) (vs : List AV) : Option AV :=
  match y with
  | .agg cs => some (.agg (putAt cs off vs))
  | _ => match vs with
    | [v] => some v
    | _ => none

/-- Writing through a pointer to an element of one's own. -/
theorem G_store_elem [OpenF F] (hK : K.Ok) {t : Nat} {ti : TI} {p x : Operand} {m sz i off e' : Nat} {xs cs vs : List AV} {y y' a0 : AV} (hop : o.op = .store t p x) (ht : K.T t = some ti)
    (hp : opS K E p = some (.eptr m sz i off)) (hm : getS L m = .arr e' sz xs) (hy : xs[i]? = some y) (hcs : y.cells = some cs) (hx : opS K E x = some a0) (hvs : a0.cells = some vs)
    (hy' : putElem y off vs = some y') (hc : (Nat.beq vs.length ti.sz && Nat.ble (off + ti.sz) cs.length && vs.all flat && bareL vs && (isRowK ti.kind || Nat.beq cs.length 1 || true)) = true) (hd : dstE E N o.dst .undef = some E')
    (h : G K C0 ⟨E', N, ds⟩ ((m, .arr e' sz (xs.set i y')) :: L) (wpG F n K.P Q r)) : G K C0 ⟨E, N, ds⟩ L (wpG F n K.P Q ((o, none) :: r)) := by
  simp only [Bool.and_eq_true] at hc
  obtain ⟨⟨⟨⟨c1, c2⟩, c3⟩, c4⟩, _⟩ := hc
  have e1 := Nat.eq_of_beq_eq_true c1
  have e2 := Nat.le_of_ble_eq_true c2
  refine G_none (by simp [hop]) hd (fun φ w fb a hS hG hF => ?_) h
  have hpv := opS_VV hp hG hF
  have hxv := opS_VV hx hG hF
  have hcells := VEs_bare c4 (VV_cells hvs hxv)
  simp only [VV] at hpv
  obtain ⟨_, b, l, c, hb, hpv⟩ := hpv
  have hlt : i < xs.length := (List.getElem?_eq_some_iff.1 hy).1
  have hne : xs ≠ [] := fun e => by rw [e] at hlt; simp at hlt
  obtain ⟨g, cap, cur, hφ, hh, hcap, hmx, hcur, hr⟩ := arr_facts (C := ⟨φ, getS L, w, fb⟩) hS hm hne
  have hφ' : φ m = .slice (some ⟨g, 0, none⟩) xs.length cap := hφ
  have hb' : φ m = .slice (some ⟨b, 0, none⟩) l c := hb
  rw [hφ'] at hb'
  simp only [Value.slice.injEq, Option.some.injEq, Addr.mk.injEq, and_true] at hb'
  obtain ⟨rfl, _, _⟩ := hb'
  have hh' : w.heap[g]? = some (.cells cur e' (0, 0)) := hh
  obtain ⟨g1, g2, g3⟩ := VErow_get hr hy
  have hcsl := VEs_length (VE_cells hcs g1)
  rw [g2] at hcsl
  have hl1 := VEs_length hcells
  have hone := VEs_one c3 (VV_cells hvs hxv)
  have hpos : i * sz + sz ≤ xs.length * sz := by
    have : (i + 1) * sz ≤ xs.length * sz := Nat.mul_le_mul_right _ hlt
    rw [Nat.add_mul] at this; omega
  have hcap' : xs.length * sz ≤ cap * sz := Nat.mul_le_mul_right _ hcap
  have hrun := run_storeAt_box (hK.facts ht) (w := w) (b := g) (off := i * sz + off) (v := a.eval x) hh' (by simp at hl1; omega) (by omega) hone
  have hvl : (a.eval x).cells.toList.length = ti.sz := by rw [← hl1, e1]
  obtain ⟨V, hV⟩ : ∃ V, (a.eval x).cells.toList = V := ⟨_, rfl⟩
  rw [hV] at hrun hvl hone hcells
  have hVE : VE (Cfg.v ⟨φ, getS L, w, fb⟩).bare y' (((cur.toList.take (xs.length * sz)).drop (i * sz)).take sz |>.take off |> (· ++ V ++ (((cur.toList.take (xs.length * sz)).drop (i * sz)).take sz).drop (off + V.length))) ∧
      ((((cur.toList.take (xs.length * sz)).drop (i * sz)).take sz).take off ++ V ++ (((cur.toList.take (xs.length * sz)).drop (i * sz)).take sz).drop (off + V.length)).length = sz := by
    obtain ⟨U, hU⟩ : ∃ U, ((cur.toList.take (xs.length * sz)).drop (i * sz)).take sz = U := ⟨_, rfl⟩
    rw [hU] at g1 g2 g3 ⊢
    refine ⟨?_, by simp [g2, hvl]; omega⟩
    rcases AV.cells_cases hcs with rfl | ⟨h1, rfl⟩
    · simp only [putElem, Option.some.injEq] at hy'
      subst hy'
      simp only [VE] at g1 ⊢
      exact VEs_putAt g1 hcells (by omega)
    · have hy2 : vs = [y'] := by
        cases y <;> first | (simp [AV.one] at h1; done) | skip
        all_goals (simp only [putElem] at hy'; split at hy' <;> first | (simp only [Option.some.injEq] at hy'; subst hy'; rfl) | cases hy')
      subst hy2
      simp at hcsl e1
      have hoff : off = 0 := by simp at e2; omega
      subst hoff
      have hV1 : V.length = 1 := by omega
      have hdrop : U.drop (0 + V.length) = [] := List.drop_eq_nil_of_le (by omega)
      simp only [List.take_zero, List.nil_append, hdrop, List.append_nil]
      simp only [VEs] at hcells
      obtain ⟨c, rr, rfl, h2, h3⟩ := hcells
      simp at hV1
      subst hV1
      exact h2
  obtain ⟨hVE1, hVE2⟩ := hVE
  have hrow := VErow_set (i := i) hr hlt hVE1 ⟨hVE2, fun u hu => by
    simp only [List.mem_append] at hu
    rcases hu with (hu | hu) | hu
    · exact g3 u (List.mem_of_mem_take hu)
    · exact hone u hu
    · exact g3 u (List.mem_of_mem_drop hu)⟩
  have hlist : (cur.toList.take (i * sz + off) ++ V ++ cur.toList.drop (i * sz + off + V.length)).take (xs.length * sz) =
      (cur.toList.take (xs.length * sz)).take (i * sz) ++ ((((cur.toList.take (xs.length * sz)).drop (i * sz)).take sz).take off ++ V ++ (((cur.toList.take (xs.length * sz)).drop (i * sz)).take sz).drop (off + V.length)) ++ (cur.toList.take (xs.length * sz)).drop (i * sz + sz) := by
    have hcl : cur.toList.length = cap * sz := by simpa using hcur
    have hoff : off + V.length ≤ sz := by omega
    apply List.ext_getElem?
    intro q
    simp only [List.getElem?_take, List.getElem?_append, List.getElem?_drop, List.length_append, List.length_take, List.length_drop, hcl]
    by_cases hq : q < xs.length * sz
    · simp only [hq, if_true]
      by_cases q1 : q < i * sz
      · have a1 : q < min (i * sz + off) (cap * sz) + V.length := by omega
        have a2 : q < min (i * sz + off) (cap * sz) := by omega
        have a3 : q < i * sz + off := by omega
        have a4 : q < min (i * sz) (min (xs.length * sz) (cap * sz)) := by omega
        have a5 : q < min (i * sz) (min (xs.length * sz) (cap * sz)) + (min off (min sz (min (xs.length * sz) (cap * sz) - i * sz)) + V.length + (min sz (min (xs.length * sz) (cap * sz) - i * sz) - (off + V.length))) := by omega
        simp only [a1, a2, a3, a4, a5, q1, hq, if_true]
      · have m1 : min (i * sz) (min (xs.length * sz) (cap * sz)) = i * sz := by omega
        have m2 : min sz (min (xs.length * sz) (cap * sz) - i * sz) = sz := by omega
        have m3 : min off sz = off := by omega
        have m4 : min (i * sz + off) (cap * sz) = i * sz + off := by omega
        simp only [m1, m2, m3, m4]
        by_cases q2 : q < i * sz + off
        · have a1 : q < i * sz + off + V.length := by omega
          have a2 : q < i * sz + (off + V.length + (sz - (off + V.length))) := by omega
          have a3 : q - i * sz < off + V.length := by omega
          have a4 : q - i * sz < off := by omega
          have a5 : q - i * sz < sz := by omega
          have a6 : i * sz + (q - i * sz) = q := by omega
          simp only [a1, a2, a3, a4, a5, a6, q1, q2, hq, if_true, if_false]
        · by_cases q3 : q < i * sz + off + V.length
          · have a2 : q < i * sz + (off + V.length + (sz - (off + V.length))) := by omega
            have a3 : q - i * sz < off + V.length := by omega
            have a4 : ¬ q - i * sz < off := by omega
            have a5 : q - (i * sz + off) = q - i * sz - off := by omega
            simp [a2, a3, a4, a5, q1, q2, q3]
          · by_cases q4 : q < i * sz + sz
            · have a2 : q < i * sz + (off + V.length + (sz - (off + V.length))) := by omega
              have a3 : ¬ q - i * sz < off + V.length := by omega
              have a4 : off + V.length + (q - i * sz - (off + V.length)) < sz := by omega
              have a5 : i * sz + (off + V.length + (q - i * sz - (off + V.length))) = q := by omega
              have a6 : i * sz + off + V.length + (q - (i * sz + off + V.length)) = q := by omega
              have a7 : i * sz + (off + V.length + (q - i * sz - (off + V.length))) < xs.length * sz := by omega
              simp only [q1, q2, q3, a2, a3, a4, a5, a6, hq, if_true, if_false]
            · have a2 : ¬ q < i * sz + (off + V.length + (sz - (off + V.length))) := by omega
              have a6 : i * sz + off + V.length + (q - (i * sz + off + V.length)) = q := by omega
              have a7 : i * sz + sz + (q - (i * sz + (off + V.length + (sz - (off + V.length))))) = q := by omega
              simp only [q1, q2, q3, a2, a6, a7, hq, if_true, if_false]
    · simp only [hq, if_false]
      have m1 : min (i * sz) (min (xs.length * sz) (cap * sz)) = i * sz := by omega
      have m2 : min sz (min (xs.length * sz) (cap * sz) - i * sz) = sz := by omega
      have m3 : min off sz = off := by omega
      simp only [m1, m2, m3]
      have a2 : ¬ q < i * sz + (off + V.length + (sz - (off + V.length))) := by omega
      have a7 : ¬ i * sz + sz + (q - (i * sz + (off + V.length + (sz - (off + V.length))))) < xs.length * sz := by omega
      simp only [a2, a7, if_false]
  have hown : w.ownsRow 0 e' sz (φ m) xs.length (cur.toList.take (xs.length * sz)) := by
    refine ⟨?_, .inr ⟨g, cap, cur, hφ', Nat.zero_le _, hh', hcap, hmx, hcur, rfl⟩⟩
    simp; omega
  obtain ⟨h1, h2⟩ := hS.turn (m := m) (w' := w.setRow g (cur.toList.take (i * sz + off) ++ V ++ cur.toList.drop (i * sz + off + V.length)).toArray) (by rw [hm]; rfl) (.arr e' sz (xs.set i y')) rfl
    ⟨rfl, rfl, rfl, by simp [World.setRow], fun k _ hk => setRow_other w g k _ (fun e => hk (by rw [hφ']; simp [blk, e]))⟩ (fun hs => by
      refine ⟨_, ?_, VErow.step hs.v.bare hrow⟩
      rw [← hlist]
      refine ⟨?_, .inr ⟨g, cap, _, by rw [List.length_set]; exact hφ', Nat.zero_le _, setRow_heap w g cur _ e' _ hh', by simpa using hcap, hmx, ?_, ?_⟩⟩
      · rw [hlist]
        have := VErow_length hrow
        simpa using this
      · simp only [List.size_toArray, List.length_append, List.length_take, List.length_drop, Array.length_toList]
        omega
      · simp)
  exact ⟨φ, _, by simp only [execOp, hop, hpv, Sem.run_bind, hrun, Result.andThen_ok, Sem.run_pure], h1, h2⟩
end
end Go.Asl
/- Literals, make, append, slicing. -/
set_option linter.unusedVariables false
set_option linter.unusedSimpArgs false
namespace Go.Asl
open Go.RowKit

theorem VErow_one {C : VC} {sz : Nat} : ∀ {xs : List AV} {us : List Value}, VErow C sz xs us → ∀ u ∈ us, u.oneCell' = true
  | [], us, h, u, hu => by simp only [VErow] at h; subst h; cases hu
  | x :: xs, us, h, u, hu => by
    simp only [VErow] at h
    obtain ⟨c, r, rfl, ⟨_, h0⟩, _, h2⟩ := h
    rcases List.mem_append.1 hu with hu | hu
    · exact h0 u hu
    · exact VErow_one h2 u hu
theorem VV_VEc {C : VC} {y : AV} {cs : List AV} {v : Value} (hc : y.cells = some cs) (h : VV C y v) : VE C y v.cells.toList := by
  have h1 := VV_cells hc h
  rcases AV.cells_cases hc with rfl | ⟨h2, rfl⟩
  · simpa only [VE] using h1
  · simp only [VEs] at h1
    obtain ⟨c, r, e, h3, h4⟩ := h1
    subst h4
    rw [e]; exact h3

section
variable {K : Ctx} {C0 : Cfg} {E : List (Nat × AV)} {N : Nat} {ds : Nat × Nat} {L L' : List (Nat × AObj)} {F : Fence} {n : Nat} {Q : Exit → Act → World → Prop}
  {o : Oper} {r : List (Oper × Option (Nat × Bool))} {E' : List (Nat × AV)}

/-- An element that may be put into a row of elements of sz cells. -/
def fits (sz : Nat) (y : AV) : Bool :=
  match y.cells with
  | some cs => Nat.beq cs.length sz && cs.all flat && bareL cs
  | none => false
theorem fits_row {C : VC} {sz : Nat} {y : AV} {v : Value} (hf : fits sz y = true) (h : VV C y v) : (v.cells.toList.length = sz ∧ ∀ u ∈ v.cells.toList, u.oneCell' = true) ∧ VE C.bare y v.cells.toList := by
  unfold fits at hf
  cases hc : y.cells with
  | none => rw [hc] at hf; cases hf
  | some cs =>
    rw [hc] at hf
    simp only [Bool.and_eq_true] at hf
    obtain ⟨⟨h1, h2⟩, h3⟩ := hf
    have h4 := VV_cells hc h
    refine ⟨⟨by rw [← VEs_length h4]; exact Nat.eq_of_beq_eq_true h1, VEs_one h2 h4⟩, ?_⟩
    have h5 := VV_VEc hc h
    refine VE_bare ?_ h5
    rcases AV.cells_cases hc with rfl | ⟨h6, rfl⟩
    · simpa only [bareB] using h3
    · simp only [bareL, Bool.and_true] at h3; exact h3

/-- The elements of a literal, in order. -/
def partsS (K : Ctx) (E : List (Nat × AV)) (sz : Nat) : List (Nat × Operand) → Nat → Option (List AV)
  | [], _ => some []
  | (i, x) :: r, k => match Nat.beq i k, opS K E x, partsS K E sz r (k + 1) with
    | true, some y, some ys => match fits sz y with
      | true => some (y :: ys)
      | false => none
    | _, _, _ => none
theorem parts_fill {C : Cfg} {a : Act} {sz : Nat} (hG : GlobR K C) (hF : FrR C ⟨E, N, ds⟩ a) : ∀ (parts : List (Nat × Operand)) (k : Nat) (ys : List AV) (cells : Array Value), partsS K E sz parts k = some ys →
    cells.size = (k + parts.length) * sz → ∃ cells' us, Instr.fill (fun i => some (i * sz, sz)) cells (parts.map fun p => (p.1, a.eval p.2)) = some cells' ∧ cells'.toList = cells.toList.take (k * sz) ++ us ∧ VErow C.v.bare sz ys us
  | [], k, ys, cells, h, hs => by
    simp only [partsS, Option.some.injEq] at h
    subst h
    refine ⟨cells, [], rfl, ?_, by simp [VErow]⟩
    rw [List.take_of_length_le (by simp at hs ⊢; omega)]; simp
  | (i, x) :: parts, k, ys, cells, h, hs => by
    simp only [partsS] at h
    split at h
    · rename_i y ys' hi hy hys
      split at h
      · rename_i hf
        simp only [Option.some.injEq] at h
        subst h
        have hik := Nat.eq_of_beq_eq_true hi
        subst hik
        have hv := opS_VV hy hG hF
        obtain ⟨⟨h1, h2⟩, h3⟩ := fits_row hf hv
        have hsz : (a.eval x).cells.size = sz := by simpa using h1
        have hfit : i * sz + sz ≤ cells.size := by
          rw [hs, List.length_cons, Nat.add_mul, Nat.add_mul]; omega
        have hset : ((a.eval x).cells.zipIdx.foldl (fun (cs : Array Value) (x : Value × Nat) => cs.setIfInBounds (i * sz + x.2) x.1) cells).toList = cells.toList.take (i * sz) ++ (a.eval x).cells.toList ++ cells.toList.drop (i * sz + (a.eval x).cells.toList.length) := by
          have := foldl_set (i * sz) (a.eval x).cells.toList 0 cells (by simp; omega)
          rw [← Array.foldl_toList]
          simpa using this
        obtain ⟨D, hD⟩ : ∃ D, (a.eval x).cells.zipIdx.foldl (fun (cs : Array Value) (x : Value × Nat) => cs.setIfInBounds (i * sz + x.2) x.1) cells = D := ⟨_, rfl⟩
        rw [hD] at hset
        have hDs : D.size = cells.size := by
          have := congrArg List.length hset
          simp at this; omega
        obtain ⟨cells', us, g1, g2, g3⟩ := parts_fill hG hF parts (i + 1) ys' D hys (by rw [hDs, hs, List.length_cons]; congr 1; omega)
        refine ⟨cells', (a.eval x).cells.toList ++ us, ?_, ?_, ⟨_, us, rfl, ⟨h1, h2⟩, h3, g3⟩⟩
        · have hn : ¬ (i * sz + (a.eval x).cells.size > cells.size) := by omega
          simp only [List.map_cons, Instr.fill, hsz, ne_eq, not_true]
          rw [hsz] at hn
          simp only [hn, decide_false, Bool.or_self, Bool.false_eq_true, if_false, or_self]
          rw [hD]; exact g1
        · rw [g2, hset]
          have e1 : (i + 1) * sz = i * sz + sz := by rw [Nat.add_mul]; omega
          have e2 : (cells.toList.take (i * sz) ++ (a.eval x).cells.toList).length = (i + 1) * sz := by
            simp; omega
          rw [← e2, List.take_left, List.append_assoc]
      · cases h
    · cases h

/-- A slice literal. -/
theorem G_lit [OpenF F] (hK : K.Ok) {t e : Nat} {b1 b2 : Nat} {z : List AV} {ti : TI} {len : Nat} {parts : Array (Nat × Operand)} {ys : List AV} (m : Nat) (hop : o.op = .buildSlice t len parts)
    (ht : K.T t = some ⟨b1, b2, z, .slice e⟩) (he : K.T e = some ti) (hys : partsS K E ti.sz parts.toList 0 = some ys) (hlen : (Nat.beq parts.toList.length len && Nat.ble (len * ti.sz) 16777216 && Nat.blt 0 ti.sz) = true) (hm : getS L m = .free) (hd : dstE E N o.dst (.own m) = some E')
    (h : G K C0 ⟨E', N, ds⟩ ((m, .arr e ti.sz ys) :: L) (wpG F n K.P Q r)) : G K C0 ⟨E, N, ds⟩ L (wpG F n K.P Q ((o, none) :: r)) := by
  simp only [Bool.and_eq_true] at hlen
  have hl1 := Nat.eq_of_beq_eq_true hlen.1.1
  have hl2 := Nat.le_of_ble_eq_true hlen.1.2
  have hl3 : 0 < ti.sz := Nat.le_of_ble_eq_true hlen.2
  refine G_value (by simp [hop]) hd (fun φ w fb a hS hG hF => ?_) h
  obtain ⟨i, hi, _, _, zv, hz, hzs, hzl, _⟩ := (hK.facts he).info
  have hzsz : zv.cells.size = ti.sz := by
    have := VEs_length (zerosAre_VEs (C := Cfg.v ⟨φ, getS L, w, fb⟩) hzs)
    simp at this; omega
  obtain ⟨Z, hZ⟩ : ∃ Z : Array Value, ∀ cells', Instr.fill (fun i => some (i * ti.sz, ti.sz)) ((Array.range (len * ti.sz)).map (Z[· % Z.size]!)) (parts.toList.map fun p => (p.1, a.eval p.2)) = some cells' →
      (Instr.buildSlice t len (parts.map fun p => (p.1, a.eval p.2))).run K.P w = .ok (.slice (some ⟨w.heap.size, 0, none⟩) len len) (w.alloc (.cells cells' e)) := by
    have hnot : ¬ (len * ti.sz > 2 ^ 24) := by omega
    have e1 : (parts.map fun p => (p.1, a.eval p.2)).toList = parts.toList.map fun p => (p.1, a.eval p.2) := by simp
    by_cases h0 : len * ti.sz = 0
    · refine ⟨#[], fun cells' hc => ?_⟩
      simp only [Instr.buildSlice, Sem.run_bind, run_underlying (slice_facts (hK.facts ht)), Result.andThen_ok, (hK.facts he).size w, hnot, if_false, Sem.run_pure, if_pos h0, e1]
      rw [hc]
      simp [newRow]
    · refine ⟨zv.cells, fun cells' hc => ?_⟩
      simp only [Instr.buildSlice, Sem.run_bind, run_underlying (slice_facts (hK.facts ht)), Result.andThen_ok, (hK.facts he).size w, hnot, if_false, Sem.run_pure, if_neg h0, e1, zeroValue, typeInfo, run_program, hi, hz]
      rw [hc]
      simp [newRow]
  obtain ⟨cells', us, g1, g2, g3⟩ := parts_fill (N := N) (ds := ds) hG hF parts.toList 0 ys ((Array.range (len * ti.sz)).map (Z[· % Z.size]!)) hys (by simp [hl1])
  simp only [Nat.zero_mul, List.take_zero, List.nil_append] at g2
  have hus := VErow_length g3
  have hysl : ys.length = len := by
    have : ∀ (l : List (Nat × Operand)) (k : Nat) (ys : List AV), partsS K E ti.sz l k = some ys → ys.length = l.length := by
      intro l
      induction l with
      | nil => intro k ys h; simp only [partsS, Option.some.injEq] at h; subst h; rfl
      | cons p l ih =>
        obtain ⟨i, x⟩ := p
        intro k ys h
        simp only [partsS] at h
        split at h
        · split at h
          · simp only [Option.some.injEq] at h; subst h
            rename_i h1 _
            simp [ih _ _ ‹_›]
          · cases h
        · cases h
    rw [this _ _ _ hys, hl1]
  obtain ⟨h1, h2⟩ := hS.new (m := m) hm (.slice (some ⟨w.heap.size, 0, none⟩) len len) (.arr e ti.sz ys) rfl (grown_alloc w (.cells cells' e)) (fun b e => by simp only [blk, Option.some.injEq] at e; omega) (fun hs => by
    refine ⟨us, ?_, VErow.step hs.v.bare g3⟩
    have hle : len ≤ len * ti.sz := Nat.le_mul_of_pos_right _ hl3
    have hll := World.ownsRow_lit (base := 0) (e := e) (size := ti.sz) w cells' len (Nat.zero_le _) (by simp only [maxLen]; omega) (by
        have := congrArg List.length g2
        rw [hus, hysl] at this
        simpa using this)
    rw [g2] at hll
    rw [hysl]
    have hφ : (Cfg.mk (upd φ m (.slice (some ⟨w.heap.size, 0, none⟩) len len)) (getS ((m, .arr e ti.sz ys) :: L)) (w.alloc (.cells cells' e)) fb).φ m = .slice (some ⟨w.heap.size, 0, none⟩) len len := upd_same _ _ _
    rw [hφ]
    exact hll)
  refine ⟨.slice (some ⟨w.heap.size, 0, none⟩) len len, _, _, ?_, h1, h2, ?_⟩
  · simp only [execOp, hop, Sem.run_bind, hZ cells' g1, Result.andThen_ok, Sem.run_pure]
  · simp only [VV]
    refine ⟨?_, ⟨_, _, _, upd_same _ _ _⟩, (upd_same _ _ _).symm⟩
    show (getS ((m, .arr e ti.sz ys) :: L) m).known = true
    rw [getS_cons, if_pos rfl]; rfl

theorem lst_rd {C : VC} {sz : Nat} {xs : List AV} {v : Value} (h : VV C (.lst xs) v) (hf : ∀ x ∈ xs, ∃ cs, x.cells = some cs ∧ cs.length = sz) : SliceRd C sz xs v := by
  obtain ⟨A, c, sz', us, h1, h2, h3, h4⟩ := lst_row h
  cases xs with
  | nil => exact ⟨A, c, [], h1, h2, by simp [VErow], fun hne => absurd rfl hne⟩
  | cons x xs =>
    obtain ⟨cs, hc, hl⟩ := hf x (by simp)
    have hsz : sz' = sz := by
      simp only [VErow] at h3
      obtain ⟨c, r, _, ⟨h5, _⟩, h6, _⟩ := h3
      have := VEs_length (VE_cells hc h6)
      omega
    subst hsz
    exact ⟨A, c, us, h1, h2, h3, fun hne => by
      obtain ⟨ad, e, hl⟩ := h4 hne
      exact ⟨ad, e, hl.1, fun i u hu => hl.2.2 i u hu⟩⟩
theorem nils_rd {C : VC} {sz : Nat} {v : Value} (h : VV C .nils v) : SliceRd C sz [] v := by
  simp only [VV] at h
  exact ⟨none, 0, [], h, by simp, by simp [VErow], fun hne => absurd rfl hne⟩

theorem run_append_rd {P : Program} {w : World} {C : VC} (hw : C.w = w) {t ty e : Nat} {i : TypeInfo} {z : Value} {sz bytes : Nat} (ht : P.underlying t = some (.slice e)) (hi : P.info? e = some i) (hz : i.zero = some z)
    (hsize : i.size = sz) (hby : i.bytes = bytes) (hzs : z.cells.size = sz) (hsz : 0 < sz) {v x : Value} {xs ys : List AV} {us : List Value} (hown : w.ownsRow 0 e sz v xs.length us) (hx : SliceRd C sz ys x)
    (hb : (xs.length + ys.length) * bytes ≤ 140737488355328) (hm : xs.length + ys.length ≤ maxLen) :
    ∃ v' w' vs, (Builtin.append_ #[t, t] ty #[v, x]).run P w = .ok v' w' ∧ w'.ownsRow 0 e sz v' (xs.length + ys.length) (us ++ vs) ∧ VErow C.bare sz ys vs ∧ w.grownBy w' v.ownBlock ∧ (∀ b, blk v' = some b → w.heap.size ≤ b ∨ v.ownBlock = some b) := by
  obtain ⟨A, c, vs, rfl, hc, hr, hl⟩ := hx
  by_cases hy : ys = []
  · subst hy
    simp only [VErow] at hr
    subst hr
    refine ⟨v, w, [], ?_, by simpa using hown, by simp [VErow], ⟨rfl, rfl, rfl, Nat.le_refl _, fun _ _ _ => rfl⟩, fun b hb => .inr (by rw [← blk_own hown]; exact hb)⟩
    rcases hown.2 with ⟨rfl, hn⟩ | ⟨g, cap, cur, rfl, _, _, hnc, _⟩
    · cases A <;> simp [Builtin.append_, run_underlying ht, sizeOf, typeInfo, hi, Builtin.lenOf, Builtin.firstCells, loadCells, loadCellsFrom]
    · cases A <;> simp [Builtin.append_, run_underlying ht, sizeOf, typeInfo, hi, Builtin.lenOf, Builtin.firstCells, hnc, storeCells, loadCells, loadCellsFrom]
  · obtain ⟨ad, rfl, _, hcell⟩ := hl hy
    have hlen := VErow_length hr
    subst hsize; subst hby
    obtain ⟨v', w', h1, h2, h3, _, h4⟩ := run_append_own_at (P := P) w 0 t ty e i z i.size i.bytes ht hi hz rfl rfl hzs hsz _ xs.length us hown ad ys.length c vs hlen (fun j u hu => by rw [← hw]; exact hcell j u hu) (VErow_one hr) hm hb (Nat.zero_le _)
    refine ⟨v', w', vs, h1, h2, hr, h3, fun b hb' => ?_⟩
    rw [blk_own h2] at hb'
    rcases h4 with h4 | h4
    · exact .inr (by rw [← h4]; exact hb')
    · rw [h4] at hb'
      simp only [Option.some.injEq] at hb'
      exact .inl (by omega)

/-- What append reads: a slice of one's own, or one that is only read, or nil. -/
theorem rd_of {C : Cfg} (hS : Sim C) {sz : Nat} {x : AV} {ys : List AV} {v : Value} (hx : VV C.v x v) (hs : sliceOf C.S sz x = some ys) (hz : ∀ zs, x = .lst zs → ∀ y ∈ zs, ∃ cs, y.cells = some cs ∧ cs.length = sz) : SliceRd C.v sz ys v := by
  cases x <;> simp only [sliceOf] at hs <;> first | (cases hs; done) | skip
  · simp only [Option.some.injEq] at hs; subst hs; exact nils_rd hx
  · simp only [Option.some.injEq] at hs; subst hs; exact lst_rd hx (hz _ rfl)
  · rename_i m
    split at hs
    · rename_i e sz' xs hm
      split at hs
      · rename_i hb
        simp only [Option.some.injEq] at hs; subst hs
        have := Nat.eq_of_beq_eq_true hb
        subst this
        simp only [VV] at hx
        rw [hx.2.2]
        exact own_rd hS hm
      · cases hs
    · cases hs

theorem append_op {P : Program} {a : Act} {w w' : World} {s x : Operand} {t : Nat} {v' : Value} {c : Call} (hop : o.op = .call c) (h1 : c.callee = .builtin .append) (h2 : c.args.toList = [s, x]) (h3 : c.argTypes.toList = [t, t])
    (h : (Builtin.append_ #[t, t] o.type #[a.eval s, a.eval x]).run P w = .ok v' w') : (execOp a.eval o).run P w = .ok (.value v') w' := by
  obtain ⟨callee, args, tys⟩ := c
  have e2 : args = #[s, x] := by rw [← Array.toArray_toList (xs := args)]; simp only at h2; rw [h2]
  have e3 : tys = #[t, t] := by rw [← Array.toArray_toList (xs := tys)]; simp only at h3; rw [h3]
  simp only at h1
  subst h1; subst e2; subst e3
  simp [execOp, hop, resolve, invoke, builtin, h]

/-- append to a slice of one's own: its name goes, m' is the longer one's. -/
theorem G_append [OpenF F] (hK : K.Ok) {t e : Nat} {b1 b2 : Nat} {z : List AV} {ti : TI} {s x : Operand} {c : Call} {xs ys : List AV} {y0 : AV} {m e' sz : Nat} (m' : Nat) (hop : o.op = .call c) (c1 : c.callee = .builtin .append) (c2 : c.args.toList = [s, x]) (c3 : c.argTypes.toList = [t, t])
    (ht : K.T t = some ⟨b1, b2, z, .slice e⟩) (he : K.T e = some ti) (hs : opS K E s = some (.own m)) (hm : getS L m = .arr e' sz xs) (hx : opS K E x = some y0) (hys : sliceOf (getS L) sz y0 = some ys)
    (hz : ∀ zs, y0 = .lst zs → ∀ y ∈ zs, ∃ cs, y.cells = some cs ∧ cs.length = sz) (hc : (Nat.beq e' e && Nat.beq sz ti.sz && Nat.blt 0 sz) = true) (hb : (xs.length + ys.length) * (ti.bytes + 1) ≤ 140737488355328) (hm' : getS L m' = .free) (hd : dstE E N o.dst (.own m') = some E')
    (h : G K C0 ⟨E', N, ds⟩ ((m', .arr e sz (xs ++ ys)) :: (m, .dead) :: L) (wpG F n K.P Q r)) : G K C0 ⟨E, N, ds⟩ L (wpG F n K.P Q ((o, none) :: r)) := by
  simp only [Bool.and_eq_true] at hc
  obtain ⟨⟨d1, d2⟩, d3⟩ := hc
  have d1 := Nat.eq_of_beq_eq_true d1
  have d2 := Nat.eq_of_beq_eq_true d2
  have d3 : 0 < sz := Nat.le_of_ble_eq_true d3
  subst d1; subst d2
  refine G_value (by simp [hop]) hd (fun φ w fb a hS hG hF => ?_) h
  have hsv := opS_VV hs hG hF
  have hxv := opS_VV hx hG hF
  have ho := hS.obj m
  rw [show (Cfg.mk φ (getS L) w fb).S m = _ from hm] at ho
  obtain ⟨us, hown, hr⟩ := ho
  have hown' : w.ownsRow 0 e' ti.sz (φ m) xs.length us := hown
  simp only [VV] at hsv
  have hsv' : a.eval s = φ m := hsv.2.2
  obtain ⟨i, hi, h1, h2, zv, hzv, hzs, hzl, _⟩ := (hK.facts he).info
  have hzsz : zv.cells.size = ti.sz := by
    have := VEs_length (zerosAre_VEs (C := Cfg.v ⟨φ, getS L, w, fb⟩) hzs)
    simp at this; omega
  have hb1 : (xs.length + ys.length) * ti.bytes ≤ 140737488355328 := Nat.le_trans (Nat.mul_le_mul_left _ (Nat.le_succ _)) hb
  have hb2 : xs.length + ys.length ≤ maxLen := by
    have : xs.length + ys.length ≤ (xs.length + ys.length) * (ti.bytes + 1) := Nat.le_mul_of_pos_right _ (Nat.succ_pos _)
    simp only [maxLen]; omega
  obtain ⟨v', w', vs, g1, g2, g3, g4, g5⟩ := run_append_rd (C := Cfg.v ⟨φ, getS L, w, fb⟩) (w := w) rfl (ty := o.type) (slice_facts (hK.facts ht)) hi hzv h1 h2 hzsz d3 hown' (rd_of hS hxv hys hz) hb1 hb2
  have hblk : blk (φ m) = (φ m).ownBlock := blk_own hown'
  obtain ⟨k1, k2⟩ := hS.pass (m := m) (m' := m') (w' := w') (by rw [hm]; rfl) hm' v' (.arr e' ti.sz (xs ++ ys)) rfl (by rw [hblk]; exact g4) (fun b hb => by rw [hblk]; exact g5 b hb) (fun hst => by
    refine ⟨us ++ vs, ?_, VErow.step hst.v.bare (VErow_append hr g3)⟩
    have hφ : (Cfg.mk (upd φ m' v') (getS ((m', .arr e' ti.sz (xs ++ ys)) :: (m, .dead) :: L)) w' fb).φ m' = v' := upd_same _ _ _
    rw [hφ, List.length_append]
    exact g2)
  refine ⟨v', _, _, append_op hop c1 c2 c3 (by rw [hsv']; exact g1), k1, k2, ?_⟩
  simp only [VV]
  refine ⟨?_, ?_, (upd_same _ _ _).symm⟩
  · show (getS ((m', .arr e' ti.sz (xs ++ ys)) :: (m, .dead) :: L) m').known = true
    rw [getS_cons, if_pos rfl]; rfl
  · show ∃ A l c, upd φ m' v' m' = .slice A l c
    rw [upd_same]
    rcases g2.2 with ⟨q, _⟩ | ⟨g, cap, cur, q, _⟩
    · exact ⟨_, _, _, q⟩
    · exact ⟨_, _, _, q⟩
/-- append to nil. -/
theorem G_append_nil [OpenF F] (hK : K.Ok) {t e : Nat} {b1 b2 : Nat} {z : List AV} {ti : TI} {s x : Operand} {c : Call} {ys : List AV} {y0 : AV} (m' : Nat) (hop : o.op = .call c) (c1 : c.callee = .builtin .append) (c2 : c.args.toList = [s, x]) (c3 : c.argTypes.toList = [t, t])
    (ht : K.T t = some ⟨b1, b2, z, .slice e⟩) (he : K.T e = some ti) (hs : opS K E s = some .nils) (hx : opS K E x = some y0) (hys : sliceOf (getS L) ti.sz y0 = some ys)
    (hz : ∀ zs, y0 = .lst zs → ∀ y ∈ zs, ∃ cs, y.cells = some cs ∧ cs.length = ti.sz) (hc : Nat.blt 0 ti.sz = true) (hb : ys.length * (ti.bytes + 1) ≤ 140737488355328) (hm' : getS L m' = .free) (hd : dstE E N o.dst (.own m') = some E')
    (h : G K C0 ⟨E', N, ds⟩ ((m', .arr e ti.sz ys) :: L) (wpG F n K.P Q r)) : G K C0 ⟨E, N, ds⟩ L (wpG F n K.P Q ((o, none) :: r)) := by
  have d3 : 0 < ti.sz := Nat.le_of_ble_eq_true hc
  refine G_value (by simp [hop]) hd (fun φ w fb a hS hG hF => ?_) h
  have hsv := opS_VV hs hG hF
  have hxv := opS_VV hx hG hF
  simp only [VV] at hsv
  have hown' : w.ownsRow 0 e ti.sz (.slice none 0 0) ([] : List AV).length [] := World.ownsRow_nil w 0 e ti.sz
  obtain ⟨i, hi, h1, h2, zv, hzv, hzs, hzl, _⟩ := (hK.facts he).info
  have hzsz : zv.cells.size = ti.sz := by
    have := VEs_length (zerosAre_VEs (C := Cfg.v ⟨φ, getS L, w, fb⟩) hzs)
    simp at this; omega
  have hb1 : (([] : List AV).length + ys.length) * ti.bytes ≤ 140737488355328 := by simpa using Nat.le_trans (Nat.mul_le_mul_left _ (Nat.le_succ _)) hb
  have hb2 : ([] : List AV).length + ys.length ≤ maxLen := by
    have : ys.length ≤ ys.length * (ti.bytes + 1) := Nat.le_mul_of_pos_right _ (Nat.succ_pos _)
    simp only [maxLen, List.length_nil]; omega
  obtain ⟨v', w', vs, g1, g2, g3, g4, g5⟩ := run_append_rd (C := Cfg.v ⟨φ, getS L, w, fb⟩) (w := w) rfl (ty := o.type) (slice_facts (hK.facts ht)) hi hzv h1 h2 hzsz d3 hown' (rd_of hS hxv hys hz) hb1 hb2
  obtain ⟨k1, k2⟩ := hS.new (m := m') (w' := w') hm' v' (.arr e ti.sz ys) rfl g4 (fun b hb => by
    rcases g5 b hb with q | q
    · exact q
    · simp [Value.ownBlock] at q) (fun hst => by
    refine ⟨vs, ?_, VErow.step hst.v.bare g3⟩
    have hφ : (Cfg.mk (upd φ m' v') (getS ((m', .arr e ti.sz ys) :: L)) w' fb).φ m' = v' := upd_same _ _ _
    rw [hφ]
    simpa using g2)
  refine ⟨v', _, _, append_op hop c1 c2 c3 (by rw [hsv]; exact g1), k1, k2, ?_⟩
  simp only [VV]
  refine ⟨?_, ?_, (upd_same _ _ _).symm⟩
  · show (getS ((m', .arr e ti.sz ys) :: L) m').known = true
    rw [getS_cons, if_pos rfl]; rfl
  · show ∃ A l c, upd φ m' v' m' = .slice A l c
    rw [upd_same]
    rcases g2.2 with ⟨q, _⟩ | ⟨g, cap, cur, q, _⟩
    · exact ⟨_, _, _, q⟩
    · exact ⟨_, _, _, q⟩
end
end Go.Asl
/- Functions: their contracts, calls, returns. -/
set_option linter.unusedVariables false
set_option linter.unusedSimpArgs false
namespace Go.Asl
open Go.RowKit

/-- What a call leaves. -/
def RetPost (C0 : Cfg) (R : AV → List (Nat × AObj) → Prop) (e : Ending) (w : World) : Prop :=
  ∃ v x φ L fb, e = .returned v ∧ Stp C0 ⟨φ, getS L, w, fb⟩ ∧ Sim ⟨φ, getS L, w, fb⟩ ∧ VV (Cfg.v ⟨φ, getS L, w, fb⟩) x v ∧ R x L
def Ent (P : Program) (f : Nat) : Prop := ∀ args w, (callFunc f args).run P w = .ok (.enter f args) w
/-- A function's contract at a store. -/
structure FnT (K : Ctx) (f : Nat) (args : List AV) (L : List (Nat × AObj)) (R : AV → List (Nat × AObj) → Prop) : Prop where
  ent : Ent K.P f
  calls : ∀ φ w fb vs, Sim ⟨φ, getS L, w, fb⟩ → GlobR K ⟨φ, getS L, w, fb⟩ → VVs (Cfg.v ⟨φ, getS L, w, fb⟩) args vs → Calls K.P f vs.toArray w (RetPost ⟨φ, getS L, w, fb⟩ R)
theorem calls_mono {P : Program} {f : Nat} {args : Array Value} {w : World} {R R' : Ending → World → Prop} (h : Calls P f args w R) (hr : ∀ e w', R e w' → R' e w') : Calls P f args w R' :=
  fun cs => let ⟨e, w', fr, r, s, x⟩ := h cs; ⟨e, w', fr, hr _ _ r, s, x⟩
theorem FnT.mono {K : Ctx} {f : Nat} {args : List AV} {L : List (Nat × AObj)} {R R' : AV → List (Nat × AObj) → Prop} (h : FnT K f args L R) (hR : ∀ x L', R x L' → R' x L') : FnT K f args L R' :=
  ⟨h.ent, fun φ w fb vs h1 h2 h3 => calls_mono (h.calls φ w fb vs h1 h2 h3) fun e w' ⟨v, x, φ', L', fb', a, b, c, d, e'⟩ => ⟨v, x, φ', L', fb', a, b, c, d, hR _ _ e'⟩⟩

def argsS (K : Ctx) (E : List (Nat × AV)) : List Operand → Option (List AV)
  | [] => some []
  | x :: r => match opS K E x, argsS K E r with
    | some y, some ys => some (y :: ys)
    | _, _ => none

section
variable {K : Ctx} {C0 : Cfg} {E : List (Nat × AV)} {N : Nat} {ds : Nat × Nat} {L L' : List (Nat × AObj)} {F : Fence} {n : Nat} {Q : Exit → Act → World → Prop}
  {o : Oper} {r : List (Oper × Option (Nat × Bool))} {E' : List (Nat × AV)}

theorem argsS_VVs {C : Cfg} {a : Act} (hG : GlobR K C) (hF : FrR C ⟨E, N, ds⟩ a) : ∀ {l : List Operand} {ys : List AV}, argsS K E l = some ys → VVs C.v ys (l.map a.eval)
  | [], ys, h => by simp only [argsS, Option.some.injEq] at h; subst h; rfl
  | x :: l, ys, h => by
    simp only [argsS] at h
    split at h
    · rename_i y ys' h1 h2
      simp only [Option.some.injEq] at h; subst h
      exact ⟨_, _, rfl, opS_VV h1 hG hF, argsS_VVs hG hF h2⟩
    · cases h
theorem VVs_append {C : VC} : ∀ {as bs : List AV} {us vs : List Value}, VVs C as us → VVs C bs vs → VVs C (as ++ bs) (us ++ vs)
  | [], bs, us, vs, h, h2 => by simp only [VVs] at h; subst h; simpa using h2
  | a :: as, bs, us, vs, h, h2 => by
    simp only [VVs] at h
    obtain ⟨v, r, rfl, h3, h4⟩ := h
    exact ⟨v, r ++ vs, rfl, h3, VVs_append h4 h2⟩

/-- A call of a function value. -/
theorem G_call [OpenF F] {c : Call} {x : Operand} {f : Nat} {first caps as : List AV} (hop : o.op = .call c) (hc : c.callee = .value x) (hx : opS K E x = some (.fn f first caps)) (has : argsS K E c.args.toList = some as)
    (hf : FnT K f (first ++ (as ++ caps)) L (fun v L' => ∃ E', dstE E N o.dst v = some E' ∧ G K C0 ⟨E', N, ds⟩ L' (wpG F n K.P Q r))) : G K C0 ⟨E, N, ds⟩ L (wpG F n K.P Q ((o, none) :: r)) := fun φ w fb a h1 h2 h3 h4 => by
  have hxv := opS_VV hx h3 h4
  simp only [VV] at hxv
  obtain ⟨us, vs, hxe, hus, hvs⟩ := hxv
  have hav := argsS_VVs h3 h4 has
  have hall := VVs_append hus (VVs_append hav hvs)
  refine ⟨fun f _ => OpenF.fn f, ?_⟩
  rw [Oper.semAt_eq _ _ _ (by simp [hop])]
  have e1 : (us ++ (c.args.toList.map a.eval ++ vs)).toArray = us.toArray ++ c.args.map a.eval ++ vs.toArray := by
    apply Array.ext'; simp
  have hrun : (execOp a.eval o).run K.P w = .ok (.enter f (us ++ (c.args.toList.map a.eval ++ vs)).toArray) w := by
    rw [e1]
    have he := hf.ent (us.toArray ++ c.args.map a.eval ++ vs.toArray) w
    simp only [execOp, hop, resolve, hc, hxe, Deferred.ofValue, Sem.run_bind, Sem.run_pure, Result.andThen_ok, invoke]
    exact he
  rw [hrun]
  refine ⟨(fun hdep => by rw [OpenF.depth (F := F)] at hdep; cases hdep), callsIn_open (calls_mono (hf.calls φ w fb _ h2 h3 hall) ?_)⟩
  rintro e w' ⟨v, y, φ', L', fb', rfl, hs, hS, hv, E', hd, hR⟩
  exact hR φ' w' fb' _ (h1.trans hs) hS (h3.step hs) (put_E hd (h4.step hs) hv)

/-! ### Returns -/
def LvX (F : Fence) (n : Nat) (P : Program) (fn : Func) (R : Ending → World → Prop) (a : Act) (w : World) : Prop := LeavesInM F n P fn a.tmps R a.defers .returning w
theorem G_leave {fn : Func} {R : Ending → World → Prop} (h : G K C0 ⟨E, N, ds⟩ L (LvX F n K.P fn R)) : G K C0 ⟨E, N, ds⟩ L (bodyPostM F n K.P fn R .ret) := h
theorem G_leave_end {fn : Func} {R : Ending → World → Prop} (h : G K C0 ⟨E, N, ds⟩ L (LvX F n K.P fn R)) : G K C0 ⟨E, N, ds⟩ L (bodyPostM F n K.P fn R .normal) := h

/-- A mark of a range over a function is taken up. -/
theorem G_mark1 {fn : Func} {R : Ending → World → Prop} {m : Nat} (h : G K C0 ⟨E, N, (C0.w.heap.size, m)⟩ L (LvX F n K.P fn R)) : G K C0 ⟨E, N, (C0.w.heap.size, m + 1)⟩ L (LvX F n K.P fn R) := fun φ w fb a h1 h2 h3 h4 => by
  obtain ⟨b, r, e1, e2, e3, e4, e5, e6, e7⟩ := h4.ds
  have ht := run_takeDeferred (P := K.P) (w := w) e5
  have hoth : ∀ k, k ≠ b → (w.putObj b (.deferred none)).heap[k]? = w.heap[k]? := fun k hk => World.putObj_heap_other hk
  have hr : ∀ {k}, Cfg.rest ⟨φ, getS L, w, fb⟩ k → Cfg.rest ⟨φ, getS L, w.putObj b (.deferred none), fb⟩ k := fun {k} hk => ⟨by have := hk.1; simpa using this, hk.2⟩
  have k0 : Stp C0 ⟨φ, getS L, w.putObj b (.deferred none), fb⟩ := by
    refine ⟨h1.kn, fun k hk => ?_, h1.fb, h1.fb', h1.os, h1.tape, h1.output, by have := h1.size; simpa using this⟩
    have hne : k ≠ b := fun e => by have := hk.1; subst e; simp only at e2; omega
    exact ⟨hr (h1.rest k hk).1, (hoth k hne).trans (h1.rest k hk).2⟩
  have kv : VStp (Cfg.v ⟨φ, getS L, w, fb⟩) (Cfg.v ⟨φ, getS L, w.putObj b (.deferred none), fb⟩) := by
    refine ⟨fun _ h => ⟨h, rfl⟩, fun k hk => ⟨⟨hr hk.1, hk.2⟩, hoth k fun e => ?_⟩⟩
    subst e; exact hk.2 e4
  have ho : ∀ k, ObjR ⟨φ, getS L, w.putObj b (.deferred none), fb⟩ k (getS L k) := fun k => by
    by_cases hl : (getS L k).live = true
    · exact (h2.obj k).keep' kv (fun _ h => ⟨h, rfl⟩) hl (live_known hl) (fun c hc => hoth c fun e => by subst e; exact e3.2 k hl hc)
    · show ObjR _ k (getS L k)
      cases hn : getS L k <;> first | trivial | (rw [hn] at hl; simp [AObj.live] at hl)
  have hS : Sim ⟨φ, getS L, w.putObj b (.deferred none), fb⟩ := ⟨ho, h2.fbl, fun c hc => by have := h2.fbs c hc; simpa using this, h2.disj⟩
  have hD : ∀ {m : Nat} {ds : List Deferred}, (∀ d ∈ ds, d.target ≠ .collected b) → DsR ⟨φ, getS L, w, fb⟩ C0.w.heap.size m ds → DsR ⟨φ, getS L, w.putObj b (.deferred none), fb⟩ C0.w.heap.size m ds := by
    intro m
    induction m with
    | zero => intro ds _ h; exact h
    | succ m ih =>
      rintro ds hne ⟨c, q, g1, g2, g3, g4, g5, g6, g7⟩
      subst g1
      exact ⟨c, q, rfl, g2, hr g3, g4, (hoth c fun e => hne _ (List.mem_cons_self ..) (by rw [e])).trans g5, g6, ih (fun d hd => hne d (List.mem_cons_of_mem _ hd)) g7⟩
  have := h φ _ fb { a with defers := r } k0 hS (fun g x hg => by
    obtain ⟨us, g1, g2⟩ := h3 g x hg
    exact ⟨us, VE.step kv.bare g1, g2.step kv.bare⟩) ⟨h4.size, fun t => VV.step kv (h4.val t), hD e6 e7⟩
  unfold LvX
  rw [e1]
  exact ⟨by simp, .inl ⟨b, _, rfl, ht, this⟩⟩
/-- .. all of them. -/
theorem G_marks {fn : Func} {R : Ending → World → Prop} {lo m : Nat} (hlo : lo = C0.w.heap.size) (h : G K C0 ⟨E, N, (lo, 0)⟩ L (LvX F n K.P fn R)) : G K C0 ⟨E, N, (lo, m)⟩ L (LvX F n K.P fn R) := by
  subst hlo
  induction m with
  | zero => exact h
  | succ m ih => exact G_mark1 ih

/-- The results. -/
def resS (K : Ctx) (E : List (Nat × AV)) (L : List (Nat × AObj)) : List ResultVar → Option (List AV)
  | [] => some []
  | .tmp t :: r => match force (getE E t), resS K E L r with
    | some v, some vs => some (v :: vs)
    | _, _ => none
  | .cell t ty :: r => match K.T ty, resS K E L r with
    | some ti, some vs => match loadP ti (getS L) (getE E t) with
      | some v => match force v with
        | some v' => some (v' :: vs)
        | none => none
      | none => none
    | _, _ => none
def resV : List AV → AV
  | [v] => v
  | vs => .tup vs
/-- One result. -/
def resOf (tmps : Array Value) : ResultVar → Sem Value
  | .tmp t => pure (tmps.getD t undef)
  | .cell a t => do loadVar t (← asAddr (tmps.getD a undef))
theorem results_eq (fn : Func) (tmps : Array Value) : results fn tmps = (fn.results.mapM (resOf tmps) >>= fun vs => pure (if h : vs.size = 1 then vs[0] else .tuple vs)) := by
  rfl
theorem asAddr_of {P : Program} {t : Nat} {u z : Value} {w : World} (h : (Instr.loadAt t u).run P w = .ok z w) : (do loadVar t (← asAddr u) : Sem Value).run P w = .ok z w := by
  cases u with
  | pointer p =>
    cases p with
    | none => simp [Instr.loadAt, Instr.sureAddr] at h
    | some ad => simpa [Instr.loadAt, Instr.sureAddr, asAddr] using h
  | _ => simp [Instr.loadAt, Instr.sureAddr] at h
theorem resS_run {C : Cfg} {a : Act} (hK : K.Ok) (hS : Sim C) (hSL : C.S = getS L) (hF : FrR C ⟨E, N, ds⟩ a) : ∀ {l : List ResultVar} {vs : List AV}, resS K E L l = some vs →
    ∃ us, (l.mapM (resOf a.tmps) : Sem (List Value)).run K.P C.w = .ok us C.w ∧ VVs C.v vs us
  | [], vs, h => by simp only [resS, Option.some.injEq] at h; subst h; exact ⟨[], by simp, rfl⟩
  | .tmp t :: l, vs, h => by
    simp only [resS] at h
    split at h
    · rename_i v vs' h1 h2
      simp only [Option.some.injEq] at h; subst h
      obtain ⟨us, g1, g2⟩ := resS_run hK hS hSL hF h2
      have hv := hF.val t
      rw [← force_eq h1] at hv
      refine ⟨a.tmps.getD t undef :: us, ?_, _, _, rfl, hv, g2⟩
      simp only [List.mapM_cons, Sem.run_bind, Sem.run_pure, Result.andThen_ok, resOf]
      rw [g1]; rfl
    · cases h
  | .cell t ty :: l, vs, h => by
    simp only [resS] at h
    split at h
    · rename_i ti vs' h1 h2
      split at h
      · rename_i v h3
        split at h
        · rename_i v' h4
          simp only [Option.some.injEq] at h; subst h
          have := force_eq h4
          subst this
          obtain ⟨us, g1, g2⟩ := resS_run hK hS hSL hF h2
          rw [← hSL] at h3
          obtain ⟨z, hz, hv⟩ := loadP_ok hS (hK.facts h1) h3 (hF.val t)
          refine ⟨z :: us, ?_, _, _, rfl, hv, g2⟩
          simp only [List.mapM_cons, Sem.run_bind]
          have : (resOf a.tmps (.cell t ty)).run K.P C.w = .ok z C.w := asAddr_of hz
          rw [this]
          simp only [Result.andThen_ok, Sem.run_pure]
          rw [g1]; rfl
        · cases h
      · cases h
    · cases h

theorem G_return (hK : K.Ok) {fn : Func} {R : AV → List (Nat × AObj) → Prop} {vs : List AV} (hr : resS K E L fn.results.toList = some vs) (h : R (resV vs) L) {lo : Nat} : G K C0 ⟨E, N, (lo, 0)⟩ L (LvX F n K.P fn (RetPost C0 R)) := fun φ w fb a h1 h2 h3 h4 => by
  have hds : a.defers = [] := h4.ds
  obtain ⟨us, g1, g2⟩ := resS_run (C := ⟨φ, getS L, w, fb⟩) hK h2 rfl h4 hr
  unfold LvX
  rw [hds]
  have hres : (results fn a.tmps).run K.P w = .ok (if h : us.toArray.size = 1 then us.toArray[0] else .tuple us.toArray) w := by
    have hm : (fn.results.mapM (resOf a.tmps) : Sem (Array Value)).run K.P w = .ok us.toArray w := by
      have g1' := g1
      rw [← Array.toList_mapM, Sem.run_map] at g1'
      revert g1'
      generalize (fn.results.mapM _ : Sem (Array Value)).run K.P w = res
      intro g1'
      cases res with
      | ok q w' =>
        simp only [Result.andThen_ok, Result.ok.injEq] at g1'
        obtain ⟨e1, e2⟩ := g1'
        subst e2
        rw [← e1]
      | halt hh w' => simp at g1'
    rw [results_eq, Sem.run_bind, hm]
    rfl
  refine ⟨_, hres, _, resV vs, φ, L, fb, rfl, h1, h2, ?_, h⟩
  cases vs with
  | nil => simp only [VVs] at g2; subst g2; simp [resV, VV, VVs]
  | cons v vs =>
    simp only [VVs] at g2
    obtain ⟨u, us', rfl, hv, g3⟩ := g2
    cases vs with
    | nil => simp only [VVs] at g3; subst g3; simpa [resV] using hv
    | cons v2 vs =>
      simp only [VVs] at g3
      obtain ⟨u2, us2, rfl, hv2, g4⟩ := g3
      simp only [resV, VV]
      refine ⟨u :: u2 :: us2, by simp, ?_⟩
      exact ⟨u, _, rfl, hv, u2, us2, rfl, hv2, g4⟩

/-- The first slots. -/
def slots : List AV → Nat → List (Nat × AV)
  | [], _ => []
  | a :: r, k => (k, a) :: slots r (k + 1)
theorem getE_slots {C : VC} : ∀ {as : List AV} {vs : List Value} (k t : Nat), VVs C as vs → VV C (getE (slots as k) t) (if k ≤ t then vs.getD (t - k) undef else undef)
  | [], vs, k, t, h => by simp [slots, getE, VV]
  | a :: as, vs, k, t, h => by
    simp only [VVs] at h
    obtain ⟨v, r, rfl, h1, h2⟩ := h
    simp only [slots]
    rw [getE_cons]
    by_cases hk : t = k
    · subst hk; simpa using h1
    · rw [if_neg hk]
      have := getE_slots (k + 1) t h2
      by_cases hle : k + 1 ≤ t
      · rw [if_pos hle] at this
        rw [if_pos (by omega)]
        have : t - k = (t - (k + 1)) + 1 := by omega
        rw [this]; simpa
      · rw [if_neg hle] at this
        have hlt : ¬ k ≤ t := by omega
        rw [if_neg hlt]; exact this

theorem FnT_of_body {f : Nat} {fn : Func} {c : Code} {args : List AV} {N : Nat} {R : AV → List (Nat × AObj) → Prop} (hent : Ent K.P f) (hf : K.P.funcs[f]? = some fn) (hb : fn.body = some c) (hN : fn.ntmps = N) (hle : Nat.ble args.length N = true)
    (h : ∀ C0, C0.S = getS L → G K C0 ⟨slots args 0, N, (C0.w.heap.size, 0)⟩ L (c.wpIn Fence.wide 0 K.P (bodyPostM Fence.wide 0 K.P fn (RetPost C0 R)))) : FnT K f args L R := by
  refine ⟨hent, fun φ w fb vs h1 h2 h3 => ?_⟩
  have hle := Nat.le_of_ble_eq_true hle
  refine calls_of_in (F := Fence.wide) (n := 0) (callsIn_of_wp_marks hf hb trivial ?_)
  have hl := (VVs_iff.1 h3).1
  refine h ⟨φ, getS L, w, fb⟩ rfl φ w fb _ (Stp.refl _) h1 h2 ⟨by simp [hN]; omega, fun t => ?_, rfl⟩
  have := getE_slots 0 t h3
  simp only [Nat.zero_le, if_true, Nat.sub_zero] at this
  have e : (vs.toArray ++ Array.replicate (fn.ntmps - vs.toArray.size) undef).getD t undef = vs.getD t undef := by
    rw [Array.getD_eq_getD_getElem?, List.getD_eq_getElem?_getD, Array.getElem?_append]
    by_cases ht : t < vs.length
    · simp [ht]
    · simp only [List.size_toArray, ht, if_false, List.getElem?_eq_none (Nat.le_of_not_lt ht), Option.getD_none]
      rw [Array.getElem?_replicate]
      split <;> rfl
  rw [e]
  exact this
end
end Go.Asl
/- A context out of a table of types. -/
set_option linter.unusedVariables false
namespace Go.Asl
def getT : List (Nat × TI) → Nat → Option TI
  | [], _ => none
  | (k, a) :: r, t => match Nat.beq t k with
    | true => some a
    | false => getT r t
theorem getT_ok {P : Program} : ∀ {tbl : List (Nat × TI)}, (tbl.all fun x => checkT P x.1 x.2) = true → ∀ t ti, getT tbl t = some ti → checkT P t ti = true
  | [], _, t, ti, h => by simp [getT] at h
  | (k, a) :: r, hc, t, ti, h => by
    simp only [List.all_cons, Bool.and_eq_true] at hc
    simp only [getT] at h
    split at h
    · rename_i hb
      simp only [Option.some.injEq] at h
      rw [Nat.eq_of_beq_eq_true hb, ← h]
      exact hc.1
    · exact getT_ok hc.2 t ti h
def mkCtx (P : Program) (tbl : List (Nat × TI)) (gl : Nat → Option AV) : Ctx := ⟨P, getT tbl, gl⟩
theorem mkCtx_ok {P : Program} {tbl : List (Nat × TI)} {gl : Nat → Option AV} (h : (tbl.all fun x => checkT P x.1 x.2) = true) : (mkCtx P tbl gl).Ok := ⟨getT_ok h⟩
theorem Ent_of {P : Program} {f : Nat} {fn : Func} {c : Code} (hf : P.funcs[f]? = some fn) (hn : (fn.name == "runtime.NumGoroutine") = false) (hb : fn.body = some c) : Ent P f := by
  intro args w
  have h1 : fn.name ≠ "runtime.NumGoroutine" := by simpa using hn
  simp [callFunc, hf, h1, hb, mark]
end Go.Asl
/- Contracts of pure data: proved in the empty store, used in every store. -/
set_option linter.unusedVariables false
namespace Go.Asl
open Go.RowKit

/-- A function of pure data: args in, r out. -/
def FnP (K : Ctx) (f : Nat) (args : List AV) (r : AV) : Prop := FnT K f args [] (fun v _ => v = r)

theorem sim_empty {φ : Nat → Value} {L : List (Nat × AObj)} {w : World} {fb : Nat → Prop} (h : Sim ⟨φ, getS L, w, fb⟩) :
    Sim ⟨φ, getS [], w, fun b => fb b ∨ ∃ n, (getS L n).live = true ∧ blk (φ n) = some b⟩ := by
  refine ⟨fun n => trivial, fun n b hl => ?_, fun b hb => ?_, fun n m b _ hl => ?_⟩
  · simp [getS, AObj.live] at hl
  · rcases hb with hb | ⟨n, h1, h2⟩
    · exact h.fbs b hb
    · exact h.lt h1 h2
  · simp [getS, AObj.live] at hl
theorem bare_empty {φ φ' : Nat → Value} {L : List (Nat × AObj)} {w : World} {fb : Nat → Prop} :
    VStp (Cfg.v ⟨φ, getS L, w, fb⟩).bare (Cfg.v ⟨φ', getS [], w, fun b => fb b ∨ ∃ n, (getS L n).live = true ∧ blk (φ n) = some b⟩) :=
  ⟨fun _ h => h.elim, fun b hb => ⟨⟨⟨hb.1.1, fun n hl => by simp [getS, AObj.live] at hl⟩, fun h => by
    rcases h with h | ⟨n, h1, h2⟩
    · exact hb.2 h
    · exact hb.1.2 n h1 h2⟩, rfl⟩⟩
theorem bare_empty' {φ φ' : Nat → Value} {L : List (Nat × AObj)} {w : World} {fb : Nat → Prop} :
    VStp (Cfg.v ⟨φ, getS L, w, fb⟩).bare (Cfg.v ⟨φ', getS [], w, fun b => fb b ∨ ∃ n, (getS L n).live = true ∧ blk (φ n) = some b⟩).bare :=
  ⟨fun _ h => h.elim, bare_empty.st⟩
/-- What a pure call leaves of the caller's store. -/
theorem back_from_empty {φ φ' : Nat → Value} {L L' : List (Nat × AObj)} {w w' : World} {fb fb' : Nat → Prop} (h : Sim ⟨φ, getS L, w, fb⟩)
    (hs : Stp ⟨φ, getS [], w, fun b => fb b ∨ ∃ n, (getS L n).live = true ∧ blk (φ n) = some b⟩ ⟨φ', getS L', w', fb'⟩) (hS : Sim ⟨φ', getS L', w', fb'⟩) :
    Stp ⟨φ, getS L, w, fb⟩ ⟨φ, getS L, w', fb⟩ ∧ Sim ⟨φ, getS L, w', fb⟩ ∧ VStp (Cfg.v ⟨φ', getS L', w', fb'⟩).bare (Cfg.v ⟨φ, getS L, w', fb⟩).bare := by
  have hrest : ∀ b, b < w.heap.size → Cfg.rest ⟨φ, getS [], w, fun b => fb b ∨ ∃ n, (getS L n).live = true ∧ blk (φ n) = some b⟩ b := fun b hb => ⟨hb, fun n hl => by simp [getS, AObj.live] at hl⟩
  have hsame : ∀ b, b < w.heap.size → w'.heap[b]? = w.heap[b]? := fun b hb => (hs.rest b (hrest b hb)).2
  have hsz : w.heap.size ≤ w'.heap.size := hs.size
  have hst : Stp ⟨φ, getS L, w, fb⟩ ⟨φ, getS L, w', fb⟩ := ⟨fun n hn => ⟨hn, rfl⟩, fun b hb => ⟨⟨Nat.lt_of_lt_of_le hb.1 hsz, hb.2⟩, hsame b hb.1⟩, fun _ h => h, fun _ _ h => h, hs.os, hs.tape, hs.output, hsz⟩
  refine ⟨hst, ⟨fun n => ?_, h.fbl, fun b hb => Nat.lt_of_lt_of_le (h.fbs b hb) hsz, h.disj⟩, ⟨fun _ h => h.elim, fun b hb => ⟨⟨⟨hb.1.1, fun n hl e => ?_⟩, fun hf => ?_⟩, rfl⟩⟩⟩
  · by_cases hl : (getS L n).live = true
    · exact (h.obj n).keep hst hl (live_known hl) (fun b hb => hsame b (h.lt hl hb))
    · show ObjR _ n (getS L n)
      cases hn : getS L n <;> first | trivial | (rw [hn] at hl; simp [AObj.live] at hl)
  · have : fb' b := hs.fb _ (.inr ⟨n, hl, e⟩)
    exact hb.2 this
  · have : fb' b := hs.fb _ (.inl hf)
    exact hb.2 this

theorem FnP.at {K : Ctx} {f : Nat} {args : List AV} {r : AV} (h : FnP K f args r) (ha : bareL args = true) (hr : bareB r = true) (L : List (Nat × AObj)) : FnT K f args L (fun v L' => v = r ∧ L' = L) := by
  refine ⟨h.ent, fun φ w fb vs h1 h2 h3 => ?_⟩
  have hG : GlobR K ⟨φ, getS [], w, fun b => fb b ∨ ∃ n, (getS L n).live = true ∧ blk (φ n) = some b⟩ := fun g x hg => by
    obtain ⟨us, g1, g2⟩ := h2 g x hg
    exact ⟨us, VE.step bare_empty' g1, g2.step bare_empty'⟩
  have hb := VVs_bare ha h3
  have hv0 := VVs.step (bare_empty (φ' := φ) (fb := fb)) hb
  refine calls_mono (h.calls φ w _ vs (sim_empty h1) hG hv0) ?_
  rintro e w' ⟨v, x, φ', L', fb', rfl, hs, hS, hv, rfl⟩
  obtain ⟨k1, k2, k3⟩ := back_from_empty h1 hs hS
  exact ⟨v, x, φ, L, fb, rfl, k1, k2, VV.step (VStp.of_bare _) (VV.step k3 (VV_bare hr hv)), rfl, rfl⟩
/-- As a call meets it. -/
theorem FnP.use {K : Ctx} {f : Nat} {args : List AV} {r : AV} {L : List (Nat × AObj)} {R : AV → List (Nat × AObj) → Prop} (h : FnP K f args r) (ha : bareL args = true) (hr : bareB r = true) (hR : R r L) : FnT K f args L R :=
  (h.at ha hr L).mono fun x L' ⟨h1, h2⟩ => by rw [h1, h2]; exact hR
end Go.Asl
/- Regions that draw their order: the operations' local effects, and why any order comes to the same. -/
set_option linter.unusedVariables false
set_option linter.unusedSimpArgs false
namespace Go.Asl
open Go.RowKit

section
variable {F : Fence} {n : Nat} {P : Program} {Q : Exit → Act → World → Prop} {ops : Array Oper}

/-- The region's operations in an order. -/
def sel (gs : List (Oper × Option (Nat × Bool))) (l : List Nat) : List (Oper × Option (Nat × Bool)) := l.filterMap (gs[·]?)

theorem withGuards_get : ∀ {l : List Oper} {gs : List (Oper × Option (Nat × Bool))}, withGuards ops l = some gs → gs.length = l.length ∧ ∀ (i : Nat) (o : Oper), l[i]? = some o → ∃ g, gd ops o = some g ∧ gs[i]? = some (o, g)
  | [], gs, h => by simp only [withGuards, Option.some.injEq] at h; subst h; simp
  | o :: r, gs, h => by
    simp only [withGuards] at h
    split at h
    · rename_i g gs' h1 h2
      simp only [Option.some.injEq] at h
      subst h
      obtain ⟨hl, hg⟩ := withGuards_get h2
      refine ⟨by simp [hl], fun i o' hi => ?_⟩
      cases i with
      | zero => simp only [List.getElem?_cons_zero, Option.some.injEq] at hi; subst hi; exact ⟨g, h1, rfl⟩
      | succ i => simp only [List.getElem?_cons_succ] at hi ⊢; exact hg i o' hi
    · cases h

theorem sel_sound [OpenF F] {gs : List (Oper × Option (Nat × Bool))} (hg : withGuards ops ops.toList = some gs) : ∀ (l : List Nat) (a : Act) (w : World), wpG F n P Q (sel gs l) a w → wpOpsIn F n P ops Q l a w := by
  obtain ⟨hlen, hget⟩ := withGuards_get hg
  intro l
  induction l with
  | nil => intro a w h; exact h
  | cons i l ih =>
    intro a w h
    cases ho : ops[i]? with
    | none =>
      have : gs[i]? = none := by
        rw [List.getElem?_eq_none_iff, hlen]
        simpa using ho
      simp only [sel, List.filterMap_cons, this] at h
      simp only [wpOpsIn, ho]
      exact ih a w h
    | some o =>
      obtain ⟨g, h1, h2⟩ := hget i o (by simpa using ho)
      simp only [sel, List.filterMap_cons, h2] at h
      simp only [wpOpsIn, ho]
      have next : ∀ a w, wpG F n P Q (l.filterMap (gs[·]?)) a w → wpOpsIn F n P ops Q l a w := ih
      have up : o.wpIn F n P a w (wpG F n P Q (l.filterMap (gs[·]?))) Q → o.wpIn F n P a w (wpOpsIn F n P ops Q l) Q := fun h => by
        refine ⟨h.1, ?_⟩
        have h2 := h.2
        revert h2
        generalize (o.semAt F.round a.eval).run P w = res
        intro h2
        cases res with
        | halt hh w' => cases hh <;> first | exact h2 | simpa [Oper.uponIn] using h2
        | ok nx w' =>
          cases nx <;> simp only [Oper.uponIn] at h2 ⊢ <;> first | exact next _ _ h2 | exact h2 | skip
          · refine ⟨h2.1, h2.2.mono fun e w'' hr => ?_⟩
            cases e <;> first | exact next _ _ hr | exact hr
          · refine ⟨h2.1, h2.2.mono fun e w'' hr => ?_⟩
            cases e <;> first | exact next _ _ hr | exact hr
          · exact ⟨h2.1, h2.2.mono fun v w'' hr => next _ _ hr⟩
      unfold gd at h1
      cases hgu : o.guard with
      | none =>
        rw [hgu] at h1
        simp only [Option.some.injEq] at h1
        subst h1
        have hw : Region.wanted o (yielded ops a.tmps) = true := by simp [Region.wanted, hgu]
        rw [if_pos hw]
        exact up h
      | some jb =>
        obtain ⟨j, b⟩ := jb
        rw [hgu] at h1
        dsimp only at h1
        cases hj : (ops[j]?).bind (·.dst) with
        | none => rw [hj] at h1; cases h1
        | some t =>
          rw [hj] at h1
          simp only [Option.some.injEq] at h1
          subst h1
          obtain ⟨c, hc, h⟩ := h
          rcases h with ⟨e, h⟩ | ⟨e, h⟩
          · have hw : Region.wanted o (yielded ops a.tmps) = true := by simp [Region.wanted, hgu, yielded, hj, hc, e]
            rw [if_pos hw]
            exact up h
          · have hw : Region.wanted o (yielded ops a.tmps) = false := by
              cases c <;> simp_all [Region.wanted, yielded]
            rw [hw]
            exact ⟨fun f _ => OpenF.fn f, next _ _ h⟩
end

/-! ### The last writer -/
def lastW {β : Type} (S : Nat → Bool) : Nat → List (Option β) → β → β
  | _, [], acc => acc
  | i, none :: r, acc => lastW S (i + 1) r acc
  | i, some v :: r, acc => lastW S (i + 1) r (if S i = true then v else acc)
theorem lastW_congr {β : Type} {S S' : Nat → Bool} : ∀ {l : List (Option β)} {i : Nat} {acc : β}, (∀ k v, l[k]? = some (some v) → S (i + k) = S' (i + k)) → lastW S i l acc = lastW S' i l acc
  | [], _, _, _ => rfl
  | none :: r, i, acc, h => lastW_congr (l := r) fun k v hk => by
      have := h (k + 1) v (by simpa using hk)
      rwa [show i + (k + 1) = i + 1 + k from by omega] at this
  | some v :: r, i, acc, h => by
    simp only [lastW]
    have h0 := h 0 v (by simp)
    simp only [Nat.add_zero] at h0
    rw [h0]
    exact lastW_congr (l := r) fun k v hk => by
      have := h (k + 1) v (by simpa using hk)
      rwa [show i + (k + 1) = i + 1 + k from by omega] at this
theorem lastW_skip {β : Type} {S : Nat → Bool} : ∀ {l : List (Option β)} {i : Nat} {acc : β}, (∀ k v, l[k]? = some (some v) → S (i + k) = false) → lastW S i l acc = acc
  | [], _, _, _ => rfl
  | none :: r, i, acc, h => lastW_skip (l := r) fun k v hk => by
      have := h (k + 1) v (by simpa using hk)
      rwa [show i + (k + 1) = i + 1 + k from by omega] at this
  | some v :: r, i, acc, h => by
    simp only [lastW]
    have h0 := h 0 v (by simp)
    simp only [Nat.add_zero] at h0
    rw [h0]
    exact lastW_skip (l := r) fun k v hk => by
      have := h (k + 1) v (by simpa using hk)
      rwa [show i + (k + 1) = i + 1 + k from by omega] at this
theorem lastW_last {β : Type} {S : Nat → Bool} {v : β} : ∀ {l : List (Option β)} {i j : Nat} {acc : β}, l[j]? = some (some v) → S (i + j) = true → (∀ k u, j < k → l[k]? = some (some u) → S (i + k) = false) → lastW S i l acc = v
  | [], _, _, _, h, _, _ => by simp at h
  | x :: r, i, 0, acc, h, h1, h2 => by
    simp only [List.getElem?_cons_zero, Option.some.injEq] at h
    subst h
    simp only [Nat.add_zero] at h1
    simp only [lastW, h1, if_true]
    exact lastW_skip fun k u hk => by
      have := h2 (k + 1) u (by omega) (by simpa using hk)
      rwa [show i + (k + 1) = i + 1 + k from by omega] at this
  | x :: r, i, j + 1, acc, h, h1, h2 => by
    simp only [List.getElem?_cons_succ] at h
    have := fun acc => lastW_last (S := S) (i := i + 1) (acc := acc) h (by rwa [show i + 1 + j = i + (j + 1) from by omega]) (fun k u hk hu => by
      have := h2 (k + 1) u (by omega) (by simpa using hu)
      rwa [show i + (k + 1) = i + 1 + k from by omega] at this)
    cases x <;> exact this _

/-! ### Local effects -/
/-- What an operation reads and writes, at the place where it stands. -/
structure Sp where
  rs : List Nat
  dst : Option Nat
  v : AV
  R : List Nat
  W : List (Nat × AObj)
/-- .. and that it does. -/
def SpOk (K : Ctx) (N : Nat) (x : Oper × Option (Nat × Bool)) (s : Sp) (E : List (Nat × AV)) (L : List (Nat × AObj)) : Prop :=
  ∀ (C0 : Cfg) (ds : Nat × Nat) (F : Fence) [OpenF F] (n : Nat) (Q : Exit → Act → World → Prop) (r : List (Oper × Option (Nat × Bool))) (E' : List (Nat × AV)) (L' : List (Nat × AObj)),
    (∀ t ∈ s.rs, getE E' t = getE E t) → (∀ m ∈ s.R, getS L' m = getS L m) →
    G K C0 ⟨putE E' s.dst s.v, N, ds⟩ (s.W ++ L') (wpG F n K.P Q r) → G K C0 ⟨E', N, ds⟩ L' (wpG F n K.P Q (x :: r))
/-- All, one behind the other. -/
inductive SpsOk (K : Ctx) (N : Nat) : List (Oper × Option (Nat × Bool)) → List Sp → List (Nat × AV) → List (Nat × AObj) → List (Nat × AV) → List (Nat × AObj) → Prop
  | nil {E L} : SpsOk K N [] [] E L E L
  | cons {x s E L gs ss E' L'} : SpOk K N x s E L → SpsOk K N gs ss (putE E s.dst s.v) (s.W ++ L) E' L' → SpsOk K N (x :: gs) (s :: ss) E L E' L'

def Sp.wE (s : Sp) (t : Nat) : Option AV := match s.dst with
  | some d => if t = d then some s.v else none
  | none => none
def lookW : List (Nat × AObj) → Nat → Option AObj
  | [], _ => none
  | (k, a) :: r, t => if t = k then some a else lookW r t
theorem getS_append (W L : List (Nat × AObj)) (t : Nat) : getS (W ++ L) t = (lookW W t).getD (getS L t) := by
  induction W with
  | nil => rfl
  | cons x W ih =>
    obtain ⟨k, a⟩ := x
    rw [List.cons_append, getS_cons, ih, lookW]
    split <;> rfl
theorem getE_put (E : List (Nat × AV)) (s : Sp) (t : Nat) : getE (putE E s.dst s.v) t = (s.wE t).getD (getE E t) := by
  unfold putE Sp.wE
  cases s.dst with
  | none => rfl
  | some d =>
    simp only [getE_cons]
    split <;> rfl

theorem lastW_cons {β : Type} (S : Nat → Bool) (i : Nat) (x : Option β) (r : List (Option β)) (acc : β) : lastW S i (x :: r) acc = lastW S (i + 1) r (if S i = true then x.getD acc else acc) := by
  cases x <;> simp [lastW]

section
variable {K : Ctx} {N : Nat}
/-- Where each stands. -/
theorem SpsOk.at {gs : List (Oper × Option (Nat × Bool))} {ss : List Sp} {E E' : List (Nat × AV)} {L L' : List (Nat × AObj)} (h : SpsOk K N gs ss E L E' L') : ∀ (off : Nat),
    (∀ (S : Nat → Bool), (∀ k, k < ss.length → S (off + k) = true) → (∀ t, getE E' t = lastW S off (ss.map (·.wE t)) (getE E t)) ∧ ∀ m, getS L' m = lastW S off (ss.map fun s => lookW s.W m) (getS L m)) ∧
    ∀ (j : Nat) x s, gs[j]? = some x → ss[j]? = some s → ∃ Ej Lj, SpOk K N x s Ej Lj ∧
      ∀ (S : Nat → Bool), (∀ k, k < ss.length → S (off + k) = decide (k < j)) → (∀ t, getE Ej t = lastW S off (ss.map (·.wE t)) (getE E t)) ∧ ∀ m, getS Lj m = lastW S off (ss.map fun s => lookW s.W m) (getS L m) := by
  induction h with
  | nil => intro off; exact ⟨fun S _ => ⟨fun _ => rfl, fun _ => rfl⟩, fun j x s h => by simp at h⟩
  | @cons x s E L gs ss E' L' h1 h2 ih =>
    intro off
    obtain ⟨ih1, ih2⟩ := ih (off + 1)
    refine ⟨fun S hS => ?_, fun j x' s' hx hs => ?_⟩
    · have h0 : S off = true := by have := hS 0 (by simp); simpa using this
      obtain ⟨i1, i2⟩ := ih1 S fun k hk => by have := hS (k + 1) (by simpa using hk); rwa [show off + (k + 1) = off + 1 + k from by omega] at this
      refine ⟨fun t => ?_, fun m => ?_⟩
      · rw [i1 t, List.map_cons, lastW_cons, h0, if_pos rfl, getE_put]
      · rw [i2 m, List.map_cons, lastW_cons, h0, if_pos rfl, getS_append]
    · cases j with
      | zero =>
        simp only [List.getElem?_cons_zero, Option.some.injEq] at hx hs
        subst hx; subst hs
        refine ⟨E, L, h1, fun S hS => ⟨fun t => ?_, fun m => ?_⟩⟩
        · rw [lastW_skip]
          intro k v hk
          have : k < ((s :: ss).map (·.wE t)).length := (List.getElem?_eq_some_iff.1 hk).1
          simpa using hS k (by simpa using this)
        · rw [lastW_skip]
          intro k v hk
          have : k < ((s :: ss).map fun s => lookW s.W m).length := (List.getElem?_eq_some_iff.1 hk).1
          simpa using hS k (by simpa using this)
      | succ j =>
        simp only [List.getElem?_cons_succ] at hx hs
        obtain ⟨Ej, Lj, k1, k2⟩ := ih2 j x' s' hx hs
        refine ⟨Ej, Lj, k1, fun S hS => ?_⟩
        have h0 : S off = true := by have := hS 0 (by simp); simpa using this
        obtain ⟨i1, i2⟩ := k2 S fun k hk => by
          have := hS (k + 1) (by simpa using hk)
          rw [show off + (k + 1) = off + 1 + k from by omega] at this
          rw [this]; simp
        refine ⟨fun t => ?_, fun m => ?_⟩
        · rw [i1 t, List.map_cons, lastW_cons, h0, if_pos rfl, getE_put]
        · rw [i2 m, List.map_cons, lastW_cons, h0, if_pos rfl, getS_append]
end

/-! ### The check -/
/-- What an operation touches: slots read, the slot written, names read, names written. -/
structure Sk where
  rs : List Nat
  dst : Option Nat
  R : List Nat
  W : List Nat
def Sp.sk (s : Sp) : Sk := ⟨s.rs, s.dst, s.R, s.W.map (·.1)⟩
def hasN : List Nat → Nat → Bool
  | [], _ => false
  | x :: r, t => match Nat.beq t x with
    | true => true
    | false => hasN r t
theorem hasN_iff {l : List Nat} {t : Nat} : hasN l t = true ↔ t ∈ l := by
  induction l with
  | nil => simp [hasN]
  | cons x r ih =>
    simp only [hasN, List.mem_cons]
    by_cases h : t = x
    · subst h; simp
    · have : Nat.beq t x = false := by rw [← Bool.not_eq_true]; intro e; exact h (Nat.eq_of_beq_eq_true e)
      rw [this]; simp [ih, h]
def anyN (l m : List Nat) : Bool := match l with
  | [] => false
  | x :: r => hasN m x || anyN r m
theorem anyN_false {l m : List Nat} (h : anyN l m = false) : ∀ t, t ∈ l → t ∉ m := by
  induction l with
  | nil => simp
  | cons x r ih =>
    simp only [anyN, Bool.or_eq_false_iff] at h
    intro t ht hm
    rcases List.mem_cons.1 ht with e | ht
    · subst e; rw [hasN_iff.2 hm] at h; exact absurd h.1 (by simp)
    · exact ih h.2 t ht hm
/-- Two touch the same, and one of them writes. -/
def clash (a b : Sk) : Bool :=
  anyN a.dst.toList b.rs || anyN a.dst.toList b.dst.toList || anyN b.dst.toList a.rs || anyN a.W b.R || anyN a.W b.W || anyN b.W a.R
def deps (o : Oper) : List Nat := (o.after.toList.filter fun e => Region.binds .any e).map (·.on)
/-- What stands before: the closure. -/
def befs : List (List Nat) → List (List Nat) → List (List Nat)
  | acc, [] => acc
  | acc, ds :: r => befs (acc ++ [ds ++ ds.flatMap fun d => (acc[d]?).getD []]) r
def clashes (b : List Nat) (s : Sk) : Nat → List Sk → Bool
  | _, [] => false
  | i, x :: r => (clash x s && !hasN b i) || clashes b s (i + 1) r
def lows (j : Nat) : List Nat → Bool
  | [] => true
  | d :: r => Nat.blt d j && lows j r
def chkFrom (prev : List Sk) : List (List Nat) → List (List Nat) → List Sk → Bool
  | ds :: dr, b :: br, s :: sr => lows prev.length ds && !clashes b s 0 prev && chkFrom (prev ++ [s]) dr br sr
  | [], [], [] => true
  | _, _, _ => false
def chk (ops : Array Oper) (sk : List Sk) : Bool :=
  let ds := ops.toList.map deps
  chkFrom [] ds (befs [] ds) sk
theorem befs_good {S : Nat → Bool} {D : List (List Nat)} (hcl : ∀ j ds, D[j]? = some ds → S j = true → ∀ d ∈ ds, S d = true) : ∀ (r done acc : List (List Nat)), D = done ++ r → acc.length = done.length →
    (∀ (j : Nat) b ds, acc[j]? = some b → D[j]? = some ds → (∀ d ∈ ds, S d = true) → ∀ i ∈ b, S i = true) →
    (befs acc r).length = D.length ∧ ∀ (j : Nat) b ds, (befs acc r)[j]? = some b → D[j]? = some ds → (∀ d ∈ ds, S d = true) → ∀ i ∈ b, S i = true
  | [], done, acc, hD, hl, h => ⟨by simp [befs, hD, hl], h⟩
  | e :: r, done, acc, hD, hl, h => by
    simp only [befs]
    refine befs_good hcl r (done ++ [e]) _ (by simp [hD]) (by simp [hl]) ?_
    intro j b ds hj hds hS i hi
    by_cases hlt : j < acc.length
    · rw [List.getElem?_append_left hlt] at hj
      exact h j b ds hj hds hS i hi
    · have hj2 : j - acc.length = 0 := by
        have := (List.getElem?_eq_some_iff.1 hj).1
        simp at this; omega
      rw [List.getElem?_append_right (by omega), hj2] at hj
      simp only [List.getElem?_cons_zero, Option.some.injEq] at hj
      have hje : j = done.length := by omega
      subst hje
      have : ds = e := by
        rw [hD, List.getElem?_append_right (by omega)] at hds
        simpa using hds.symm
      subst this
      subst hj
      rcases List.mem_append.1 hi with hi | hi
      · exact hS i hi
      · obtain ⟨d, hd, hi⟩ := List.mem_flatMap.1 hi
        cases hb : acc[d]? with
        | none => rw [hb] at hi; simp at hi
        | some b' =>
          rw [hb] at hi
          simp only [Option.getD_some] at hi
          have hdlt : d < D.length := by
            have := (List.getElem?_eq_some_iff.1 hb).1
            rw [hD]; simp; omega
          exact h d b' D[d] hb (List.getElem?_eq_getElem hdlt) (hcl d _ (List.getElem?_eq_getElem hdlt) (hS d hd)) i hi

theorem lows_spec {j : Nat} : ∀ {l : List Nat}, lows j l = true → ∀ d ∈ l, d < j
  | [], _, d, h => by simp at h
  | x :: r, h, d, hd => by
    simp only [lows, Bool.and_eq_true] at h
    rcases List.mem_cons.1 hd with e | hd
    · subst e; exact Nat.le_of_ble_eq_true h.1
    · exact lows_spec h.2 d hd
theorem clashes_spec {b : List Nat} {s : Sk} : ∀ {l : List Sk} {i : Nat}, clashes b s i l = false → ∀ k x, l[k]? = some x → clash x s = true → i + k ∈ b
  | [], _, _, k, x, h, _ => by simp at h
  | y :: r, i, h, k, x, hk, hc => by
    simp only [clashes, Bool.or_eq_false_iff] at h
    cases k with
    | zero =>
      simp only [List.getElem?_cons_zero, Option.some.injEq] at hk
      subst hk
      have := h.1
      rw [hc] at this
      simp only [Bool.true_and, Bool.not_eq_false'] at this
      exact hasN_iff.1 this
    | succ k =>
      have := clashes_spec h.2 k x (by simpa using hk) hc
      rwa [show i + (k + 1) = i + 1 + k from by omega]
theorem chkFrom_spec : ∀ {D B : List (List Nat)} {sk prev : List Sk}, chkFrom prev D B sk = true → D.length = sk.length ∧ B.length = sk.length ∧
    ∀ (j : Nat) ds b s, D[j]? = some ds → B[j]? = some b → sk[j]? = some s → (∀ d ∈ ds, d < prev.length + j) ∧ ∀ k x, (prev ++ sk)[k]? = some x → k < prev.length + j → clash x s = true → k ∈ b
  | ds :: dr, b :: br, s :: sr, prev, h => by
    simp only [chkFrom, Bool.and_eq_true, Bool.not_eq_true'] at h
    obtain ⟨⟨h1, h2⟩, h3⟩ := h
    obtain ⟨g1, g2, g3⟩ := chkFrom_spec h3
    refine ⟨by simp [g1], by simp [g2], fun j ds' b' s' hd hb hs => ?_⟩
    cases j with
    | zero =>
      simp only [List.getElem?_cons_zero, Option.some.injEq] at hd hb hs
      subst hd; subst hb; subst hs
      refine ⟨by simpa using lows_spec h1, fun k x hk hlt hc => ?_⟩
      rw [List.getElem?_append_left (by omega)] at hk
      simpa using clashes_spec h2 k x hk hc
    | succ j =>
      simp only [List.getElem?_cons_succ] at hd hb hs
      obtain ⟨k1, k2⟩ := g3 j ds' b' s' hd hb hs
      refine ⟨fun d hd => by have := k1 d hd; simp at this; omega, fun k x hk hlt hc => k2 k x (by simpa using hk) (by simp; omega) hc⟩
  | [], [], [], prev, h => by simp
  | [], _ :: _, _, _, h => by simp [chkFrom] at h
  | _ :: _, [], _, _, h => by simp [chkFrom] at h
  | _ :: _, _ :: _, [], _, h => by simp [chkFrom] at h
  | [], [], _ :: _, _, h => by simp [chkFrom] at h

theorem countP_drop {p p' : Nat → Bool} {i : Nat} : ∀ {l : List Nat}, (∀ k, p' k = true → p k = true) → i ∈ l → p i = true → p' i = false → l.countP p' < l.countP p
  | [], _, h, _, _ => by simp at h
  | x :: r, hpp, hi, h1, h2 => by
    have hle : r.countP p' ≤ r.countP p := List.countP_mono_left fun k _ hk => hpp k hk
    rcases List.mem_cons.1 hi with e | hi
    · subst e
      rw [List.countP_cons, List.countP_cons, h1, h2]
      simp; omega
    · have := countP_drop hpp hi h1 h2
      rw [List.countP_cons, List.countP_cons]
      cases hx : p' x
      · simp; omega
      · rw [hpp x hx]; simp; omega

section
variable {K : Ctx} {C0 : Cfg} {N : Nat} {ds : Nat × Nat} {F : Fence} {n : Nat} {Q : Exit → Act → World → Prop} {ops : Array Oper}

theorem G.same {E E' : List (Nat × AV)} {L L' : List (Nat × AObj)} {X : Act → World → Prop} (h : G K C0 ⟨E, N, ds⟩ L X) (hE : ∀ t, getE E' t = getE E t) (hL : ∀ m, getS L' m = getS L m) : G K C0 ⟨E', N, ds⟩ L' X := by
  have : getS L' = getS L := funext hL
  intro φ w fb a h1 h2 h3 h4
  rw [this] at h1 h2 h3 h4
  exact h φ w fb a h1 h2 h3 ⟨h4.size, fun t => by have := h4.val t; simpa only [hE] using this, h4.ds⟩

def listedS (listed : Array Bool) (i : Nat) : Bool := listed.getD i false

/-- Whatever has been taken: the state is that of the last writers. -/
theorem draw_from [OpenF F] {gs : List (Oper × Option (Nat × Bool))} {ss : List Sp} {E0 E1 : List (Nat × AV)} {L0 L1 : List (Nat × AObj)} (hg : withGuards ops ops.toList = some gs)
    (hok : SpsOk K N gs ss E0 L0 E1 L1) (hchk : chk ops (ss.map (·.sk)) = true) (hfin : G K C0 ⟨E1, N, ds⟩ L1 (Q .normal)) : ∀ (fuel t : Nat) (listed : Array Bool) (E : List (Nat × AV)) (L : List (Nat × AObj)),
    listed.size = ops.size → (List.range ops.size).countP (fun i => !listedS listed i) ≤ fuel →
    (∀ j o, ops[j]? = some o → listedS listed j = true → ∀ d ∈ deps o, listedS listed d = true) →
    (∀ t, getE E t = lastW (listedS listed) 0 (ss.map (·.wE t)) (getE E0 t)) → (∀ m, getS L m = lastW (listedS listed) 0 (ss.map fun s => lookW s.W m) (getS L0 m)) →
    G K C0 ⟨E, N, ds⟩ L (wpG F n K.P Q (sel gs (Region.linearise.go .any ops fuel t listed []))) := by
  obtain ⟨hl1, hl2, hck⟩ := chkFrom_spec hchk
  obtain ⟨hglen, hget⟩ := withGuards_get hg
  have hlen : ss.length = ops.size := by have := hl1; simp at this; omega
  have hat := hok.at 0
  -- all taken
  have hdone : ∀ (listed : Array Bool) E L, (∀ i, i < ops.size → listedS listed i = true) → (∀ t, getE E t = lastW (listedS listed) 0 (ss.map (·.wE t)) (getE E0 t)) → (∀ m, getS L m = lastW (listedS listed) 0 (ss.map fun s => lookW s.W m) (getS L0 m)) → G K C0 ⟨E, N, ds⟩ L (Q .normal) := by
    intro listed E L hall hE hL
    obtain ⟨i1, i2⟩ := hat.1 (listedS listed) fun k hk => by simpa using hall k (by omega)
    exact hfin.same (fun t => (hE t).trans (i1 t).symm) fun m => (hL m).trans (i2 m).symm
  have hsel0 : wpG F n K.P Q (sel gs []) = Q .normal := by funext a w; rfl
  intro fuel
  induction fuel with
  | zero =>
    intro t listed E L hsz hcnt hcl hE hL
    have hz : (List.range ops.size).countP (fun i => !listedS listed i) = 0 := by omega
    rw [List.countP_eq_zero] at hz
    have : Region.linearise.go .any ops 0 t listed [] = [] := by simp [Region.linearise.go]
    rw [this, hsel0]
    exact hdone listed E L (fun i hi => by simpa using hz i (List.mem_range.2 hi)) hE hL
  | succ fuel ih =>
    intro t listed E L hsz hcnt hcl hE hL
    simp only [Region.linearise.go]
    change G K C0 ⟨E, N, ds⟩ L (wpG F n K.P Q (sel gs (match (Region.ready .any ops listed)[t % (Region.ready .any ops listed).length]? with
      | some i => Region.linearise.go .any ops fuel (t / (Region.ready .any ops listed).length) (listed.setIfInBounds i true) [i]
      | none => [].reverse)))
    cases hi : (Region.ready .any ops listed)[t % (Region.ready .any ops listed).length]? with
    | none =>
      have hnil : Region.ready .any ops listed = [] := by
        cases hr : Region.ready .any ops listed with
        | nil => rfl
        | cons x xs =>
          rw [hr] at hi
          have hlt : t % (x :: xs).length < (x :: xs).length := Nat.mod_lt _ (by simp)
          simp at hi
          simp at hlt
          omega
      have hall : ∀ i, i < ops.size → listedS listed i = true := by
        intro i
        induction i using Nat.strongRecOn with
        | _ i ihi =>
          intro hlt
          by_cases hc : listedS listed i = true
          · exact hc
          · exfalso
            have ho : ops[i]? = some ops[i] := Array.getElem?_eq_getElem hlt
            have hmem : i ∈ Region.ready .any ops listed := by
              rw [mem_ready]
              refine ⟨by
                have : i < listed.size := by omega
                simp [listedS, this] at hc ⊢; exact hc, ops[i], ho, fun e he hb => ?_⟩
              have hds : (ops.toList.map deps)[i]? = some (deps ops[i]) := by simp [hlt]
              obtain ⟨b, hb'⟩ : ∃ b, (befs [] (ops.toList.map deps))[i]? = some b := ⟨_, List.getElem?_eq_getElem (by rw [hl2]; simp; omega)⟩
              obtain ⟨s, hs⟩ : ∃ s, (ss.map (·.sk))[i]? = some s := ⟨_, List.getElem?_eq_getElem (by simp; omega)⟩
              have hd := (hck i _ b s hds hb' hs).1 e.on (by simp only [deps, List.mem_map, List.mem_filter]; exact ⟨e, ⟨by simpa using he, hb⟩, rfl⟩)
              exact ihi e.on (by simpa using hd) (by simp at hd; omega)
            rw [hnil] at hmem
            simp at hmem
      simp only [List.reverse_nil]
      rw [hsel0]
      exact hdone listed E L hall hE hL
    | some j =>
      simp only []
      rw [linearise_go_acc, List.reverse_singleton, List.singleton_append]
      have hmem := List.mem_of_getElem? hi
      rw [mem_ready] at hmem
      obtain ⟨hj0, o, ho, hpre⟩ := hmem
      have hjlt : j < ops.size := (Array.getElem?_eq_some_iff.1 ho).1
      have hjS : listedS listed j = false := by
        have : j < listed.size := by omega
        simp [listedS, this] at hj0 ⊢; exact hj0
      have hdeps : ∀ d ∈ deps o, listedS listed d = true := by
        intro d hd
        simp only [deps, List.mem_map, List.mem_filter] at hd
        obtain ⟨e, ⟨he, hb⟩, rfl⟩ := hd
        exact hpre e (by simpa using he) hb
      obtain ⟨g, hg1, hg2⟩ := hget j o (by simpa using ho)
      obtain ⟨s, hs⟩ : ∃ s, ss[j]? = some s := ⟨_, List.getElem?_eq_getElem (by omega)⟩
      have hsk : (ss.map (·.sk))[j]? = some s.sk := by simp [hs]
      have hds : (ops.toList.map deps)[j]? = some (deps o) := by simp [ho]
      obtain ⟨b, hb⟩ : ∃ b, (befs [] (ops.toList.map deps))[j]? = some b := ⟨_, List.getElem?_eq_getElem (by rw [hl2]; simp; omega)⟩
      have hD : ∀ k dk, (ops.toList.map deps)[k]? = some dk → listedS listed k = true → ∀ d ∈ dk, listedS listed d = true := by
        intro k dk hk hS d hd
        simp only [List.getElem?_map, Option.map_eq_some_iff] at hk
        obtain ⟨o', ho', rfl⟩ := hk
        exact hcl k o' (by simpa using ho') hS d hd
      have hbS : ∀ i ∈ b, listedS listed i = true := (befs_good (S := listedS listed) hD (ops.toList.map deps) [] [] (by simp) rfl (by simp)).2 j b _ hb hds hdeps
      -- earlier ones that clash have been taken; later ones have not
      have hearly : ∀ i si, ss[i]? = some si → i < j → clash si.sk s.sk = true → listedS listed i = true := by
        intro i si hsi hlt hc
        exact hbS i ((hck j _ b _ hds hb hsk).2 i si.sk (by simp [hsi]) (by simpa using hlt) hc)
      have hlate : ∀ i si, ss[i]? = some si → j < i → clash s.sk si.sk = true → listedS listed i = false := by
        intro i si hsi hlt hc
        cases hSi : listedS listed i with
        | false => rfl
        | true =>
          exfalso
          have hilt : i < ops.size := by have := (List.getElem?_eq_some_iff.1 hsi).1; omega
          have hdi : (ops.toList.map deps)[i]? = some (deps ops[i]) := by simp [hilt]
          obtain ⟨bi, hbi⟩ : ∃ b, (befs [] (ops.toList.map deps))[i]? = some b := ⟨_, List.getElem?_eq_getElem (by rw [hl2]; simp; omega)⟩
          have hski : (ss.map (·.sk))[i]? = some si.sk := by simp [hsi]
          have hjb := (hck i _ bi _ hdi hbi hski).2 j s.sk (by simp [hs]) (by simpa using hlt) hc
          have := (befs_good (S := listedS listed) hD (ops.toList.map deps) [] [] (by simp) rfl (by simp)).2 i bi _ hbi hdi (hD i _ hdi hSi) j hjb
          rw [hjS] at this
          cases this
      obtain ⟨Ej, Lj, hspok, hst⟩ := hat.2 j (o, g) s hg2 hs
      obtain ⟨hEj, hLj⟩ := hst (fun k => decide (k < j)) fun k hk => by simp
      -- what it reads stands as it stood
      have hcong : ∀ (i : Nat), (∃ si, ss[i]? = some si ∧ (clash si.sk s.sk = true ∧ clash s.sk si.sk = true)) ∨ i = j → listedS listed i = decide (i < j) := by
        rintro i (⟨si, hsi, hc1, hc2⟩ | rfl)
        · by_cases h1 : i < j
          · rw [hearly i si hsi h1 hc1]; simp [h1]
          · by_cases h2 : i = j
            · subst h2; rw [hjS]; simp
            · rw [hlate i si hsi (by omega) hc2]; simp [h1]
        · rw [hjS]; simp
      have hwE : ∀ {i : Nat} {t : Nat} {v : AV}, (ss.map (·.wE t))[i]? = some (some v) → ∃ si, ss[i]? = some si ∧ si.dst = some t := by
        intro i t v h
        simp only [List.getElem?_map, Option.map_eq_some_iff] at h
        obtain ⟨si, hsi, h⟩ := h
        refine ⟨si, hsi, ?_⟩
        unfold Sp.wE at h
        cases hd : si.dst with
        | none => rw [hd] at h; cases h
        | some d =>
          rw [hd] at h
          simp only at h
          split at h
          · rename_i e; rw [e]
          · cases h
      have hwS : ∀ {i : Nat} {m : Nat} {v : AObj}, (ss.map fun s => lookW s.W m)[i]? = some (some v) → ∃ si, ss[i]? = some si ∧ m ∈ si.W.map (·.1) := by
        intro i m v h
        simp only [List.getElem?_map, Option.map_eq_some_iff] at h
        obtain ⟨si, hsi, h⟩ := h
        refine ⟨si, hsi, ?_⟩
        generalize si.W = W at h
        induction W with
        | nil => simp [lookW] at h
        | cons x W ih =>
          obtain ⟨k, u⟩ := x
          simp only [lookW] at h
          split at h
          · rename_i e; simp [e]
          · exact List.mem_cons_of_mem _ (ih h)
      have anyT : ∀ {l m : List Nat} {t : Nat}, t ∈ l → t ∈ m → anyN l m = true := by
        intro l m t h1 h2
        cases h : anyN l m with
        | true => rfl
        | false => exact absurd h2 (anyN_false h t h1)
      have hrE : ∀ t ∈ s.rs, getE E t = getE Ej t := by
        intro t ht
        rw [hE t, hEj t]
        refine lastW_congr fun i v hi => ?_
        rw [Nat.zero_add]
        obtain ⟨si, hsi, hd⟩ := hwE hi
        refine hcong i (.inl ⟨si, hsi, ?_, ?_⟩)
        · simp [clash, Sp.sk, hd, anyT (List.mem_singleton.2 rfl) ht]
        · simp [clash, Sp.sk, hd, anyT (List.mem_singleton.2 rfl) ht]
      have hrS : ∀ m ∈ s.R, getS L m = getS Lj m := by
        intro m hm
        rw [hL m, hLj m]
        refine lastW_congr fun i v hi => ?_
        rw [Nat.zero_add]
        obtain ⟨si, hsi, hd⟩ := hwS hi
        refine hcong i (.inl ⟨si, hsi, ?_, ?_⟩)
        · simp [clash, Sp.sk, anyT hd hm]
        · simp [clash, Sp.sk, anyT hd hm]
      have hsel : sel gs (j :: Region.linearise.go .any ops fuel (t / (Region.ready .any ops listed).length) (listed.setIfInBounds j true) []) = (o, g) :: sel gs (Region.linearise.go .any ops fuel (t / (Region.ready .any ops listed).length) (listed.setIfInBounds j true) []) := by
        simp [sel, List.filterMap_cons, hg2]
      rw [hsel]
      refine hspok C0 ds F n Q _ E L hrE hrS ?_
      have hset : ∀ i, listedS (listed.setIfInBounds j true) i = (if i = j then true else listedS listed i) := by
        intro i
        unfold listedS
        by_cases h : i = j
        · subst h
          have : i < listed.size := by omega
          simp [this]
        · rw [if_neg h, getD_set_ne false (Ne.symm h)]
      refine ih _ _ _ _ (by simpa using hsz) ?_ ?_ ?_ ?_
      · have hlt : (List.range ops.size).countP (fun i => !listedS (listed.setIfInBounds j true) i) < (List.range ops.size).countP (fun i => !listedS listed i) :=
          countP_drop (i := j) (fun k hk => by
            rw [hset] at hk
            split at hk
            · simp at hk
            · exact hk) (List.mem_range.2 hjlt) (by rw [hjS]; rfl) (by rw [hset]; simp)
        omega
      · intro k o' ho' hk d hd
        rw [hset] at hk ⊢
        split
        · rfl
        · split at hk
          · rename_i e
            subst e
            rw [ho] at ho'
            cases ho'
            exact hdeps d hd
          · exact hcl k o' ho' hk d hd
      · intro u
        rw [getE_put]
        cases hw : s.wE u with
        | none =>
          rw [Option.getD_none, hE u]
          refine lastW_congr fun i v hku => ?_
          rw [Nat.zero_add, hset]
          split
          · rename_i e
            subst e
            simp [hs, hw] at hku
          · rfl
        | some v =>
          rw [Option.getD_some]
          have hj' : (ss.map (·.wE u))[j]? = some (some v) := by simp [hs, hw]
          symm
          refine lastW_last hj' (by rw [Nat.zero_add, hset]; simp) fun k v' hlt hk => ?_
          rw [Nat.zero_add, hset, if_neg (by omega)]
          obtain ⟨sk, hsk', hd⟩ := hwE hk
          obtain ⟨sj, hsj, hdj⟩ := hwE hj'
          rw [hs] at hsj
          cases hsj
          exact hlate k sk hsk' hlt (by simp [clash, Sp.sk, hd, hdj, anyT (List.mem_singleton.2 rfl) (List.mem_singleton.2 rfl)])
      · intro m
        rw [getS_append]
        cases hw : lookW s.W m with
        | none =>
          rw [Option.getD_none, hL m]
          refine lastW_congr fun i v hku => ?_
          rw [Nat.zero_add, hset]
          split
          · rename_i e
            subst e
            simp [hs, hw] at hku
          · rfl
        | some v =>
          rw [Option.getD_some]
          have hj' : (ss.map fun s => lookW s.W m)[j]? = some (some v) := by simp [hs, hw]
          symm
          refine lastW_last hj' (by rw [Nat.zero_add, hset]; simp) fun k v' hlt hk => ?_
          rw [Nat.zero_add, hset, if_neg (by omega)]
          obtain ⟨sk, hsk', hd⟩ := hwS hk
          obtain ⟨sj, hsj, hdj⟩ := hwS hj'
          rw [hs] at hsj
          cases hsj
          exact hlate k sk hsk' hlt (by simp [clash, Sp.sk, anyT hdj hd])

/-- A region that draws its order. -/
theorem G_draw [OpenF F] {id : Nat} {gs : List (Oper × Option (Nat × Bool))} {ss : List Sp} {E0 E1 : List (Nat × AV)} {L0 L1 : List (Nat × AObj)} (hm : K.P.follows .mixedOrders = true) (hg : withGuards ops ops.toList = some gs)
    (hok : SpsOk K N gs ss E0 L0 E1 L1) (hchk : chk ops (ss.map (·.sk)) = true) (hfin : G K C0 ⟨E1, N, ds⟩ L1 (Q .normal)) :
    G K C0 ⟨E0, N, ds⟩ L0 ((Code.region id ops true).wpIn F n K.P Q) := fun φ w fb a h1 h2 h3 h4 => by
  refine wpIn_region_draw fun t => ?_
  simp only [Region.schedule, hm, Bool.true_or, if_true]
  refine sel_sound hg _ _ _ ?_
  have k : Stp ⟨φ, getS L0, w, fb⟩ ⟨φ, getS L0, { w with drawn := w.drawn + 1 }, fb⟩ := ⟨fun _ h => ⟨h, rfl⟩, fun _ h => ⟨h, rfl⟩, fun _ h => h, fun _ _ h => h, rfl, rfl, rfl, Nat.le_refl _⟩
  have hS : Sim ⟨φ, getS L0, { w with drawn := w.drawn + 1 }, fb⟩ := by
    refine ⟨fun m => ?_, h2.fbl, h2.fbs, h2.disj⟩
    by_cases hl : (getS L0 m).live = true
    · exact (h2.obj m).keep k hl (live_known hl) fun _ _ => rfl
    · show ObjR _ m (getS L0 m)
      cases hn : getS L0 m <;> first | trivial | (rw [hn] at hl; simp [AObj.live] at hl)
  have hno : ∀ i, listedS (Array.replicate ops.size false) i = false := by
    intro i
    unfold listedS
    simp [Array.getElem?_replicate]
    split <;> rfl
  refine draw_from hg hok hchk hfin ops.size t _ E0 L0 (by simp) ?_ ?_ ?_ ?_ φ _ fb a (h1.trans k) hS (h3.step k) (h4.step k)
  · have := List.countP_le_length (p := fun i => !listedS (Array.replicate ops.size false) i) (l := List.range ops.size)
    simpa using this
  · intro j o _ h; rw [hno] at h; cases h
  · intro u; rw [lastW_skip]; intro k v _; exact hno _
  · intro u; rw [lastW_skip]; intro k v _; exact hno _
end
end Go.Asl
/- The operations' local effects. -/
set_option linter.unusedVariables false
set_option linter.unusedSimpArgs false
namespace Go.Asl
open Go.RowKit

/-! ### What an evaluation looks at -/
def nmOf : AV → List Nat
  | .own n => [n]
  | .ptr n _ => [n]
  | .eptr n _ _ _ => [n]
  | .map n => [n]
  | _ => []
def slotsOf : List Operand → List Nat
  | [] => []
  | .tmp t :: r => t :: slotsOf r
  | _ :: r => slotsOf r
def nmsOf (ρ : Operand → AV) : List Operand → List Nat
  | [] => []
  | x :: r => nmOf (ρ x) ++ nmsOf ρ r
/-- The names of objects that an evaluation reads. -/
def rdN (ρ : Operand → AV) : Op → List Nat
  | .load _ p => nmOf (ρ p)
  | .call c => nmsOf ρ c.args.toList
  | _ => []
theorem nmsOf_mem {ρ : Operand → AV} {x : Operand} : ∀ {l : List Operand}, x ∈ l → ∀ m ∈ nmOf (ρ x), m ∈ nmsOf ρ l
  | [], h, _, _ => by simp at h
  | y :: r, h, m, hm => by
    simp only [nmsOf]
    rcases List.mem_cons.1 h with e | h
    · subst e; exact List.mem_append_left _ hm
    · exact List.mem_append_right _ (nmsOf_mem h m hm)
theorem slotsOf_mem {t : Nat} : ∀ {l : List Operand}, .tmp t ∈ l → t ∈ slotsOf l
  | [], h => by simp at h
  | x :: r, h => by
    rcases List.mem_cons.1 h with e | h
    · subst e; simp [slotsOf]
    · have := slotsOf_mem h
      cases x <;> simp [slotsOf, this]

theorem fillP_congr {place : Nat → Option (Nat × Nat)} {ρ ρ' : Operand → AV} : ∀ {parts : List (Nat × Operand)} {cells : List AV}, (∀ p ∈ parts, ρ p.2 = ρ' p.2) → fillP place ρ cells parts = fillP place ρ' cells parts
  | [], _, _ => rfl
  | (i, x) :: r, cells, h => by
    have h0 : ρ x = ρ' x := h (i, x) (List.mem_cons_self ..)
    have hr := fun cells => fillP_congr (place := place) (cells := cells) (parts := r) fun p hp => h p (List.mem_cons_of_mem _ hp)
    simp only [fillP, h0]
    cases place i with
    | none => rfl
    | some os =>
      cases (ρ' x).cells with
      | none => rfl
      | some cs =>
        simp only [hr]
theorem loadP_congr {ti : TI} {S S' : Nat → AObj} {a : AV} (h : ∀ m ∈ nmOf a, S m = S' m) : loadP ti S a = loadP ti S' a := by
  cases a <;> simp only [loadP] <;> simp only [nmOf, List.mem_singleton, forall_eq] at h
  rw [h]
theorem evalB_congr {K : Ctx} {ρ ρ' : Operand → AV} {S S' : Nat → AObj} {b : Builtin} {args : List Operand} {ts : List TypeId} (h : ∀ x ∈ args, ρ x = ρ' x) (hS : ∀ m ∈ nmsOf ρ args, S m = S' m) : evalB K ρ S b args ts = evalB K ρ' S' b args ts := by
  have hmap : ∀ {l : List Operand}, (∀ x ∈ l, x ∈ args) → l.map ρ = l.map ρ' := fun {l} hl => List.map_congr_left fun x hx => h x (hl x hx)
  cases b <;> simp only [evalB]
  case len =>
    match args, ts, h, hS with
    | [x], [t], h, hS =>
      have h0 := h x (List.mem_singleton.2 rfl)
      simp only [nmsOf, List.append_nil] at hS
      rw [h0] at hS
      simp only [h0]
      cases hx : ρ' x with
      | own m =>
        rw [hx] at hS
        have : S m = S' m := hS m (by simp [nmOf])
        simp only [this]
      | _ => rfl
    | [], _, _, _ => rfl
    | [x], [], _, _ => rfl
    | [x], _ :: _ :: _, _, _ => rfl
    | _ :: _ :: _, _, _, _ => rfl
  case min =>
    cases args with
    | nil => rfl
    | cons x r =>
      simp only
      rw [h x (List.mem_cons_self ..), hmap (l := r) fun y hy => List.mem_cons_of_mem _ hy]
  case max =>
    cases args with
    | nil => rfl
    | cons x r =>
      simp only
      rw [h x (List.mem_cons_self ..), hmap (l := r) fun y hy => List.mem_cons_of_mem _ hy]

theorem evalPure_congr {K : Ctx} {ρ ρ' : Operand → AV} {S S' : Nat → AObj} {o : Op} (h : ∀ x ∈ o.operands.toList, ρ x = ρ' x) (hS : ∀ m ∈ rdN ρ o, S m = S' m) : evalPure K ρ S o = evalPure K ρ' S' o := by
  cases o <;> first | rfl | skip
  all_goals (simp only [Op.operands, Array.toList_append, List.mem_append, List.mem_cons, List.not_mem_nil, or_false, forall_eq_or_imp, forall_eq] at h)
  case move x => simp only [evalPure, h]
  case assign x => simp only [evalPure, h]
  case pick c a b => simp only [evalPure, h.1, h.2.1, h.2.2]
  case load t p =>
    simp only [evalPure]
    simp only [rdN] at hS
    cases K.T t with
    | none => rfl
    | some ti => simp only; rw [loadP_congr (a := ρ p) hS, h]
  case nilCheck x => simp only [evalPure, h]
  case binOp op a x y b => simp only [evalPure, h.1, h.2]
  case unOp u t x => cases u <;> simp only [evalPure, h]
  case convert a b x => simp only [evalPure, h]
  case makeFunc f first caps =>
    cases f <;> simp only [evalPure]
    simp only [Option.some.injEq, AV.fn.injEq, true_and]
    exact ⟨List.map_congr_left fun x hx => h x (.inl hx), List.map_congr_left fun x hx => h x (.inr hx)⟩
  case extract x i => simp only [evalPure, h]
  case fieldAddr s x f => simp only [evalPure, h]
  case field s x f => simp only [evalPure, h]
  case indexAddr t x j => simp only [evalPure, h.1, h.2]
  case build t parts =>
    simp only [evalPure]
    have : ∀ ps z, fillP ps ρ z parts.toList = fillP ps ρ' z parts.toList := fun ps z => fillP_congr fun p hp => h p.2 (by simp; exact ⟨p.1, by simpa using hp⟩)
    simp only [this]
  case call c =>
    simp only [evalPure]
    cases hc : c.callee with
    | builtin b =>
      simp only
      refine evalB_congr (fun x hx => h x ?_) hS
      unfold Call.operands
      rw [hc]
      simpa using hx
    | _ => rfl

/-! ### Rules -/
def dstB (d : Option Nat) (N : Nat) : Bool := match d with
  | some t => Nat.blt t N
  | none => true
theorem dstB_ok {E : List (Nat × AV)} {N : Nat} {d : Option Nat} (v : AV) (h : dstB d N = true) : dstE E N d v = some (putE E d v) := by
  cases d with
  | none => rfl
  | some t => simp only [dstB] at h; simp [dstE, putE, h]

section
variable {K : Ctx} {N : Nat} {E : List (Nat × AV)} {L : List (Nat × AObj)} {o : Oper} {g : Option (Nat × Bool)}

theorem opd_agree {E' : List (Nat × AV)} {l : List Operand} {rs : List Nat} (hrs : ∀ t ∈ slotsOf l, t ∈ rs) (h : ∀ t ∈ rs, getE E' t = getE E t) : ∀ x ∈ l, opd K ⟨E, 0, (0, 0)⟩ x = opd K ⟨E', 0, (0, 0)⟩ x := by
  intro x hx
  cases x with
  | tmp t => exact (h t (hrs t (slotsOf_mem hx))).symm
  | _ => rfl
theorem opS_agree {E' : List (Nat × AV)} {l : List Operand} {rs : List Nat} (hrs : ∀ t ∈ slotsOf l, t ∈ rs) (h : ∀ t ∈ rs, getE E' t = getE E t) : ∀ x ∈ l, opS K E' x = opS K E x := by
  intro x hx
  simp only [opS, opd_agree hrs h x hx]

/-- Computing and reading. -/
theorem Sp_pure (hK : K.Ok) {v : AV} (hv : evalS K E L o.op = some v) (hd : dstB o.dst N = true) : SpOk K N (o, none) ⟨slotsOf o.op.operands.toList, o.dst, v, rdN (opd K ⟨E, 0, (0, 0)⟩) o.op, []⟩ E L := by
  intro C0 ds F _ n Q r E' L' hE hL h
  refine G_pure hK (v := v) ?_ (dstB_ok v hd) h
  rw [← hv]
  unfold evalS
  rw [evalPure_congr (opd_agree (fun t ht => ht) hE) (fun m hm => (hL m hm).symm)]
theorem Sp_alloc (hK : K.Ok) {t : Nat} {ti : TI} (m : Nat) (hop : o.op = .alloc t) (ht : K.T t = some ti) (hm : getS L m = .free) (hd : dstB o.dst N = true) : SpOk K N (o, none) ⟨[], o.dst, .ptr m 0, [m], [(m, .box ti.zero)]⟩ E L := by
  intro C0 ds F _ n Q r E' L' hE hL h
  exact G_alloc hK m hop ht ((hL m (List.mem_singleton.2 rfl)).trans hm) (dstB_ok _ hd) h
theorem Sp_box (hK : K.Ok) {t : Nat} {x : Operand} {a0 : AV} {cs : List AV} (m : Nat) (hop : o.op = .box t x) (hx : opS K E x = some a0) (hcs : a0.cells = some cs) (hm : getS L m = .free) (hd : dstB o.dst N = true) :
    SpOk K N (o, none) ⟨slotsOf [x], o.dst, .ptr m 0, [m], [(m, .box cs)]⟩ E L := by
  intro C0 ds F _ n Q r E' L' hE hL h
  exact G_box hK m hop ((opS_agree (fun t ht => ht) hE x (List.mem_singleton.2 rfl)).trans hx) hcs ((hL m (List.mem_singleton.2 rfl)).trans hm) (dstB_ok _ hd) h
theorem Sp_store (hK : K.Ok) {t : Nat} {ti : TI} {p x : Operand} {m off : Nat} {cs xs : List AV} {a0 : AV} (hop : o.op = .store t p x) (ht : K.T t = some ti)
    (hp : opS K E p = some (.ptr m off)) (hx : opS K E x = some a0) (hxs : a0.cells = some xs) (hm : getS L m = .box cs)
    (hc : (Nat.beq xs.length ti.sz && Nat.ble (off + ti.sz) cs.length && xs.all flat) = true) (hd : dstB o.dst N = true) :
    SpOk K N (o, none) ⟨slotsOf [p, x], o.dst, .undef, [m], [(m, .box (putAt cs off xs))]⟩ E L := by
  intro C0 ds F _ n Q r E' L' hE hL h
  have ha := opS_agree (K := K) (l := [p, x]) (fun t ht => ht) hE
  exact G_store hK hop ht ((ha p (by simp)).trans hp) ((ha x (by simp)).trans hx) hxs ((hL m (List.mem_singleton.2 rfl)).trans hm) hc (dstB_ok _ hd) h
theorem Sp_index_lst (hK : K.Ok) {t e : Nat} {b1 b2 : Nat} {z : List AV} {ti : TI} {x i : Operand} {xs cs : List AV} {k : IntKind} {j : Int} (y : AV) (hop : o.op = .indexAddr t x i)
    (ht : K.T t = some ⟨b1, b2, z, .slice e⟩) (he : K.T e = some ti) (hx : opS K E x = some (.lst xs)) (hi : opS K E i = some (.int k j))
    (hy : xs[j.toNat]? = some y) (hj : 0 ≤ j) (hcs : y.cells = some cs) (hl : Nat.beq cs.length ti.sz = true) (hd : dstB o.dst N = true) :
    SpOk K N (o, none) ⟨slotsOf [x, i], o.dst, .rptr y 0, [], []⟩ E L := by
  intro C0 ds F _ n Q r E' L' hE hL h
  have ha := opS_agree (K := K) (l := [x, i]) (fun t ht => ht) hE
  exact G_index_lst hK hop ht he ((ha x (by simp)).trans hx) ((ha i (by simp)).trans hi) hy hj hcs hl (dstB_ok _ hd) h
theorem Sp_index_own (hK : K.Ok) {t e : Nat} {b1 b2 : Nat} {z : List AV} {ti : TI} {x i : Operand} {xs : List AV} {k : IntKind} {j : Int} {m e' sz : Nat} (hop : o.op = .indexAddr t x i)
    (ht : K.T t = some ⟨b1, b2, z, .slice e⟩) (he : K.T e = some ti) (hx : opS K E x = some (.own m)) (hi : opS K E i = some (.int k j)) (hm : getS L m = .arr e' sz xs) (hsz : Nat.beq sz ti.sz = true)
    (hj : 0 ≤ j) (hlt : j < xs.length) (hd : dstB o.dst N = true) : SpOk K N (o, none) ⟨slotsOf [x, i], o.dst, .eptr m sz j.toNat 0, [m], []⟩ E L := by
  intro C0 ds F _ n Q r E' L' hE hL h
  have ha := opS_agree (K := K) (l := [x, i]) (fun t ht => ht) hE
  exact G_index_own hK hop ht he ((ha x (by simp)).trans hx) ((ha i (by simp)).trans hi) ((hL m (List.mem_singleton.2 rfl)).trans hm) hsz hj hlt (dstB_ok _ hd) h
theorem Sp_load_elem (hK : K.Ok) {t : Nat} {ti : TI} {p : Operand} {m sz i off e' : Nat} {xs cs : List AV} {y v v' : AV} (hop : o.op = .load t p) (ht : K.T t = some ti)
    (hp : opS K E p = some (.eptr m sz i off)) (hm : getS L m = .arr e' sz xs) (hy : xs[i]? = some y) (hcs : y.cells = some cs) (hv : cellsAt ti cs off = some v') (hv' : force v' = some v) (hd : dstB o.dst N = true) :
    SpOk K N (o, none) ⟨slotsOf [p], o.dst, v, [m], []⟩ E L := by
  intro C0 ds F _ n Q r E' L' hE hL h
  have ha := opS_agree (K := K) (l := [p]) (fun t ht => ht) hE
  exact G_load_elem hK hop ht ((ha p (by simp)).trans hp) ((hL m (List.mem_singleton.2 rfl)).trans hm) hy hcs hv hv' (dstB_ok _ hd) h
theorem Sp_store_elem (hK : K.Ok) {t : Nat} {ti : TI} {p x : Operand} {m sz i off e' : Nat} {xs cs vs : List AV} {y y' a0 : AV} (hop : o.op = .store t p x) (ht : K.T t = some ti)
    (hp : opS K E p = some (.eptr m sz i off)) (hm : getS L m = .arr e' sz xs) (hy : xs[i]? = some y) (hcs : y.cells = some cs) (hx : opS K E x = some a0) (hvs : a0.cells = some vs)
    (hy' : putElem y off vs = some y') (hc : (Nat.beq vs.length ti.sz && Nat.ble (off + ti.sz) cs.length && vs.all flat && bareL vs && (isRowK ti.kind || Nat.beq cs.length 1 || true)) = true) (hd : dstB o.dst N = true) :
    SpOk K N (o, none) ⟨slotsOf [p, x], o.dst, .undef, [m], [(m, .arr e' sz (xs.set i y'))]⟩ E L := by
  intro C0 ds F _ n Q r E' L' hE hL h
  have ha := opS_agree (K := K) (l := [p, x]) (fun t ht => ht) hE
  exact G_store_elem hK hop ht ((ha p (by simp)).trans hp) ((hL m (List.mem_singleton.2 rfl)).trans hm) hy hcs ((ha x (by simp)).trans hx) hvs hy' hc (dstB_ok _ hd) h
theorem partsS_agree {E' : List (Nat × AV)} {sz : Nat} : ∀ {parts : List (Nat × Operand)} {k : Nat}, (∀ p ∈ parts, opS K E' p.2 = opS K E p.2) → partsS K E' sz parts k = partsS K E sz parts k
  | [], _, _ => rfl
  | (i, x) :: r, k, h => by
    simp only [partsS]
    rw [h (i, x) (List.mem_cons_self ..), partsS_agree fun p hp => h p (List.mem_cons_of_mem _ hp)]
theorem Sp_lit (hK : K.Ok) {t e : Nat} {b1 b2 : Nat} {z : List AV} {ti : TI} {len : Nat} {parts : Array (Nat × Operand)} {ys : List AV} (m : Nat) (hop : o.op = .buildSlice t len parts)
    (ht : K.T t = some ⟨b1, b2, z, .slice e⟩) (he : K.T e = some ti) (hys : partsS K E ti.sz parts.toList 0 = some ys) (hlen : (Nat.beq parts.toList.length len && Nat.ble (len * ti.sz) 16777216 && Nat.blt 0 ti.sz) = true) (hm : getS L m = .free) (hd : dstB o.dst N = true) :
    SpOk K N (o, none) ⟨slotsOf (parts.toList.map (·.2)), o.dst, .own m, [m], [(m, .arr e ti.sz ys)]⟩ E L := by
  intro C0 ds F _ n Q r E' L' hE hL h
  have ha := opS_agree (K := K) (l := parts.toList.map (·.2)) (fun t ht => ht) hE
  refine G_lit hK m hop ht he ((partsS_agree fun p hp => ha p.2 (List.mem_map_of_mem hp)).trans hys) hlen ((hL m (List.mem_singleton.2 rfl)).trans hm) (dstB_ok _ hd) h
theorem sliceOf_agree {S S' : Nat → AObj} {sz : Nat} {y : AV} (h : ∀ m ∈ nmOf y, S' m = S m) : sliceOf S' sz y = sliceOf S sz y := by
  cases y <;> simp only [sliceOf] <;> simp only [nmOf, List.mem_singleton, forall_eq] at h
  rw [h]
theorem Sp_append (hK : K.Ok) {t e : Nat} {b1 b2 : Nat} {z : List AV} {ti : TI} {s x : Operand} {c : Call} {xs ys : List AV} {y0 : AV} {m e' sz : Nat} (m' : Nat) (hop : o.op = .call c) (c1 : c.callee = .builtin .append) (c2 : c.args.toList = [s, x]) (c3 : c.argTypes.toList = [t, t])
    (ht : K.T t = some ⟨b1, b2, z, .slice e⟩) (he : K.T e = some ti) (hs : opS K E s = some (.own m)) (hm : getS L m = .arr e' sz xs) (hx : opS K E x = some y0) (hys : sliceOf (getS L) sz y0 = some ys)
    (hz : ∀ zs, y0 = .lst zs → ∀ y ∈ zs, ∃ cs, y.cells = some cs ∧ cs.length = sz) (hc : (Nat.beq e' e && Nat.beq sz ti.sz && Nat.blt 0 sz) = true) (hb : (xs.length + ys.length) * (ti.bytes + 1) ≤ 140737488355328) (hm' : getS L m' = .free) (hd : dstB o.dst N = true) :
    SpOk K N (o, none) ⟨slotsOf [s, x], o.dst, .own m', m' :: m :: nmOf y0, [(m', .arr e sz (xs ++ ys)), (m, .dead)]⟩ E L := by
  intro C0 ds F _ n Q r E' L' hE hL h
  have ha := opS_agree (K := K) (l := [s, x]) (fun t ht => ht) hE
  exact G_append hK m' hop c1 c2 c3 ht he ((ha s (by simp)).trans hs) ((hL m (by simp)).trans hm) ((ha x (by simp)).trans hx) ((sliceOf_agree fun k hk => hL k (by simp [hk])).trans hys) hz hc hb ((hL m' (by simp)).trans hm') (dstB_ok _ hd) h
theorem Sp_append_nil (hK : K.Ok) {t e : Nat} {b1 b2 : Nat} {z : List AV} {ti : TI} {s x : Operand} {c : Call} {ys : List AV} {y0 : AV} (m' : Nat) (hop : o.op = .call c) (c1 : c.callee = .builtin .append) (c2 : c.args.toList = [s, x]) (c3 : c.argTypes.toList = [t, t])
    (ht : K.T t = some ⟨b1, b2, z, .slice e⟩) (he : K.T e = some ti) (hs : opS K E s = some .nils) (hx : opS K E x = some y0) (hys : sliceOf (getS L) ti.sz y0 = some ys)
    (hz : ∀ zs, y0 = .lst zs → ∀ y ∈ zs, ∃ cs, y.cells = some cs ∧ cs.length = ti.sz) (hc : Nat.blt 0 ti.sz = true) (hb : ys.length * (ti.bytes + 1) ≤ 140737488355328) (hm' : getS L m' = .free) (hd : dstB o.dst N = true) :
    SpOk K N (o, none) ⟨slotsOf [s, x], o.dst, .own m', m' :: nmOf y0, [(m', .arr e ti.sz ys)]⟩ E L := by
  intro C0 ds F _ n Q r E' L' hE hL h
  have ha := opS_agree (K := K) (l := [s, x]) (fun t ht => ht) hE
  exact G_append_nil hK m' hop c1 c2 c3 ht he ((ha s (by simp)).trans hs) ((ha x (by simp)).trans hx) ((sliceOf_agree fun k hk => hL k (by simp [hk])).trans hys) hz hc hb ((hL m' (by simp)).trans hm') (dstB_ok _ hd) h

/-- A call with a contract of pure data. -/
theorem argsS_agree {E' : List (Nat × AV)} : ∀ {l : List Operand}, (∀ x ∈ l, opS K E' x = opS K E x) → argsS K E' l = argsS K E l
  | [], _ => rfl
  | x :: r, h => by
    simp only [argsS]
    rw [h x (List.mem_cons_self ..), argsS_agree fun y hy => h y (List.mem_cons_of_mem _ hy)]
theorem Sp_call {c : Call} {x : Operand} {f : Nat} {first caps as : List AV} {v : AV} (hop : o.op = .call c) (hc : c.callee = .value x) (hx : opS K E x = some (.fn f first caps)) (has : argsS K E c.args.toList = some as)
    (hf : FnP K f (first ++ (as ++ caps)) v) (hb : bareL (first ++ (as ++ caps)) = true) (hr : bareB v = true) (hd : dstB o.dst N = true) : SpOk K N (o, none) ⟨slotsOf (x :: c.args.toList), o.dst, v, [], []⟩ E L := by
  intro C0 ds F _ n Q r E' L' hE hL h
  have ha := opS_agree (K := K) (l := x :: c.args.toList) (fun t ht => ht) hE
  exact G_call hop hc ((ha x (by simp)).trans hx) ((argsS_agree fun y hy => ha y (by simp [hy])).trans has) (hf.use hb hr ⟨_, dstB_ok v hd, h⟩)

/-- A guard that is told. -/
theorem Sp_run {t : Nat} {b : Bool} {s : Sp} (hg : getE E t = .bool b) (ht : Nat.blt t N = true) (hd : dstB o.dst N = true) (h : SpOk K N (o, none) s E L) : SpOk K N (o, some (t, b)) ⟨t :: s.rs, s.dst, s.v, s.R, s.W⟩ E L := by
  intro C0 ds F _ n Q r E' L' hE hL hk
  refine G_guard (c := b) ((hE t (by simp)).trans hg) (Nat.le_of_ble_eq_true ht) (fun _ => ?_) (fun e => by cases b <;> cases e) ?_
  · exact h C0 ds F n Q r E' L' (fun u hu => hE u (by simp at hu ⊢; exact .inr hu)) hL hk
  · exact fun d e => by rw [e] at hd; exact Nat.le_of_ble_eq_true hd
theorem Sp_not {t : Nat} {b c : Bool} (hg : getE E t = .bool c) (hc : c = !b) (ht : Nat.blt t N = true) (hd : dstB o.dst N = true) : SpOk K N (o, some (t, b)) ⟨[t], o.dst, .tup [], [], []⟩ E L := by
  intro C0 ds F _ n Q r E' L' hE hL hk
  refine G_guard (c := c) ((hE t (by simp)).trans hg) (Nat.le_of_ble_eq_true ht) (fun e => by subst hc; cases b <;> cases e) (fun _ => ?_) (fun d e => by rw [e] at hd; exact Nat.le_of_ble_eq_true hd)
  rw [set_eq]; exact hk
end

section
variable {K : Ctx} {N : Nat} {E : List (Nat × AV)} {L : List (Nat × AObj)} {o : Oper}
theorem Sp_none {t : Nat} {b : Bool} (hg : getE E t = .tup []) (ht : Nat.blt t N = true) (hd : dstB o.dst N = true) : SpOk K N (o, some (t, b)) ⟨[t], o.dst, .tup [], [], []⟩ E L := by
  intro C0 ds F _ n Q r E' L' hE hL hk
  refine G_guard_none ((hE t (by simp)).trans hg) (Nat.le_of_ble_eq_true ht) ?_ (fun d e => by rw [e] at hd; exact Nat.le_of_ble_eq_true hd)
  rw [set_eq]; exact hk
end
/-! ### Regions, drawn or not -/
section
variable {K : Ctx} {C0 : Cfg} {N : Nat} {ds : Nat × Nat} {F : Fence} {n : Nat} {Q : Exit → Act → World → Prop} {ops : Array Oper} {E : List (Nat × AV)} {L : List (Nat × AObj)} {x : Oper × Option (Nat × Bool)} {r : List (Oper × Option (Nat × Bool))} {s : Sp}

/-- One more operation, in the order of the text. -/
theorem G_sp [OpenF F] (hs : SpOk K N x s E L) (h : G K C0 ⟨putE E s.dst s.v, N, ds⟩ (s.W ++ L) (wpG F n K.P Q r)) : G K C0 ⟨E, N, ds⟩ L (wpG F n K.P Q (x :: r)) := hs C0 ds F n Q r E L (fun _ _ => rfl) (fun _ _ => rfl) h

/-- A drawn region under way. -/
def DrawG (K : Ctx) (C0 : Cfg) (N : Nat) (ds : Nat × Nat) (ops : Array Oper) (done : List Sk) (gs : List (Oper × Option (Nat × Bool))) (E : List (Nat × AV)) (L : List (Nat × AObj)) (X : Act → World → Prop) : Prop :=
  ∃ ss E1 L1, SpsOk K N gs ss E L E1 L1 ∧ chk ops (done ++ ss.map (·.sk)) = true ∧ G K C0 ⟨E1, N, ds⟩ L1 X
theorem G_drawn [OpenF F] {id : Nat} {gs : List (Oper × Option (Nat × Bool))} (hm : K.P.follows .mixedOrders = true) (hg : withGuards ops ops.toList = some gs) (h : DrawG K C0 N ds ops [] gs E L (Q .normal)) :
    G K C0 ⟨E, N, ds⟩ L ((Code.region id ops true).wpIn F n K.P Q) := by
  obtain ⟨ss, E1, L1, h1, h2, h3⟩ := h
  exact G_draw hm hg h1 h2 h3
theorem D_sp {X : Act → World → Prop} {done : List Sk} (hs : SpOk K N x s E L) (h : DrawG K C0 N ds ops (done ++ [s.sk]) r (putE E s.dst s.v) (s.W ++ L) X) : DrawG K C0 N ds ops done (x :: r) E L X := by
  obtain ⟨ss, E1, L1, h1, h2, h3⟩ := h
  exact ⟨s :: ss, E1, L1, .cons hs h1, by simpa using h2, h3⟩
theorem D_nil {X : Act → World → Prop} {done : List Sk} (hc : chk ops done = true) (h : G K C0 ⟨E, N, ds⟩ L X) : DrawG K C0 N ds ops done [] E L X := ⟨[], E, L, .nil, by simpa using hc, h⟩
end
end Go.Asl
/- Names changed, objects hidden or forgotten. -/
set_option linter.unusedVariables false
set_option linter.unusedSimpArgs false
namespace Go.Asl
open Go.RowKit

mutual
/-- The names changed. -/
def ren (ρ : Nat → Nat) : AV → AV
  | .undef => .undef
  | .int k n => .int k n
  | .bool b => .bool b
  | .str s => .str s
  | .nils => .nils
  | .lst xs => .lst xs
  | .clip xs => .clip xs
  | .own n => .own (ρ n)
  | .ptr n o => .ptr (ρ n) o
  | .eptr n s i o => .eptr (ρ n) s i o
  | .rptr x o => .rptr x o
  | .agg cs => .agg (renL ρ cs)
  | .tup cs => .tup (renL ρ cs)
  | .fn f as bs => .fn f (renL ρ as) (renL ρ bs)
  | .yld n => .yld (ρ n)
  | .map n => .map (ρ n)
  | .nilmap => .nilmap
  | .nilfn => .nilfn
  | .niliface => .niliface
def renL (ρ : Nat → Nat) : List AV → List AV
  | [] => []
  | a :: r => ren ρ a :: renL ρ r
end
mutual
/-- All names are such. -/
def okA (kb : Nat → Bool) : AV → Bool
  | .own n => kb n
  | .ptr n _ => kb n
  | .eptr n _ _ _ => kb n
  | .yld n => kb n
  | .map n => kb n
  | .agg cs => okL kb cs
  | .tup cs => okL kb cs
  | .fn _ as bs => okL kb as && okL kb bs
  | _ => true
def okL (kb : Nat → Bool) : List AV → Bool
  | [] => true
  | a :: r => okA kb a && okL kb r
end
mutual
theorem ren_id : ∀ (a : AV), ren (fun n => n) a = a
  | .undef => rfl
  | .int .. => rfl
  | .bool .. => rfl
  | .str .. => rfl
  | .nils => rfl
  | .lst .. => rfl
  | .clip .. => rfl
  | .own .. => rfl
  | .ptr .. => rfl
  | .eptr .. => rfl
  | .rptr .. => rfl
  | .agg cs => by simp only [ren, renL_id cs]
  | .tup cs => by simp only [ren, renL_id cs]
  | .fn f as bs => by simp only [ren, renL_id as, renL_id bs]
  | .yld .. => rfl
  | .map .. => rfl
  | .nilmap => rfl
  | .nilfn => rfl
  | .niliface => rfl
theorem renL_id : ∀ (l : List AV), renL (fun n => n) l = l
  | [] => rfl
  | a :: r => by simp only [renL, ren_id a, renL_id r]
end
/-- From one reading to another. -/
structure TrV (kb : Nat → Bool) (σ τ : Nat → Nat) (C C' : VC) : Prop where
  kn : ∀ n, kb n = true → C.kn (σ n) → C'.kn (τ n) ∧ C'.φ (τ n) = C.φ (σ n)
  st : ∀ b, C.st b → C'.st b ∧ C'.w.heap[b]? = C.w.heap[b]?
theorem TrV.bare {kb : Nat → Bool} {σ τ : Nat → Nat} {C C' : VC} (h : TrV kb σ τ C C') : VStp C.bare C'.bare := ⟨fun _ h => h.elim, h.st⟩
theorem lies_bare {C C' : VC} {ad : Addr} {cs : List Value} (h : Lies C ad cs) (k : VStp C.bare C'.bare) : Lies C' ad cs := Lies.step (C := C.bare) (C' := C'.bare) h k

mutual
theorem VE.tr {kb : Nat → Bool} {σ τ : Nat → Nat} {C C' : VC} (k : TrV kb σ τ C C') : ∀ {a : AV} {cs : List Value}, okA kb a = true → VE C (ren σ a) cs → VE C' (ren τ a) cs
  | .undef, _, _, h => by simp only [ren, VE] at h ⊢; exact h
  | .int .., _, _, h => by simp only [ren, VE] at h ⊢; exact h
  | .bool .., _, _, h => by simp only [ren, VE] at h ⊢; exact h
  | .str .., _, _, h => by simp only [ren, VE] at h ⊢; exact h
  | .nils, _, _, h => by simp only [ren, VE] at h ⊢; exact h
  | .lst xs, _, _, h => by
    simp only [ren, VE] at h ⊢
    obtain ⟨A, c, sz, us, h1, h2, h3, h4⟩ := h
    exact ⟨A, c, sz, us, h1, h2, VErow.step k.bare h3, fun hx => by obtain ⟨ad, e, l⟩ := h4 hx; exact ⟨ad, e, lies_bare l k.bare⟩⟩
  | .clip xs, _, _, h => by
    simp only [ren, VE] at h ⊢
    obtain ⟨A, sz, us, h1, h3, h4⟩ := h
    exact ⟨A, sz, us, h1, VErow.step k.bare h3, fun hx => by obtain ⟨ad, e, l⟩ := h4 hx; exact ⟨ad, e, lies_bare l k.bare⟩⟩
  | .own n, _, ho, h => by
    simp only [ren, VE, okA] at h ho ⊢
    obtain ⟨h1, h2, h3⟩ := h
    obtain ⟨k1, k2⟩ := k.kn n ho h1
    rw [k2]
    exact ⟨k1, h2, h3⟩
  | .ptr n _, _, ho, h => by
    simp only [ren, VE, okA] at h ho ⊢
    obtain ⟨h1, h2⟩ := h
    obtain ⟨k1, k2⟩ := k.kn n ho h1
    rw [k2]
    exact ⟨k1, h2⟩
  | .eptr n .., _, ho, h => by
    simp only [ren, VE, okA] at h ho ⊢
    obtain ⟨h1, h2⟩ := h
    obtain ⟨k1, k2⟩ := k.kn n ho h1
    rw [k2]
    exact ⟨k1, h2⟩
  | .rptr x _, _, _, h => by
    simp only [ren, VE] at h ⊢
    obtain ⟨ad, us, h1, h2, h3⟩ := h
    exact ⟨ad, us, h1, VE.step k.bare h2, lies_bare h3 k.bare⟩
  | .agg as, _, ho, h => by simp only [ren, VE, okA] at h ho ⊢; exact VEs.tr k ho h
  | .tup _, _, _, h => by simp only [ren, VE] at h
  | .fn _ as bs, _, ho, h => by
    simp only [ren, VE, okA, Bool.and_eq_true] at h ho ⊢
    obtain ⟨us, vs, h1, h2, h3⟩ := h
    exact ⟨us, vs, h1, VVs.tr k ho.1 h2, VVs.tr k ho.2 h3⟩
  | .yld n, _, ho, h => by
    simp only [ren, VE, okA] at h ho ⊢
    obtain ⟨h1, h2⟩ := h
    obtain ⟨k1, k2⟩ := k.kn n ho h1
    rw [k2]
    exact ⟨k1, h2⟩
  | .map n, _, ho, h => by
    simp only [ren, VE, okA] at h ho ⊢
    obtain ⟨h1, h2⟩ := h
    obtain ⟨k1, k2⟩ := k.kn n ho h1
    rw [k2]
    exact ⟨k1, h2⟩
  | .nilmap, _, _, h => by simp only [ren, VE] at h ⊢; exact h
  | .nilfn, _, _, h => by simp only [ren, VE] at h ⊢; exact h
  | .niliface, _, _, h => by simp only [ren, VE] at h ⊢; exact h
theorem VEs.tr {kb : Nat → Bool} {σ τ : Nat → Nat} {C C' : VC} (k : TrV kb σ τ C C') : ∀ {as : List AV} {cs : List Value}, okL kb as = true → VEs C (renL σ as) cs → VEs C' (renL τ as) cs
  | [], _, _, h => by simp only [renL, VEs] at h ⊢; exact h
  | a :: as, _, ho, h => by
    simp only [renL, VEs, okL, Bool.and_eq_true] at h ho ⊢
    obtain ⟨c, r, h1, h2, h3⟩ := h
    exact ⟨c, r, h1, VE.tr k ho.1 h2, VEs.tr k ho.2 h3⟩
theorem VV.tr {kb : Nat → Bool} {σ τ : Nat → Nat} {C C' : VC} (k : TrV kb σ τ C C') : ∀ {a : AV} {v : Value}, okA kb a = true → VV C (ren σ a) v → VV C' (ren τ a) v
  | .undef, _, _, _ => by simp only [ren, VV]
  | .int .., _, _, h => by simp only [ren, VV] at h ⊢; exact h
  | .bool .., _, _, h => by simp only [ren, VV] at h ⊢; exact h
  | .str .., _, _, h => by simp only [ren, VV] at h ⊢; exact h
  | .nils, _, _, h => by simp only [ren, VV] at h ⊢; exact h
  | .lst xs, _, _, h => by
    simp only [ren, VV] at h ⊢
    obtain ⟨A, c, sz, us, h1, h2, h3, h4⟩ := h
    exact ⟨A, c, sz, us, h1, h2, VErow.step k.bare h3, fun hx => by obtain ⟨ad, e, l⟩ := h4 hx; exact ⟨ad, e, lies_bare l k.bare⟩⟩
  | .clip xs, _, _, h => by
    simp only [ren, VV] at h ⊢
    obtain ⟨A, sz, us, h1, h3, h4⟩ := h
    exact ⟨A, sz, us, h1, VErow.step k.bare h3, fun hx => by obtain ⟨ad, e, l⟩ := h4 hx; exact ⟨ad, e, lies_bare l k.bare⟩⟩
  | .own n, _, ho, h => by
    simp only [ren, VV, okA] at h ho ⊢
    obtain ⟨h1, h2, h3⟩ := h
    obtain ⟨k1, k2⟩ := k.kn n ho h1
    rw [k2]
    exact ⟨k1, h2, h3⟩
  | .ptr n _, _, ho, h => by
    simp only [ren, VV, okA] at h ho ⊢
    obtain ⟨h1, h2⟩ := h
    obtain ⟨k1, k2⟩ := k.kn n ho h1
    rw [k2]
    exact ⟨k1, h2⟩
  | .eptr n .., _, ho, h => by
    simp only [ren, VV, okA] at h ho ⊢
    obtain ⟨h1, h2⟩ := h
    obtain ⟨k1, k2⟩ := k.kn n ho h1
    rw [k2]
    exact ⟨k1, h2⟩
  | .rptr x _, _, _, h => by
    simp only [ren, VV] at h ⊢
    obtain ⟨ad, us, h1, h2, h3⟩ := h
    exact ⟨ad, us, h1, VE.step k.bare h2, lies_bare h3 k.bare⟩
  | .agg as, _, ho, h => by
    simp only [ren, VV, okA] at h ho ⊢
    obtain ⟨us, h1, h2⟩ := h
    exact ⟨us, h1, VEs.tr k ho h2⟩
  | .tup as, _, ho, h => by
    simp only [ren, VV, okA] at h ho ⊢
    obtain ⟨us, h1, h2⟩ := h
    exact ⟨us, h1, VVs.tr k ho h2⟩
  | .fn _ as bs, _, ho, h => by
    simp only [ren, VV, okA, Bool.and_eq_true] at h ho ⊢
    obtain ⟨us, vs, h1, h2, h3⟩ := h
    exact ⟨us, vs, h1, VVs.tr k ho.1 h2, VVs.tr k ho.2 h3⟩
  | .yld n, _, ho, h => by
    simp only [ren, VV, okA] at h ho ⊢
    obtain ⟨h1, h2⟩ := h
    obtain ⟨k1, k2⟩ := k.kn n ho h1
    rw [k2]
    exact ⟨k1, h2⟩
  | .map n, _, ho, h => by
    simp only [ren, VV, okA] at h ho ⊢
    obtain ⟨h1, h2⟩ := h
    obtain ⟨k1, k2⟩ := k.kn n ho h1
    rw [k2]
    exact ⟨k1, h2⟩
  | .nilmap, _, _, h => by simp only [ren, VV] at h ⊢; exact h
  | .nilfn, _, _, h => by simp only [ren, VV] at h ⊢; exact h
  | .niliface, _, _, h => by simp only [ren, VV] at h ⊢; exact h
theorem VVs.tr {kb : Nat → Bool} {σ τ : Nat → Nat} {C C' : VC} (k : TrV kb σ τ C C') : ∀ {as : List AV} {cs : List Value}, okL kb as = true → VVs C (renL σ as) cs → VVs C' (renL τ as) cs
  | [], _, _, h => by simp only [renL, VVs] at h ⊢; exact h
  | a :: as, _, ho, h => by
    simp only [renL, VVs, okL, Bool.and_eq_true] at h ho ⊢
    obtain ⟨c, r, h1, h2, h3⟩ := h
    exact ⟨c, r, h1, VV.tr k ho.1 h2, VVs.tr k ho.2 h3⟩
end

/-! ### Objects -/
def renE (ρ : Nat → Nat) : List (Nat × AV) → List (Nat × AV)
  | [] => []
  | (t, a) :: r => (t, ren ρ a) :: renE ρ r
def okE (kb : Nat → Bool) : List (Nat × AV) → Bool
  | [] => true
  | (_, a) :: r => okA kb a && okE kb r
theorem getE_ren {ρ : Nat → Nat} : ∀ {E : List (Nat × AV)} {t : Nat}, getE (renE ρ E) t = ren ρ (getE E t)
  | [], t => rfl
  | (k, a) :: r, t => by
    simp only [renE, getE_cons]
    split
    · rfl
    · exact getE_ren
theorem okE_get {kb : Nat → Bool} : ∀ {E : List (Nat × AV)} {t : Nat}, okE kb E = true → okA kb (getE E t) = true
  | [], t, h => rfl
  | (k, a) :: r, t, h => by
    simp only [okE, Bool.and_eq_true] at h
    rw [getE_cons]
    split
    · exact h.1
    · exact okE_get h.2
def renO (ρ : Nat → Nat) : AObj → AObj
  | .free => .free
  | .dead => .dead
  | .box cs => .box (renL ρ cs)
  | .arr e sz xs => .arr e sz xs
  | .mp es => .mp es
  | .loop E N ps asg body st pe => .loop (renE ρ E) N ps asg body st pe
def okO (kb : Nat → Bool) : AObj → Bool
  | .box cs => okL kb cs
  | .loop E _ _ _ _ _ _ => okE kb E
  | _ => true
theorem renO_live {ρ : Nat → Nat} {o : AObj} : (renO ρ o).live = o.live := by cases o <;> rfl
theorem renO_known {ρ : Nat → Nat} {o : AObj} : (renO ρ o).known = o.known := by cases o <;> rfl
theorem renO_id (o : AObj) : renO (fun n => n) o = o := by
  cases o with
  | box cs => simp only [renO, renL_id]
  | loop E N ps asg body st pe =>
    simp only [renO]
    congr 1
    induction E with
    | nil => rfl
    | cons x r ih => obtain ⟨t, a⟩ := x; simp only [renE, ren_id, ih]
  | _ => rfl

/-- An object read elsewhere, under another name. -/
theorem ObjR.tr {kb : Nat → Bool} {σ τ : Nat → Nat} {C C' : Cfg} (k : TrV kb σ τ C.v C'.v) {n : Nat} {o : AObj} (ho : okO kb o = true) (hl : o.live = true) (hφ : C'.φ (τ n) = C.φ (σ n))
    (hb : ∀ b, blk (C.φ (σ n)) = some b → C'.w.heap[b]? = C.w.heap[b]?) (h : ObjR C (σ n) (renO σ o)) : ObjR C' (τ n) (renO τ o) := by
  cases o with
  | free => trivial
  | dead => trivial
  | box cs =>
    obtain ⟨b, T, us, h1, h2, h3⟩ := h
    exact ⟨b, T, us, hφ.trans h1, (hb b (by rw [h1]; rfl)).trans h2, VEs.tr k ho h3⟩
  | arr e sz xs =>
    obtain ⟨inner, h1, h2⟩ := h
    refine ⟨inner, ?_, VErow.step k.bare h2⟩
    rw [hφ]
    exact owns_keep h1 hb
  | mp es =>
    obtain ⟨r, ents, clk, h1, h2, h3, h4⟩ := h
    exact ⟨r, ents, clk, hφ.trans h1, (hb r (by rw [h1]; rfl)).trans h2, h3, fun i e x he hv => ⟨VV.step k.bare (h4 i e x he hv).1, VV.step k.bare (h4 i e x he hv).2⟩⟩
  | loop E N ps asg body st pe =>
    obtain ⟨l, r, h1, h2, h3, h4, h5, h6, h7, h8, h9⟩ := h
    refine ⟨l, r, hφ.trans h1, (hb l (by rw [h1]; rfl)).trans h2, h3, h4, h5, h6, h7, h8, fun t => ?_⟩
    have := h9 t
    rw [getE_ren] at this ⊢
    exact VV.tr k (okE_get ho) this

def kB (S : Nat → AObj) (n : Nat) : Bool := (S n).known

/-! ### A part of the store, under other names -/
/-- The configuration as a part sees it. -/
def Hid (C : Cfg) (ρ : Nat → Nat) (S : Nat → AObj) : Cfg :=
  ⟨fun n => C.φ (ρ n), S, C.w, fun b => C.fb b ∨ ∃ n, (C.S n).live = true ∧ blk (C.φ n) = some b ∧ ∀ k, (S k).live = true → ρ k ≠ n⟩
structure HidOk (kb : Nat → Bool) (C : Cfg) (ρ : Nat → Nat) (S : Nat → AObj) : Prop where
  obj : ∀ k, (S k).live = true → C.S (ρ k) = renO ρ (S k) ∧ okO kb (S k) = true
  kbk : ∀ k, kb k = true → (C.S (ρ k)).known = true → (S k).known = true
  inj : ∀ k k', (S k).live = true → (S k').live = true → k ≠ k' → ρ k ≠ ρ k'

theorem Hid.tr {kb : Nat → Bool} {C : Cfg} {ρ : Nat → Nat} {S : Nat → AObj} (h : HidOk kb C ρ S) : TrV kb ρ (fun n => n) C.v (Hid C ρ S).v := by
  refine ⟨fun n hn hk => ⟨h.kbk n hn hk, rfl⟩, fun b hb => ⟨⟨⟨hb.1.1, fun k hk => ?_⟩, ?_⟩, rfl⟩⟩
  · have := (h.obj k hk).1
    exact hb.1.2 (ρ k) (by rw [this, renO_live]; exact hk)
  · rintro (hf | ⟨n, h1, h2, _⟩)
    · exact hb.2 hf
    · exact hb.1.2 n h1 h2
theorem Hid.sim {kb : Nat → Bool} {C : Cfg} {ρ : Nat → Nat} {S : Nat → AObj} (hS : Sim C) (h : HidOk kb C ρ S) : Sim (Hid C ρ S) := by
  have hlive : ∀ k, (S k).live = true → (C.S (ρ k)).live = true := fun k hk => by rw [(h.obj k hk).1, renO_live]; exact hk
  refine ⟨fun k => ?_, fun k b hk hb => ?_, fun b hb => ?_, fun k m b hne hk hm hbk hbm => ?_⟩
  · by_cases hk : (S k).live = true
    · obtain ⟨h1, h2⟩ := h.obj k hk
      have ho := hS.obj (ρ k)
      rw [h1] at ho
      have := ObjR.tr (σ := ρ) (τ := fun n => n) (C' := Hid C ρ S) (Hid.tr h) h2 hk rfl (fun _ _ => rfl) ho
      rwa [renO_id] at this
    · show ObjR _ k (S k)
      cases hn : S k <;> first | trivial | (rw [hn] at hk; simp [AObj.live] at hk)
  · rintro (hf | ⟨n, h1, h2, h3⟩)
    · exact hS.fbl (ρ k) b (hlive k hk) hb hf
    · by_cases e : ρ k = n
      · exact h3 k hk e
      · exact hS.disj (ρ k) n b e (hlive k hk) h1 hb h2
  · rcases hb with hb | ⟨n, h1, h2, _⟩
    · exact hS.fbs b hb
    · exact hS.lt h1 h2
  · exact hS.disj (ρ k) (ρ m) b (h.inj k m hk hm hne) (hlive k hk) (hlive m hm) hbk hbm
theorem Hid.glob {K : Ctx} {kb : Nat → Bool} {C : Cfg} {ρ : Nat → Nat} {S : Nat → AObj} (hG : GlobR K C) (h : HidOk kb C ρ S) : GlobR K (Hid C ρ S) := fun g x hg => by
  obtain ⟨us, h1, h2⟩ := hG g x hg
  exact ⟨us, VE.step (Hid.tr h).bare h1, h2.step (Hid.tr h).bare⟩

/-- How the whole stands when the part has moved on. -/
structure HidBack (kb : Nat → Bool) (C : Cfg) (ρ : Nat → Nat) (S : Nat → AObj) (D C' : Cfg) (ρ' : Nat → Nat) : Prop where
  w : C'.w = D.w
  fb : C'.fb = C.fb
  obj : ∀ k, (D.S k).live = true → C'.S (ρ' k) = renO ρ' (D.S k) ∧ okO kb (D.S k) = true
  live : ∀ c, (C'.S c).live = true → (∃ k, (D.S k).live = true ∧ ρ' k = c) ∨ ((C.S c).live = true ∧ (∀ k, (S k).live = true → ρ k ≠ c) ∧ C'.S c = C.S c)
  old : ∀ c, (C.S c).known = true → (C'.S c).known = true ∧ C'.φ c = C.φ c
  kn : ∀ k, (D.S k).known = true → (C'.S (ρ' k)).known = true ∧ C'.φ (ρ' k) = D.φ k
  inj : ∀ k k', (D.S k).live = true → (D.S k').live = true → k ≠ k' → ρ' k ≠ ρ' k'

theorem HidBack.ok {kb kb' : Nat → Bool} {C D C' : Cfg} {ρ ρ' : Nat → Nat} {S : Nat → AObj} (hS : Sim C) (h : HidOk kb C ρ S) (hs : Stp (Hid C ρ S) D) (hD : Sim D) (hb : HidBack kb' C ρ S D C' ρ') :
    Stp C C' ∧ Sim C' ∧ TrV kb' (fun n => n) ρ' D.v C'.v := by
  have hrest : ∀ b, C.rest b → (Hid C ρ S).rest b := fun b hb' => ⟨hb'.1, fun k hk => hb'.2 (ρ k) (by rw [(h.obj k hk).1, renO_live]; exact hk)⟩
  -- blocks of what is hidden
  have hhid : ∀ c b, (C.S c).live = true → (∀ k, (S k).live = true → ρ k ≠ c) → blk (C.φ c) = some b → (Hid C ρ S).rest b ∧ D.fb b := fun c b h1 h2 h3 => by
    refine ⟨⟨hS.lt h1 h3, fun k hk e => ?_⟩, hs.fb b (.inr ⟨c, h1, h3, h2⟩)⟩
    exact hS.disj (ρ k) c b (h2 k hk) (by rw [(h.obj k hk).1, renO_live]; exact hk) h1 e h3
  have hfb : ∀ b, C.fb b → D.fb b := fun b hb' => hs.fb b (.inl hb')
  -- what has moved on lies apart from what is hidden
  have hrest' : ∀ b, C.rest b → C'.rest b ∧ C'.w.heap[b]? = C.w.heap[b]? := fun b hb' => by
    obtain ⟨r1, r2⟩ := hs.rest b (hrest b hb')
    refine ⟨⟨by rw [hb.w]; exact r1.1, fun c hc e => ?_⟩, by rw [hb.w]; exact r2⟩
    rcases hb.live c hc with ⟨k, hk, rfl⟩ | ⟨h1, h2, h3⟩
    · rw [(hb.kn k (live_known hk)).2] at e
      exact r1.2 k hk e
    · rw [(hb.old c (live_known h1)).2] at e
      exact hb'.2 c h1 e
  have hstp : Stp C C' := ⟨hb.old, hrest', fun b hf => by rw [hb.fb]; exact hf, fun b _ hf => by rw [← hb.fb]; exact hf, by rw [hb.w]; exact hs.os, by rw [hb.w]; exact hs.tape, by rw [hb.w]; exact hs.output, by rw [hb.w]; exact hs.size⟩
  have htr : TrV kb' (fun n => n) ρ' D.v C'.v := by
    refine ⟨fun n _ hn => hb.kn n hn, fun b hst => ⟨⟨⟨by rw [hb.w]; exact hst.1.1, fun c hc e => ?_⟩, ?_⟩, by show C'.w.heap[b]? = D.w.heap[b]?; rw [hb.w]⟩⟩
    · rcases hb.live c hc with ⟨k, hk, rfl⟩ | ⟨h1, h2, h3⟩
      · rw [(hb.kn k (live_known hk)).2] at e
        exact hst.1.2 k hk e
      · rw [(hb.old c (live_known h1)).2] at e
        exact hst.2 (hhid c b h1 h2 e).2
    · rw [hb.fb]; exact fun hf => hst.2 (hfb b hf)
  refine ⟨hstp, ⟨fun c => ?_, fun c b hc e => ?_, fun b hf => ?_, fun c d b hcd hc hd e1 e2 => ?_⟩, htr⟩
  · by_cases hc : (C'.S c).live = true
    · rcases hb.live c hc with ⟨k, hk, rfl⟩ | ⟨h1, h2, h3⟩
      · obtain ⟨g1, g2⟩ := hb.obj k hk
        rw [g1]
        refine ObjR.tr (σ := fun n => n) (C := D) htr g2 hk (hb.kn k (live_known hk)).2 (fun b _ => by rw [hb.w]) ?_
        rw [renO_id]
        exact hD.obj k
      · rw [h3]
        exact (hS.obj c).keep hstp h1 (live_known h1) fun b e => by rw [hb.w]; exact (hs.rest b (hhid c b h1 h2 e).1).2
    · cases hn : C'.S c <;> first | trivial | (rw [hn] at hc; simp [AObj.live] at hc)
  · rw [hb.fb]
    rcases hb.live c hc with ⟨k, hk, rfl⟩ | ⟨h1, h2, h3⟩
    · rw [(hb.kn k (live_known hk)).2] at e
      exact fun hf => hD.fbl k b hk e (hfb b hf)
    · rw [(hb.old c (live_known h1)).2] at e
      exact hS.fbl c b h1 e
  · rw [hb.fb] at hf
    rw [hb.w]
    exact hD.fbs b (hfb b hf)
  · have apart : ∀ {k c : Nat}, (D.S k).live = true → (C.S c).live = true → (∀ k, (S k).live = true → ρ k ≠ c) → blk (C'.φ (ρ' k)) = some b → blk (C'.φ c) = some b → False := fun {k c} hk h1 h2 e1 e2 => by
      rw [(hb.kn k (live_known hk)).2] at e1
      rw [(hb.old c (live_known h1)).2] at e2
      exact hD.fbl k b hk e1 (hhid c b h1 h2 e2).2
    rcases hb.live c hc with ⟨k, hk, rfl⟩ | ⟨h1, h2, h3⟩
    · rcases hb.live d hd with ⟨k', hk', rfl⟩ | ⟨g1, g2, g3⟩
      · rw [(hb.kn k (live_known hk)).2] at e1
        rw [(hb.kn k' (live_known hk')).2] at e2
        exact hD.disj k k' b (fun e => hcd (by rw [e])) hk hk' e1 e2
      · exact apart hk g1 g2 e1 e2
    · rcases hb.live d hd with ⟨k', hk', rfl⟩ | ⟨g1, g2, g3⟩
      · exact apart hk' h1 h2 e2 e1
      · rw [(hb.old c (live_known h1)).2] at e1
        rw [(hb.old d (live_known g1)).2] at e2
        exact hS.disj c d b hcd h1 g1 e1 e2
end Go.Asl
/- Rules that change how the state is told: values rewritten, objects frozen, forgotten, renamed; calls with contracts on objects. -/
set_option linter.unusedVariables false
set_option linter.unusedSimpArgs false
namespace Go.Asl
open Go.RowKit

section
variable {K : Ctx} {C0 : Cfg} {E : List (Nat × AV)} {N : Nat} {ds : Nat × Nat} {L : List (Nat × AObj)} {X : Act → World → Prop}

theorem getE_same {E : List (Nat × AV)} {t : Nat} {v : AV} (h : getE E t = v) (u : Nat) : getE ((t, v) :: E) u = getE E u := by
  rw [getE_cons]; split
  · rename_i e; rw [e, h]
  · rfl
theorem getS_same {L : List (Nat × AObj)} {t : Nat} {v : AObj} (h : getS L t = v) (u : Nat) : getS ((t, v) :: L) u = getS L u := by
  rw [getS_cons]; split
  · rename_i e; rw [e, h]
  · rfl
/-- A slot's value in other words. -/
theorem G_val {t : Nat} {v v' : AV} (hv : getE E t = v) (e : v = v') (h : G K C0 ⟨(t, v') :: E, N, ds⟩ L X) : G K C0 ⟨E, N, ds⟩ L X := by
  subst e
  exact h.same (fun u => (getE_same hv u).symm) fun _ => rfl
/-- An object in other words. -/
theorem G_obj {t : Nat} {v v' : AObj} (hv : getS L t = v) (e : v = v') (h : G K C0 ⟨E, N, ds⟩ ((t, v') :: L) X) : G K C0 ⟨E, N, ds⟩ L X := by
  subst e
  exact h.same (fun _ => rfl) fun u => (getS_same hv u).symm

theorem SpOk.same {x : Oper × Option (Nat × Bool)} {s : Sp} {E' : List (Nat × AV)} {L' : List (Nat × AObj)} (h : SpOk K N x s E L) (hE : ∀ t, getE E' t = getE E t) (hL : ∀ m, getS L' m = getS L m) : SpOk K N x s E' L' := by
  intro C0 ds F _ n Q r E2 L2 h1 h2 h3
  exact h C0 ds F n Q r E2 L2 (fun t ht => (h1 t ht).trans (hE t)) (fun m hm => (h2 m hm).trans (hL m)) h3
theorem SpsOk.same {gs : List (Oper × Option (Nat × Bool))} {ss : List Sp} {E1 : List (Nat × AV)} {L1 : List (Nat × AObj)} (h : SpsOk K N gs ss E L E1 L1) : ∀ {E' : List (Nat × AV)} {L' : List (Nat × AObj)}, (∀ t, getE E' t = getE E t) → (∀ m, getS L' m = getS L m) →
    ∃ E1' L1', SpsOk K N gs ss E' L' E1' L1' ∧ (∀ t, getE E1' t = getE E1 t) ∧ ∀ m, getS L1' m = getS L1 m := by
  induction h with
  | nil => intro E' L' hE hL; exact ⟨E', L', .nil, hE, hL⟩
  | @cons x s E L gs ss E1 L1 h1 h2 ih =>
    intro E' L' hE hL
    obtain ⟨E1', L1', k1, k2, k3⟩ := ih (E' := putE E' s.dst s.v) (L' := s.W ++ L') (fun t => by rw [getE_put, getE_put, hE]) (fun m => by rw [getS_append, getS_append, hL])
    exact ⟨E1', L1', .cons (h1.same hE hL) k1, k2, k3⟩
theorem DrawG.same {ops : Array Oper} {done : List Sk} {gs : List (Oper × Option (Nat × Bool))} {E' : List (Nat × AV)} {L' : List (Nat × AObj)} (h : DrawG K C0 N ds ops done gs E L X) (hE : ∀ t, getE E' t = getE E t) (hL : ∀ m, getS L' m = getS L m) : DrawG K C0 N ds ops done gs E' L' X := by
  obtain ⟨ss, E1, L1, h1, h2, h3⟩ := h
  obtain ⟨E1', L1', k1, k2, k3⟩ := h1.same hE hL
  exact ⟨ss, E1', L1', k1, h2, h3.same k2 k3⟩
theorem D_val {ops : Array Oper} {done : List Sk} {gs : List (Oper × Option (Nat × Bool))} {t : Nat} {v v' : AV} (hv : getE E t = v) (e : v = v') (h : DrawG K C0 N ds ops done gs ((t, v') :: E) L X) : DrawG K C0 N ds ops done gs E L X := by
  subst e
  exact h.same (fun u => (getE_same hv u).symm) fun _ => rfl
theorem D_obj {ops : Array Oper} {done : List Sk} {gs : List (Oper × Option (Nat × Bool))} {t : Nat} {v v' : AObj} (hv : getS L t = v) (e : v = v') (h : DrawG K C0 N ds ops done gs E ((t, v') :: L) X) : DrawG K C0 N ds ops done gs E L X := by
  subst e
  exact h.same (fun _ => rfl) fun u => (getS_same hv u).symm
end

/-! ### Freezing -/
mutual
/-- The object n's values in other words. -/
def frz (n : Nat) (ow : AV) (pt : Nat → AV) : AV → AV
  | .own m => match Nat.beq m n with
    | true => ow
    | false => .own m
  | .ptr m o => match Nat.beq m n with
    | true => pt o
    | false => .ptr m o
  | .agg cs => .agg (frzL n ow pt cs)
  | .tup cs => .tup (frzL n ow pt cs)
  | .fn f as bs => .fn f (frzL n ow pt as) (frzL n ow pt bs)
  | .undef => .undef
  | .int k n => .int k n
  | .bool b => .bool b
  | .str s => .str s
  | .nils => .nils
  | .lst xs => .lst xs
  | .clip xs => .clip xs
  | .eptr n s i o => .eptr n s i o
  | .rptr x o => .rptr x o
  | .yld n => .yld n
  | .map n => .map n
  | .nilmap => .nilmap
  | .nilfn => .nilfn
  | .niliface => .niliface
def frzL (n : Nat) (ow : AV) (pt : Nat → AV) : List AV → List AV
  | [] => []
  | a :: r => frz n ow pt a :: frzL n ow pt r
end
structure FrzV (C : VC) (n : Nat) (ow : AV) (pt : Nat → AV) : Prop where
  owV : ∀ v, VV C (.own n) v → VV C ow v
  owE : ∀ cs, VE C (.own n) cs → VE C ow cs
  ptV : ∀ o v, VV C (.ptr n o) v → VV C (pt o) v
  ptE : ∀ o cs, VE C (.ptr n o) cs → VE C (pt o) cs
mutual
theorem VE.frz {C : VC} {n : Nat} {ow : AV} {pt : Nat → AV} (k : FrzV C n ow pt) : ∀ {a : AV} {cs : List Value}, VE C a cs → VE C (Go.Asl.frz n ow pt a) cs
  | .own m, _, h => by
    simp only [Go.Asl.frz]
    split
    · rename_i e; have := Nat.eq_of_beq_eq_true e; subst this; exact k.owE _ h
    · exact h
  | .ptr m o, _, h => by
    simp only [Go.Asl.frz]
    split
    · rename_i e; have := Nat.eq_of_beq_eq_true e; subst this; exact k.ptE _ _ h
    · exact h
  | .agg cs, _, h => by simp only [Go.Asl.frz, VE] at h ⊢; exact VEs.frz k h
  | .tup cs, _, h => by simp only [VE] at h
  | .fn f as bs, _, h => by
    simp only [Go.Asl.frz, VE] at h ⊢
    obtain ⟨us, vs, h1, h2, h3⟩ := h
    exact ⟨us, vs, h1, VVs.frz k h2, VVs.frz k h3⟩
  | .undef, _, h => h
  | .int .., _, h => h
  | .bool .., _, h => h
  | .str .., _, h => h
  | .nils, _, h => h
  | .lst .., _, h => h
  | .clip .., _, h => h
  | .eptr .., _, h => h
  | .rptr .., _, h => h
  | .yld .., _, h => h
  | .map .., _, h => h
  | .nilmap, _, h => h
  | .nilfn, _, h => h
  | .niliface, _, h => h
theorem VEs.frz {C : VC} {n : Nat} {ow : AV} {pt : Nat → AV} (k : FrzV C n ow pt) : ∀ {as : List AV} {cs : List Value}, VEs C as cs → VEs C (frzL n ow pt as) cs
  | [], _, h => h
  | a :: r, _, h => by
    simp only [frzL, VEs] at h ⊢
    obtain ⟨c, s, h1, h2, h3⟩ := h
    exact ⟨c, s, h1, VE.frz k h2, VEs.frz k h3⟩
theorem VV.frz {C : VC} {n : Nat} {ow : AV} {pt : Nat → AV} (k : FrzV C n ow pt) : ∀ {a : AV} {v : Value}, VV C a v → VV C (Go.Asl.frz n ow pt a) v
  | .own m, _, h => by
    simp only [Go.Asl.frz]
    split
    · rename_i e; have := Nat.eq_of_beq_eq_true e; subst this; exact k.owV _ h
    · exact h
  | .ptr m o, _, h => by
    simp only [Go.Asl.frz]
    split
    · rename_i e; have := Nat.eq_of_beq_eq_true e; subst this; exact k.ptV _ _ h
    · exact h
  | .agg cs, _, h => by
    simp only [Go.Asl.frz, VV] at h ⊢
    obtain ⟨us, h1, h2⟩ := h
    exact ⟨us, h1, VEs.frz k h2⟩
  | .tup cs, _, h => by
    simp only [Go.Asl.frz, VV] at h ⊢
    obtain ⟨us, h1, h2⟩ := h
    exact ⟨us, h1, VVs.frz k h2⟩
  | .fn f as bs, _, h => by
    simp only [Go.Asl.frz, VV] at h ⊢
    obtain ⟨us, vs, h1, h2, h3⟩ := h
    exact ⟨us, vs, h1, VVs.frz k h2, VVs.frz k h3⟩
  | .undef, _, h => h
  | .int .., _, h => h
  | .bool .., _, h => h
  | .str .., _, h => h
  | .nils, _, h => h
  | .lst .., _, h => h
  | .clip .., _, h => h
  | .eptr .., _, h => h
  | .rptr .., _, h => h
  | .yld .., _, h => h
  | .map .., _, h => h
  | .nilmap, _, h => h
  | .nilfn, _, h => h
  | .niliface, _, h => h
theorem VVs.frz {C : VC} {n : Nat} {ow : AV} {pt : Nat → AV} (k : FrzV C n ow pt) : ∀ {as : List AV} {cs : List Value}, VVs C as cs → VVs C (frzL n ow pt as) cs
  | [], _, h => h
  | a :: r, _, h => by
    simp only [frzL, VVs] at h ⊢
    obtain ⟨c, s, h1, h2, h3⟩ := h
    exact ⟨c, s, h1, VV.frz k h2, VVs.frz k h3⟩
end

section
variable {K : Ctx} {C0 : Cfg} {E : List (Nat × AV)} {N : Nat} {ds : Nat × Nat} {L : List (Nat × AObj)} {X : Act → World → Prop}

/-- A live object is let go: nobody writes it any more. -/
theorem Sim.drop {φ : Nat → Value} {w : World} {fb : Nat → Prop} {m : Nat} (hS : Sim ⟨φ, getS L, w, fb⟩) (hm : (getS L m).live = true) :
    Stp ⟨φ, getS L, w, fb⟩ ⟨φ, getS ((m, .dead) :: L), w, fb⟩ ∧ Sim ⟨φ, getS ((m, .dead) :: L), w, fb⟩ ∧ ∀ b, blk (φ m) = some b → (Cfg.v ⟨φ, getS ((m, .dead) :: L), w, fb⟩).st b := by
  obtain ⟨h1, h2⟩ := hS.turn (w' := w) hm .dead rfl ⟨rfl, rfl, rfl, Nat.le_refl _, fun _ _ _ => rfl⟩ (fun _ => trivial)
  refine ⟨h1, h2, fun b hb => ⟨⟨hS.lt hm hb, fun k hk e => ?_⟩, hS.fbl m b hm hb⟩⟩
  have hk' : (getS ((m, .dead) :: L) k).live = true := hk
  rw [getS_cons] at hk'
  split at hk'
  · simp [AObj.live] at hk'
  · rename_i hne
    exact hS.disj k m b hne hk' hm e hb

theorem G_drop {m : Nat} (hm : (getS L m).live = true) {E' : List (Nat × AV)} (hE : ∀ φ w fb, Sim ⟨φ, getS L, w, fb⟩ → Sim ⟨φ, getS ((m, .dead) :: L), w, fb⟩ → (∀ b, blk (φ m) = some b → (Cfg.v ⟨φ, getS ((m, .dead) :: L), w, fb⟩).st b) →
      VStp (Cfg.v ⟨φ, getS L, w, fb⟩) (Cfg.v ⟨φ, getS ((m, .dead) :: L), w, fb⟩) →
      ∀ vals : Nat → Value, (∀ t, VV (Cfg.v ⟨φ, getS ((m, .dead) :: L), w, fb⟩) (getE E t) (vals t)) → ∀ t, VV (Cfg.v ⟨φ, getS ((m, .dead) :: L), w, fb⟩) (getE E' t) (vals t))
    (h : G K C0 ⟨E', N, ds⟩ ((m, .dead) :: L) X) : G K C0 ⟨E, N, ds⟩ L X := fun φ w fb a h1 h2 h3 h4 => by
  obtain ⟨k1, k2, k3⟩ := h2.drop hm
  have h4' := h4.step k1
  exact h φ w fb a (h1.trans k1) k2 (h3.step k1) ⟨h4'.size, hE φ w fb h2 k2 k3 k1.v _ h4'.val, h4'.ds⟩

/-- A slice of one's own is read only from here on. -/
theorem G_freeze {m e sz : Nat} {xs : List AV} (t : Nat) {v : AV} (hm : getS L m = .arr e sz xs) (hv : force (frz m (.lst xs) (fun _ => .undef) (getE E t)) = some v)
    (h : G K C0 ⟨(t, v) :: E, N, ds⟩ ((m, .dead) :: L) X) : G K C0 ⟨E, N, ds⟩ L X := by
  refine G_drop (m := m) (by rw [hm]; rfl) (fun φ w fb h2 k2 k3 kv vals hvals u => ?_) h
  rw [getE_cons]
  split
  · rename_i e
    subst e
    rw [force_eq hv]
    have ho := h2.obj m
    rw [show (Cfg.mk φ (getS L) w fb).S m = .arr e sz xs from hm] at ho
    obtain ⟨inner, ho, hr⟩ := ho
    have hrd := own_rd h2 (C := ⟨φ, getS L, w, fb⟩) hm
    obtain ⟨A, c, us, e1, e2, e3, e4⟩ := hrd
    have hlst : ∀ v, VV (Cfg.v ⟨φ, getS ((m, .dead) :: L), w, fb⟩) (.own m) v → VV (Cfg.v ⟨φ, getS ((m, .dead) :: L), w, fb⟩) (.lst xs) v ∧ v = .slice A xs.length c := by
      intro v hv
      simp only [VV] at hv ⊢
      obtain ⟨_, _, rfl⟩ := hv
      have e1' : φ m = .slice A xs.length c := e1
      refine ⟨⟨A, c, sz, us, e1', e2, VErow.step kv.bare e3, fun hne => ?_⟩, e1'⟩
      obtain ⟨ad, rfl, hsp, hcell⟩ := e4 hne
      exact ⟨ad, rfl, hsp, k3 ad.block (by rw [e1']; rfl), hcell⟩
    refine VV.frz ⟨fun v hv => (hlst v hv).1, fun cs hcs => ?_, fun _ _ _ => by simp only [VV], fun o cs hcs => ?_⟩ (hvals u)
    · simp only [VE] at hcs
      obtain ⟨g1, g2, rfl⟩ := hcs
      have := (hlst (φ m) (by simp only [VV]; exact ⟨g1, g2, rfl⟩)).1
      exact VV_VE rfl this
    · simp only [VE] at hcs ⊢
      obtain ⟨_, b, _, rfl⟩ := hcs
      exact ⟨_, rfl, rfl⟩
  · exact hvals u
/-- A variable is read only from here on. -/
theorem G_freeze_box {m : Nat} {cs : List AV} (t : Nat) {v : AV} (hm : getS L m = .box cs) (hb : bareL cs = true) (hv : force (frz m .undef (fun o => .rptr (.agg cs) o) (getE E t)) = some v)
    (h : G K C0 ⟨(t, v) :: E, N, ds⟩ ((m, .dead) :: L) X) : G K C0 ⟨E, N, ds⟩ L X := by
  refine G_drop (m := m) (by rw [hm]; rfl) (fun φ w fb h2 k2 k3 kv vals hvals u => ?_) h
  rw [getE_cons]
  split
  · rename_i e
    subst e
    rw [force_eq hv]
    have ho := h2.obj m
    rw [show (Cfg.mk φ (getS L) w fb).S m = .box cs from hm] at ho
    obtain ⟨b, T, us, e1, e2, e3⟩ := ho
    have e1' : φ m = .pointer (some ⟨b, 0, none⟩) := e1
    have hlies : Lies (Cfg.v ⟨φ, getS ((m, .dead) :: L), w, fb⟩) ⟨b, 0, none⟩ us.toList := by
      refine ⟨rfl, k3 b (by rw [e1']; rfl), fun i u hu => ?_⟩
      have hw : (Cfg.v ⟨φ, getS ((m, .dead) :: L), w, fb⟩).w = w := rfl
      rw [hw, add_plain]
      have e2' : w.heap[b]? = some (.cells us T (0, 0)) := e2
      have : us[i]? = some u := by simpa using hu
      simp [World.cell?, e2', this]
    have hE3 : VE (Cfg.v ⟨φ, getS ((m, .dead) :: L), w, fb⟩).bare (.agg cs) us.toList := by
      simp only [VE]
      exact VEs.step kv.bare (VEs_bare hb e3)
    refine VV.frz ⟨fun _ _ => by simp only [VV], fun c hc => ?_, fun o v hv => ?_, fun o c hc => ?_⟩ (hvals u)
    · simp only [VE] at hc ⊢
      obtain ⟨_, ⟨A, l, c', hA⟩, rfl⟩ := hc
      exact ⟨_, rfl, by rw [hA]; rfl⟩
    · simp only [VV] at hv ⊢
      obtain ⟨_, b', hb', rfl⟩ := hv
      have hb'' : φ m = .pointer (some ⟨b', 0, none⟩) := hb'
      rw [e1'] at hb''
      simp only [Value.pointer.injEq, Option.some.injEq, Addr.mk.injEq, and_true] at hb''
      subst hb''
      exact ⟨_, _, by rw [add_plain]; simp, hE3, hlies⟩
    · simp only [VE] at hc ⊢
      obtain ⟨_, b', hb', rfl⟩ := hc
      have hb'' : φ m = .pointer (some ⟨b', 0, none⟩) := hb'
      rw [e1'] at hb''
      simp only [Value.pointer.injEq, Option.some.injEq, Addr.mk.injEq, and_true] at hb''
      subst hb''
      exact ⟨_, _, by rw [add_plain]; simp, hE3, hlies⟩
  · exact hvals u

/-- A nil slice as a slice of one's own, without elements. -/
theorem G_own_nil {t : Nat} (m e sz : Nat) (ht : getE E t = .nils) (hm : getS L m = .free) (h : G K C0 ⟨(t, .own m) :: E, N, ds⟩ ((m, .arr e sz []) :: L) X) : G K C0 ⟨E, N, ds⟩ L X := fun φ w fb a h1 h2 h3 h4 => by
  obtain ⟨k1, k2⟩ := h2.new (w' := w) hm (.slice none 0 0) (.arr e sz []) rfl ⟨rfl, rfl, rfl, Nat.le_refl _, fun _ _ _ => rfl⟩ (fun b hb => by simp [blk] at hb) (fun hs => by
    refine ⟨[], ?_, by simp [VErow]⟩
    refine ⟨by simp, .inl ⟨by simp [upd_same], rfl⟩⟩)
  have h4' := h4.step k1
  refine h _ w fb a (h1.trans k1) k2 (h3.step k1) ⟨h4'.size, fun u => ?_, h4'.ds⟩
  rw [getE_cons]
  split
  · rename_i e'
    subst e'
    have := h4.val u
    rw [ht] at this
    simp only [VV] at this ⊢
    rw [this]
    refine ⟨?_, ⟨none, 0, 0, upd_same _ _ _⟩, (upd_same _ _ _).symm⟩
    show (getS ((m, .arr e sz []) :: L) m).known = true
    rw [getS_cons, if_pos rfl]; rfl
  · exact h4'.val u
end
end Go.Asl
