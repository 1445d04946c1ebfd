/- A part of the proof of the given statement BrainHold: the layer over the kit in which the walks are written, and contracts of the program's functions (a Go function answers as its plain model does). -/
import Derived.Calls
import Derived.Orders
import Derived.OrdersHeld
import Derived.Tactics2
import Derived.WalkKit
import Derived.Deep.LoopGhost
import Derived.RangeFuncRecord
import Derived.RangeFuncSeq
import Derived.Maps.RangeRun
import Derived.Laws.Externs
import Derived.Test.YtflfaeedkkiaeaaGreatDoorProg
import Derived.Sort.AssemblyPlain
import Derived.Test.YtflfaeedkkiaeaaGreatDoorCards
import Derived.Test.YtflfaeedkkiaeaaGreatDoorTie
import Derived.ProofKit
import Derived.OpenShut
import Derived.ChangeSlices
import Derived.Deep.DeepHandedRow
import Derived.Lib.LaidTab
namespace Go.SL
open Go
/-! ## What is known of memory: blocks, each with what its content is -/
abbrev OP := Obj → Prop
abbrev KB := List (Nat × OP)
structure Kn0 (w : World) (K : KB) : Prop where
  nodup : (K.map (·.1)).Nodup
  has : ∀ p ∈ K, ∃ o, w.heap[p.1]? = some o ∧ p.2 o
theorem Kn0.perm {w : World} {K K' : KB} (h : Kn0 w K) (hp : K.Perm K') : Kn0 w K' :=
  ⟨(hp.map _).nodup_iff.1 h.nodup, fun p hm => h.has p (hp.mem_iff.2 hm)⟩
theorem Kn0.sublist {w : World} {K K' : KB} (h : Kn0 w K) (hp : K'.Sublist K) : Kn0 w K' :=
  ⟨h.nodup.sublist (hp.map _), fun p hm => h.has p (hp.subset hm)⟩
theorem Kn0.right {w : World} {K F : KB} (h : Kn0 w (K ++ F)) : Kn0 w F := h.sublist (List.sublist_append_right _ _)
theorem Kn0.left {w : World} {K F : KB} (h : Kn0 w (K ++ F)) : Kn0 w K := h.sublist (List.sublist_append_left _ _)
def tzTab : List Nat := [0, 1, 28, 2, 29, 14, 24, 3, 30, 22, 20, 15, 25, 17, 4, 8, 31, 27, 13, 23, 21, 19, 16, 7, 26, 12, 18, 6, 11, 5, 10, 9]
def tzVals : List Value := tzTab.map fun (t : Nat) => .int .u8 (t : Int)
/-- the system, what was printed, the table of math/bits: as they were -/
class Bs where
  os : Os
  out : Array (Nat × ByteArray)
  tab : Obj
  htab : ∃ cs T fr, tab = .cells cs T fr ∧ ∀ i, i < 32 → cs[i]? = tzVals[i]?
structure Knows [Bs] (w : World) (K : KB) : Prop extends Kn0 w K where
  base : w.os = Bs.os ∧ w.output = Bs.out
theorem Knows.perm [Bs] {w : World} {K K' : KB} (h : Knows w K) (hp : K.Perm K') : Knows w K' := ⟨h.toKn0.perm hp, h.base⟩
theorem Knows.sublist [Bs] {w : World} {K K' : KB} (h : Knows w K) (hp : K'.Sublist K) : Knows w K' := ⟨h.toKn0.sublist hp, h.base⟩
theorem Knows.right [Bs] {w : World} {K F : KB} (h : Knows w (K ++ F)) : Knows w F := h.sublist (List.sublist_append_right _ _)
theorem Knows.left [Bs] {w : World} {K F : KB} (h : Knows w (K ++ F)) : Knows w K := h.sublist (List.sublist_append_left _ _)
theorem Kn0.lt {w : World} {K : KB} (h : Kn0 w K) {p} (hp : p ∈ K) : p.1 < w.heap.size := by
  obtain ⟨o, ho, _⟩ := h.has p hp
  exact (Array.getElem?_eq_some_iff.1 ho).1
/-- only the heap matters -/
theorem Kn0.heap {w w' : World} {K : KB} (h : Kn0 w K) (he : w'.heap = w.heap) : Kn0 w' K :=
  ⟨h.nodup, fun p hp => by rw [he]; exact h.has p hp⟩
theorem Knows.heap [Bs] {w w' : World} {K : KB} (h : Knows w K) (he : w'.heap = w.heap) (hb : w'.os = w.os ∧ w'.output = w.output := by exact ⟨rfl, rfl⟩) : Knows w' K :=
  ⟨h.toKn0.heap he, hb.1.trans h.base.1, hb.2.trans h.base.2⟩
/-! ## Picking a block out of what is known -/
inductive Pick : KB → Nat → OP → KB → Prop
  | here {b φ K} : Pick ((b, φ) :: K) b φ K
  | there {b φ K K' x} (h : Pick K b φ K') : Pick (x :: K) b φ (x :: K')
theorem Pick.perm {K K' : KB} {b : Nat} {φ : OP} (h : Pick K b φ K') : K.Perm ((b, φ) :: K') := by
  induction h with
  | here => exact .refl _
  | there h ih => exact (ih.cons _).trans (List.Perm.swap _ _ _)
theorem Pick.app {K K' : KB} {b : Nat} {φ : OP} (F : KB) (h : Pick K b φ K') : Pick (K ++ F) b φ (K' ++ F) := by
  induction h with
  | here => exact .here
  | there h ih => exact .there ih
theorem Pick.appR {F F' : KB} {b : Nat} {φ : OP} (K : KB) (h : Pick F b φ F') : Pick (K ++ F) b φ (K ++ F') := by
  induction K with
  | nil => exact h
  | cons x K ih => exact .there ih
theorem Pick.mem {K K' : KB} {b : Nat} {φ : OP} (h : Pick K b φ K') : (b, φ) ∈ K := h.perm.mem_iff.2 (.head _)
/-- the same place, with another content -/
inductive Upd : KB → Nat → OP → OP → KB → Prop
  | here {b φ ψ K} : Upd ((b, φ) :: K) b φ ψ ((b, ψ) :: K)
  | there {b φ ψ K K' x} (h : Upd K b φ ψ K') : Upd (x :: K) b φ ψ (x :: K')
theorem Upd.perm {K K' : KB} {b : Nat} {φ ψ : OP} (h : Upd K b φ ψ K') : ∃ R, K.Perm ((b, φ) :: R) ∧ K'.Perm ((b, ψ) :: R) := by
  induction h with
  | here => exact ⟨_, .refl _, .refl _⟩
  | there h ih =>
    obtain ⟨R, h1, h2⟩ := ih
    exact ⟨_, (h1.cons _).trans (List.Perm.swap _ _ _), (h2.cons _).trans (List.Perm.swap _ _ _)⟩
theorem Upd.mem {K K' : KB} {b : Nat} {φ ψ : OP} (h : Upd K b φ ψ K') : (b, φ) ∈ K := by
  obtain ⟨R, h1, _⟩ := h.perm
  exact h1.mem_iff.2 (.head _)
/-- a world in which one block has turned -/
theorem Knows.upd [Bs] {w w' : World} {K K' : KB} {b : Nat} {φ ψ : OP} {o : Obj} (h : Knows w K) (hu : Upd K b φ ψ K')
    (hb : w'.heap[b]? = some o) (ho : ψ o) (hother : ∀ c, c ≠ b → w'.heap[c]? = w.heap[c]?) (hbs : w'.os = w.os ∧ w'.output = w.output := by exact ⟨rfl, rfl⟩) : Knows w' K' := by
  obtain ⟨R, h1, h2⟩ := hu.perm
  have hR := h.perm h1
  refine Knows.perm ⟨⟨by simpa using hR.nodup, ?_⟩, hbs.1.trans h.base.1, hbs.2.trans h.base.2⟩ h2.symm
  intro p hp
  rcases List.mem_cons.1 hp with rfl | hp
  · exact ⟨o, hb, ho⟩
  · have hne : p.1 ≠ b := by
      have := hR.nodup
      simp only [List.map_cons, List.nodup_cons] at this
      intro e
      exact this.1 (e ▸ List.mem_map_of_mem hp)
    rw [hother _ hne]
    exact hR.has p (.tail _ hp)
/-- a world with one block more -/
theorem Knows.new [Bs] {w w' : World} {K : KB} {φ : OP} {o : Obj} (h : Knows w K) (hw : w'.heap = w.heap.push o) (ho : φ o) (hbs : w'.os = w.os ∧ w'.output = w.output := by exact ⟨rfl, rfl⟩) :
    Knows w' ((w.heap.size, φ) :: K) := by
  refine ⟨⟨?_, ?_⟩, hbs.1.trans h.base.1, hbs.2.trans h.base.2⟩
  · simp only [List.map_cons, List.nodup_cons]
    refine ⟨?_, h.nodup⟩
    intro hm
    obtain ⟨p, hp, he⟩ := List.mem_map.1 hm
    have := h.lt hp
    omega
  · intro p hp
    rcases List.mem_cons.1 hp with rfl | hp
    · exact ⟨o, by rw [hw]; simp, ho⟩
    · obtain ⟨o', h1, h2⟩ := h.has p hp
      refine ⟨o', ?_, h2⟩
      rw [hw, Array.getElem?_push_lt (h.lt hp)]
      exact (Array.getElem?_eq_getElem (h.lt hp)).symm.trans h1
theorem Knows.mono [Bs] {w : World} {K K' : KB} {b : Nat} {φ ψ : OP} (h : Knows w K) (hu : Upd K b φ ψ K') (hi : ∀ o, φ o → ψ o) : Knows w K' := by
  obtain ⟨o, h1, h2⟩ := h.has _ hu.mem
  exact h.upd hu h1 (hi _ h2) (fun _ _ => rfl)
/-! ## Slots -/
abbrev Env := List (Nat × Value)
def Env.get : Env → Nat → Option Value
  | [], _ => none
  | (k, v) :: L, t => cond (Nat.beq k t) (some v) (Env.get L t)
structure Holds (n : Nat) (a : Act) (L : Env) : Prop where
  size : a.tmps.size = n
  defers : a.defers = []
  get : ∀ t v, L.get t = some v → a.tmps.getD t undef = v
theorem Holds.put {n : Nat} {a : Act} {L : Env} {d : Nat} {v : Value} (h : Holds n a L) (hd : d < n) : Holds n (a.put (some d) v) ((d, v) :: L) := by
  refine ⟨by simp [Act.put, h.size], h.defers, ?_⟩
  intro t u hg
  simp only [Env.get] at hg
  simp only [Act.put, Array.getD_eq_getD_getElem?]
  by_cases e : d = t
  · subst e
    simp only [Nat.beq_refl, cond_true, Option.some.injEq] at hg
    subst hg
    rw [Array.getElem?_setIfInBounds_self_of_lt (by rw [h.size]; exact hd)]; rfl
  · have e' : Nat.beq d t = false := by
      cases hb : Nat.beq d t
      · rfl
      · exact absurd (Nat.eq_of_beq_eq_true hb) e
    rw [e'] at hg
    rw [Array.getElem?_setIfInBounds_ne e]
    have := h.get t u hg
    rwa [Array.getD_eq_getD_getElem?] at this
theorem Holds.none {n : Nat} {a : Act} {L : Env} {v : Value} (h : Holds n a L) : Holds n (a.put none v) L := h
/-- L' holds less than L -/
def Sub : Env → Env → Prop
  | [], _ => True
  | (t, v) :: L', L => L.get t = some v ∧ Sub L' L
theorem Sub.get {L' L : Env} (h : Sub L' L) : ∀ t v, L'.get t = some v → L.get t = some v := by
  induction L' with
  | nil => intro t v hg; simp [Env.get] at hg
  | cons x L' ih =>
    obtain ⟨k, u⟩ := x
    obtain ⟨h1, h2⟩ := h
    intro t v hg
    simp only [Env.get] at hg
    cases hb : Nat.beq k t
    · rw [hb] at hg; exact ih h2 t v hg
    · rw [hb] at hg
      cases hg
      rw [← Nat.eq_of_beq_eq_true hb]; exact h1
theorem Holds.sub {n : Nat} {a : Act} {L L' : Env} (h : Holds n a L) (hs : Sub L' L) : Holds n a L' :=
  ⟨h.size, h.defers, fun t v hg => h.get t v (hs.get t v hg)⟩
/-- an operand's value -/
def ev (L : Env) : Operand → Option Value
  | .tmp t => L.get t
  | .const v => some v
  | .global g => some (.pointer (some ⟨g, 0, none⟩))
  | .func f => some (.func (.func f) #[] #[])
theorem ev_eval {n : Nat} {a : Act} {L : Env} {x : Operand} {v : Value} (h : Holds n a L) (hx : ev L x = some v) : a.eval x = v := by
  cases x <;> simp only [ev, Option.some.injEq] at hx <;> simp only [Act.eval]
  · exact h.get _ _ hx
  all_goals exact hx
end Go.SL
namespace Go.SL
open Go
/-! ## Regions that draw their order: one plan serves every order -/
section
variable {P : Program} {ops : Array Oper} {Q : Exit → Act → World → Prop} {md : Region.Mode} {S : World → Prop} {t : Nat}
def Closed (md : Region.Mode) (ops : Array Oper) (listed : Array Bool) : Prop :=
  listed.size = ops.size ∧ ∀ j oj, ops[j]? = some oj → listed.getD j false = true → ∀ e ∈ oj.after, Region.binds md e = true → listed.getD e.on false = true
theorem Closed.start : Closed md ops (Array.replicate ops.size false) := by
  refine ⟨by simp, ?_⟩
  intro j oj _ hl
  rcases Nat.lt_or_ge j ops.size with h | h <;> simp [h] at hl
theorem Closed.set {listed : Array Bool} {i : Nat} (h : Closed md ops listed) (hr : i ∈ Region.ready md ops listed) : Closed md ops (listed.setIfInBounds i true) := by
  refine ⟨by simp [h.1], ?_⟩
  replace h := h.2
  intro j oj hj hl e he hb
  obtain ⟨_, oi, hoi, hall⟩ := mem_ready.1 hr
  by_cases hij : i = j
  · subst hij
    obtain rfl : oj = oi := Option.some.inj (hj.symm.trans hoi)
    exact getD_set_true (hall e he hb)
  · rw [getD_set_ne false hij] at hl
    exact getD_set_true (h j oj hj hl e he hb)
/-- what must have come up ahead of t -/
def marks (md : Region.Mode) (ops : Array Oper) : Nat → Array Bool → Array Bool
  | 0, m => m
  | k + 1, m => marks md ops k (match m.getD k false, ops[k]? with
      | true, some o => o.after.toList.foldl (fun m e => if Region.binds md e then m.setIfInBounds e.on true else m) m
      | _, _ => m)
def needed (md : Region.Mode) (ops : Array Oper) (t : Nat) : Array Bool := marks md ops ops.size ((Array.replicate ops.size false).setIfInBounds t true)
theorem getD_set_cases {m : Array Bool} {i j : Nat} (h : (m.setIfInBounds i true).getD j false = true) : j = i ∨ m.getD j false = true := by
  by_cases e : i = j
  · exact .inl e.symm
  · rw [getD_set_ne false e] at h; exact .inr h
theorem marks_fold {listed : Array Bool} (es : List Edge) (hes : ∀ e ∈ es, Region.binds md e = true → listed.getD e.on false = true) :
    ∀ m : Array Bool, (∀ j, m.getD j false = true → listed.getD j false = true) →
    ∀ j, (es.foldl (fun m e => if Region.binds md e then m.setIfInBounds e.on true else m) m).getD j false = true → listed.getD j false = true := by
  induction es with
  | nil => intro m hm j hj; exact hm j hj
  | cons e es ih =>
    intro m hm j hj
    refine ih (fun e' he' => hes e' (.tail _ he')) _ ?_ j hj
    intro k hk
    dsimp only at hk
    split at hk
    · rename_i hb
      rcases getD_set_cases hk with rfl | hk
      · exact hes e (.head _) hb
      · exact hm k hk
    · exact hm k hk
theorem marks_spec {listed : Array Bool} (hc : Closed md ops listed) :
    ∀ (k : Nat) (m : Array Bool), (∀ j, m.getD j false = true → listed.getD j false = true) →
    ∀ j, (marks md ops k m).getD j false = true → listed.getD j false = true
  | 0, m, hm, j, hj => hm j hj
  | k + 1, m, hm, j, hj => by
    refine marks_spec hc k _ ?_ j hj
    intro i hi
    split at hi
    · rename_i o h1 h2
      exact marks_fold o.after.toList (fun e he hb => hc.2 k o h2 (hm k h1) e (by simpa using he) hb) m hm i hi
    · exact hm i hi
theorem needed_spec {listed : Array Bool} (hc : Closed md ops listed) {i : Nat} (hn : (needed md ops t).getD i false = true) (hi : listed.getD i true = false) :
    listed.getD t false = false := by
  cases ht : listed.getD t false with
  | false => rfl
  | true =>
    have : listed.getD i false = true := by
      refine marks_spec hc ops.size _ ?_ i hn
      intro j hj
      rcases getD_set_cases hj with rfl | hj
      · exact ht
      · rcases Nat.lt_or_ge j ops.size with h | h <;> simp [h] at hj
    rcases Nat.lt_or_ge i listed.size with h | h
    · simp [h] at this hi; rw [this] at hi; cases hi
    · simp [Array.getElem?_eq_none h] at hi
/-- whatever order is picked; S holds till number t has come up -/
def wpAnyT (P : Program) (md : Region.Mode) (ops : Array Oper) (Q : Exit → Act → World → Prop) (S : World → Prop) (t : Nat) : Nat → Array Bool → Act → World → Prop
  | 0, listed, a, w => Region.ready md ops listed = [] ∧ Q .normal a w
  | f + 1, listed, a, w => (Region.ready md ops listed = [] → Q .normal a w) ∧
    ∀ i ∈ Region.ready md ops listed, wpOp P ops Q i
      (fun a' w' => ((listed.setIfInBounds i true).getD t false = false → S w') ∧ wpAnyT P md ops Q S t f (listed.setIfInBounds i true) a' w') a w
theorem wpAny_of_T : ∀ (f : Nat) (listed : Array Bool) (a : Act) (w : World), wpAnyT P md ops Q S t f listed a w → wpAny P md ops Q f listed a w
  | 0, _, _, _, h => h
  | f + 1, _, _, _, h => ⟨h.1, fun i hi => wpOp_mono (fun a' w' h' => wpAny_of_T f _ a' w' h'.2) (h.2 i hi)⟩
theorem wpAnyT_first {i : Nat} {oi : Oper} {v : Value} {S' : World → Prop} (hi : ops[i]? = some oi)
    (hsel : ∀ (j : Nat) (o : Oper) cs b, ops[j]? = some o → o.op ≠ .select cs b)
    (hQ : ∀ c a w, Q (.panic c) (a.put oi.dst v) w → Q (.panic c) a w) (hit : i ≠ t)
    (hS' : ∀ listed w, Closed md ops listed → listed.getD i true = false → (listed.getD t false = false → S w) → S' w) :
    ∀ (f : Nat) (listed : Array Bool) (a : Act) (w : World), Closed md ops listed →
      (∀ j oj, ops[j]? = some oj → j ≠ i → listed.getD j true = false → (∀ e ∈ oj.after, Region.binds md e = true → e.on ≠ i) → oi.apart ops oj = true) →
      i ∈ Region.ready md ops listed → YieldsIf P ops S' oi v a → (listed.getD t false = false → S w) →
      wpAnyT P md ops Q S t f (listed.setIfInBounds i true) (a.put oi.dst v) w → wpAnyT P md ops Q S t (f + 1) listed a w := by
  intro f
  induction f with
  | zero =>
    intro listed a w hc _ hr hy hS H
    refine ⟨fun h => (by rw [h] at hr; cases hr), fun j hj => ?_⟩
    by_cases hji : j = i
    · subst hji
      exact hy.wpOp hi (hS' listed w hc (mem_ready.1 hr).1 hS) ⟨fun h => hS (by rwa [getD_set_ne false hit] at h), H⟩
    · have := ready_mono hj hji
      rw [H.1] at this; cases this
  | succ f ih =>
    intro listed a w hc hfree hr hy hS H
    refine ⟨fun h => (by rw [h] at hr; cases hr), fun j hj => ?_⟩
    by_cases hji : j = i
    · subst hji
      exact hy.wpOp hi (hS' listed w hc (mem_ready.1 hr).1 hS) ⟨fun h => hS (by rwa [getD_set_ne false hit] at h), H⟩
    · have h1 := H.2 j (ready_mono hj hji)
      obtain ⟨hjun, oj, hoj, hall⟩ := mem_ready.1 hj
      have hnot : ∀ e ∈ oj.after, Region.binds md e = true → e.on ≠ i := fun e he hb heq => by
        have h2 := hall e he hb
        have h0 := (mem_ready.1 hr).1
        rw [heq] at h2
        rcases Nat.lt_or_ge i listed.size with h' | h'
        · simp [h'] at h0 h2; rw [h0] at h2; cases h2
        · simp [Array.getElem?_eq_none h'] at h2
      have h2 := wpOp_putIf hoj (hfree j oj hoj hji hjun hnot) (fun cs b => hsel i oi cs b hi) (fun cs b => hsel j oj cs b hoj) hQ hy h1
      refine wpOp_mono (fun a' w' h3 => ?_) h2
      obtain ⟨hy', hSS, H'⟩ := h3
      have hSS' : (listed.setIfInBounds j true).getD t false = false → S w' := fun h => hSS (by
        rw [Array.setIfInBounds_comm _ _ (Ne.symm hji), getD_set_ne false hit]; exact h)
      refine ⟨hSS', ih (listed.setIfInBounds j true) a' w' (hc.set hj) ?_ (ready_mono hr (Ne.symm hji)) hy' hSS' ?_⟩
      · intro k ok hk hki hun hno
        refine hfree k ok hk hki ?_ hno
        by_cases hjk : j = k
        · subst hjk; exact hjun
        · rwa [getD_set_ne true hjk] at hun
      · rw [Array.setIfInBounds_comm _ _ hji]; exact H'
inductive Kind where
  | pure | read | eff
  deriving DecidableEq
/-- a plan: one operation behind the other; where two effects may come up, a plan for each -/
inductive Pl where
  | nil
  | cons (i : Nat) (k : Kind) (p : Pl)
  | fork (i j : Nat) (p q : Pl)
/-- is a plan one that serves every order? -/
def planOK (md : Region.Mode) (ops : Array Oper) (t : Nat) : Nat → Pl → Array Bool → Bool
  | 0, .nil, listed => (Region.ready md ops listed).isEmpty
  | n + 1, .cons i k r, listed => (match k with
    | .eff => decide (Region.ready md ops listed = [i])
    | .pure => (Region.ready md ops listed).contains i && Region.free md ops listed i && (i != t)
    | .read => (Region.ready md ops listed).contains i && Region.free md ops listed i && (i != t) && (decide (ops.size ≤ t) || (needed md ops t).getD i false)) &&
    planOK md ops t n r (listed.setIfInBounds i true)
  | n + 1, .fork i j p q, listed => decide (Region.ready md ops listed = [i, j]) && planOK md ops t n p (listed.setIfInBounds i true) && planOK md ops t n q (listed.setIfInBounds j true)
  | _, _, _ => false
def wpPlan (P : Program) (ops : Array Oper) (Q : Exit → Act → World → Prop) (S : World → Prop) (t : Nat) : Pl → Array Bool → Act → World → Prop
  | .nil, _, a, w => Q .normal a w
  | .cons i k r, listed, a, w => match k with
    | .eff => wpOp P ops Q i (fun a' w' => ((listed.setIfInBounds i true).getD t false = false → S w') ∧ wpPlan P ops Q S t r (listed.setIfInBounds i true) a' w') a w
    | .pure => ∃ o v, ops[i]? = some o ∧ YieldsIf P ops (fun _ => True) o v a ∧ wpPlan P ops Q S t r (listed.setIfInBounds i true) (a.put o.dst v) w
    | .read => ∃ o v, ops[i]? = some o ∧ YieldsIf P ops S o v a ∧ wpPlan P ops Q S t r (listed.setIfInBounds i true) (a.put o.dst v) w
  | .fork i j p q, listed, a, w =>
    wpOp P ops Q i (fun a' w' => ((listed.setIfInBounds i true).getD t false = false → S w') ∧ wpPlan P ops Q S t p (listed.setIfInBounds i true) a' w') a w ∧
    wpOp P ops Q j (fun a' w' => ((listed.setIfInBounds j true).getD t false = false → S w') ∧ wpPlan P ops Q S t q (listed.setIfInBounds j true) a' w') a w
theorem wpAnyT_plan (hs : Region.noSelect ops = true) (hq : ∀ ch a w, ¬ Q (.panic ch) a w) :
    ∀ (n : Nat) (pl : Pl) (listed : Array Bool) (a : Act) (w : World), Closed md ops listed → (listed.getD t false = false → S w) →
      planOK md ops t n pl listed = true → wpPlan P ops Q S t pl listed a w → wpAnyT P md ops Q S t n listed a w
  | 0, .nil, listed, a, w, _, _, hp, h => ⟨by simpa [planOK] using hp, h⟩
  | 0, .cons .., listed, a, w, _, _, hp, h => by simp [planOK] at hp
  | 0, .fork .., listed, a, w, _, _, hp, h => by simp [planOK] at hp
  | _ + 1, .nil, listed, a, w, _, _, hp, h => by simp [planOK] at hp
  | n + 1, .fork i j p q, listed, a, w, hc, hS, hp, h => by
    simp only [planOK, Bool.and_eq_true, decide_eq_true_eq] at hp
    obtain ⟨⟨hr, hp1⟩, hp2⟩ := hp
    simp only [wpPlan] at h
    refine ⟨fun h0 => (by rw [hr] at h0; cases h0), fun x hx => ?_⟩
    have hx' := hx
    rw [hr] at hx
    rcases List.mem_cons.1 hx with rfl | hx
    · exact wpOp_mono (fun a' w' h' => ⟨h'.1, wpAnyT_plan hs hq n p _ a' w' (hc.set hx') h'.1 hp1 h'.2⟩) h.1
    · obtain rfl : x = j := by simpa using hx
      exact wpOp_mono (fun a' w' h' => ⟨h'.1, wpAnyT_plan hs hq n q _ a' w' (hc.set hx') h'.1 hp2 h'.2⟩) h.2
  | n + 1, .cons i .eff r, listed, a, w, hc, hS, hp, h => by
    simp only [planOK, Bool.and_eq_true, decide_eq_true_eq] at hp
    refine ⟨fun h0 => (by rw [hp.1] at h0; cases h0), fun j hj => ?_⟩
    have hj' := hj
    rw [hp.1] at hj
    obtain rfl : j = i := by simpa using hj
    simp only [wpPlan] at h
    exact wpOp_mono (fun a' w' h' => ⟨h'.1, wpAnyT_plan hs hq n r _ a' w' (hc.set hj') h'.1 hp.2 h'.2⟩) h
  | n + 1, .cons i .pure r, listed, a, w, hc, hS, hp, h => by
    simp only [planOK, Bool.and_eq_true, bne_iff_ne, ne_eq] at hp
    obtain ⟨⟨⟨hr, hf⟩, hit⟩, hp⟩ := hp
    simp only [wpPlan] at h
    obtain ⟨o, v, ho, hy, h⟩ := h
    have hr' : i ∈ Region.ready md ops listed := by simpa using hr
    exact wpAnyT_first (S' := fun _ => True) ho (Region.noSelect_spec hs) (fun c a w hh => (hq _ _ _ hh).elim) hit (fun _ _ _ _ _ => trivial) n listed a w hc
      (Region.free_spec ho hf) hr' hy hS (wpAnyT_plan hs hq n r _ _ w (hc.set hr') (fun h => hS (by rwa [getD_set_ne false hit] at h)) hp h)
  | n + 1, .cons i .read r, listed, a, w, hc, hS, hp, h => by
    simp only [planOK, Bool.and_eq_true, bne_iff_ne, ne_eq, Bool.or_eq_true, decide_eq_true_eq] at hp
    obtain ⟨⟨⟨⟨hr, hf⟩, hit⟩, hn⟩, hp⟩ := hp
    simp only [wpPlan] at h
    obtain ⟨o, v, ho, hy, h⟩ := h
    have hr' : i ∈ Region.ready md ops listed := by simpa using hr
    refine wpAnyT_first (S' := S) ho (Region.noSelect_spec hs) (fun c a w hh => (hq _ _ _ hh).elim) hit ?_ n listed a w hc
        (Region.free_spec ho hf) hr' hy hS (wpAnyT_plan hs hq n r _ _ w (hc.set hr') (fun h => hS (by rwa [getD_set_ne false hit] at h)) hp h)
    intro l w' hcl hil hSl
    rcases hn with hn | hn
    · exact hSl (by simp [Array.getElem?_eq_none (by rw [hcl.1]; exact hn : l.size ≤ t)])
    · exact hSl (needed_spec hcl hn hil)
theorem wp_region_plan {id : Nat} {a : Act} {w : World} (hm : P.follows .mixedOrders = true) (pl : Pl) (S : World → Prop) (t : Nat)
    (hs : Region.noSelect ops = true) (hq : ∀ ch a w, ¬ Q (.panic ch) a w)
    (hp : planOK .any ops t ops.size pl (Array.replicate ops.size false) = true)
    (hS : S { w with drawn := w.drawn + 1 })
    (h : wpPlan P ops Q S t pl (Array.replicate ops.size false) a { w with drawn := w.drawn + 1 }) : (Code.region id ops true).wp P Q a w :=
  wp_region_any hm (wpAny_of_T (S := S) (t := t) _ _ _ _
    (wpAnyT_plan (md := .any) (S := S) (t := t) hs hq ops.size pl (Array.replicate ops.size false) a _ Closed.start (fun _ => hS) hp h))
end
end Go.SL
namespace Go.SL
open Go
class Good (Q : Exit → Act → World → Prop) : Prop where
  nop : ∀ ch a w, ¬ Q (.panic ch) a w
instance Good.then {Q : Exit → Act → World → Prop} {next : Act → World → Prop} [h : Good Q] : Good (Exit.then next Q) := ⟨h.nop⟩
instance Good.inBlock {Q : Exit → Act → World → Prop} {id : Nat} [h : Good Q] : Good (Exit.inBlock id Q) := ⟨h.nop⟩
/-- what a function hands back; no run outgrows memory -/
def Ret (R : Value → World → Prop) : Ending → World → Prop
  | .returned v, w => R v w
  | .outgrown, _ => False
  | .panicked _, _ => False
instance Good.body {P : Program} {fn : Func} {R : Value → World → Prop} : Good (bodyPost P fn (Ret R)) :=
  ⟨fun _ _ _ h => h.2⟩
/-! ## The judgements -/
/-- the operation of a number (so that it comes written out) -/
def nthO : List Oper → Nat → Option Oper
  | [], _ => none
  | o :: _, 0 => some o
  | _ :: l, i + 1 => nthO l i
theorem nthO_eq : ∀ (l : List Oper) (i : Nat), l.toArray[i]? = nthO l i
  | [], i => by simp [nthO]
  | o :: l, 0 => by simp [nthO]
  | o :: l, i + 1 => by have := nthO_eq l i; simpa [nthO] using this
def W [Bs] (P : Program) (n : Nat) (ops : List Oper) (Q : Exit → Act → World → Prop) (is : List Nat) (L : Env) (K : KB) : Prop :=
  ∀ a w, Holds n a L → Knows w K → wpOps P ops.toArray Q is a w
def D [Bs] (P : Program) (n : Nat) (ops : List Oper) (Q : Exit → Act → World → Prop) (S : World → Prop) (t : Nat) (is : Pl) (ls : Array Bool) (L : Env) (K : KB) : Prop :=
  ∀ a w, Holds n a L → Knows w K → wpPlan P ops.toArray Q S t is ls a w
def C [Bs] (P : Program) (n : Nat) (c : Code) (Q : Exit → Act → World → Prop) (L : Env) (K : KB) : Prop :=
  ∀ a w, Holds n a L → Knows w K → c.wp P Q a w
/-- a guard, by what the slots hold -/
def wanted (ops : List Oper) (L : Env) (o : Oper) : Option Bool :=
  match o.guard with
  | none => some true
  | some (j, want) => match ((nthO ops j).bind (·.dst)).bind (Env.get L) with
    | some (.bool b) => some (b == want)
    | some (.tuple _) => some false
    | _ => none
theorem wanted_spec {n : Nat} {ops : List Oper} {L : Env} {o : Oper} {r : Bool} {a : Act} (h : wanted ops L o = some r) (ha : Holds n a L) :
    Region.wanted o (yielded ops.toArray a.tmps) = r := by
  unfold wanted at h
  unfold Region.wanted
  split at h
  · rename_i hg; simp only [hg]; simpa using h
  · rename_i j want hg
    simp only [hg]
    split at h
    · rename_i b hb
      simp only [Option.some.injEq] at h
      have : yielded ops.toArray a.tmps j = some b := by
        unfold yielded
        rw [nthO_eq]
        cases hd : (nthO ops j).bind (·.dst) with
        | none => rw [hd] at hb; cases hb
        | some d =>
          rw [hd] at hb
          have hv := ha.get d _ hb
          simp only [Option.bind_some]
          rw [Array.getD_eq_getD_getElem?] at hv
          cases ht : a.tmps[d]? with
          | none => rw [ht] at hv; cases hv
          | some u => rw [ht] at hv; simp only [Option.getD_some] at hv; subst hv; rfl
      rw [this]
      subst h
      cases b <;> cases want <;> rfl
    · rename_i vs hb
      simp only [Option.some.injEq] at h
      have : yielded ops.toArray a.tmps j = none := by
        unfold yielded
        rw [nthO_eq]
        cases hd : (nthO ops j).bind (·.dst) with
        | none => rw [hd] at hb; cases hb
        | some d =>
          rw [hd] at hb
          have hv := ha.get d _ hb
          simp only [Option.bind_some]
          rw [Array.getD_eq_getD_getElem?] at hv
          cases ht : a.tmps[d]? with
          | none => rfl
          | some u => rw [ht] at hv; simp only [Option.getD_some] at hv; subst hv; rfl
      rw [this]
      subst h
      rfl
    · cases h
section
variable {P : Program} {n : Nat} {ops : List Oper} {Q : Exit → Act → World → Prop} {i : Nat} {rest : List Nat} {L L' : Env} {K K' : KB} {o : Oper}
  {S : World → Prop} {t : Nat} {is : Pl} {ls : Array Bool}
/-- what an operation comes to, memory as it was -/
def QRun (P : Program) (n : Nat) (o : Oper) (L : Env) (K : KB) (v : Value) : Prop :=
  ∀ a w, Holds n a L → Kn0 w K → (execOp a.eval o).run P w = .ok (.value v) w
/-- .. memory changed -/
def ERun [Bs] {β : Type} (P : Program) (n : Nat) (o : Oper) (L : Env) (K : KB) (v : β → Value) (K' : β → KB) : Prop :=
  ∀ a w, Holds n a L → Knows w K → (∃ x w', ((execOp a.eval o).run P w = .ok (.value (v x)) w' ∨ (execOp a.eval o).run P w = .ok .skip w' ∧ v x = undef) ∧ Knows w' (K' x)) ∨ False
/-- the environment behind an operation -/
def puts (L : Env) (d : Option Nat) (v : Value) : Env := match d with
  | some d => (d, v) :: L
  | none => L
def fits (n : Nat) (d : Option Nat) : Bool := match d with
  | some d => Nat.blt d n
  | none => true
theorem Holds.puts {a : Act} {d : Option Nat} {v : Value} (h : Holds n a L) (hd : fits n d = true) : Holds n (a.put d v) (puts L d v) := by
  cases d with
  | none => exact h
  | some d => exact h.put (by simpa [fits, Nat.blt_eq] using hd)
/-! ### Steps of a region in its own order -/
theorem W_nil [Bs] (h : ∀ a w, Holds n a L → Knows w K → Q .normal a w) : W P n ops Q [] L K := h
theorem W_perm [Bs] (K' : KB) (h : W P n ops Q rest L K') (hs : K.Perm K') : W P n ops Q rest L K := fun a w ha hk => h a w ha (hk.perm hs)
theorem W_q [Bs] {v : Value} (ho : nthO ops i = some o) (hw : wanted ops L o = some true) (hd : fits n o.dst = true)
    (hq : QRun P n o L K v) (h : W P n ops Q rest (puts L o.dst v) K) : W P n ops Q (i :: rest) L K := by
  intro a w ha hk
  simp only [wpOps, nthO_eq, ho]
  rw [if_pos (wanted_spec hw ha)]
  refine .inl ?_
  simp only [Oper.wp, hq a w ha hk.toKn0, Oper.upon]
  exact h _ _ (ha.puts hd) hk
theorem W_skip [Bs] (ho : nthO ops i = some o) (hw : wanted ops L o = some false) (hd : fits n o.dst = true)
    (h : W P n ops Q rest (puts L o.dst undef) K) : W P n ops Q (i :: rest) L K := by
  intro a w ha hk
  simp only [wpOps, nthO_eq, ho]
  rw [if_neg (by rw [wanted_spec hw ha]; simp)]
  exact h _ _ (ha.puts hd) hk
theorem W_e [Bs] {β : Type} {v : β → Value} {K' : β → KB} [_hQ : Good Q] (ho : nthO ops i = some o) (hw : wanted ops L o = some true) (hd : fits n o.dst = true)
    (he : ERun P n o L K v K') (h : ∀ x, W P n ops Q rest (puts L o.dst (v x)) (K' x)) : W P n ops Q (i :: rest) L K := by
  intro a w ha hk
  simp only [wpOps, nthO_eq, ho]
  rw [if_pos (wanted_spec hw ha)]
  rcases he a w ha hk with ⟨x, w', hr, hk'⟩ | hasks
  · refine .inl ?_
    rcases hr with hr | ⟨hr, hv⟩
    · simp only [Oper.wp, hr, Oper.upon]; exact h x _ _ (ha.puts hd) hk'
    · simp only [Oper.wp, hr, Oper.upon]; rw [← hv]; exact h x _ _ (ha.puts hd) hk'
  · exact hasks.elim
/-- a slot's Bool is decided -/
theorem W_bool [Bs] (d : Nat) (b : Bool) (hg : L.get d = some (.bool b)) (ht : b = true → W P n ops Q rest ((d, .bool true) :: L) K)
    (hf : b = false → W P n ops Q rest ((d, .bool false) :: L) K) : W P n ops Q rest L K := by
  have hsub : ∀ c, b = c → Sub ((d, .bool c) :: L) L → True := fun _ _ _ => trivial
  intro a w ha hk
  have mk : ∀ c, b = c → Holds n a ((d, .bool c) :: L) := fun c hc => ⟨ha.size, ha.defers, fun s u hs => by
    simp only [Env.get] at hs
    cases hb : Nat.beq d s
    · rw [hb] at hs; exact ha.get s u hs
    · rw [hb] at hs; cases hs
      obtain rfl := Nat.eq_of_beq_eq_true hb
      have := ha.get d _ hg
      rw [this, hc]⟩
  cases hb : b
  · exact hf hb a w (mk false hb) hk
  · exact ht hb a w (mk true hb) hk
/-! ### Steps of a region that draws -/
theorem D_nil [Bs] (h : ∀ a w, Holds n a L → Knows w K → Q .normal a w) : D P n ops Q S t .nil ls L K := h
theorem D_p [Bs] {v : Value} (ho : nthO ops i = some o) (hw : wanted ops L o = some true) (hd : fits n o.dst = true)
    (hq : QRun P n o L [] v) (h : D P n ops Q S t is (ls.setIfInBounds i true) (puts L o.dst v) K) : D P n ops Q S t (.cons i .pure is) ls L K := by
  intro a w ha hk
  simp only [wpPlan]
  exact ⟨o, v, (nthO_eq _ _).trans ho, .inl ⟨wanted_spec hw ha, fun w' _ => hq a w' ha ⟨List.nodup_nil, fun _ h => by cases h⟩⟩, h _ _ (ha.puts hd) hk⟩
theorem D_pskip [Bs] (ho : nthO ops i = some o) (hw : wanted ops L o = some false) (hd : fits n o.dst = true)
    (h : D P n ops Q S t is (ls.setIfInBounds i true) (puts L o.dst undef) K) : D P n ops Q S t (.cons i .pure is) ls L K := by
  intro a w ha hk
  simp only [wpPlan]
  exact ⟨o, undef, (nthO_eq _ _).trans ho, .inr ⟨wanted_spec hw ha, rfl⟩, h _ _ (ha.puts hd) hk⟩
theorem D_r [Bs] {v : Value} {KS : KB} (ho : nthO ops i = some o) (hw : wanted ops L o = some true) (hd : fits n o.dst = true)
    (hq : QRun P n o L KS v) (h : D P n ops Q (fun w => Knows w KS) t is (ls.setIfInBounds i true) (puts L o.dst v) K) : D P n ops Q (fun w => Knows w KS) t (.cons i .read is) ls L K := by
  intro a w ha hk
  simp only [wpPlan]
  exact ⟨o, v, (nthO_eq _ _).trans ho, .inl ⟨wanted_spec hw ha, fun w' hw' => hq a w' ha hw'.toKn0⟩, h _ _ (ha.puts hd) hk⟩
theorem D_rskip [Bs] (ho : nthO ops i = some o) (hw : wanted ops L o = some false) (hd : fits n o.dst = true)
    (h : D P n ops Q S t is (ls.setIfInBounds i true) (puts L o.dst undef) K) : D P n ops Q S t (.cons i .read is) ls L K := by
  intro a w ha hk
  simp only [wpPlan]
  exact ⟨o, undef, (nthO_eq _ _).trans ho, .inr ⟨wanted_spec hw ha, rfl⟩, h _ _ (ha.puts hd) hk⟩
theorem D_e [Bs] {β : Type} {v : β → Value} {K' : β → KB} [_hQ : Good Q] (ho : nthO ops i = some o) (hw : wanted ops L o = some true) (hd : fits n o.dst = true)
    (he : ERun P n o L K v K') (hS : (ls.setIfInBounds i true).getD t false = true ∨ ∀ x w, Knows w (K' x) → S w)
    (h : ∀ x, D P n ops Q S t is (ls.setIfInBounds i true) (puts L o.dst (v x)) (K' x)) : D P n ops Q S t (.cons i .eff is) ls L K := by
  intro a w ha hk
  simp only [wpPlan, wpOp, nthO_eq, ho]
  rw [if_pos (wanted_spec hw ha)]
  have hS' : ∀ x w', Knows w' (K' x) → (ls.setIfInBounds i true).getD t false = false → S w' := fun x w' hk' hf => by
    rcases hS with h | h
    · rw [h] at hf; cases hf
    · exact h x w' hk'
  rcases he a w ha hk with ⟨x, w', hr, hk'⟩ | hasks
  · refine .inl ?_
    rcases hr with hr | ⟨hr, hv⟩
    · simp only [Oper.wp, hr, Oper.upon]; exact ⟨hS' x w' hk', h x _ _ (ha.puts hd) hk'⟩
    · simp only [Oper.wp, hr, Oper.upon]; rw [← hv]; exact ⟨hS' x w' hk', h x _ _ (ha.puts hd) hk'⟩
  · exact hasks.elim
theorem D_eskip [Bs] (ho : nthO ops i = some o) (hw : wanted ops L o = some false) (hd : fits n o.dst = true)
    (hS : (ls.setIfInBounds i true).getD t false = true ∨ ∀ w, Knows w K → S w)
    (h : D P n ops Q S t is (ls.setIfInBounds i true) (puts L o.dst undef) K) : D P n ops Q S t (.cons i .eff is) ls L K := by
  intro a w ha hk
  simp only [wpPlan, wpOp, nthO_eq, ho]
  rw [if_neg (by rw [wanted_spec hw ha]; simp)]
  refine ⟨fun hf => ?_, h _ _ (ha.puts hd) hk⟩
  rcases hS with h | h
  · rw [h] at hf; cases hf
  · exact h w hk
theorem D_fork [Bs] {j : Nat} {p q : Pl} (h1 : D P n ops Q S t (.cons i .eff p) ls L K) (h2 : D P n ops Q S t (.cons j .eff q) ls L K) : D P n ops Q S t (.fork i j p q) ls L K :=
  fun a w ha hk => ⟨h1 a w ha hk, h2 a w ha hk⟩
theorem D_bool [Bs] (d : Nat) (b : Bool) (hg : L.get d = some (.bool b)) (ht : b = true → D P n ops Q S t is ls ((d, .bool true) :: L) K)
    (hf : b = false → D P n ops Q S t is ls ((d, .bool false) :: L) K) : D P n ops Q S t is ls L K := by
  intro a w ha hk
  have mk : ∀ c, b = c → Holds n a ((d, .bool c) :: L) := fun c hc => ⟨ha.size, ha.defers, fun s u hs => by
    simp only [Env.get] at hs
    cases hb : Nat.beq d s
    · rw [hb] at hs; exact ha.get s u hs
    · rw [hb] at hs; cases hs
      obtain rfl := Nat.eq_of_beq_eq_true hb
      have := ha.get d _ hg
      rw [this, hc]⟩
  cases hb : b
  · exact hf hb a w (mk false hb) hk
  · exact ht hb a w (mk true hb) hk
/-! ### Code -/
theorem C_perm [Bs] {c : Code} (K' : KB) (h : C P n c Q L K') (hs : K.Perm K') : C P n c Q L K := fun a w ha hk => h a w ha (hk.perm hs)
theorem C_region [Bs] {id : Nat} (h : W P n ops Q (List.range ops.length) L K) : C P n (.region id ops.toArray false) Q L K :=
  fun a w ha hk => wp_region (by simpa using h a w ha hk)
theorem C_draw [Bs] {id : Nat} [hQ : Good Q] (is : Pl) (S : World → Prop) (t : Nat) (hm : P.follows .mixedOrders = true)
    (hp : (Region.noSelect ops.toArray && planOK .any ops.toArray t ops.length is (Array.replicate ops.length false)) = true)
    (hS : ∀ w, Knows w K → S w) (h : D P n ops Q S t is (Array.replicate ops.length false) L K) : C P n (.region id ops.toArray true) Q L K := by
  simp only [Bool.and_eq_true] at hp
  intro a w ha hk
  have hk' : Knows { w with drawn := w.drawn + 1 } K := hk.heap rfl
  exact wp_region_plan hm is S t hp.1 hQ.nop (by simpa using hp.2) (hS _ hk') (by simpa using h a _ ha hk')
theorem C_seq [Bs] {x y : Code} (h : C P n x (Exit.then (y.wp P Q) Q) L K) : C P n (.seq x y) Q L K := fun a w ha hk => wp_seq (h a w ha hk)
/-- behind the first of two -/
theorem N_seq [Bs] {y : Code} (h : C P n y Q L K) : ∀ a w, Holds n a L → Knows w K → Exit.then (y.wp P Q) Q .normal a w := h
theorem C_skip [Bs] (h : ∀ a w, Holds n a L → Knows w K → Q .normal a w) : C P n .skip Q L K := fun a w ha hk => wp_skip (h a w ha hk)
theorem C_block [Bs] {id : Nat} {c : Code} (h : C P n c (Exit.inBlock id Q) L K) : C P n (.block id c) Q L K := fun a w ha hk => wp_block (h a w ha hk)
theorem C_exit [Bs] {id : Nat} (h : ∀ a w, Holds n a L → Knows w K → Q (.exit id) a w) : C P n (.exit id) Q L K := fun a w ha hk => wp_exit (h a w ha hk)
theorem C_ret [Bs] (h : ∀ a w, Holds n a L → Knows w K → Q .ret a w) : C P n .ret Q L K := fun a w ha hk => wp_ret (h a w ha hk)
theorem C_cond [Bs] {c : Operand} {x y : Code} {b : Bool} (hc : ev L c = some (.bool b)) (ht : b = true → C P n x Q L K) (hf : b = false → C P n y Q L K) : C P n (.cond c x y) Q L K :=
  fun a w ha hk => wp_cond_split (ev_eval ha hc) (fun h => ht h a w ha hk) (fun h => hf h a w ha hk)
theorem C_condT [Bs] {c : Operand} {x y : Code} (hc : ev L c = some (.bool true)) (h : C P n x Q L K) : C P n (.cond c x y) Q L K := C_cond hc (fun _ => h) (fun h => by cases h)
theorem C_condF [Bs] {c : Operand} {x y : Code} (hc : ev L c = some (.bool false)) (h : C P n y Q L K) : C P n (.cond c x y) Q L K := C_cond hc (fun h => by cases h) (fun _ => h)
/-- ways meet again: one of a family of states -/
theorem C_cut [Bs] {ι : Type} (Lf : ι → Env) (Kf : ι → KB) {x y : Code} (hx : C P n x (Exit.then (fun a w => ∃ j, Holds n a (Lf j) ∧ Knows w (Kf j)) Q) L K)
    (hy : ∀ j, C P n y Q (Lf j) (Kf j)) : C P n (.seq x y) Q L K := fun a w ha hk =>
  wp_seq (wp_mono (hx a w ha hk) fun e a w h => by
    cases e <;> first
      | exact h
      | (obtain ⟨j, h1, h2⟩ := h; exact hy j a w h1 h2))
theorem C_loop [Bs] {ι : Type} (Lf : ι → Env) (Kf : ι → KB) (μ : ι → Nat) (j₀ : ι) {c : Code} (hL : Sub (Lf j₀) L) (hK : K.Perm (Kf j₀))
    (round : ∀ j, C P n c (Exit.then (fun a w => ∃ j', μ j' < μ j ∧ Holds n a (Lf j') ∧ Knows w (Kf j')) Q) (Lf j) (Kf j)) : C P n (.loop c) Q L K := by
  intro a w ha hk
  refine wp_loop_ghost (fun m a w => ∃ j, μ j = m ∧ Holds n a (Lf j) ∧ Knows w (Kf j)) (μ j₀) ⟨j₀, rfl, ha.sub hL, hk.perm hK⟩ ?_
  rintro m a w ⟨j, rfl, h1, h2⟩
  refine wp_mono (round j a w h1 h2) fun e a w h => ?_
  cases e <;> first
    | exact h
    | (obtain ⟨j', h3, h4, h5⟩ := h; exact ⟨μ j', h3, j', rfl, h4, h5⟩)
end
end Go.SL
namespace Go.SL
open Go
/-! ## What the operations come to -/
/-- a block of cells, all known -/
def Cells (vs : List Value) (T : TypeId) : OP := fun o => o = .cells vs.toArray T (0, 0)
section facts
/-- closed facts on types, for the kernel -/
def aggB (P : Program) (T : TypeId) : Option Bool := match P.underlying T with
  | some (.struct _) | some (.array _ _) => some true
  | some _ => some false
  | none => none
def sizeB (P : Program) (T : TypeId) : Option Nat := (P.info? T).map (·.size)
def zeroB (P : Program) (T : TypeId) : Option Value := (P.info? T).bind (·.zero)
def fieldB (P : Program) (T : TypeId) (f : Nat) : Option Nat := match P.underlying T with
  | some (.struct fs) => match fs[f]? with
    | some x => match P.info? x.type with
      | some i => if i.size = 0 then none else some x.offset
      | none => none
    | none => none
  | _ => none
/-- a field of a value: where, how many cells, an aggregate? -/
def partB (P : Program) (T : TypeId) (f : Nat) : Option (Nat × Nat × Bool) := match P.underlying T with
  | some (.struct fs) => match fs[f]? with
    | some x => match P.info? x.type, aggB P x.type with
      | some i, some g => some (x.offset, i.size, g)
      | _, _ => none
    | none => none
  | _ => none
end facts
section
variable {P : Program} {n : Nat} {L : Env} {K : KB}
theorem run_isAgg {T : TypeId} {b : Bool} (h : aggB P T = some b) (w : World) : (isAgg T).run P w = .ok b w := by
  unfold aggB at h
  unfold isAgg
  cases hu : P.underlying T with
  | none => rw [hu] at h; cases h
  | some d =>
    rw [hu] at h
    simp only [Sem.run_bind, run_underlying hu]
    cases d <;> simp_all <;> subst h <;> rfl
theorem run_sizeOf {T : TypeId} {k : Nat} (h : sizeB P T = some k) (w : World) : (sizeOf T).run P w = .ok k w := by
  unfold sizeB at h
  cases hi : P.info? T with
  | none => rw [hi] at h; cases h
  | some i =>
    rw [hi] at h; simp at h
    simp [sizeOf, run_typeInfo w hi, h]
theorem run_zeroValue {T : TypeId} {v : Value} (h : zeroB P T = some v) (w : World) : (zeroValue T).run P w = .ok v w := by
  unfold zeroB at h
  cases hi : P.info? T with
  | none => rw [hi] at h; cases h
  | some i =>
    rw [hi] at h; simp at h
    simp [zeroValue, run_typeInfo w hi, h]
theorem cell_of {w : World} {b : Nat} {vs : List Value} {T : TypeId} (hb : ∃ o, w.heap[b]? = some o ∧ Cells vs T o) (off : Nat) : w.cell? ⟨b, off, none⟩ = vs[off]? := by
  obtain ⟨o, h1, rfl⟩ := hb
  simp [World.cell?, h1]
theorem Kn0.cell {w : World} {b : Nat} {vs : List Value} {T : TypeId} {K' : KB} (hk : Kn0 w K) (hp : Pick K b (Cells vs T) K') (off : Nat) :
    w.cell? ⟨b, off, none⟩ = vs[off]? := cell_of (hk.has _ hp.mem) off
theorem Kn0.free {w : World} {b : Nat} {vs : List Value} {T : TypeId} {K' : KB} (hk : Kn0 w K) (hp : Pick K b (Cells vs T) K') (off : Nat) :
    w.frozen? ⟨b, off, none⟩ = false := by
  obtain ⟨o, h1, h2⟩ := hk.has _ hp.mem
  have h2 : o = .cells vs.toArray T (0, 0) := h2
  subst h2
  simp [World.frozen?, h1]
/-! ### without memory -/
theorem q_move {d : Option Nat} {x : Operand} {v : Value} {ty pos aft gd} (hx : ev L x = some v) : QRun P n ⟨d, .move x, ty, pos, aft, gd⟩ L K v := by
  intro a w ha hk
  simp [execOp, ev_eval ha hx]
theorem q_assign {d : Option Nat} {x : Operand} {v : Value} {ty pos aft gd} (hx : ev L x = some v) : QRun P n ⟨d, .assign x, ty, pos, aft, gd⟩ L K v := by
  intro a w ha hk
  simp [execOp, ev_eval ha hx]
theorem q_pickT {d : Option Nat} {c x y : Operand} {v : Value} {ty pos aft gd} (hc : ev L c = some (.bool true)) (hx : ev L x = some v) : QRun P n ⟨d, .pick c x y, ty, pos, aft, gd⟩ L K v := by
  intro a w ha hk
  simp [execOp, ev_eval ha hx, ev_eval ha hc, asBool]
theorem q_pickF {d : Option Nat} {c x y : Operand} {v : Value} {ty pos aft gd} (hc : ev L c = some (.bool false)) (hy : ev L y = some v) : QRun P n ⟨d, .pick c x y, ty, pos, aft, gd⟩ L K v := by
  intro a w ha hk
  simp [execOp, ev_eval ha hy, ev_eval ha hc, asBool]
theorem q_nilCheck {d : Option Nat} {x : Operand} {p : Addr} {ty pos aft gd} (hx : ev L x = some (.pointer (some p))) : QRun P n ⟨d, .nilCheck x, ty, pos, aft, gd⟩ L K (.pointer (some p)) := by
  intro a w ha hk
  simp [execOp, ev_eval ha hx]
theorem q_fieldAddr {d : Option Nat} {x : Operand} {b off k m : Nat} {T : TypeId} {f : Nat} {ty pos aft gd} (hf : fieldB P T f = some k)
    (hx : ev L x = some (.pointer (some ⟨b, off, none⟩))) (hm : off + k = m) : QRun P n ⟨d, .fieldAddr T x f, ty, pos, aft, gd⟩ L K (.pointer (some ⟨b, m, none⟩)) := by
  intro a w ha hk
  unfold fieldB at hf
  split at hf
  · rename_i fs hu
    split at hf
    · rename_i fx hfx
      split at hf
      · rename_i i hi
        split at hf
        · cases hf
        · rename_i hz
          simp only [Option.some.injEq] at hf
          have hs : (sizeOf fx.type).run P w = .ok i.size w := run_sizeOf (by simp [sizeB, hi]) w
          have hadd : Addr.add ⟨b, off, none⟩ fx.offset = ⟨b, m, none⟩ := by
            unfold Addr.add
            split
            · rename_i h0; rw [h0] at hf; subst hm; subst hf; rfl
            · subst hm; subst hf; rfl
          simp [execOp, ev_eval ha hx, Instr.fieldAt, run_underlying hu, hfx, Instr.sureAddr, fieldPlace, hs, hz, hadd]
      · cases hf
    · cases hf
  · cases hf
theorem q_not {d : Option Nat} {x : Operand} {b : Bool} {T : TypeId} {ty pos aft gd} (hx : ev L x = some (.bool b)) : QRun P n ⟨d, .unOp .not T x, ty, pos, aft, gd⟩ L K (.bool !b) := by
  intro a w ha hk
  simp [execOp, ev_eval ha hx, Op.unary]
/-- what two integers come to -/
def intRes (op : BinOp) (k : IntKind) (x y : Int) : Option Value := match op with
  | .add => some (.int k (k.wrap (x + y)))
  | .sub => some (.int k (k.wrap (x - y)))
  | .mul => some (.int k (k.wrap (x * y)))
  | .eql => some (.bool (x == y))
  | .neq => some (.bool (x != y))
  | .lss => some (.bool (decide (x < y)))
  | .leq => some (.bool (decide (x ≤ y)))
  | .gtr => some (.bool (decide (y < x)))
  | .geq => some (.bool (decide (y ≤ x)))
  | _ => none
theorem q_int {d : Option Nat} {op : BinOp} {x y : Operand} {k : IntKind} {p q : Int} {v : Value} {T U : TypeId} {ty pos aft gd}
    (hx : ev L x = some (.int k p)) (hy : ev L y = some (.int k q)) (hv : intRes op k p q = some v) : QRun P n ⟨d, .binOp op T x y U, ty, pos, aft, gd⟩ L K v := by
  intro a w ha hk
  cases op <;> simp only [intRes, Option.some.injEq, reduceCtorEq] at hv <;> subst hv <;>
    simp [execOp, ev_eval ha hx, ev_eval ha hy, eqGuard, binOp, Op.intArith, Op.intCmp]
/-- the same, where nothing wraps -/
theorem q_add {d : Option Nat} {x y : Operand} {k : IntKind} {p q r : Int} {T U : TypeId} {ty pos aft gd}
    (hx : ev L x = some (.int k p)) (hy : ev L y = some (.int k q)) (hv : k.wrap (p + q) = r) : QRun P n ⟨d, .binOp .add T x y U, ty, pos, aft, gd⟩ L K (.int k r) :=
  q_int hx hy (by simp [intRes, hv])
theorem q_sub {d : Option Nat} {x y : Operand} {k : IntKind} {p q r : Int} {T U : TypeId} {ty pos aft gd}
    (hx : ev L x = some (.int k p)) (hy : ev L y = some (.int k q)) (hv : k.wrap (p - q) = r) : QRun P n ⟨d, .binOp .sub T x y U, ty, pos, aft, gd⟩ L K (.int k r) :=
  q_int hx hy (by simp [intRes, hv])
theorem q_mul {d : Option Nat} {x y : Operand} {k : IntKind} {p q r : Int} {T U : TypeId} {ty pos aft gd}
    (hx : ev L x = some (.int k p)) (hy : ev L y = some (.int k q)) (hv : k.wrap (p * q) = r) : QRun P n ⟨d, .binOp .mul T x y U, ty, pos, aft, gd⟩ L K (.int k r) :=
  q_int hx hy (by simp [intRes, hv])
theorem q_rem {d : Option Nat} {x y : Operand} {k : IntKind} {p q : Int} {T U : TypeId} {ty pos aft gd}
    (hx : ev L x = some (.int k p)) (hy : ev L y = some (.int k q)) (hq : q ≠ 0) : QRun P n ⟨d, .binOp .rem T x y U, ty, pos, aft, gd⟩ L K (.int k (p.tmod q)) := by
  intro a w ha hk
  simp [execOp, ev_eval ha hx, ev_eval ha hy, eqGuard, binOp, Op.intDiv, hq]
theorem q_quo {d : Option Nat} {x y : Operand} {k : IntKind} {p q : Int} {T U : TypeId} {ty pos aft gd}
    (hx : ev L x = some (.int k p)) (hy : ev L y = some (.int k q)) (hq : q ≠ 0) : QRun P n ⟨d, .binOp .quo T x y U, ty, pos, aft, gd⟩ L K (.int k (k.wrap (p.tdiv q))) := by
  intro a w ha hk
  simp [execOp, ev_eval ha hx, ev_eval ha hy, eqGuard, binOp, Op.intDiv, hq]
theorem q_conv {d : Option Nat} {x : Operand} {j k : IntKind} {p r : Int} {A B : TypeId} {e : TypeDesc} {ty pos aft gd} (hA : P.underlying A = some e) (hB : P.underlying B = some (.int k))
    (hx : ev L x = some (.int j p)) (hr : k.wrap p = r) : QRun P n ⟨d, .convert A B x, ty, pos, aft, gd⟩ L K (.int k r) := by
  intro a w ha hk
  subst hr
  simp only [execOp, ev_eval ha hx, convert, Sem.run_bind, run_underlying hA, run_underlying hB]
  cases e <;> rfl
theorem q_extract {d : Option Nat} {x : Operand} {vs : Array Value} {v : Value} {j : Nat} {ty pos aft gd} (hx : ev L x = some (.tuple vs)) (hv : vs[j]? = some v) :
    QRun P n ⟨d, .extract x j, ty, pos, aft, gd⟩ L K v := by
  intro a w ha hk
  simp [execOp, ev_eval ha hx, Instr.extract, hv]
theorem q_makeFunc {d : Option Nat} {f : Fn} {xs ys : Array Operand} {us vs : Array Value} {ty pos aft gd} (hx : xs.mapM (ev L) = some us) (hy : ys.mapM (ev L) = some vs) :
    QRun P n ⟨d, .makeFunc f xs ys, ty, pos, aft, gd⟩ L K (.func f us vs) := by
  intro a w ha hk
  have key : ∀ (xs : List Operand) (us : List Value), xs.mapM (ev L) = some us → xs.map a.eval = us := by
    intro xs
    induction xs with
    | nil => intro us h; simp at h; simp [h]
    | cons x xs ih =>
      intro us h
      simp only [List.mapM_cons, Option.bind_eq_bind, Option.bind_eq_some_iff, Option.pure_def, Option.some.injEq] at h
      obtain ⟨u, hu, us', hus, rfl⟩ := h
      simp [ev_eval ha hu, ih us' hus]
  have arr : ∀ (xs : Array Operand) (us : Array Value), xs.mapM (ev L) = some us → xs.map a.eval = us := by
    intro xs us h
    have h' : xs.toList.mapM (ev L) = some us.toList := by
      rw [← Array.toList_mapM, h]; rfl
    have := key _ _ h'
    apply Array.ext'
    simpa using this
  simp [execOp, Instr.makeFunc, arr _ _ hx, arr _ _ hy]
/-! ### reading memory -/
theorem q_load {d : Option Nat} {x : Operand} {T U : TypeId} {b off : Nat} {vs : List Value} {v : Value} {K' : KB} {ty pos aft gd} (hT : aggB P T = some false)
    (hx : ev L x = some (.pointer (some ⟨b, off, none⟩))) (hp : Pick K b (Cells vs U) K') (hv : vs[off]? = some v) : QRun P n ⟨d, .load T x, ty, pos, aft, gd⟩ L K v := by
  intro a w ha hk
  have hc := hk.cell hp off
  rw [hv] at hc
  simp [execOp, ev_eval ha hx, Instr.loadAt, Instr.sureAddr, loadVar, run_isAgg hT, load, Sem.run, hc]
theorem run_loadCellsFrom {w : World} {b off : Nat} {vs : List Value} (hc : ∀ j, w.cell? ⟨b, j, none⟩ = vs[j]?) : ∀ (m i : Nat) (acc : Array Value), off + i + m ≤ vs.length →
    (loadCellsFrom ⟨b, off, none⟩ i m acc).run P w = .ok (acc ++ ((vs.drop (off + i)).take m).toArray) w
  | 0, i, acc, h => by simp [loadCellsFrom]
  | m + 1, i, acc, h => by
    have hlt : off + i < vs.length := by omega
    have hadd : Addr.add ⟨b, off, none⟩ i = ⟨b, off + i, none⟩ := by unfold Addr.add; split <;> simp_all
    have h1 := hc (off + i)
    rw [List.getElem?_eq_getElem hlt] at h1
    simp only [loadCellsFrom, Sem.run_bind, hadd, load, Sem.run, h1, Result.andThen]
    rw [run_loadCellsFrom hc m (i + 1) (acc.push vs[off + i]) (by omega)]
    rw [List.drop_eq_getElem_cons hlt, List.take_succ_cons, show off + (i + 1) = off + i + 1 from by omega]
    simp
theorem q_loadAgg {d : Option Nat} {x : Operand} {T U : TypeId} {b off m : Nat} {vs us : List Value} {K' : KB} {ty pos aft gd} (hT : aggB P T = some true) (hm : sizeB P T = some m)
    (hx : ev L x = some (.pointer (some ⟨b, off, none⟩))) (hp : Pick K b (Cells vs U) K') (hlen : off + m ≤ vs.length) (hv : (vs.drop off).take m = us) :
    QRun P n ⟨d, .load T x, ty, pos, aft, gd⟩ L K (.agg us.toArray) := by
  intro a w ha hk
  have := run_loadCellsFrom (P := P) (b := b) (off := off) (fun j => hk.cell hp j) m 0 #[] (by omega)
  simp [execOp, ev_eval ha hx, Instr.loadAt, Instr.sureAddr, loadVar, run_isAgg hT, run_sizeOf hm, loadCells, this, hv]
theorem q_field {d : Option Nat} {x : Operand} {T : TypeId} {f off m : Nat} {cs : Array Value} {v : Value} {ty pos aft gd} (hf : partB P T f = some (off, m, false))
    (hx : ev L x = some (.agg cs)) (hv : cs[off]? = some v) : QRun P n ⟨d, .field T x f, ty, pos, aft, gd⟩ L K v := by
  intro a w ha hk
  unfold partB at hf
  split at hf
  · rename_i fs hu
    split at hf
    · rename_i fx hfx
      split at hf
      · rename_i i g hi hg
        simp only [Option.some.injEq, Prod.mk.injEq] at hf
        obtain ⟨h1, h2, h3⟩ := hf
        subst h1; subst h3
        simp [execOp, ev_eval ha hx, Instr.field, run_underlying hu, hfx, part, run_isAgg hg, hv, asAgg]
      · cases hf
    · cases hf
  · cases hf
/-! ### len, indexes -/
theorem q_lenSlice {d : Option Nat} {x : Operand} {T : TypeId} {e : TypeId} {p : Option Addr} {l c : Nat} {ats : Array TypeId} {ty pos aft gd} (hT : P.underlying T = some (.slice e)) (hat : ats[0]? = some T)
    (hx : ev L x = some (.slice p l c)) : QRun P n ⟨d, .call ⟨.builtin .len, #[x], ats⟩, ty, pos, aft, gd⟩ L K (.int .i64 l) := by
  intro a w ha hk
  simp [execOp, resolve, invoke, builtin, Builtin.len_, hat, ev_eval ha hx, run_underlying hT, goInt]
theorem q_indexAddr {d : Option Nat} {x y : Operand} {T e : TypeId} {b off l c k m : Nat} {j : Int} {kd : IntKind} {ty pos aft gd} (hT : P.underlying T = some (.slice e)) (he : sizeB P e = some k)
    (hx : ev L x = some (.slice (some ⟨b, off, none⟩) l c)) (hy : ev L y = some (.int kd j)) (h0 : 0 ≤ j) (hl : j < l) (hm : off + j.toNat * k = m) :
    QRun P n ⟨d, .indexAddr T x y, ty, pos, aft, gd⟩ L K (.pointer (some ⟨b, m, none⟩)) := by
  intro a w ha hk
  have hadd : Addr.add ⟨b, off, none⟩ (j.toNat * k) = ⟨b, m, none⟩ := by
    unfold Addr.add; split <;> simp_all
  simp [execOp, ev_eval ha hx, ev_eval ha hy, Instr.indexAt, asIntOf, run_underlying hT, h0, hl, run_sizeOf he, hadd]
end
end Go.SL
namespace Go.SL
open Go
section
variable {P : Program} {n : Nat} {L : Env} {K : KB}
/-- memory that has turned in one block alone -/
theorem heap_setCell_other {w : World} {a : Addr} {v : Value} {c : Nat} (h : c ≠ a.block) : (w.setCell a v).heap[c]? = w.heap[c]? := by
  simp [World.setCell, Array.getElem?_modify, Ne.symm h]
theorem heap_setCell_same {w : World} {b off : Nat} {v : Value} {vs : List Value} {T : TypeId} (h : w.heap[b]? = some (.cells vs.toArray T (0, 0))) :
    (w.setCell ⟨b, off, none⟩ v).heap[b]? = some (.cells (vs.set off v).toArray T (0, 0)) := by
  simp [World.setCell, Array.getElem?_modify, h]
theorem Knows.store [Bs] {w : World} {K' : KB} {b off : Nat} {v : Value} {vs : List Value} {T : TypeId} (hk : Knows w K) (hu : Upd K b (Cells vs T) (Cells (vs.set off v) T) K') :
    Knows (w.setCell ⟨b, off, none⟩ v) K' := by
  obtain ⟨o, h1, h2⟩ := hk.has _ hu.mem
  have h2 : o = .cells vs.toArray T (0, 0) := h2
  subst h2
  exact hk.upd hu (heap_setCell_same h1) rfl (fun c hc => heap_setCell_other hc)
theorem Knows.cellU [Bs] {w : World} {K' : KB} {b off : Nat} {ψ : OP} {vs : List Value} {T : TypeId} (hk : Knows w K) (hu : Upd K b (Cells vs T) ψ K') :
    w.cell? ⟨b, off, none⟩ = vs[off]? ∧ w.frozen? ⟨b, off, none⟩ = false := by
  obtain ⟨o, h1, h2⟩ := hk.has _ hu.mem
  have h2 : o = .cells vs.toArray T (0, 0) := h2
  subst h2
  simp [World.cell?, World.frozen?, h1]
def oneC : Value → Bool
  | .agg _ | .tuple _ => false
  | _ => true
theorem run_store1 {w : World} {a : Addr} {v u : Value} (h1 : oneC v = true) (hc : w.cell? a = some u) (hf : w.frozen? a = false) : (store a v).run P w = .ok () (w.setCell a v) := by
  cases v <;> simp [oneC] at h1 <;> simp [store, Sem.run, hc, hf]
theorem e_store [Bs] {d : Option Nat} {x y : Operand} {T U : TypeId} {b off : Nat} {vs : List Value} {v : Value} {K' : KB} {ty pos aft gd} (hT : sizeB P T = some 1)
    (hx : ev L x = some (.pointer (some ⟨b, off, none⟩))) (hy : ev L y = some v) (h1 : oneC v = true)
    (hu : Upd K b (Cells vs U) (Cells (vs.set off v) U) K') (hoff : off < vs.length) : ERun (β := Unit) P n ⟨d, .store T x y, ty, pos, aft, gd⟩ L K (fun _ => undef) (fun _ => K') := by
  intro a w ha hk
  refine .inl ⟨(), w.setCell ⟨b, off, none⟩ v, ?_, hk.store hu⟩
  obtain ⟨hc, hf⟩ := hk.cellU (off := off) hu
  rw [List.getElem?_eq_getElem hoff] at hc
  have hcells : v.cells = #[v] := by cases v <;> simp [oneC] at h1 <;> rfl
  have hr := run_store1 (P := P) h1 hc hf
  have hadd : Addr.add ⟨b, off, none⟩ 0 = ⟨b, off, none⟩ := rfl
  right
  refine ⟨?_, rfl⟩
  simp [execOp, ev_eval ha hx, ev_eval ha hy, Instr.storeAt, Instr.sureAddr, storeVar, run_sizeOf hT, hcells, storeCells, hadd, hr]
/-- a part of a row turned -/
def splice (vs : List Value) (off : Nat) (us : List Value) : List Value := vs.take off ++ us ++ vs.drop (off + us.length)
theorem splice_nil (vs : List Value) (off : Nat) : splice vs off [] = vs := by simp [splice]
theorem splice_cons {vs us : List Value} {off : Nat} {u : Value} (h : off < vs.length) : splice (vs.set off u) (off + 1) us = splice vs off (u :: us) := by
  simp only [splice, List.length_cons]
  rw [List.take_set, List.drop_set, if_pos (by omega), show off + 1 + us.length = off + (us.length + 1) from by omega]
  rw [List.take_succ_eq_append_getElem h]
  rw [List.set_append, if_neg (by simp; omega)]
  simp [Nat.min_eq_left (Nat.le_of_lt h)]
theorem run_storeCells [Bs] {b off : Nat} {T : TypeId} : ∀ (us : List Value) (i : Nat) (vs : List Value) (w : World) (K K' : KB), us.all oneC = true → off + i + us.length ≤ vs.length → Knows w K →
    Upd K b (Cells vs T) (Cells (splice vs (off + i) us) T) K' → ∃ w', (storeCells ⟨b, off, none⟩ us i).run P w = .ok () w' ∧ Knows w' K'
  | [], i, vs, w, K, K', _, _, hk, hu => by
    refine ⟨w, by simp [storeCells], ?_⟩
    rw [splice_nil] at hu
    exact hk.mono hu (fun _ h => h)
  | u :: us, i, vs, w, K, K', h1, hl, hk, hu => by
    simp only [List.all_cons, Bool.and_eq_true] at h1
    simp only [List.length_cons] at hl
    have hadd : Addr.add ⟨b, off, none⟩ i = ⟨b, off + i, none⟩ := by unfold Addr.add; split <;> simp_all
    obtain ⟨hc, hf⟩ := hk.cellU (off := off + i) hu
    rw [List.getElem?_eq_getElem (by omega)] at hc
    obtain ⟨R, p1, p2⟩ := hu.perm
    have hk2 : Knows (w.setCell ⟨b, off + i, none⟩ u) ((b, Cells (vs.set (off + i) u) T) :: R) := (hk.perm p1).store .here
    obtain ⟨w', hr, hk'⟩ := run_storeCells (b := b) (off := off) us (i + 1) (vs.set (off + i) u) _ _ ((b, Cells (splice vs (off + i) (u :: us)) T) :: R) h1.2 (by simp; omega) hk2
      (by rw [← splice_cons (by omega), show off + (i + 1) = off + i + 1 from rfl]; exact .here)
    refine ⟨w', ?_, hk'.perm p2.symm⟩
    simp [storeCells, hadd, run_store1 (P := P) h1.1 hc hf, hr]
theorem e_storeAgg [Bs] {d : Option Nat} {x y : Operand} {T U : TypeId} {b off m : Nat} {vs us : List Value} {K' : KB} {ty pos aft gd} (hT : sizeB P T = some m)
    (hx : ev L x = some (.pointer (some ⟨b, off, none⟩))) (hy : ev L y = some (.agg us.toArray)) (h1 : us.all oneC = true) (hm : us.length = m)
    (hu : Upd K b (Cells vs U) (Cells (splice vs off us) U) K') (hoff : off + us.length ≤ vs.length) : ERun (β := Unit) P n ⟨d, .store T x y, ty, pos, aft, gd⟩ L K (fun _ => undef) (fun _ => K') := by
  intro a w ha hk
  obtain ⟨w', hr, hk'⟩ := run_storeCells (P := P) us 0 vs w K K' h1 (by simpa using hoff) hk (by simpa using hu)
  refine .inl ⟨(), w', .inr ⟨?_, rfl⟩, hk'⟩
  subst hm
  simp [execOp, ev_eval ha hx, ev_eval ha hy, Instr.storeAt, Instr.sureAddr, storeVar, run_sizeOf hT, Value.cells, hr]
theorem Knows.alloc [Bs] {w : World} {o : Obj} {φ : OP} (hk : Knows w K) (ho : φ o) : Knows { w with heap := w.heap.push o } ((w.heap.size, φ) :: K) := hk.new rfl ho
theorem e_alloc [Bs] {d : Option Nat} {T : TypeId} {z : Value} {ty pos aft gd} (hz : zeroB P T = some z) :
    ERun (β := Nat) P n ⟨d, .alloc T, ty, pos, aft, gd⟩ L K (fun b => .pointer (some ⟨b, 0, none⟩)) (fun b => (b, Cells z.cells.toList T) :: K) := by
  intro a w ha hk
  refine .inl ⟨w.heap.size, { w with heap := w.heap.push (.cells z.cells T) }, .inl ?_, hk.alloc (by simp [Cells])⟩
  simp [execOp, Instr.alloc, run_zeroValue hz, newVar, newRow, newObj, Sem.run]
theorem e_box [Bs] {d : Option Nat} {T : TypeId} {x : Operand} {v : Value} {ty pos aft gd} (hx : ev L x = some v) :
    ERun (β := Nat) P n ⟨d, .box T x, ty, pos, aft, gd⟩ L K (fun b => .pointer (some ⟨b, 0, none⟩)) (fun b => (b, Cells v.cells.toList T) :: K) := by
  intro a w ha hk
  refine .inl ⟨w.heap.size, { w with heap := w.heap.push (.cells v.cells T) }, .inl ?_, hk.alloc (by simp [Cells])⟩
  simp [execOp, Instr.box, ev_eval ha hx, newVar, newRow, newObj, Sem.run]
end
/-! ## Functions -/
/-- a contract: what is known of memory ahead of the call, what it hands back, what is known behind it; all else is as it was -/
def Spec [Bs] (P : Program) (f : FuncId) (args : List Value) (K : KB) (post : Value → KB → Prop) : Prop :=
  ∀ F w, Knows w (K ++ F) → Calls P f args.toArray w (Ret fun v w' => ∃ K', post v K' ∧ Knows w' (K' ++ F))
def argEnv : Nat → List Value → Env
  | _, [] => []
  | i, v :: vs => (i, v) :: argEnv (i + 1) vs
theorem argEnv_get : ∀ (vs : List Value) (i t : Nat) (v : Value), (argEnv i vs).get t = some v → i ≤ t ∧ vs[t - i]? = some v
  | [], _, _, _, h => by cases h
  | u :: us, i, t, v, h => by
    simp only [argEnv, Env.get] at h
    cases hb : Nat.beq i t
    · rw [hb] at h
      obtain ⟨h1, h2⟩ := argEnv_get us (i + 1) t v h
      refine ⟨by omega, ?_⟩
      rw [show t - i = (t - (i + 1)) + 1 from by omega]
      simpa using h2
    · rw [hb] at h
      obtain rfl := Nat.eq_of_beq_eq_true hb
      simpa using h
theorem holds_enter {n : Nat} {args : List Value} (h : args.length ≤ n) : Holds n { tmps := args.toArray ++ Array.replicate (n - args.toArray.size) undef, defers := [] } (argEnv 0 args) := by
  refine ⟨by simp; omega, rfl, ?_⟩
  intro t v hg
  obtain ⟨_, h2⟩ := argEnv_get args 0 t v hg
  simp only [Nat.sub_zero] at h2
  have hlt : t < args.length := (List.getElem?_eq_some_iff.1 h2).1
  rw [Array.getD_eq_getD_getElem?, Array.getElem?_append_left (by simpa using hlt)]
  simp [h2]
theorem spec_body [Bs] {P : Program} {f : FuncId} {fn : Func} {c : Code} {args : List Value} {K : KB} {post : Value → KB → Prop} (hf : P.funcs[f]? = some fn) (hb : fn.body = some c)
    (ha : Nat.ble args.length fn.ntmps = true)
    (h : ∀ (F : KB) (R : Value → World → Prop), (∀ v K' w, post v K' → Knows w (K' ++ F) → R v w) → C P fn.ntmps c (bodyPost P fn (Ret R)) (argEnv 0 args) (K ++ F)) : Spec P f args K post := by
  intro F w hk
  refine calls_of_wp hf hb ?_
  exact h F _ (fun v K' w hp hw => ⟨K', hp, hw⟩) _ _ (holds_enter (Nat.le_of_ble_eq_true ha)) hk
theorem Spec.mono [Bs] {P : Program} {f : FuncId} {args : List Value} {K : KB} {post post' : Value → KB → Prop} (h : Spec P f args K post) (hp : ∀ v K', post v K' → post' v K') : Spec P f args K post' :=
  fun F w hk => (h F w hk).mono fun e w' he => by
    cases e with
    | returned v => obtain ⟨K', h1, h2⟩ := he; exact ⟨K', hp _ _ h1, h2⟩
    | panicked c => exact he
    | outgrown => exact he.elim
theorem Spec.perm [Bs] {P : Program} {f : FuncId} {args : List Value} {K K' : KB} {post : Value → KB → Prop} (h : Spec P f args K post) (hp : K'.Perm K) : Spec P f args K' post :=
  fun F w hk => h F w (hk.perm (hp.append_right F))
def plainFn (P : Program) (f : FuncId) : Bool := match P.funcs[f]? with
  | some fn => !(fn.name == "runtime.NumGoroutine") && fn.body.isSome
  | none => false
section
variable {P : Program} {n : Nat} {ops : List Oper} {Q : Exit → Act → World → Prop} {i : Nat} {rest : List Nat} {L : Env} {K : KB} {o : Oper}
  {S : World → Prop} {t : Nat} {is : Pl} {ls : Array Bool}
def evs (L : Env) : List Operand → Option (List Value)
  | [] => some []
  | x :: xs => match ev L x, evs L xs with
    | some v, some vs => some (v :: vs)
    | _, _ => none
theorem evs_eval {a : Act} (ha : Holds n a L) : ∀ {xs : List Operand} {vs : List Value}, evs L xs = some vs → xs.map a.eval = vs
  | [], vs, h => by simpa [evs] using h
  | x :: xs, vs, h => by
    simp only [evs] at h
    split at h
    · rename_i v vs' h1 h2
      simp only [Option.some.injEq] at h
      subst h
      simp [ev_eval ha h1, evs_eval ha h2]
    · cases h
theorem run_callFunc {f : FuncId} {args : Array Value} {w : World} (hp : plainFn P f = true) : (callFunc f args).run P w = .ok (.enter f args) w := by
  unfold plainFn at hp
  split at hp
  · rename_i fn hf
    simp only [Bool.and_eq_true, Bool.not_eq_true'] at hp
    have h1 : ¬ fn.name = "runtime.NumGoroutine" := by simpa using hp.1
    have h2 : ¬ fn.body = none := by intro h; rw [h] at hp; simp at hp
    simp [callFunc, hf, h1, h2]
  · cases hp
/-- a function value: what it calls, and with what -/
def calleeOf : Value → List Value → Option (FuncId × List Value)
  | .func (.func f) first captured, args => some (f, first.toList ++ args ++ captured.toList)
  | _, _ => none
theorem run_callValue {d : Option Nat} {x : Operand} {xs : Array Operand} {ats : Array TypeId} {ty pos aft gd} {fv : Value} {f : FuncId} {vs args : List Value} {a : Act} {w : World} (ha : Holds n a L)
    (hx : ev L x = some fv) (hxs : evs L xs.toList = some vs) (hc : calleeOf fv vs = some (f, args)) (hp : plainFn P f = true) :
    (execOp a.eval ⟨d, .call ⟨.value x, xs, ats⟩, ty, pos, aft, gd⟩).run P w = .ok (.enter f args.toArray) w := by
  have h1 := ev_eval ha hx
  have h2 : xs.map a.eval = vs.toArray := by
    apply Array.ext'
    simpa using evs_eval ha hxs
  cases fv with
  | func fn first captured =>
    cases fn with
    | func f' =>
      simp only [calleeOf, Option.some.injEq, Prod.mk.injEq] at hc
      obtain ⟨rfl, rfl⟩ := hc
      have h3 : first ++ vs.toArray ++ captured = (first.toList ++ vs ++ captured.toList).toArray := by
        apply Array.ext'; simp
      simp only [execOp, resolve, h1, h2, Deferred.ofValue, invoke, Sem.run_bind, Sem.run_pure, Result.andThen, run_callFunc hp, h3]
    | _ => simp [calleeOf] at hc
  | _ => simp [calleeOf] at hc
theorem wp_of_spec [Bs] {a : Act} {w : World} {f : FuncId} {args : List Value} {Kc F : KB} {post : Value → KB → Prop} {next : Act → World → Prop} [_hQ : Good Q]
    (hr : (execOp a.eval o).run P w = .ok (.enter f args.toArray) w) (hs : Spec P f args Kc post) (hk : Knows w (Kc ++ F))
    (h : ∀ v K' w', post v K' → Knows w' (K' ++ F) → next (a.put o.dst v) w') : o.wp P a w next Q := by
  simp only [Oper.wp, hr, Oper.upon]
  refine (hs F w hk).mono fun e w' he => ?_
  cases e with
  | returned v => obtain ⟨K', h1, h2⟩ := he; exact h v K' w' h1 h2
  | panicked c => exact he.elim
  | outgrown => exact he.elim
theorem W_call [Bs] {d : Option Nat} {x : Operand} {xs : Array Operand} {ats : Array TypeId} {ty pos aft gd} {fv : Value} {f : FuncId} {vs args : List Value} {Kc F : KB} {post : Value → KB → Prop} [hQ : Good Q]
    (ho : nthO ops i = some ⟨d, .call ⟨.value x, xs, ats⟩, ty, pos, aft, gd⟩) (hw : wanted ops L ⟨d, .call ⟨.value x, xs, ats⟩, ty, pos, aft, gd⟩ = some true) (hd : fits n d = true)
    (hx : ev L x = some fv) (hxs : evs L xs.toList = some vs) (hc : calleeOf fv vs = some (f, args)) (hp : plainFn P f = true)
    (hs : Spec P f args Kc post) (hK : K.Perm (Kc ++ F)) (h : ∀ v K', post v K' → W P n ops Q rest (puts L d v) (K' ++ F)) : W P n ops Q (i :: rest) L K := by
  intro a w ha hk
  simp only [wpOps, nthO_eq, ho]
  rw [if_pos (wanted_spec hw ha)]
  exact .inl (wp_of_spec (run_callValue ha hx hxs hc hp) hs (hk.perm hK) fun v K' w' hpost hk' => h v K' hpost _ _ (ha.puts hd) hk')
theorem D_call [Bs] {d : Option Nat} {x : Operand} {xs : Array Operand} {ats : Array TypeId} {ty pos aft gd} {fv : Value} {f : FuncId} {vs args : List Value} {Kc F : KB} {post : Value → KB → Prop} [hQ : Good Q]
    (ho : nthO ops i = some ⟨d, .call ⟨.value x, xs, ats⟩, ty, pos, aft, gd⟩) (hw : wanted ops L ⟨d, .call ⟨.value x, xs, ats⟩, ty, pos, aft, gd⟩ = some true) (hd : fits n d = true)
    (hx : ev L x = some fv) (hxs : evs L xs.toList = some vs) (hc : calleeOf fv vs = some (f, args)) (hp : plainFn P f = true)
    (hs : Spec P f args Kc post) (hK : K.Perm (Kc ++ F)) (hS : (ls.setIfInBounds i true).getD t false = true ∨ ∀ v K' w, post v K' → Knows w (K' ++ F) → S w)
    (h : ∀ v K', post v K' → D P n ops Q S t is (ls.setIfInBounds i true) (puts L d v) (K' ++ F)) : D P n ops Q S t (.cons i .eff is) ls L K := by
  intro a w ha hk
  simp only [wpPlan, wpOp, nthO_eq, ho]
  rw [if_pos (wanted_spec hw ha)]
  refine .inl (wp_of_spec (run_callValue ha hx hxs hc hp) hs (hk.perm hK) fun v K' w' hpost hk' => ⟨fun hf => ?_, h v K' hpost _ _ (ha.puts hd) hk'⟩)
  rcases hS with h' | h'
  · rw [h'] at hf; cases hf
  · exact h' v K' w' hpost hk'
/-! ### ends -/
theorem R_val {fn : Func} {R : Value → World → Prop} {v : Value} {e : Exit} {a : Act} {w : World} (he : e = .ret ∨ e = .normal) (hd : a.defers = []) (hr : (results fn a.tmps).run P w = .ok v w) (h : R v w) :
    bodyPost P fn (Ret R) e a w := by
  rcases he with rfl | rfl <;> exact ⟨hd, v, hr, h⟩
theorem res0 {fn : Func} {a : Act} {w : World} (hr : fn.results = #[]) : (results fn a.tmps).run P w = .ok (.tuple #[]) w := by simp [results, hr]
theorem Holds.get' {a : Act} (ha : Holds n a L) {s : Nat} {v : Value} (hs : L.get s = some v) : a.tmps[s]?.getD undef = v := by
  have := ha.get s v hs
  rwa [Array.getD_eq_getD_getElem?] at this
theorem res1 {fn : Func} {a : Act} {w : World} {s : Nat} {v : Value} (ha : Holds n a L) (hr : fn.results = #[.tmp s]) (hs : L.get s = some v) : (results fn a.tmps).run P w = .ok v w := by
  simp [results, hr, ha.get' hs]
theorem res2 {fn : Func} {a : Act} {w : World} {s u : Nat} {v x : Value} (ha : Holds n a L) (hr : fn.results = #[.tmp s, .tmp u]) (hs : L.get s = some v) (hu : L.get u = some x) : (results fn a.tmps).run P w = .ok (.tuple #[v, x]) w := by
  simp [results, hr, ha.get' hs, ha.get' hu]
end
end Go.SL
namespace Go.SL
open Go
section
variable {P : Program} {n : Nat} {L : Env} {K : KB}
def imax (x y : Int) : Int := if y > x then y else x
def imin (x y : Int) : Int := if y < x then y else x
theorem q_max2 {d : Option Nat} {x y : Operand} {k : IntKind} {p q : Int} {ats : Array TypeId} {ty pos aft gd} (hx : ev L x = some (.int k p)) (hy : ev L y = some (.int k q)) :
    QRun P n ⟨d, .call ⟨.builtin .max, #[x, y], ats⟩, ty, pos, aft, gd⟩ L K (.int k (imax p q)) := by
  intro a w ha hk
  simp [execOp, resolve, invoke, builtin, Builtin.max_, Builtin.max2, ev_eval ha hx, ev_eval ha hy, imax]
theorem q_min2 {d : Option Nat} {x y : Operand} {k : IntKind} {p q : Int} {ats : Array TypeId} {ty pos aft gd} (hx : ev L x = some (.int k p)) (hy : ev L y = some (.int k q)) :
    QRun P n ⟨d, .call ⟨.builtin .min, #[x, y], ats⟩, ty, pos, aft, gd⟩ L K (.int k (imin p q)) := by
  intro a w ha hk
  simp [execOp, resolve, invoke, builtin, Builtin.min_, Builtin.min2, ev_eval ha hx, ev_eval ha hy, imin]
/-! ### against nil -/
theorem run_equal_of {T : TypeId} {x y : Value} {r : Bool} {w : World} (h : ∀ d, (Op.equalIn (d + 1) T x y).run P w = .ok r w) : (Op.equal T x y).run P w = .ok r w := h 9999
/-- the operator on two values that are no integers -/
theorem q_eqOf {d : Option Nat} {x y : Operand} {T U : TypeId} {u v : Value} {r : Bool} {ty pos aft gd} (hx : ev L x = some u) (hy : ev L y = some v)
    (hg : eqGuard .eql T x y u v = pure ()) (hb : binOp .eql T u v = (do pure (.bool (← Op.equal T u v)))) (he : ∀ w d, (Op.equalIn (d + 1) T u v).run P w = .ok r w) :
    QRun P n ⟨d, .binOp .eql T x y U, ty, pos, aft, gd⟩ L K (.bool r) := by
  intro a w ha hk
  simp only [execOp, ev_eval ha hx, ev_eval ha hy, hg, hb, Sem.run_bind, Sem.run_pure, Result.andThen, run_equal_of (he w)]
theorem q_neOf {d : Option Nat} {x y : Operand} {T U : TypeId} {u v : Value} {r : Bool} {ty pos aft gd} (hx : ev L x = some u) (hy : ev L y = some v)
    (hg : eqGuard .neq T x y u v = pure ()) (hb : binOp .neq T u v = (do pure (.bool (!(← Op.equal T u v))))) (he : ∀ w d, (Op.equalIn (d + 1) T u v).run P w = .ok r w) :
    QRun P n ⟨d, .binOp .neq T x y U, ty, pos, aft, gd⟩ L K (.bool !r) := by
  intro a w ha hk
  simp only [execOp, ev_eval ha hx, ev_eval ha hy, hg, hb, Sem.run_bind, Sem.run_pure, Result.andThen, run_equal_of (he w)]
theorem eqIn_map {T k e : TypeId} {r : Option Nat} (hT : P.underlying T = some (.map k e)) (w : World) (d : Nat) : (Op.equalIn (d + 1) T (.map r) (.map none)).run P w = .ok r.isNone w := by
  cases r <;> simp [Op.equalIn, run_underlying hT]
theorem eqIn_ptr {T e : TypeId} {r : Option Addr} (hT : P.underlying T = some (.pointer e)) (w : World) (d : Nat) : (Op.equalIn (d + 1) T (.pointer r) (.pointer none)).run P w = .ok r.isNone w := by
  cases r <;> simp [Op.equalIn, run_underlying hT]
theorem eqIn_slice {T e : TypeId} {r : Option Addr} {l c : Nat} (hT : P.underlying T = some (.slice e)) (w : World) (d : Nat) : (Op.equalIn (d + 1) T (.slice r l c) (.slice none 0 0)).run P w = .ok r.isNone w := by
  cases r <;> simp [Op.equalIn, run_underlying hT]
theorem eqIn_bool {T : TypeId} {b c : Bool} (hT : P.underlying T = some .bool) (w : World) (d : Nat) : (Op.equalIn (d + 1) T (.bool b) (.bool c)).run P w = .ok (b == c) w := by
  simp [Op.equalIn, run_underlying hT]
theorem q_eqMapNil {d : Option Nat} {x y : Operand} {T U : TypeId} {k e : TypeId} {r : Option Nat} {ty pos aft gd} (hT : P.underlying T = some (.map k e)) (hx : ev L x = some (.map r)) (hy : ev L y = some (.map none)) :
    QRun P n ⟨d, .binOp .eql T x y U, ty, pos, aft, gd⟩ L K (.bool r.isNone) := q_eqOf hx hy rfl rfl (fun w d => eqIn_map hT w d)
theorem q_neMapNil {d : Option Nat} {x y : Operand} {T U : TypeId} {k e : TypeId} {r : Option Nat} {ty pos aft gd} (hT : P.underlying T = some (.map k e)) (hx : ev L x = some (.map r)) (hy : ev L y = some (.map none)) :
    QRun P n ⟨d, .binOp .neq T x y U, ty, pos, aft, gd⟩ L K (.bool !r.isNone) := q_neOf hx hy rfl rfl (fun w d => eqIn_map hT w d)
theorem q_eqPtrNil {d : Option Nat} {x y : Operand} {T U : TypeId} {e : TypeId} {r : Option Addr} {ty pos aft gd} (hT : P.underlying T = some (.pointer e)) (hx : ev L x = some (.pointer r)) (hy : ev L y = some (.pointer none)) :
    QRun P n ⟨d, .binOp .eql T x y U, ty, pos, aft, gd⟩ L K (.bool r.isNone) := q_eqOf hx hy rfl rfl (fun w d => eqIn_ptr hT w d)
theorem q_nePtrNil {d : Option Nat} {x y : Operand} {T U : TypeId} {e : TypeId} {r : Option Addr} {ty pos aft gd} (hT : P.underlying T = some (.pointer e)) (hx : ev L x = some (.pointer r)) (hy : ev L y = some (.pointer none)) :
    QRun P n ⟨d, .binOp .neq T x y U, ty, pos, aft, gd⟩ L K (.bool !r.isNone) := q_neOf hx hy rfl rfl (fun w d => eqIn_ptr hT w d)
theorem q_neBool {d : Option Nat} {x y : Operand} {T U : TypeId} {b c : Bool} {ty pos aft gd} (hT : P.underlying T = some .bool) (hx : ev L x = some (.bool b)) (hy : ev L y = some (.bool c)) :
    QRun P n ⟨d, .binOp .neq T x y U, ty, pos, aft, gd⟩ L K (.bool !(b == c)) := q_neOf hx hy rfl rfl (fun w d => eqIn_bool hT w d)
/-! ### structs by value -/
def placesB (P : Program) (T : TypeId) : Option (Array (Nat × Nat)) := match P.underlying T with
  | some (.struct fs) => fs.mapM fun f => (sizeB P f.type).map fun s => (f.offset, s)
  | _ => none
theorem q_build {d : Option Nat} {T : TypeId} {parts : Array (Nat × Operand)} {z : Value} {vs : List (Nat × Value)} {cs : Array Value} {ps : Array (Nat × Nat)} {ty pos aft gd}
    (hps0 : placesB P T = some ps) (hz : zeroB P T = some z)
    (hv : (parts.toList.mapM fun p => (ev L p.2).map fun v => (p.1, v)) = some vs) (hc : Instr.fill (ps[·]?) z.cells vs = some cs) :
    QRun P n ⟨d, .build T parts, ty, pos, aft, gd⟩ L K (.agg cs) := by
  intro a w ha hk
  obtain ⟨fs, hT, hps⟩ : ∃ fs, P.underlying T = some (.struct fs) ∧ (fs.mapM fun f => (sizeB P f.type).map fun s => (f.offset, s)) = some ps := by
    unfold placesB at hps0
    split at hps0
    · rename_i fs hT; exact ⟨fs, hT, hps0⟩
    · cases hps0
  have h1 : ∀ (l : List (Nat × Operand)) (vs : List (Nat × Value)), (l.mapM fun p => (ev L p.2).map fun v => (p.1, v)) = some vs → l.map (fun p => (p.1, a.eval p.2)) = vs := by
    intro l
    induction l with
    | nil => intro vs h; simp at h; simp [h]
    | cons x l ih =>
      intro vs h
      simp only [List.mapM_cons, Option.bind_eq_bind, Option.bind_eq_some_iff, Option.pure_def, Option.some.injEq, Option.map_eq_some_iff] at h
      obtain ⟨u, ⟨v, hv, rfl⟩, us, hus, rfl⟩ := h
      simp [ev_eval ha hv, ih us hus]
  have h2 : ∀ (l : List Field) (ps : List (Nat × Nat)) (w : World), (l.mapM fun f => (sizeB P f.type).map fun s => (f.offset, s)) = some ps →
      (l.mapM (m := Sem) fun f => do pure (f.offset, ← sizeOf f.type)).run P w = .ok ps w := by
    intro l
    induction l with
    | nil => intro ps w h; simp at h; simp [h]
    | cons x l ih =>
      intro ps w h
      simp only [List.mapM_cons, Option.bind_eq_bind, Option.bind_eq_some_iff, Option.pure_def, Option.some.injEq, Option.map_eq_some_iff] at h
      obtain ⟨u, ⟨s, hs, rfl⟩, us, hus, rfl⟩ := h
      have ih' := ih us w hus
      simp only [bind_pure_comp] at ih'
      simp [List.mapM_cons, run_sizeOf hs, ih']
  have h3 : (fs.mapM (m := Sem) fun f => do pure (f.offset, ← sizeOf f.type)).run P w = .ok ps w := by
    have hl : (fs.toList.mapM fun f => (sizeB P f.type).map fun s => (f.offset, s)) = some ps.toList := by
      rw [← Array.toList_mapM, hps]; rfl
    have := h2 _ _ w hl
    rw [Array.mapM_eq_mapM_toList]
    simp only [bind_pure_comp] at this ⊢
    rw [Sem.run_map, this]
    rfl
  have h4 : (parts.map fun (i, x) => (i, a.eval x)).toList = vs := by
    simpa using h1 _ _ hv
  have h5 : (parts.map fun (i, x) => (i, a.eval x)) = vs.toArray := by
    apply Array.ext'; simpa using h4
  simp only [execOp, Instr.build, Sem.run_bind, run_zeroValue hz, Result.andThen, run_underlying hT, h3, h5]
  simp [hc]
end
end Go.SL
namespace Go.SL
open Go
/-! ## Maps with integer keys: their entries in the order in which they came -/
def mkE (k : IntKind) : (Int × Value) × Nat → MapEntry := fun p => { key := .int k p.1.1, val := p.1.2, born := p.2 }
/-- a map's block, stamps and all -/
def MapB (k : IntKind) (m : List (Int × Value)) (bs : List Nat) (ck : Nat) : OP := fun o => o = .map ((m.zip bs).map (mkE k)).toArray ck
structure Stamps (len : Nat) (bs : List Nat) (ck : Nat) : Prop where
  len : bs.length = len
  nodup : bs.Nodup
  lt : ∀ b ∈ bs, b < ck
/-- a map's block -/
def MapI (k : IntKind) (m : List (Int × Value)) : OP := fun o => ∃ bs ck, Stamps m.length bs ck ∧ MapB k m bs ck o
def lookI : List (Int × Value) → Int → Option Value
  | [], _ => none
  | (a, v) :: m, k => if k = a then some v else lookI m k
def putI : List (Int × Value) → Int → Value → List (Int × Value)
  | [], k, v => [(k, v)]
  | (a, u) :: m, k, v => if k = a then (k, v) :: m else (a, u) :: putI m k v
def delI : List (Int × Value) → Int → List (Int × Value)
  | [], _ => []
  | (a, u) :: m, k => if k = a then m else (a, u) :: delI m k
section
variable {P : Program} {n : Nat} {L : Env} {K : KB} {kd : IntKind}
/-- where a key stands -/
def idxI : List (Int × Value) → Int → Option Nat
  | [], _ => none
  | (a, _) :: m, k => if k = a then some 0 else (idxI m k).map (· + 1)
theorem findNow_int (x : Int) (m : List (Int × Value)) : ∀ (bs : List Nat) (i : Nat), bs.length = m.length →
    Instr.findNow (.int kd) (.int kd x) ((m.zip bs).map (mkE kd)) i = some ((idxI m x).bind fun j => (lookI m x).map fun v => (i + j, v)) := by
  induction m with
  | nil => intro bs i h; cases bs <;> simp [Instr.findNow, idxI]
  | cons p m ih =>
    intro bs i h
    cases bs with
    | nil => simp at h
    | cons b bs =>
      obtain ⟨a, v⟩ := p
      simp only [List.zip_cons_cons, List.map_cons, mkE, Instr.findNow, Instr.sameNow, if_true, idxI, lookI]
      by_cases e : x = a
      · simp [e]
      · have e' : (x == a) = false := by simpa using e
        simp only [e', e, if_false]
        rw [ih bs (i + 1) (by simpa using h)]
        cases idxI m x <;> cases lookI m x <;> simp [Nat.add_assoc, Nat.add_comm 1]
theorem idx_look (m : List (Int × Value)) (x : Int) : (idxI m x).isSome = (lookI m x).isSome := by
  induction m with
  | nil => rfl
  | cons p m ih =>
    obtain ⟨a, v⟩ := p
    simp only [idxI, lookI]
    split <;> simp [ih]
theorem run_findKey {T : TypeId} (hT : P.underlying T = some (.int kd)) (x : Int) {m : List (Int × Value)} {bs : List Nat} (hl : bs.length = m.length) (w : World) :
    (Instr.findKey T (.int kd x) ((m.zip bs).map (mkE kd))).run P w = .ok ((idxI m x).bind fun j => (lookI m x).map fun v => (j, v)) w := by
  simp [Instr.findKey, run_underlying hT, findNow_int x m bs 0 hl]
theorem run_checkKey {T : TypeId} (hT : P.underlying T = some (.int kd)) (x : Int) (e : Bool) (w : World) : (Instr.checkKey e 10000 T (.int kd x)).run P w = .ok () w := by
  have : ∀ d, (Instr.checkKey e (d + 1) T (.int kd x)).run P w = .ok () w := fun d => by simp [Instr.checkKey, run_underlying hT]
  exact this 9999
theorem keyStays (x : Int) (w : World) : (Instr.keyThatStays (.int kd x) (.int kd x)).run P w = .ok (.int kd x) w := by
  have : ∀ d, Instr.sameBits d (.int kd x) (.int kd x) = true := fun d => by cases d <;> simp [Instr.sameBits]
  simp [Instr.keyThatStays, this]
theorem MapI.get {w : World} {r : Nat} {m : List (Int × Value)} (h : ∃ o, w.heap[r]? = some o ∧ MapI kd m o) : ∃ bs ck, Stamps m.length bs ck ∧ w.heap[r]? = some (.map ((m.zip bs).map (mkE kd)).toArray ck) := by
  obtain ⟨o, h1, bs, ck, h2, rfl⟩ := h
  exact ⟨bs, ck, h2, h1⟩
theorem run_getObj_map {w : World} {r : Nat} {es : Array MapEntry} {ck : Nat} (h : w.heap[r]? = some (.map es ck)) : (getObj r).run P w = .ok (.map es ck) w := by
  simp [getObj, Sem.run, h]
theorem run_setObj_map {w : World} {r : Nat} {es : Array MapEntry} {ck : Nat} (o : Obj) (h : w.heap[r]? = some (.map es ck)) : (setObj r o).run P w = .ok () { w with heap := w.heap.setIfInBounds r o } := by
  simp [setObj, Sem.run, h]
/-- a map's number, nil or known -/
def MapAt (K : KB) (kd : IntKind) (r : Option Nat) (m : List (Int × Value)) : Prop := match r with
  | none => m = []
  | some r => ∃ K', Pick K r (MapI kd m) K'
theorem MapAt.of {r : Nat} {K' : KB} {m : List (Int × Value)} (h : Pick K r (MapI kd m) K') : MapAt K kd (some r) m := ⟨_, h⟩
theorem MapAt.app {r : Option Nat} {m : List (Int × Value)} (h : MapAt K kd r m) (F : KB) : MapAt (K ++ F) kd r m := by
  cases r with
  | none => exact h
  | some r => obtain ⟨K', hp⟩ := h; exact ⟨_, hp.app F⟩
theorem run_lookup {T kt e : TypeId} {r : Option Nat} {m : List (Int × Value)} {i : Int} {z : Value} {c : Bool} (hT : P.underlying T = some (.map kt e)) (hk : P.underlying kt = some (.int kd))
    (hz : zeroB P e = some z) (hm : MapAt K kd r m) {w : World} (hkn : Kn0 w K) :
    (Instr.lookup T (.map r) (.int kd i) c).run P w = .ok (if c then .tuple #[(lookI m i).getD z, .bool (lookI m i).isSome] else (lookI m i).getD z) w := by
  cases r with
  | none =>
    have hm : m = [] := hm
    subst hm
    have hf := run_findKey (P := P) hk i (m := []) (bs := []) rfl w
    simp only [List.zip_nil_left, List.map_nil, idxI, Option.bind_none] at hf
    cases c <;> simp [Instr.lookup, run_underlying hT, run_checkKey hk, hf, run_zeroValue hz, lookI]
  | some r =>
    obtain ⟨K', hp⟩ := hm
    obtain ⟨bs, ck, hs, ho⟩ := MapI.get (hkn.has _ hp.mem)
    have hf := run_findKey (P := P) hk i (m := m) (bs := bs) hs.len w
    have hil := idx_look m i
    cases hl : lookI m i with
    | none =>
      rw [hl] at hil hf
      have hi : idxI m i = none := by simpa using hil
      cases c <;> simp [Instr.lookup, run_underlying hT, run_checkKey hk, run_getObj_map ho, hf, hi, run_zeroValue hz]
    | some v =>
      rw [hl] at hil hf
      obtain ⟨j, hj⟩ := Option.isSome_iff_exists.1 (hil.trans rfl)
      cases c <;> simp [Instr.lookup, run_underlying hT, run_checkKey hk, run_getObj_map ho, hf, hj]
theorem q_lookup2 {d : Option Nat} {x y : Operand} {T kt e : TypeId} {r : Option Nat} {m : List (Int × Value)} {i : Int} {z : Value} {ty pos aft gd} (hT : P.underlying T = some (.map kt e)) (hk : P.underlying kt = some (.int kd))
    (hz : zeroB P e = some z) (hx : ev L x = some (.map r)) (hy : ev L y = some (.int kd i)) (hm : MapAt K kd r m) {v : Value} {b : Bool} (hv : (lookI m i).getD z = v) (hb : (lookI m i).isSome = b) :
    QRun P n ⟨d, .lookup T x y true, ty, pos, aft, gd⟩ L K (.tuple #[v, .bool b]) := by
  subst hv hb
  intro a w ha hkn
  simp [execOp, ev_eval ha hx, ev_eval ha hy, run_lookup hT hk hz hm hkn]
theorem q_lookup {d : Option Nat} {x y : Operand} {T kt e : TypeId} {r : Option Nat} {m : List (Int × Value)} {i : Int} {z : Value} {ty pos aft gd} (hT : P.underlying T = some (.map kt e)) (hk : P.underlying kt = some (.int kd))
    (hz : zeroB P e = some z) (hx : ev L x = some (.map r)) (hy : ev L y = some (.int kd i)) (hm : MapAt K kd r m) {v : Value} (hv : (lookI m i).getD z = v) :
    QRun P n ⟨d, .lookup T x y false, ty, pos, aft, gd⟩ L K v := by
  subst hv
  intro a w ha hkn
  simp [execOp, ev_eval ha hx, ev_eval ha hy, run_lookup hT hk hz hm hkn]
theorem q_lenMap {d : Option Nat} {x : Operand} {T kt e : TypeId} {r : Option Nat} {m : List (Int × Value)} {ats : Array TypeId} {ty pos aft gd} (hT : P.underlying T = some (.map kt e)) (hat : ats[0]? = some T)
    (hx : ev L x = some (.map r)) (hm : MapAt K kd r m) : QRun P n ⟨d, .call ⟨.builtin .len, #[x], ats⟩, ty, pos, aft, gd⟩ L K (.int .i64 m.length) := by
  intro a w ha hkn
  cases r with
  | none =>
    have hm : m = [] := hm
    subst hm
    simp [execOp, resolve, invoke, builtin, Builtin.len_, hat, ev_eval ha hx, run_underlying hT, goInt]
  | some r =>
    obtain ⟨K', hp⟩ := hm
    obtain ⟨bs, ck, hs, ho⟩ := MapI.get (hkn.has _ hp.mem)
    simp [execOp, resolve, invoke, builtin, Builtin.len_, hat, ev_eval ha hx, run_underlying hT, goInt, run_getObj_map ho, hs.len]
theorem heap_set_same {w : World} {r : Nat} {o o' : Obj} (h : w.heap[r]? = some o) : ({ w with heap := w.heap.setIfInBounds r o' } : World).heap[r]? = some o' := by
  have := (Array.getElem?_eq_some_iff.1 h).1
  simp [this]
theorem heap_set_other {w : World} {r c : Nat} {o' : Obj} (h : c ≠ r) : ({ w with heap := w.heap.setIfInBounds r o' } : World).heap[c]? = w.heap[c]? := by
  simp [Array.getElem?_setIfInBounds_ne (Ne.symm h)]
theorem Knows.setObj [Bs] {w : World} {K' : KB} {r : Nat} {φ ψ : OP} {o o' : Obj} (hk : Knows w K) (hu : Upd K r φ ψ K') (h : w.heap[r]? = some o) (ho : ψ o') :
    Knows { w with heap := w.heap.setIfInBounds r o' } K' := hk.upd hu (heap_set_same h) ho (fun c hc => heap_set_other hc)
theorem mod_put (m : List (Int × Value)) (x : Int) (v : Value) (j : Nat) (hj : idxI m x = some j) : ∀ bs : List Nat, bs.length = m.length →
    (((m.zip bs).map (mkE kd)).modify j fun e => { e with key := .int kd x, val := v }) = ((putI m x v).zip bs).map (mkE kd) ∧ (putI m x v).length = m.length := by
  induction m generalizing j with
  | nil => simp [idxI] at hj
  | cons p m ih =>
    obtain ⟨a, u⟩ := p
    intro bs hb
    cases bs with
    | nil => simp at hb
    | cons b bs =>
      simp only [idxI] at hj
      simp only [putI]
      by_cases e : x = a
      · rw [if_pos e] at hj ⊢
        cases hj
        simp [mkE]
      · rw [if_neg e] at hj ⊢
        cases hi : idxI m x with
        | none => rw [hi] at hj; cases hj
        | some j' =>
          rw [hi] at hj; cases hj
          obtain ⟨h1, h2⟩ := ih j' hi bs (by simpa using hb)
          exact ⟨by simp [h1], by simp [h2]⟩
theorem push_put (m : List (Int × Value)) (x : Int) (v : Value) (hj : idxI m x = none) : putI m x v = m ++ [(x, v)] := by
  induction m with
  | nil => rfl
  | cons p m ih =>
    obtain ⟨a, u⟩ := p
    simp only [idxI] at hj
    by_cases e : x = a
    · rw [if_pos e] at hj; cases hj
    · rw [if_neg e] at hj
      simp only [putI, if_neg e, List.cons_append]
      rw [ih (by cases h : idxI m x <;> simp_all)]
theorem key_at (m : List (Int × Value)) (x : Int) (j : Nat) (hj : idxI m x = some j) : ∀ bs : List Nat, bs.length = m.length →
    ((((m.zip bs).map (mkE kd)).toArray[j]?).map (·.key)).getD (.int kd x) = .int kd x := by
  induction m generalizing j with
  | nil => simp [idxI] at hj
  | cons p m ih =>
    obtain ⟨a, u⟩ := p
    intro bs hb
    cases bs with
    | nil => simp at hb
    | cons b bs =>
      simp only [idxI] at hj
      by_cases e : x = a
      · rw [if_pos e] at hj
        cases hj
        simp [mkE, e]
      · rw [if_neg e] at hj
        cases hi : idxI m x with
        | none => rw [hi] at hj; cases hj
        | some j' =>
          rw [hi] at hj; cases hj
          have := ih j' hi bs (by simpa using hb)
          simpa using this
theorem e_mapUpdate [Bs] {d : Option Nat} {x y z : Operand} {T kt e : TypeId} {r : Nat} {m : List (Int × Value)} {i : Int} {v : Value} {K' : KB} {ty pos aft gd} (hT : P.underlying T = some (.map kt e)) (hk : P.underlying kt = some (.int kd))
    (hx : ev L x = some (.map (some r))) (hy : ev L y = some (.int kd i)) (hz : ev L z = some v) {m' : List (Int × Value)} (hm : putI m i v = m') (hu : Upd K r (MapI kd m) (MapI kd m') K') :
    ERun (β := Unit) P n ⟨d, .mapUpdate T x y z, ty, pos, aft, gd⟩ L K (fun _ => undef) (fun _ => K') := by
  subst hm
  intro a w ha hkn
  obtain ⟨bs, ck, hs, ho⟩ := MapI.get (hkn.has _ hu.mem)
  have hf := run_findKey (P := P) hk i (m := m) (bs := bs) hs.len w
  have hil := idx_look m i
  cases hi : idxI m i with
  | none =>
    rw [hi] at hil hf
    have hl : lookI m i = none := by simpa using hil.symm
    simp only [Option.bind_none] at hf
    refine .inl ⟨(), _, .inr ⟨?_, rfl⟩, hkn.setObj hu ho (o' := .map (((m.zip bs).map (mkE kd)).toArray.push { key := .int kd i, val := v, born := ck }) (ck + 1)) ?_⟩
    · simp [execOp, ev_eval ha hx, ev_eval ha hy, ev_eval ha hz, Instr.mapUpdate, run_underlying hT, run_checkKey hk, run_getObj_map ho, hf, run_setObj_map _ ho]
    · rw [push_put m i v hi]
      refine ⟨bs ++ [ck], ck + 1, ⟨by simp [hs.len], ?_, ?_⟩, ?_⟩
      · rw [List.nodup_append]
        exact ⟨hs.nodup, by simp, fun b hb c hc => by have := hs.lt b hb; simp at hc; omega⟩
      · intro b hb
        rcases List.mem_append.1 hb with h | h
        · have := hs.lt b h; omega
        · simp at h; omega
      · simp only [MapB]
        rw [List.zip_append (by rw [hs.len])]
        simp [mkE]
  | some j =>
    rw [hi] at hil hf
    obtain ⟨u, hl⟩ := Option.isSome_iff_exists.1 (hil.symm.trans rfl)
    simp only [hl, Option.bind_some, Option.map_some] at hf
    obtain ⟨h1, h2⟩ := mod_put (kd := kd) m i v j hi bs hs.len
    have hkey := key_at (kd := kd) m i j hi bs hs.len
    have hadd : (((m.zip bs).map (mkE kd)).toArray.modify j fun e => { e with key := .int kd i, val := v }) = (((putI m i v).zip bs).map (mkE kd)).toArray := by
      rw [List.modify_toArray, h1]
    refine .inl ⟨(), _, .inr ⟨?_, rfl⟩, hkn.setObj hu ho (o' := .map (((m.zip bs).map (mkE kd)).toArray.modify j fun e => { e with key := .int kd i, val := v }) ck) ?_⟩
    · simp only [execOp, ev_eval ha hx, ev_eval ha hy, ev_eval ha hz, Instr.mapUpdate, run_underlying hT, run_checkKey hk, run_getObj_map ho, hf, Sem.run_bind, Result.andThen, hkey, keyStays, run_setObj_map _ ho, Sem.run_pure]
    · exact ⟨bs, ck, ⟨by rw [hs.len, h2], hs.nodup, hs.lt⟩, by simp only [MapB, hadd]⟩
theorem del_none (m : List (Int × Value)) (x : Int) (h : idxI m x = none) : delI m x = m := by
  induction m with
  | nil => rfl
  | cons p m ih =>
    obtain ⟨a, u⟩ := p
    simp only [idxI] at h
    by_cases e : x = a
    · rw [if_pos e] at h; cases h
    · rw [if_neg e] at h
      simp only [delI, if_neg e]
      rw [ih (by cases h' : idxI m x <;> simp_all)]
theorem del_some (m : List (Int × Value)) (x : Int) (j : Nat) (hj : idxI m x = some j) : ∀ bs : List Nat, bs.length = m.length →
    ((m.zip bs).map (mkE kd)).eraseIdx j = ((delI m x).zip (bs.eraseIdx j)).map (mkE kd) ∧ (delI m x).length + 1 = m.length ∧ (bs.eraseIdx j).length + 1 = bs.length := by
  induction m generalizing j with
  | nil => simp [idxI] at hj
  | cons p m ih =>
    obtain ⟨a, u⟩ := p
    intro bs hb
    cases bs with
    | nil => simp at hb
    | cons b bs =>
      simp only [idxI] at hj
      simp only [delI]
      by_cases e : x = a
      · rw [if_pos e] at hj ⊢
        cases hj
        simp
      · rw [if_neg e] at hj ⊢
        cases hi : idxI m x with
        | none => rw [hi] at hj; cases hj
        | some j' =>
          rw [hi] at hj; cases hj
          obtain ⟨h1, h2, h3⟩ := ih j' hi bs (by simpa using hb)
          exact ⟨by simp [h1, List.eraseIdx_cons_succ], by simp [h2], by simp [List.eraseIdx_cons_succ, h3]⟩
theorem Stamps.erase {l j ck : Nat} {bs : List Nat} (h : Stamps (l + 1) bs ck) (hl : (bs.eraseIdx j).length + 1 = bs.length) : Stamps l (bs.eraseIdx j) ck :=
  ⟨by have := h.len; omega, h.nodup.sublist (List.eraseIdx_sublist _ _), fun b hb => h.lt b ((List.eraseIdx_sublist _ _).subset hb)⟩
theorem e_delete [Bs] {d : Option Nat} {x y : Operand} {T kt e : TypeId} {r : Nat} {m : List (Int × Value)} {i : Int} {K' : KB} {ats : Array TypeId} {ty pos aft gd} (hT : P.underlying T = some (.map kt e)) (hk : P.underlying kt = some (.int kd)) (hat : ats[0]? = some T)
    (hx : ev L x = some (.map (some r))) (hy : ev L y = some (.int kd i)) {m' : List (Int × Value)} (hm : delI m i = m') (hu : Upd K r (MapI kd m) (MapI kd m') K') :
    ERun (β := Unit) P n ⟨d, .call ⟨.builtin .delete, #[x, y], ats⟩, ty, pos, aft, gd⟩ L K (fun _ => .tuple #[]) (fun _ => K') := by
  subst hm
  intro a w ha hkn
  obtain ⟨bs, ck, hs, ho⟩ := MapI.get (hkn.has _ hu.mem)
  have hf := run_findKey (P := P) hk i (m := m) (bs := bs) hs.len w
  have hil := idx_look m i
  cases hi : idxI m i with
  | none =>
    rw [hi] at hil hf
    simp only [Option.bind_none] at hf
    refine .inl ⟨(), _, .inl ?_, hkn.setObj hu ho (o' := .map ((m.zip bs).map (mkE kd)).toArray ck) ?_⟩
    · simp [execOp, resolve, invoke, builtin, Builtin.delete_, hat, ev_eval ha hx, ev_eval ha hy, run_underlying hT, run_checkKey hk, run_getObj_map ho, hf, run_setObj_map _ ho]
    · rw [del_none m i hi]
      exact ⟨bs, ck, hs, rfl⟩
  | some j =>
    rw [hi] at hil hf
    obtain ⟨u, hl⟩ := Option.isSome_iff_exists.1 (hil.symm.trans rfl)
    simp only [hl, Option.bind_some, Option.map_some] at hf
    obtain ⟨h1, h2, h3⟩ := del_some (kd := kd) m i j hi bs hs.len
    have hadd : ((m.zip bs).map (mkE kd)).toArray.eraseIdxIfInBounds j = (((delI m i).zip (bs.eraseIdx j)).map (mkE kd)).toArray := by
      rw [← h1]
      apply Array.ext'
      simp [Array.eraseIdxIfInBounds]
      split
      · simp
      · rename_i hh
        rw [List.eraseIdx_of_length_le (by simpa using hh)]
    refine .inl ⟨(), _, .inl ?_, hkn.setObj hu ho (o' := .map (((m.zip bs).map (mkE kd)).toArray.eraseIdxIfInBounds j) ck) ?_⟩
    · simp [execOp, resolve, invoke, builtin, Builtin.delete_, hat, ev_eval ha hx, ev_eval ha hy, run_underlying hT, run_checkKey hk, run_getObj_map ho, hf, run_setObj_map _ ho]
    · exact ⟨bs.eraseIdx j, ck, Stamps.erase (by rw [h2]; exact hs) h3, by simp only [MapB, hadd]⟩
theorem e_makeMap [Bs] {d : Option Nat} {T : TypeId} (kd : IntKind) {ty pos aft gd} :
    ERun (β := Nat) P n ⟨d, .makeMap T none, ty, pos, aft, gd⟩ L K (fun b => .map (some b)) (fun b => (b, MapI kd []) :: K) := by
  intro a w ha hk
  refine .inl ⟨w.heap.size, { w with heap := w.heap.push (.map #[] 0) }, .inl ?_, hk.alloc ⟨[], 0, ⟨rfl, List.nodup_nil, fun _ h => by cases h⟩, rfl⟩⟩
  simp [execOp, Instr.makeMap, newObj, Sem.run]
/-! ### sets -/
def unitV : Value := .agg #[]
def setM (xs : List Int) : List (Int × Value) := xs.map fun x => (x, unitV)
theorem look_set (xs : List Int) (x : Int) : lookI (setM xs) x = if x ∈ xs then some unitV else none := by
  induction xs with
  | nil => rfl
  | cons y ys ih =>
    simp only [setM, List.map_cons, lookI] at ih ⊢
    by_cases e : x = y
    · simp [e]
    · rw [if_neg e, ih]; simp [e]
theorem look_set_v (xs : List Int) (x : Int) : (lookI (setM xs) x).getD unitV = unitV := by rw [look_set]; split <;> rfl
theorem look_set_b (xs : List Int) (x : Int) : (lookI (setM xs) x).isSome = decide (x ∈ xs) := by rw [look_set]; split <;> simp [*]
def addS (xs : List Int) (x : Int) : List Int := if x ∈ xs then xs else xs ++ [x]
theorem put_set (xs : List Int) (x : Int) : putI (setM xs) x unitV = setM (addS xs x) := by
  induction xs with
  | nil => rfl
  | cons y ys ih =>
    simp only [setM, List.map_cons, putI] at ih ⊢
    by_cases e : x = y
    · subst e; simp [addS]
    · rw [if_neg e, ih]
      by_cases h : x ∈ ys <;> simp [addS, e, h]
theorem del_set (xs : List Int) (x : Int) : delI (setM xs) x = setM (xs.erase x) := by
  induction xs with
  | nil => rfl
  | cons y ys ih =>
    simp only [setM, List.map_cons, delI] at ih ⊢
    by_cases e : x = y
    · subst e; simp
    · rw [if_neg e, ih, List.erase_cons_tail (by simpa using fun h => e h.symm)]; simp
/-- a set's block -/
def SetB (xs : List Int) : OP := MapI .i64 (setM xs)
end
end Go.SL
namespace Go.SL
open Go
/-! ## Taking a part out of what is known -/
theorem tk_here {A R : KB} : (A ++ R).Perm (A ++ R) := .refl _
theorem tk_one {x : Nat × OP} {R : KB} : (x :: R).Perm ([x] ++ R) := .refl _
theorem tk_nil {K : KB} : K.Perm ([] ++ K) := .refl _
theorem tk_all {A : KB} : A.Perm (A ++ []) := by simp
theorem tk_cons {K A R : KB} {x : Nat × OP} (h : K.Perm (A ++ R)) : (x :: K).Perm (A ++ (x :: R)) := (h.cons x).trans List.perm_middle.symm
theorem tk_app {K A R B : KB} (h : K.Perm (A ++ R)) : (B ++ K).Perm (A ++ (B ++ R)) :=
  (h.append_left B).trans (by rw [← List.append_assoc, ← List.append_assoc]; exact (List.perm_append_comm).append_right R)
theorem tk_both {K A B R R' : KB} (h1 : K.Perm (A ++ R')) (h2 : R'.Perm (B ++ R)) : K.Perm ((A ++ B) ++ R) := by
  rw [List.append_assoc]; exact h1.trans (h2.append_left A)
theorem tk_cons1 {K B R R' : KB} {x : Nat × OP} (h1 : K.Perm ([x] ++ R')) (h2 : R'.Perm (B ++ R)) : K.Perm ((x :: B) ++ R) := h1.trans (h2.cons x)
theorem pk_cons {K K' R : KB} {x : Nat × OP} (h1 : K.Perm ([x] ++ K')) (h2 : K'.Perm R) : K.Perm (x :: R) := h1.trans (h2.cons x)
theorem pk_app {K K' A R : KB} (h1 : K.Perm (A ++ K')) (h2 : K'.Perm R) : K.Perm (A ++ R) := h1.trans (h2.append_left A)
/-- some of what is known -/
def Takes (K T : KB) : Prop := ∃ R, K.Perm (T ++ R)
theorem takes_nil {K : KB} : Takes K [] := ⟨K, .refl _⟩
theorem takes_refl {K : KB} : Takes K K := ⟨[], by simp⟩
theorem takes_last {K A K' : KB} (h : K.Perm (A ++ K')) : Takes K A := ⟨_, h⟩
theorem takes_cons {K K' R : KB} {x : Nat × OP} (h1 : K.Perm ([x] ++ K')) (h2 : Takes K' R) : Takes K (x :: R) := let ⟨S, h⟩ := h2; ⟨S, h1.trans (h.cons x)⟩
theorem takes_app {K K' A R : KB} (h1 : K.Perm (A ++ K')) (h2 : Takes K' R) : Takes K (A ++ R) := let ⟨S, h⟩ := h2; ⟨S, by rw [List.append_assoc]; exact h1.trans (h.append_left A)⟩
theorem Knows.take [Bs] {w : World} {K T : KB} (hk : Knows w K) (h : Takes K T) : Knows w T := let ⟨_, h⟩ := h; (hk.perm h).left
theorem Upd.app {K K' B : KB} {b : Nat} {φ ψ : OP} (h : Upd K b φ ψ K') : Upd (B ++ K) b φ ψ (B ++ K') := by
  induction B with
  | nil => exact h
  | cons x B ih => exact .there ih
/-! ## Slices -/
/-- a slice's cells in its block, with room for c -/
def Row (off : Nat) (vs : List Value) (c : Nat) (T : TypeId) : OP := fun o => ∃ pre post : List Value, o = .cells (pre ++ vs ++ post).toArray T (0, 0) ∧ pre.length = off ∧ vs.length + post.length = c
structure Sl where
  a : Option (Nat × Nat)
  len : Nat
  cap : Nat
def Sl.val (s : Sl) : Value := .slice (s.a.map fun p => ⟨p.1, p.2, none⟩) s.len s.cap
def Sl.kb (s : Sl) (vs : List Value) (sz : Nat) (T : TypeId) : KB := match s.a with
  | none => []
  | some (b, off) => [(b, Row off vs (s.cap * sz) T)]
structure Sl.Ok (s : Sl) (vs : List Value) (sz : Nat) : Prop where
  vlen : vs.length = s.len * sz
  cap : s.len ≤ s.cap
  nil : s.a = none → s.cap = 0
def Sl.nilS : Sl := ⟨.none, 0, 0⟩
theorem Sl.nil_ok (sz : Nat) : Sl.nilS.Ok [] sz := ⟨by simp [Sl.nilS], Nat.le_refl _, fun _ => rfl⟩
section
variable {P : Program} {n : Nat} {L : Env} {K : KB}
theorem Row.cell {w : World} {b off c i : Nat} {vs : List Value} {T : TypeId} (h : ∃ o, w.heap[b]? = some o ∧ Row off vs c T o) (hi : i < vs.length) : w.cell? ⟨b, off + i, none⟩ = vs[i]? ∧ w.frozen? ⟨b, off + i, none⟩ = false := by
  obtain ⟨o, h1, pre, post, rfl, h2, h3⟩ := h
  subst h2
  constructor
  · simp [World.cell?, h1, List.append_assoc]
    rw [List.getElem?_append_right (by omega), Nat.add_sub_cancel_left, List.getElem?_append_left hi]
  · simp [World.frozen?, h1]
theorem q_loadR {d : Option Nat} {x : Operand} {T U : TypeId} {b off m c i : Nat} {vs : List Value} {v : Value} {K' : KB} {ty pos aft gd} (hT : aggB P T = some false)
    (hx : ev L x = some (.pointer (some ⟨b, m, none⟩))) (hm : m = off + i) (hp : Pick K b (Row off vs c U) K') (hv : vs[i]? = some v) : QRun P n ⟨d, .load T x, ty, pos, aft, gd⟩ L K v := by
  intro a w ha hk
  have hc := (Row.cell (hk.has _ hp.mem) (List.getElem?_eq_some_iff.1 hv).1).1
  rw [hv] at hc
  subst hm
  simp [execOp, ev_eval ha hx, Instr.loadAt, Instr.sureAddr, loadVar, run_isAgg hT, load, Sem.run, hc]
theorem run_loadR {w : World} {b off c : Nat} {vs : List Value} {T : TypeId} (h : ∃ o, w.heap[b]? = some o ∧ Row off vs c T o) : ∀ (m j i : Nat) (acc : Array Value), j + i + m ≤ vs.length →
    (loadCellsFrom ⟨b, off + j, none⟩ i m acc).run P w = .ok (acc ++ ((vs.drop (j + i)).take m).toArray) w
  | 0, j, i, acc, _ => by simp [loadCellsFrom]
  | m + 1, j, i, acc, hl => by
    have hlt : j + i < vs.length := by omega
    have hadd : Addr.add ⟨b, off + j, none⟩ i = ⟨b, off + (j + i), none⟩ := by unfold Addr.add; split <;> simp_all [Nat.add_assoc]
    have h1 := (Row.cell h hlt).1
    rw [List.getElem?_eq_getElem hlt] at h1
    simp only [loadCellsFrom, Sem.run_bind, hadd, load, Sem.run, h1, Result.andThen]
    rw [run_loadR h m j (i + 1) (acc.push vs[j + i]) (by omega)]
    rw [List.drop_eq_getElem_cons hlt, List.take_succ_cons, show j + (i + 1) = j + i + 1 from by omega]
    simp
theorem q_loadAggR {d : Option Nat} {x : Operand} {T U : TypeId} {b off p c i m : Nat} {vs us : List Value} {K' : KB} {ty pos aft gd} (hT : aggB P T = some true) (hm : sizeB P T = some m)
    (hx : ev L x = some (.pointer (some ⟨b, p, none⟩))) (hpi : p = off + i) (hp : Pick K b (Row off vs c U) K') (hlen : i + m ≤ vs.length) (hv : (vs.drop i).take m = us) :
    QRun P n ⟨d, .load T x, ty, pos, aft, gd⟩ L K (.agg us.toArray) := by
  intro a w ha hk
  subst hpi
  have := run_loadR (P := P) (hk.has _ hp.mem) m i 0 #[] (by omega)
  simp [execOp, ev_eval ha hx, Instr.loadAt, Instr.sureAddr, loadVar, run_isAgg hT, run_sizeOf hm, loadCells, this, hv]
theorem Knows.storeR [Bs] {w : World} {K' : KB} {b off i c : Nat} {v : Value} {vs : List Value} {T : TypeId} (hk : Knows w K) (hi : i < vs.length) (hu : Upd K b (Row off vs c T) (Row off (vs.set i v) c T) K') :
    Knows (w.setCell ⟨b, off + i, none⟩ v) K' := by
  obtain ⟨o, h1, pre, post, rfl, h2, h3⟩ := hk.has _ hu.mem
  subst h2
  refine hk.upd hu (o := .cells ((pre ++ vs ++ post).set (pre.length + i) v).toArray T (0, 0)) (heap_setCell_same h1) ⟨pre, post, ?_, rfl, by simpa using h3⟩ (fun c hc => heap_setCell_other hc)
  rw [List.append_assoc, List.set_append, if_neg (by omega), Nat.add_sub_cancel_left, List.set_append, if_pos hi, List.append_assoc]
theorem e_storeR [Bs] {d : Option Nat} {x y : Operand} {T U : TypeId} {b off m i c : Nat} {vs : List Value} {v : Value} {K' : KB} {ty pos aft gd} (hT : sizeB P T = some 1)
    (hx : ev L x = some (.pointer (some ⟨b, m, none⟩))) (hm : m = off + i) (hy : ev L y = some v) (h1 : oneC v = true) (hi : i < vs.length)
    (hu : Upd K b (Row off vs c U) (Row off (vs.set i v) c U) K') : ERun (β := Unit) P n ⟨d, .store T x y, ty, pos, aft, gd⟩ L K (fun _ => undef) (fun _ => K') := by
  intro a w ha hk
  subst hm
  refine .inl ⟨(), w.setCell ⟨b, off + i, none⟩ v, .inr ⟨?_, rfl⟩, hk.storeR hi hu⟩
  obtain ⟨hc, hf⟩ := Row.cell (hk.has _ hu.mem) hi
  rw [List.getElem?_eq_getElem hi] at hc
  have hcells : v.cells = #[v] := by cases v <;> simp [oneC] at h1 <;> rfl
  have hr := run_store1 (P := P) h1 hc hf
  have hadd : Addr.add ⟨b, off + i, none⟩ 0 = ⟨b, off + i, none⟩ := rfl
  simp [execOp, ev_eval ha hx, ev_eval ha hy, Instr.storeAt, Instr.sureAddr, storeVar, run_sizeOf hT, hcells, storeCells, hadd, hr]
theorem run_storeR [Bs] {b off c j : Nat} {T : TypeId} : ∀ (us : List Value) (i : Nat) (vs : List Value) (w : World) (K K' : KB), us.all oneC = true → j + i + us.length ≤ vs.length → Knows w K →
    Upd K b (Row off vs c T) (Row off (splice vs (j + i) us) c T) K' → ∃ w', (storeCells ⟨b, off + j, none⟩ us i).run P w = .ok () w' ∧ Knows w' K'
  | [], i, vs, w, K, K', _, _, hk, hu => by
    refine ⟨w, by simp [storeCells], ?_⟩
    rw [splice_nil] at hu
    exact hk.mono hu (fun _ h => h)
  | u :: us, i, vs, w, K, K', h1, hl, hk, hu => by
    simp only [List.all_cons, Bool.and_eq_true] at h1
    simp only [List.length_cons] at hl
    have hadd : Addr.add ⟨b, off + j, none⟩ i = ⟨b, off + (j + i), none⟩ := by unfold Addr.add; split <;> simp_all [Nat.add_assoc]
    obtain ⟨hc, hf⟩ := Row.cell (i := j + i) (hk.has _ hu.mem) (by omega)
    rw [List.getElem?_eq_getElem (by omega)] at hc
    obtain ⟨R, p1, p2⟩ := hu.perm
    have hk2 : Knows (w.setCell ⟨b, off + (j + i), none⟩ u) ((b, Row off (vs.set (j + i) u) c T) :: R) := (hk.perm p1).storeR (by omega) .here
    obtain ⟨w', hr, hk'⟩ := run_storeR (b := b) (off := off) (c := c) (j := j) us (i + 1) (vs.set (j + i) u) _ _ ((b, Row off (splice vs (j + i) (u :: us)) c T) :: R) h1.2 (by simp; omega) hk2
      (by rw [← splice_cons (by omega), show j + (i + 1) = j + i + 1 from rfl]; exact .here)
    refine ⟨w', ?_, hk'.perm p2.symm⟩
    simp [storeCells, hadd, run_store1 (P := P) h1.1 hc hf, hr]
theorem e_storeAggR [Bs] {d : Option Nat} {x y : Operand} {T U : TypeId} {b off p i c m : Nat} {vs us : List Value} {K' : KB} {ty pos aft gd} (hT : sizeB P T = some m)
    (hx : ev L x = some (.pointer (some ⟨b, p, none⟩))) (hpi : p = off + i) (hy : ev L y = some (.agg us.toArray)) (h1 : us.all oneC = true) (hm : us.length = m) (hoff : i + us.length ≤ vs.length)
    (hu : Upd K b (Row off vs c U) (Row off (splice vs i us) c U) K') : ERun (β := Unit) P n ⟨d, .store T x y, ty, pos, aft, gd⟩ L K (fun _ => undef) (fun _ => K') := by
  intro a w ha hk
  subst hpi
  obtain ⟨w', hr, hk'⟩ := run_storeR (P := P) us 0 vs w K K' h1 (by simpa using hoff) hk (by simpa using hu)
  refine .inl ⟨(), w', .inr ⟨?_, rfl⟩, hk'⟩
  subst hm
  simp [execOp, ev_eval ha hx, ev_eval ha hy, Instr.storeAt, Instr.sureAddr, storeVar, run_sizeOf hT, Value.cells, hr]
/-- a literal slice -/
theorem e_buildSlice [Bs] {d : Option Nat} {T e : TypeId} {l k : Nat} {parts : Array (Nat × Operand)} {vs : List (Nat × Value)} {z : Value} {cs : Array Value} {ty pos aft gd} (hT : P.underlying T = some (.slice e)) (hk : sizeB P e = some k)
    (hz : zeroB P e = some z) (hl : l * k ≤ 2 ^ 24) (hv : (parts.toList.mapM fun p => (ev L p.2).map fun v => (p.1, v)) = some vs)
    (hc : Instr.fill (fun i => some (i * k, k)) ((Array.range (l * k)).map (z.cells[· % z.cells.size]!)) vs = some cs) :
    ERun (β := Nat) P n ⟨d, .buildSlice T l parts, ty, pos, aft, gd⟩ L K (fun b => .slice (some ⟨b, 0, none⟩) l l) (fun b => (b, Cells cs.toList e) :: K) := by
  intro a w ha hkn
  have h1 : ∀ (l : List (Nat × Operand)) (vs : List (Nat × Value)), (l.mapM fun p => (ev L p.2).map fun v => (p.1, v)) = some vs → l.map (fun p => (p.1, a.eval p.2)) = vs := by
    intro l
    induction l with
    | nil => intro vs h; simp at h; simp [h]
    | cons x l ih =>
      intro vs h
      simp only [List.mapM_cons, Option.bind_eq_bind, Option.bind_eq_some_iff, Option.pure_def, Option.some.injEq, Option.map_eq_some_iff] at h
      obtain ⟨u, ⟨v, hv, rfl⟩, us, hus, rfl⟩ := h
      simp [ev_eval ha hv, ih us hus]
  have h5 : (parts.map fun (i, x) => (i, a.eval x)) = vs.toArray := by
    apply Array.ext'; simpa using h1 _ _ hv
  refine .inl ⟨w.heap.size, { w with heap := w.heap.push (.cells cs e) }, .inl ?_, hkn.alloc (by simp [Cells])⟩
  have hl' : ¬ (2 ^ 24 < l * k) := by omega
  by_cases h0 : l * k = 0
  · have hc' : Instr.fill (fun i => some (i * k, k)) ((Array.range (l * k)).map ((#[] : Array Value)[· % (#[] : Array Value).size]!)) vs = some cs := by
      rw [← hc]; congr 1; rw [h0]; simp
    rw [h0] at hc'
    simp [execOp, Instr.buildSlice, run_underlying hT, run_sizeOf hk, h0, h5]
    simp at hc'
    simp [hc', newRow, newObj, Sem.run]
  · simp only [execOp, Instr.buildSlice, Sem.run_bind, run_underlying hT, run_sizeOf hk, Result.andThen, gt_iff_lt, hl', h0, if_false, Sem.run_pure, run_zeroValue hz, h5]
    simp [hc, newRow, newObj, Sem.run]
theorem firstCells_row {w : World} {b off c l cap sz : Nat} {vs : List Value} {T : TypeId} (h : ∃ o, w.heap[b]? = some o ∧ Row off vs c T o) (hl : vs.length = l * sz) :
    (Builtin.firstCells sz l (.slice (some ⟨b, off, none⟩) l cap)).run P w = .ok vs.toArray w := by
  have := run_loadR (P := P) h (l * sz) 0 0 #[] (by omega)
  simp only [Nat.add_zero, List.drop_zero, Array.empty_append] at this
  rw [List.take_of_length_le (by omega)] at this
  simp [Builtin.firstCells, loadCells, this]
theorem Cells.row {vs : List Value} {T : TypeId} {o : Obj} (h : Cells vs T o) : Row 0 vs vs.length T o := ⟨[], [], by simpa [Cells] using h, rfl, rfl⟩
/-- what an append comes to -/
theorem run_append [Bs] {T e : TypeId} {i : TypeInfo} {z : Value} {s : Sl} {vs us : List Value} {sz m cx : Nat} {x : Value} {R : KB} {w : World} (hT : P.underlying T = some (.slice e)) (hi : P.info? e = some i) (hz : i.zero = some z)
    (hsz : i.size = sz) (hzs : z.cells.size = sz) (hok : s.Ok vs sz) (hl : us.length = m * sz) (h1 : us.all oneC = true)
    (hb : (s.len + m) * i.bytes ≤ 140737488355328) (h63 : s.len + m ≤ 140737488355328)
    (hx : ∀ w', w'.heap = w.heap → (Builtin.firstCells sz m x).run P w' = .ok us.toArray w') (hxl : ∀ w', (Builtin.lenOf x).run P w' = .ok m w') (hk : Knows w (s.kb vs sz e ++ R)) :
    ∃ (s' : Sl) (w' : World), (Builtin.append_ #[T, T] cx #[s.val, x]).run P w = .ok s'.val w' ∧ s'.len = s.len + m ∧ s'.Ok (vs ++ us) sz ∧ Knows w' (s'.kb (vs ++ us) sz e ++ R) := by
  subst hsz
  have hint : ¬ ∃ k, P.underlying T = some (.int k) := by rw [hT]; rintro ⟨k, h⟩; cases h
  have h63' : ¬ (9223372036854775807 < ((s.len : Int) + (m : Int))) := by omega
  by_cases hroom : s.len + m ≤ s.cap
  · refine ⟨⟨s.a, s.len + m, s.cap⟩, ?_⟩
    cases ha : s.a with
    | none =>
      have hc := hok.nil ha
      have hm0 : m = 0 := by omega
      have hl0 : s.len = 0 := by omega
      have hus : us = [] := List.eq_nil_of_length_eq_zero (by rw [hl, hm0]; simp)
      subst hus
      refine ⟨w, ?_, rfl, ⟨by simpa [hm0] using hok.vlen, hroom, fun _ => hc⟩, by simpa [Sl.kb, ha] using hk⟩
      have := hx w rfl
      simp [Builtin.append_, Sl.val, ha, run_underlying hT, sizeOf, run_typeInfo w hi, hxl, hroom, this]
    | some p =>
      obtain ⟨b, off⟩ := p
      simp only [Sl.kb, ha] at hk ⊢
      obtain ⟨o, ho, pre, post, rfl, hp1, hp2⟩ := hk.has (b, Row off vs (s.cap * i.size) e) (by simp)
      -- the row, as one that holds its spare cells too
      have hlen2 : vs.length + us.length ≤ s.cap * i.size := by
        rw [hok.vlen, hl, ← Nat.add_mul]; exact Nat.mul_le_mul_right _ hroom
      have hk2 : Knows w ((b, Row off (vs ++ post) (s.cap * i.size) e) :: R) :=
        hk.upd (φ := Row off vs (s.cap * i.size) e) .here ho ⟨pre, [], by simp, hp1, by simpa using hp2⟩ (fun _ _ => rfl)
      have h3 := run_storeR (P := P) (b := b) (off := off) (c := s.cap * i.size) (j := vs.length) us 0 (vs ++ post) w _ ((b, Row off (splice (vs ++ post) (vs.length + 0) us) (s.cap * i.size) e) :: R) h1 (by simp; omega) hk2 .here
      obtain ⟨w', hr, hk'⟩ := h3
      refine ⟨w', ?_, (by first | rfl | trivial), ⟨by simp [hok.vlen, hl, Nat.add_mul], hroom, fun h => by cases h⟩, ?_⟩
      · have hadd : Addr.add ⟨b, off, none⟩ (s.len * i.size) = ⟨b, off + vs.length, none⟩ := by
          rw [← hok.vlen]; unfold Addr.add; split <;> simp_all
        simp [Builtin.append_, Sl.val, ha, run_underlying hT, sizeOf, run_typeInfo w hi, hxl, hroom, hx w rfl, hadd, hr]
      · refine hk'.mono (φ := Row off (splice (vs ++ post) (vs.length + 0) us) (s.cap * i.size) e) .here ?_
        rintro o ⟨pre', post', rfl, q1, q2⟩
        refine ⟨pre', post.drop us.length ++ post', ?_, q1, ?_⟩
        · simp [splice, List.drop_append]
        · have : (splice (vs ++ post) (vs.length + 0) us).length = (vs ++ us).length + (post.drop us.length).length := by
            simp [splice, List.drop_append]; omega
          rw [this] at q2
          simp only [List.length_append] at q2 ⊢
          omega
  · have hfit : ¬ (281474976710656 < Builtin.nextslicecap (s.len + m) s.cap * i.bytes) := by
      have := growslice_fits (old := s.cap) (by omega) hb; omega
    have hge := grownCap_ge w (s.len + m) s.cap e
    have hforced : Question.forced (.appendCap (s.len + m) s.cap e) = false := rfl
    let w1 : World := { w with drawn := w.drawn + 1 }
    let N := grownCap w (s.len + m) s.cap e
    have hold : (Builtin.firstCells i.size s.len s.val).run P w1 = .ok vs.toArray w1 := by
      cases ha : s.a with
      | none =>
        have hc := hok.nil ha
        have hcap := hok.cap
        have hl0 : s.len = 0 := by omega
        have : vs = [] := List.eq_nil_of_length_eq_zero (by rw [hok.vlen, hl0]; simp)
        subst this
        simp [Sl.val, ha, Builtin.firstCells]
      | some p =>
        obtain ⟨b, off⟩ := p
        simp only [Sl.kb, ha] at hk
        have := hk.has (b, Row off vs (s.cap * i.size) e) (by simp)
        have := firstCells_row (P := P) (w := w1) (cap := s.cap) (l := s.len) (sz := i.size) this hok.vlen
        simpa [Sl.val, ha] using this
    refine ⟨⟨some (w.heap.size, 0), s.len + m, N⟩, { w1 with heap := w.heap.push (.cells (vs.toArray ++ us.toArray ++ Builtin.zeroCells z.cells (N - (s.len + m))) e) }, ?_, rfl, ⟨by simp [hok.vlen, hl, Nat.add_mul], hge, fun h => by cases h⟩, ?_⟩
    · have hasked : ∀ w', (askRoom (N * i.bytes)).run P w' = .ok () w' := fun w' => by unfold askRoom; split <;> simp [mark, Sem.run]
      simp only [Sl.val] at hold
      simp [Builtin.append_, Sl.val, run_underlying hT, sizeOf, run_typeInfo _ hi, zeroValue, hz, hxl, hroom, h63', hfit, choose, Sem.run, hforced]
      rw [show w.drew = w1 from rfl, hold]
      simp only [Result.andThen, hx w1 rfl, newRow, newObj, Sem.run_bind, Sem.run]
      simp [N, grownCap, w1]
      congr 2
      apply Array.ext'
      simp [List.append_assoc]
    · have hkR : Knows w R := hk.right
      have := hkR.new (w' := { w1 with heap := w.heap.push (.cells (vs.toArray ++ us.toArray ++ Builtin.zeroCells z.cells (N - (s.len + m))) e) }) (φ := Row 0 (vs ++ us) (N * i.size) e)
        (o := .cells (vs.toArray ++ us.toArray ++ Builtin.zeroCells z.cells (N - (s.len + m))) e) rfl
        ⟨[], (Builtin.zeroCells z.cells (N - (s.len + m))).toList, by simp, rfl, by
          simp only [List.length_append, hok.vlen, hl, Array.length_toList, size_zeroCells, hzs, ← Nat.add_mul]
          congr 1; omega⟩
      simpa [Sl.kb] using this
/-- x = append(s, y...): s is taken, y's row is known -/
theorem e_append [Bs] {d : Option Nat} {x y : Operand} {T e : TypeId} {i : TypeInfo} {z : Value} {s : Sl} {vs us : List Value} {sz m c' bx off cx : Nat} {U : TypeId} {R R' : KB} {ats : Array TypeId} {ty pos aft gd} (hT : P.underlying T = some (.slice e)) (hi : P.info? e = some i) (hz : i.zero = some z)
    (hsz : i.size = sz) (hzs : z.cells.size = sz) (hat : ats = #[T, T]) (hx : ev L x = some s.val) (hok : s.Ok vs sz) (hb : (s.len + m) * i.bytes ≤ 140737488355328) (h63 : s.len + m ≤ 140737488355328)
    (hy : ev L y = some (.slice (some ⟨bx, off, none⟩) m c')) (hl : us.length = m * sz) (h1 : us.all oneC = true) (hK : K.Perm (s.kb vs sz e ++ R)) (hp : Pick R bx (Row off us cx U) R') :
    ERun (β := { s' : Sl // s'.len = s.len + m ∧ s'.Ok (vs ++ us) sz }) P n ⟨d, .call ⟨.builtin .append, #[x, y], ats⟩, ty, pos, aft, gd⟩ L K (fun s' => s'.1.val) (fun s' => s'.1.kb (vs ++ us) sz e ++ R) := by
  intro a w ha hkn
  subst hat
  have hk := hkn.perm hK
  obtain ⟨s', w', hr, h2, h3, h4⟩ := run_append (P := P) (cx := ty) (x := .slice (some ⟨bx, off, none⟩) m c') hT hi hz hsz hzs hok hl h1 hb h63
    (fun w' hw' => firstCells_row (by rw [hw']; exact hk.right.has _ hp.mem) hl) (fun w' => by simp [Builtin.lenOf]) hk
  refine .inl ⟨⟨s', h2, h3⟩, w', .inl ?_, h4⟩
  simp [execOp, resolve, invoke, builtin, ev_eval ha hx, ev_eval ha hy, hr]
/-- make([]T, n) -/
theorem e_makeSlice [Bs] {d : Option Nat} {x y : Operand} {T e : TypeId} {i : TypeInfo} {z : Value} {kx : IntKind} {l : Int} {ty pos aft gd} (hT : P.underlying T = some (.slice e)) (hi : P.info? e = some i) (hz : i.zero = some z)
    (hx : ev L x = some (.int kx l)) (hy : ev L y = some (.int kx l)) (h0 : 0 ≤ l) (hb : (i.bytes : Int) * l ≤ 281474976710656) (h63 : l ≤ 9223372036854775807) :
    ERun (β := Nat) P n ⟨d, .makeSlice T x y, ty, pos, aft, gd⟩ L K (fun b => .slice (some ⟨b, 0, none⟩) l.toNat l.toNat) (fun b => (b, Cells (madeCells z.cells (l.toNat * i.size)).toList e) :: K) := by
  intro a w ha hkn
  refine .inl ⟨w.heap.size, _, .inl ?_, hkn.alloc (o := .cells (madeCells z.cells (l.toNat * i.size)) e) (by simp [Cells])⟩
  simp only [execOp, ev_eval ha hx, ev_eval ha hy, Sem.run_bind, run_make w T e i z hT hi hz kx kx l l h0 (Int.le_refl _) hb h63, Result.andThen]
  rfl
theorem madeCells_one (v : Value) (m : Nat) : (madeCells #[v] m).toList = List.replicate m v := by
  have : ∀ k, (#[v] : Array Value)[k % (#[v] : Array Value).size]! = v := fun k => by
    have : k % (#[v] : Array Value).size = 0 := by simp [Nat.mod_one]
    rw [this]; rfl
  apply List.ext_getElem
  · simp [madeCells]
  · intro j h1 h2
    simp only [madeCells, Array.toList_map, List.getElem_map, List.getElem_replicate]
    exact this _
/-- s[lo:hi] -/
theorem q_slice {d : Option Nat} {x : Operand} {lo hi : Option Operand} {T e : TypeId} {sz b off l c : Nat} {kl kh : IntKind} {p q : Nat} {r : Value} {ty pos aft gd} (hT : P.underlying T = some (.slice e)) (hs : sizeB P e = some sz)
    (hx : ev L x = some (.slice (some ⟨b, off, none⟩) l c)) (hlo : (lo = none ∧ p = 0) ∨ ∃ o, lo = some o ∧ ev L o = some (.int kl p)) (hhi : (hi = none ∧ q = l) ∨ ∃ o, hi = some o ∧ ev L o = some (.int kh q))
    (h1 : p ≤ q) (h2 : q ≤ c) (hr : r = .slice (some (if c = p then ⟨b, off, none⟩ else ⟨b, off + p * sz, none⟩)) (q - p) (c - p)) :
    QRun P n ⟨d, .slice T x lo hi none, ty, pos, aft, gd⟩ L K r := by
  intro a w ha hkn
  subst hr
  have hadd : Addr.add ⟨b, off, none⟩ (p * sz) = ⟨b, off + p * sz, none⟩ := by unfold Addr.add; split <;> simp_all
  have e1 : ∀ (k : IntKind) (y : Nat) (cd : BoundsCode) (w : World), p ≤ y → (Instr.sliceBound (.int k p) y cd).run P w = .ok p w := fun k y cd w h => by
    simp [Instr.sliceBound, asIntOf, h]
  have e2 : ∀ (k : IntKind) (y : Nat) (cd : BoundsCode) (w : World), q ≤ y → (Instr.sliceBound (.int k q) y cd).run P w = .ok q w := fun k y cd w h => by
    simp [Instr.sliceBound, asIntOf, h]
  have hb : (Instr.sliceBounds true l c (lo.map a.eval) (hi.map a.eval) none).run P w = .ok (p, q, c) w := by
    rcases hlo with ⟨rfl, rfl⟩ | ⟨o, rfl, ho⟩ <;> rcases hhi with ⟨rfl, rfl⟩ | ⟨o', rfl, ho'⟩
    · simp [Instr.sliceBounds]
    · simp [Instr.sliceBounds, ev_eval ha ho', e2 kh c _ w h2]
    · simp [Instr.sliceBounds, ev_eval ha ho, e1 kl _ _ w h1]
    · simp [Instr.sliceBounds, ev_eval ha ho, ev_eval ha ho', e1 kl q _ w h1, e2 kh c _ w h2]
  simp only [execOp, ev_eval ha hx, Instr.sliceAt, Sem.run_bind, run_underlying hT, Result.andThen, Instr.slice, Option.map_none, hb, run_sizeOf hs, Sem.run_pure]
  by_cases hcp : c = p
  · simp [hcp]
  · simp [hcp, hadd]
end
end Go.SL
namespace Go.SL
open Go
theorem wrap64_id {x : Int} (h1 : -9223372036854775808 ≤ x) (h2 : x ≤ 9223372036854775807) : IntKind.i64.wrap x = x := by rw [IntKind.wrap_i64]; omega
/-! ## Slices, nil or not -/
def Sl.blk (s : Sl) : Nat := (s.a.getD (0, 0)).1
def Sl.off (s : Sl) : Nat := (s.a.getD (0, 0)).2
section
variable {P : Program} {n : Nat} {L : Env} {K : KB}
theorem Sl.some_of {s : Sl} {vs : List Value} {sz : Nat} (hok : s.Ok vs sz) (h : 0 < s.len) : s.a = some (s.blk, s.off) := by
  cases ha : s.a with
  | none => have := hok.nil ha; have := hok.cap; omega
  | some p => simp [Sl.blk, Sl.off, ha]
theorem Sl.val_some {s : Sl} (h : s.a = some (s.blk, s.off)) : s.val = .slice (some ⟨s.blk, s.off, none⟩) s.len s.cap := by
  unfold Sl.val; rw [h]; rfl
theorem Sl.kb_some {s : Sl} {vs : List Value} {sz : Nat} {T : TypeId} (h : s.a = some (s.blk, s.off)) : s.kb vs sz T = [(s.blk, Row s.off vs (s.cap * sz) T)] := by
  unfold Sl.kb; rw [h]
theorem q_lenSl {d : Option Nat} {x : Operand} {T : TypeId} {e : TypeId} {s : Sl} {ats : Array TypeId} {ty pos aft gd} (hT : P.underlying T = some (.slice e)) (hat : ats[0]? = some T)
    (hx : ev L x = some s.val) : QRun P n ⟨d, .call ⟨.builtin .len, #[x], ats⟩, ty, pos, aft, gd⟩ L K (.int .i64 s.len) := q_lenSlice hT hat hx
theorem q_idxSl {d : Option Nat} {x y : Operand} {T e : TypeId} {s : Sl} {vs : List Value} {k sz m : Nat} {j : Int} {kd : IntKind} {ty pos aft gd} (hT : P.underlying T = some (.slice e)) (he : sizeB P e = some k)
    (hok : s.Ok vs sz) (hx : ev L x = some s.val) (hy : ev L y = some (.int kd j)) (h0 : 0 ≤ j) (hl : j < s.len) (hm : s.off + j.toNat * k = m) :
    QRun P n ⟨d, .indexAddr T x y, ty, pos, aft, gd⟩ L K (.pointer (some ⟨s.blk, m, none⟩)) := by
  have hs := Sl.some_of hok (by omega)
  rw [Sl.val_some hs] at hx
  exact q_indexAddr hT he hx hy h0 hl hm
theorem q_loadSl {d : Option Nat} {x : Operand} {T U : TypeId} {s : Sl} {vs : List Value} {sz m i : Nat} {v : Value} {R : KB} {ty pos aft gd} (hT : aggB P T = some false)
    (hx : ev L x = some (.pointer (some ⟨s.blk, m, none⟩))) (hok : s.Ok vs sz) (hK : K.Perm (s.kb vs sz U ++ R)) (hm : m = s.off + i) (hv : vs[i]? = some v) : QRun P n ⟨d, .load T x, ty, pos, aft, gd⟩ L K v := by
  have hlen : 0 < s.len := by
    have h1 := (List.getElem?_eq_some_iff.1 hv).1
    have h2 := hok.vlen
    rcases Nat.eq_zero_or_pos s.len with h | h
    · rw [h, Nat.zero_mul] at h2; omega
    · exact h
  have hs := Sl.some_of hok hlen
  rw [Sl.kb_some hs] at hK
  intro a w ha hk
  exact q_loadR (K := _) hT hx hm (.here) hv a w ha (hk.perm hK)
theorem q_loadAggSl {d : Option Nat} {x : Operand} {T U : TypeId} {s : Sl} {vs us : List Value} {sz m i p : Nat} {R : KB} {ty pos aft gd} (hT : aggB P T = some true) (hm : sizeB P T = some m)
    (hx : ev L x = some (.pointer (some ⟨s.blk, p, none⟩))) (hok : s.Ok vs sz) (hK : K.Perm (s.kb vs sz U ++ R)) (hp : p = s.off + i) (hlen : i + m ≤ vs.length) (h0 : 0 < s.len) (hv : (vs.drop i).take m = us) :
    QRun P n ⟨d, .load T x, ty, pos, aft, gd⟩ L K (.agg us.toArray) := by
  have hs := Sl.some_of hok h0
  rw [Sl.kb_some hs] at hK
  intro a w ha hk
  exact q_loadAggR (K := _) hT hm hx hp .here hlen hv a w ha (hk.perm hK)
theorem e_storeSl [Bs] {d : Option Nat} {x y : Operand} {T U : TypeId} {s : Sl} {vs : List Value} {sz m i : Nat} {v : Value} {R : KB} {ty pos aft gd} (hT : sizeB P T = some 1)
    (hx : ev L x = some (.pointer (some ⟨s.blk, m, none⟩))) (hy : ev L y = some v) (hok : s.Ok vs sz) (hK : K.Perm (s.kb vs sz U ++ R)) (hm : m = s.off + i) (h1 : oneC v = true) (hi : i < vs.length) {vs' : List Value} (hvs : vs.set i v = vs') :
    ERun (β := Unit) P n ⟨d, .store T x y, ty, pos, aft, gd⟩ L K (fun _ => undef) (fun _ => s.kb vs' sz U ++ R) := by
  subst hvs
  have hlen : 0 < s.len := by
    have h2 := hok.vlen
    rcases Nat.eq_zero_or_pos s.len with h | h
    · rw [h, Nat.zero_mul] at h2; omega
    · exact h
  have hs := Sl.some_of hok hlen
  rw [Sl.kb_some hs] at hK ⊢
  intro a w ha hk
  exact e_storeR (K := _) (K' := (s.blk, Row s.off (vs.set i v) (s.cap * sz) U) :: R) hT hx hm hy h1 hi .here a w ha (hk.perm hK)
theorem e_storeAggSl [Bs] {d : Option Nat} {x y : Operand} {T U : TypeId} {s : Sl} {vs us : List Value} {sz m i p : Nat} {R : KB} {ty pos aft gd} (hT : sizeB P T = some m)
    (hx : ev L x = some (.pointer (some ⟨s.blk, p, none⟩))) (hy : ev L y = some (.agg us.toArray)) (hok : s.Ok vs sz) (hK : K.Perm (s.kb vs sz U ++ R)) (hp : p = s.off + i) (h1 : us.all oneC = true) (hm : us.length = m) (h0 : 0 < s.len) (hi : i + us.length ≤ vs.length) {vs' : List Value} (hvs : splice vs i us = vs') :
    ERun (β := Unit) P n ⟨d, .store T x y, ty, pos, aft, gd⟩ L K (fun _ => undef) (fun _ => s.kb vs' sz U ++ R) := by
  subst hvs
  have hs := Sl.some_of hok h0
  rw [Sl.kb_some hs] at hK ⊢
  intro a w ha hk
  exact e_storeAggR (K := _) (K' := (s.blk, Row s.off (splice vs i us) (s.cap * sz) U) :: R) hT hx hp hy h1 hm hi .here a w ha (hk.perm hK)
theorem Knows.rowOf [Bs] {w : World} {K' : KB} {b : Nat} {vs : List Value} {T : TypeId} (hk : Knows w K) (hp : Pick K b (Cells vs T) K') : Knows w ((b, Row 0 vs vs.length T) :: K') :=
  (hk.perm hp.perm).mono (φ := Cells vs T) .here (fun _ h => h.row)
/-- a literal slice becomes one that may be appended to -/
theorem kb_of_cells [Bs] {w : World} {K' : KB} {b l sz : Nat} {vs : List Value} {T : TypeId} (hk : Knows w K) (hp : Pick K b (Cells vs T) K') (hl : vs.length = l * sz) :
    Knows w ((⟨some (b, 0), l, l⟩ : Sl).kb vs sz T ++ K') := by
  have := hk.rowOf hp
  simpa [Sl.kb, hl] using this
/-- append(s, x..): what is appended stands in a literal of its own, which is let go -/
theorem e_append1 [Bs] {d : Option Nat} {x y : Operand} {T e : TypeId} {i : TypeInfo} {z : Value} {s : Sl} {vs us : List Value} {sz m c' bx : Nat} {U : TypeId} {R R' : KB} {ats : Array TypeId} {ty pos aft gd} (hT : P.underlying T = some (.slice e)) (hi : P.info? e = some i) (hz : i.zero = some z)
    (hsz : i.size = sz) (hzs : z.cells.size = sz) (hat : ats = #[T, T]) (hx : ev L x = some s.val) (hy : ev L y = some (.slice (some ⟨bx, 0, none⟩) m c')) (hp : Pick K bx (Cells us U) R') (hK : R'.Perm (s.kb vs sz e ++ R))
    (hok : s.Ok vs sz) (hb : (s.len + m) * i.bytes ≤ 140737488355328) (h63 : s.len + m ≤ 140737488355328) (hl : us.length = m * sz) (h1 : us.all oneC = true) {vs' : List Value} (hvs : vs ++ us = vs') :
    ERun (β := { s' : Sl // s'.len = s.len + m ∧ s'.Ok vs' sz }) P n ⟨d, .call ⟨.builtin .append, #[x, y], ats⟩, ty, pos, aft, gd⟩ L K (fun s' => s'.1.val) (fun s' => s'.1.kb vs' sz e ++ R) := by
  subst hvs
  intro a w ha hkn
  have hk2 := hkn.rowOf hp
  have hperm : ((bx, Row 0 us us.length U) :: R').Perm (s.kb vs sz e ++ ((bx, Row 0 us us.length U) :: R)) := tk_cons hK
  rcases e_append (P := P) (n := n) (L := L) (K := (bx, Row 0 us us.length U) :: R') (d := d) (ty := ty) (pos := pos) (aft := aft) (gd := gd) hT hi hz hsz hzs hat hx hok hb h63 hy hl h1 hperm .here a w ha hk2 with ⟨s', w', hr, hk'⟩ | h
  · exact .inl ⟨s', w', hr, hk'.sublist (K' := s'.1.kb (vs ++ us) sz e ++ R) (List.Sublist.append_left (List.sublist_cons_self _ _) _)⟩
  · exact .inr h
theorem Sl.ok_lit {b l sz : Nat} {vs : List Value} (h : vs.length = l * sz) : (⟨some (b, 0), l, l⟩ : Sl).Ok vs sz := ⟨h, Nat.le_refl _, fun h => by cases h⟩
end
/-! ## Rows of values -/
/-- elements, each some cells -/
def flat {α : Type} (enc : α → List Value) (xs : List α) : List Value := xs.flatMap enc
theorem flat_len {α : Type} {enc : α → List Value} {k : Nat} (h : ∀ x, (enc x).length = k) (xs : List α) : (flat enc xs).length = xs.length * k := by
  induction xs with
  | nil => simp [flat]
  | cons x xs ih =>
    simp only [flat, List.flatMap_cons, List.length_append, List.length_cons] at ih ⊢
    rw [h, ih, Nat.add_mul, Nat.one_mul, Nat.add_comm]
theorem flat_at {α : Type} {enc : α → List Value} {k : Nat} (h : ∀ x, (enc x).length = k) : ∀ (xs : List α) (i : Nat) (x : α), xs[i]? = some x → ((flat enc xs).drop (i * k)).take k = enc x
  | [], i, x, hx => by simp at hx
  | y :: ys, 0, x, hx => by
    simp at hx
    subst hx
    simp [flat, ← h y]
  | y :: ys, i + 1, x, hx => by
    have := flat_at h ys i x (by simpa using hx)
    simp only [flat, List.flatMap_cons] at this ⊢
    rw [← this, show (i + 1) * k = (enc y).length + i * k from by rw [h, Nat.add_mul]; omega, ← List.drop_drop, List.drop_left]
theorem flat_snoc {α : Type} {enc : α → List Value} (xs : List α) (x : α) : flat enc (xs ++ [x]) = flat enc xs ++ enc x := by simp [flat]
theorem flat_app {α : Type} {enc : α → List Value} (xs ys : List α) : flat enc (xs ++ ys) = flat enc xs ++ flat enc ys := by simp [flat]
theorem flat_all {α : Type} {enc : α → List Value} (h : ∀ x, (enc x).all oneC = true) (xs : List α) : (flat enc xs).all oneC = true := by
  simp only [flat, List.all_flatMap, List.all_eq_true]
  intro x _
  simpa using h x
theorem flat_set {α : Type} {enc : α → List Value} {k : Nat} (h : ∀ x, (enc x).length = k) : ∀ (xs : List α) (i : Nat) (x : α), i < xs.length → splice (flat enc xs) (i * k) (enc x) = flat enc (xs.set i x)
  | [], i, x, hx => by simp at hx
  | y :: ys, 0, x, hx => by
    simp [flat, splice, h x, ← h y]
  | y :: ys, i + 1, x, hx => by
    have := flat_set h ys i x (by simpa using hx)
    simp only [flat, List.flatMap_cons, List.set_cons_succ] at this ⊢
    rw [← this]
    simp only [splice]
    have e : (i + 1) * k = (enc y).length + i * k := by rw [h, Nat.add_mul]; omega
    rw [e, List.take_append, Nat.add_sub_cancel_left, Nat.add_assoc, List.drop_append, Nat.add_sub_cancel_left]
    simp [List.take_of_length_le (show (enc y).length ≤ (enc y).length + i * k by omega)]
section
variable {P : Program} {n : Nat} {L : Env} {K : KB}
/-- a constant string's byte -/
theorem q_indexStr {d : Option Nat} {x y : Operand} {T : TypeId} {s : ByteArray} {k : IntKind} {j : Int} {b : UInt8} {ty pos aft gd} (hT : P.underlying T = some .string) (hx : ev L x = some (.string s)) (hy : ev L y = some (.int k j))
    (h0 : 0 ≤ j) (hb : s[j.toNat]? = some b) : QRun P n ⟨d, .index T x y, ty, pos, aft, gd⟩ L K (.int .u8 b.toNat) := by
  intro a w ha hk
  simp [execOp, ev_eval ha hx, ev_eval ha hy, Instr.index, asIntOf, run_underlying hT, h0, hb]
end
end Go.SL
namespace Go.SL
open Go
/-! ## Range over a function -/
def notDefer (o : Oper) : Bool := match o.op with
  | .defer _ => false
  | _ => true
theorem notDefer_ne {o : Oper} (h : notDefer o = true) : ∀ c, o.op ≠ .defer c := by
  intro c hc
  simp [notDefer, hc] at h
/-- a region, in a fence's terms -/
def WI [Bs] (F : Fence) (P : Program) (n : Nat) (ops : List Oper) (Q : Exit → Act → World → Prop) (is : List Nat) (L : Env) (K : KB) : Prop :=
  ∀ a w, Holds n a L → Knows w K → wpOpsIn F 0 P ops.toArray Q is a w
def CI [Bs] (F : Fence) (P : Program) (n : Nat) (c : Code) (Q : Exit → Act → World → Prop) (L : Env) (K : KB) : Prop :=
  ∀ a w, Holds n a L → Knows w K → c.wpIn F 0 P Q a w
section
variable {P : Program} {n : Nat} {ops : List Oper} {Q : Exit → Act → World → Prop} {i : Nat} {rest : List Nat} {L L' : Env} {K K' : KB} {o : Oper} {F : Fence}
theorem WI_nil [Bs] (h : ∀ a w, Holds n a L → Knows w K → Q .normal a w) : WI F P n ops Q [] L K := h
theorem WI_q [Bs] {v : Value} (hF : ∀ f, F.fn f) (ho : nthO ops i = some o) (hp : notDefer o = true) (hw : wanted ops L o = some true) (hd : fits n o.dst = true)
    (hq : QRun P n o L K v) (h : WI F P n ops Q rest (puts L o.dst v) K) : WI F P n ops Q (i :: rest) L K := by
  intro a w ha hk
  simp only [wpOpsIn, nthO_eq, ho]
  rw [if_pos (wanted_spec hw ha)]
  refine ⟨fun f _ => hF f, ?_⟩
  rw [Oper.semAt_eq _ _ _ (notDefer_ne hp), hq a w ha hk.toKn0]
  exact h _ _ (ha.puts hd) hk
theorem WI_e [Bs] {β : Type} {v : β → Value} {K' : β → KB} (hF : ∀ f, F.fn f) (ho : nthO ops i = some o) (hp : notDefer o = true) (hw : wanted ops L o = some true) (hd : fits n o.dst = true)
    (he : ERun P n o L K v K') (h : ∀ x, WI F P n ops Q rest (puts L o.dst (v x)) (K' x)) : WI F P n ops Q (i :: rest) L K := by
  intro a w ha hk
  simp only [wpOpsIn, nthO_eq, ho]
  rw [if_pos (wanted_spec hw ha)]
  refine ⟨fun f _ => hF f, ?_⟩
  rw [Oper.semAt_eq _ _ _ (notDefer_ne hp)]
  rcases he a w ha hk with ⟨x, w', hr, hk'⟩ | hf
  · rcases hr with hr | ⟨hr, hv⟩
    · rw [hr]; exact h x _ _ (ha.puts hd) hk'
    · rw [hr]
      have := h x _ _ (ha.puts hd) hk'
      rwa [hv] at this
  · exact hf.elim
theorem WI_round [Bs] {d : Option Nat} {x : Operand} {xs : Array Operand} {ats : Array TypeId} {ty pos aft gd} {l : Nat} {vs : List Value} {u : Value} {post : KB → Prop}
    (ho : nthO ops i = some ⟨d, .call ⟨.value x, xs, ats⟩, ty, pos, aft, gd⟩) (hw : wanted ops L ⟨d, .call ⟨.value x, xs, ats⟩, ty, pos, aft, gd⟩ = some true) (hd : fits n d = true)
    (hx : ev L x = some (.func (.yield l) #[] #[])) (hxs : evs L xs.toList = some vs)
    (hy : ∀ w, Knows w K → YieldAt Fence.wide 0 P l vs.toArray w fun e w' => e = .returned u ∧ ∃ Ky, post Ky ∧ Knows w' Ky)
    (h : ∀ Ky, post Ky → WI Fence.wide P n ops Q rest (puts L d u) Ky) : WI Fence.wide P n ops Q (i :: rest) L K := by
  intro a w ha hk
  simp only [wpOpsIn, nthO_eq, ho]
  rw [if_pos (wanted_spec hw ha)]
  refine ⟨fun f _ => trivial, ?_⟩
  obtain ⟨fn, tmps, assign, body, hy1, hy2⟩ := hy w hk
  have h1 := ev_eval ha hx
  have h2 : xs.map a.eval = vs.toArray := by
    apply Array.ext'
    simpa using evs_eval ha hxs
  have hr : (execOp a.eval ⟨d, .call ⟨.value x, xs, ats⟩, ty, pos, aft, gd⟩).run P w = .ok (.round l fn tmps assign body) w := by
    simp [execOp, resolve, h1, h2, Deferred.ofValue, invoke, hy1]
  rw [show Fence.wide.round = none from rfl, Oper.semAt_none, hr]
  refine ⟨(fun h => by cases h), hy2.mono fun e w' he => ?_⟩
  obtain ⟨rfl, Ky, hp, hk'⟩ := he
  exact h Ky hp _ _ (ha.puts hd) hk'
theorem C_regionI [Bs] {id : Nat} (h : WI Fence.wide P n ops Q (List.range ops.length) L K) : C P n (.region id ops.toArray false) Q L K :=
  fun a w ha hk => (wpIn_wide (n := 0)).1 (wpIn_region (by simpa using h a w ha hk))
theorem CI_region [Bs] {id : Nat} (h : WI F P n ops Q (List.range ops.length) L K) : CI F P n (.region id ops.toArray false) Q L K :=
  fun a w ha hk => wpIn_region (by simpa using h a w ha hk)
theorem CI_block [Bs] {id : Nat} {c : Code} (h : CI F P n c (Exit.inBlock id Q) L K) : CI F P n (.block id c) Q L K :=
  fun a w ha hk => wpIn_block (h a w ha hk)
/-- an iterator: it hands each of some values to yield, in some order; S: what may have come; what it reads is as it was -/
def Iter [Bs] (P : Program) (gf : FuncId) (fb lb : Array Value) (S : List Value → Prop) (N : Nat) (Qx : Value → Prop) (Ki : KB) : Prop :=
  ∀ (l : Nat) (J : List Value → KB → Prop),
    (∀ pre x, Qx x → pre.length < N → ∀ Kx Fr w, J pre Kx → Knows w (Kx ++ Fr) → YieldAt Fence.wide 0 P l #[x] w fun e w' => e = .returned (.bool true) ∧ ∃ Ky, J (pre ++ [x]) Ky ∧ Knows w' (Ky ++ Fr)) →
    ∀ K0, J [] K0 → Spec P gf (fb.toList ++ .func (.yield l) #[] #[] :: lb.toList) (Ki ++ K0) fun _ K' => ∃ xs K1, S xs ∧ J xs K1 ∧ K' = Ki ++ K1
def IsDef : OP := fun o => o = .deferred (some [])
theorem Knows.put [Bs] {w : World} {K : KB} {b : Nat} {φ ψ : OP} {o : Obj} {R : KB} (h : Knows w K) (hp : K.Perm ((b, φ) :: R)) (ho : ψ o) : Knows (w.putObj b o) ((b, ψ) :: R) := by
  have h' := h.perm hp
  exact h'.upd .here (World.putObj_heap_same (h'.lt (p := (b, φ)) (by simp))) ho fun c hc => World.putObj_heap_other hc
theorem Knows.obj [Bs] {w : World} {K : KB} {b : Nat} {o : Obj} (h : Knows w K) (hm : (b, fun x => x = o) ∈ K) : w.heap[b]? = some o := by
  obtain ⟨x, h1, h2⟩ := h.has _ hm
  dsimp at h2
  subst h2
  exact h1
theorem C_rangeFunc [Bs] {t p : Nat} {assign body : Code} [_hQ : Good Q] {gf : FuncId} {fb lb : Array Value} {S : List Value → Prop} {N : Nat} {Qx : Value → Prop} {Ki F0 : KB}
    (hg : L.get t = some (.func (.func gf) fb lb)) (hpf : plainFn P gf = true) (hpn : p < n) (it : Iter P gf fb lb S N Qx Ki)
    (J : List Value → KB → Prop) (K0 : KB) (hK : K.Perm (Ki ++ (K0 ++ F0))) (h0 : J [] K0) (La : Value → Nat → Env) (Ka : Value → Nat → KB)
    (hassign : ∀ l pre x Kx Fr, Qx x → J pre Kx → CI (Fence.wide.inRound l) P n assign (Exit.then (fun a w => ∃ b, Holds n a (La x b) ∧ Knows w (Ka x b ++ (Kx ++ Fr))) (fun _ _ _ => False)) ((p, x) :: L) (Kx ++ Fr))
    (hbody : ∀ l pre x b Kx Fr, Qx x → pre.length < N → J pre Kx → CI (Fence.wide.inRound l) P n body (fun e _ w => e = .normal ∧ ∃ Ky, J (pre ++ [x]) Ky ∧ Knows w (Ky ++ Fr)) (La x b) (Ka x b ++ (Kx ++ Fr)))
    (hdone : ∀ xs K1 D, S xs → J xs K1 → ∀ a w, Holds n a L → Knows w ((D, IsDef) :: (Ki ++ K1 ++ F0)) → Q .normal { a with defers := [{ target := .collected D, args := #[] }] } w) :
    C P n (.rangeFunc (.tmp t) #[p] assign body) Q L K := by
  intro a w ha hk
  refine (wpIn_wide (n := 0)).1 (wpIn_rangeFunc ?_)
  intro fn _
  obtain ⟨rec, hrec⟩ : ∃ rec : LoopState → Option Code → Loop, rec = fun st pe => { state := st, pending := pe, fn, tmps := a.tmps, params := #[p], assign, body, defers := w.heap.size } := ⟨_, rfl⟩
  have hl : a.eval (.tmp t) = .func (.func gf) fb lb := ha.get t _ hg
  have hk1 : Knows (w.alloc (.deferred (some []))) ((w.heap.size, IsDef) :: K) := hk.new rfl rfl
  have hk2 : Knows ((w.alloc (.deferred (some []))).alloc (.loop (rec .ready none))) ((w.heap.size + 1, fun o => o = .loop (rec .ready none)) :: (w.heap.size, IsDef) :: K) := by
    have := hk1.new (w' := (w.alloc (.deferred (some []))).alloc (.loop (rec .ready none))) (φ := fun o => o = .loop (rec .ready none)) rfl rfl
    rwa [World.size_alloc] at this
  refine ⟨w.heap.size + 1, [{ target := .collected w.heap.size, args := #[] }], (w.alloc (.deferred (some []))).alloc (.loop (rec .ready none)), { target := .fn (.func gf) lb, args := fb ++ #[.func (.yield (w.heap.size + 1)) #[] #[]] },
    (w.alloc (.deferred (some []))).alloc (.loop (rec .ready none)), gf, fb ++ #[.func (.yield (w.heap.size + 1)) #[] #[]] ++ lb, (w.alloc (.deferred (some []))).alloc (.loop (rec .ready none)), ?_, ?_, ?_, ?_, (fun h => by cases h), ?_⟩
  · rw [hrec]; exact run_enterLoop_outer _ _ _ _ _
  · simp only [resolve, hl]
    simp [go_sem]
  · intro f' _; trivial
  · simp only [invoke, run_callFunc hpf]
  · refine callsIn_wide.2 ?_
    have hsp := it (w.heap.size + 1) (fun pre Kx => ∃ Ky, J pre Ky ∧ Kx = (w.heap.size + 1, fun o => o = .loop (rec .ready none)) :: Ky) ?_ _ ⟨K0, h0, rfl⟩ ((w.heap.size, IsDef) :: F0) _ (hk2.perm ?_)
    · have : (fb ++ #[.func (.yield (w.heap.size + 1)) #[] #[]] ++ lb : Array Value) = (fb.toList ++ .func (.yield (w.heap.size + 1)) #[] #[] :: lb.toList : List Value).toArray := by apply Array.ext'; simp
      rw [this]
      refine hsp.mono fun e w3 he => ?_
      cases e with
      | panicked c => exact he.elim
      | outgrown => exact he.elim
      | returned v =>
        obtain ⟨_, ⟨xs, _, hS, ⟨K1, hJ, rfl⟩, rfl⟩, hk3⟩ := he
        have hl3 : w3.heap[w.heap.size + 1]? = some (.loop (rec .ready none)) := hk3.obj (by simp)
        have hnb : (rec .ready none).state ≠ .busy := by rw [hrec]; simp
        have hpe : (rec .ready none).pending = none := by rw [hrec]
        obtain ⟨ob, hend⟩ : ∃ ob, (Instr.endLoop (w.heap.size + 1)).run P w3 = .ok none (w3.putObj (w.heap.size + 1) ob) := ⟨_, (run_endLoop (P := P) hl3 hnb).trans (by rw [hpe])⟩
        refine ⟨none, _, hend, ?_⟩
        have hd : a.defers = [] := ha.defers
        have := hdone xs K1 w.heap.size hS hJ a (w3.putObj (w.heap.size + 1) ob) ha ?_
        · rw [hd]; exact this
        · have h4 := hk3.put (b := w.heap.size + 1) (φ := fun o => o = .loop (rec .ready none)) (ψ := fun _ => True) (o := ob)
            (R := (w.heap.size, IsDef) :: (Ki ++ K1 ++ F0)) (by
              simp only [List.append_assoc, List.cons_append]
              refine List.perm_middle.trans (.cons _ ?_)
              rw [← List.append_assoc]
              refine List.perm_middle.trans ?_
              simp) trivial
          exact h4.sublist (List.sublist_cons_self _ _)
    · intro pre x hx hlen Kx Fr W hJx hW
      obtain ⟨Ky, hJ, rfl⟩ := hJx
      have hlx : W.heap[w.heap.size + 1]? = some (.loop (rec .ready none)) := hW.obj (by simp)
      have hy : (Instr.yield (w.heap.size + 1) #[x]).run P W = .ok (.round (w.heap.size + 1) fn (a.tmps.setIfInBounds p x) assign body) W := by
        have := run_yield (P := P) (args := #[x]) hlx (by rw [hrec]; rfl)
        rw [hrec] at this
        simpa using this
      refine ⟨fn, _, assign, body, hy, roundIn_of_wpIn trivial ?_⟩
      have hhold : Holds n { tmps := a.tmps.setIfInBounds p x, defers := [] } ((p, x) :: L) := by
        have := ha.put (v := x) hpn
        refine ⟨this.size, rfl, this.get⟩
      have hW2 : Knows W (Ky ++ ((w.heap.size + 1, fun o => o = .loop (rec .ready none)) :: Fr)) := hW.perm (by simpa using List.perm_middle.symm)
      refine wpIn_mono (hassign (w.heap.size + 1) pre x Ky _ hx hJ _ W hhold hW2) ?_
      intro e a1 W1 hq
      cases e with
      | normal =>
        obtain ⟨bb, ha1, hW1⟩ := hq
        have hl1 : W1.heap[w.heap.size + 1]? = some (.loop (rec .ready none)) := hW1.obj (by simp)
        refine ⟨_, run_beginRound hl1 (by rw [hrec]), ?_⟩
        have hp1 : ∀ z : Nat × OP, (Ka x bb ++ (Ky ++ z :: Fr)).Perm (z :: (Ka x bb ++ (Ky ++ Fr))) := fun z => by
          have := List.perm_middle (a := z) (l₁ := Ka x bb ++ Ky) (l₂ := Fr); simpa using this
        have hW3 := hW1.put (b := w.heap.size + 1) (φ := fun o => o = .loop (rec .ready none)) (ψ := fun o => o = .loop { rec .ready none with state := .busy }) (o := .loop { rec .ready none with state := .busy }) (R := Ka x bb ++ (Ky ++ Fr)) (hp1 _) rfl
        refine wpIn_mono (hbody (w.heap.size + 1) pre x bb Ky _ hx hlen hJ a1 _ ha1 (hW3.perm (hp1 _).symm)) ?_
        rintro e2 a2 W4 ⟨rfl, Kz, hJz, hW4⟩
        have hl4 : W4.heap[w.heap.size + 1]? = some (.loop { rec .ready none with state := .busy }) := hW4.obj (by simp)
        have hend := run_endRound (P := P) none hl4
        refine ⟨_, _, hend, rfl, _, ⟨Kz, hJz, rfl⟩, ?_⟩
        have := hW4.put (b := w.heap.size + 1) (φ := fun o => o = .loop { rec .ready none with state := .busy }) (ψ := fun o => o = .loop (rec .ready none)) (o := .loop (rec .ready none)) (R := Kz ++ Fr) List.perm_middle rfl
        rw [hrec] at this ⊢
        exact this
      | ret => exact hq.elim
      | exit id => exact hq.elim
      | goto l => exact hq.elim
      | panic c => exact hq.elim
      | outgrown => exact hq.elim
    · have := hK
      refine (List.Perm.cons _ (List.Perm.cons _ this)).trans ?_
      simp only [List.append_assoc, List.cons_append]
      refine List.Perm.trans ?_ List.perm_middle.symm
      refine .cons _ ?_
      have h5 := (List.perm_middle (a := (w.heap.size, IsDef)) (l₁ := Ki ++ K0) (l₂ := F0)).symm
      simpa using h5
/-! ### the end of a function that holds such a loop -/
def Wd [Bs] (d : List Deferred) (P : Program) (n : Nat) (ops : List Oper) (Q : Exit → Act → World → Prop) (is : List Nat) (L : Env) (K : KB) : Prop :=
  ∀ a w, Holds n a L → Knows w K → wpOps P ops.toArray Q is { a with defers := d } w
theorem Wd_nil [Bs] {d : List Deferred} (h : ∀ a w, Holds n a L → Knows w K → Q .normal { a with defers := d } w) : Wd d P n ops Q [] L K := h
theorem Wd_q [Bs] {d : List Deferred} {v : Value} (ho : nthO ops i = some o) (hw : wanted ops L o = some true) (hd : fits n o.dst = true)
    (hq : QRun P n o L K v) (h : Wd d P n ops Q rest (puts L o.dst v) K) : Wd d P n ops Q (i :: rest) L K := by
  intro a w ha hk
  simp only [wpOps, nthO_eq, ho]
  rw [if_pos (wanted_spec hw ha)]
  refine .inl ?_
  have hr : (execOp ({ a with defers := d } : Act).eval o).run P w = .ok (.value v) w := hq a w ha hk.toKn0
  simp only [Oper.wp, hr, Oper.upon]
  have := h _ _ (ha.puts hd) hk
  cases ho : o.dst <;> (rw [ho] at this; exact this)
theorem C_tail [Bs] {d : List Deferred} {id : Nat} {c2 : Code} (h : Wd d P n ops (Exit.then (c2.wp P Q) Q) (List.range ops.length) L K) :
    ∀ a w, Holds n a L → Knows w K → (Code.seq (.region id ops.toArray false) c2).wp P Q { a with defers := d } w :=
  fun a w ha hk => wp_seq (wp_region (by simpa using h a w ha hk))
/-- what the body must come to, no panic let in -/
def bodyPostT (P : Program) (fn : Func) (R : Value → World → Prop) : Exit → Act → World → Prop
  | .normal, a, w | .ret, a, w => LeavesInM Fence.wide 0 P fn a.tmps (Ret R) a.defers .returning w
  | _, _, _ => False
instance Good.bodyT {fn : Func} {R : Value → World → Prop} : Good (bodyPostT P fn R) where
  nop := fun _ _ _ h => h
theorem spec_body_m [Bs] {f : FuncId} {fn : Func} {c : Code} {args : List Value} {post : Value → KB → Prop} (hf : P.funcs[f]? = some fn) (hb : fn.body = some c)
    (ha : Nat.ble args.length fn.ntmps = true)
    (h : ∀ (Fr : KB) (R : Value → World → Prop), (∀ v K' w, post v K' → Knows w (K' ++ Fr) → R v w) → C P fn.ntmps c (bodyPostT P fn R) (argEnv 0 args) (K ++ Fr)) : Spec P f args K post := by
  intro Fr w hk
  refine (callsIn_wide (n := 0)).1 (callsIn_of_wp_marks hf hb trivial ?_)
  refine wpIn_mono ((wpIn_wide (n := 0)).2 (h Fr (fun v w' => ∃ K', post v K' ∧ Knows w' (K' ++ Fr)) (fun v K' w hp hw => ⟨K', hp, hw⟩) _ _ (holds_enter (Nat.le_of_ble_eq_true ha)) hk)) fun e a w hq => ?_
  cases e with
  | normal => exact hq
  | ret => exact hq
  | outgrown => exact hq.elim
  | exit _ => exact hq.elim
  | goto _ => exact hq.elim
  | panic _ => exact hq.elim
theorem T_val {fn : Func} {R : Value → World → Prop} {v : Value} {e : Exit} {a : Act} {w : World} {D : Nat} (he : e = .ret ∨ e = .normal) (hD : w.heap[D]? = some (.deferred (some [])))
    (hr : ∀ w, (results fn a.tmps).run P w = .ok v w) (h : R v (w.putObj D (.deferred none))) : bodyPostT P fn R e { a with defers := [{ target := .collected D, args := #[] }] } w := by
  have : LeavesInM Fence.wide 0 P fn a.tmps (Ret R) [{ target := .collected D, args := #[] }] .returning w :=
    ⟨by simp, .inl ⟨D, _, rfl, run_takeDeferred hD, ⟨v, hr _, h⟩⟩⟩
  rcases he with rfl | rfl <;> exact this
end
end Go.SL
namespace Go.SL
open Go
open Go.ChangeMaps (setBlock)
/-! ## Range over a map -/
structure It (m : List (Int × Value)) where
  bs : List Nat
  ck : Nat
  seen : Array Nat
  vis : List (Int × Value)
  st : Stamps m.length bs ck
  ok : ∃ l rest : List ((Int × Value) × Nat), (l ++ rest).Perm (m.zip bs) ∧ l.map (·.1) = vis ∧ l.map (·.2) = seen.toList
def ItO (r : Nat) (ck : Nat) (seen : Array Nat) : OP := fun o => o = .mapIter (some r) ck seen ck
/-- an iterator's block, under way -/
def It.kb {m : List (Int × Value)} (it : It m) (kd : IntKind) (b r : Nat) : KB := [(b, ItO r it.ck it.seen), (r, MapB kd m it.bs it.ck)]
section
variable {P : Program} {n : Nat} {L : Env} {K : KB} {kd : IntKind} {m : List (Int × Value)}
theorem It.len (it : It m) : it.vis.length ≤ m.length := by
  obtain ⟨l, rest, h1, h2, h3⟩ := it.ok
  have := h1.length_eq
  have hs := it.st.len
  rw [← h2]
  simp at this ⊢
  omega
theorem It.sub (it : It m) : ∃ rest, (it.vis ++ rest).Perm m := by
  obtain ⟨l, rest, h1, h2, h3⟩ := it.ok
  refine ⟨rest.map (·.1), ?_⟩
  have := h1.map (·.1)
  rw [List.map_fst_zip (by rw [it.st.len]; exact Nat.le_refl _), List.map_append, h2] at this
  exact this
theorem e_range [Bs] {d : Option Nat} {x : Operand} {T kt e : TypeId} {r : Nat} {R : KB} {ty pos aft gd} (hT : P.underlying T = some (.map kt e)) (hx : ev L x = some (.map (some r))) (hp : Pick K r (MapI kd m) R) :
    ERun (β := { it : It m // it.vis = [] } × Nat) P n ⟨d, .range T x, ty, pos, aft, gd⟩ L K (fun q => .pointer (some ⟨q.2, 0, none⟩)) (fun q => q.1.1.kb kd q.2 r ++ R) := by
  intro a w ha hk
  have hk2 := hk.perm hp.perm
  obtain ⟨bs, ck, hs, ho⟩ := MapI.get (hk2.has _ (.head _))
  refine .inl ⟨⟨⟨⟨bs, ck, #[], [], hs, [], m.zip bs, .refl _, rfl, rfl⟩, rfl⟩, w.heap.size⟩, { w with heap := w.heap.push (.mapIter (some r) ck #[] ck) }, .inl ?_, ?_⟩
  · simp [execOp, ev_eval ha hx, Instr.range, run_underlying hT, run_getObj_map ho, newObj, Sem.run]
  · have h3 : Knows w ((r, MapB kd m bs ck) :: R) := hk2.upd (φ := MapI kd m) .here ho rfl (fun _ _ => rfl)
    exact h3.alloc (φ := ItO r ck #[]) rfl
theorem e_next [Bs] {d : Option Nat} {x : Operand} {r b : Nat} {it : It m} {R : KB} {ty pos aft gd} (hx : ev L x = some (.pointer (some ⟨b, 0, none⟩))) (hK : K.Perm (it.kb kd b r ++ R)) :
    ERun (β := { q : Option (It m × (Int × Value)) // match q with | none => it.vis.Perm m | some (it', x) => it'.vis = it.vis ++ [x] ∧ x ∈ m ∧ it.vis.length < m.length }) P n ⟨d, .next x false, ty, pos, aft, gd⟩ L K
      (fun q => match q.1 with | none => .tuple #[.bool false] | some (_, x) => .tuple #[.bool true, .int kd x.1, x.2])
      (fun q => match q.1 with | none => it.kb kd b r ++ R | some (it', _) => it'.kb kd b r ++ R) := by
  intro a w ha hk
  have hk2 := hk.perm hK
  obtain ⟨o1, h1, rfl⟩ := hk2.has (b, ItO r it.ck it.seen) (by simp [It.kb])
  obtain ⟨o2, h2, rfl⟩ := hk2.has (r, MapB kd m it.bs it.ck) (by simp [It.kb])
  simp only at h1 h2
  have hold : ∀ x ∈ (((m.zip it.bs).map (mkE kd)).toArray).toList, x.born < it.ck := by
    intro x hx
    simp only [List.mem_map] at hx
    obtain ⟨p, hp, rfl⟩ := hx
    exact it.st.lt _ (List.of_mem_zip hp).2
  have key := run_next_at (P := P) w ty b r it.ck it.ck it.seen _ it.ck h1 h2 hold (Nat.le_refl _)
  obtain ⟨l, rest, q1, q2, q3⟩ := it.ok
  have hnd : (l.map (·.2) ++ rest.map (·.2)).Nodup := by
    have := (q1.map (·.2))
    rw [List.map_snd_zip (by rw [it.st.len]; exact Nat.le_refl _), List.map_append] at this
    exact this.nodup_iff.2 it.st.nodup
  rcases key with ⟨h0, hr⟩ | ⟨e, he, w1, hw1, hr⟩
  · refine .inl ⟨⟨none, ?_⟩, w, .inl ?_, hk2⟩
    · cases rest with
      | nil =>
        have := q1.map (·.1)
        rw [List.append_nil, List.map_fst_zip (by rw [it.st.len]; exact Nat.le_refl _), q2] at this
        exact this
      | cons p rest =>
        exfalso
        have hp : p ∈ m.zip it.bs := q1.mem_iff.1 (by simp)
        have hn : p.2 ∉ it.seen.toList := by
          rw [← q3]
          intro hm
          exact (List.nodup_append.1 hnd).2.2 _ hm p.2 (by simp) rfl
        have : mkE kd p ∈ leftOf ((m.zip it.bs).map (mkE kd)).toArray it.seen := by
          simp only [leftOf, Array.mem_filter, List.mem_toArray]
          refine ⟨List.mem_map_of_mem hp, ?_⟩
          simpa [mkE] using hn
        have hz : (leftOf ((m.zip it.bs).map (mkE kd)).toArray it.seen) = #[] := Array.eq_empty_of_size_eq_zero h0
        rw [hz] at this
        simp at this
    · simp [execOp, ev_eval ha hx, hr, Result.andThen]
  · simp only [leftOf, Array.toList_filter, List.mem_filter, List.mem_map] at he
    obtain ⟨⟨p, hp, rfl⟩, hns⟩ := he
    have hns' : p.2 ∉ it.seen.toList := by simpa [mkE] using hns
    have hpr : p ∈ rest := by
      rcases List.mem_append.1 (q1.mem_iff.2 hp) with h | h
      · exact absurd (q3 ▸ List.mem_map_of_mem h) hns'
      · exact h
    obtain ⟨ra, rb, rfl⟩ := List.append_of_mem hpr
    have hpe : (ra ++ p :: rb).Perm (p :: (ra ++ rb)) := List.perm_middle
    let it' : It m := ⟨it.bs, it.ck, it.seen.push p.2, it.vis ++ [p.1], it.st, l ++ [p], ra ++ rb, by
      have := (List.Perm.append_left l hpe).symm.trans q1
      simpa using this, by simp [q2], by simp [q3]⟩
    refine .inl ⟨⟨some (it', p.1), rfl, (List.of_mem_zip hp).1, ?_⟩, _, .inl (by simp [execOp, ev_eval ha hx, hr, Result.andThen, mkE]; rfl), ?_⟩
    · have := q1.length_eq
      have hs := it.st.len
      rw [← q2]
      simp at this ⊢
      omega
    · have hk3 : Knows w1 (it.kb kd b r ++ R) := by
        rcases hw1 with rfl | rfl
        · exact hk2
        · exact hk2.heap rfl
      have hb1 : w1.heap[b]? = some (.mapIter (some r) it.ck it.seen it.ck) := by rcases hw1 with rfl | rfl <;> exact h1
      exact hk3.setObj (φ := ItO r it.ck it.seen) (ψ := ItO r it.ck (it.seen.push p.2)) .here hb1 rfl
theorem q_entry {d : Option Nat} {x : Operand} {r b : Nat} {it : It m} {R R' : KB} {pre : List (Int × Value)} {y : Int × Value} {ty pos aft gd} (hx : ev L x = some (.pointer (some ⟨b, 0, none⟩)))
    (hp : Pick K b (ItO r it.ck it.seen) R) (hq : Pick K r (MapB kd m it.bs it.ck) R') (hv : it.vis = pre ++ [y]) : QRun P n ⟨d, .entry x, ty, pos, aft, gd⟩ L K (.tuple #[.int kd y.1, y.2]) := by
  intro a w ha hk
  obtain ⟨o1, h1, rfl⟩ := hk.has _ hp.mem
  obtain ⟨o2, h2, rfl⟩ := hk.has _ hq.mem
  simp only at h1 h2
  obtain ⟨l, rest, q1, q2, q3⟩ := it.ok
  rw [hv] at q2
  obtain ⟨l1, p, rfl⟩ : ∃ l1 p, l = l1 ++ [p] := by
    rcases List.eq_nil_or_concat l with rfl | ⟨l1, p, rfl⟩
    · simp at q2
    · exact ⟨l1, p, by simp⟩
  simp only [List.map_append, List.map_cons, List.map_nil] at q2 q3
  obtain ⟨q2a, q2b⟩ := List.append_inj' q2 rfl
  simp only [List.cons.injEq, and_true] at q2b
  subst q2b
  have hseen : it.seen = (l1.map (·.2)).toArray.push p.2 := by
    apply Array.ext'
    simp [q3]
  have hpm : p ∈ m.zip it.bs := q1.mem_iff.1 (by simp)
  rw [hseen] at h1
  have := run_entry_at (P := P) w b r it.ck _ _ it.ck (mkE kd p) h1 h2 (by simpa using ⟨p.1.1, p.1.2, p.2, hpm, rfl⟩) (by
    have : (((m.zip it.bs).map (mkE kd)).toArray.toList.map (·.born)) = it.bs := by
      simp only [List.map_map]
      have : ((fun x : MapEntry => x.born) ∘ mkE kd) = Prod.snd := rfl
      rw [this, List.map_snd_zip (by rw [it.st.len]; exact Nat.le_refl _)]
    rw [this]; exact it.st.nodup)
  simp [execOp, ev_eval ha hx, mkE, this, Result.andThen]
/-- the range is over -/
theorem Knows.close [Bs] {w : World} {it : It m} {b r : Nat} {R : KB} (h : Knows w (it.kb kd b r ++ R)) : Knows w ((r, MapI kd m) :: R) := by
  have h2 : Knows w ((r, MapB kd m it.bs it.ck) :: R) := h.sublist (List.sublist_cons_self _ _)
  exact h2.mono .here fun o ho => ⟨it.bs, it.ck, it.st, ho⟩
variable {Q : Exit → Act → World → Prop} {c : Code}
theorem C_close [Bs] {it : It m} {b r : Nat} {R : KB} (hK : K.Perm (it.kb kd b r ++ R)) (h : C P n c Q L ((r, MapI kd m) :: R)) : C P n c Q L K :=
  fun a w ha hk => h a w ha ((hk.perm hK).close)
end
/-! ## append, by the type's facts -/
def infoB (P : Program) (T : TypeId) : Option (Option Value × Nat × Nat) := (P.info? T).map fun i => (i.zero, i.size, i.bytes)
section
variable {P : Program} {n : Nat} {L : Env} {K : KB}
theorem e_app1 [Bs] {d : Option Nat} {x y : Operand} {T e : TypeId} {z : Value} {s : Sl} {vs us : List Value} {sz m c' bx by_ : Nat} {U : TypeId} {R R' : KB} {ats : Array TypeId} {ty pos aft gd} (hT : P.underlying T = some (.slice e)) (hi : infoB P e = some (some z, sz, by_))
    (hzs : z.cells.size = sz) (hat : ats = #[T, T]) (hx : ev L x = some s.val) (hy : ev L y = some (.slice (some ⟨bx, 0, none⟩) m c')) (hp : Pick K bx (Cells us U) R') (hK : R'.Perm (s.kb vs sz e ++ R))
    (hok : s.Ok vs sz) (hb : (s.len + m) * by_ ≤ 140737488355328) (h63 : s.len + m ≤ 140737488355328) (hl : us.length = m * sz) (h1 : us.all oneC = true) {vs' : List Value} (hvs : vs ++ us = vs') :
    ERun (β := { s' : Sl // s'.len = s.len + m ∧ s'.Ok vs' sz }) P n ⟨d, .call ⟨.builtin .append, #[x, y], ats⟩, ty, pos, aft, gd⟩ L K (fun s' => s'.1.val) (fun s' => s'.1.kb vs' sz e ++ R) := by
  obtain ⟨i, h2, h3⟩ := Option.map_eq_some_iff.1 hi
  simp only [Prod.mk.injEq] at h3
  obtain ⟨h4, h5, h6⟩ := h3
  subst h6
  exact e_append1 hT h2 h4 h5 hzs hat hx hy hp hK hok hb h63 hl h1 hvs
end
end Go.SL
namespace Go.SL
open Go
section
variable {P : Program} {n : Nat} {L : Env} {K : KB}
theorem wrap_u16 (x : Int) : IntKind.u16.wrap x = x % 65536 := by
  simp only [IntKind.wrap, IntKind.bits, IntKind.signed]
  simp
theorem wrap_u32 (x : Int) : IntKind.u32.wrap x = x % 4294967296 := by
  simp only [IntKind.wrap, IntKind.bits, IntKind.signed]
  simp
theorem wrap_u8 (x : Int) : IntKind.u8.wrap x = x % 256 := by
  simp only [IntKind.wrap, IntKind.bits, IntKind.signed]
  simp
theorem ofInt16 (a : Nat) : BitVec.ofInt 16 (a : Int) = BitVec.ofNat 16 a := by
  apply BitVec.eq_of_toNat_eq
  simp
theorem q_bits {d : Option Nat} {op : BinOp} {x y : Operand} {k : IntKind} {p q : Int} {v : Int} {T U : TypeId} {ty pos aft gd} (hop : op = .and ∨ op = .or ∨ op = .xor ∨ op = .andNot)
    (hx : ev L x = some (.int k p)) (hy : ev L y = some (.int k q)) (hv : ∀ w, (Op.intBits op k p q).run P w = .ok (.int k v) w) : QRun P n ⟨d, .binOp op T x y U, ty, pos, aft, gd⟩ L K (.int k v) := by
  intro a w ha hk
  rcases hop with rfl | rfl | rfl | rfl <;> simp [execOp, ev_eval ha hx, ev_eval ha hy, eqGuard, binOp, hv]
theorem q_and16 {d : Option Nat} {x y : Operand} {p q : Nat} {T U : TypeId} {ty pos aft gd} (hx : ev L x = some (.int .u16 p)) (hy : ev L y = some (.int .u16 q)) (hp : p < 65536) (hq : q < 65536) :
    QRun P n ⟨d, .binOp .and T x y U, ty, pos, aft, gd⟩ L K (.int .u16 ((p &&& q : Nat) : Int)) := by
  refine q_bits (.inl rfl) hx hy fun w => ?_
  have h : p &&& q < 65536 := Nat.lt_of_le_of_lt Nat.and_le_left hp
  change (pure (Value.int .u16 (IntKind.u16.wrap (((BitVec.ofInt 16 (p : Int)) &&& (BitVec.ofInt 16 (q : Int))).toNat : Int))) : Sem Value).run P w = _
  rw [ofInt16, ofInt16]
  rw [show (BitVec.ofNat 16 p &&& BitVec.ofNat 16 q).toNat = p &&& q by rw [BitVec.toNat_and, BitVec.toNat_ofNat, BitVec.toNat_ofNat, Nat.mod_eq_of_lt hp, Nat.mod_eq_of_lt hq]]
  rw [wrap_u16]
  simp only [Sem.run_pure]
  congr 2
  omega
theorem q_or16 {d : Option Nat} {x y : Operand} {p q : Nat} {T U : TypeId} {ty pos aft gd} (hx : ev L x = some (.int .u16 p)) (hy : ev L y = some (.int .u16 q)) (hp : p < 65536) (hq : q < 65536) :
    QRun P n ⟨d, .binOp .or T x y U, ty, pos, aft, gd⟩ L K (.int .u16 ((p ||| q : Nat) : Int)) := by
  refine q_bits (.inr (.inl rfl)) hx hy fun w => ?_
  have h : p ||| q < 65536 := Nat.or_lt_two_pow (n := 16) hp hq
  change (pure (Value.int .u16 (IntKind.u16.wrap (((BitVec.ofInt 16 (p : Int)) ||| (BitVec.ofInt 16 (q : Int))).toNat : Int))) : Sem Value).run P w = _
  rw [ofInt16, ofInt16]
  rw [show (BitVec.ofNat 16 p ||| BitVec.ofNat 16 q).toNat = p ||| q by rw [BitVec.toNat_or, BitVec.toNat_ofNat, BitVec.toNat_ofNat, Nat.mod_eq_of_lt hp, Nat.mod_eq_of_lt hq]]
  rw [wrap_u16]
  simp only [Sem.run_pure]
  congr 2
  omega
theorem q_andNot16 {d : Option Nat} {x y : Operand} {p q : Nat} {T U : TypeId} {ty pos aft gd} (hx : ev L x = some (.int .u16 p)) (hy : ev L y = some (.int .u16 q)) (hp : p < 65536) (hq : q < 65536) :
    QRun P n ⟨d, .binOp .andNot T x y U, ty, pos, aft, gd⟩ L K (.int .u16 ((p &&& (65535 ^^^ q) : Nat) : Int)) := by
  refine q_bits (.inr (.inr (.inr rfl))) hx hy fun w => ?_
  have h : p &&& (65535 ^^^ q) < 65536 := Nat.lt_of_le_of_lt Nat.and_le_left hp
  have e : (~~~ BitVec.ofNat 16 q).toNat = 65535 ^^^ q := by
    rw [BitVec.toNat_not]
    simp only [BitVec.toNat_ofNat]
    apply Nat.eq_of_testBit_eq
    intro i
    rw [Nat.mod_eq_of_lt hq, Nat.testBit_xor]
    have := Nat.testBit_two_pow_sub_succ (x := q) (n := 16) hq i
    rw [show (2 : Nat) ^ 16 - 1 - q = 2 ^ 16 - (q + 1) by omega, this]
    have h2 : (65535 : Nat).testBit i = decide (i < 16) := by
      have := Nat.testBit_two_pow_sub_one 16 i
      simpa using this
    rw [h2]
    by_cases hi : i < 16
    · simp [hi]
    · have h16 : (2 : Nat) ^ 16 ≤ 2 ^ i := Nat.pow_le_pow_right (by decide) (by omega)
      have : q.testBit i = false := Nat.testBit_lt_two_pow (Nat.lt_of_lt_of_le (show q < 2 ^ 16 from hq) h16)
      simp [hi, this]
  change (pure (Value.int .u16 (IntKind.u16.wrap (((BitVec.ofInt 16 (p : Int)) &&& ~~~(BitVec.ofInt 16 (q : Int))).toNat : Int))) : Sem Value).run P w = _
  rw [ofInt16, ofInt16]
  rw [show (BitVec.ofNat 16 p &&& ~~~BitVec.ofNat 16 q).toNat = p &&& (65535 ^^^ q) by rw [BitVec.toNat_and, e, BitVec.toNat_ofNat, Nat.mod_eq_of_lt hp]]
  rw [wrap_u16]
  simp only [Sem.run_pure]
  congr 2
  omega
theorem q_shl16 {d : Option Nat} {x y : Operand} {q : Int} {T U : TypeId} {ty pos aft gd} (hx : ev L x = some (.int .u16 1)) (hy : ev L y = some (.int .i64 q)) (h0 : 0 ≤ q) (h16 : q < 16) :
    QRun P n ⟨d, .binOp .shl T x y U, ty, pos, aft, gd⟩ L K (.int .u16 ((1 <<< q.toNat : Nat) : Int)) := by
  intro a w ha hk
  have hm : min q.toNat 16 = q.toNat := by omega
  have hlt : (2 : Nat) ^ q.toNat < 65536 := Nat.pow_lt_pow_right (m := q.toNat) (n := 16) (by omega) (by omega)
  have hn : ¬ q < 0 := by omega
  simp only [execOp, ev_eval ha hx, ev_eval ha hy, eqGuard_shl, binOp_shl, Op.shift, hn, if_false, IntKind.bits, hm, wrap_u16, Sem.run_bind, Sem.run_pure, Result.andThen, Nat.one_shiftLeft]
  congr 3
  have : (1 * 2 ^ q.toNat : Int) = ((2 ^ q.toNat : Nat) : Int) := by simp
  rw [this]
  have h2 : ((2 ^ q.toNat : Nat) : Int) % 65536 = ((2 ^ q.toNat : Nat) : Int) := Int.emod_eq_of_lt (Int.natCast_nonneg _) (Int.ofNat_lt.2 hlt)
  exact h2
theorem q_shr16 {d : Option Nat} {x y : Operand} {p : Nat} {q : Int} {k : IntKind} {T U : TypeId} {ty pos aft gd} (hx : ev L x = some (.int .u16 p)) (hy : ev L y = some (.int k q)) (h0 : 0 ≤ q) (h16 : q ≤ 16) :
    QRun P n ⟨d, .binOp .shr T x y U, ty, pos, aft, gd⟩ L K (.int .u16 ((p >>> q.toNat : Nat) : Int)) := by
  intro a w ha hk
  have hm : min q.toNat 16 = q.toNat := by omega
  have hn : ¬ q < 0 := by omega
  simp only [execOp, ev_eval ha hx, ev_eval ha hy, eqGuard_shr, binOp_shr, Op.shift, hn, if_false, IntKind.bits, hm, Sem.run_bind, Sem.run_pure, Result.andThen, Nat.shiftRight_eq_div_pow]
  congr 3
  rw [Int.fdiv_eq_ediv_of_nonneg _ (by have : (0:Int) < 2 ^ q.toNat := Int.pow_pos (by omega); omega)]
  push_cast
  rfl
/-! ### tables with values behind them -/
theorem look_map {α : Type} (f : α → Value) (look : List (Int × α) → Int → Option α) (h0 : ∀ k, look [] k = none) (h1 : ∀ a v m k, look ((a, v) :: m) k = if k = a then some v else look m k) (m : List (Int × α)) (k : Int) :
    lookI (m.map fun p => (p.1, f p.2)) k = (look m k).map f := by
  induction m with
  | nil => simp [lookI, h0]
  | cons p m ih =>
    obtain ⟨a, v⟩ := p
    simp only [List.map_cons, lookI, h1, ih]
    split <;> rfl
end
end Go.SL
/-! The plain model of cap, rows, plan, prio, victim, shuffle and brain: what the Go functions compute, with no memory in it. -/
namespace Qd
/-! ## cap -/
def imax (x y : Int) : Int := if y > x then y else x
def imin (x y : Int) : Int := if y < x then y else x
def top : Int := 1099511627776
def capIn (n : Int) : Int := imin (imax n 0) top
def capAdd (a b : Int) : Int := capIn (capIn a + capIn b)
def capSub (a b : Int) : Int := capIn (capIn a - capIn b)
def capMul (a b : Int) : Int := if capIn a * capIn b > top then top else capIn a * capIn b
def capKeep (n lo hi : Int) : Int := imin (imax (capIn n) (capIn lo)) (capIn hi)
def maxTick : Int := 4294967295
def later (tick n : Int) : Int := imin (tick + capIn n) maxTick
/-- stretches: how many ticks lie in all -/
def overlapGo : List (Int × Int) → Int → Int → Int
  | [], fr, to => if to < fr then 0 else to - fr + 1
  | (a, b) :: l, fr, to => if b < a then 0 else overlapGo l (imax fr a) (imin to b)
def overlap (l : List (Int × Int)) : Int := if l.isEmpty then 0 else overlapGo l 0 maxTick
/-! ## lists -/
def insBy {α : Type} (lt : α → α → Bool) (x : α) : List α → List α
  | [] => [x]
  | y :: l => if lt y x then y :: insBy lt x l else x :: y :: l
def sortBy {α : Type} (lt : α → α → Bool) : List α → List α
  | [] => []
  | x :: l => insBy lt x (sortBy lt l)
def sortI (l : List Int) : List Int := sortBy (fun x y => decide (x < y)) l
def lookA {α : Type} : List (Int × α) → Int → Option α
  | [], _ => none
  | (a, v) :: m, k => if k = a then some v else lookA m k
def putA {α : Type} : List (Int × α) → Int → α → List (Int × α)
  | [], k, v => [(k, v)]
  | (a, u) :: m, k, v => if k = a then (k, v) :: m else (a, u) :: putA m k v
def delA {α : Type} : List (Int × α) → Int → List (Int × α)
  | [], _ => []
  | (a, u) :: m, k => if k = a then m else (a, u) :: delA m k
def addS (xs : List Int) (x : Int) : List Int := if x ∈ xs then xs else xs ++ [x]
/-! ## rows -/
structure Stand where
  row : Int
  nodes : Nat
  deriving Repr, DecidableEq
structure Mx where
  rows : Int
  nodes : Int
  up : Nat
  jobs : List (Int × Stand)
  taken : List Nat
  deriving Repr, DecidableEq
def bitsOf (s : Nat) : List Nat := (List.range 16).filter fun n => s.testBit n
def nodesOf (s : Nat) : List Int := (bitsOf s).map Int.ofNat
def cnt (s : Nat) : Int := (bitsOf s).length
def hasB (s : Nat) (n : Int) : Bool := s.testBit n.toNat
def bit (n : Int) : Nat := 1 <<< n.toNat
def tz (s : Nat) : Nat := ((bitsOf s).head?).getD 16
def diff (a b : Nat) : Nat := a &&& (65535 ^^^ b)
def Mx.isNode (m : Mx) (n : Int) : Bool := decide (0 ≤ n) && decide (n < m.nodes)
def Mx.isRow (m : Mx) (r : Int) : Bool := decide (0 ≤ r) && decide (r < m.rows)
def Mx.new (rows nodes : Int) : Mx := { rows, nodes, up := 2 ^ nodes.toNat - 1, jobs := [], taken := List.replicate rows.toNat 0 }
def Mx.setUp (m : Mx) (n : Int) (up : Bool) : Mx := if up then { m with up := m.up ||| bit n } else { m with up := diff m.up (bit n) }
def Mx.isUp (m : Mx) (n : Int) : Bool := m.isNode n && hasB m.up n
def Mx.put (m : Mx) (job : Int) (s : Stand) : Mx :=
  { m with jobs := putA m.jobs job s, taken := m.taken.set s.row.toNat ((m.taken.getD s.row.toNat 0) ||| s.nodes) }
def rising : List Int → Bool
  | a :: b :: l => decide (a < b) && rising (b :: l)
  | _ => true
def maskOf (l : List Int) : Nat := l.foldl (fun s n => s ||| bit n) 0
/-- Put: the error, the matrix -/
def Mx.tryPut (m : Mx) (job row : Int) (nodes : List Int) : Int × Mx :=
  if !(decide (job ≠ 0) && m.isRow row && decide (nodes ≠ []) && nodes.all m.isNode && rising nodes) then (1, m)
  else if (lookA m.jobs job).isSome then (7, m)
  else if (m.taken.getD row.toNat 0) &&& maskOf nodes ≠ 0 then (15, m)
  else (0, m.put job ⟨row, maskOf nodes⟩)
def Mx.remove (m : Mx) (job : Int) : Mx := match lookA m.jobs job with
  | none => m
  | some s => { m with taken := m.taken.set s.row.toNat (diff (m.taken.getD s.row.toNat 0) s.nodes), jobs := delA m.jobs job }
def Mx.of (m : Mx) (job : Int) : Int × List Int × Bool := match lookA m.jobs job with
  | none => (0, [], false)
  | some s => (s.row, nodesOf s.nodes, true)
def Mx.at_ (m : Mx) (row node : Int) : Int :=
  if m.isRow row && m.isNode node then ((m.jobs.find? fun p => p.2.row == row && hasB p.2.nodes node).map (·.1)).getD 0 else 0
def Mx.row (m : Mx) (row : Int) : List Int :=
  if m.isRow row then (sortBy (fun p q : Int × Stand => decide (tz p.2.nodes < tz q.2.nodes)) (m.jobs.filter fun p => p.2.row == row)).map (·.1) else []
def Mx.fillRow (m : Mx) : List Int → Nat → List Int → Nat × List Int
  | [], taken, out => (taken, out)
  | job :: l, taken, out => match lookA m.jobs job with
    | some s => if s.nodes &&& taken = 0 then m.fillRow l (taken ||| s.nodes) (out ++ [job]) else m.fillRow l taken out
    | none => m.fillRow l taken out
def Mx.fill (m : Mx) (row : Int) : List Int :=
  if m.isRow row then ((List.range m.rows.toNat).foldl (fun (st : Nat × List Int) (o : Nat) => if (o : Int) = row then st else m.fillRow (m.row o) st.1 st.2) (m.taken.getD row.toNat 0, [])).2 else []
def Mx.next (m : Mx) (row : Int) : Option Int :=
  let row := if m.isRow row then row else -1
  ((List.range m.rows.toNat).map fun (i : Nat) => (row + 1 + (i : Int)) % m.rows).find? fun r => m.taken.getD r.toNat 0 != 0
def Mx.jobIds (m : Mx) : List Int := sortI (m.jobs.map (·.1))
def Mx.free (m : Mx) (row : Int) : Int := if m.isRow row then cnt (diff m.up (m.taken.getD row.toNat 0)) else 0
/-! ## plan -/
structure Ask where
  k : Int
  len : Int
structure Start where
  at_ : Int
  row : Int
  nodes : List Int
  ok : Bool
  deriving Repr, DecidableEq
def start0 : Start := ⟨0, 0, [], false⟩
abbrev Profile := List (List Int)
def cellLt (a b : Int × Int) : Bool := decide (a.2 < b.2) || (decide (a.2 = b.2) && decide (a.1 < b.1))
/-- node, from -/
def soonest (row : List Int) (k : Int) : Option (List (Int × Int)) :=
  let l := (row.zipIdx).map fun p => ((p.2 : Int), capIn p.1)
  if (l.length : Int) < k then none else some ((sortBy cellLt l).take k.toNat)
def firstGo (a : Ask) : List (List Int × Nat) → Start → Start
  | [], best => best
  | (row, i) :: p, best => match soonest row a.k with
    | none => firstGo a p best
    | some l =>
      let fr := (l.getD (a.k.toNat - 1) (0, 0)).2
      if best.ok && decide (fr ≥ best.at_) then firstGo a p best
      else firstGo a p ⟨fr, i, l.map (·.1), true⟩
def first (p : Profile) (a : Ask) : Start :=
  if a.k < 1 then start0 else
  let b := firstGo a p.zipIdx start0
  { b with nodes := sortI b.nodes }
def reserve (p : Profile) (s : Start) (length : Int) : Profile :=
  if !s.ok || decide (s.row < 0) || decide (s.row ≥ p.length) then p
  else p.modify s.row.toNat fun (row : List Int) => s.nodes.foldl (fun (row : List Int) (n : Int) => if 0 ≤ n ∧ n < row.length then row.set n.toNat (capAdd s.at_ (imax length 1)) else row) row
def planGo (p : Profile) : List Ask → List Start
  | [] => []
  | a :: l => let s := first p a; s :: planGo (reserve p s a.len) l
/-! ## victim -/
structure Cand where
  job : Int
  tier : Int
  deriving Repr, DecidableEq
def candLt (a b : Cand) : Bool := decide (a.tier < b.tier) || (decide (a.tier = b.tier) && decide (b.job < a.job))
def lesserGo (m : Mx) (row tier : Int) : List Cand → List Int → List Cand
  | [], _ => []
  | c :: l, seen => if c.job ∈ seen then lesserGo m row tier l seen
    else
      let o := m.of c.job
      if o.2.2 && decide (o.1 = row) && decide (c.tier < tier) then c :: lesserGo m row tier l (addS seen c.job) else lesserGo m row tier l (addS seen c.job)
def lesser (m : Mx) (row : Int) (l : List Cand) (tier : Int) : List Cand := sortBy candLt (lesserGo m row tier l [])
def gives (m : Mx) (job : Int) : Int := (((m.of job).2.1.filter m.isUp).length : Nat)
def ofGo (m : Mx) (k : Int) : List Cand → List Cand → Int → Option (List Cand)
  | all, acc, have_ => if have_ ≥ k then some acc else match all with
    | [] => none
    | c :: r => ofGo m k r (acc ++ [c]) (have_ + gives m c.job)
def vicOf (m : Mx) (row : Int) (l : List Cand) (tier k : Int) : Option (List Cand) :=
  if k < 1 ∨ row < 0 ∨ row ≥ m.rows then none else ofGo m k (lesser m row l tier) [] (m.free row)
def vicTop (l : List Cand) : Int := l.foldl (fun n c => imax n (c.tier + 1)) 0
def chooseGo (m : Mx) (l : List Cand) (tier k : Int) : List Nat → Option (Int × List Cand) → Option (Int × List Cand)
  | [], best => best
  | i :: r, best => match vicOf m i l tier k with
    | none => chooseGo m l tier k r best
    | some v => match best with
      | none => chooseGo m l tier k r (some (i, v))
      | some (_, b) => if v.length < b.length ∨ (v.length = b.length ∧ vicTop v < vicTop b) then chooseGo m l tier k r (some (i, v)) else chooseGo m l tier k r best
def choose (m : Mx) (l : List Cand) (tier k : Int) : List Int := match chooseGo m l tier k (List.range m.rows.toNat) none with
  | none => []
  | some (_, b) => b.map (·.job)
/-! ## shuffle -/
def move (m : Mx) (job to : Int) : Bool × Mx :=
  let o := m.of job
  if !o.2.2 then (false, m) else
  let m1 := m.remove job
  let r := m1.tryPut job to o.2.1
  if r.1 = 0 then (true, r.2) else (false, (m1.tryPut job o.1 o.2.1).2)
def moveUp (job : Int) : List Nat → Mx → Mx
  | [], m => m
  | i :: r, m => let x := move m job i; if x.1 then x.2 else moveUp job r x.2
def repack (m : Mx) : Mx :=
  (List.range m.rows.toNat).foldl (fun c (j : Nat) => if j = 0 then c else (c.row j).foldl (fun c job => moveUp job (List.range j) c) c) m
/-! ## brain -/
structure Note where
  kind : Int := 0
  node : Int := 0
  epoch : Int := 0
  life : Int := 0
  tick : Int := 0
  gen : Int := 0
  job : Int := 0
  ver : Int := 0
  rank : Int := 0
  credit : Int := 0
  frm : Int := 0
  to : Int := 0
  blob : List Int := []
  deriving Repr, DecidableEq
structure Order where
  to : Int
  note : Note
  deriving Repr, DecidableEq
structure ApiJob where
  id : Int := 0
  tier : Int := 0
  k : Int := 0
  w : Int := 0
  state : Int := 0
  credit : Int := 0
  deriving Repr, DecidableEq
structure Image where
  job : Int
  ver : Int
  credit : Int
  blobs : List (List Int)
  deriving Repr, DecidableEq
structure Saving where
  img : Image
  have_ : List Int
  told : Bool
  deriving Repr, DecidableEq
structure Job where
  j : ApiJob
  at_ : List Int := []
  loaded : List Int := []
  work : Int
  ver : Int
  saving : Option Saving := none
  warned : Bool := false
  until_ : Int := 0
  drops : Option (List Int) := none
  again : Bool := false
  done : Bool := false
  ran : Option (List (Int × (Int × Int))) := none
  deriving Repr, DecidableEq
structure Config where
  nodes : Int
  rows : Int
  quantum : Int
  grace : Int
  deriving Repr, DecidableEq
structure Brain where
  c : Config
  hold : Int
  now : Int := 0
  up : List Int := []
  jobs : List (Int × Job) := []
  m : Mx
  orders : List Order := []
  images : List Image := []
  done : List Int := []
  gen : Int := 0
  row : Int := -1
  members : List Int := []
  end_ : Int := 0
  stops : Option (List Int) := none
  stopped : Bool := false
  deriving Repr, DecidableEq
namespace Brain
def okConfig (c : Config) : Bool := decide (1 ≤ c.rows) && decide (c.rows ≤ 8) && decide (1 ≤ c.nodes) && decide (c.nodes ≤ 16) && decide (1 ≤ c.quantum) && decide (c.quantum ≤ 1000) && decide (1 ≤ c.grace) && decide (c.grace ≤ 1000)
def new (c : Config) (hold : Int) : Brain :=
  { c, hold, m := (List.range c.nodes.toNat).foldl (fun m (n : Nat) => m.setUp n false) (Mx.new c.rows c.nodes) }
def order (b : Brain) (to : Int) (n : Note) : Brain := { b with orders := b.orders ++ [⟨to, n⟩] }
def job (b : Brain) (id : Int) : Option Job := lookA b.jobs id
def setJob (b : Brain) (id : Int) (x : Job) : Brain := { b with jobs := putA b.jobs id x }
def gone (b : Brain) (id : Int) (x : Job) : Brain :=
  match x.drops with
  | none => b.setJob id x
  | some (_ :: _) => b.setJob id x
  | some [] =>
    let b := { b with m := b.m.remove x.j.id }
    if !x.again then { b with jobs := delA b.jobs x.j.id }
    else b.setJob id { j := { x.j with state := 0 }, work := x.j.credit, ver := x.ver }
def dropGo (x : Job) : List Int → Brain → List Int → Brain × List Int
  | [], b, ds => (b, ds)
  | n :: l, b, ds => if n ∈ b.up then dropGo x l (b.order n { kind := 10, job := x.j.id }) (addS ds n) else dropGo x l b ds
def drop (b : Brain) (id : Int) (x : Job) (again : Bool) : Brain :=
  let x := { x with again := again && !x.done, saving := none, work := x.j.credit }
  let (b, x) := match x.drops with
    | some _ => (b, x)
    | none => let (b, ds) := dropGo x x.at_ b []; (b, { x with drops := some ds })
  gone b id { x with j := { x.j with state := 3 } }
def finish (b : Brain) (id : Int) (x : Job) : Brain :=
  if x.j.credit < x.j.w ∨ x.done then b.setJob id x
  else drop { b with done := b.done ++ [x.j.id] } id { x with done := true } false
def addErr (b : Brain) (j : ApiJob) : Int :=
  if j.id = 0 ∨ j.k < 1 ∨ j.k > b.c.nodes ∨ j.w < 1 ∨ j.w > 10000 ∨ j.credit < 0 ∨ j.credit > j.w ∨ j.tier > 3 then 1
  else if (b.job j.id).isSome then 7 else 0
def add (b : Brain) (j : ApiJob) (ver : Int) : Int × Brain :=
  let e := b.addErr j
  if e ≠ 0 then (e, b) else
  let x : Job := { j := { j with state := 0 }, work := j.credit, ver }
  (0, finish (b.setJob j.id x) j.id x)
def cancel (b : Brain) (id : Int) : Int × Brain := match b.job id with
  | none => (6, b)
  | some x => if x.drops.isSome && !x.again then (6, b)
    else if x.drops.isSome then (0, b.setJob id { x with again := false })
    else (0, drop b id x false)
def nodeErr (b : Brain) (n : Int) (up : Bool) : Int := if n < 0 ∨ n ≥ b.c.nodes then 1 else if b.m.isUp n ≠ up then 14 else 0
def setUp (b : Brain) (n : Int) : Int × Brain :=
  let e := b.nodeErr n false
  if e ≠ 0 then (e, b) else (0, { b with up := addS b.up n, m := b.m.setUp n true })
def ids (b : Brain) : List Int := sortI (b.jobs.map (·.1))
/-- an image of what is not published yet -/
def save (b : Brain) (id : Int) (x : Job) : Brain :=
  if x.work = x.j.credit ∨ x.saving.isSome ∨ x.drops.isSome ∨ x.j.state ≠ 2 then b.setJob id x else
  let ver := (x.ver + 1) % 4294967296
  let x := { x with ver, saving := some ⟨⟨x.j.id, ver, x.work, List.replicate x.at_.length []⟩, [], false⟩ }
  x.at_.foldl (fun b n => b.order n { kind := 8, job := x.j.id, ver, credit := x.work }) (b.setJob id x)
def count (b : Brain) (id : Int) (x : Job) : Brain :=
  match x.ran with
  | none => b.setJob id x
  | some r =>
    let x := { x with ran := none }
    if x.drops.isSome ∨ r.length ≠ x.at_.length then b.setJob id x
    else save b id { x with work := capKeep (capAdd x.work (overlap (r.map (·.2)))) 0 x.j.w }
def each (f : Brain → Int → Job → Brain) : List Int → Brain → Brain
  | [], b => b
  | id :: l, b => each f l (match b.job id with | some x => f b id x | none => b)
def stopHeard (b : Brain) (n : Int) : Brain := match b.stops with
  | none => b
  | some s =>
    let s := s.erase n
    if s ≠ [] then { b with stops := some s }
    else let b := { b with stops := none, stopped := false }; each count b.ids b
def lostOne (n : Int) (b : Brain) (id : Int) (x : Job) : Brain :=
  if n ∉ x.at_ then b
  else match x.drops with
    | none => drop b id x true
    | some d => gone b id { x with drops := some (d.erase n) }
def lost (b : Brain) (n : Int) : Int × Brain :=
  let e := b.nodeErr n true
  if e ≠ 0 then (e, b) else
  let b := { b with up := b.up.erase n, m := b.m.setUp n false, orders := b.orders.filter fun o => o.to != n }
  (0, stopHeard (each (lostOne n) b.ids b) n)
def heard (b : Brain) (n : Int) (note : Note) : Brain :=
  match b.stops with
  | none => b
  | some s => if n ∉ s ∨ !b.stopped ∨ note.gen ≠ b.gen then b else
    let b := match b.job note.job with
      | none => b
      | some x => match x.ran with
        | none => b
        | some r => if note.frm > 0 ∧ n ∈ x.at_ then b.setJob note.job { x with ran := some (putA r n (note.frm, note.to)) } else b
    stopHeard b n
def saved (b : Brain) (id : Int) (x : Job) (n : Int) (note : Note) : Brain :=
  match x.saving with
  | none => b
  | some s =>
    let rank := x.at_.idxOf n
    if s.told ∨ note.ver ≠ s.img.ver ∨ note.rank ≠ rank then b else
    let img := { s.img with blobs := s.img.blobs.set rank note.blob }
    let h := addS s.have_ n
    if h.length = x.at_.length then { b.setJob id { x with saving := some ⟨img, h, true⟩ } with images := b.images ++ [img] }
    else b.setJob id { x with saving := some ⟨img, h, s.told⟩ }
def hear (b : Brain) (n : Int) (note : Note) : Int × Brain :=
  let e := b.nodeErr n true
  if e ≠ 0 then (e, b) else
  if note.kind = 7 then (0, heard b n note) else
  match b.job note.job with
  | none => (0, b)
  | some x => if n ∉ x.at_ then (0, b) else
    if note.kind = 4 then
      (0, if x.j.state = 1 then
        let l := addS x.loaded n
        b.setJob note.job { x with loaded := l, j := { x.j with state := if l.length = x.at_.length then 2 else 1 } } else b)
    else if note.kind = 9 then (0, saved b note.job x n note)
    else if note.kind = 11 then
      (0, match x.drops with
        | none => b
        | some d => gone b note.job { x with drops := some (d.erase n) })
    else (0, b)
def takeImages (b : Brain) : List Image × Brain :=
  (b.images.filter fun i => match b.job i.job with
    | some x => match x.saving with | some s => s.img.ver == i.ver | none => false
    | none => false, { b with images := [] })
def published (b : Brain) (id ver : Int) (ok : Bool) : Int × Brain := match b.job id with
  | none => (6, b)
  | some x => match x.saving with
    | none => (6, b)
    | some s => if !s.told ∨ s.img.ver ≠ ver then (6, b)
      else (0, finish b id { x with j := if ok then { x.j with credit := s.img.credit } else x.j, saving := none })
def idle (b : Brain) : Bool := !(b.members.any fun id => match b.job id with | some x => x.drops.isNone | none => false)
def stop (b : Brain) : Brain :=
  (List.range b.c.nodes.toNat).foldl (fun b (n : Nat) => if (n : Int) ∈ (b.stops.getD []) then b.order n { kind := 6, gen := b.gen } else b) { b with stopped := true }
def leaveOne (b : Brain) (id : Int) (x : Job) : Brain :=
  if x.warned && x.drops.isNone && (decide (b.now ≥ x.until_) || (decide (x.work = x.j.credit) && x.saving.isNone)) then drop b id x true else b
def prioLt (a b : ApiJob) : Bool := decide (b.tier < a.tier) || (decide (a.tier = b.tier) && decide (a.id < b.id))
def waiting (b : Brain) : List Int :=
  ((sortBy prioLt ((b.ids.filterMap fun id => b.job id).filter (fun x => x.j.state == 0 && x.drops.isNone) |>.map (·.j))).map (·.id))
def length (b : Brain) (x : Job) : Int := capMul (capSub x.j.w x.j.credit) b.c.rows
def profile (b : Brain) : Profile :=
  (List.range b.c.rows.toNat).map fun (r : Nat) => (List.range b.c.nodes.toNat).map fun (n : Nat) =>
    if !b.m.isUp n then top else match b.job (b.m.at_ r n) with
      | some x => imax 1 (b.length x)
      | none => 0
def loadGo (x : Job) : List (Int × Nat) → Brain → Brain
  | [], b => b
  | (n, rank) :: l, b => loadGo x l (b.order n { kind := 3, job := x.j.id, ver := x.ver, rank := rank, credit := x.j.credit })
def load (b : Brain) (id : Int) (x : Job) (s : Start) : Brain :=
  let r := b.m.tryPut x.j.id s.row s.nodes
  if r.1 ≠ 0 then { b with m := r.2 } else
  let x := { x with at_ := s.nodes, loaded := [], j := { x.j with state := 1 } }
  loadGo x (x.at_.zipIdx) ({ b with m := r.2 }.setJob id x)
def place (b : Brain) : Brain :=
  let wait := b.waiting
  let asks := wait.map fun id => match b.job id with | some x => (⟨x.j.k, b.length x⟩ : Ask) | none => ⟨0, 0⟩
  ((planGo b.profile asks).zip wait).foldl (fun b (p : Start × Int) => if p.1.ok && decide (p.1.at_ = 0) then (match b.job p.2 with | some x => load b p.2 x p.1 | none => b) else b) b
def preempt (b : Brain) : Brain :=
  match b.waiting with
  | [] => b
  | w0 :: _ =>
    if (b.ids.any fun id => match b.job id with | some x => x.warned || x.drops.isSome | none => false) then b else
    let cands := (b.ids.filterMap fun id => b.job id).filter (fun x => x.j.state == 2 || x.j.state == 1) |>.map fun x => (⟨x.j.id, x.j.tier⟩ : Cand)
    match b.job w0 with
    | none => b
    | some y => (choose b.m cands y.j.tier y.j.k).foldl (fun b id => match b.job id with
      | none => b
      | some x =>
        let u := later b.now b.c.grace
        x.at_.foldl (fun b n => b.order n { kind := 12, job := id, tick := u }) (b.setJob id { x with warned := true, until_ := u })) b
def ready (b : Brain) (l : List Int) : List Int :=
  l.filter fun id => match b.job id with | some x => x.j.state == 2 && x.drops.isNone && decide (x.work < x.j.w) | none => false
def run (b : Brain) (l : List Int) : Brain :=
  let l := sortI l
  let gen := (b.gen + 1) % 4294967296
  let b := { b with gen, members := l, end_ := later b.now b.c.quantum, stops := some [] }
  l.foldl (fun b id => match b.job id with
    | none => b
    | some x => x.at_.foldl (fun b n => { b with stops := some (addS (b.stops.getD []) n) }.order n { kind := 5, gen, job := id }) (b.setJob id { x with ran := some [] })) b
def startGo (b : Brain) : Nat → Int → Brain
  | 0, _ => b
  | f + 1, row => match b.m.next row with
    | none => b
    | some next => if b.ready (b.m.row next) ≠ [] then run { b with row := next } (b.ready (b.m.row next ++ b.m.fill next)) else startGo b f next
def start (b : Brain) : Brain := startGo b b.c.rows.toNat b.row
def tick (b : Brain) (now : Int) : Int × Brain :=
  if now ≤ b.now then (12, b) else
  let b := { b with now }
  if now ≤ b.hold then (0, b) else
  if b.stops.isSome then (0, if !b.stopped && (decide (now ≥ b.end_) || b.idle) then b.stop else b) else
  let b := each leaveOne b.ids b
  let b := b.place
  let b := b.preempt
  let b := { b with m := repack b.m }
  let b := each save b.ids b
  (0, b.start)
def warnedAt (b : Brain) (id : Int) : Int × Bool := match b.job id with
  | some x => if x.warned then (x.until_, true) else (0, false)
  | none => (0, false)
end Brain
/-! ## the sim of the statements -/
structure Rank where
  place : Int
  run : Bool := false
  gen : Int := 0
  frm : Int := 0
  to : Int := 0
  deriving Repr, DecidableEq
structure Node where
  up : Bool
  ranks : List (Int × Rank) := []
  inn : List Note := []
  out : List Note := []
  wrong : Bool := false
  deriving Repr, DecidableEq
def Node.running (n : Node) : Int := ((n.ranks.find? fun p => p.2.run).map (·.1)).getD 0
def Node.act (n : Node) (x : Note) : Node :=
  let r := lookA n.ranks x.job
  if x.kind = 3 then { n with wrong := n.wrong || r.isSome, ranks := putA n.ranks x.job { place := x.rank }, out := n.out ++ [{ kind := 4, job := x.job }] }
  else if x.kind = 5 then
    let n := { n with wrong := n.wrong || r.isNone || decide (n.running ≠ 0) }
    match r with
    | none => n
    | some r => { n with ranks := putA n.ranks x.job { r with run := true, gen := x.gen, frm := 0, to := 0 } }
  else if x.kind = 6 then
    let job := n.running
    if job ≠ 0 then match lookA n.ranks job with
      | some r => { n with ranks := putA n.ranks job { r with run := false }, out := n.out ++ [{ kind := 7, gen := x.gen, job, frm := r.frm, to := r.to }] }
      | none => n
    else { n with out := n.out ++ [{ kind := 7, gen := x.gen }] }
  else if x.kind = 8 then
    match r with
    | none => { n with wrong := true }
    | some r => { n with wrong := n.wrong || r.run, out := n.out ++ [{ kind := 9, job := x.job, ver := x.ver, rank := r.place, blob := [r.place, x.credit % 256] }] }
  else if x.kind = 10 then { n with ranks := delA n.ranks x.job, out := n.out ++ [{ kind := 11, job := x.job }] }
  else n
def Node.tick (n : Node) (now : Int) : Node :=
  let job := n.running
  if job ≠ 0 then match lookA n.ranks job with
    | some r => { n with ranks := putA n.ranks job { r with to := now, frm := if r.frm = 0 then now else r.frm } }
    | none => n
  else n
structure Sim where
  b : Brain
  c : Config
  nodes : List Node
  now : Int := 0
  next : Int := 1
  ran : List (Int × Int) := []
  jobs : List (Int × ApiJob) := []
  gone : List Int := []
  done : List Int := []
  images : List Image := []
  warned : List (Int × Int) := []
  drops : List Int := []
  warns : List Int := []
  deriving Repr, DecidableEq
namespace Sim
def begin_ (c : Config) : Sim :=
  (List.range c.nodes.toNat).foldl (fun (s : Sim) (i : Nat) => { s with nodes := s.nodes ++ [{ up := true }], b := (s.b.setUp i).2 }) { b := Brain.new c 0, c, nodes := [] }
def setWrong0 (s : Sim) : Sim := { s with nodes := s.nodes.modify 0 fun n => { n with wrong := true } }
def takeOne (s : Sim) (o : Order) : Sim :=
  if o.to < 0 ∨ o.to ≥ s.nodes.length ∨ !((s.nodes[o.to.toNat]?).map (·.up)).getD false then s.setWrong0 else
  let s := { s with nodes := s.nodes.modify o.to.toNat fun n => { n with inn := n.inn ++ [o.note] } }
  let s := if o.note.kind = 10 then { s with drops := s.drops ++ [o.note.job] } else s
  if o.note.kind = 12 then { s with warned := putA s.warned o.note.job o.note.tick, warns := s.warns ++ [o.note.job] } else s
def take (s : Sim) : Sim :=
  let os := s.b.orders
  let s := os.foldl takeOne { s with b := { s.b with orders := [] } }
  let (im, b) := s.b.takeImages
  let s := { s with b, images := s.images ++ im }
  let ds := s.b.done
  ds.foldl (fun s id => let s := if id ∈ s.done then s.setWrong0 else s; { s with done := addS s.done id }) { s with b := { s.b with done := [] } }
def runningMap (s : Sim) : List (Int × Int) := s.nodes.foldl (fun m n => if n.running ≠ 0 then putA m n.running ((lookA m n.running).getD 0 + 1) else m) []
def tick (s : Sim) : Sim :=
  let now := s.now + 1
  let s := { s with now, nodes := s.nodes.map fun (n : Node) => n.tick now }
  let s := s.runningMap.foldl (fun (s : Sim) (p : Int × Int) => if p.2 = ((lookA s.jobs p.1).map (·.k)).getD 0 then { s with ran := putA s.ran p.1 ((lookA s.ran p.1).getD 0 + 1) } else s) s
  let r : Int × Brain := s.b.tick now
  let s : Sim := { s with b := r.2 }
  take (if r.1 ≠ 0 then s.setWrong0 else s)
def deliver (s : Sim) (i : Nat) (back : Bool) : Bool × Sim :=
  match s.nodes[i]? with
  | none => (false, s)
  | some n => if !n.up then (false, s) else
    if back then match n.out with
      | [] => (false, s)
      | x :: r => (true, take { s with nodes := s.nodes.set i { n with out := r }, b := (s.b.hear i x).2 })
    else match n.inn with
      | [] => (false, s)
      | x :: r => (true, { s with nodes := s.nodes.set i ({ n with inn := r }.act x) })
def publish (s : Sim) (ok : Bool) : Bool × Sim := match s.images with
  | [] => (false, s)
  | x :: r => (true, take { s with images := r, b := (s.b.published x.job x.ver ok).2 })
def calmRound (s : Sim) : Bool × Sim :=
  (List.range s.nodes.length).foldl (fun (st : Bool × Sim) i =>
    let a := st.2.deliver i false
    let b := a.2.deliver i true
    (b.1 || (a.1 || st.1), b.2)) (s.publish true)
def calmGo : Nat → Sim → Sim
  | 0, s => s
  | f + 1, s => let r := s.calmRound; if r.1 then calmGo f r.2 else r.2
def calm (s : Sim) : Sim := calmGo 3000 s.tick
def calms : Nat → Sim → Sim
  | 0, s => s
  | n + 1, s => calms n s.calm
def awakeStart : Sim :=
  let s := begin_ ⟨2, 1, 5, 3⟩
  let j : ApiJob := { id := 1, k := 2, w := 3 }
  { s with jobs := [(1, j)], b := (s.b.add j 0).2 }
def awake : Bool :=
  let s := calms 200 awakeStart
  decide (1 ∈ s.done) && decide ((lookA s.ran 1).getD 0 ≥ 3) && decide (s.b.jobs = [])
end Sim
end Qd
namespace Qd
structure Mx.Ok (m : Mx) : Prop where
  rows : 1 ≤ m.rows ∧ m.rows ≤ 8
  nodes : 1 ≤ m.nodes ∧ m.nodes ≤ 16
  up : m.up < 65536
  tlen : m.taken.length = m.rows.toNat
  tlt : ∀ t ∈ m.taken, t < 65536
  keys : (m.jobs.map (·.1)).Nodup
  job : ∀ p ∈ m.jobs, 0 < p.1 ∧ p.1 < 4294967296 ∧ 0 ≤ p.2.row ∧ p.2.row < m.rows ∧ 0 < p.2.nodes ∧ p.2.nodes < 65536
  tk : ∀ r i, r < m.rows.toNat → ((m.taken.getD r 0).testBit i = true ↔ ∃ p ∈ m.jobs, p.2.row = (r : Int) ∧ p.2.nodes.testBit i = true)
  apart : ∀ p ∈ m.jobs, ∀ q ∈ m.jobs, p.1 ≠ q.1 → p.2.row = q.2.row → p.2.nodes &&& q.2.nodes = 0
theorem lookA_mem {α : Type} {m : List (Int × α)} {k : Int} {v : α} (h : lookA m k = some v) : (k, v) ∈ m := by
  induction m with
  | nil => cases h
  | cons p m ih =>
    obtain ⟨a, u⟩ := p
    simp only [lookA] at h
    split at h
    · rename_i e; cases h; subst e; exact .head _
    · exact .tail _ (ih h)
/-- how many bits: by bytes -/
def pop8 (b : Nat) : Nat := ((List.range 8).filter fun i => b.testBit i).length
theorem hasB_shift (s : Nat) (n : Nat) : (s >>> n &&& 1 == 1) = s.testBit n := by
  simp [Nat.testBit, Nat.and_comm, Nat.and_one_is_mod]
theorem hasB_int (s : Nat) (n : Int) : (((s >>> n.toNat &&& 1 : Nat) : Int) == 1) = hasB s n := by
  rw [hasB, ← hasB_shift]
  generalize s >>> n.toNat &&& 1 = a
  have : ((a : Int) == 1) = (a == 1) := by
    rw [Bool.eq_iff_iff]; simp; omega
  exact this
theorem Mx.isNode_lt {m : Mx} (h : m.Ok) {n : Int} (hn : m.isNode n = true) : 0 ≤ n ∧ n < m.nodes ∧ n < 16 := by
  simp [Mx.isNode] at hn
  have := h.nodes
  omega
theorem Mx.isRow_lt {m : Mx} (h : m.Ok) {n : Int} (hn : m.isRow n = true) : 0 ≤ n ∧ n < m.rows ∧ n.toNat < m.taken.length := by
  simp [Mx.isRow] at hn
  have := h.rows
  have := h.tlen
  omega
theorem bit_lt {n : Int} (h : n < 16) : bit n < 65536 := by
  unfold bit
  rw [Nat.one_shiftLeft]
  exact Nat.pow_lt_pow_right (m := n.toNat) (n := 16) (by omega) (by omega)
theorem or_lt16 {a b : Nat} (ha : a < 65536) (hb : b < 65536) : a ||| b < 65536 := Nat.or_lt_two_pow (n := 16) ha hb
theorem diff_lt16 {a b : Nat} (ha : a < 65536) : diff a b < 65536 := Nat.lt_of_le_of_lt Nat.and_le_left ha
theorem Mx.taken_lt {m : Mx} (h : m.Ok) (r : Nat) : m.taken.getD r 0 < 65536 := by
  rw [List.getD_eq_getElem?_getD]
  cases hr : m.taken[r]? with
  | none => decide
  | some t => exact h.tlt t (List.mem_of_getElem? hr)
end Qd
namespace Qd
/-- the bit below which there is none -/
def Low (x k : Nat) : Prop := x.testBit k = true ∧ ∀ i, i < k → x.testBit i = false
theorem Low.eq {x k : Nat} (h : Low x k) : ∃ m, x = 2 ^ k * (2 * m + 1) := by
  have h0 : x % 2 ^ k = 0 := by
    apply Nat.eq_of_testBit_eq
    intro i
    rw [Nat.testBit_mod_two_pow]
    by_cases hi : i < k
    · simp [h.2 i hi]
    · simp [hi]
  have h1 : (x / 2 ^ k) % 2 = 1 := by
    have := h.1
    rw [Nat.testBit, Nat.shiftRight_eq_div_pow] at this
    simpa [Nat.and_comm, Nat.and_one_is_mod] using this
  refine ⟨x / 2 ^ k / 2, ?_⟩
  have h2 := Nat.div_add_mod x (2 ^ k)
  have h3 := Nat.div_add_mod (x / 2 ^ k) 2
  rw [h1] at h3
  rw [h3]
  omega
theorem Low.pred {x k : Nat} (h : Low x k) (i : Nat) : (x - 1).testBit i = if i < k then true else if i = k then false else x.testBit i := by
  obtain ⟨m, rfl⟩ := h.eq
  have hp : 0 < 2 ^ k := Nat.two_pow_pos k
  have e : 2 ^ k * (2 * m + 1) - 1 = 2 ^ k * (2 * m) + (2 ^ k - 1) := by
    rw [Nat.mul_add, Nat.mul_one]; omega
  rw [e, Nat.testBit_two_pow_mul_add _ (by omega)]
  by_cases hi : i < k
  · simp [hi, Nat.testBit_two_pow_sub_one]
  · simp only [hi, if_false]
    by_cases hk : i = k
    · subst hk; simp
    · simp only [hk, if_false]
      have e2 : 2 ^ k * (2 * m + 1) = 2 ^ k * (2 * m + 1) + 0 := rfl
      rw [e2, Nat.testBit_two_pow_mul_add _ hp]
      simp only [hi, if_false]
      obtain ⟨j, hj⟩ : ∃ j, i - k = j + 1 := ⟨i - k - 1, by omega⟩
      rw [hj, Nat.testBit_succ, Nat.testBit_succ]
      congr 1
      omega
theorem Low.rest {x k : Nat} (h : Low x k) (i : Nat) : (x &&& (x - 1)).testBit i = (x.testBit i && decide (k < i)) := by
  rw [Nat.testBit_and, h.pred]
  by_cases hi : i < k
  · simp [hi, h.2 i hi]
  · by_cases hk : i = k
    · subst hk; simp
    · simp only [hi, hk, if_false]
      have : k < i := by omega
      simp [this]
theorem Low.low {x k : Nat} (h : Low x k) (hx : x < 65536) : x &&& (65536 - x) = 2 ^ k := by
  have h1 : 0 < x := by
    rcases Nat.eq_zero_or_pos x with rfl | h'
    · have := h.1; simp at this
    · exact h'
  apply Nat.eq_of_testBit_eq
  intro i
  have e : 65536 - x = 2 ^ 16 - ((x - 1) + 1) := by omega
  rw [Nat.testBit_and, e, Nat.testBit_two_pow_sub_succ (by omega), h.pred, Nat.testBit_two_pow]
  by_cases hi : i < k
  · simp [hi, h.2 i hi]; omega
  · by_cases hk : i = k
    · subst hk
      have : i < 16 := by
        rcases Nat.lt_or_ge i 16 with h' | h'
        · exact h'
        · have := Nat.testBit_lt_two_pow (x := x) (i := i) (Nat.lt_of_lt_of_le hx (show 65536 ≤ 2 ^ i from Nat.pow_le_pow_right (n := 2) (i := 16) (by decide) h'))
          rw [h.1] at this; cases this
      simp [h.1, this]
    · have : ¬ k = i := fun e => hk e.symm
      simp only [hi, hk, if_false, this, decide_false]
      cases x.testBit i <;> simp
theorem filter_low {p : Nat → Bool} {k : Nat} {l' : List Nat} : ∀ {l : List Nat}, l.Pairwise (· < ·) → l.filter p = k :: l' → (p k = true ∧ k ∈ l ∧ (∀ i ∈ l, i < k → p i = false)) ∧ l' = l.filter fun i => p i && decide (k < i)
  | [], _, h => by simp at h
  | a :: l, hp, h => by
    rw [List.pairwise_cons] at hp
    by_cases ha : p a = true
    · rw [List.filter_cons_of_pos ha] at h
      simp only [List.cons.injEq] at h
      obtain ⟨rfl, rfl⟩ := h
      refine ⟨⟨ha, by simp, ?_⟩, ?_⟩
      · intro i hi hlt
        rcases List.mem_cons.1 hi with rfl | hi
        · exact absurd hlt (Nat.lt_irrefl _)
        · exact absurd (hp.1 i hi) (by omega)
      · rw [List.filter_cons_of_neg (by simp)]
        exact List.filter_congr fun i hi => by simp [hp.1 i hi]
    · rw [List.filter_cons_of_neg ha] at h
      obtain ⟨⟨h1, h2, h3⟩, h4⟩ := filter_low hp.2 h
      refine ⟨⟨h1, .tail _ h2, ?_⟩, ?_⟩
      · intro i hi hlt
        rcases List.mem_cons.1 hi with rfl | hi
        · simpa using ha
        · exact h3 i hi hlt
      · rw [List.filter_cons_of_neg (by simp [ha]), h4]
theorem bit_lt16 {s i : Nat} (hs : s < 65536) (h : s.testBit i = true) : i < 16 := by
  rcases Nat.lt_or_ge i 16 with h' | h'
  · exact h'
  · have := Nat.testBit_lt_two_pow (x := s) (i := i) (Nat.lt_of_lt_of_le hs (show 65536 ≤ 2 ^ i from Nat.pow_le_pow_right (n := 2) (i := 16) (by decide) h'))
    rw [h] at this; cases this
theorem bitsOf_pos {s : Nat} (hs : s < 65536) (h0 : s ≠ 0) : ∃ k, bitsOf s = k :: bitsOf (s &&& (s - 1)) ∧ Low s k ∧ k < 16 ∧ tz s = k := by
  cases hb : bitsOf s with
  | nil =>
    exfalso
    apply h0
    apply Nat.eq_of_testBit_eq
    intro i
    rw [Nat.zero_testBit]
    cases ht : s.testBit i with
    | false => rfl
    | true =>
      have := bit_lt16 hs ht
      have hm : i ∈ bitsOf s := by simp [bitsOf, ht, this]
      rw [hb] at hm; cases hm
  | cons k l' =>
    have := filter_low (p := fun n => s.testBit n) (List.pairwise_lt_range (n := 16)) (by simpa [bitsOf] using hb)
    obtain ⟨⟨h1, h2, h3⟩, h4⟩ := this
    have hk : k < 16 := by simpa using h2
    have hl : Low s k := ⟨h1, fun i hi => h3 i (by simp; omega) hi⟩
    refine ⟨k, ?_, hl, hk, by simp [tz, hb]⟩
    rw [h4]
    congr 1
    exact List.filter_congr fun i _ => (hl.rest i).symm
theorem tz_zero : tz 0 = 16 := by decide
end Qd
