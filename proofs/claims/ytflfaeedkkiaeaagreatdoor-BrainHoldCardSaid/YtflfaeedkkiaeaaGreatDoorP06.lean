/- A part of the proof of the given statement BrainHold: the layer over the kit in which the walks are written, and contracts of the program's functions (a Go function answers as its plain model does). -/
import Derived.Test.YtflfaeedkkiaeaaGreatDoorP05
namespace Go.SL
open Go
/-- a slice's value: its own, or one behind the end of what was, of no room -/
inductive SlV (s : Sl) (v : Value) : Prop
  | live (h : v = s.val)
  | dead (b off : Nat) (hs : s = Sl.nilS) (h : v = .slice (some ⟨b, off, none⟩) 0 0)
theorem SlV.shape {s : Sl} {v : Value} (h : SlV s v) : ∃ p c, v = .slice p s.len c := by
  cases h with
  | live h => exact ⟨_, _, h⟩
  | dead b off hs h => subst hs; exact ⟨_, _, h⟩
theorem SlV.one {s : Sl} {v : Value} (h : SlV s v) : oneC v = true := by
  obtain ⟨p, c, rfl⟩ := h.shape; rfl
/-- s[1:] -/
def tailV (s : Sl) (sz : Nat) : Value := match s.a with
  | none => s.val
  | some (b, off) => if s.cap = 1 then .slice (some ⟨b, off, none⟩) 0 0 else .slice (some ⟨b, off + sz, none⟩) (s.len - 1) (s.cap - 1)
def tailS (s : Sl) (sz : Nat) : Sl := match s.a with
  | none => s
  | some (b, off) => if s.cap = 1 then Sl.nilS else ⟨some (b, off + sz), s.len - 1, s.cap - 1⟩
theorem tail_V (s : Sl) (sz : Nat) : SlV (tailS s sz) (tailV s sz) := by
  unfold tailS tailV
  cases s.a with
  | none => exact .live rfl
  | some p =>
    obtain ⟨b, off⟩ := p
    dsimp only
    split
    · exact .dead b off rfl rfl
    · exact .live rfl
section
variable {P : Program} {n : Nat} {L : Env} {K : KB}
theorem tail_ok {s : Sl} {us vs : List Value} {sz : Nat} (hok : s.Ok (us ++ vs) sz) (hu : us.length = sz) (hz : 0 < sz) : (tailS s sz).Ok vs sz ∧ (tailS s sz).len + 1 = s.len := by
  have h1 := hok.vlen
  have h2 := hok.cap
  rw [List.length_append, hu] at h1
  have hl : s.len ≠ 0 := by intro h; rw [h] at h1; simp at h1; omega
  obtain ⟨k, hk⟩ := Nat.exists_eq_succ_of_ne_zero hl
  rw [hk, Nat.succ_mul] at h1
  unfold tailS
  cases ha : s.a with
  | none => exact absurd (hok.nil ha) (by omega)
  | some p =>
    obtain ⟨b, off⟩ := p
    dsimp only
    split
    · rename_i hc
      have hk0 : k = 0 := by omega
      subst hk0
      have : vs = [] := List.eq_nil_of_length_eq_zero (by rw [Nat.zero_mul] at h1; omega)
      subst this
      exact ⟨Sl.nil_ok sz, by simp [Sl.nilS]; omega⟩
    · exact ⟨⟨by dsimp only; rw [hk, Nat.succ_sub_one]; omega, by dsimp only; omega, fun h => by cases h⟩, by dsimp only; omega⟩
theorem e_tail [Bs] {d : Option Nat} {x lo : Operand} {T e : TypeId} {sz : Nat} {s : Sl} {us vs : List Value} {kl : IntKind} {R : KB} {ty pos aft gd} (hT : P.underlying T = some (.slice e)) (hs : sizeB P e = some sz)
    (hx : ev L x = some s.val) (hlo : ev L lo = some (.int kl 1)) (hok : s.Ok (us ++ vs) sz) (hu : us.length = sz) (hz : 0 < sz) (hK : K.Perm (s.kb (us ++ vs) sz e ++ R)) :
    ERun (β := Unit) P n ⟨d, .slice T x (some lo) none none, ty, pos, aft, gd⟩ L K (fun _ => tailV s sz) (fun _ => (tailS s sz).kb vs sz e ++ R) := by
  have h1 := hok.vlen
  have h2 := hok.cap
  rw [List.length_append, hu] at h1
  have hl : s.len ≠ 0 := by intro h; rw [h] at h1; simp at h1; omega
  cases ha : s.a with
  | none => exact absurd (hok.nil ha) (by omega)
  | some p =>
    obtain ⟨b, off⟩ := p
    have hq := q_slice (P := P) (n := n) (L := L) (K := K) (d := d) (x := x) (lo := some lo) (hi := none) (kl := kl) (kh := kl) (p := 1) (q := s.len) (b := b) (off := off) (l := s.len) (c := s.cap) (r := tailV s sz) (ty := ty) (pos := pos) (aft := aft) (gd := gd) hT hs
      (by rw [hx]; simp [Sl.val, ha]) (.inr ⟨lo, rfl, hlo⟩) (.inl ⟨rfl, rfl⟩) (by omega) h2 (by
        unfold tailV; rw [ha]; dsimp only
        split
        · rename_i hc; rw [hc]; simp; omega
        · simp)
    intro a w hha hk
    have hk2 := hk.perm hK
    refine .inl ⟨(), w, .inl (hq a w hha hk.toKn0), ?_⟩
    simp only [Sl.kb, ha] at hk2
    unfold tailS
    rw [ha]
    dsimp only
    split
    · exact hk2.right
    · rename_i hc
      refine hk2.mono (φ := Row off (us ++ vs) (s.cap * sz) e) .here ?_
      rintro o ⟨pre, post, rfl, q1, q2⟩
      refine ⟨pre ++ us, post, by simp, by simp [q1, hu], ?_⟩
      rw [List.length_append, hu] at q2
      obtain ⟨c, hcc⟩ := Nat.exists_eq_succ_of_ne_zero (show s.cap ≠ 0 by omega)
      rw [hcc, Nat.succ_mul] at q2
      rw [hcc, Nat.succ_sub_one]
      dsimp only
      omega
theorem e_app1V [Bs] {d : Option Nat} {x y : Operand} {T e : TypeId} {z : Value} {s : Sl} {vx : Value} {vs us : List Value} {sz c' bx by_ : Nat} {U : TypeId} {R R' : KB} {ats : Array TypeId} {ty pos aft gd} (hT : P.underlying T = some (.slice e)) (hi : infoB P e = some (some z, sz, by_))
    (hzs : z.cells.size = sz) (hat : ats = #[T, T]) (hx : ev L x = some vx) (hv : SlV s vx) (hy : ev L y = some (.slice (some ⟨bx, 0, none⟩) 1 c')) (hp : Pick K bx (Cells us U) R') (hK : R'.Perm (s.kb vs sz e ++ R))
    (hok : s.Ok vs sz) (hb : (s.len + 1) * by_ ≤ 140737488355328) (h63 : s.len + 1 ≤ 140737488355328) (hl : us.length = 1 * sz) (h1 : us.all oneC = true) {vs' : List Value} (hvs : vs ++ us = vs') :
    ERun (β := { s' : Sl // s'.len = s.len + 1 ∧ s'.Ok vs' sz }) P n ⟨d, .call ⟨.builtin .append, #[x, y], ats⟩, ty, pos, aft, gd⟩ L K (fun s' => s'.1.val) (fun s' => s'.1.kb vs' sz e ++ R) := by
  cases hv with
  | live h => subst h; exact e_app1 hT hi hzs hat hx hy hp hK hok hb h63 hl h1 hvs
  | dead b off hs h =>
    subst hs
    subst h
    subst hat
    subst hvs
    obtain ⟨i, h2, h3⟩ := Option.map_eq_some_iff.1 hi
    simp only [Prod.mk.injEq] at h3
    obtain ⟨h4, h5, h6⟩ := h3
    subst h6
    intro a w ha hkn
    have hk2 := hkn.perm (hp.perm.trans (hK.cons _))
    have hk3 : Knows w (Sl.nilS.kb vs sz e ++ ((bx, Cells us U) :: R)) := hk2
    have hrow : ∀ w' : World, w'.heap = w.heap → (Builtin.firstCells sz 1 (.slice (some ⟨bx, 0, none⟩) 1 c')).run P w' = .ok us.toArray w' := by
      intro w' hw'
      refine firstCells_row (cap := c') (c := us.length) (T := U) ?_ hl
      rw [hw']
      obtain ⟨o, ho, hc⟩ := hk2.has (bx, Cells us U) (.head _)
      exact ⟨o, ho, hc.row⟩
    obtain ⟨s', w', hr, q2, q3, q4⟩ := run_append (P := P) (cx := ty) (us := us) (m := 1) (s := Sl.nilS) (vs := vs) (R := (bx, Cells us U) :: R) (x := .slice (some ⟨bx, 0, none⟩) 1 c') hT h2 h4 h5 hzs hok hl h1 hb h63 hrow (fun w' => by simp [Builtin.lenOf]) hk3
    refine .inl ⟨⟨s', q2, q3⟩, w', .inl ?_, ?_⟩
    · have heq : (Builtin.append_ #[T, T] ty #[.slice (some ⟨b, off, none⟩) 0 0, .slice (some ⟨bx, 0, none⟩) 1 c']).run P w = (Builtin.append_ #[T, T] ty #[.slice none 0 0, .slice (some ⟨bx, 0, none⟩) 1 c']).run P w := by
        have hint : ¬ ∃ k, P.underlying T = some (.int k) := by rw [hT]; rintro ⟨k, h⟩; cases h
        have hfit : ¬ (281474976710656 < Builtin.nextslicecap 1 0 * i.bytes) := by
          have := growslice_fits (need := 1) (old := 0) (by omega) (by simpa [Sl.nilS] using hb); omega
        subst h5
        simp [Builtin.append_, run_underlying hT, sizeOf, run_typeInfo _ h2, Builtin.lenOf, hfit, Builtin.firstCells, loadCells, loadCellsFrom]
      have hr2 : (Builtin.append_ #[T, T] ty #[.slice none 0 0, .slice (some ⟨bx, 0, none⟩) 1 c']).run P w = .ok s'.val w' := hr
      simp [execOp, resolve, invoke, builtin, ev_eval ha hx, ev_eval ha hy, heq, hr2]
    · exact q4.sublist ((List.Sublist.refl _).append (List.sublist_cons_self _ _))
/-- append(v, q...), v perhaps behind the end of what was -/
theorem e_appSlV [Bs] {d : Option Nat} {x y : Operand} {T e : TypeId} {z : Value} {s q : Sl} {vx : Value} {vs us : List Value} {sz by_ : Nat} {U : TypeId} {R : KB} {ats : Array TypeId} {ty pos aft gd} (hT : P.underlying T = some (.slice e)) (hi : infoB P e = some (some z, sz, by_))
    (hzs : z.cells.size = sz) (hat : ats = #[T, T]) (hx : ev L x = some vx) (hv : SlV s vx) (hy : ev L y = some q.val) (hok : s.Ok vs sz) (hq : q.Ok us sz) (hK : K.Perm (s.kb vs sz e ++ (q.kb us sz U ++ R)))
    (hb : (s.len + q.len) * by_ ≤ 140737488355328) (h63 : s.len + q.len ≤ 140737488355328) (h1 : us.all oneC = true) {vs' : List Value} (hvs : vs ++ us = vs') :
    ERun (β := { p : Sl × Value // SlV p.1 p.2 ∧ p.1.len = s.len + q.len ∧ p.1.Ok vs' sz }) P n ⟨d, .call ⟨.builtin .append, #[x, y], ats⟩, ty, pos, aft, gd⟩ L K (fun p => p.1.2) (fun p => p.1.1.kb vs' sz e ++ (q.kb us sz U ++ R)) := by
  cases hv with
  | live h =>
    subst h
    intro a w ha hkn
    rcases e_appSl (P := P) (n := n) (d := d) (ty := ty) (pos := pos) (aft := aft) (gd := gd) hT hi hzs hat hx hy hok hq hK hb h63 h1 hvs a w ha hkn with ⟨⟨s', h2, h3⟩, w', h4, h5⟩ | h
    · exact .inl ⟨⟨(s', s'.val), .live rfl, h2, h3⟩, w', h4, h5⟩
    · exact .inr h
  | dead b off hs h =>
    subst hs
    have hx' := hx
    subst h
    subst hvs
    have hv0 : vs = [] := List.eq_nil_of_length_eq_zero (by have := hok.vlen; simpa [Sl.nilS] using this)
    subst hv0
    obtain ⟨i, h2, h3⟩ := Option.map_eq_some_iff.1 hi
    simp only [Prod.mk.injEq] at h3
    obtain ⟨h4, h5, h6⟩ := h3
    subst h6
    subst hat
    intro a w ha hkn
    have hint : ¬ ∃ k, P.underlying T = some (.int k) := by rw [hT]; rintro ⟨k, h⟩; cases h
    by_cases hq0 : q.len = 0
    · have hu : us = [] := List.eq_nil_of_length_eq_zero (by rw [hq.vlen, hq0]; simp)
      subst hu
      refine .inl ⟨⟨(Sl.nilS, .slice (some ⟨b, off, none⟩) 0 0), .dead b off rfl rfl, by rw [hq0]; rfl, Sl.nil_ok sz⟩, w, .inl ?_, hkn.perm hK⟩
      subst h5
      have hfc : (Builtin.firstCells i.size 0 q.val).run P w = .ok #[] w := by
        obtain ⟨qa, ql, qc⟩ := q
        cases qa with
        | none => simp [Sl.val, Builtin.firstCells]
        | some p => simp [Sl.val, Builtin.firstCells, loadCells, loadCellsFrom]
      have heq : (Builtin.append_ #[T, T] ty #[.slice (some ⟨b, off, none⟩) 0 0, q.val]).run P w = .ok (.slice (some ⟨b, off, none⟩) 0 0) w := by
        have hl : (Builtin.lenOf q.val).run P w = .ok q.len w := by simp [Sl.val, Builtin.lenOf]
        rw [hq0] at hl
        simp [Builtin.append_, run_underlying hT, sizeOf, run_typeInfo _ h2, hl, hfc, storeCells]
      simp [execOp, resolve, invoke, builtin, ev_eval ha hx, ev_eval ha hy, heq]
    · have hnil : ev (puts L none (.slice none 0 0)) x = ev L x := rfl
      have hl := hq.vlen
      have hk := hkn.perm hK
      have hrow : ∀ w' : World, w'.heap = w.heap → (Builtin.firstCells sz q.len q.val).run P w' = .ok us.toArray w' := by
        intro w' hw'
        obtain ⟨qa, ql, qc⟩ := q
        cases qa with
        | none => exact absurd (by have := hq.nil rfl; have := hq.cap; dsimp only at *; omega) hq0
        | some p =>
          obtain ⟨bx, ox⟩ := p
          exact firstCells_row (cap := qc) (c := qc * sz) (T := U) (by rw [hw']; exact hk.right.has (bx, Row ox us (qc * sz) U) (.head _)) hl
      obtain ⟨s', w', hr, q2, q3, q4⟩ := run_append (P := P) (cx := ty) (us := us) (m := q.len) (s := Sl.nilS) (vs := []) (R := q.kb us sz U ++ R) (x := q.val) hT h2 h4 h5 hzs hok hl h1 hb h63 hrow (fun w' => by simp [Sl.val, Builtin.lenOf]) hk
      refine .inl ⟨⟨(s', s'.val), .live rfl, q2, q3⟩, w', .inl ?_, q4⟩
      have heq : (Builtin.append_ #[T, T] ty #[.slice (some ⟨b, off, none⟩) 0 0, q.val]).run P w = (Builtin.append_ #[T, T] ty #[.slice none 0 0, q.val]).run P w := by
        have hl2 : ∀ w' : World, (Builtin.lenOf q.val).run P w' = .ok q.len w' := fun w' => by simp [Sl.val, Builtin.lenOf]
        have hfit : ¬ (281474976710656 < Builtin.nextslicecap q.len 0 * i.bytes) := by
          have := growslice_fits (need := q.len) (old := 0) (by omega) (by simpa [Sl.nilS] using hb); omega
        have h63' : ¬ (9223372036854775807 < (q.len : Int)) := by have : Sl.nilS.len = 0 := rfl; omega
        subst h5
        simp [Builtin.append_, run_underlying hT, sizeOf, run_typeInfo _ h2, hl2, hq0, h63', hfit, Builtin.firstCells, loadCells, loadCellsFrom]
      have hr2 : (Builtin.append_ #[T, T] ty #[.slice none 0 0, q.val]).run P w = .ok s'.val w' := hr
      simp [execOp, resolve, invoke, builtin, ev_eval ha hx, ev_eval ha hy, heq, hr2]
end
end Go.SL
namespace Go.SL
open Go Go.Proofs
set_option maxRecDepth 10000
/-! ## the nodes of the statements -/
structure RankA where
  r : Qd.Rank
  blk : Nat
def RankA.cells (a : RankA) : List Value := [.int .u8 a.r.place, .bool a.r.run, .int .u32 a.r.gen, .int .u32 a.r.frm, .int .u32 a.r.to]
def RankA.ptr (a : RankA) : Value := .pointer (some ⟨a.blk, 0, none⟩)
def RankA.kb (a : RankA) : KB := [(a.blk, Cells a.cells 111)]
def outV (p : Qd.Note × Sl) : List Value := noteV p.1 p.2.val
theorem outV_len (p : Qd.Note × Sl) : (outV p).length = 13 := rfl
def outKb (xs : List (Qd.Note × Sl)) : KB := rowsKb (xs.map fun p => (p.2, encB p.1.blob)) 1 5
theorem outKb_snoc (xs : List (Qd.Note × Sl)) (p : Qd.Note × Sl) : outKb (xs ++ [p]) = outKb xs ++ p.2.kb (encB p.1.blob) 1 5 := by simp [outKb, rowsKb_app, rowsKb_cons]; rfl
theorem outKb_cons (xs : List (Qd.Note × Sl)) (p : Qd.Note × Sl) : outKb (p :: xs) = p.2.kb (encB p.1.blob) 1 5 ++ outKb xs := by simp [outKb, rowsKb_cons]
structure NodeA where
  up : Bool
  ranks : List (Int × RankA)
  inn : List Qd.Note
  outs : List (Qd.Note × Sl)
  wrong : Bool
  blk : Nat
  rb : Nat
  isl : Sl
  iv : Value
  osl : Sl
  ov : Value
def NodeA.mr (x : NodeA) : List (Int × Qd.Rank) := x.ranks.map fun p => (p.1, p.2.r)
def NodeA.n (x : NodeA) : Qd.Node := { up := x.up, ranks := x.mr, inn := x.inn, out := x.outs.map (·.1), wrong := x.wrong }
def NodeA.cells (x : NodeA) : List Value := [.bool x.up, .map (some x.rb), x.iv, x.ov, .bool x.wrong]
def NodeA.ptr (x : NodeA) : Value := .pointer (some ⟨x.blk, 0, none⟩)
def NodeA.kb (x : NodeA) : KB := (x.blk, Cells x.cells 107) :: (x.rb, MapI .u32 (mapV RankA.ptr x.ranks)) :: (x.isl.kb (flat noteO x.inn) 13 72 ++ (x.osl.kb (flat outV x.outs) 13 72 ++ (outKb x.outs ++ mapKb RankA.kb x.ranks)))
theorem NodeA.kb_eq (x : NodeA) : x.kb = (x.blk, Cells x.cells 107) :: (x.rb, MapI .u32 (mapV RankA.ptr x.ranks)) :: (x.isl.kb (flat noteO x.inn) 13 72 ++ (x.osl.kb (flat outV x.outs) 13 72 ++ (outKb x.outs ++ mapKb RankA.kb x.ranks))) := rfl
structure NodeA.Ok (x : NodeA) : Prop where
  keys : (x.ranks.map (·.1)).Nodup
  isl : x.isl.Ok (flat noteO x.inn) 13
  iv : SlV x.isl x.iv
  osl : x.osl.Ok (flat outV x.outs) 13
  ov : SlV x.osl x.ov
  outs : ∀ p ∈ x.outs, p.2.Ok (encB p.1.blob) 1
def rptrV (m : List (Int × RankA)) (k : Int) : Value := match Qd.lookA m k with
  | some a => a.ptr
  | none => .pointer none
theorem look_rptr (m : List (Int × RankA)) (k : Int) : (lookI (mapV RankA.ptr m) k).getD (.pointer none) = rptrV m k := by
  rw [lookI_mapV]; unfold rptrV; cases Qd.lookA m k <;> rfl
theorem rptrV_some {m : List (Int × RankA)} {k : Int} {a : RankA} (h : Qd.lookA m k = some a) : rptrV m k = a.ptr := by simp [rptrV, h]
theorem rptrV_eq {m : List (Int × RankA)} {k : Int} : rptrV m k = .pointer ((Qd.lookA m k).map fun j => ⟨j.blk, 0, none⟩) := by
  unfold rptrV; cases Qd.lookA m k <;> rfl
theorem NodeA.look (x : NodeA) (k : Int) : Qd.lookA x.n.ranks k = (Qd.lookA x.ranks k).map (·.r) := Qd.lookA_map (fun a : RankA => a.r) x.ranks k
/-- at most one runs -/
def oneRun (n : Qd.Node) : Bool := n.ranks.all fun p => !p.2.run || n.running == p.1
theorem one_run {x : NodeA} (h : oneRun x.n = true) {k : Int} {a : RankA} (hm : (k, a) ∈ x.ranks) (hr : a.r.run = true) : x.n.running = k := by
  have := List.all_eq_true.1 h (k, a.r) (List.mem_map.2 ⟨(k, a), hm, rfl⟩)
  simp only [hr, Bool.not_true, Bool.false_or, beq_iff_eq] at this
  exact this
theorem no_run {x : NodeA} (h : ∀ k a, (k, a) ∈ x.ranks → a.r.run = false) : x.n.running = 0 := by
  unfold Qd.Node.running
  have : x.n.ranks.find? (fun p => p.2.run) = none := by
    rw [List.find?_eq_none]
    intro p hp
    obtain ⟨⟨k, a⟩, hm, rfl⟩ := List.mem_map.1 hp
    simp [h k a hm]
  rw [this]; rfl
theorem run_look {x : NodeA} (hx : x.Ok) (h : x.n.running ≠ 0) : ∃ a, Qd.lookA x.ranks x.n.running = some a := by
  unfold Qd.Node.running at h ⊢
  cases hf : x.n.ranks.find? (fun p => p.2.run) with
  | none => rw [hf] at h; exact absurd rfl h
  | some p =>
    have hm := List.mem_of_find?_eq_some hf
    obtain ⟨⟨k, a⟩, hm2, rfl⟩ := List.mem_map.1 hm
    exact ⟨a, Qd.lookA_of_mem hx.keys hm2⟩
/-- another rank in a rank's place -/
def NodeA.set (x : NodeA) (k : Int) (a : RankA) : NodeA := { x with ranks := Qd.putA x.ranks k a }
theorem NodeA.Ok.set {x : NodeA} (hx : x.Ok) {k : Int} {a a' : RankA} (h : Qd.lookA x.ranks k = some a) : (x.set k a').Ok := { hx with keys := by simp only [NodeA.set]; rw [Qd.keys_put h]; exact hx.keys }
theorem NodeA.set_n {x : NodeA} {k : Int} {a : RankA} : (x.set k a).n = { x.n with ranks := Qd.putA x.n.ranks k a.r } := by
  simp only [NodeA.n, NodeA.set, NodeA.mr]; rw [Qd.putA_map (fun a : RankA => a.r)]
theorem rank_pm {m : List (Int × RankA)} {k : Int} {a a' : RankA} (h : Qd.lookA m k = some a) (hb : a'.blk = a.blk) : mapV RankA.ptr (Qd.putA m k a') = mapV RankA.ptr m := by
  have := Qd.putA_same RankA.ptr h (v' := a') (by simp [RankA.ptr, hb])
  simpa [mapV] using this
def NodeA.opn (x : NodeA) (_job : Int) (a : RankA) (pm : List (Int × Value)) (js : KB) : KB := (x.blk, Cells x.cells 107) :: (x.rb, MapI .u32 pm) :: (a.blk, Cells a.cells 111) :: (x.isl.kb (flat noteO x.inn) 13 72 ++ (x.osl.kb (flat outV x.outs) 13 72 ++ (outKb x.outs ++ js)))
theorem NodeA.opn_eq (x : NodeA) (job : Int) (a : RankA) (pm : List (Int × Value)) (js : KB) : x.opn job a pm js = (x.blk, Cells x.cells 107) :: (x.rb, MapI .u32 pm) :: (a.blk, Cells a.cells 111) :: (x.isl.kb (flat noteO x.inn) 13 72 ++ (x.osl.kb (flat outV x.outs) 13 72 ++ (outKb x.outs ++ js))) := rfl
theorem NodeA.open_ {x : NodeA} {job : Int} {a : RankA} (h : Qd.lookA x.ranks job = some a) : x.kb.Perm (x.opn job a (mapV RankA.ptr x.ranks) (mapKb RankA.kb (Qd.delA x.ranks job))) := by
  have h1 : (mapKb RankA.kb x.ranks).Perm ((a.blk, Cells a.cells 111) :: mapKb RankA.kb (Qd.delA x.ranks job)) := mapKb_at RankA.kb h
  rw [NodeA.kb_eq, NodeA.opn_eq]
  refine List.Perm.trans ((((h1.append_left _).append_left _).append_left _).cons _ |>.cons _) ?_
  exact aQ
theorem NodeA.close_ {x : NodeA} {job : Int} {a a' : RankA} (h : Qd.lookA x.ranks job = some a) (hb : a'.blk = a.blk) : (x.opn job a' (mapV RankA.ptr x.ranks) (mapKb RankA.kb (Qd.delA x.ranks job))).Perm (x.set job a').kb := by
  have h2 : Qd.lookA (x.set job a').ranks job = some a' := by simp [NodeA.set, Qd.lookA_put]
  have := (NodeA.open_ h2).symm
  rw [show mapV RankA.ptr (x.set job a').ranks = mapV RankA.ptr x.ranks from rank_pm h hb, show Qd.delA (x.set job a').ranks job = Qd.delA x.ranks job from delA_put h] at this
  exact this
theorem ntick_run {n : Qd.Node} {job now : Int} {r : Qd.Rank} (h : n.running = job) (hne : job ≠ 0) (hl : Qd.lookA n.ranks job = some r) : n.tick now = { n with ranks := Qd.putA n.ranks job { r with to := now, frm := if r.frm = 0 then now else r.frm } } := by
  unfold Qd.Node.tick; rw [h]; dsimp only; rw [if_pos hne, hl]
theorem ag_104 : aggB Tryz.prog 104 = some false := by kernel_rfl
theorem fb_107_1 : fieldB Tryz.prog 107 1 = some 1 := by kernel_rfl
theorem fb_111_1 : fieldB Tryz.prog 111 1 = some 1 := by kernel_rfl
theorem fb_111_3 : fieldB Tryz.prog 111 3 = some 3 := by kernel_rfl
theorem fb_111_4 : fieldB Tryz.prog 111 4 = some 4 := by kernel_rfl
theorem pf_59 : plainFn Tryz.prog 59 = true := by kernel_rfl
theorem zf_112 : zeroB Tryz.prog 112 = some (Go.Value.pointer none) := by kernel_rfl
set_option maxHeartbeats 2000000 in
theorem s_running [Bs] (x : NodeA) (hx : x.Ok) (h1 : oneRun x.n = true) : Spec Tryz.prog 59 [x.ptr] (x.kb) (fun v K' => v = .int .u32 x.n.running ∧ K' = x.kb) := by
 refine spec_body Tryz.func59 rfl rfl fun F R hR => ?_
 try simp only [NL]
 rw [NodeA.kb_eq]
 try simp only [NL]
 refine C_seq ?_
 refine C_region ?_
 refine wa (i := 0) rfl rfl rfl rfl ?_
 refine W_nil ?_
 refine N_seq ?_
 refine C_seq ?_
 refine C_seq ?_
 refine C_region ?_
 refine wm (i := 0) rfl rfl rfl rfl ?_
 refine wc (i := 1) rfl rfl rfl rfl ?_
 refine W_q (i := 2) rfl rfl rfl (q_fieldAddr fb_107_1 rfl rfl) ?_
 refine W_q (i := 3) rfl rfl rfl (q_load ag_104 rfl aP rfl) ?_
 refine W_e (i := 4) rfl rfl rfl (e_range Tryz.underlying104 rfl aP) ?_
 rintro ⟨⟨it9, hit9⟩, ib9⟩
 refine W_nil ?_
 refine N_seq ?_
 refine C_block ?_
 refine C_loop (ι := { it : It (mapV RankA.ptr x.ranks) // ∀ p ∈ it.vis, ∀ (k : Int) (a : RankA), p = (k, a.ptr) → (k, a) ∈ x.ranks → a.r.run = false }) (fun it => [(0, x.ptr), (9, .pointer (some ⟨ib9, 0, none⟩))]) (fun it => it.1.kb .u32 ib9 x.rb ++ ((x.blk, Cells x.cells 107) :: (x.isl.kb (flat noteO x.inn) 13 72 ++ (x.osl.kb (flat outV x.outs) 13 72 ++ (outKb x.outs ++ (mapKb RankA.kb x.ranks ++ F)))))) (fun it => x.ranks.length - it.1.vis.length) ⟨it9, by rw [hit9]; simp⟩ aS aQ ?_
 rintro ⟨it, hno⟩
 dsimp only
 refine C_seq ?_
 refine C_region ?_
 refine W_e (i := 0) rfl rfl rfl (e_next rfl aC) ?_
 rintro ⟨_ | ⟨it10, x10⟩, hq10⟩
 ·
  dsimp only at hq10 ⊢
  have hat : x.n.running = 0 := no_run fun k a hm => hno (k, a.ptr) (hq10.mem_iff.2 (List.mem_map.2 ⟨(k, a), hm, rfl⟩)) k a rfl hm
  refine W_q (i := 1) rfl rfl rfl (q_extract rfl rfl) ?_
  refine W_nil ?_
  refine N_seq ?_
  refine C_seq ?_
  refine C_condF rfl ?_
  refine C_exit ?_
  refine N_seq ?_
  refine C_seq ?_
  refine C_region ?_
  refine wa (i := 0) rfl rfl rfl rfl ?_
  refine W_nil ?_
  refine N_seq ?_
  refine C_ret fun a w ha hk => ?_
  exact R_val (e := .ret) (.inl rfl) ha.defers (res1 ha rfl rfl) (hR _ _ _ ⟨by rw [hat], rfl⟩ ((Knows.close (it := it) (kd := .u32) (b := ib9) (r := x.rb) (hk.perm aC)).take (by (try simp only [NodeA.kb_eq]); exact aT)))
 ·
  dsimp only at hq10 ⊢
  obtain ⟨hv10, hm10, hn10⟩ := hq10
  obtain ⟨k, a1, hka, rfl⟩ : ∃ (k : Int) (a : RankA), (k, a) ∈ x.ranks ∧ x10 = (k, a.ptr) := by simp only [mapV, List.mem_map] at hm10; obtain ⟨⟨k, a⟩, h1, h2⟩ := hm10; exact ⟨k, a, h1, h2.symm⟩
  refine W_q (i := 1) rfl rfl rfl (q_extract rfl rfl) ?_
  refine W_nil ?_
  refine N_seq ?_
  refine C_seq ?_
  refine C_condT rfl ?_
  refine C_skip ?_
  refine N_seq ?_
  refine C_block ?_
  refine C_seq ?_
  refine C_region ?_
  refine W_q (i := 0) rfl rfl rfl (q_entry rfl aP aP (by assumption)) ?_
  refine W_q (i := 1) rfl rfl rfl (q_extract rfl rfl) ?_
  refine W_q (i := 2) rfl rfl rfl (q_extract rfl rfl) ?_
  refine wa (i := 3) rfl rfl rfl rfl ?_
  refine wa (i := 4) rfl rfl rfl rfl ?_
  refine W_nil ?_
  refine N_seq ?_
  refine C_seq ?_
  refine C_region ?_
  refine wm (i := 0) rfl rfl rfl rfl ?_
  refine wc (i := 1) rfl rfl rfl rfl ?_
  refine W_q (i := 2) rfl rfl rfl (q_fieldAddr fb_111_1 rfl rfl) ?_
  refine W_q (i := 3) rfl rfl rfl (q_loadM (v := .bool a1.r.run) ag_4 rfl (mem_of_perm (A := mapKb RankA.kb x.ranks) aC (by rw [(mapKb_at RankA.kb (Qd.lookA_of_mem hx.keys hka)).mem_iff]; exact .head _)) rfl) ?_
  refine W_nil ?_
  refine N_seq ?_
  refine C_cond rfl (fun ht18 => ?_) (fun ht18 => ?_)
  ·
   try simp only [CL] at ht18
   refine C_seq ?_
   refine C_region ?_
   refine wm (i := 0) rfl rfl rfl rfl ?_
   refine wa (i := 1) rfl rfl rfl rfl ?_
   refine W_nil ?_
   refine N_seq ?_
   refine C_ret fun a w ha hk => ?_
   exact R_val (e := .ret) (.inl rfl) ha.defers (res1 ha rfl rfl) (hR _ _ _ ⟨by rw [one_run h1 hka ht18]; rfl, rfl⟩ ((Knows.close (it := it10) (kd := .u32) (b := ib9) (r := x.rb) (hk.perm aC)).take (by (try simp only [NodeA.kb_eq]); exact aT)))
  ·
   try simp only [CL] at ht18
   refine C_skip ?_
   exact fun a w ha hk => ⟨⟨it10, by rw [hv10]; intro p hp; rcases List.mem_append.1 hp with h | h; exact hno p h; (simp at h; subst h; intro k2 a2 he hm2; have e1 := (Prod.mk.inj he).1; have e2 := (Prod.mk.inj he).2; subst e1; have e3 := Qd.lookA_of_mem hx.keys hm2; rw [Qd.lookA_of_mem hx.keys hka] at e3; cases e3; exact ht18)⟩, by simp only; rw [hv10]; simp [mapV] at hn10 ⊢; omega, ha.sub aS, hk.take aT⟩
set_option maxHeartbeats 2000000 in
theorem s_ntick [Bs] (x : NodeA) (hx : x.Ok) (h1 : oneRun x.n = true) (now : Int) : Spec Tryz.prog 96 [x.ptr, .int .u32 now] (x.kb) (fun v K' => v = .tuple #[] ∧ ∃ x' : NodeA, x'.Ok ∧ x'.n = x.n.tick now ∧ x'.ptr = x.ptr ∧ K' = x'.kb) := by
 obtain ⟨job, hjob⟩ : ∃ job, x.n.running = job := ⟨_, rfl⟩
 refine spec_body Tryz.func96 rfl rfl fun F R hR => ?_
 try simp only [NL]
 refine C_seq ?_
 refine C_region ?_
 refine wm (i := 0) rfl rfl rfl rfl ?_
 refine W_call (i := 1) rfl rfl rfl rfl rfl rfl pf_59 (s_running x hx h1) aC ?_
 rintro _ _ ⟨rfl, rfl⟩
 rw [hjob]
 refine wa (i := 2) rfl rfl rfl rfl ?_
 refine W_nil ?_
 refine N_seq ?_
 refine C_seq ?_
 refine C_region ?_
 refine wm (i := 0) rfl rfl rfl rfl ?_
 refine W_q (i := 1) rfl rfl rfl (q_int rfl rfl rfl) ?_
 refine W_nil ?_
 refine N_seq ?_
 refine C_cond rfl (fun ht9 => ?_) (fun ht9 => ?_)
 ·
  try simp only [CL] at ht9
  obtain ⟨a1, hlk⟩ := run_look hx (by rw [hjob]; exact ht9)
  rw [hjob] at hlk
  have hlm : Qd.lookA x.n.ranks job = some a1.r := by rw [NodeA.look, hlk]; rfl
  refine C_perm _ ?_ ((NodeA.open_ hlk).append_right F)
  rw [NodeA.opn_eq]
  try simp only [NL]
  refine C_seq ?_
  refine C_region ?_
  refine wm (i := 0) rfl rfl rfl rfl ?_
  refine wc (i := 1) rfl rfl rfl rfl ?_
  refine W_q (i := 2) rfl rfl rfl (q_fieldAddr fb_107_1 rfl rfl) ?_
  refine W_q (i := 3) rfl rfl rfl (q_load ag_104 rfl aP rfl) ?_
  refine wm (i := 4) rfl rfl rfl rfl ?_
  refine W_q (i := 5) rfl rfl rfl (q_lookup Tryz.underlying104 Tryz.underlying31 zf_112 rfl rfl (MapAt.of aP) ((look_rptr _ _).trans (rptrV_some hlk))) ?_
  refine wa (i := 6) rfl rfl rfl rfl ?_
  refine W_nil ?_
  refine N_seq ?_
  refine C_seq ?_
  refine C_region ?_
  refine wm (i := 0) rfl rfl rfl rfl ?_
  refine wm (i := 1) rfl rfl rfl rfl ?_
  refine wc (i := 2) rfl rfl rfl rfl ?_
  refine W_q (i := 3) rfl rfl rfl (q_fieldAddr fb_111_4 rfl rfl) ?_
  refine W_e (i := 4) rfl rfl rfl (e_store sz_31 rfl rfl rfl aU (by first | decide | exact Nat.le_of_ble_eq_true rfl | simp [splice, Value.cells])) ?_
  intro _
  refine W_nil ?_
  refine N_seq ?_
  refine C_seq ?_
  refine C_region ?_
  refine wm (i := 0) rfl rfl rfl rfl ?_
  refine wc (i := 1) rfl rfl rfl rfl ?_
  refine W_q (i := 2) rfl rfl rfl (q_fieldAddr fb_111_3 rfl rfl) ?_
  refine W_q (i := 3) rfl rfl rfl (q_load ag_31 rfl aP rfl) ?_
  refine W_q (i := 4) rfl rfl rfl (q_int rfl rfl rfl) ?_
  refine W_nil ?_
  refine N_seq ?_
  refine C_cond rfl (fun ht24 => ?_) (fun ht24 => ?_)
  ·
   try simp only [CL] at ht24
   refine C_region ?_
   refine wm (i := 0) rfl rfl rfl rfl ?_
   refine wm (i := 1) rfl rfl rfl rfl ?_
   refine wc (i := 2) rfl rfl rfl rfl ?_
   refine W_q (i := 3) rfl rfl rfl (q_fieldAddr fb_111_3 rfl rfl) ?_
   refine W_e (i := 4) rfl rfl rfl (e_store sz_31 rfl rfl rfl aU (by first | decide | exact Nat.le_of_ble_eq_true rfl | simp [splice, Value.cells])) ?_
   intro _
   refine W_nil ?_
   intro a w ha hk
   exact R_val (e := .normal) (.inr rfl) ha.defers (res0 rfl) (hR _ _ _ ⟨rfl, x.set job (⟨{ a1.r with to := now, frm := now }, a1.blk⟩ : RankA), hx.set hlk, by rw [ntick_run hjob ht9 hlm, NodeA.set_n]; simp [ht24], rfl, rfl⟩ ((hk.take (T := x.opn job (⟨{ a1.r with to := now, frm := now }, a1.blk⟩ : RankA) (mapV RankA.ptr x.ranks) (mapKb RankA.kb (Qd.delA x.ranks job)) ++ F) (by (try simp only [NodeA.opn_eq]); exact aT)).perm ((NodeA.close_ (x := x) (a' := (⟨{ a1.r with to := now, frm := now }, a1.blk⟩ : RankA)) hlk rfl).append_right F)))
  ·
   try simp only [CL] at ht24
   refine C_skip ?_
   intro a w ha hk
   exact R_val (e := .normal) (.inr rfl) ha.defers (res0 rfl) (hR _ _ _ ⟨rfl, x.set job (⟨{ a1.r with to := now }, a1.blk⟩ : RankA), hx.set hlk, by rw [ntick_run hjob ht9 hlm, NodeA.set_n]; simp [ht24], rfl, rfl⟩ ((hk.take (T := x.opn job (⟨{ a1.r with to := now }, a1.blk⟩ : RankA) (mapV RankA.ptr x.ranks) (mapKb RankA.kb (Qd.delA x.ranks job)) ++ F) (by (try simp only [NodeA.opn_eq]); exact aT)).perm ((NodeA.close_ (x := x) (a' := (⟨{ a1.r with to := now }, a1.blk⟩ : RankA)) hlk rfl).append_right F)))
 ·
  try simp only [CL] at ht9
  have hg : x.n.tick now = x.n := by unfold Qd.Node.tick; rw [hjob]; exact if_neg (by simpa using ht9)
  refine C_skip ?_
  intro a w ha hk
  exact R_val (e := .normal) (.inr rfl) ha.defers (res0 rfl) (hR _ _ _ ⟨rfl, x, hx, hg.symm, rfl, rfl⟩ (hk.take aT))
end Go.SL
namespace Go.SL
open Go Go.Proofs
set_option maxRecDepth 10000
theorem act3 {n : Qd.Node} {x : Qd.Note} (h : x.kind = 3) : n.act x = { n with wrong := n.wrong || (Qd.lookA n.ranks x.job).isSome, ranks := Qd.putA n.ranks x.job { place := x.rank }, out := n.out ++ [{ kind := 4, job := x.job }] } := by
  unfold Qd.Node.act; exact if_pos h
theorem act5 {n : Qd.Node} {x : Qd.Note} (h : x.kind = 5) : n.act x = match Qd.lookA n.ranks x.job with
    | none => { n with wrong := n.wrong || (Qd.lookA n.ranks x.job).isNone || decide (n.running ≠ 0) }
    | some r => { n with wrong := n.wrong || (Qd.lookA n.ranks x.job).isNone || decide (n.running ≠ 0), ranks := Qd.putA n.ranks x.job { r with run := true, gen := x.gen, frm := 0, to := 0 } } := by
  unfold Qd.Node.act; dsimp only; rw [if_neg (by omega), if_pos h]; rfl
theorem act6 {n : Qd.Node} {x : Qd.Note} (h : x.kind = 6) {job : Int} {r : Qd.Rank} (hj : n.running = job) (hne : job ≠ 0) (hl : Qd.lookA n.ranks job = some r) : n.act x = { n with ranks := Qd.putA n.ranks job { r with run := false }, out := n.out ++ [{ kind := 7, gen := x.gen, job, frm := r.frm, to := r.to }] } := by
  unfold Qd.Node.act; dsimp only; rw [if_neg (by omega), if_neg (by omega), if_pos h, hj, if_pos hne, hl]
theorem act60 {n : Qd.Node} {x : Qd.Note} (h : x.kind = 6) (hj : n.running = 0) : n.act x = { n with out := n.out ++ [{ kind := 7, gen := x.gen }] } := by
  unfold Qd.Node.act; dsimp only; rw [if_neg (by omega), if_neg (by omega), if_pos h, hj, if_neg (by simp)]
theorem act8 {n : Qd.Node} {x : Qd.Note} (h : x.kind = 8) : n.act x = match Qd.lookA n.ranks x.job with
    | none => { n with wrong := true }
    | some r => { n with wrong := n.wrong || r.run, out := n.out ++ [{ kind := 9, job := x.job, ver := x.ver, rank := r.place, blob := [r.place, x.credit % 256] }] } := by
  unfold Qd.Node.act; dsimp only; rw [if_neg (by omega), if_neg (by omega), if_neg (by omega), if_pos h]; rfl
theorem act10 {n : Qd.Node} {x : Qd.Note} (h : x.kind = 10) : n.act x = { n with ranks := Qd.delA n.ranks x.job, out := n.out ++ [{ kind := 11, job := x.job }] } := by
  unfold Qd.Node.act; dsimp only; rw [if_neg (by omega), if_neg (by omega), if_neg (by omega), if_neg (by omega), if_pos h]
theorem act_no {n : Qd.Node} {x : Qd.Note} (h3 : x.kind ≠ 3) (h5 : x.kind ≠ 5) (h6 : x.kind ≠ 6) (h8 : x.kind ≠ 8) (h10 : x.kind ≠ 10) : n.act x = n := by
  unfold Qd.Node.act; dsimp only; rw [if_neg h3, if_neg h5, if_neg h6, if_neg h8, if_neg h10]
def NodeA.upd (x : NodeA) (ranks : List (Int × RankA)) (wrong : Bool) (outs : List (Qd.Note × Sl)) (osl : Sl) (ov : Value) : NodeA := { x with ranks, wrong, outs, osl, ov }
theorem NodeA.upd_n {x : NodeA} {ranks : List (Int × RankA)} {wrong : Bool} {outs : List (Qd.Note × Sl)} {osl : Sl} {ov : Value} : (x.upd ranks wrong outs osl ov).n = { x.n with ranks := ranks.map fun p => (p.1, p.2.r), wrong, out := outs.map (·.1) } := rfl
theorem putA_keys {α : Type} {m : List (Int × α)} (h : (m.map (·.1)).Nodup) (k : Int) (v : α) : ((Qd.putA m k v).map (·.1)).Nodup := by
  cases hl : Qd.lookA m k with
  | some u => rw [Qd.keys_put hl]; exact h
  | none =>
    rw [Qd.keys_new hl, List.map_append, List.nodup_append]
    refine ⟨h, by simp, ?_⟩
    intro a ha b hb
    simp only [List.map_cons, List.map_nil, List.mem_singleton] at hb
    rintro rfl
    obtain ⟨⟨k2, u⟩, hm, rfl⟩ := List.mem_map.1 ha
    have := Qd.lookA_of_mem h hm
    simp only at hb
    rw [hb, hl] at this
    cases this
theorem rank_put [Bs] {w : World} {m : List (Int × RankA)} {R : KB} (k : Int) (a : RankA) (h : Knows w ((a.blk, Cells a.cells 111) :: (mapKb RankA.kb m ++ R))) : Knows w (mapKb RankA.kb (Qd.putA m k a) ++ R) := by
  cases hl : Qd.lookA m k with
  | none =>
    have h1 := mapKb_new RankA.kb (v := a) hl
    exact h.perm (h1.append_right R)
  | some u =>
    have h1 := mapKb_at RankA.kb hl
    have h2 := mapKb_put RankA.kb (v' := a) hl
    have h3 : Knows w ((u.blk, Cells u.cells 111) :: ((a.blk, Cells a.cells 111) :: (mapKb RankA.kb (Qd.delA m k) ++ R))) := h.perm (((h1.append_right R).cons _).trans (List.Perm.swap _ _ _))
    exact (h3.sublist (List.sublist_cons_self _ _)).perm (h2.append_right R)
theorem delA_none {α : Type} {m : List (Int × α)} {k : Int} (h : Qd.lookA m k = none) : Qd.delA m k = m := by
  induction m with
  | nil => rfl
  | cons p m ih =>
    obtain ⟨a, u⟩ := p
    simp only [Qd.lookA] at h
    simp only [Qd.delA]
    split at h
    · cases h
    · rename_i e; rw [if_neg e, ih h]
theorem rank_del [Bs] {w : World} {m : List (Int × RankA)} {R : KB} (k : Int) (h : Knows w (mapKb RankA.kb m ++ R)) : Knows w (mapKb RankA.kb (Qd.delA m k) ++ R) := by
  cases hl : Qd.lookA m k with
  | none => rw [delA_none hl]; exact h
  | some u => exact ((h.perm ((mapKb_at RankA.kb hl).append_right R)).sublist (List.sublist_cons_self _ _))
theorem q_neRptr {P : Program} {n : Nat} {L : Env} {K : KB} {d : Option Nat} {x y : Operand} {T U : TypeId} {e : TypeId} {m : List (Int × RankA)} {k : Int} {ty pos aft gd} (hT : P.underlying T = some (.pointer e)) (hx : ev L x = some (rptrV m k)) (hy : ev L y = some (.pointer none)) :
    QRun P n ⟨d, .binOp .neq T x y U, ty, pos, aft, gd⟩ L K (.bool (Qd.lookA m k).isSome) := by
  rw [rptrV_eq] at hx
  have := q_nePtrNil (P := P) (n := n) (L := L) (K := K) (d := d) (U := U) (ty := ty) (pos := pos) (aft := aft) (gd := gd) hT hx hy
  rw [Option.isNone_map] at this
  cases h : Qd.lookA m k <;> rw [h] at this <;> exact this
theorem q_eqRptr {P : Program} {n : Nat} {L : Env} {K : KB} {d : Option Nat} {x y : Operand} {T U : TypeId} {e : TypeId} {m : List (Int × RankA)} {k : Int} {ty pos aft gd} (hT : P.underlying T = some (.pointer e)) (hx : ev L x = some (rptrV m k)) (hy : ev L y = some (.pointer none)) :
    QRun P n ⟨d, .binOp .eql T x y U, ty, pos, aft, gd⟩ L K (.bool (Qd.lookA m k).isNone) := by
  rw [rptrV_eq] at hx
  have := q_eqPtrNil (P := P) (n := n) (L := L) (K := K) (d := d) (U := U) (ty := ty) (pos := pos) (aft := aft) (gd := gd) hT hx hy
  rwa [Option.isNone_map] at this
theorem outs_snoc {xs : List (Qd.Note × Sl)} (h : ∀ p ∈ xs, p.2.Ok (encB p.1.blob) 1) {q : Qd.Note × Sl} (hq : q.2.Ok (encB q.1.blob) 1) : ∀ p ∈ xs ++ [q], p.2.Ok (encB p.1.blob) 1 := by
  intro p hp; rcases List.mem_append.1 hp with h1 | h1
  · exact h p h1
  · rw [List.mem_singleton.1 h1]; exact hq
theorem ag_105 : aggB Tryz.prog 105 = some false := by kernel_rfl
theorem fb_107_3 : fieldB Tryz.prog 107 3 = some 3 := by kernel_rfl
theorem fb_107_4 : fieldB Tryz.prog 107 4 = some 4 := by kernel_rfl
theorem fb_111_0 : fieldB Tryz.prog 111 0 = some 0 := by kernel_rfl
theorem fb_111_2 : fieldB Tryz.prog 111 2 = some 2 := by kernel_rfl
theorem fb_72_9 : fieldB Tryz.prog 72 9 = some 9 := by kernel_rfl
theorem inf_72 : infoB Tryz.prog 72 = some (some (Go.Value.agg #[Go.Value.int (Go.IntKind.u8) 0, Go.Value.int (Go.IntKind.u8) 0, Go.Value.int (Go.IntKind.u32) 0, Go.Value.int (Go.IntKind.u32) 0, Go.Value.int (Go.IntKind.u32) 0, Go.Value.int (Go.IntKind.u32) 0, Go.Value.int (Go.IntKind.u32) 0, Go.Value.int (Go.IntKind.u32) 0, Go.Value.int (Go.IntKind.u8) 0, Go.Value.int (Go.IntKind.i64) 0, Go.Value.int (Go.IntKind.u32) 0, Go.Value.int (Go.IntKind.u32) 0, Go.Value.slice none 0 0]), 13, 72) := by kernel_rfl
theorem ps_111 : placesB Tryz.prog 111 = some #[(0, 1), (1, 1), (2, 1), (3, 1), (4, 1)] := by kernel_rfl
theorem sz_105 : sizeB Tryz.prog 105 = some 1 := by kernel_rfl
theorem zf_111 : zeroB Tryz.prog 111 = some (Go.Value.agg #[Go.Value.int (Go.IntKind.u8) 0, Go.Value.bool false, Go.Value.int (Go.IntKind.u32) 0, Go.Value.int (Go.IntKind.u32) 0, Go.Value.int (Go.IntKind.u32) 0]) := by kernel_rfl
theorem zf_5 : zeroB Tryz.prog 5 = some (Go.Value.int (Go.IntKind.u8) 0) := by kernel_rfl
set_option maxHeartbeats 2000000 in
theorem s_nact [Bs] (x : NodeA) (hx : x.Ok) (h1 : oneRun x.n = true) (note : Qd.Note) (hob : x.outs.length ≤ 1000000) : Spec Tryz.prog 97 [x.ptr, .agg (noteO note).toArray] (x.kb) (fun v K' => v = .tuple #[] ∧ ∃ x' : NodeA, x'.Ok ∧ x'.n = x.n.act note ∧ x'.ptr = x.ptr ∧ K' = x'.kb) := by
 have hol : x.osl.len = x.outs.length := by have := hx.osl.vlen; rw [flat_len outV_len] at this; omega
 refine spec_body Tryz.func97 rfl rfl fun F R hR => ?_
 try simp only [NL]
 rw [NodeA.kb_eq]
 try simp only [NL]
 refine C_seq ?_
 refine C_region ?_
 refine W_e (i := 0) rfl rfl rfl (e_box rfl) ?_
 intro b3
 refine W_nil ?_
 refine N_seq ?_
 refine C_seq ?_
 refine C_draw (.cons 0 .pure (.cons 1 .pure (.cons 2 .pure (.cons 3 .read (.cons 4 .pure (.cons 5 .read (.cons 6 .read (.cons 7 .pure .nil)))))))) (fun w => Knows w _) 8 mo (by kernel_rfl) (fun _ h => h) ?_
 refine D_p rfl rfl rfl (q_move rfl) ?_
 refine D_p rfl rfl rfl (q_nilCheck rfl) ?_
 refine D_p rfl rfl rfl (q_fieldAddr fb_107_1 rfl rfl) ?_
 refine D_r rfl rfl rfl (q_load ag_104 rfl aP rfl) ?_
 refine D_p rfl rfl rfl (q_fieldAddr fb_72_6 rfl rfl) ?_
 refine D_r rfl rfl rfl (q_load ag_31 rfl aP rfl) ?_
 refine D_r rfl rfl rfl (q_lookup Tryz.underlying104 Tryz.underlying31 zf_112 rfl rfl (MapAt.of aP) (look_rptr _ _)) ?_
 refine D_p rfl rfl rfl (q_assign rfl) ?_
 refine D_nil ?_
 refine N_seq ?_
 refine C_seq ?_
 refine C_region ?_
 refine W_q (i := 0) rfl rfl rfl (q_fieldAddr fb_72_0 rfl rfl) ?_
 refine W_q (i := 1) rfl rfl rfl (q_load ag_5 rfl aP rfl) ?_
 refine W_nil ?_
 refine N_seq ?_
 refine C_block ?_
 refine C_seq ?_
 refine C_region ?_
 refine W_q (i := 0) rfl rfl rfl (q_int rfl rfl rfl) ?_
 refine wa (i := 1) rfl rfl rfl rfl ?_
 refine W_nil ?_
 refine N_seq ?_
 refine C_cond rfl (fun ht17 => ?_) (fun ht17 => ?_)
 ·
  try simp only [CL] at ht17
  refine C_seq ?_
  refine C_region ?_
  refine wm (i := 0) rfl rfl rfl rfl ?_
  refine wm (i := 1) rfl rfl rfl rfl ?_
  refine wc (i := 2) rfl rfl rfl rfl ?_
  refine W_q (i := 3) rfl rfl rfl (q_fieldAddr fb_107_4 rfl rfl) ?_
  refine W_q (i := 4) rfl rfl rfl (q_load ag_4 rfl aP rfl) ?_
  refine wm (i := 5) rfl rfl rfl rfl ?_
  refine W_bool 24 _ rfl (fun ht24 => ?_) (fun ht24 => ?_)
  ·
   try simp only [CL] at ht24
   refine W_skip (i := 6) rfl rfl rfl ?_
   refine W_skip (i := 7) rfl rfl rfl ?_
   refine W_q (i := 8) rfl rfl rfl (q_pickT rfl rfl) ?_
   refine wc (i := 9) rfl rfl rfl rfl ?_
   refine W_q (i := 10) rfl rfl rfl (q_fieldAddr fb_107_4 rfl rfl) ?_
   refine W_e (i := 11) rfl rfl rfl (e_store sz_4 rfl rfl rfl aU (by first | decide | exact Nat.le_of_ble_eq_true rfl | simp [splice, Value.cells])) ?_
   intro _
   refine W_nil ?_
   refine N_seq ?_
   refine C_seq ?_
   refine C_draw (.cons 0 .pure (.cons 1 .pure (.cons 2 .pure (.cons 3 .read (.cons 4 .pure (.cons 5 .read (.cons 6 .pure (.cons 7 .read (.cons 8 .pure (.cons 9 .eff (.cons 10 .eff .nil))))))))))) (fun w => Knows w _) 10 mo (by kernel_rfl) (fun _ h => h) ?_
   refine D_p rfl rfl rfl (q_move rfl) ?_
   refine D_p rfl rfl rfl (q_nilCheck rfl) ?_
   refine D_p rfl rfl rfl (q_fieldAddr fb_107_1 rfl rfl) ?_
   refine D_r rfl rfl rfl (q_load ag_104 rfl aP rfl) ?_
   refine D_p rfl rfl rfl (q_fieldAddr fb_72_6 rfl rfl) ?_
   refine D_r rfl rfl rfl (q_load ag_31 rfl aP rfl) ?_
   refine D_p rfl rfl rfl (q_fieldAddr fb_72_8 rfl rfl) ?_
   refine D_r rfl rfl rfl (q_load ag_5 rfl aP rfl) ?_
   refine D_p rfl rfl rfl (q_build (vs := [(0, .int .u8 note.rank)]) (cs := #[.int .u8 note.rank, .bool false, .int .u32 0, .int .u32 0, .int .u32 0]) ps_111 zf_111 rfl (by simp [Instr.fill, Value.cells])) ?_
   refine D_e rfl rfl rfl (e_box rfl) (.inr (fun _ _ h => h.take aT)) ?_
   intro b39
   refine D_e rfl rfl rfl (e_mapUpdate Tryz.underlying104 Tryz.underlying31 rfl rfl (v := (⟨{ place := note.rank }, b39⟩ : RankA).ptr) rfl (putI_mapV RankA.ptr x.ranks note.job (⟨{ place := note.rank }, b39⟩ : RankA)) aU) (.inl rfl) ?_
   intro _
   refine D_nil ?_
   refine N_seq ?_
   refine C_draw (.cons 0 .pure (.cons 1 .pure (.cons 2 .pure (.cons 3 .pure (.cons 4 .read (.cons 5 .pure (.cons 6 .read (.cons 7 .pure (.cons 8 .eff (.cons 9 .eff (.cons 10 .pure (.cons 11 .pure (.cons 12 .eff .nil))))))))))))) (fun w => Knows w _) 9 mo (by kernel_rfl) (fun _ h => h) ?_
   refine D_p rfl rfl rfl (q_move rfl) ?_
   refine D_p rfl rfl rfl (q_move rfl) ?_
   refine D_p rfl rfl rfl (q_nilCheck rfl) ?_
   refine D_p rfl rfl rfl (q_fieldAddr fb_107_3 rfl rfl) ?_
   refine D_r rfl rfl rfl (q_load ag_105 rfl aP rfl) ?_
   refine D_p rfl rfl rfl (q_fieldAddr fb_72_6 rfl rfl) ?_
   refine D_r rfl rfl rfl (q_load ag_31 rfl aP rfl) ?_
   refine D_p rfl rfl rfl (q_build (vs := [(0, .int .u8 4), (6, .int .u32 note.job)]) (cs := (noteO ({ kind := 4, job := note.job } : Qd.Note)).toArray) ps_72 zf_72 rfl (by simp [Instr.fill, Value.cells, noteO, noteV])) ?_
   refine D_e rfl rfl rfl (e_lit1 Tryz.underlying105 sz_72 zf_72 (by decide) rfl rfl) (.inr (fun _ _ h => h.take aT)) ?_
   intro b48
   refine D_e rfl rfl rfl (e_app1V (us := (outV (({ kind := 4, job := note.job } : Qd.Note), Sl.nilS))) (vs' := flat outV (x.outs ++ [(({ kind := 4, job := note.job } : Qd.Note), Sl.nilS)])) Tryz.underlying105 inf_72 rfl rfl rfl hx.ov rfl aP aC hx.osl (by omega) (by omega) rfl rfl (flat_snoc x.outs (({ kind := 4, job := note.job } : Qd.Note), Sl.nilS)).symm) (.inl rfl) ?_
   rintro ⟨sl', hsl', hok'⟩
   refine D_p rfl rfl rfl (q_nilCheck rfl) ?_
   refine D_p rfl rfl rfl (q_fieldAddr fb_107_3 rfl rfl) ?_
   refine D_e rfl rfl rfl (e_store sz_105 rfl rfl rfl aU (by first | decide | exact Nat.le_of_ble_eq_true rfl | simp [splice, Value.cells])) (.inl rfl) ?_
   intro _
   refine D_nil ?_
   intro a w ha hk
   exact R_val (e := .normal) (.inr rfl) ha.defers (res0 rfl) (hR _ _ _ ⟨rfl, (x.upd (Qd.putA x.ranks note.job (⟨{ place := note.rank }, b39⟩ : RankA)) true (x.outs ++ [(({ kind := 4, job := note.job } : Qd.Note), Sl.nilS)]) sl' sl'.val), { hx with keys := putA_keys hx.keys _ _, osl := hok', ov := .live rfl, outs := outs_snoc hx.outs (Sl.nil_ok 1) }, by rw [act3 ht17, NodeA.upd_n, NodeA.look]; simp [NodeA.n, NodeA.mr]; first | exact ⟨(Qd.putA_map (fun a : RankA => a.r) _ _ _).symm, ht24⟩ | (constructor <;> first | exact (Qd.putA_map (fun a : RankA => a.r) _ _ _).symm | simp [ht24] | simpa using ht24), rfl, rfl⟩ ((rank_put note.job (⟨{ place := note.rank }, b39⟩ : RankA) (hk.take (T := (b39, Cells (⟨{ place := note.rank }, b39⟩ : RankA).cells 111) :: ((mapKb RankA.kb x.ranks ++ ((x.blk, Cells (x.upd (Qd.putA x.ranks note.job (⟨{ place := note.rank }, b39⟩ : RankA)) true (x.outs ++ [(({ kind := 4, job := note.job } : Qd.Note), Sl.nilS)]) sl' sl'.val).cells 107) :: (x.rb, MapI .u32 (mapV RankA.ptr (x.upd (Qd.putA x.ranks note.job (⟨{ place := note.rank }, b39⟩ : RankA)) true (x.outs ++ [(({ kind := 4, job := note.job } : Qd.Note), Sl.nilS)]) sl' sl'.val).ranks)) :: ((x.upd (Qd.putA x.ranks note.job (⟨{ place := note.rank }, b39⟩ : RankA)) true (x.outs ++ [(({ kind := 4, job := note.job } : Qd.Note), Sl.nilS)]) sl' sl'.val).isl.kb (flat noteO (x.upd (Qd.putA x.ranks note.job (⟨{ place := note.rank }, b39⟩ : RankA)) true (x.outs ++ [(({ kind := 4, job := note.job } : Qd.Note), Sl.nilS)]) sl' sl'.val).inn) 13 72 ++ ((x.upd (Qd.putA x.ranks note.job (⟨{ place := note.rank }, b39⟩ : RankA)) true (x.outs ++ [(({ kind := 4, job := note.job } : Qd.Note), Sl.nilS)]) sl' sl'.val).osl.kb (flat outV (x.upd (Qd.putA x.ranks note.job (⟨{ place := note.rank }, b39⟩ : RankA)) true (x.outs ++ [(({ kind := 4, job := note.job } : Qd.Note), Sl.nilS)]) sl' sl'.val).outs) 13 72 ++ (outKb (x.upd (Qd.putA x.ranks note.job (⟨{ place := note.rank }, b39⟩ : RankA)) true (x.outs ++ [(({ kind := 4, job := note.job } : Qd.Note), Sl.nilS)]) sl' sl'.val).outs ++ F))))))) (by (try simp only [NodeA.upd, outKb_snoc, nilS_kb]); exact aT))).take (by (try simp only [NodeA.upd, outKb_snoc, nilS_kb, NodeA.kb_eq]); exact aT)))
  ·
   try simp only [CL] at ht24
   refine wm (i := 6) rfl rfl rfl rfl ?_
   refine W_q (i := 7) rfl rfl rfl (q_neRptr Tryz.underlying112 rfl rfl) ?_
   refine W_q (i := 8) rfl rfl rfl (q_pickF rfl rfl) ?_
   refine wc (i := 9) rfl rfl rfl rfl ?_
   refine W_q (i := 10) rfl rfl rfl (q_fieldAddr fb_107_4 rfl rfl) ?_
   refine W_e (i := 11) rfl rfl rfl (e_store sz_4 rfl rfl rfl aU (by first | decide | exact Nat.le_of_ble_eq_true rfl | simp [splice, Value.cells])) ?_
   intro _
   refine W_nil ?_
   refine N_seq ?_
   refine C_seq ?_
   refine C_draw (.cons 0 .pure (.cons 1 .pure (.cons 2 .pure (.cons 3 .read (.cons 4 .pure (.cons 5 .read (.cons 6 .pure (.cons 7 .read (.cons 8 .pure (.cons 9 .eff (.cons 10 .eff .nil))))))))))) (fun w => Knows w _) 10 mo (by kernel_rfl) (fun _ h => h) ?_
   refine D_p rfl rfl rfl (q_move rfl) ?_
   refine D_p rfl rfl rfl (q_nilCheck rfl) ?_
   refine D_p rfl rfl rfl (q_fieldAddr fb_107_1 rfl rfl) ?_
   refine D_r rfl rfl rfl (q_load ag_104 rfl aP rfl) ?_
   refine D_p rfl rfl rfl (q_fieldAddr fb_72_6 rfl rfl) ?_
   refine D_r rfl rfl rfl (q_load ag_31 rfl aP rfl) ?_
   refine D_p rfl rfl rfl (q_fieldAddr fb_72_8 rfl rfl) ?_
   refine D_r rfl rfl rfl (q_load ag_5 rfl aP rfl) ?_
   refine D_p rfl rfl rfl (q_build (vs := [(0, .int .u8 note.rank)]) (cs := #[.int .u8 note.rank, .bool false, .int .u32 0, .int .u32 0, .int .u32 0]) ps_111 zf_111 rfl (by simp [Instr.fill, Value.cells])) ?_
   refine D_e rfl rfl rfl (e_box rfl) (.inr (fun _ _ h => h.take aT)) ?_
   intro b39
   refine D_e rfl rfl rfl (e_mapUpdate Tryz.underlying104 Tryz.underlying31 rfl rfl (v := (⟨{ place := note.rank }, b39⟩ : RankA).ptr) rfl (putI_mapV RankA.ptr x.ranks note.job (⟨{ place := note.rank }, b39⟩ : RankA)) aU) (.inl rfl) ?_
   intro _
   refine D_nil ?_
   refine N_seq ?_
   refine C_draw (.cons 0 .pure (.cons 1 .pure (.cons 2 .pure (.cons 3 .pure (.cons 4 .read (.cons 5 .pure (.cons 6 .read (.cons 7 .pure (.cons 8 .eff (.cons 9 .eff (.cons 10 .pure (.cons 11 .pure (.cons 12 .eff .nil))))))))))))) (fun w => Knows w _) 9 mo (by kernel_rfl) (fun _ h => h) ?_
   refine D_p rfl rfl rfl (q_move rfl) ?_
   refine D_p rfl rfl rfl (q_move rfl) ?_
   refine D_p rfl rfl rfl (q_nilCheck rfl) ?_
   refine D_p rfl rfl rfl (q_fieldAddr fb_107_3 rfl rfl) ?_
   refine D_r rfl rfl rfl (q_load ag_105 rfl aP rfl) ?_
   refine D_p rfl rfl rfl (q_fieldAddr fb_72_6 rfl rfl) ?_
   refine D_r rfl rfl rfl (q_load ag_31 rfl aP rfl) ?_
   refine D_p rfl rfl rfl (q_build (vs := [(0, .int .u8 4), (6, .int .u32 note.job)]) (cs := (noteO ({ kind := 4, job := note.job } : Qd.Note)).toArray) ps_72 zf_72 rfl (by simp [Instr.fill, Value.cells, noteO, noteV])) ?_
   refine D_e rfl rfl rfl (e_lit1 Tryz.underlying105 sz_72 zf_72 (by decide) rfl rfl) (.inr (fun _ _ h => h.take aT)) ?_
   intro b48
   refine D_e rfl rfl rfl (e_app1V (us := (outV (({ kind := 4, job := note.job } : Qd.Note), Sl.nilS))) (vs' := flat outV (x.outs ++ [(({ kind := 4, job := note.job } : Qd.Note), Sl.nilS)])) Tryz.underlying105 inf_72 rfl rfl rfl hx.ov rfl aP aC hx.osl (by omega) (by omega) rfl rfl (flat_snoc x.outs (({ kind := 4, job := note.job } : Qd.Note), Sl.nilS)).symm) (.inl rfl) ?_
   rintro ⟨sl', hsl', hok'⟩
   refine D_p rfl rfl rfl (q_nilCheck rfl) ?_
   refine D_p rfl rfl rfl (q_fieldAddr fb_107_3 rfl rfl) ?_
   refine D_e rfl rfl rfl (e_store sz_105 rfl rfl rfl aU (by first | decide | exact Nat.le_of_ble_eq_true rfl | simp [splice, Value.cells])) (.inl rfl) ?_
   intro _
   refine D_nil ?_
   intro a w ha hk
   exact R_val (e := .normal) (.inr rfl) ha.defers (res0 rfl) (hR _ _ _ ⟨rfl, (x.upd (Qd.putA x.ranks note.job (⟨{ place := note.rank }, b39⟩ : RankA)) (Qd.lookA x.ranks note.job).isSome (x.outs ++ [(({ kind := 4, job := note.job } : Qd.Note), Sl.nilS)]) sl' sl'.val), { hx with keys := putA_keys hx.keys _ _, osl := hok', ov := .live rfl, outs := outs_snoc hx.outs (Sl.nil_ok 1) }, by rw [act3 ht17, NodeA.upd_n, NodeA.look]; simp [NodeA.n, NodeA.mr]; first | exact ⟨(Qd.putA_map (fun a : RankA => a.r) _ _ _).symm, ht24⟩ | (constructor <;> first | exact (Qd.putA_map (fun a : RankA => a.r) _ _ _).symm | simp [ht24] | simpa using ht24), rfl, rfl⟩ ((rank_put note.job (⟨{ place := note.rank }, b39⟩ : RankA) (hk.take (T := (b39, Cells (⟨{ place := note.rank }, b39⟩ : RankA).cells 111) :: ((mapKb RankA.kb x.ranks ++ ((x.blk, Cells (x.upd (Qd.putA x.ranks note.job (⟨{ place := note.rank }, b39⟩ : RankA)) (Qd.lookA x.ranks note.job).isSome (x.outs ++ [(({ kind := 4, job := note.job } : Qd.Note), Sl.nilS)]) sl' sl'.val).cells 107) :: (x.rb, MapI .u32 (mapV RankA.ptr (x.upd (Qd.putA x.ranks note.job (⟨{ place := note.rank }, b39⟩ : RankA)) (Qd.lookA x.ranks note.job).isSome (x.outs ++ [(({ kind := 4, job := note.job } : Qd.Note), Sl.nilS)]) sl' sl'.val).ranks)) :: ((x.upd (Qd.putA x.ranks note.job (⟨{ place := note.rank }, b39⟩ : RankA)) (Qd.lookA x.ranks note.job).isSome (x.outs ++ [(({ kind := 4, job := note.job } : Qd.Note), Sl.nilS)]) sl' sl'.val).isl.kb (flat noteO (x.upd (Qd.putA x.ranks note.job (⟨{ place := note.rank }, b39⟩ : RankA)) (Qd.lookA x.ranks note.job).isSome (x.outs ++ [(({ kind := 4, job := note.job } : Qd.Note), Sl.nilS)]) sl' sl'.val).inn) 13 72 ++ ((x.upd (Qd.putA x.ranks note.job (⟨{ place := note.rank }, b39⟩ : RankA)) (Qd.lookA x.ranks note.job).isSome (x.outs ++ [(({ kind := 4, job := note.job } : Qd.Note), Sl.nilS)]) sl' sl'.val).osl.kb (flat outV (x.upd (Qd.putA x.ranks note.job (⟨{ place := note.rank }, b39⟩ : RankA)) (Qd.lookA x.ranks note.job).isSome (x.outs ++ [(({ kind := 4, job := note.job } : Qd.Note), Sl.nilS)]) sl' sl'.val).outs) 13 72 ++ (outKb (x.upd (Qd.putA x.ranks note.job (⟨{ place := note.rank }, b39⟩ : RankA)) (Qd.lookA x.ranks note.job).isSome (x.outs ++ [(({ kind := 4, job := note.job } : Qd.Note), Sl.nilS)]) sl' sl'.val).outs ++ F))))))) (by (try simp only [NodeA.upd, outKb_snoc, nilS_kb]); exact aT))).take (by (try simp only [NodeA.upd, outKb_snoc, nilS_kb, NodeA.kb_eq]); exact aT)))
 ·
  try simp only [CL] at ht17
  refine C_seq ?_
  refine C_region ?_
  refine W_q (i := 0) rfl rfl rfl (q_int rfl rfl rfl) ?_
  refine wa (i := 1) rfl rfl rfl rfl ?_
  refine W_nil ?_
  refine N_seq ?_
  refine C_cond rfl (fun ht52 => ?_) (fun ht52 => ?_)
  ·
   try simp only [CL] at ht52
   refine C_seq ?_
   refine C_region ?_
   refine wm (i := 0) rfl rfl rfl rfl ?_
   refine wm (i := 1) rfl rfl rfl rfl ?_
   refine wc (i := 2) rfl rfl rfl rfl ?_
   refine W_q (i := 3) rfl rfl rfl (q_fieldAddr fb_107_4 rfl rfl) ?_
   refine W_q (i := 4) rfl rfl rfl (q_load ag_4 rfl aP rfl) ?_
   refine wm (i := 5) rfl rfl rfl rfl ?_
   refine W_bool 59 _ rfl (fun ht59 => ?_) (fun ht59 => ?_)
   ·
    try simp only [CL] at ht59
    refine W_skip (i := 6) rfl rfl rfl ?_
    refine W_skip (i := 7) rfl rfl rfl ?_
    refine W_q (i := 8) rfl rfl rfl (q_pickT rfl rfl) ?_
    refine wm (i := 9) rfl rfl rfl rfl ?_
    refine W_skip (i := 10) rfl rfl rfl ?_
    refine W_skip (i := 11) rfl rfl rfl ?_
    refine W_skip (i := 12) rfl rfl rfl ?_
    refine W_q (i := 13) rfl rfl rfl (q_pickT rfl rfl) ?_
    refine wc (i := 14) rfl rfl rfl rfl ?_
    refine W_q (i := 15) rfl rfl rfl (q_fieldAddr fb_107_4 rfl rfl) ?_
    refine W_e (i := 16) rfl rfl rfl (e_store sz_4 rfl rfl rfl aU (by first | decide | exact Nat.le_of_ble_eq_true rfl | simp [splice, Value.cells])) ?_
    intro _
    refine W_nil ?_
    refine N_seq ?_
    refine C_seq ?_
    refine C_region ?_
    refine wm (i := 0) rfl rfl rfl rfl ?_
    refine W_q (i := 1) rfl rfl rfl (q_neRptr Tryz.underlying112 rfl rfl) ?_
    refine W_nil ?_
    refine N_seq ?_
    refine C_cond rfl (fun ht71 => ?_) (fun ht71 => ?_)
    ·
     try simp only [CL] at ht71
     obtain ⟨a1, hlk⟩ : ∃ a, Qd.lookA x.ranks note.job = some a := Option.isSome_iff_exists.1 ht71
     have hrp := rptrV_some hlk
     rw [hrp]
     have hlm : Qd.lookA x.n.ranks note.job = some a1.r := by rw [NodeA.look, hlk]; rfl
     refine C_to ((x.upd x.ranks true x.outs x.osl x.ov).kb ++ ((b3, Cells (noteO note) 72) :: F)) (by (try simp only [NodeA.upd, NodeA.kb_eq]); exact aT) ?_
     refine C_perm _ ?_ ((NodeA.open_ (x := (x.upd x.ranks true x.outs x.osl x.ov)) hlk).append_right ((b3, Cells (noteO note) 72) :: F))
     rw [NodeA.opn_eq]
     try simp only [NL]
     refine C_draw (.cons 0 .pure (.cons 1 .pure (.cons 2 .pure (.cons 3 .pure (.cons 4 .pure (.cons 5 .read (.cons 6 .pure (.cons 7 .pure (.cons 8 .eff (.cons 9 .pure (.cons 10 .pure (.cons 11 .eff (.cons 12 .pure (.cons 13 .pure (.cons 14 .eff (.cons 15 .pure (.cons 16 .pure (.cons 17 .eff .nil)))))))))))))))))) (fun w => Knows w ([(b3, Cells (noteO note) 72)])) 11 mo (by kernel_rfl) (fun _ h => h.take aT) ?_
     refine D_p rfl rfl rfl (q_move rfl) ?_
     refine D_p rfl rfl rfl (q_move rfl) ?_
     refine D_p rfl rfl rfl (q_move rfl) ?_
     refine D_p rfl rfl rfl (q_move rfl) ?_
     refine D_p rfl rfl rfl (q_fieldAddr fb_72_5 rfl rfl) ?_
     refine D_r rfl rfl rfl (q_load ag_31 rfl aP rfl) ?_
     refine D_p rfl rfl rfl (q_nilCheck rfl) ?_
     refine D_p rfl rfl rfl (q_fieldAddr fb_111_1 rfl rfl) ?_
     refine D_e rfl rfl rfl (e_store sz_4 rfl rfl rfl aU (by first | decide | exact Nat.le_of_ble_eq_true rfl | simp [splice, Value.cells])) (.inr (fun _ _ h => h.take aT)) ?_
     intro _
     refine D_p rfl rfl rfl (q_nilCheck rfl) ?_
     refine D_p rfl rfl rfl (q_fieldAddr fb_111_2 rfl rfl) ?_
     refine D_e rfl rfl rfl (e_store sz_31 rfl rfl rfl aU (by first | decide | exact Nat.le_of_ble_eq_true rfl | simp [splice, Value.cells])) (.inl rfl) ?_
     intro _
     refine D_p rfl rfl rfl (q_nilCheck rfl) ?_
     refine D_p rfl rfl rfl (q_fieldAddr fb_111_3 rfl rfl) ?_
     refine D_e rfl rfl rfl (e_store sz_31 rfl rfl rfl aU (by first | decide | exact Nat.le_of_ble_eq_true rfl | simp [splice, Value.cells])) (.inl rfl) ?_
     intro _
     refine D_p rfl rfl rfl (q_nilCheck rfl) ?_
     refine D_p rfl rfl rfl (q_fieldAddr fb_111_4 rfl rfl) ?_
     refine D_e rfl rfl rfl (e_store sz_31 rfl rfl rfl aU (by first | decide | exact Nat.le_of_ble_eq_true rfl | simp [splice, Value.cells])) (.inl rfl) ?_
     intro _
     refine D_nil ?_
     intro a w ha hk
     exact R_val (e := .normal) (.inr rfl) ha.defers (res0 rfl) (hR _ _ _ ⟨rfl, (x.upd x.ranks true x.outs x.osl x.ov).set note.job (⟨{ a1.r with run := true, gen := note.gen, frm := 0, to := 0 }, a1.blk⟩ : RankA), ({ hx with keys := hx.keys, osl := hx.osl, ov := hx.ov, outs := hx.outs } : (x.upd x.ranks true x.outs x.osl x.ov).Ok).set hlk, by have ht59x : x.n.wrong = true := ht59; rw [act5 ht52, hlm, NodeA.set_n, NodeA.upd_n]; simp [ht59x]; try exact ⟨rfl, rfl⟩, rfl, rfl⟩ ((hk.take (T := (x.upd x.ranks true x.outs x.osl x.ov).opn note.job (⟨{ a1.r with run := true, gen := note.gen, frm := 0, to := 0 }, a1.blk⟩ : RankA) (mapV RankA.ptr x.ranks) (mapKb RankA.kb (Qd.delA x.ranks note.job)) ++ F) (by (try simp only [NodeA.opn_eq, NodeA.upd]); exact aT)).perm ((NodeA.close_ (x := (x.upd x.ranks true x.outs x.osl x.ov)) (a' := (⟨{ a1.r with run := true, gen := note.gen, frm := 0, to := 0 }, a1.blk⟩ : RankA)) hlk rfl).append_right F)))
    ·
     try simp only [CL] at ht71
     have hlk : Qd.lookA x.ranks note.job = none := by simpa using ht71
     have hlm : Qd.lookA x.n.ranks note.job = none := by rw [NodeA.look, hlk]; rfl
     refine C_skip ?_
     intro a w ha hk
     exact R_val (e := .normal) (.inr rfl) ha.defers (res0 rfl) (hR _ _ _ ⟨rfl, (x.upd x.ranks true x.outs x.osl x.ov), { hx with keys := hx.keys, osl := hx.osl, ov := hx.ov, outs := hx.outs }, by have ht59x : x.n.wrong = true := ht59; rw [act5 ht52, hlm, NodeA.upd_n]; simp [ht59x]; try exact ⟨rfl, rfl⟩, rfl, rfl⟩ (hk.take (by (try simp only [NodeA.upd, NodeA.kb_eq]); exact aT)))
   ·
    try simp only [CL] at ht59
    refine wm (i := 6) rfl rfl rfl rfl ?_
    refine W_q (i := 7) rfl rfl rfl (q_eqRptr Tryz.underlying112 rfl rfl) ?_
    refine W_q (i := 8) rfl rfl rfl (q_pickF rfl rfl) ?_
    refine wm (i := 9) rfl rfl rfl rfl ?_
    refine W_bool 63 _ rfl (fun ht63 => ?_) (fun ht63 => ?_)
    ·
     try simp only [CL] at ht63
     refine W_skip (i := 10) rfl rfl rfl ?_
     refine W_skip (i := 11) rfl rfl rfl ?_
     refine W_skip (i := 12) rfl rfl rfl ?_
     refine W_q (i := 13) rfl rfl rfl (q_pickT rfl rfl) ?_
     refine wc (i := 14) rfl rfl rfl rfl ?_
     refine W_q (i := 15) rfl rfl rfl (q_fieldAddr fb_107_4 rfl rfl) ?_
     refine W_e (i := 16) rfl rfl rfl (e_store sz_4 rfl rfl rfl aU (by first | decide | exact Nat.le_of_ble_eq_true rfl | simp [splice, Value.cells])) ?_
     intro _
     refine W_nil ?_
     refine N_seq ?_
     refine C_seq ?_
     refine C_region ?_
     refine wm (i := 0) rfl rfl rfl rfl ?_
     refine W_q (i := 1) rfl rfl rfl (q_neRptr Tryz.underlying112 rfl rfl) ?_
     refine W_nil ?_
     refine N_seq ?_
     refine C_cond rfl (fun ht71 => ?_) (fun ht71 => ?_)
     ·
      try simp only [CL] at ht71
      obtain ⟨a1, hlk⟩ : ∃ a, Qd.lookA x.ranks note.job = some a := Option.isSome_iff_exists.1 ht71
      have hrp := rptrV_some hlk
      rw [hrp]
      have hlm : Qd.lookA x.n.ranks note.job = some a1.r := by rw [NodeA.look, hlk]; rfl
      refine C_to ((x.upd x.ranks true x.outs x.osl x.ov).kb ++ ((b3, Cells (noteO note) 72) :: F)) (by (try simp only [NodeA.upd, NodeA.kb_eq]); exact aT) ?_
      refine C_perm _ ?_ ((NodeA.open_ (x := (x.upd x.ranks true x.outs x.osl x.ov)) hlk).append_right ((b3, Cells (noteO note) 72) :: F))
      rw [NodeA.opn_eq]
      try simp only [NL]
      refine C_draw (.cons 0 .pure (.cons 1 .pure (.cons 2 .pure (.cons 3 .pure (.cons 4 .pure (.cons 5 .read (.cons 6 .pure (.cons 7 .pure (.cons 8 .eff (.cons 9 .pure (.cons 10 .pure (.cons 11 .eff (.cons 12 .pure (.cons 13 .pure (.cons 14 .eff (.cons 15 .pure (.cons 16 .pure (.cons 17 .eff .nil)))))))))))))))))) (fun w => Knows w ([(b3, Cells (noteO note) 72)])) 11 mo (by kernel_rfl) (fun _ h => h.take aT) ?_
      refine D_p rfl rfl rfl (q_move rfl) ?_
      refine D_p rfl rfl rfl (q_move rfl) ?_
      refine D_p rfl rfl rfl (q_move rfl) ?_
      refine D_p rfl rfl rfl (q_move rfl) ?_
      refine D_p rfl rfl rfl (q_fieldAddr fb_72_5 rfl rfl) ?_
      refine D_r rfl rfl rfl (q_load ag_31 rfl aP rfl) ?_
      refine D_p rfl rfl rfl (q_nilCheck rfl) ?_
      refine D_p rfl rfl rfl (q_fieldAddr fb_111_1 rfl rfl) ?_
      refine D_e rfl rfl rfl (e_store sz_4 rfl rfl rfl aU (by first | decide | exact Nat.le_of_ble_eq_true rfl | simp [splice, Value.cells])) (.inr (fun _ _ h => h.take aT)) ?_
      intro _
      refine D_p rfl rfl rfl (q_nilCheck rfl) ?_
      refine D_p rfl rfl rfl (q_fieldAddr fb_111_2 rfl rfl) ?_
      refine D_e rfl rfl rfl (e_store sz_31 rfl rfl rfl aU (by first | decide | exact Nat.le_of_ble_eq_true rfl | simp [splice, Value.cells])) (.inl rfl) ?_
      intro _
      refine D_p rfl rfl rfl (q_nilCheck rfl) ?_
      refine D_p rfl rfl rfl (q_fieldAddr fb_111_3 rfl rfl) ?_
      refine D_e rfl rfl rfl (e_store sz_31 rfl rfl rfl aU (by first | decide | exact Nat.le_of_ble_eq_true rfl | simp [splice, Value.cells])) (.inl rfl) ?_
      intro _
      refine D_p rfl rfl rfl (q_nilCheck rfl) ?_
      refine D_p rfl rfl rfl (q_fieldAddr fb_111_4 rfl rfl) ?_
      refine D_e rfl rfl rfl (e_store sz_31 rfl rfl rfl aU (by first | decide | exact Nat.le_of_ble_eq_true rfl | simp [splice, Value.cells])) (.inl rfl) ?_
      intro _
      refine D_nil ?_
      intro a w ha hk
      exfalso; simp_all
     ·
      try simp only [CL] at ht71
      have hlk : Qd.lookA x.ranks note.job = none := by simpa using ht71
      have hlm : Qd.lookA x.n.ranks note.job = none := by rw [NodeA.look, hlk]; rfl
      refine C_skip ?_
      intro a w ha hk
      exact R_val (e := .normal) (.inr rfl) ha.defers (res0 rfl) (hR _ _ _ ⟨rfl, (x.upd x.ranks true x.outs x.osl x.ov), { hx with keys := hx.keys, osl := hx.osl, ov := hx.ov, outs := hx.outs }, by have ht59x : x.n.wrong = false := ht59; rw [act5 ht52, hlm, NodeA.upd_n]; simp [ht59x]; try exact ⟨rfl, rfl⟩, rfl, rfl⟩ (hk.take (by (try simp only [NodeA.upd, NodeA.kb_eq]); exact aT)))
    ·
     try simp only [CL] at ht63
     refine wm (i := 10) rfl rfl rfl rfl ?_
     refine W_call (i := 11) rfl rfl rfl rfl rfl rfl pf_59 (s_running x hx h1) (by rw [NodeA.kb_eq]; exact (tk_cons1 (by repeat (first | exact tk_one | apply tk_app | apply tk_cons)) (tk_cons1 (by repeat (first | exact tk_one | apply tk_app | apply tk_cons)) (tk_both aC (tk_both aC (tk_both aC aC)))))) ?_
     rintro _ _ ⟨rfl, rfl⟩
     simp only [NodeA.kb_eq, List.cons_append, List.append_assoc]
     refine W_q (i := 12) rfl rfl rfl (q_int rfl rfl rfl) ?_
     refine W_q (i := 13) rfl rfl rfl (q_pickF rfl rfl) ?_
     refine wc (i := 14) rfl rfl rfl rfl ?_
     refine W_q (i := 15) rfl rfl rfl (q_fieldAddr fb_107_4 rfl rfl) ?_
     refine W_e (i := 16) rfl rfl rfl (e_store sz_4 rfl rfl rfl aU (by first | decide | exact Nat.le_of_ble_eq_true rfl | simp [splice, Value.cells])) ?_
     intro _
     refine W_nil ?_
     refine N_seq ?_
     refine C_seq ?_
     refine C_region ?_
     refine wm (i := 0) rfl rfl rfl rfl ?_
     refine W_q (i := 1) rfl rfl rfl (q_neRptr Tryz.underlying112 rfl rfl) ?_
     refine W_nil ?_
     refine N_seq ?_
     refine C_cond rfl (fun ht71 => ?_) (fun ht71 => ?_)
     ·
      try simp only [CL] at ht71
      obtain ⟨a1, hlk⟩ : ∃ a, Qd.lookA x.ranks note.job = some a := Option.isSome_iff_exists.1 ht71
      have hrp := rptrV_some hlk
      rw [hrp]
      have hlm : Qd.lookA x.n.ranks note.job = some a1.r := by rw [NodeA.look, hlk]; rfl
      refine C_to ((x.upd x.ranks (x.n.running != 0) x.outs x.osl x.ov).kb ++ ((b3, Cells (noteO note) 72) :: F)) (by (try simp only [NodeA.upd, NodeA.kb_eq]); exact aT) ?_
      refine C_perm _ ?_ ((NodeA.open_ (x := (x.upd x.ranks (x.n.running != 0) x.outs x.osl x.ov)) hlk).append_right ((b3, Cells (noteO note) 72) :: F))
      rw [NodeA.opn_eq]
      try simp only [NL]
      refine C_draw (.cons 0 .pure (.cons 1 .pure (.cons 2 .pure (.cons 3 .pure (.cons 4 .pure (.cons 5 .read (.cons 6 .pure (.cons 7 .pure (.cons 8 .eff (.cons 9 .pure (.cons 10 .pure (.cons 11 .eff (.cons 12 .pure (.cons 13 .pure (.cons 14 .eff (.cons 15 .pure (.cons 16 .pure (.cons 17 .eff .nil)))))))))))))))))) (fun w => Knows w ([(b3, Cells (noteO note) 72)])) 11 mo (by kernel_rfl) (fun _ h => h.take aT) ?_
      refine D_p rfl rfl rfl (q_move rfl) ?_
      refine D_p rfl rfl rfl (q_move rfl) ?_
      refine D_p rfl rfl rfl (q_move rfl) ?_
      refine D_p rfl rfl rfl (q_move rfl) ?_
      refine D_p rfl rfl rfl (q_fieldAddr fb_72_5 rfl rfl) ?_
      refine D_r rfl rfl rfl (q_load ag_31 rfl aP rfl) ?_
      refine D_p rfl rfl rfl (q_nilCheck rfl) ?_
      refine D_p rfl rfl rfl (q_fieldAddr fb_111_1 rfl rfl) ?_
      refine D_e rfl rfl rfl (e_store sz_4 rfl rfl rfl aU (by first | decide | exact Nat.le_of_ble_eq_true rfl | simp [splice, Value.cells])) (.inr (fun _ _ h => h.take aT)) ?_
      intro _
      refine D_p rfl rfl rfl (q_nilCheck rfl) ?_
      refine D_p rfl rfl rfl (q_fieldAddr fb_111_2 rfl rfl) ?_
      refine D_e rfl rfl rfl (e_store sz_31 rfl rfl rfl aU (by first | decide | exact Nat.le_of_ble_eq_true rfl | simp [splice, Value.cells])) (.inl rfl) ?_
      intro _
      refine D_p rfl rfl rfl (q_nilCheck rfl) ?_
      refine D_p rfl rfl rfl (q_fieldAddr fb_111_3 rfl rfl) ?_
      refine D_e rfl rfl rfl (e_store sz_31 rfl rfl rfl aU (by first | decide | exact Nat.le_of_ble_eq_true rfl | simp [splice, Value.cells])) (.inl rfl) ?_
      intro _
      refine D_p rfl rfl rfl (q_nilCheck rfl) ?_
      refine D_p rfl rfl rfl (q_fieldAddr fb_111_4 rfl rfl) ?_
      refine D_e rfl rfl rfl (e_store sz_31 rfl rfl rfl aU (by first | decide | exact Nat.le_of_ble_eq_true rfl | simp [splice, Value.cells])) (.inl rfl) ?_
      intro _
      refine D_nil ?_
      intro a w ha hk
      exact R_val (e := .normal) (.inr rfl) ha.defers (res0 rfl) (hR _ _ _ ⟨rfl, (x.upd x.ranks (x.n.running != 0) x.outs x.osl x.ov).set note.job (⟨{ a1.r with run := true, gen := note.gen, frm := 0, to := 0 }, a1.blk⟩ : RankA), ({ hx with keys := hx.keys, osl := hx.osl, ov := hx.ov, outs := hx.outs } : (x.upd x.ranks (x.n.running != 0) x.outs x.osl x.ov).Ok).set hlk, by have ht59x : x.n.wrong = false := ht59; rw [act5 ht52, hlm, NodeA.set_n, NodeA.upd_n]; by_cases h0 : x.n.running = 0 <;> simp [h0, ht59x] <;> exact ⟨rfl, rfl⟩, rfl, rfl⟩ ((hk.take (T := (x.upd x.ranks (x.n.running != 0) x.outs x.osl x.ov).opn note.job (⟨{ a1.r with run := true, gen := note.gen, frm := 0, to := 0 }, a1.blk⟩ : RankA) (mapV RankA.ptr x.ranks) (mapKb RankA.kb (Qd.delA x.ranks note.job)) ++ F) (by (try simp only [NodeA.opn_eq, NodeA.upd]); exact aT)).perm ((NodeA.close_ (x := (x.upd x.ranks (x.n.running != 0) x.outs x.osl x.ov)) (a' := (⟨{ a1.r with run := true, gen := note.gen, frm := 0, to := 0 }, a1.blk⟩ : RankA)) hlk rfl).append_right F)))
     ·
      try simp only [CL] at ht71
      have hlk : Qd.lookA x.ranks note.job = none := by simpa using ht71
      have hlm : Qd.lookA x.n.ranks note.job = none := by rw [NodeA.look, hlk]; rfl
      refine C_skip ?_
      intro a w ha hk
      exfalso; simp_all
  ·
   try simp only [CL] at ht52
   refine C_seq ?_
   refine C_region ?_
   refine W_q (i := 0) rfl rfl rfl (q_int rfl rfl rfl) ?_
   refine wa (i := 1) rfl rfl rfl rfl ?_
   refine W_nil ?_
   refine N_seq ?_
   refine C_cond rfl (fun ht86 => ?_) (fun ht86 => ?_)
   ·
    try simp only [CL] at ht86
    refine C_seq ?_
    refine C_region ?_
    refine W_q (i := 0) rfl rfl rfl (q_fieldAddr fb_72_5 rfl rfl) ?_
    refine W_q (i := 1) rfl rfl rfl (q_load ag_31 rfl aP rfl) ?_
    refine W_q (i := 2) rfl rfl rfl (q_build (vs := [(0, .int .u8 7), (5, .int .u32 note.gen)]) (cs := (noteO ({ kind := 7, gen := note.gen } : Qd.Note)).toArray) ps_72 zf_72 rfl (by simp [Instr.fill, Value.cells, noteO, noteV])) ?_
    refine W_e (i := 3) rfl rfl rfl (e_alloc zf_72) ?_
    intro b5
    refine W_e (i := 4) rfl rfl rfl (e_storeAgg (us := (noteO ({ kind := 7, gen := note.gen } : Qd.Note))) sz_72 rfl rfl rfl rfl (by exact Upd.here) (by first | exact Nat.le_refl _ | (simp [Value.cells]; done) | (simp [Value.cells]; exact Nat.le_refl _))) ?_
    intro _
    refine W_nil ?_
    refine N_seq ?_
    refine C_seq ?_
    refine C_seq ?_
    refine C_region ?_
    refine wm (i := 0) rfl rfl rfl rfl ?_
    refine W_call (i := 1) rfl rfl rfl rfl rfl rfl pf_59 (s_running x hx h1) (by rw [NodeA.kb_eq]; exact (tk_cons1 (by repeat (first | exact tk_one | apply tk_app | apply tk_cons)) (tk_cons1 (by repeat (first | exact tk_one | apply tk_app | apply tk_cons)) (tk_both aC (tk_both aC (tk_both aC aC)))))) ?_
    rintro _ _ ⟨rfl, rfl⟩
    simp only [NodeA.kb_eq, List.cons_append, List.append_assoc]
    obtain ⟨job, hjob⟩ : ∃ job, x.n.running = job := ⟨_, rfl⟩
    rw [hjob]
    refine wa (i := 2) rfl rfl rfl rfl ?_
    refine W_nil ?_
    refine N_seq ?_
    refine C_seq ?_
    refine C_region ?_
    refine wm (i := 0) rfl rfl rfl rfl ?_
    refine W_q (i := 1) rfl rfl rfl (q_int rfl rfl rfl) ?_
    refine W_nil ?_
    refine N_seq ?_
    refine C_cond rfl (fun ht94 => ?_) (fun ht94 => ?_)
    ·
     try simp only [CL] at ht94
     obtain ⟨a1, hlk⟩ := run_look hx (by rw [hjob]; exact ht94)
     rw [hjob] at hlk
     have hlm : Qd.lookA x.n.ranks job = some a1.r := by rw [NodeA.look, hlk]; rfl
     refine C_to (x.kb ++ ((b5, Cells (noteO ({ kind := 7, gen := note.gen } : Qd.Note)) 72) :: F)) (by (try simp only [NodeA.kb_eq]); exact aT) ?_
     refine C_perm _ ?_ ((NodeA.open_ (x := x) hlk).append_right ((b5, Cells (noteO ({ kind := 7, gen := note.gen } : Qd.Note)) 72) :: F))
     rw [NodeA.opn_eq]
     try simp only [NL]
     refine C_seq ?_
     refine C_region ?_
     refine wm (i := 0) rfl rfl rfl rfl ?_
     refine wc (i := 1) rfl rfl rfl rfl ?_
     refine W_q (i := 2) rfl rfl rfl (q_fieldAddr fb_107_1 rfl rfl) ?_
     refine W_q (i := 3) rfl rfl rfl (q_load ag_104 rfl aP rfl) ?_
     refine wm (i := 4) rfl rfl rfl rfl ?_
     refine W_q (i := 5) rfl rfl rfl (q_lookup Tryz.underlying104 Tryz.underlying31 zf_112 rfl rfl (MapAt.of aP) ((look_rptr _ _).trans (rptrV_some hlk))) ?_
     refine wa (i := 6) rfl rfl rfl rfl ?_
     refine W_nil ?_
     refine N_seq ?_
     refine C_seq ?_
     refine C_region ?_
     refine wm (i := 0) rfl rfl rfl rfl ?_
     refine wc (i := 1) rfl rfl rfl rfl ?_
     refine W_q (i := 2) rfl rfl rfl (q_fieldAddr fb_111_1 rfl rfl) ?_
     refine W_e (i := 3) rfl rfl rfl (e_store sz_4 rfl rfl rfl aU (by first | decide | exact Nat.le_of_ble_eq_true rfl | simp [splice, Value.cells])) ?_
     intro _
     refine W_nil ?_
     refine N_seq ?_
     refine C_draw (.cons 0 .pure (.cons 1 .pure (.cons 2 .pure (.cons 3 .pure (.cons 4 .read (.cons 5 .pure (.cons 6 .pure (.cons 7 .pure (.cons 8 .read (.cons 9 .pure (.cons 10 .eff (.cons 11 .pure (.cons 12 .eff (.cons 13 .pure (.cons 14 .eff .nil))))))))))))))) (fun w => Knows w ([(a1.blk, Cells (⟨{ a1.r with run := false }, a1.blk⟩ : RankA).cells 111)])) 14 mo (by kernel_rfl) (fun _ h => h.take aT) ?_
     refine D_p rfl rfl rfl (q_move rfl) ?_
     refine D_p rfl rfl rfl (q_move rfl) ?_
     refine D_p rfl rfl rfl (q_nilCheck rfl) ?_
     refine D_p rfl rfl rfl (q_fieldAddr fb_111_3 rfl rfl) ?_
     refine D_r rfl rfl rfl (q_load ag_31 rfl aP rfl) ?_
     refine D_p rfl rfl rfl (q_move rfl) ?_
     refine D_p rfl rfl rfl (q_nilCheck rfl) ?_
     refine D_p rfl rfl rfl (q_fieldAddr fb_111_4 rfl rfl) ?_
     refine D_r rfl rfl rfl (q_load ag_31 rfl aP rfl) ?_
     refine D_p rfl rfl rfl (q_fieldAddr fb_72_6 rfl rfl) ?_
     refine D_e rfl rfl rfl (e_store sz_31 rfl rfl rfl aU (by first | decide | exact Nat.le_of_ble_eq_true rfl | simp [splice, Value.cells])) (.inr (fun _ _ h => h.take aT)) ?_
     intro _
     refine D_p rfl rfl rfl (q_fieldAddr fb_72_10 rfl rfl) ?_
     refine D_e rfl rfl rfl (e_store sz_31 rfl rfl rfl aU (by first | decide | exact Nat.le_of_ble_eq_true rfl | simp [splice, Value.cells])) (.inr (fun _ _ h => h.take aT)) ?_
     intro _
     refine D_p rfl rfl rfl (q_fieldAddr fb_72_11 rfl rfl) ?_
     refine D_e rfl rfl rfl (e_store sz_31 rfl rfl rfl aU (by first | decide | exact Nat.le_of_ble_eq_true rfl | simp [splice, Value.cells])) (.inl rfl) ?_
     intro _
     refine D_nil ?_
     refine N_seq ?_
     refine C_draw (.cons 0 .pure (.cons 1 .pure (.cons 2 .pure (.cons 3 .pure (.cons 4 .read (.cons 5 .read (.cons 6 .eff (.cons 7 .eff (.cons 8 .pure (.cons 9 .pure (.cons 10 .eff .nil))))))))))) (fun w => Knows w _) 7 mo (by kernel_rfl) (fun _ h => h) ?_
     refine D_p rfl rfl rfl (q_move rfl) ?_
     refine D_p rfl rfl rfl (q_move rfl) ?_
     refine D_p rfl rfl rfl (q_nilCheck rfl) ?_
     refine D_p rfl rfl rfl (q_fieldAddr fb_107_3 rfl rfl) ?_
     refine D_r rfl rfl rfl (q_load ag_105 rfl aP rfl) ?_
     refine D_r rfl rfl rfl (q_loadAgg (us := noteO ({ kind := 7, gen := note.gen, job, frm := a1.r.frm, to := a1.r.to } : Qd.Note)) ag_72 sz_72 rfl aP (by simp [noteO, noteV]) rfl) ?_
     refine D_e rfl rfl rfl (e_lit1 Tryz.underlying105 sz_72 zf_72 (by decide) rfl rfl) (.inr (fun _ _ h => h.take aT)) ?_
     intro b122
     refine D_e rfl rfl rfl (e_app1V (us := (outV (({ kind := 7, gen := note.gen, job, frm := a1.r.frm, to := a1.r.to } : Qd.Note), Sl.nilS))) (vs' := flat outV (x.outs ++ [(({ kind := 7, gen := note.gen, job, frm := a1.r.frm, to := a1.r.to } : Qd.Note), Sl.nilS)])) Tryz.underlying105 inf_72 rfl rfl rfl hx.ov rfl aP aC hx.osl (by omega) (by omega) rfl rfl (flat_snoc x.outs (({ kind := 7, gen := note.gen, job, frm := a1.r.frm, to := a1.r.to } : Qd.Note), Sl.nilS)).symm) (.inl rfl) ?_
     rintro ⟨sl', hsl', hok'⟩
     refine D_p rfl rfl rfl (q_nilCheck rfl) ?_
     refine D_p rfl rfl rfl (q_fieldAddr fb_107_3 rfl rfl) ?_
     refine D_e rfl rfl rfl (e_store sz_105 rfl rfl rfl aU (by first | decide | exact Nat.le_of_ble_eq_true rfl | simp [splice, Value.cells])) (.inl rfl) ?_
     intro _
     refine D_nil ?_
     intro a w ha hk
     exact R_val (e := .normal) (.inr rfl) ha.defers (res0 rfl) (hR _ _ _ ⟨rfl, (x.upd x.ranks x.wrong (x.outs ++ [(({ kind := 7, gen := note.gen, job, frm := a1.r.frm, to := a1.r.to } : Qd.Note), Sl.nilS)]) sl' sl'.val).set job (⟨{ a1.r with run := false }, a1.blk⟩ : RankA), ({ hx with keys := hx.keys, osl := hok', ov := .live rfl, outs := outs_snoc hx.outs (Sl.nil_ok 1) } : (x.upd x.ranks x.wrong (x.outs ++ [(({ kind := 7, gen := note.gen, job, frm := a1.r.frm, to := a1.r.to } : Qd.Note), Sl.nilS)]) sl' sl'.val).Ok).set hlk, by rw [act6 ht86 hjob ht94 hlm, NodeA.set_n, NodeA.upd_n]; simp [NodeA.n, NodeA.mr], rfl, rfl⟩ ((hk.take (T := (x.upd x.ranks x.wrong (x.outs ++ [(({ kind := 7, gen := note.gen, job, frm := a1.r.frm, to := a1.r.to } : Qd.Note), Sl.nilS)]) sl' sl'.val).opn job (⟨{ a1.r with run := false }, a1.blk⟩ : RankA) (mapV RankA.ptr x.ranks) (mapKb RankA.kb (Qd.delA x.ranks job)) ++ F) (by (try simp only [NodeA.opn_eq, NodeA.upd, outKb_snoc, nilS_kb]); exact aT)).perm ((NodeA.close_ (x := (x.upd x.ranks x.wrong (x.outs ++ [(({ kind := 7, gen := note.gen, job, frm := a1.r.frm, to := a1.r.to } : Qd.Note), Sl.nilS)]) sl' sl'.val)) (a' := (⟨{ a1.r with run := false }, a1.blk⟩ : RankA)) hlk rfl).append_right F)))
    ·
     try simp only [CL] at ht94
     have hj0 : job = 0 := by simpa using ht94
     refine C_skip ?_
     refine N_seq ?_
     refine C_draw (.cons 0 .pure (.cons 1 .pure (.cons 2 .pure (.cons 3 .pure (.cons 4 .read (.cons 5 .read (.cons 6 .eff (.cons 7 .eff (.cons 8 .pure (.cons 9 .pure (.cons 10 .eff .nil))))))))))) (fun w => Knows w _) 7 mo (by kernel_rfl) (fun _ h => h) ?_
     refine D_p rfl rfl rfl (q_move rfl) ?_
     refine D_p rfl rfl rfl (q_move rfl) ?_
     refine D_p rfl rfl rfl (q_nilCheck rfl) ?_
     refine D_p rfl rfl rfl (q_fieldAddr fb_107_3 rfl rfl) ?_
     refine D_r rfl rfl rfl (q_load ag_105 rfl aP rfl) ?_
     refine D_r rfl rfl rfl (q_loadAgg (us := noteO ({ kind := 7, gen := note.gen } : Qd.Note)) ag_72 sz_72 rfl aP (by simp [noteO, noteV, splice, Value.cells]) rfl) ?_
     refine D_e rfl rfl rfl (e_lit1 Tryz.underlying105 sz_72 zf_72 (by decide) rfl rfl) (.inr (fun _ _ h => h.take aT)) ?_
     intro b122
     refine D_e rfl rfl rfl (e_app1V (us := (outV (({ kind := 7, gen := note.gen } : Qd.Note), Sl.nilS))) (vs' := flat outV (x.outs ++ [(({ kind := 7, gen := note.gen } : Qd.Note), Sl.nilS)])) Tryz.underlying105 inf_72 rfl rfl rfl hx.ov rfl aP aC hx.osl (by omega) (by omega) rfl rfl (flat_snoc x.outs (({ kind := 7, gen := note.gen } : Qd.Note), Sl.nilS)).symm) (.inl rfl) ?_
     rintro ⟨sl', hsl', hok'⟩
     refine D_p rfl rfl rfl (q_nilCheck rfl) ?_
     refine D_p rfl rfl rfl (q_fieldAddr fb_107_3 rfl rfl) ?_
     refine D_e rfl rfl rfl (e_store sz_105 rfl rfl rfl aU (by first | decide | exact Nat.le_of_ble_eq_true rfl | simp [splice, Value.cells])) (.inl rfl) ?_
     intro _
     refine D_nil ?_
     intro a w ha hk
     exact R_val (e := .normal) (.inr rfl) ha.defers (res0 rfl) (hR _ _ _ ⟨rfl, (x.upd x.ranks x.wrong (x.outs ++ [(({ kind := 7, gen := note.gen } : Qd.Note), Sl.nilS)]) sl' sl'.val), { hx with keys := hx.keys, osl := hok', ov := .live rfl, outs := outs_snoc hx.outs (Sl.nil_ok 1) }, by rw [act60 ht86 (by rw [hjob]; exact hj0), NodeA.upd_n]; simp [NodeA.n, NodeA.mr], rfl, rfl⟩ (hk.take (by (try simp only [NodeA.upd, outKb_snoc, nilS_kb, NodeA.kb_eq]); exact aT)))
   ·
    try simp only [CL] at ht86
    refine C_seq ?_
    refine C_region ?_
    refine W_q (i := 0) rfl rfl rfl (q_int rfl rfl rfl) ?_
    refine wa (i := 1) rfl rfl rfl rfl ?_
    refine W_nil ?_
    refine N_seq ?_
    refine C_cond rfl (fun ht126 => ?_) (fun ht126 => ?_)
    ·
     try simp only [CL] at ht126
     refine C_seq ?_
     refine C_region ?_
     refine wm (i := 0) rfl rfl rfl rfl ?_
     refine wm (i := 1) rfl rfl rfl rfl ?_
     refine wc (i := 2) rfl rfl rfl rfl ?_
     refine W_q (i := 3) rfl rfl rfl (q_fieldAddr fb_107_4 rfl rfl) ?_
     refine W_q (i := 4) rfl rfl rfl (q_load ag_4 rfl aP rfl) ?_
     refine wm (i := 5) rfl rfl rfl rfl ?_
     refine W_bool 133 _ rfl (fun ht133 => ?_) (fun ht133 => ?_)
     ·
      try simp only [CL] at ht133
      refine W_skip (i := 6) rfl rfl rfl ?_
      refine W_skip (i := 7) rfl rfl rfl ?_
      refine W_q (i := 8) rfl rfl rfl (q_pickT rfl rfl) ?_
      refine wm (i := 9) rfl rfl rfl rfl ?_
      refine W_skip (i := 10) rfl rfl rfl ?_
      refine W_skip (i := 11) rfl rfl rfl ?_
      refine W_skip (i := 12) rfl rfl rfl ?_
      refine W_skip (i := 13) rfl rfl rfl ?_
      refine W_q (i := 14) rfl rfl rfl (q_pickT rfl rfl) ?_
      refine wc (i := 15) rfl rfl rfl rfl ?_
      refine W_q (i := 16) rfl rfl rfl (q_fieldAddr fb_107_4 rfl rfl) ?_
      refine W_e (i := 17) rfl rfl rfl (e_store sz_4 rfl rfl rfl aU (by first | decide | exact Nat.le_of_ble_eq_true rfl | simp [splice, Value.cells])) ?_
      intro _
      refine W_nil ?_
      refine N_seq ?_
      refine C_seq ?_
      refine C_region ?_
      refine wm (i := 0) rfl rfl rfl rfl ?_
      refine W_q (i := 1) rfl rfl rfl (q_neRptr Tryz.underlying112 rfl rfl) ?_
      refine W_nil ?_
      refine N_seq ?_
      refine C_cond rfl (fun ht146 => ?_) (fun ht146 => ?_)
      ·
       try simp only [CL] at ht146
       obtain ⟨a1, hlk⟩ : ∃ a, Qd.lookA x.ranks note.job = some a := Option.isSome_iff_exists.1 ht146
       have hrp := rptrV_some hlk
       rw [hrp]
       have hlm : Qd.lookA x.n.ranks note.job = some a1.r := by rw [NodeA.look, hlk]; rfl
       refine C_draw (.cons 0 .pure (.cons 1 .pure (.cons 2 .pure (.cons 3 .pure (.cons 4 .read (.cons 5 .pure (.cons 6 .read (.cons 7 .pure (.cons 8 .read (.cons 9 .pure (.cons 10 .pure (.cons 11 .pure (.cons 12 .read (.cons 13 .pure (.cons 14 .pure (.cons 15 .pure (.cons 16 .read (.cons 17 .pure (.cons 18 .read (.cons 19 .pure (.cons 20 .eff (.cons 21 .pure (.cons 22 .eff (.cons 23 .eff (.cons 24 .pure (.cons 25 .pure (.cons 26 .eff .nil))))))))))))))))))))))))))) (fun w => Knows w _) 23 mo (by kernel_rfl) (fun _ h => h) ?_
       refine D_p rfl rfl rfl (q_move rfl) ?_
       refine D_p rfl rfl rfl (q_move rfl) ?_
       refine D_p rfl rfl rfl (q_nilCheck rfl) ?_
       refine D_p rfl rfl rfl (q_fieldAddr fb_107_3 rfl rfl) ?_
       refine D_r rfl rfl rfl (q_load ag_105 rfl aP rfl) ?_
       refine D_p rfl rfl rfl (q_fieldAddr fb_72_6 rfl rfl) ?_
       refine D_r rfl rfl rfl (q_load ag_31 rfl aP rfl) ?_
       refine D_p rfl rfl rfl (q_fieldAddr fb_72_7 rfl rfl) ?_
       refine D_r rfl rfl rfl (q_load ag_31 rfl aP rfl) ?_
       refine D_p rfl rfl rfl (q_move rfl) ?_
       refine D_p rfl rfl rfl (q_nilCheck rfl) ?_
       refine D_p rfl rfl rfl (q_fieldAddr fb_111_0 rfl rfl) ?_
       refine D_r rfl rfl rfl (q_loadM (v := .int .u8 a1.r.place) ag_5 rfl (mem_of_perm (A := mapKb RankA.kb x.ranks) aC (by rw [(mapKb_at RankA.kb hlk).mem_iff]; exact .head _)) rfl) ?_
       refine D_p rfl rfl rfl (q_move rfl) ?_
       refine D_p rfl rfl rfl (q_nilCheck rfl) ?_
       refine D_p rfl rfl rfl (q_fieldAddr fb_111_0 rfl rfl) ?_
       refine D_r rfl rfl rfl (q_loadM (v := .int .u8 a1.r.place) ag_5 rfl (mem_of_perm (A := mapKb RankA.kb x.ranks) aC (by rw [(mapKb_at RankA.kb hlk).mem_iff]; exact .head _)) rfl) ?_
       refine D_p rfl rfl rfl (q_fieldAddr fb_72_9 rfl rfl) ?_
       refine D_r rfl rfl rfl (q_load ag_3 rfl aP rfl) ?_
       refine D_p rfl rfl rfl (q_conv Tryz.underlying3 Tryz.underlying5 rfl (r := note.credit % 256) (wrap_u8 _)) ?_
       refine D_e rfl rfl rfl (e_lit2 Tryz.underlying22 sz_5 zf_5 rfl rfl) (.inr (fun _ _ h => h.take aT)) ?_
       intro b167
       refine D_lit (l := 2) (sz := 1) .here rfl ?_
       refine D_p rfl rfl rfl (q_build (vs := [(0, .int .u8 9), (6, .int .u32 note.job), (7, .int .u32 note.ver), (8, .int .u8 a1.r.place), (12, (⟨some (b167, 0), 2, 2⟩ : Sl).val)]) (cs := (outV (({ kind := 9, job := note.job, ver := note.ver, rank := a1.r.place, blob := [a1.r.place, note.credit % 256] } : Qd.Note), (⟨some (b167, 0), 2, 2⟩ : Sl))).toArray) ps_72 zf_72 rfl (by simp [Instr.fill, Value.cells, outV, noteV, Sl.val])) ?_
       refine D_e rfl rfl rfl (e_lit1 Tryz.underlying105 sz_72 zf_72 (by decide) rfl rfl) (.inr (fun _ _ h => h.take aT)) ?_
       intro b169
       refine D_e rfl rfl rfl (e_app1V (us := (outV (({ kind := 9, job := note.job, ver := note.ver, rank := a1.r.place, blob := [a1.r.place, note.credit % 256] } : Qd.Note), (⟨some (b167, 0), 2, 2⟩ : Sl)))) (vs' := flat outV (x.outs ++ [(({ kind := 9, job := note.job, ver := note.ver, rank := a1.r.place, blob := [a1.r.place, note.credit % 256] } : Qd.Note), (⟨some (b167, 0), 2, 2⟩ : Sl))])) Tryz.underlying105 inf_72 rfl rfl rfl hx.ov rfl aP aC hx.osl (by omega) (by omega) rfl rfl (flat_snoc x.outs (({ kind := 9, job := note.job, ver := note.ver, rank := a1.r.place, blob := [a1.r.place, note.credit % 256] } : Qd.Note), (⟨some (b167, 0), 2, 2⟩ : Sl))).symm) (.inl rfl) ?_
       rintro ⟨sl', hsl', hok'⟩
       refine D_p rfl rfl rfl (q_nilCheck rfl) ?_
       refine D_p rfl rfl rfl (q_fieldAddr fb_107_3 rfl rfl) ?_
       refine D_e rfl rfl rfl (e_store sz_105 rfl rfl rfl aU (by first | decide | exact Nat.le_of_ble_eq_true rfl | simp [splice, Value.cells])) (.inl rfl) ?_
       intro _
       refine D_nil ?_
       intro a w ha hk
       exact R_val (e := .normal) (.inr rfl) ha.defers (res0 rfl) (hR _ _ _ ⟨rfl, (x.upd x.ranks true (x.outs ++ [(({ kind := 9, job := note.job, ver := note.ver, rank := a1.r.place, blob := [a1.r.place, note.credit % 256] } : Qd.Note), (⟨some (b167, 0), 2, 2⟩ : Sl))]) sl' sl'.val), { hx with keys := hx.keys, osl := hok', ov := .live rfl, outs := outs_snoc hx.outs ⟨rfl, Nat.le_refl _, by simp⟩ }, by have ht133x : x.n.wrong = true := ht133; rw [act8 ht126, hlm, NodeA.upd_n]; simp [NodeA.n, NodeA.mr]; first | exact .inl ht133x | simpa [NodeA.n] using ht133x | (intro h; exact absurd h (by simp [show x.wrong = false from ht133x])), rfl, rfl⟩ (hk.take (by (try simp only [NodeA.upd, outKb_snoc, NodeA.kb_eq]); exact aT)))
      ·
       try simp only [CL] at ht146
       have hlk : Qd.lookA x.ranks note.job = none := by simpa using ht146
       have hlm : Qd.lookA x.n.ranks note.job = none := by rw [NodeA.look, hlk]; rfl
       refine C_skip ?_
       intro a w ha hk
       exact R_val (e := .normal) (.inr rfl) ha.defers (res0 rfl) (hR _ _ _ ⟨rfl, (x.upd x.ranks true x.outs x.osl x.ov), { hx with keys := hx.keys, osl := hx.osl, ov := hx.ov, outs := hx.outs }, by rw [act8 ht126, hlm, NodeA.upd_n]; simp [NodeA.n, NodeA.mr], rfl, rfl⟩ (hk.take (by (try simp only [NodeA.upd, NodeA.kb_eq]); exact aT)))
     ·
      try simp only [CL] at ht133
      refine wm (i := 6) rfl rfl rfl rfl ?_
      refine W_q (i := 7) rfl rfl rfl (q_eqRptr Tryz.underlying112 rfl rfl) ?_
      refine W_q (i := 8) rfl rfl rfl (q_pickF rfl rfl) ?_
      refine wm (i := 9) rfl rfl rfl rfl ?_
      refine W_bool 137 _ rfl (fun ht137 => ?_) (fun ht137 => ?_)
      ·
       try simp only [CL] at ht137
       refine W_skip (i := 10) rfl rfl rfl ?_
       refine W_skip (i := 11) rfl rfl rfl ?_
       refine W_skip (i := 12) rfl rfl rfl ?_
       refine W_skip (i := 13) rfl rfl rfl ?_
       refine W_q (i := 14) rfl rfl rfl (q_pickT rfl rfl) ?_
       refine wc (i := 15) rfl rfl rfl rfl ?_
       refine W_q (i := 16) rfl rfl rfl (q_fieldAddr fb_107_4 rfl rfl) ?_
       refine W_e (i := 17) rfl rfl rfl (e_store sz_4 rfl rfl rfl aU (by first | decide | exact Nat.le_of_ble_eq_true rfl | simp [splice, Value.cells])) ?_
       intro _
       refine W_nil ?_
       refine N_seq ?_
       refine C_seq ?_
       refine C_region ?_
       refine wm (i := 0) rfl rfl rfl rfl ?_
       refine W_q (i := 1) rfl rfl rfl (q_neRptr Tryz.underlying112 rfl rfl) ?_
       refine W_nil ?_
       refine N_seq ?_
       refine C_cond rfl (fun ht146 => ?_) (fun ht146 => ?_)
       ·
        try simp only [CL] at ht146
        obtain ⟨a1, hlk⟩ : ∃ a, Qd.lookA x.ranks note.job = some a := Option.isSome_iff_exists.1 ht146
        have hrp := rptrV_some hlk
        rw [hrp]
        have hlm : Qd.lookA x.n.ranks note.job = some a1.r := by rw [NodeA.look, hlk]; rfl
        refine C_draw (.cons 0 .pure (.cons 1 .pure (.cons 2 .pure (.cons 3 .pure (.cons 4 .read (.cons 5 .pure (.cons 6 .read (.cons 7 .pure (.cons 8 .read (.cons 9 .pure (.cons 10 .pure (.cons 11 .pure (.cons 12 .read (.cons 13 .pure (.cons 14 .pure (.cons 15 .pure (.cons 16 .read (.cons 17 .pure (.cons 18 .read (.cons 19 .pure (.cons 20 .eff (.cons 21 .pure (.cons 22 .eff (.cons 23 .eff (.cons 24 .pure (.cons 25 .pure (.cons 26 .eff .nil))))))))))))))))))))))))))) (fun w => Knows w _) 23 mo (by kernel_rfl) (fun _ h => h) ?_
        refine D_p rfl rfl rfl (q_move rfl) ?_
        refine D_p rfl rfl rfl (q_move rfl) ?_
        refine D_p rfl rfl rfl (q_nilCheck rfl) ?_
        refine D_p rfl rfl rfl (q_fieldAddr fb_107_3 rfl rfl) ?_
        refine D_r rfl rfl rfl (q_load ag_105 rfl aP rfl) ?_
        refine D_p rfl rfl rfl (q_fieldAddr fb_72_6 rfl rfl) ?_
        refine D_r rfl rfl rfl (q_load ag_31 rfl aP rfl) ?_
        refine D_p rfl rfl rfl (q_fieldAddr fb_72_7 rfl rfl) ?_
        refine D_r rfl rfl rfl (q_load ag_31 rfl aP rfl) ?_
        refine D_p rfl rfl rfl (q_move rfl) ?_
        refine D_p rfl rfl rfl (q_nilCheck rfl) ?_
        refine D_p rfl rfl rfl (q_fieldAddr fb_111_0 rfl rfl) ?_
        refine D_r rfl rfl rfl (q_loadM (v := .int .u8 a1.r.place) ag_5 rfl (mem_of_perm (A := mapKb RankA.kb x.ranks) aC (by rw [(mapKb_at RankA.kb hlk).mem_iff]; exact .head _)) rfl) ?_
        refine D_p rfl rfl rfl (q_move rfl) ?_
        refine D_p rfl rfl rfl (q_nilCheck rfl) ?_
        refine D_p rfl rfl rfl (q_fieldAddr fb_111_0 rfl rfl) ?_
        refine D_r rfl rfl rfl (q_loadM (v := .int .u8 a1.r.place) ag_5 rfl (mem_of_perm (A := mapKb RankA.kb x.ranks) aC (by rw [(mapKb_at RankA.kb hlk).mem_iff]; exact .head _)) rfl) ?_
        refine D_p rfl rfl rfl (q_fieldAddr fb_72_9 rfl rfl) ?_
        refine D_r rfl rfl rfl (q_load ag_3 rfl aP rfl) ?_
        refine D_p rfl rfl rfl (q_conv Tryz.underlying3 Tryz.underlying5 rfl (r := note.credit % 256) (wrap_u8 _)) ?_
        refine D_e rfl rfl rfl (e_lit2 Tryz.underlying22 sz_5 zf_5 rfl rfl) (.inr (fun _ _ h => h.take aT)) ?_
        intro b167
        refine D_lit (l := 2) (sz := 1) .here rfl ?_
        refine D_p rfl rfl rfl (q_build (vs := [(0, .int .u8 9), (6, .int .u32 note.job), (7, .int .u32 note.ver), (8, .int .u8 a1.r.place), (12, (⟨some (b167, 0), 2, 2⟩ : Sl).val)]) (cs := (outV (({ kind := 9, job := note.job, ver := note.ver, rank := a1.r.place, blob := [a1.r.place, note.credit % 256] } : Qd.Note), (⟨some (b167, 0), 2, 2⟩ : Sl))).toArray) ps_72 zf_72 rfl (by simp [Instr.fill, Value.cells, outV, noteV, Sl.val])) ?_
        refine D_e rfl rfl rfl (e_lit1 Tryz.underlying105 sz_72 zf_72 (by decide) rfl rfl) (.inr (fun _ _ h => h.take aT)) ?_
        intro b169
        refine D_e rfl rfl rfl (e_app1V (us := (outV (({ kind := 9, job := note.job, ver := note.ver, rank := a1.r.place, blob := [a1.r.place, note.credit % 256] } : Qd.Note), (⟨some (b167, 0), 2, 2⟩ : Sl)))) (vs' := flat outV (x.outs ++ [(({ kind := 9, job := note.job, ver := note.ver, rank := a1.r.place, blob := [a1.r.place, note.credit % 256] } : Qd.Note), (⟨some (b167, 0), 2, 2⟩ : Sl))])) Tryz.underlying105 inf_72 rfl rfl rfl hx.ov rfl aP aC hx.osl (by omega) (by omega) rfl rfl (flat_snoc x.outs (({ kind := 9, job := note.job, ver := note.ver, rank := a1.r.place, blob := [a1.r.place, note.credit % 256] } : Qd.Note), (⟨some (b167, 0), 2, 2⟩ : Sl))).symm) (.inl rfl) ?_
        rintro ⟨sl', hsl', hok'⟩
        refine D_p rfl rfl rfl (q_nilCheck rfl) ?_
        refine D_p rfl rfl rfl (q_fieldAddr fb_107_3 rfl rfl) ?_
        refine D_e rfl rfl rfl (e_store sz_105 rfl rfl rfl aU (by first | decide | exact Nat.le_of_ble_eq_true rfl | simp [splice, Value.cells])) (.inl rfl) ?_
        intro _
        refine D_nil ?_
        intro a w ha hk
        exfalso; simp_all
       ·
        try simp only [CL] at ht146
        have hlk : Qd.lookA x.ranks note.job = none := by simpa using ht146
        have hlm : Qd.lookA x.n.ranks note.job = none := by rw [NodeA.look, hlk]; rfl
        refine C_skip ?_
        intro a w ha hk
        exact R_val (e := .normal) (.inr rfl) ha.defers (res0 rfl) (hR _ _ _ ⟨rfl, (x.upd x.ranks true x.outs x.osl x.ov), { hx with keys := hx.keys, osl := hx.osl, ov := hx.ov, outs := hx.outs }, by rw [act8 ht126, hlm, NodeA.upd_n]; simp [NodeA.n, NodeA.mr], rfl, rfl⟩ (hk.take (by (try simp only [NodeA.upd, NodeA.kb_eq]); exact aT)))
      ·
       try simp only [CL] at ht137
       have hs137 : (Qd.lookA x.ranks note.job).isSome = true := by cases h : Qd.lookA x.ranks note.job <;> simp_all
       obtain ⟨a1, hlk⟩ : ∃ a, Qd.lookA x.ranks note.job = some a := Option.isSome_iff_exists.1 hs137
       have hrp := rptrV_some hlk
       rw [hrp]
       have hlm : Qd.lookA x.n.ranks note.job = some a1.r := by rw [NodeA.look, hlk]; rfl
       refine wm (i := 10) rfl rfl rfl rfl ?_
       refine wc (i := 11) rfl rfl rfl rfl ?_
       refine W_q (i := 12) rfl rfl rfl (q_fieldAddr fb_111_1 rfl rfl) ?_
       refine W_q (i := 13) rfl rfl rfl (q_loadM (v := .bool a1.r.run) ag_4 rfl (mem_of_perm (A := mapKb RankA.kb x.ranks) aC (by rw [(mapKb_at RankA.kb hlk).mem_iff]; exact .head _)) rfl) ?_
       refine W_q (i := 14) rfl rfl rfl (q_pickF rfl rfl) ?_
       refine wc (i := 15) rfl rfl rfl rfl ?_
       refine W_q (i := 16) rfl rfl rfl (q_fieldAddr fb_107_4 rfl rfl) ?_
       refine W_e (i := 17) rfl rfl rfl (e_store sz_4 rfl rfl rfl aU (by first | decide | exact Nat.le_of_ble_eq_true rfl | simp [splice, Value.cells])) ?_
       intro _
       refine W_nil ?_
       refine N_seq ?_
       refine C_seq ?_
       refine C_region ?_
       refine wm (i := 0) rfl rfl rfl rfl ?_
       refine W_q (i := 1) rfl rfl rfl (q_nePtrNil Tryz.underlying112 rfl rfl) ?_
       refine W_nil ?_
       refine N_seq ?_
       refine C_cond rfl (fun ht146 => ?_) (fun ht146 => ?_)
       ·
        try simp only [CL] at ht146
        refine C_draw (.cons 0 .pure (.cons 1 .pure (.cons 2 .pure (.cons 3 .pure (.cons 4 .read (.cons 5 .pure (.cons 6 .read (.cons 7 .pure (.cons 8 .read (.cons 9 .pure (.cons 10 .pure (.cons 11 .pure (.cons 12 .read (.cons 13 .pure (.cons 14 .pure (.cons 15 .pure (.cons 16 .read (.cons 17 .pure (.cons 18 .read (.cons 19 .pure (.cons 20 .eff (.cons 21 .pure (.cons 22 .eff (.cons 23 .eff (.cons 24 .pure (.cons 25 .pure (.cons 26 .eff .nil))))))))))))))))))))))))))) (fun w => Knows w _) 23 mo (by kernel_rfl) (fun _ h => h) ?_
        refine D_p rfl rfl rfl (q_move rfl) ?_
        refine D_p rfl rfl rfl (q_move rfl) ?_
        refine D_p rfl rfl rfl (q_nilCheck rfl) ?_
        refine D_p rfl rfl rfl (q_fieldAddr fb_107_3 rfl rfl) ?_
        refine D_r rfl rfl rfl (q_load ag_105 rfl aP rfl) ?_
        refine D_p rfl rfl rfl (q_fieldAddr fb_72_6 rfl rfl) ?_
        refine D_r rfl rfl rfl (q_load ag_31 rfl aP rfl) ?_
        refine D_p rfl rfl rfl (q_fieldAddr fb_72_7 rfl rfl) ?_
        refine D_r rfl rfl rfl (q_load ag_31 rfl aP rfl) ?_
        refine D_p rfl rfl rfl (q_move rfl) ?_
        refine D_p rfl rfl rfl (q_nilCheck rfl) ?_
        refine D_p rfl rfl rfl (q_fieldAddr fb_111_0 rfl rfl) ?_
        refine D_r rfl rfl rfl (q_loadM (v := .int .u8 a1.r.place) ag_5 rfl (mem_of_perm (A := mapKb RankA.kb x.ranks) aC (by rw [(mapKb_at RankA.kb hlk).mem_iff]; exact .head _)) rfl) ?_
        refine D_p rfl rfl rfl (q_move rfl) ?_
        refine D_p rfl rfl rfl (q_nilCheck rfl) ?_
        refine D_p rfl rfl rfl (q_fieldAddr fb_111_0 rfl rfl) ?_
        refine D_r rfl rfl rfl (q_loadM (v := .int .u8 a1.r.place) ag_5 rfl (mem_of_perm (A := mapKb RankA.kb x.ranks) aC (by rw [(mapKb_at RankA.kb hlk).mem_iff]; exact .head _)) rfl) ?_
        refine D_p rfl rfl rfl (q_fieldAddr fb_72_9 rfl rfl) ?_
        refine D_r rfl rfl rfl (q_load ag_3 rfl aP rfl) ?_
        refine D_p rfl rfl rfl (q_conv Tryz.underlying3 Tryz.underlying5 rfl (r := note.credit % 256) (wrap_u8 _)) ?_
        refine D_e rfl rfl rfl (e_lit2 Tryz.underlying22 sz_5 zf_5 rfl rfl) (.inr (fun _ _ h => h.take aT)) ?_
        intro b167
        refine D_lit (l := 2) (sz := 1) .here rfl ?_
        refine D_p rfl rfl rfl (q_build (vs := [(0, .int .u8 9), (6, .int .u32 note.job), (7, .int .u32 note.ver), (8, .int .u8 a1.r.place), (12, (⟨some (b167, 0), 2, 2⟩ : Sl).val)]) (cs := (outV (({ kind := 9, job := note.job, ver := note.ver, rank := a1.r.place, blob := [a1.r.place, note.credit % 256] } : Qd.Note), (⟨some (b167, 0), 2, 2⟩ : Sl))).toArray) ps_72 zf_72 rfl (by simp [Instr.fill, Value.cells, outV, noteV, Sl.val])) ?_
        refine D_e rfl rfl rfl (e_lit1 Tryz.underlying105 sz_72 zf_72 (by decide) rfl rfl) (.inr (fun _ _ h => h.take aT)) ?_
        intro b169
        refine D_e rfl rfl rfl (e_app1V (us := (outV (({ kind := 9, job := note.job, ver := note.ver, rank := a1.r.place, blob := [a1.r.place, note.credit % 256] } : Qd.Note), (⟨some (b167, 0), 2, 2⟩ : Sl)))) (vs' := flat outV (x.outs ++ [(({ kind := 9, job := note.job, ver := note.ver, rank := a1.r.place, blob := [a1.r.place, note.credit % 256] } : Qd.Note), (⟨some (b167, 0), 2, 2⟩ : Sl))])) Tryz.underlying105 inf_72 rfl rfl rfl hx.ov rfl aP aC hx.osl (by omega) (by omega) rfl rfl (flat_snoc x.outs (({ kind := 9, job := note.job, ver := note.ver, rank := a1.r.place, blob := [a1.r.place, note.credit % 256] } : Qd.Note), (⟨some (b167, 0), 2, 2⟩ : Sl))).symm) (.inl rfl) ?_
        rintro ⟨sl', hsl', hok'⟩
        refine D_p rfl rfl rfl (q_nilCheck rfl) ?_
        refine D_p rfl rfl rfl (q_fieldAddr fb_107_3 rfl rfl) ?_
        refine D_e rfl rfl rfl (e_store sz_105 rfl rfl rfl aU (by first | decide | exact Nat.le_of_ble_eq_true rfl | simp [splice, Value.cells])) (.inl rfl) ?_
        intro _
        refine D_nil ?_
        intro a w ha hk
        exact R_val (e := .normal) (.inr rfl) ha.defers (res0 rfl) (hR _ _ _ ⟨rfl, (x.upd x.ranks a1.r.run (x.outs ++ [(({ kind := 9, job := note.job, ver := note.ver, rank := a1.r.place, blob := [a1.r.place, note.credit % 256] } : Qd.Note), (⟨some (b167, 0), 2, 2⟩ : Sl))]) sl' sl'.val), { hx with keys := hx.keys, osl := hok', ov := .live rfl, outs := outs_snoc hx.outs ⟨rfl, Nat.le_refl _, by simp⟩ }, by have ht133x : x.n.wrong = false := ht133; rw [act8 ht126, hlm, NodeA.upd_n]; simp [NodeA.n, NodeA.mr]; first | exact .inl ht133x | simpa [NodeA.n] using ht133x | (intro h; exact absurd h (by simp [show x.wrong = false from ht133x])), rfl, rfl⟩ (hk.take (by (try simp only [NodeA.upd, outKb_snoc, NodeA.kb_eq]); exact aT)))
       ·
        try simp only [CL] at ht146
        have hlk0 := hlk
        refine C_skip ?_
        intro a w ha hk
        exfalso; simp_all
    ·
     try simp only [CL] at ht126
     refine C_seq ?_
     refine C_region ?_
     refine W_q (i := 0) rfl rfl rfl (q_int rfl rfl rfl) ?_
     refine wa (i := 1) rfl rfl rfl rfl ?_
     refine W_nil ?_
     refine N_seq ?_
     refine C_cond rfl (fun ht173 => ?_) (fun ht173 => ?_)
     ·
      try simp only [CL] at ht173
      refine C_seq ?_
      refine C_draw (.cons 0 .pure (.cons 1 .pure (.cons 2 .pure (.cons 3 .read (.cons 4 .pure (.cons 5 .read (.cons 6 .eff .nil))))))) (fun w => Knows w _) 6 mo (by kernel_rfl) (fun _ h => h) ?_
      refine D_p rfl rfl rfl (q_move rfl) ?_
      refine D_p rfl rfl rfl (q_nilCheck rfl) ?_
      refine D_p rfl rfl rfl (q_fieldAddr fb_107_1 rfl rfl) ?_
      refine D_r rfl rfl rfl (q_load ag_104 rfl aP rfl) ?_
      refine D_p rfl rfl rfl (q_fieldAddr fb_72_6 rfl rfl) ?_
      refine D_r rfl rfl rfl (q_load ag_31 rfl aP rfl) ?_
      refine D_e rfl rfl rfl (e_delete Tryz.underlying104 Tryz.underlying31 rfl rfl rfl (delI_mapV RankA.ptr x.ranks note.job) aU) (.inl rfl) ?_
      intro _
      refine D_nil ?_
      refine N_seq ?_
      refine C_draw (.cons 0 .pure (.cons 1 .pure (.cons 2 .pure (.cons 3 .pure (.cons 4 .read (.cons 5 .pure (.cons 6 .read (.cons 7 .pure (.cons 8 .eff (.cons 9 .eff (.cons 10 .pure (.cons 11 .pure (.cons 12 .eff .nil))))))))))))) (fun w => Knows w _) 9 mo (by kernel_rfl) (fun _ h => h) ?_
      refine D_p rfl rfl rfl (q_move rfl) ?_
      refine D_p rfl rfl rfl (q_move rfl) ?_
      refine D_p rfl rfl rfl (q_nilCheck rfl) ?_
      refine D_p rfl rfl rfl (q_fieldAddr fb_107_3 rfl rfl) ?_
      refine D_r rfl rfl rfl (q_load ag_105 rfl aP rfl) ?_
      refine D_p rfl rfl rfl (q_fieldAddr fb_72_6 rfl rfl) ?_
      refine D_r rfl rfl rfl (q_load ag_31 rfl aP rfl) ?_
      refine D_p rfl rfl rfl (q_build (vs := [(0, .int .u8 11), (6, .int .u32 note.job)]) (cs := (noteO ({ kind := 11, job := note.job } : Qd.Note)).toArray) ps_72 zf_72 rfl (by simp [Instr.fill, Value.cells, noteO, noteV])) ?_
      refine D_e rfl rfl rfl (e_lit1 Tryz.underlying105 sz_72 zf_72 (by decide) rfl rfl) (.inr (fun _ _ h => h.take aT)) ?_
      intro b189
      refine D_e rfl rfl rfl (e_app1V (us := (outV (({ kind := 11, job := note.job } : Qd.Note), Sl.nilS))) (vs' := flat outV (x.outs ++ [(({ kind := 11, job := note.job } : Qd.Note), Sl.nilS)])) Tryz.underlying105 inf_72 rfl rfl rfl hx.ov rfl aP aC hx.osl (by omega) (by omega) rfl rfl (flat_snoc x.outs (({ kind := 11, job := note.job } : Qd.Note), Sl.nilS)).symm) (.inl rfl) ?_
      rintro ⟨sl', hsl', hok'⟩
      refine D_p rfl rfl rfl (q_nilCheck rfl) ?_
      refine D_p rfl rfl rfl (q_fieldAddr fb_107_3 rfl rfl) ?_
      refine D_e rfl rfl rfl (e_store sz_105 rfl rfl rfl aU (by first | decide | exact Nat.le_of_ble_eq_true rfl | simp [splice, Value.cells])) (.inl rfl) ?_
      intro _
      refine D_nil ?_
      intro a w ha hk
      exact R_val (e := .normal) (.inr rfl) ha.defers (res0 rfl) (hR _ _ _ ⟨rfl, (x.upd (Qd.delA x.ranks note.job) x.wrong (x.outs ++ [(({ kind := 11, job := note.job } : Qd.Note), Sl.nilS)]) sl' sl'.val), { hx with keys := hx.keys.sublist (Qd.keys_del _ _), osl := hok', ov := .live rfl, outs := outs_snoc hx.outs (Sl.nil_ok 1) }, by rw [act10 ht173, NodeA.upd_n]; simp [NodeA.n, NodeA.mr]; exact (Qd.delA_map (fun a : RankA => a.r) _ _).symm, rfl, rfl⟩ ((rank_del note.job (hk.take (T := ((mapKb RankA.kb x.ranks ++ ((x.blk, Cells (x.upd (Qd.delA x.ranks note.job) x.wrong (x.outs ++ [(({ kind := 11, job := note.job } : Qd.Note), Sl.nilS)]) sl' sl'.val).cells 107) :: (x.rb, MapI .u32 (mapV RankA.ptr (x.upd (Qd.delA x.ranks note.job) x.wrong (x.outs ++ [(({ kind := 11, job := note.job } : Qd.Note), Sl.nilS)]) sl' sl'.val).ranks)) :: ((x.upd (Qd.delA x.ranks note.job) x.wrong (x.outs ++ [(({ kind := 11, job := note.job } : Qd.Note), Sl.nilS)]) sl' sl'.val).isl.kb (flat noteO (x.upd (Qd.delA x.ranks note.job) x.wrong (x.outs ++ [(({ kind := 11, job := note.job } : Qd.Note), Sl.nilS)]) sl' sl'.val).inn) 13 72 ++ ((x.upd (Qd.delA x.ranks note.job) x.wrong (x.outs ++ [(({ kind := 11, job := note.job } : Qd.Note), Sl.nilS)]) sl' sl'.val).osl.kb (flat outV (x.upd (Qd.delA x.ranks note.job) x.wrong (x.outs ++ [(({ kind := 11, job := note.job } : Qd.Note), Sl.nilS)]) sl' sl'.val).outs) 13 72 ++ (outKb (x.upd (Qd.delA x.ranks note.job) x.wrong (x.outs ++ [(({ kind := 11, job := note.job } : Qd.Note), Sl.nilS)]) sl' sl'.val).outs ++ F))))))) (by (try simp only [NodeA.upd, outKb_snoc, nilS_kb]); exact aT))).take (by (try simp only [NodeA.upd, outKb_snoc, nilS_kb, NodeA.kb_eq]); exact aT)))
     ·
      try simp only [CL] at ht173
      refine C_skip ?_
      intro a w ha hk
      exact R_val (e := .normal) (.inr rfl) ha.defers (res0 rfl) (hR _ _ _ ⟨rfl, x, hx, (act_no ht17 ht52 ht86 ht126 ht173).symm, rfl, rfl⟩ (hk.take (by (try simp only [NodeA.kb_eq]); exact aT)))
end Go.SL
namespace Go.SL
open Go Go.Proofs
set_option maxRecDepth 10000
/-! ## the statements' brain, and nodes -/
def setT (xs : List Int) : List (Int × Value) := xs.map fun x => (x, .bool true)
theorem putI_setT (xs : List Int) (x : Int) : putI (setT xs) x (.bool true) = setT (Qd.addS xs x) := by
  unfold Qd.addS setT
  induction xs with
  | nil => rfl
  | cons a xs ih =>
    simp only [List.map_cons, putI]
    by_cases h : x = a
    · subst h; simp
    · rw [if_neg h, ih]
      by_cases h2 : x ∈ xs
      · simp [h2]
      · simp [h, h2]
theorem lookI_setT (xs : List Int) (x : Int) : (lookI (setT xs) x).getD (.bool false) = .bool (decide (x ∈ xs)) := by
  unfold setT
  induction xs with
  | nil => rfl
  | cons a xs ih =>
    simp only [List.map_cons, lookI]
    by_cases h : x = a
    · subst h; simp
    · rw [if_neg h, ih]; simp [h]
def i64V (i : Int) : Value := .int .i64 i
def u32V (i : Int) : Value := .int .u32 i
def jobAgg (j : Qd.ApiJob) : Value := .agg (jobV j).toArray
def nodesKb (l : List NodeA) : KB := l.flatMap NodeA.kb
theorem nodesKb_cons (x : NodeA) (l : List NodeA) : nodesKb (x :: l) = x.kb ++ nodesKb l := rfl
theorem nodes_at : ∀ {l : List NodeA} {i : Nat} {x : NodeA}, l[i]? = some x → (nodesKb l).Perm (x.kb ++ nodesKb (l.eraseIdx i))
  | [], i, x, h => by simp at h
  | a :: l, 0, x, h => by simp at h; subst h; exact List.Perm.refl _
  | a :: l, i + 1, x, h => by
    simp only [List.getElem?_cons_succ] at h
    rw [nodesKb_cons, List.eraseIdx_cons_succ, nodesKb_cons]
    refine ((nodes_at h).append_left a.kb).trans ?_
    rw [← List.append_assoc, ← List.append_assoc]
    exact List.perm_append_comm.append_right _
theorem nodes_put {l : List NodeA} {i : Nat} {x : NodeA} (x' : NodeA) (h : l[i]? = some x) : (x'.kb ++ nodesKb (l.eraseIdx i)).Perm (nodesKb (l.set i x')) := by
  have h1 : (l.set i x')[i]? = some x' := by rw [List.getElem?_set]; simp [(List.getElem?_eq_some_iff.1 h).1]
  have h2 := nodes_at h1
  rw [List.eraseIdx_set_eq] at h2
  exact h2.symm
structure SimA where
  y : BrA
  c : Qd.Config
  nodes : List NodeA
  now : Int
  next : Int
  ran : List (Int × Int)
  jobs : List (Int × Qd.ApiJob)
  gone : List Int
  done : List Int
  ims : List ImA
  warned : List (Int × Int)
  drops : List Int
  warns : List Int
  blk : Nat
  nsl : Sl
  ranB : Nat
  jobsB : Nat
  goneB : Nat
  doneB : Nat
  isl : Sl
  iv : Value
  warnB : Nat
  dsl : Sl
  wsl : Sl
def SimA.m (s : SimA) : Qd.Sim := { b := s.y.b, c := s.c, nodes := s.nodes.map (·.n), now := s.now, next := s.next, ran := s.ran, jobs := s.jobs, gone := s.gone, done := s.done, images := s.ims.map (·.i), warned := s.warned, drops := s.drops, warns := s.warns }
def SimA.cells (s : SimA) : List Value := [s.y.ptr, .int .i64 s.c.nodes, .int .i64 s.c.rows, .int .i64 s.c.quantum, .int .i64 s.c.grace, s.nsl.val, .int .u32 s.now, .int .u32 s.next, .map (some s.ranB), .map (some s.jobsB), .map (some s.goneB), .map (some s.doneB), s.iv, .map (some s.warnB), s.dsl.val, s.wsl.val]
def SimA.ptr (s : SimA) : Value := .pointer (some ⟨s.blk, 0, none⟩)
def nptrs (l : List NodeA) : List Value := l.map NodeA.ptr
def SimA.kb (s : SimA) : KB := (s.blk, Cells s.cells 55) :: (s.ranB, MapI .u32 (mapV i64V s.ran)) :: (s.jobsB, MapI .u32 (mapV jobAgg s.jobs)) :: (s.goneB, MapI .u32 (setT s.gone)) :: (s.doneB, MapI .u32 (setT s.done)) :: (s.warnB, MapI .u32 (mapV u32V s.warned)) ::
  (s.y.kb ++ (s.nsl.kb (nptrs s.nodes) 1 103 ++ (s.isl.kb (flat ImA.cells s.ims) 4 60 ++ (imsKb s.ims ++ (s.dsl.kb (encU s.drops) 1 31 ++ (s.wsl.kb (encU s.warns) 1 31 ++ nodesKb s.nodes))))))
theorem SimA.kb_eq (s : SimA) : s.kb = (s.blk, Cells s.cells 55) :: (s.ranB, MapI .u32 (mapV i64V s.ran)) :: (s.jobsB, MapI .u32 (mapV jobAgg s.jobs)) :: (s.goneB, MapI .u32 (setT s.gone)) :: (s.doneB, MapI .u32 (setT s.done)) :: (s.warnB, MapI .u32 (mapV u32V s.warned)) ::
  (s.y.kb ++ (s.nsl.kb (nptrs s.nodes) 1 103 ++ (s.isl.kb (flat ImA.cells s.ims) 4 60 ++ (imsKb s.ims ++ (s.dsl.kb (encU s.drops) 1 31 ++ (s.wsl.kb (encU s.warns) 1 31 ++ nodesKb s.nodes)))))) := rfl
structure SimA.Ok (s : SimA) : Prop where
  y : s.y.Ok
  nodes : ∀ x ∈ s.nodes, x.Ok
  nsl : s.nsl.Ok (nptrs s.nodes) 1
  isl : s.isl.Ok (flat ImA.cells s.ims) 4
  iv : SlV s.isl s.iv
  ims : ∀ x ∈ s.ims, x.Ok
  dsl : s.dsl.Ok (encU s.drops) 1
  wsl : s.wsl.Ok (encU s.warns) 1
theorem nptrs_at {l : List NodeA} {i : Nat} {x : NodeA} (h : l[i]? = some x) : (nptrs l)[i]? = some x.ptr := by simp [nptrs, h]
/-- a node in a node's place -/
def SimA.setN (s : SimA) (i : Nat) (x : NodeA) : SimA := { s with nodes := s.nodes.set i x }
theorem nptrs_set {l : List NodeA} {i : Nat} {x x' : NodeA} (h : l[i]? = some x) (hp : x'.ptr = x.ptr) : nptrs (l.set i x') = nptrs l := by
  simp only [nptrs, List.map_set, hp]
  have : (l.map NodeA.ptr)[i]? = some x.ptr := by simp [h]
  exact set_same this
theorem SimA.Ok.setN {s : SimA} (hs : s.Ok) {i : Nat} {x x' : NodeA} (h : s.nodes[i]? = some x) (hx : x'.Ok) (hp : x'.ptr = x.ptr) : (s.setN i x').Ok :=
  { hs with nodes := fun z hz => (List.mem_or_eq_of_mem_set hz).elim (hs.nodes z) (fun e => e ▸ hx), nsl := by show s.nsl.Ok (nptrs (s.nodes.set i x')) 1; rw [nptrs_set h hp]; exact hs.nsl }
theorem SimA.setN_m {s : SimA} {i : Nat} {x : NodeA} : (s.setN i x).m = { s.m with nodes := s.m.nodes.set i x.n } := by simp [SimA.m, SimA.setN, List.map_set]
/-- the brain in the brain's place -/
def SimA.setY (s : SimA) (y : BrA) : SimA := { s with y }
/-- all but the nodes -/
def SimA.kb0 (s : SimA) : KB := (s.blk, Cells s.cells 55) :: (s.ranB, MapI .u32 (mapV i64V s.ran)) :: (s.jobsB, MapI .u32 (mapV jobAgg s.jobs)) :: (s.goneB, MapI .u32 (setT s.gone)) :: (s.doneB, MapI .u32 (setT s.done)) :: (s.warnB, MapI .u32 (mapV u32V s.warned)) ::
  (s.y.kb ++ (s.nsl.kb (nptrs s.nodes) 1 103 ++ (s.isl.kb (flat ImA.cells s.ims) 4 60 ++ (imsKb s.ims ++ (s.dsl.kb (encU s.drops) 1 31 ++ s.wsl.kb (encU s.warns) 1 31)))))
theorem SimA.kb0_eq (s : SimA) : s.kb0 = (s.blk, Cells s.cells 55) :: (s.ranB, MapI .u32 (mapV i64V s.ran)) :: (s.jobsB, MapI .u32 (mapV jobAgg s.jobs)) :: (s.goneB, MapI .u32 (setT s.gone)) :: (s.doneB, MapI .u32 (setT s.done)) :: (s.warnB, MapI .u32 (mapV u32V s.warned)) ::
  (s.y.kb ++ (s.nsl.kb (nptrs s.nodes) 1 103 ++ (s.isl.kb (flat ImA.cells s.ims) 4 60 ++ (imsKb s.ims ++ (s.dsl.kb (encU s.drops) 1 31 ++ s.wsl.kb (encU s.warns) 1 31))))) := rfl
theorem SimA.kb_split (s : SimA) : s.kb = s.kb0 ++ nodesKb s.nodes := by simp [SimA.kb_eq, SimA.kb0_eq]
theorem SimA.open_ {s : SimA} {i : Nat} {x : NodeA} (h : s.nodes[i]? = some x) : s.kb.Perm (x.kb ++ (nodesKb (s.nodes.eraseIdx i) ++ s.kb0)) := by
  rw [SimA.kb_split, ← List.append_assoc]
  exact ((nodes_at h).append_left _).trans List.perm_append_comm
theorem SimA.close_ {s : SimA} {i : Nat} {x x' : NodeA} (h : s.nodes[i]? = some x) (hp : x'.ptr = x.ptr) : (x'.kb ++ (nodesKb (s.nodes.eraseIdx i) ++ s.kb0)).Perm (s.setN i x').kb := by
  rw [SimA.kb_split (s.setN i x'), ← List.append_assoc]
  have h1 : (s.setN i x').kb0 = s.kb0 := by simp only [SimA.kb0_eq, SimA.setN, SimA.cells, nptrs_set h hp]
  rw [h1]
  exact List.perm_append_comm.trans ((nodes_put x' h).append_left _)
end Go.SL
namespace Go.SL
open Go Go.Proofs
set_option maxRecDepth 10000
theorem SimA.m_s (s : SimA) : (s.blk, Cells s.cells 55) ∈ s.kb := by rw [SimA.kb_eq]; exact .head _
theorem SimA.p_nsl (s : SimA) : ∃ R, s.kb.Perm (s.nsl.kb (nptrs s.nodes) 1 103 ++ R) := ⟨_, by rw [SimA.kb_eq]; repeat (first | exact tk_here | exact tk_all | apply tk_app | apply tk_cons)⟩
theorem SimA.m_n {s : SimA} {i : Nat} {x : NodeA} (h : s.nodes[i]? = some x) : (x.blk, Cells x.cells 107) ∈ s.kb := by rw [(SimA.open_ h).mem_iff]; exact .head _
def NodeA.push (x : NodeA) (note : Qd.Note) (sl : Sl) : NodeA := { x with inn := x.inn ++ [note], isl := sl, iv := sl.val }
def NodeA.bad (x : NodeA) : NodeA := { x with wrong := true }
theorem NodeA.Ok.push {x : NodeA} (hx : x.Ok) {note : Qd.Note} {sl : Sl} (h : sl.Ok (flat noteO (x.inn ++ [note])) 13) : (x.push note sl).Ok := { hx with isl := h, iv := .live rfl }
theorem NodeA.Ok.bad {x : NodeA} (hx : x.Ok) : x.bad.Ok := { hx with }
structure SimA.Room (s : SimA) (k : Nat) : Prop where
  inn : ∀ x ∈ s.nodes, x.inn.length ≤ k
  ims : s.ims.length ≤ k
  drops : s.drops.length ≤ k
  warns : s.warns.length ≤ k
structure TkInv (s0 si : SimA) (m : Qd.Sim) (k : Nat) : Prop where
  ok : si.Ok
  m : si.m = m
  blk : si.blk = s0.blk
  y : si.y = s0.y
  len : si.nodes.length = s0.nodes.length
  room : si.Room k
theorem modify_set {α : Type} {l : List α} {i : Nat} {x : α} {f : α → α} (h : l[i]? = some x) : l.modify i f = l.set i (f x) := (set_modify h rfl).symm
theorem SimA.nodes_m {s : SimA} {i : Nat} {x : NodeA} (h : s.nodes[i]? = some x) : s.m.nodes[i]? = some x.n := by simp [SimA.m, h]
theorem wrong0 {s : SimA} {x : NodeA} (h : s.nodes[0]? = some x) : (s.setN 0 x.bad).m = s.m.setWrong0 := by
  rw [SimA.setN_m, Qd.Sim.setWrong0, modify_set (SimA.nodes_m h)]; rfl
theorem takeOne_bad {s : Qd.Sim} {o : Qd.Order} (h : o.to < 0 ∨ o.to ≥ s.nodes.length ∨ (!((s.nodes[o.to.toNat]?).map (·.up)).getD false) = true) : s.takeOne o = s.setWrong0 := by
  unfold Qd.Sim.takeOne; exact if_pos h
def tk2 (s : Qd.Sim) (o : Qd.Order) : Qd.Sim :=
  let s := if o.note.kind = 10 then { s with drops := s.drops ++ [o.note.job] } else s
  if o.note.kind = 12 then { s with warned := Qd.putA s.warned o.note.job o.note.tick, warns := s.warns ++ [o.note.job] } else s
theorem takeOne_good {s : Qd.Sim} {o : Qd.Order} {n : Qd.Node} (h0 : 0 ≤ o.to) (h1 : s.nodes[o.to.toNat]? = some n) (h2 : n.up = true) : s.takeOne o = tk2 { s with nodes := s.nodes.set o.to.toNat { n with inn := n.inn ++ [o.note] } } o := by
  have hl := (List.getElem?_eq_some_iff.1 h1).1
  unfold Qd.Sim.takeOne
  rw [if_neg (by simp [h1, h2]; omega), modify_set h1]
  rfl
theorem tk_step {m : Qd.Sim} {os : List Qd.Order} {i : Nat} {o : Qd.Order} (h : os[i]? = some o) : (os.take (i + 1)).foldl Qd.Sim.takeOne m = ((os.take i).foldl Qd.Sim.takeOne m).takeOne o := by
  rw [List.take_add_one, h, List.foldl_append]; rfl
theorem SimA.Room.mono {s : SimA} {j k : Nat} (h : s.Room j) (hk : j ≤ k) : s.Room k := ⟨fun x hx => Nat.le_trans (h.inn x hx) hk, Nat.le_trans h.ims hk, Nat.le_trans h.drops hk, Nat.le_trans h.warns hk⟩
theorem SimA.Room.setN {s : SimA} {j k : Nat} (h : s.Room j) (hk : j ≤ k) (i : Nat) {x : NodeA} (hx : x.inn.length ≤ k) : (s.setN i x).Room k :=
  ⟨fun z hz => (List.mem_or_eq_of_mem_set hz).elim (fun h1 => Nat.le_trans (h.inn z h1) hk) (fun e => e ▸ hx), Nat.le_trans h.ims hk, Nat.le_trans h.drops hk, Nat.le_trans h.warns hk⟩
theorem TkInv.bad {s0 si : SimA} {m : Qd.Sim} {k : Nat} (h : TkInv s0 si m k) {x : NodeA} (hx : si.nodes[0]? = some x) : TkInv s0 (si.setN 0 x.bad) m.setWrong0 (k + 1) :=
  ⟨h.ok.setN hx (h.ok.nodes x (List.mem_of_getElem? hx)).bad rfl, by rw [wrong0 hx, h.m], h.blk, h.y, by simp [SimA.setN, h.len], h.room.setN (Nat.le_succ k) 0 (Nat.le_trans (h.room.inn x (List.mem_of_getElem? hx)) (Nat.le_succ k))⟩
theorem TkInv.good {s0 si : SimA} {m : Qd.Sim} {k : Nat} (h : TkInv s0 si m k) {i : Nat} {x : NodeA} (hx : si.nodes[i]? = some x) {note : Qd.Note} {sl : Sl} (hs : sl.Ok (flat noteO (x.inn ++ [note])) 13) : TkInv s0 (si.setN i (x.push note sl)) { m with nodes := m.nodes.set i { x.n with inn := x.n.inn ++ [note] } } (k + 1) :=
  ⟨h.ok.setN hx ((h.ok.nodes x (List.mem_of_getElem? hx)).push hs) rfl, by rw [SimA.setN_m, h.m]; rfl, h.blk, h.y, by simp [SimA.setN, h.len], h.room.setN (Nat.le_succ k) i (by simp [NodeA.push]; exact h.room.inn x (List.mem_of_getElem? hx))⟩
theorem SimA.Ok.setY {s : SimA} (hs : s.Ok) {y : BrA} (hy : y.Ok) : (s.setY y).Ok := { hs with y := hy }
def SimA.drp (s : SimA) (drops : List Int) (dsl : Sl) : SimA := { s with drops, dsl }
def SimA.wrn (s : SimA) (warned : List (Int × Int)) (warns : List Int) (wsl : Sl) : SimA := { s with warned, warns, wsl }
theorem tk2_drop {m : Qd.Sim} {o : Qd.Order} (h : o.note.kind = 10) : tk2 m o = { m with drops := m.drops ++ [o.note.job] } := by unfold tk2; simp [h]
theorem tk2_warn {m : Qd.Sim} {o : Qd.Order} (h : o.note.kind = 12) : tk2 m o = { m with warned := Qd.putA m.warned o.note.job o.note.tick, warns := m.warns ++ [o.note.job] } := by unfold tk2; simp [h]
theorem tk2_none {m : Qd.Sim} {o : Qd.Order} (h1 : ¬ o.note.kind = 10) (h2 : ¬ o.note.kind = 12) : tk2 m o = m := by unfold tk2; simp [h1, h2]
theorem TkInv.up {s0 si : SimA} {m : Qd.Sim} {k i : Nat} (h : TkInv s0 si m (k + 2 * i + 1)) : TkInv s0 si m (k + 2 * (i + 1)) := { h with room := h.room.mono (by omega) }
theorem TkInv.drp {s0 s1 : SimA} {m : Qd.Sim} {o : Qd.Order} {k : Nat} (h : TkInv s0 s1 m k) {sl : Sl} (hs : sl.Ok (encU (s1.drops ++ [o.note.job])) 1) (ho : o.note.kind = 10) (_k' : Nat := k) : TkInv s0 (s1.drp (s1.drops ++ [o.note.job]) sl) (tk2 m o) (k + 1) :=
  ⟨{ h.ok with dsl := hs }, by rw [tk2_drop ho, ← h.m]; rfl, h.blk, h.y, h.len, ⟨fun x hx => Nat.le_trans (h.room.inn x hx) (Nat.le_succ k), Nat.le_trans h.room.ims (Nat.le_succ k), by simp [SimA.drp]; exact h.room.drops, Nat.le_trans h.room.warns (Nat.le_succ k)⟩⟩
theorem TkInv.wrn {s0 s1 : SimA} {m : Qd.Sim} {o : Qd.Order} {k : Nat} (h : TkInv s0 s1 m k) {sl : Sl} (hs : sl.Ok (encU (s1.warns ++ [o.note.job])) 1) (ho : o.note.kind = 12) : TkInv s0 (s1.wrn (Qd.putA s1.warned o.note.job o.note.tick) (s1.warns ++ [o.note.job]) sl) (tk2 m o) (k + 1) :=
  ⟨{ h.ok with wsl := hs }, by rw [tk2_warn ho, ← h.m]; rfl, h.blk, h.y, h.len, ⟨fun x hx => Nat.le_trans (h.room.inn x hx) (Nat.le_succ k), Nat.le_trans h.room.ims (Nat.le_succ k), Nat.le_trans h.room.drops (Nat.le_succ k), by simp [SimA.wrn]; exact h.room.warns⟩⟩
theorem TkInv.none {s0 s1 : SimA} {m : Qd.Sim} {o : Qd.Order} {k : Nat} (h : TkInv s0 s1 m k) (h1 : ¬ o.note.kind = 10) (h2 : ¬ o.note.kind = 12) : TkInv s0 s1 (tk2 m o) (k + 1) := by
  rw [tk2_none h1 h2]
  exact { h with room := h.room.mono (Nat.le_succ k) }
def SimA.img (s : SimA) (y : BrA) (ims : List ImA) (isl : Sl) (iv : Value) : SimA := { s with y, ims, isl, iv }
def SimA.dnS (s : SimA) (done : List Int) : SimA := { s with done }
theorem SimA.m_done (s : SimA) : (s.doneB, MapI .u32 (setT s.done)) ∈ s.kb := by rw [SimA.kb_eq]; simp
theorem imsKb_app (a b : List ImA) : imsKb (a ++ b) = imsKb a ++ imsKb b := by simp [imsKb]
theorem BrA.Ok.ima0 {y : BrA} (hy : y.Ok) : (y.ima [] Sl.nilS).Ok := { hy with isl := Sl.nil_ok 4, ims := fun x hx => (by cases hx) }
def dnStep (s : Qd.Sim) (id : Int) : Qd.Sim := let s := if id ∈ s.done then s.setWrong0 else s; { s with done := Qd.addS s.done id }
theorem dn_step {m : Qd.Sim} {ds : List Int} {i : Nat} {id : Int} (h : ds[i]? = some id) : (ds.take (i + 1)).foldl dnStep m = dnStep ((ds.take i).foldl dnStep m) id := by
  rw [List.take_add_one, h, List.foldl_append]; rfl
theorem dn_in {s : Qd.Sim} {id : Int} (h : id ∈ s.done) : dnStep s id = { s.setWrong0 with done := Qd.addS s.setWrong0.done id } := by unfold dnStep; rw [if_pos h]
theorem dn_out {s : Qd.Sim} {id : Int} (h : id ∉ s.done) : dnStep s id = { s with done := Qd.addS s.done id } := by unfold dnStep; rw [if_neg h]
theorem TkInv.dn {s0 s1 : SimA} {m m' : Qd.Sim} {k : Nat} (h : TkInv s0 s1 m k) (id : Int) (hm : m' = { m with done := Qd.addS m.done id }) : TkInv s0 (s1.dnS (Qd.addS s1.done id)) m' k :=
  ⟨{ h.ok with }, by rw [hm, ← h.m]; rfl, h.blk, h.y, h.len, ⟨h.room.inn, h.room.ims, h.room.drops, h.room.warns⟩⟩
theorem take_fin {m m0 m1 m4 : Qd.Sim} (h0 : m0 = { m with b := { m.b with orders := [] } }) (h1 : m1 = m.b.orders.foldl Qd.Sim.takeOne m0) (h4 : m4 = { m1 with b := m1.b.takeImages.2, images := m1.images ++ m1.b.takeImages.1 }) : m4.b.done.foldl dnStep { m4 with b := { m4.b with done := [] } } = m.take := by subst h0 h1 h4; rfl
theorem ag_103 : aggB Tryz.prog 103 = some false := by kernel_rfl
theorem ag_48 : aggB Tryz.prog 48 = some false := by kernel_rfl
theorem ag_50 : aggB Tryz.prog 50 = some false := by kernel_rfl
theorem ag_52 : aggB Tryz.prog 52 = some false := by kernel_rfl
theorem fb_107_0 : fieldB Tryz.prog 107 0 = some 0 := by kernel_rfl
theorem fb_107_2 : fieldB Tryz.prog 107 2 = some 2 := by kernel_rfl
theorem fb_55_0 : fieldB Tryz.prog 55 0 = some 0 := by kernel_rfl
theorem fb_55_10 : fieldB Tryz.prog 55 10 = some 13 := by kernel_rfl
theorem fb_55_11 : fieldB Tryz.prog 55 11 = some 14 := by kernel_rfl
theorem fb_55_12 : fieldB Tryz.prog 55 12 = some 15 := by kernel_rfl
theorem fb_55_2 : fieldB Tryz.prog 55 2 = some 5 := by kernel_rfl
theorem fb_55_8 : fieldB Tryz.prog 55 8 = some 11 := by kernel_rfl
theorem fb_55_9 : fieldB Tryz.prog 55 9 = some 12 := by kernel_rfl
theorem fb_72_4 : fieldB Tryz.prog 72 4 = some 4 := by kernel_rfl
theorem fb_97_0 : fieldB Tryz.prog 97 0 = some 0 := by kernel_rfl
theorem fb_97_1 : fieldB Tryz.prog 97 1 = some 1 := by kernel_rfl
theorem pf_16 : plainFn Tryz.prog 16 = true := by kernel_rfl
theorem pf_31 : plainFn Tryz.prog 31 = true := by kernel_rfl
theorem pf_33 : plainFn Tryz.prog 33 = true := by kernel_rfl
theorem sz_103 : sizeB Tryz.prog 103 = some 1 := by kernel_rfl
theorem zf_4 : zeroB Tryz.prog 4 = some (Go.Value.bool false) := by kernel_rfl
set_option maxHeartbeats 2000000 in
theorem s_stake [Bs] (s : SimA) (hs : s.Ok) (hne : 0 < s.nodes.length) (k : Nat) (hk0 : k ≤ 100000) (hroom : s.Room k) (hos : s.y.os.length ≤ 10000) (hdn : s.y.dn.length ≤ 10000) (hims : s.y.ims.length ≤ 10000) : Spec Tryz.prog 56 [s.ptr] (s.kb) (fun v K' => v = .tuple #[] ∧ ∃ s' : SimA, s'.Ok ∧ s'.m = s.m.take ∧ s'.ptr = s.ptr ∧ K' = s'.kb) := by
 have hosl : s.y.osl.len = s.y.os.length := by have := hs.y.osl.vlen; rw [flat_len orderV_len] at this; omega
 refine spec_body Tryz.func56 rfl rfl fun F R hR => ?_
 try simp only [NL]
 rw [SimA.kb_eq]
 try simp only [NL]
 refine C_seq ?_
 refine C_seq ?_
 refine C_region ?_
 refine wm (i := 0) rfl rfl rfl rfl ?_
 refine wc (i := 1) rfl rfl rfl rfl ?_
 refine W_q (i := 2) rfl rfl rfl (q_fieldAddr fb_55_0 rfl rfl) ?_
 refine W_q (i := 3) rfl rfl rfl (q_load ag_27 rfl aP rfl) ?_
 refine W_call (i := 4) rfl rfl rfl rfl rfl rfl pf_16 (s_btake s.y) aC ?_
 rintro _ _ ⟨rfl, rfl⟩
 try simp only [NL]
 refine W_q (i := 5) rfl rfl rfl (q_lenSl Tryz.underlying37 rfl rfl) ?_
 refine wm (i := 6) rfl rfl rfl rfl ?_
 refine W_nil ?_
 refine N_seq ?_
 refine C_block ?_
 refine C_loopT (ι := { q : Nat × SimA // q.1 ≤ s.y.os.length ∧ TkInv (s.setY (s.y.osa [] Sl.nilS)) q.2 ((s.y.os.take q.1).foldl Qd.Sim.takeOne (s.setY (s.y.osa [] Sl.nilS)).m) (k + 2 * q.1) }) (fun q => [(0, s.ptr), (10, s.y.osl.val), (11, .int .i64 (s.y.osl.len : Int)), (12, .int .i64 (q.1.1 : Int))]) (fun q => q.1.2.kb ++ (s.y.osl.kb (flat orderV s.y.os) 14 97 ++ F)) (fun q => s.y.os.length - q.1.1) ⟨(0, (s.setY (s.y.osa [] Sl.nilS))), Nat.zero_le _, ⟨hs.setY (hs.y.osa (Sl.nil_ok 14)), rfl, rfl, rfl, rfl, ⟨hroom.inn, hroom.ims, hroom.drops, hroom.warns⟩⟩⟩ aS (by (try simp only [SimA.kb_eq, SimA.setY]); exact aT) ?_
 rintro ⟨⟨i, si⟩, hi, hE⟩
 dsimp only at hi hE ⊢
 rw [show s.ptr = si.ptr from by simp only [SimA.ptr, hE.blk]; rfl]
 have hnl : si.nodes.length = s.nodes.length := hE.len
 have hnsl : si.nsl.len = si.nodes.length := by have := hE.ok.nsl.vlen; simp [nptrs] at this; omega
 refine C_seq ?_
 refine C_region ?_
 refine W_q (i := 0) rfl rfl rfl (q_int rfl rfl rfl) ?_
 refine W_nil ?_
 refine N_seq ?_
 refine C_seq ?_
 refine C_cond rfl (fun ht13 => ?_) (fun ht13 => ?_)
 ·
  try simp only [CL] at ht13
  have hil : i < s.y.os.length := by omega
  obtain ⟨o, ho⟩ : ∃ o, s.y.os[i]? = some o := ⟨_, List.getElem?_eq_getElem hil⟩
  refine C_skip ?_
  refine N_seq ?_
  refine C_seq ?_
  refine C_block ?_
  refine C_seq ?_
  refine C_region ?_
  refine W_q (i := 0) rfl rfl rfl (q_idxSl Tryz.underlying37 sz_97 hs.y.osl rfl rfl (Int.natCast_nonneg _) (by omega) rfl) ?_
  refine W_q (i := 1) rfl rfl rfl (q_loadAggSl (i := i * 14) (us := orderV o) ag_97 sz_97 rfl hs.y.osl aC (by simp) (by rw [flat_len orderV_len]; omega) (by omega) (flat_at orderV_len _ _ _ ho)) ?_
  refine W_e (i := 2) rfl rfl rfl (e_alloc zf_97) ?_
  intro b3
  refine W_e (i := 3) rfl rfl rfl (e_storeAgg (us := orderV o) sz_97 rfl rfl rfl rfl (by exact Upd.here) (by first | exact Nat.le_refl _ | (simp [Value.cells]; done) | (simp [Value.cells]; exact Nat.le_refl _))) ?_
  intro _
  refine W_nil ?_
  refine N_seq ?_
  refine C_seq ?_
  refine C_seq ?_
  refine C_draw (.cons 0 .pure (.cons 1 .read (.cons 2 .pure (.cons 3 .pure (.cons 4 .pure (.cons 5 .read (.cons 6 .pure (.cons 7 .pure (.cons 8 .pure (.cons 9 .read (.cons 10 .read (.cons 11 .pure (.cons 12 .pure (.cons 13 .pure (.cons 14 .pure (.cons 15 .pure (.cons 16 .pure (.cons 17 .read (.cons 18 .pure (.cons 19 .read (.cons 20 .pure (.cons 21 .read (.cons 22 .pure (.cons 23 .pure (.cons 24 .read (.cons 25 .pure (.cons 26 .pure .nil))))))))))))))))))))))))))) (fun w => Knows w _) 27 mo (by kernel_rfl) (fun _ h => h) ?_
  refine D_p rfl rfl rfl (q_fieldAddr fb_97_0 rfl rfl) ?_
  refine D_r rfl rfl rfl (q_load ag_3 rfl aP rfl) ?_
  refine D_p rfl rfl rfl (q_int rfl rfl rfl) ?_
  refine D_p rfl rfl rfl (q_move rfl) ?_
  refine D_bool 19 _ rfl (fun ht19 => ?_) (fun ht19 => ?_)
  ·
   try simp only [CL] at ht19
   refine D_pskip rfl rfl rfl ?_
   refine D_rskip rfl rfl rfl ?_
   refine D_pskip rfl rfl rfl ?_
   refine D_pskip rfl rfl rfl ?_
   refine D_pskip rfl rfl rfl ?_
   refine D_rskip rfl rfl rfl ?_
   refine D_rskip rfl rfl rfl ?_
   refine D_pskip rfl rfl rfl ?_
   refine D_p rfl rfl rfl (q_pickT rfl rfl) ?_
   refine D_p rfl rfl rfl (q_move rfl) ?_
   refine D_pskip rfl rfl rfl ?_
   refine D_pskip rfl rfl rfl ?_
   refine D_pskip rfl rfl rfl ?_
   refine D_rskip rfl rfl rfl ?_
   refine D_pskip rfl rfl rfl ?_
   refine D_rskip rfl rfl rfl ?_
   refine D_pskip rfl rfl rfl ?_
   refine D_rskip rfl rfl rfl ?_
   refine D_pskip rfl rfl rfl ?_
   refine D_pskip rfl rfl rfl ?_
   refine D_rskip rfl rfl rfl ?_
   refine D_pskip rfl rfl rfl ?_
   refine D_p rfl rfl rfl (q_pickT rfl rfl) ?_
   refine D_nil ?_
   refine N_seq ?_
   refine C_condT rfl ?_
   refine C_seq ?_
   refine C_to (si.kb ++ ((b3, Cells (orderV o) 97) :: (s.y.osl.kb (flat orderV s.y.os) 14 97 ++ F))) aT ?_
   obtain ⟨x0, hx0⟩ : ∃ x, si.nodes[0]? = some x := ⟨_, List.getElem?_eq_getElem (by omega)⟩
   refine C_perm _ ?_ ((SimA.open_ hx0).append_right ((b3, Cells (orderV o) 97) :: (s.y.osl.kb (flat orderV s.y.os) 14 97 ++ F)))
   rw [NodeA.kb_eq, SimA.kb0_eq]
   try simp only [NL]
   refine C_region ?_
   refine wm (i := 0) rfl rfl rfl rfl ?_
   refine wc (i := 1) rfl rfl rfl rfl ?_
   refine W_q (i := 2) rfl rfl rfl (q_fieldAddr fb_55_2 rfl rfl) ?_
   refine W_q (i := 3) rfl rfl rfl (q_load ag_48 rfl aP rfl) ?_
   refine W_q (i := 4) rfl rfl rfl (q_idxSl Tryz.underlying48 sz_103 hE.ok.nsl rfl rfl (by omega) (by omega) rfl) ?_
   refine W_q (i := 5) rfl rfl rfl (q_loadSl (i := 0) (v := x0.ptr) ag_103 rfl hE.ok.nsl aC (by simp) (nptrs_at hx0)) ?_
   refine wc (i := 6) rfl rfl rfl rfl ?_
   refine W_q (i := 7) rfl rfl rfl (q_fieldAddr fb_107_4 rfl rfl) ?_
   refine W_e (i := 8) rfl rfl rfl (e_store sz_4 rfl rfl rfl aU (by first | decide | exact Nat.le_of_ble_eq_true rfl | simp [splice, Value.cells])) ?_
   intro _
   refine W_nil ?_
   refine N_seq ?_
   refine C_exit ?_
   refine N_seq ?_
   refine C_to (x0.bad.kb ++ (nodesKb (si.nodes.eraseIdx 0) ++ si.kb0) ++ ((b3, Cells (orderV o) 97) :: (s.y.osl.kb (flat orderV s.y.os) 14 97 ++ F))) (by (try simp only [NodeA.kb_eq, NodeA.bad, SimA.kb0_eq]); exact aT) ?_
   refine C_perm _ ?_ ((SimA.close_ (x' := x0.bad) hx0 rfl).append_right ((b3, Cells (orderV o) 97) :: (s.y.osl.kb (flat orderV s.y.os) 14 97 ++ F)))
   refine C_region ?_
   refine W_q (i := 0) rfl rfl rfl (q_add rfl rfl (by first | exact wrap64_id (by omega) (by omega) | rfl)) ?_
   refine wm (i := 1) rfl rfl rfl rfl ?_
   refine W_nil ?_
   exact fun a w ha hk => ⟨⟨(i + 1, si.setN 0 x0.bad), by dsimp only; omega, by dsimp only; rw [tk_step ho, takeOne_bad (by rw [← hE.m]; exact .inl ht19)]; exact (hE.bad hx0).up⟩, by dsimp only; omega, ha.sub aS, hk.take aT⟩
  ·
   try simp only [CL] at ht19
   refine D_p rfl rfl rfl (q_fieldAddr fb_97_0 rfl rfl) ?_
   refine D_r rfl rfl rfl (q_load ag_3 rfl aP rfl) ?_
   refine D_p rfl rfl rfl (q_move rfl) ?_
   refine D_p rfl rfl rfl (q_nilCheck rfl) ?_
   refine D_p rfl rfl rfl (q_fieldAddr fb_55_2 rfl rfl) ?_
   refine D_r rfl rfl rfl (q_loadM (v := si.nsl.val) ag_48 rfl (mem_of_perm (A := si.kb) aC (SimA.m_s si)) rfl) ?_
   refine D_r rfl rfl rfl (q_lenSl Tryz.underlying48 rfl rfl) ?_
   refine D_p rfl rfl rfl (q_int rfl rfl rfl) ?_
   refine D_p rfl rfl rfl (q_pickF rfl rfl) ?_
   refine D_p rfl rfl rfl (q_move rfl) ?_
   refine D_bool 29 _ rfl (fun ht29 => ?_) (fun ht29 => ?_)
   ·
    try simp only [CL] at ht29
    refine D_pskip rfl rfl rfl ?_
    refine D_pskip rfl rfl rfl ?_
    refine D_pskip rfl rfl rfl ?_
    refine D_rskip rfl rfl rfl ?_
    refine D_pskip rfl rfl rfl ?_
    refine D_rskip rfl rfl rfl ?_
    refine D_pskip rfl rfl rfl ?_
    refine D_rskip rfl rfl rfl ?_
    refine D_pskip rfl rfl rfl ?_
    refine D_pskip rfl rfl rfl ?_
    refine D_rskip rfl rfl rfl ?_
    refine D_pskip rfl rfl rfl ?_
    refine D_p rfl rfl rfl (q_pickT rfl rfl) ?_
    refine D_nil ?_
    refine N_seq ?_
    refine C_condT rfl ?_
    refine C_seq ?_
    refine C_to (si.kb ++ ((b3, Cells (orderV o) 97) :: (s.y.osl.kb (flat orderV s.y.os) 14 97 ++ F))) aT ?_
    obtain ⟨x0, hx0⟩ : ∃ x, si.nodes[0]? = some x := ⟨_, List.getElem?_eq_getElem (by omega)⟩
    refine C_perm _ ?_ ((SimA.open_ hx0).append_right ((b3, Cells (orderV o) 97) :: (s.y.osl.kb (flat orderV s.y.os) 14 97 ++ F)))
    rw [NodeA.kb_eq, SimA.kb0_eq]
    try simp only [NL]
    refine C_region ?_
    refine wm (i := 0) rfl rfl rfl rfl ?_
    refine wc (i := 1) rfl rfl rfl rfl ?_
    refine W_q (i := 2) rfl rfl rfl (q_fieldAddr fb_55_2 rfl rfl) ?_
    refine W_q (i := 3) rfl rfl rfl (q_load ag_48 rfl aP rfl) ?_
    refine W_q (i := 4) rfl rfl rfl (q_idxSl Tryz.underlying48 sz_103 hE.ok.nsl rfl rfl (by omega) (by omega) rfl) ?_
    refine W_q (i := 5) rfl rfl rfl (q_loadSl (i := 0) (v := x0.ptr) ag_103 rfl hE.ok.nsl aC (by simp) (nptrs_at hx0)) ?_
    refine wc (i := 6) rfl rfl rfl rfl ?_
    refine W_q (i := 7) rfl rfl rfl (q_fieldAddr fb_107_4 rfl rfl) ?_
    refine W_e (i := 8) rfl rfl rfl (e_store sz_4 rfl rfl rfl aU (by first | decide | exact Nat.le_of_ble_eq_true rfl | simp [splice, Value.cells])) ?_
    intro _
    refine W_nil ?_
    refine N_seq ?_
    refine C_exit ?_
    refine N_seq ?_
    refine C_to (x0.bad.kb ++ (nodesKb (si.nodes.eraseIdx 0) ++ si.kb0) ++ ((b3, Cells (orderV o) 97) :: (s.y.osl.kb (flat orderV s.y.os) 14 97 ++ F))) (by (try simp only [NodeA.kb_eq, NodeA.bad, SimA.kb0_eq]); exact aT) ?_
    refine C_perm _ ?_ ((SimA.close_ (x' := x0.bad) hx0 rfl).append_right ((b3, Cells (orderV o) 97) :: (s.y.osl.kb (flat orderV s.y.os) 14 97 ++ F)))
    refine C_region ?_
    refine W_q (i := 0) rfl rfl rfl (q_add rfl rfl (by first | exact wrap64_id (by omega) (by omega) | rfl)) ?_
    refine wm (i := 1) rfl rfl rfl rfl ?_
    refine W_nil ?_
    exact fun a w ha hk => ⟨⟨(i + 1, si.setN 0 x0.bad), by dsimp only; omega, by dsimp only; rw [tk_step ho, takeOne_bad (by rw [← hE.m]; exact .inr (.inl (show o.to ≥ (si.m.nodes.length : Int) from by simp [SimA.m]; omega)))]; exact (hE.bad hx0).up⟩, by dsimp only; omega, ha.sub aS, hk.take aT⟩
   ·
    try simp only [CL] at ht29
    obtain ⟨x, hx⟩ : ∃ x, si.nodes[o.to.toNat]? = some x := ⟨_, List.getElem?_eq_getElem (by omega)⟩
    have hxo := hE.ok.nodes x (List.mem_of_getElem? hx)
    have hxi := hE.room.inn x (List.mem_of_getElem? hx)
    have hxl : x.isl.len = x.inn.length := by have := hxo.isl.vlen; rw [flat_len noteO_len] at this; omega
    refine D_p rfl rfl rfl (q_move rfl) ?_
    refine D_p rfl rfl rfl (q_nilCheck rfl) ?_
    refine D_p rfl rfl rfl (q_fieldAddr fb_55_2 rfl rfl) ?_
    refine D_r rfl rfl rfl (q_loadM (v := si.nsl.val) ag_48 rfl (mem_of_perm (A := si.kb) aC (SimA.m_s si)) rfl) ?_
    refine D_p rfl rfl rfl (q_fieldAddr fb_97_0 rfl rfl) ?_
    refine D_r rfl rfl rfl (q_load ag_3 rfl aP rfl) ?_
    refine D_p rfl rfl rfl (q_idxSl Tryz.underlying48 sz_103 hE.ok.nsl rfl rfl (by omega) (by omega) rfl) ?_
    refine D_r rfl rfl rfl (q_loadSlM (i := o.to.toNat) (v := x.ptr) ag_103 rfl hE.ok.nsl (perm_in (A := si.kb) aC (SimA.p_nsl si)) (by simp) (nptrs_at hx)) ?_
    refine D_p rfl rfl rfl (q_nilCheck rfl) ?_
    refine D_p rfl rfl rfl (q_fieldAddr fb_107_0 rfl rfl) ?_
    refine D_r rfl rfl rfl (q_loadM (v := .bool x.up) ag_4 rfl (mem_of_perm (A := si.kb) aC (SimA.m_n hx)) rfl) ?_
    refine D_p rfl rfl rfl (q_not rfl) ?_
    refine D_p rfl rfl rfl (q_pickF rfl rfl) ?_
    refine D_nil ?_
    refine N_seq ?_
    refine C_cond rfl (fun ht42 => ?_) (fun ht42 => ?_)
    ·
     try simp only [CL] at ht42
     refine C_seq ?_
     refine C_to (si.kb ++ ((b3, Cells (orderV o) 97) :: (s.y.osl.kb (flat orderV s.y.os) 14 97 ++ F))) aT ?_
     obtain ⟨x0, hx0⟩ : ∃ x, si.nodes[0]? = some x := ⟨_, List.getElem?_eq_getElem (by omega)⟩
     refine C_perm _ ?_ ((SimA.open_ hx0).append_right ((b3, Cells (orderV o) 97) :: (s.y.osl.kb (flat orderV s.y.os) 14 97 ++ F)))
     rw [NodeA.kb_eq, SimA.kb0_eq]
     try simp only [NL]
     refine C_region ?_
     refine wm (i := 0) rfl rfl rfl rfl ?_
     refine wc (i := 1) rfl rfl rfl rfl ?_
     refine W_q (i := 2) rfl rfl rfl (q_fieldAddr fb_55_2 rfl rfl) ?_
     refine W_q (i := 3) rfl rfl rfl (q_load ag_48 rfl aP rfl) ?_
     refine W_q (i := 4) rfl rfl rfl (q_idxSl Tryz.underlying48 sz_103 hE.ok.nsl rfl rfl (by omega) (by omega) rfl) ?_
     refine W_q (i := 5) rfl rfl rfl (q_loadSl (i := 0) (v := x0.ptr) ag_103 rfl hE.ok.nsl aC (by simp) (nptrs_at hx0)) ?_
     refine wc (i := 6) rfl rfl rfl rfl ?_
     refine W_q (i := 7) rfl rfl rfl (q_fieldAddr fb_107_4 rfl rfl) ?_
     refine W_e (i := 8) rfl rfl rfl (e_store sz_4 rfl rfl rfl aU (by first | decide | exact Nat.le_of_ble_eq_true rfl | simp [splice, Value.cells])) ?_
     intro _
     refine W_nil ?_
     refine N_seq ?_
     refine C_exit ?_
     refine N_seq ?_
     refine C_to (x0.bad.kb ++ (nodesKb (si.nodes.eraseIdx 0) ++ si.kb0) ++ ((b3, Cells (orderV o) 97) :: (s.y.osl.kb (flat orderV s.y.os) 14 97 ++ F))) (by (try simp only [NodeA.kb_eq, NodeA.bad, SimA.kb0_eq]); exact aT) ?_
     refine C_perm _ ?_ ((SimA.close_ (x' := x0.bad) hx0 rfl).append_right ((b3, Cells (orderV o) 97) :: (s.y.osl.kb (flat orderV s.y.os) 14 97 ++ F)))
     refine C_region ?_
     refine W_q (i := 0) rfl rfl rfl (q_add rfl rfl (by first | exact wrap64_id (by omega) (by omega) | rfl)) ?_
     refine wm (i := 1) rfl rfl rfl rfl ?_
     refine W_nil ?_
     exact fun a w ha hk => ⟨⟨(i + 1, si.setN 0 x0.bad), by dsimp only; omega, by dsimp only; rw [tk_step ho, takeOne_bad (by rw [← hE.m]; exact .inr (.inr (by rw [SimA.nodes_m hx]; simpa [NodeA.n] using ht42)))]; exact (hE.bad hx0).up⟩, by dsimp only; omega, ha.sub aS, hk.take aT⟩
    ·
     try simp only [CL] at ht42
     refine C_skip ?_
     refine N_seq ?_
     refine C_seq ?_
     refine C_to (si.kb ++ ((b3, Cells (orderV o) 97) :: (s.y.osl.kb (flat orderV s.y.os) 14 97 ++ F))) aT ?_
     refine C_perm _ ?_ ((SimA.open_ hx).append_right ((b3, Cells (orderV o) 97) :: (s.y.osl.kb (flat orderV s.y.os) 14 97 ++ F)))
     rw [NodeA.kb_eq, SimA.kb0_eq]
     try simp only [NL]
     refine C_draw (.cons 0 .pure (.cons 1 .pure (.cons 2 .pure (.cons 3 .read (.cons 4 .pure (.cons 5 .read (.cons 6 .pure (.cons 7 .read (.cons 8 .pure (.cons 9 .pure (.cons 10 .pure (.cons 11 .read (.cons 12 .pure (.cons 13 .read (.cons 14 .pure (.cons 15 .read (.cons 16 .pure (.cons 17 .pure (.cons 18 .read (.cons 19 .pure (.cons 20 .read (.cons 21 .eff (.cons 22 .eff (.cons 23 .pure (.cons 24 .pure (.cons 25 .eff .nil)))))))))))))))))))))))))) (fun w => Knows w ((x.blk, Cells x.cells 107) :: (si.blk, Cells si.cells 55) :: (b3, Cells (orderV o) 97) :: si.nsl.kb (nptrs si.nodes) 1 103)) 25 mo (by kernel_rfl) (fun _ h => h.take aT) ?_
     refine D_p rfl rfl rfl (q_move rfl) ?_
     refine D_p rfl rfl rfl (q_nilCheck rfl) ?_
     refine D_p rfl rfl rfl (q_fieldAddr fb_55_2 rfl rfl) ?_
     refine D_r rfl rfl rfl (q_load ag_48 rfl aP rfl) ?_
     refine D_p rfl rfl rfl (q_fieldAddr fb_97_0 rfl rfl) ?_
     refine D_r rfl rfl rfl (q_load ag_3 rfl aP rfl) ?_
     refine D_p rfl rfl rfl (q_idxSl Tryz.underlying48 sz_103 hE.ok.nsl rfl rfl (by omega) (by omega) rfl) ?_
     refine D_r rfl rfl rfl (q_loadSl (i := o.to.toNat) (v := x.ptr) ag_103 rfl hE.ok.nsl aC (by simp) (nptrs_at hx)) ?_
     refine D_p rfl rfl rfl (q_move rfl) ?_
     refine D_p rfl rfl rfl (q_nilCheck rfl) ?_
     refine D_p rfl rfl rfl (q_fieldAddr fb_55_2 rfl rfl) ?_
     refine D_r rfl rfl rfl (q_load ag_48 rfl aP rfl) ?_
     refine D_p rfl rfl rfl (q_fieldAddr fb_97_0 rfl rfl) ?_
     refine D_r rfl rfl rfl (q_load ag_3 rfl aP rfl) ?_
     refine D_p rfl rfl rfl (q_idxSl Tryz.underlying48 sz_103 hE.ok.nsl rfl rfl (by omega) (by omega) rfl) ?_
     refine D_r rfl rfl rfl (q_loadSl (i := o.to.toNat) (v := x.ptr) ag_103 rfl hE.ok.nsl aC (by simp) (nptrs_at hx)) ?_
     refine D_p rfl rfl rfl (q_nilCheck rfl) ?_
     refine D_p rfl rfl rfl (q_fieldAddr fb_107_2 rfl rfl) ?_
     refine D_r rfl rfl rfl (q_load ag_105 rfl aP rfl) ?_
     refine D_p rfl rfl rfl (q_fieldAddr fb_97_1 rfl rfl) ?_
     refine D_r rfl rfl rfl (q_loadAgg (us := noteO o.note) ag_72 sz_72 rfl aP (by simp [orderV, noteO_len]) rfl) ?_
     refine D_e rfl rfl rfl (e_lit1 Tryz.underlying105 sz_72 zf_72 (by decide) rfl rfl) (.inr (fun _ _ h => h.take aT)) ?_
     intro b72
     refine D_e rfl rfl rfl (e_app1V (us := (noteO o.note)) (vs' := flat noteO (x.inn ++ [o.note])) Tryz.underlying105 inf_72 rfl rfl rfl hxo.iv rfl aP aC hxo.isl (by omega) (by omega) rfl rfl (flat_snoc x.inn o.note).symm) (.inr (fun _ _ h => h.take aT)) ?_
     rintro ⟨sl', hsl', hok'⟩
     refine D_p rfl rfl rfl (q_nilCheck rfl) ?_
     refine D_p rfl rfl rfl (q_fieldAddr fb_107_2 rfl rfl) ?_
     refine D_e rfl rfl rfl (e_store sz_105 rfl rfl rfl aU (by first | decide | exact Nat.le_of_ble_eq_true rfl | simp [splice, Value.cells])) (.inl rfl) ?_
     intro _
     refine D_nil ?_
     refine N_seq ?_
     refine C_seq ?_
     refine C_seq ?_
     refine C_to ((x.push o.note sl').kb ++ (nodesKb (si.nodes.eraseIdx o.to.toNat) ++ si.kb0) ++ ((b3, Cells (orderV o) 97) :: (s.y.osl.kb (flat orderV s.y.os) 14 97 ++ F))) (by (try simp only [NodeA.kb_eq, NodeA.push, SimA.kb0_eq]); exact aT) ?_
     refine C_perm _ ?_ ((SimA.close_ (x' := (x.push o.note sl')) hx rfl).append_right ((b3, Cells (orderV o) 97) :: (s.y.osl.kb (flat orderV s.y.os) 14 97 ++ F)))
     have hT := hE.good hx hok'
     obtain ⟨s1, hs1⟩ : ∃ s1, (si.setN o.to.toNat (x.push o.note sl')) = s1 := ⟨_, rfl⟩
     rw [hs1] at hT ⊢
     have hb1 : s1.blk = si.blk := by rw [← hs1]; rfl
     rw [show si.ptr = s1.ptr from by simp only [SimA.ptr, hb1]]
     have hdl1 : s1.dsl.len = s1.drops.length := by have := hT.ok.dsl.vlen; simp [encU] at this; omega
     have hwl1 : s1.wsl.len = s1.warns.length := by have := hT.ok.wsl.vlen; simp [encU] at this; omega
     have hdr1 := hT.room.drops
     have hwr1 := hT.room.warns
     refine C_region ?_
     refine W_q (i := 0) rfl rfl rfl (q_fieldAddr fb_97_1 rfl rfl) ?_
     refine W_q (i := 1) rfl rfl rfl (q_fieldAddr fb_72_0 rfl rfl) ?_
     refine W_q (i := 2) rfl rfl rfl (q_load ag_5 rfl aP rfl) ?_
     refine W_q (i := 3) rfl rfl rfl (q_int rfl rfl rfl) ?_
     refine W_nil ?_
     refine N_seq ?_
     refine C_cond rfl (fun ht79 => ?_) (fun ht79 => ?_)
     ·
      try simp only [CL] at ht79
      rw [SimA.kb_eq]
      try simp only [NL]
      refine C_draw (.cons 0 .pure (.cons 1 .pure (.cons 2 .pure (.cons 3 .pure (.cons 4 .read (.cons 5 .pure (.cons 6 .pure (.cons 7 .read (.cons 8 .eff (.cons 9 .eff (.cons 10 .pure (.cons 11 .pure (.cons 12 .eff .nil))))))))))))) (fun w => Knows w _) 9 mo (by kernel_rfl) (fun _ h => h) ?_
      refine D_p rfl rfl rfl (q_move rfl) ?_
      refine D_p rfl rfl rfl (q_move rfl) ?_
      refine D_p rfl rfl rfl (q_nilCheck rfl) ?_
      refine D_p rfl rfl rfl (q_fieldAddr fb_55_11 rfl rfl) ?_
      refine D_r rfl rfl rfl (q_load ag_53 rfl aP rfl) ?_
      refine D_p rfl rfl rfl (q_fieldAddr fb_97_1 rfl rfl) ?_
      refine D_p rfl rfl rfl (q_fieldAddr fb_72_6 rfl rfl) ?_
      refine D_r rfl rfl rfl (q_load ag_31 rfl aP rfl) ?_
      refine D_e rfl rfl rfl (e_lit1 Tryz.underlying53 sz_31 zf_31 (by decide) rfl rfl) (.inr (fun _ _ h => h.take aT)) ?_
      intro b88
      refine D_e rfl rfl rfl (e_app1 (us := [.int .u32 o.note.job]) (vs' := encU (s1.drops ++ [o.note.job])) Tryz.underlying53 inf_31 rfl rfl rfl rfl aP aC hT.ok.dsl (by omega) (by omega) rfl rfl (encU_snoc _ _)) (.inl rfl) ?_
      rintro ⟨sl2, hsl2, hok2⟩
      refine D_p rfl rfl rfl (q_nilCheck rfl) ?_
      refine D_p rfl rfl rfl (q_fieldAddr fb_55_11 rfl rfl) ?_
      refine D_e rfl rfl rfl (e_store sz_53 rfl rfl rfl aU (by first | decide | exact Nat.le_of_ble_eq_true rfl | simp [splice, Value.cells])) (.inl rfl) ?_
      intro _
      refine D_nil ?_
      refine N_seq ?_
      refine C_seq ?_
      refine C_to ((s1.drp (s1.drops ++ [o.note.job]) sl2).kb ++ ((b3, Cells (orderV o) 97) :: (s.y.osl.kb (flat orderV s.y.os) 14 97 ++ F))) (by (try simp only [SimA.kb_eq, SimA.drp]); exact aT) ?_
      refine C_region ?_
      refine W_q (i := 0) rfl rfl rfl (q_fieldAddr fb_97_1 rfl rfl) ?_
      refine W_q (i := 1) rfl rfl rfl (q_fieldAddr fb_72_0 rfl rfl) ?_
      refine W_q (i := 2) rfl rfl rfl (q_load ag_5 rfl aP rfl) ?_
      refine W_q (i := 3) rfl rfl rfl (q_int rfl rfl (v := .bool false) (by rw [ht79]; rfl)) ?_
      refine W_nil ?_
      refine N_seq ?_
      refine C_condF rfl ?_
      refine C_skip ?_
      refine N_seq ?_
      refine C_region ?_
      refine W_q (i := 0) rfl rfl rfl (q_add rfl rfl (by first | exact wrap64_id (by omega) (by omega) | rfl)) ?_
      refine wm (i := 1) rfl rfl rfl rfl ?_
      refine W_nil ?_
      exact fun a w ha hk => ⟨⟨(i + 1, (s1.drp (s1.drops ++ [o.note.job]) sl2)), by dsimp only; omega, by dsimp only; rw [tk_step ho, ← hE.m, takeOne_good (by omega) (SimA.nodes_m hx) (by simpa [NodeA.n] using ht42), hE.m]; exact hT.drp hok2 ht79⟩, by dsimp only; omega, ha.sub aS, hk.take aT⟩
     ·
      try simp only [CL] at ht79
      refine C_skip ?_
      refine N_seq ?_
      refine C_seq ?_
      refine C_region ?_
      refine W_q (i := 0) rfl rfl rfl (q_fieldAddr fb_97_1 rfl rfl) ?_
      refine W_q (i := 1) rfl rfl rfl (q_fieldAddr fb_72_0 rfl rfl) ?_
      refine W_q (i := 2) rfl rfl rfl (q_load ag_5 rfl aP rfl) ?_
      refine W_q (i := 3) rfl rfl rfl (q_int rfl rfl rfl) ?_
      refine W_nil ?_
      refine N_seq ?_
      refine C_cond rfl (fun ht95 => ?_) (fun ht95 => ?_)
      ·
       try simp only [CL] at ht95
       refine C_seq ?_
       rw [SimA.kb_eq]
       try simp only [NL]
       refine C_draw (.cons 0 .pure (.cons 1 .pure (.cons 2 .pure (.cons 3 .read (.cons 4 .pure (.cons 5 .pure (.cons 6 .read (.cons 7 .pure (.cons 8 .pure (.cons 9 .read (.cons 10 .eff .nil))))))))))) (fun w => Knows w _) 10 mo (by kernel_rfl) (fun _ h => h) ?_
       refine D_p rfl rfl rfl (q_move rfl) ?_
       refine D_p rfl rfl rfl (q_nilCheck rfl) ?_
       refine D_p rfl rfl rfl (q_fieldAddr fb_55_10 rfl rfl) ?_
       refine D_r rfl rfl rfl (q_load ag_52 rfl aP rfl) ?_
       refine D_p rfl rfl rfl (q_fieldAddr fb_97_1 rfl rfl) ?_
       refine D_p rfl rfl rfl (q_fieldAddr fb_72_6 rfl rfl) ?_
       refine D_r rfl rfl rfl (q_load ag_31 rfl aP rfl) ?_
       refine D_p rfl rfl rfl (q_fieldAddr fb_97_1 rfl rfl) ?_
       refine D_p rfl rfl rfl (q_fieldAddr fb_72_4 rfl rfl) ?_
       refine D_r rfl rfl rfl (q_load ag_31 rfl aP rfl) ?_
       refine D_e rfl rfl rfl (e_mapUpdate Tryz.underlying52 Tryz.underlying31 rfl rfl (v := u32V o.note.tick) rfl (putI_mapV u32V s1.warned o.note.job o.note.tick) aU) (.inl rfl) ?_
       intro _
       refine D_nil ?_
       refine N_seq ?_
       refine C_draw (.cons 0 .pure (.cons 1 .pure (.cons 2 .pure (.cons 3 .pure (.cons 4 .read (.cons 5 .pure (.cons 6 .pure (.cons 7 .read (.cons 8 .eff (.cons 9 .eff (.cons 10 .pure (.cons 11 .pure (.cons 12 .eff .nil))))))))))))) (fun w => Knows w _) 9 mo (by kernel_rfl) (fun _ h => h) ?_
       refine D_p rfl rfl rfl (q_move rfl) ?_
       refine D_p rfl rfl rfl (q_move rfl) ?_
       refine D_p rfl rfl rfl (q_nilCheck rfl) ?_
       refine D_p rfl rfl rfl (q_fieldAddr fb_55_12 rfl rfl) ?_
       refine D_r rfl rfl rfl (q_load ag_53 rfl aP rfl) ?_
       refine D_p rfl rfl rfl (q_fieldAddr fb_97_1 rfl rfl) ?_
       refine D_p rfl rfl rfl (q_fieldAddr fb_72_6 rfl rfl) ?_
       refine D_r rfl rfl rfl (q_load ag_31 rfl aP rfl) ?_
       refine D_e rfl rfl rfl (e_lit1 Tryz.underlying53 sz_31 zf_31 (by decide) rfl rfl) (.inr (fun _ _ h => h.take aT)) ?_
       intro b114
       refine D_e rfl rfl rfl (e_app1 (us := [.int .u32 o.note.job]) (vs' := encU (s1.warns ++ [o.note.job])) Tryz.underlying53 inf_31 rfl rfl rfl rfl aP aC hT.ok.wsl (by omega) (by omega) rfl rfl (encU_snoc _ _)) (.inl rfl) ?_
       rintro ⟨sl3, hsl3, hok3⟩
       refine D_p rfl rfl rfl (q_nilCheck rfl) ?_
       refine D_p rfl rfl rfl (q_fieldAddr fb_55_12 rfl rfl) ?_
       refine D_e rfl rfl rfl (e_store sz_53 rfl rfl rfl aU (by first | decide | exact Nat.le_of_ble_eq_true rfl | simp [splice, Value.cells])) (.inl rfl) ?_
       intro _
       refine D_nil ?_
       refine N_seq ?_
       refine C_to ((s1.wrn (Qd.putA s1.warned o.note.job o.note.tick) (s1.warns ++ [o.note.job]) sl3).kb ++ ((b3, Cells (orderV o) 97) :: (s.y.osl.kb (flat orderV s.y.os) 14 97 ++ F))) (by (try simp only [SimA.kb_eq, SimA.wrn]); exact aT) ?_
       refine C_region ?_
       refine W_q (i := 0) rfl rfl rfl (q_add rfl rfl (by first | exact wrap64_id (by omega) (by omega) | rfl)) ?_
       refine wm (i := 1) rfl rfl rfl rfl ?_
       refine W_nil ?_
       exact fun a w ha hk => ⟨⟨(i + 1, (s1.wrn (Qd.putA s1.warned o.note.job o.note.tick) (s1.warns ++ [o.note.job]) sl3)), by dsimp only; omega, by dsimp only; rw [tk_step ho, ← hE.m, takeOne_good (by omega) (SimA.nodes_m hx) (by simpa [NodeA.n] using ht42), hE.m]; exact hT.wrn hok3 ht95⟩, by dsimp only; omega, ha.sub aS, hk.take aT⟩
      ·
       try simp only [CL] at ht95
       refine C_skip ?_
       refine N_seq ?_
       refine C_region ?_
       refine W_q (i := 0) rfl rfl rfl (q_add rfl rfl (by first | exact wrap64_id (by omega) (by omega) | rfl)) ?_
       refine wm (i := 1) rfl rfl rfl rfl ?_
       refine W_nil ?_
       exact fun a w ha hk => ⟨⟨(i + 1, s1), by dsimp only; omega, by dsimp only; rw [tk_step ho, ← hE.m, takeOne_good (by omega) (SimA.nodes_m hx) (by simpa [NodeA.n] using ht42), hE.m]; exact hT.none ht79 ht95⟩, by dsimp only; omega, ha.sub aS, hk.take aT⟩
 ·
  try simp only [CL] at ht13
  have hil : i = s.y.os.length := by omega
  subst hil
  refine C_exit ?_
  refine N_seq ?_
  refine C_seq ?_
  rw [SimA.kb_eq]
  try simp only [NL]
  refine C_draw (.cons 0 .pure (.cons 1 .pure (.cons 2 .pure (.cons 3 .pure (.cons 4 .read (.cons 5 .pure (.cons 6 .pure (.cons 7 .pure (.cons 8 .read (.cons 9 .eff (.cons 10 .eff (.cons 11 .pure (.cons 12 .pure (.cons 13 .eff .nil)))))))))))))) (fun w => Knows w ([(si.blk, Cells si.cells 55)])) 10 mo (by kernel_rfl) (fun _ h => h.take aT) ?_
  refine D_p rfl rfl rfl (q_move rfl) ?_
  refine D_p rfl rfl rfl (q_move rfl) ?_
  refine D_p rfl rfl rfl (q_nilCheck rfl) ?_
  refine D_p rfl rfl rfl (q_fieldAddr fb_55_9 rfl rfl) ?_
  refine D_r rfl rfl rfl (q_load ag_51 rfl aP rfl) ?_
  refine D_p rfl rfl rfl (q_move rfl) ?_
  refine D_p rfl rfl rfl (q_nilCheck rfl) ?_
  refine D_p rfl rfl rfl (q_fieldAddr fb_55_0 rfl rfl) ?_
  refine D_r rfl rfl rfl (q_load ag_27 rfl aP rfl) ?_
  refine D_call rfl rfl rfl rfl rfl rfl pf_31 (s_images si.y hE.ok.y (by rw [hE.y]; exact Nat.le_trans hims (by omega))) aC (.inr (by rintro _ _ _ ⟨osl2, outs, rfl, hout, hook, houts, rfl⟩ h; exact h.take aT)) ?_
  rintro _ _ ⟨osl2, outs, rfl, hout, hook, houts, rfl⟩
  try simp only [NL]
  have hisl : si.isl.len = si.ims.length := by have := hE.ok.isl.vlen; rw [flat_len ImA.cells_len] at this; omega
  have hri := hE.room.ims
  have hol2 : osl2.len = outs.length := by have := hook.vlen; rw [flat_len ImA.cells_len] at this; omega
  have hol3 : outs.length ≤ s.y.ims.length := by have h1 := congrArg List.length hout; rw [List.length_map] at h1; rw [h1, hE.y]; exact Nat.le_trans (List.length_filter_le _ _) (by simp [BrA.b, SimA.setY, BrA.osa])
  refine D_e rfl rfl rfl (e_appSlV (U := 60) Tryz.underlying51 inf_60 rfl rfl rfl hE.ok.iv rfl hE.ok.isl hook (List.Perm.trans aC (List.Perm.append_left _ aC)) (by omega) (by omega) (flat_all ImA.cells_one _) (flat_app _ _).symm) (.inl rfl) ?_
  rintro ⟨⟨isl', iv'⟩, hiv', hil', hio'⟩
  refine D_p rfl rfl rfl (q_nilCheck rfl) ?_
  refine D_p rfl rfl rfl (q_fieldAddr fb_55_9 rfl rfl) ?_
  refine D_e rfl rfl rfl (e_store sz_51 rfl rfl hiv'.one aU (by first | decide | exact Nat.le_of_ble_eq_true rfl | simp [splice, Value.cells])) (.inl rfl) ?_
  intro _
  refine D_nil ?_
  refine N_seq ?_
  refine C_seq ?_
  refine C_to ((si.img (si.y.ima [] Sl.nilS) (si.ims ++ outs) isl' iv').kb ++ F) (by (try simp only [SimA.kb_eq, SimA.img, imsKb_app]); exact aT) ?_
  have h4 : (si.img (si.y.ima [] Sl.nilS) (si.ims ++ outs) isl' iv').Ok := { hE.ok with y := hE.ok.y.ima0, isl := hio', iv := hiv', ims := fun z hz => (List.mem_append.1 hz).elim (hE.ok.ims z) (houts z) }
  have h4m : (si.img (si.y.ima [] Sl.nilS) (si.ims ++ outs) isl' iv').m = { si.m with b := si.m.b.takeImages.2, images := si.m.images ++ si.m.b.takeImages.1 } := by simp [SimA.m, SimA.img, hout, Qd.Brain.takeImages]; rfl
  have h4b : (si.img (si.y.ima [] Sl.nilS) (si.ims ++ outs) isl' iv').blk = si.blk := rfl
  have h4n : (si.img (si.y.ima [] Sl.nilS) (si.ims ++ outs) isl' iv').nodes = si.nodes := rfl
  have h4d : (si.img (si.y.ima [] Sl.nilS) (si.ims ++ outs) isl' iv').y.dn = s.y.dn := by show si.y.dn = _; rw [hE.y]; rfl
  have hr4 : (si.img (si.y.ima [] Sl.nilS) (si.ims ++ outs) isl' iv').Room (k + 40000) := ⟨fun x hx => Nat.le_trans (hE.room.inn x hx) (by omega), by simp [SimA.img]; omega, Nat.le_trans hE.room.drops (by omega), Nat.le_trans hE.room.warns (by omega)⟩
  obtain ⟨s4, hs4⟩ : ∃ s4, (si.img (si.y.ima [] Sl.nilS) (si.ims ++ outs) isl' iv') = s4 := ⟨_, rfl⟩
  rw [hs4] at h4 h4m h4b h4n h4d hr4 ⊢
  rw [show si.ptr = s4.ptr from by simp only [SimA.ptr, h4b]]
  rw [SimA.kb_eq]
  try simp only [NL]
  refine C_region ?_
  refine wm (i := 0) rfl rfl rfl rfl ?_
  refine wc (i := 1) rfl rfl rfl rfl ?_
  refine W_q (i := 2) rfl rfl rfl (q_fieldAddr fb_55_0 rfl rfl) ?_
  refine W_q (i := 3) rfl rfl rfl (q_load ag_27 rfl aP rfl) ?_
  refine W_call (i := 4) rfl rfl rfl rfl rfl rfl pf_33 (s_bdone s4.y) aC ?_
  rintro _ _ ⟨rfl, rfl⟩
  try simp only [NL]
  have hdl : s4.y.dsl.len = s4.y.dn.length := by have := h4.y.dsl.vlen; simp [encU] at this; omega
  rw [h4d] at hdl
  refine W_q (i := 5) rfl rfl rfl (q_lenSl Tryz.underlying53 rfl rfl) ?_
  refine wm (i := 6) rfl rfl rfl rfl ?_
  refine W_nil ?_
  refine N_seq ?_
  refine C_block ?_
  refine C_loopT (ι := { q : Nat × SimA // q.1 ≤ s.y.dn.length ∧ TkInv (s4.setY (s4.y.dna [] Sl.nilS)) q.2 ((s4.y.dn.take q.1).foldl dnStep (s4.setY (s4.y.dna [] Sl.nilS)).m) (k + 40000 + q.1) }) (fun q => [(0, s4.ptr), (136, s4.y.dsl.val), (137, .int .i64 (s4.y.dsl.len : Int)), (138, .int .i64 (q.1.1 : Int))]) (fun q => q.1.2.kb ++ (s4.y.dsl.kb (encU s4.y.dn) 1 31 ++ F)) (fun q => s.y.dn.length - q.1.1) ⟨(0, (s4.setY (s4.y.dna [] Sl.nilS))), Nat.zero_le _, ⟨h4.setY (h4.y.dna (Sl.nil_ok 1)), rfl, rfl, rfl, rfl, ⟨hr4.inn, hr4.ims, hr4.drops, hr4.warns⟩⟩⟩ aS (by (try simp only [SimA.kb_eq, SimA.setY]); exact aT) ?_
  rintro ⟨⟨j, sj⟩, hj, hD⟩
  dsimp only at hj hD ⊢
  rw [show s4.ptr = sj.ptr from by simp only [SimA.ptr, hD.blk]; rfl]
  have hjl : sj.nodes.length = si.nodes.length := by rw [hD.len]; show s4.nodes.length = _; rw [h4n]
  have hjsl : sj.nsl.len = sj.nodes.length := by have := hD.ok.nsl.vlen; simp [nptrs] at this; omega
  refine C_seq ?_
  refine C_region ?_
  refine W_q (i := 0) rfl rfl rfl (q_int rfl rfl rfl) ?_
  refine W_nil ?_
  refine N_seq ?_
  refine C_seq ?_
  refine C_cond rfl (fun ht139 => ?_) (fun ht139 => ?_)
  ·
   try simp only [CL] at ht139
   have hjl2 : j < s4.y.dn.length := by rw [h4d]; omega
   obtain ⟨id, hid⟩ : ∃ id, s4.y.dn[j]? = some id := ⟨_, List.getElem?_eq_getElem hjl2⟩
   refine C_skip ?_
   refine N_seq ?_
   refine C_seq ?_
   refine C_block ?_
   refine C_seq ?_
   refine C_region ?_
   refine W_q (i := 0) rfl rfl rfl (q_idxSl Tryz.underlying53 sz_31 h4.y.dsl rfl rfl (Int.natCast_nonneg _) (by omega) rfl) ?_
   refine W_q (i := 1) rfl rfl rfl (q_loadSl (i := j) (v := .int .u32 id) ag_31 rfl h4.y.dsl aC (by simp) (by simp [encU, hid])) ?_
   refine wa (i := 2) rfl rfl rfl rfl ?_
   refine W_nil ?_
   refine N_seq ?_
   refine C_seq ?_
   refine C_seq ?_
   refine C_region ?_
   refine wm (i := 0) rfl rfl rfl rfl ?_
   refine wc (i := 1) rfl rfl rfl rfl ?_
   refine W_q (i := 2) rfl rfl rfl (q_fieldAddr fb_55_8 rfl rfl) ?_
   refine W_q (i := 3) rfl rfl rfl (q_loadM (v := .map (some sj.doneB)) ag_50 rfl (mem_of_perm (A := sj.kb) aC (SimA.m_s sj)) rfl) ?_
   refine wm (i := 4) rfl rfl rfl rfl ?_
   refine W_q (i := 5) rfl rfl rfl (q_lookup Tryz.underlying50 Tryz.underlying31 zf_4 rfl rfl (MapAt.mem (mem_of_perm (A := sj.kb) aC (SimA.m_done sj))) (lookI_setT _ _)) ?_
   refine W_nil ?_
   refine N_seq ?_
   refine C_cond rfl (fun ht147 => ?_) (fun ht147 => ?_)
   ·
    try simp only [CL] at ht147
    obtain ⟨x0, hx0⟩ : ∃ x, sj.nodes[0]? = some x := ⟨_, List.getElem?_eq_getElem (by omega)⟩
    refine C_perm _ ?_ ((SimA.open_ hx0).append_right (s4.y.dsl.kb (encU s4.y.dn) 1 31 ++ F))
    rw [NodeA.kb_eq, SimA.kb0_eq]
    try simp only [NL]
    refine C_region ?_
    refine wm (i := 0) rfl rfl rfl rfl ?_
    refine wc (i := 1) rfl rfl rfl rfl ?_
    refine W_q (i := 2) rfl rfl rfl (q_fieldAddr fb_55_2 rfl rfl) ?_
    refine W_q (i := 3) rfl rfl rfl (q_load ag_48 rfl aP rfl) ?_
    refine W_q (i := 4) rfl rfl rfl (q_idxSl Tryz.underlying48 sz_103 hD.ok.nsl rfl rfl (by omega) (by omega) rfl) ?_
    refine W_q (i := 5) rfl rfl rfl (q_loadSl (i := 0) (v := x0.ptr) ag_103 rfl hD.ok.nsl aC (by simp) (nptrs_at hx0)) ?_
    refine wc (i := 6) rfl rfl rfl rfl ?_
    refine W_q (i := 7) rfl rfl rfl (q_fieldAddr fb_107_4 rfl rfl) ?_
    refine W_e (i := 8) rfl rfl rfl (e_store sz_4 rfl rfl rfl aU (by first | decide | exact Nat.le_of_ble_eq_true rfl | simp [splice, Value.cells])) ?_
    intro _
    refine W_nil ?_
    refine N_seq ?_
    refine C_to (x0.bad.kb ++ (nodesKb (sj.nodes.eraseIdx 0) ++ sj.kb0) ++ (s4.y.dsl.kb (encU s4.y.dn) 1 31 ++ F)) (by (try simp only [NodeA.kb_eq, NodeA.bad, SimA.kb0_eq]); exact aT) ?_
    refine C_perm _ ?_ ((SimA.close_ (x' := x0.bad) hx0 rfl).append_right (s4.y.dsl.kb (encU s4.y.dn) 1 31 ++ F))
    have hT : TkInv _ _ _ (k + 40000 + (j + 1)) := hD.bad hx0
    obtain ⟨s1, hs1⟩ : ∃ s1, (sj.setN 0 x0.bad) = s1 := ⟨_, rfl⟩
    rw [hs1] at hT ⊢
    have hb1 : s1.blk = sj.blk := by rw [← hs1]; rfl
    have hd1 : s1.done = sj.done := by rw [← hs1]; rfl
    rw [show sj.ptr = s1.ptr from by simp only [SimA.ptr, hb1]]
    rw [SimA.kb_eq]
    try simp only [NL]
    refine C_region ?_
    refine wm (i := 0) rfl rfl rfl rfl ?_
    refine wc (i := 1) rfl rfl rfl rfl ?_
    refine W_q (i := 2) rfl rfl rfl (q_fieldAddr fb_55_8 rfl rfl) ?_
    refine W_q (i := 3) rfl rfl rfl (q_load ag_50 rfl aP rfl) ?_
    refine wm (i := 4) rfl rfl rfl rfl ?_
    refine W_e (i := 5) rfl rfl rfl (e_mapUpdate Tryz.underlying50 Tryz.underlying31 rfl rfl (v := .bool true) rfl (putI_setT s1.done id) aU) ?_
    intro _
    refine W_nil ?_
    refine N_seq ?_
    refine C_to ((s1.dnS (Qd.addS s1.done id)).kb ++ (s4.y.dsl.kb (encU s4.y.dn) 1 31 ++ F)) (by (try simp only [SimA.kb_eq, SimA.dnS]); exact aT) ?_
    refine C_region ?_
    refine W_q (i := 0) rfl rfl rfl (q_add rfl rfl (by first | exact wrap64_id (by omega) (by omega) | rfl)) ?_
    refine wm (i := 1) rfl rfl rfl rfl ?_
    refine W_nil ?_
    exact fun a w ha hk => ⟨⟨(j + 1, (s1.dnS (Qd.addS s1.done id))), by dsimp only; rw [← h4d]; omega, by dsimp only; rw [dn_step hid, ← hD.m]; exact hT.dn id (by rw [← hD.m]; exact dn_in ht147)⟩, by dsimp only; rw [← h4d]; omega, ha.sub aS, hk.take aT⟩
   ·
    try simp only [CL] at ht147
    refine C_skip ?_
    refine N_seq ?_
    have hT : TkInv _ _ _ (k + 40000 + (j + 1)) := { hD with room := hD.room.mono (by omega) }
    obtain ⟨s1, hs1⟩ : ∃ s1, sj = s1 := ⟨_, rfl⟩
    rw [hs1] at hT ⊢
    have hb1 : s1.blk = sj.blk := by rw [← hs1]
    have hd1 : s1.done = sj.done := by rw [← hs1]
    rw [SimA.kb_eq]
    try simp only [NL]
    refine C_region ?_
    refine wm (i := 0) rfl rfl rfl rfl ?_
    refine wc (i := 1) rfl rfl rfl rfl ?_
    refine W_q (i := 2) rfl rfl rfl (q_fieldAddr fb_55_8 rfl rfl) ?_
    refine W_q (i := 3) rfl rfl rfl (q_load ag_50 rfl aP rfl) ?_
    refine wm (i := 4) rfl rfl rfl rfl ?_
    refine W_e (i := 5) rfl rfl rfl (e_mapUpdate Tryz.underlying50 Tryz.underlying31 rfl rfl (v := .bool true) rfl (putI_setT s1.done id) aU) ?_
    intro _
    refine W_nil ?_
    refine N_seq ?_
    refine C_to ((s1.dnS (Qd.addS s1.done id)).kb ++ (s4.y.dsl.kb (encU s4.y.dn) 1 31 ++ F)) (by (try simp only [SimA.kb_eq, SimA.dnS]); exact aT) ?_
    refine C_region ?_
    refine W_q (i := 0) rfl rfl rfl (q_add rfl rfl (by first | exact wrap64_id (by omega) (by omega) | rfl)) ?_
    refine wm (i := 1) rfl rfl rfl rfl ?_
    refine W_nil ?_
    exact fun a w ha hk => ⟨⟨(j + 1, (s1.dnS (Qd.addS s1.done id))), by dsimp only; rw [← h4d]; omega, by dsimp only; rw [dn_step hid, ← hD.m]; exact hT.dn id (by rw [← hD.m]; exact dn_out ht147)⟩, by dsimp only; rw [← h4d]; omega, ha.sub aS, hk.take aT⟩
  ·
   try simp only [CL] at ht139
   have hjl2 : j = s4.y.dn.length := by rw [h4d]; omega
   subst hjl2
   refine C_exit ?_
   intro a w ha hk
   exact R_val (e := .normal) (.inr rfl) ha.defers (res0 rfl) (hR _ _ _ ⟨rfl, sj, hD.ok, by rw [hD.m, List.take_length]; exact take_fin (m := s.m) (m0 := (s.setY (s.y.osa [] Sl.nilS)).m) (m1 := si.m) (m4 := s4.m) rfl (by rw [hE.m, List.take_length]; rfl) h4m, by simp only [SimA.ptr, hD.blk]; show (Value.pointer (some ⟨s4.blk, 0, none⟩)) = _; rw [h4b, hE.blk]; rfl, rfl⟩ (hk.take aT))
end Go.SL
namespace Go.SL
open Go Go.Proofs
set_option maxRecDepth 10000
/-- queues are short, at most one rank of a node runs -/
def roomy (m : Qd.Sim) : Bool := m.nodes.all (fun n => decide (n.inn.length ≤ 1000) && decide (n.out.length ≤ 1000) && oneRun n && n.out.all (fun x => decide (0 ≤ x.rank) && decide (x.rank ≤ 255) && decide (x.blob.length ≤ 1000) && decide (0 ≤ x.frm) && decide (x.frm ≤ 4294967295) && decide (0 ≤ x.to) && decide (x.to ≤ 4294967295))) &&
  decide (0 < m.nodes.length) && decide (m.images.length ≤ 1000) && decide (m.drops.length ≤ 1000) && decide (m.warns.length ≤ 1000) && decide (m.b.orders.length ≤ 1000) && decide (m.b.images.length ≤ 1000) && decide (m.b.done.length ≤ 1000) && decide (m.b.jobs.length ≤ 12)
structure SimA.Roomy (s : SimA) : Prop where
  room : s.Room 1000
  nn : 0 < s.nodes.length
  os : s.y.os.length ≤ 1000
  im : s.y.ims.length ≤ 1000
  dn : s.y.dn.length ≤ 1000
  jb : s.y.jobs.length ≤ 12
  out : ∀ x ∈ s.nodes, x.outs.length ≤ 1000 ∧ oneRun x.n = true
  nt : ∀ x ∈ s.nodes, ∀ p ∈ x.outs, (0 ≤ p.1.rank ∧ p.1.rank ≤ 255) ∧ p.1.blob.length ≤ 1000 ∧ In32 (p.1.frm, p.1.to)
theorem roomy_of {s : SimA} (h : roomy s.m = true) : s.Roomy := by
  simp only [roomy, Bool.and_eq_true, decide_eq_true_eq, List.all_eq_true] at h
  obtain ⟨⟨⟨⟨⟨⟨⟨⟨h1, h2⟩, h3⟩, h4⟩, h5⟩, h6⟩, h7⟩, h8⟩, h9⟩ := h
  have hm : ∀ x ∈ s.nodes, x.n ∈ s.m.nodes := fun x hx => List.mem_map_of_mem hx
  refine ⟨⟨fun x hx => (h1 _ (hm x hx)).1.1.1, by simpa [SimA.m] using h3, h4, h5⟩, by simpa [SimA.m] using h2, h6, by simpa [SimA.m, BrA.b] using h7, h8, by rw [← mj_len]; exact h9, fun x hx => ⟨by simpa [NodeA.n] using (h1 _ (hm x hx)).1.1.2, (h1 _ (hm x hx)).1.2⟩, ?_⟩
  intro x hx p hp
  have := (h1 _ (hm x hx)).2 p.1 (List.mem_map_of_mem hp)
  exact ⟨⟨this.1.1.1.1.1.1, this.1.1.1.1.1.2⟩, this.1.1.1.1.2, this.1.1.1.2, this.1.1.2, this.1.2, this.2⟩
theorem s_stake' [Bs] (s : SimA) (hs : s.Ok) (h : roomy s.m = true) : Spec Tryz.prog 56 [s.ptr] s.kb (fun v K' => v = .tuple #[] ∧ ∃ s' : SimA, s'.Ok ∧ s'.m = s.m.take ∧ s'.ptr = s.ptr ∧ K' = s'.kb) := by
  have hr := roomy_of h
  exact s_stake s hs hr.nn 1000 (by omega) hr.room (by have := hr.os; omega) (by have := hr.dn; omega) (by have := hr.im; omega)
theorem SimA.setY_m {s : SimA} {y : BrA} : (s.setY y).m = { s.m with b := y.b } := rfl
theorem pf_32 : plainFn Tryz.prog 32 = true := by kernel_rfl
theorem pf_56 : plainFn Tryz.prog 56 = true := by kernel_rfl
set_option maxHeartbeats 2000000 in
theorem s_spub [Bs] (s : SimA) (hs : s.Ok) (hr : roomy s.m = true) (ok : Bool) (hpre : s.m.images = [] ∨ ∃ x r, s.m.images = x :: r ∧ roomy { s.m with images := r, b := (s.m.b.published x.job x.ver ok).2 } = true) : Spec Tryz.prog 58 [s.ptr, .bool ok] (s.kb) (fun v K' => ∃ s' : SimA, v = .bool (s.m.publish ok).1 ∧ s'.Ok ∧ s'.m = (s.m.publish ok).2 ∧ s'.ptr = s.ptr ∧ K' = s'.kb) := by
 have hR := roomy_of hr
 have hisl : s.isl.len = s.ims.length := by have := hs.isl.vlen; rw [flat_len ImA.cells_len] at this; omega
 obtain ⟨pv, cv, hsv⟩ := hs.iv.shape
 have hcells : s.cells[12]? = some s.iv := rfl
 have hRy1 := hR.os
 have hRy2 := hR.im
 have hRy3 := hR.dn
 refine spec_body Tryz.func58 rfl rfl fun F R hR => ?_
 try simp only [NL]
 rw [SimA.kb_eq]
 try simp only [NL]
 refine C_seq ?_
 refine C_region ?_
 refine wa (i := 0) rfl rfl rfl rfl ?_
 refine W_nil ?_
 refine N_seq ?_
 refine C_seq ?_
 refine C_seq ?_
 refine C_region ?_
 refine wm (i := 0) rfl rfl rfl rfl ?_
 refine wc (i := 1) rfl rfl rfl rfl ?_
 refine W_q (i := 2) rfl rfl rfl (q_fieldAddr fb_55_9 rfl rfl) ?_
 refine W_q (i := 3) rfl rfl rfl (q_load (v := .slice pv s.isl.len cv) ag_51 rfl aP (by rw [← hsv]; rfl)) ?_
 refine W_q (i := 4) rfl rfl rfl (q_lenSlice Tryz.underlying51 rfl rfl) ?_
 refine W_q (i := 5) rfl rfl rfl (q_int rfl rfl rfl) ?_
 refine W_nil ?_
 refine N_seq ?_
 refine C_cond rfl (fun ht11 => ?_) (fun ht11 => ?_)
 ·
  try simp only [CL] at ht11
  have hnil : s.ims = [] := List.eq_nil_of_length_eq_zero (by omega)
  refine C_seq ?_
  refine C_region ?_
  refine wa (i := 0) rfl rfl rfl rfl ?_
  refine W_nil ?_
  refine N_seq ?_
  refine C_ret fun a w ha hk => ?_
  exact R_val (e := .ret) (.inl rfl) ha.defers (res1 ha rfl rfl) (hR _ _ _ ⟨s, by unfold Qd.Sim.publish; rw [show s.m.images = [] from by simp [SimA.m, hnil]], hs, by unfold Qd.Sim.publish; rw [show s.m.images = [] from by simp [SimA.m, hnil]], rfl, rfl⟩ (hk.take (by (try simp only [SimA.kb_eq]); exact aT)))
 ·
  try simp only [CL] at ht11
  obtain ⟨im, rest, hir⟩ : ∃ a l, s.ims = a :: l := by cases h : s.ims with | nil => rw [h] at hisl; simp at hisl; omega | cons a l => exact ⟨a, l, rfl⟩
  have hmi : s.m.images = im.i :: rest.map (·.i) := by simp [SimA.m, hir]
  have hrm0 : roomy { s.m with images := rest.map (·.i), b := (s.m.b.published im.i.job im.i.ver ok).2 } = true := by rcases hpre with h | ⟨x, r, h1, h2⟩; (rw [hmi] at h; cases h); (rw [hmi] at h1; cases h1; exact h2)
  have hlive : s.iv = s.isl.val := by cases hs.iv with | live h => exact h | dead b off h1 h2 => rw [h1, hir] at hisl; simp [Sl.nilS] at hisl
  have hcells2 : s.iv = s.isl.val := hlive
  have hio : s.isl.Ok (ImA.cells im ++ flat ImA.cells rest) 4 := by have := hs.isl; rw [hir] at this; exact this
  have htl := tail_ok hio (ImA.cells_len im) (by omega)
  have himo := hs.ims im (by rw [hir]; exact .head _)
  rw [hir]
  rw [show flat ImA.cells (im :: rest) = ImA.cells im ++ flat ImA.cells rest from rfl, show imsKb (im :: rest) = im.own ++ imsKb rest from rfl]
  try simp only [NL]
  refine C_skip ?_
  refine N_seq ?_
  refine C_seq ?_
  refine C_region ?_
  refine wm (i := 0) rfl rfl rfl rfl ?_
  refine wc (i := 1) rfl rfl rfl rfl ?_
  refine W_q (i := 2) rfl rfl rfl (q_fieldAddr fb_55_9 rfl rfl) ?_
  refine W_q (i := 3) rfl rfl rfl (q_load (v := s.isl.val) ag_51 rfl aP (by rw [← hlive]; rfl)) ?_
  refine W_q (i := 4) rfl rfl rfl (q_idxSl Tryz.underlying51 sz_60 hio rfl rfl (by omega) (by omega) rfl) ?_
  refine W_q (i := 5) rfl rfl rfl (q_loadAggSl (i := 0 * 4) (us := ImA.cells im) ag_60 sz_60 rfl hio aC (by simp) (by simp [ImA.cells_len]) (by omega) (by simp [ImA.cells])) ?_
  refine W_e (i := 6) rfl rfl rfl (e_alloc zf_60) ?_
  intro b5
  refine W_e (i := 7) rfl rfl rfl (e_storeAgg (us := ImA.cells im) sz_60 rfl rfl rfl rfl (by exact Upd.here) (by first | exact Nat.le_refl _ | (simp [Value.cells]; done) | (simp [Value.cells]; exact Nat.le_refl _))) ?_
  intro _
  refine W_nil ?_
  refine N_seq ?_
  refine C_seq ?_
  refine C_region ?_
  refine wm (i := 0) rfl rfl rfl rfl ?_
  refine wm (i := 1) rfl rfl rfl rfl ?_
  refine wc (i := 2) rfl rfl rfl rfl ?_
  refine W_q (i := 3) rfl rfl rfl (q_fieldAddr fb_55_9 rfl rfl) ?_
  refine W_q (i := 4) rfl rfl rfl (q_load (v := s.isl.val) ag_51 rfl aP (by rw [← hlive]; rfl)) ?_
  refine W_e (i := 5) rfl rfl rfl (e_tail (s := s.isl) Tryz.underlying51 sz_60 rfl rfl hio (ImA.cells_len im) (by omega) aC) ?_
  intro _
  refine wc (i := 6) rfl rfl rfl rfl ?_
  refine W_q (i := 7) rfl rfl rfl (q_fieldAddr fb_55_9 rfl rfl) ?_
  refine W_e (i := 8) rfl rfl rfl (e_store sz_51 rfl rfl (tail_V s.isl 4).one aU (by first | decide | exact Nat.le_of_ble_eq_true rfl | simp [splice, Value.cells])) ?_
  intro _
  refine W_nil ?_
  refine N_seq ?_
  refine C_seq ?_
  refine C_draw (.cons 0 .pure (.cons 1 .pure (.cons 2 .pure (.cons 3 .read (.cons 4 .pure (.cons 5 .read (.cons 6 .pure (.cons 7 .read (.cons 8 .pure (.cons 9 .eff .nil)))))))))) (fun w => Knows w _) 9 mo (by kernel_rfl) (fun _ h => h) ?_
  refine D_p rfl rfl rfl (q_move rfl) ?_
  refine D_p rfl rfl rfl (q_nilCheck rfl) ?_
  refine D_p rfl rfl rfl (q_fieldAddr fb_55_0 rfl rfl) ?_
  refine D_r rfl rfl rfl (q_load ag_27 rfl aP rfl) ?_
  refine D_p rfl rfl rfl (q_fieldAddr fb_60_0 rfl rfl) ?_
  refine D_r rfl rfl rfl (q_load ag_31 rfl aP rfl) ?_
  refine D_p rfl rfl rfl (q_fieldAddr fb_60_1 rfl rfl) ?_
  refine D_r rfl rfl rfl (q_load ag_31 rfl aP rfl) ?_
  refine D_p rfl rfl rfl (q_move rfl) ?_
  refine D_call rfl rfl rfl rfl rfl rfl pf_32 (s_published s.y hs.y im.i.job im.i.ver ok (by unfold BrA.sz BIG; omega)) aC (.inl rfl) ?_
  rintro _ _ ⟨rfl, y', hto, hle, rfl⟩
  refine D_nil ?_
  refine N_seq ?_
  refine C_seq ?_
  have hyp : y'.ptr = s.y.ptr := by simp only [BrA.ptr, hto.blk]
  rw [show s.cells.set (0 + 12) (tailV s.isl 4) = ((s.img s.y rest (tailS s.isl 4) (tailV s.isl 4)).setY y').cells from by simp only [SimA.cells, SimA.setY, SimA.img, hyp]; rfl]
  refine C_to (((s.img s.y rest (tailS s.isl 4) (tailV s.isl 4)).setY y').kb ++ F) (by (try simp only [SimA.kb_eq, SimA.img, SimA.setY]); exact aT) ?_
  have hsp : ((s.img s.y rest (tailS s.isl 4) (tailV s.isl 4)).setY y').Ok := { hs with y := hto.ok, isl := htl.1, iv := tail_V s.isl 4, ims := fun z hz => hs.ims z (by rw [hir]; exact .tail _ hz) }
  have hmp : ((s.img s.y rest (tailS s.isl 4) (tailV s.isl 4)).setY y').m = { s.m with images := rest.map (·.i), b := (s.m.b.published im.i.job im.i.ver ok).2 } := by rw [SimA.setY_m, hto.b]; rfl
  have hrm : roomy ((s.img s.y rest (tailS s.isl 4) (tailV s.isl 4)).setY y').m = true := by rw [hmp]; exact hrm0
  have hpp : ((s.img s.y rest (tailS s.isl 4) (tailV s.isl 4)).setY y').ptr = s.ptr := rfl
  obtain ⟨sp, hsp0⟩ : ∃ sp, ((s.img s.y rest (tailS s.isl 4) (tailV s.isl 4)).setY y') = sp := ⟨_, rfl⟩
  rw [hsp0] at hsp hmp hrm hpp ⊢
  rw [← hpp]
  refine C_region ?_
  refine wm (i := 0) rfl rfl rfl rfl ?_
  refine W_call (i := 1) rfl rfl rfl rfl rfl rfl pf_56 (s_stake' sp hsp hrm) aC ?_
  rintro _ _ ⟨rfl, s', hs', hm', hp', rfl⟩
  refine W_nil ?_
  refine N_seq ?_
  refine C_seq ?_
  refine C_region ?_
  refine wa (i := 0) rfl rfl rfl rfl ?_
  refine W_nil ?_
  refine N_seq ?_
  refine C_ret fun a w ha hk => ?_
  exact R_val (e := .ret) (.inl rfl) ha.defers (res1 ha rfl rfl) (hR _ _ _ ⟨s', by unfold Qd.Sim.publish; rw [hmi], hs', by rw [hm', hmp]; unfold Qd.Sim.publish; rw [hmi], hp'.trans hpp, rfl⟩ (hk.take aT))
end Go.SL
namespace Go.SL
open Go Go.Proofs
set_option maxRecDepth 10000
def NodeA.tlI (x : NodeA) (rest : List Qd.Note) : NodeA := { x with inn := rest, isl := tailS x.isl 13, iv := tailV x.isl 13 }
def NodeA.tlO (x : NodeA) (rest : List (Qd.Note × Sl)) : NodeA := { x with outs := rest, osl := tailS x.osl 13, ov := tailV x.osl 13 }
theorem del_no {s : Qd.Sim} {i : Nat} {back : Bool} {n : Qd.Node} (h : s.nodes[i]? = some n) (hc : n.up = false ∨ (back = true ∧ n.out = []) ∨ (back = false ∧ n.inn = [])) : s.deliver i back = (false, s) := by
  unfold Qd.Sim.deliver
  rw [h]
  dsimp only
  rcases hc with h1 | ⟨h1, h2⟩ | ⟨h1, h2⟩
  · rw [if_pos (by simp [h1])]
  · subst h1
    split
    · rfl
    · simp [h2]
  · subst h1
    split
    · rfl
    · simp [h2]
theorem del_back {s : Qd.Sim} {i : Nat} {n : Qd.Node} (h : s.nodes[i]? = some n) (hu : n.up = true) {x : Qd.Note} {r : List Qd.Note} (ho : n.out = x :: r) : s.deliver i true = (true, Qd.Sim.take { s with nodes := s.nodes.set i { n with out := r }, b := (s.b.hear i x).2 }) := by
  unfold Qd.Sim.deliver
  rw [h]
  dsimp only
  rw [if_neg (by simp [hu]), if_pos rfl, ho]
theorem del_to {s : Qd.Sim} {i : Nat} {n : Qd.Node} (h : s.nodes[i]? = some n) (hu : n.up = true) {x : Qd.Note} {r : List Qd.Note} (ho : n.inn = x :: r) : s.deliver i false = (true, { s with nodes := s.nodes.set i ({ n with inn := r }.act x) }) := by
  unfold Qd.Sim.deliver
  rw [h]
  dsimp only
  rw [if_neg (by simp [hu]), if_neg (by simp), ho]
theorem pf_30 : plainFn Tryz.prog 30 = true := by kernel_rfl
theorem pf_97 : plainFn Tryz.prog 97 = true := by kernel_rfl
set_option maxHeartbeats 2000000 in
theorem s_sdel [Bs] (s : SimA) (hs : s.Ok) (hr : roomy s.m = true) (i : Nat) (hi : i < s.nodes.length) (back : Bool) (hpre : back = true → ∀ n x r, s.m.nodes[i]? = some n → n.out = x :: r → roomy { s.m with nodes := s.m.nodes.set i { n with out := r }, b := (s.m.b.hear i x).2 } = true) : Spec Tryz.prog 57 [s.ptr, .int .i64 (i : Int), .bool back] (s.kb) (fun v K' => ∃ s' : SimA, v = .bool (s.m.deliver i back).1 ∧ s'.Ok ∧ s'.m = (s.m.deliver i back).2 ∧ s'.ptr = s.ptr ∧ K' = s'.kb) := by
 have hRm := roomy_of hr
 obtain ⟨x, hx⟩ : ∃ x, s.nodes[i]? = some x := ⟨_, List.getElem?_eq_getElem hi⟩
 have hxm := SimA.nodes_m hx
 have hxin := List.mem_of_getElem? hx
 have hxo := hs.nodes x hxin
 have hxr := hRm.out x hxin
 have hnsl : s.nsl.len = s.nodes.length := by have := hs.nsl.vlen; simp [nptrs] at this; omega
 have hil : x.isl.len = x.inn.length := by have := hxo.isl.vlen; rw [flat_len noteO_len] at this; omega
 have hol : x.osl.len = x.outs.length := by have := hxo.osl.vlen; rw [flat_len outV_len] at this; omega
 obtain ⟨pi, ci, hiv⟩ := hxo.iv.shape
 obtain ⟨po, co, hov⟩ := hxo.ov.shape
 have hRy1 := hRm.os
 have hRy2 := hRm.im
 have hRy3 := hRm.dn
 refine spec_body Tryz.func57 rfl rfl fun F R hR => ?_
 try simp only [NL]
 refine C_seq ?_
 refine C_region ?_
 refine wa (i := 0) rfl rfl rfl rfl ?_
 refine W_nil ?_
 refine N_seq ?_
 refine C_seq ?_
 refine C_region ?_
 refine wm (i := 0) rfl rfl rfl rfl ?_
 refine wc (i := 1) rfl rfl rfl rfl ?_
 refine W_q (i := 2) rfl rfl rfl (q_fieldAddr fb_55_2 rfl rfl) ?_
 refine W_q (i := 3) rfl rfl rfl (q_loadM (v := s.nsl.val) ag_48 rfl (mem_of_perm (A := s.kb) aC (SimA.m_s s)) rfl) ?_
 refine wm (i := 4) rfl rfl rfl rfl ?_
 refine W_q (i := 5) rfl rfl rfl (q_idxSl Tryz.underlying48 sz_103 hs.nsl rfl rfl (by omega) (by omega) rfl) ?_
 refine W_q (i := 6) rfl rfl rfl (q_loadSlM (i := i) (v := x.ptr) ag_103 rfl hs.nsl (perm_in (A := s.kb) aC (SimA.p_nsl s)) (by simp) (nptrs_at hx)) ?_
 refine wa (i := 7) rfl rfl rfl rfl ?_
 refine W_nil ?_
 refine N_seq ?_
 refine C_seq ?_
 refine C_seq ?_
 refine C_region ?_
 refine wm (i := 0) rfl rfl rfl rfl ?_
 refine wc (i := 1) rfl rfl rfl rfl ?_
 refine W_q (i := 2) rfl rfl rfl (q_fieldAddr fb_107_0 rfl rfl) ?_
 refine W_q (i := 3) rfl rfl rfl (q_loadM (v := .bool x.up) ag_4 rfl (mem_of_perm (A := s.kb) aC (SimA.m_n hx)) rfl) ?_
 refine W_q (i := 4) rfl rfl rfl (q_not rfl) ?_
 refine W_nil ?_
 refine N_seq ?_
 refine C_cond rfl (fun ht21 => ?_) (fun ht21 => ?_)
 ·
  try simp only [CL] at ht21
  have hup : x.n.up = false := by show x.up = false; simpa using ht21
  refine C_seq ?_
  refine C_region ?_
  refine wa (i := 0) rfl rfl rfl rfl ?_
  refine W_nil ?_
  refine N_seq ?_
  refine C_ret fun a w ha hk => ?_
  exact R_val (e := .ret) (.inl rfl) ha.defers (res1 ha rfl rfl) (hR _ _ _ ⟨s, by rw [del_no hxm (.inl hup)], hs, by rw [del_no hxm (.inl hup)], rfl, rfl⟩ (hk.take aT))
 ·
  try simp only [CL] at ht21
  have hup : x.n.up = true := by show x.up = true; simpa using ht21
  refine C_skip ?_
  refine N_seq ?_
  refine C_seq ?_
  refine C_seq ?_
  refine C_region ?_
  refine wm (i := 0) rfl rfl rfl rfl ?_
  refine wm (i := 1) rfl rfl rfl rfl ?_
  refine W_bool 23 _ rfl (fun ht23 => ?_) (fun ht23 => ?_)
  ·
   try simp only [CL] at ht23
   subst ht23
   refine wm (i := 2) rfl rfl rfl rfl ?_
   refine wc (i := 3) rfl rfl rfl rfl ?_
   refine W_q (i := 4) rfl rfl rfl (q_fieldAddr fb_107_3 rfl rfl) ?_
   refine W_q (i := 5) rfl rfl rfl (q_loadM (v := .slice po x.osl.len co) ag_105 rfl (mem_of_perm (A := s.kb) aC (SimA.m_n hx)) (by rw [← hov]; rfl)) ?_
   refine W_q (i := 6) rfl rfl rfl (q_lenSlice Tryz.underlying105 rfl rfl) ?_
   refine W_q (i := 7) rfl rfl rfl (q_int rfl rfl rfl) ?_
   refine W_q (i := 8) rfl rfl rfl (q_pickT rfl rfl) ?_
   refine W_nil ?_
   refine N_seq ?_
   refine C_cond rfl (fun ht30 => ?_) (fun ht30 => ?_)
   ·
    try simp only [CL] at ht30
    obtain ⟨⟨nt, bl⟩, rest, hxq⟩ : ∃ a l, x.outs = a :: l := by cases h : x.outs with | nil => rw [h] at hol; simp at hol; omega | cons a l => exact ⟨a, l, rfl⟩
    have hlive : x.ov = x.osl.val := by cases hxo.ov with | live h => exact h | dead b off h1 h2 => rw [h1, hxq] at hol; simp [Sl.nilS] at hol
    have hio : x.osl.Ok (outV (nt, bl) ++ flat outV rest) 13 := by have := hxo.osl; rw [hxq] at this; exact this
    have htl := tail_ok hio (outV_len _) (by omega)
    have hnt := hRm.nt x hxin (nt, bl) (by rw [hxq]; exact .head _)
    have hblo := hxo.outs (nt, bl) (by rw [hxq]; exact .head _)
    dsimp only at hnt hblo
    have hbll : bl.len = nt.blob.length := by have := hblo.vlen; simp [encB] at this; omega
    have hmo : x.n.out = nt :: rest.map (·.1) := by simp [NodeA.n, hxq]
    refine C_seq ?_
    refine C_perm _ ?_ ((SimA.open_ hx).append_right F)
    rw [NodeA.kb_eq, SimA.kb0_eq]
    try simp only [NL]
    rw [hxq, outKb_cons, show flat outV ((nt, bl) :: rest) = outV (nt, bl) ++ flat outV rest from rfl]
    try simp only [NL]
    refine C_region ?_
    refine wm (i := 0) rfl rfl rfl rfl ?_
    refine wc (i := 1) rfl rfl rfl rfl ?_
    refine W_q (i := 2) rfl rfl rfl (q_fieldAddr fb_107_3 rfl rfl) ?_
    refine W_q (i := 3) rfl rfl rfl (q_load (v := x.osl.val) ag_105 rfl aP (by rw [← hlive]; rfl)) ?_
    refine W_q (i := 4) rfl rfl rfl (q_idxSl Tryz.underlying105 sz_72 hio rfl rfl (by omega) (by omega) rfl) ?_
    refine W_q (i := 5) rfl rfl rfl (q_loadAggSl (i := 0 * 13) (us := outV (nt, bl)) ag_72 sz_72 rfl hio aC (by simp) (by simp [outV_len]) (by omega) rfl) ?_
    refine W_e (i := 6) rfl rfl rfl (e_alloc zf_72) ?_
    intro b8
    refine W_e (i := 7) rfl rfl rfl (e_storeAgg (us := outV (nt, bl)) sz_72 rfl rfl rfl rfl (by exact Upd.here) (by first | exact Nat.le_refl _ | (simp [Value.cells]; done) | (simp [Value.cells]; exact Nat.le_refl _))) ?_
    intro _
    refine W_nil ?_
    refine N_seq ?_
    refine C_seq ?_
    refine C_region ?_
    refine wm (i := 0) rfl rfl rfl rfl ?_
    refine wm (i := 1) rfl rfl rfl rfl ?_
    refine wc (i := 2) rfl rfl rfl rfl ?_
    refine W_q (i := 3) rfl rfl rfl (q_fieldAddr fb_107_3 rfl rfl) ?_
    refine W_q (i := 4) rfl rfl rfl (q_load (v := x.osl.val) ag_105 rfl aP (by rw [← hlive]; rfl)) ?_
    refine W_e (i := 5) rfl rfl rfl (e_tail (s := x.osl) Tryz.underlying105 sz_72 rfl rfl hio (outV_len _) (by omega) aC) ?_
    intro _
    refine wc (i := 6) rfl rfl rfl rfl ?_
    refine W_q (i := 7) rfl rfl rfl (q_fieldAddr fb_107_3 rfl rfl) ?_
    refine W_e (i := 8) rfl rfl rfl (e_store sz_105 rfl rfl (tail_V x.osl 13).one aU (by first | decide | exact Nat.le_of_ble_eq_true rfl | simp [splice, Value.cells])) ?_
    intro _
    refine W_nil ?_
    refine N_seq ?_
    refine C_seq ?_
    refine C_draw (.cons 0 .pure (.cons 1 .pure (.cons 2 .pure (.cons 3 .read (.cons 4 .pure (.cons 5 .read (.cons 6 .eff .nil))))))) (fun w => Knows w _) 6 mo (by kernel_rfl) (fun _ h => h) ?_
    refine D_p rfl rfl rfl (q_move rfl) ?_
    refine D_p rfl rfl rfl (q_nilCheck rfl) ?_
    refine D_p rfl rfl rfl (q_fieldAddr fb_55_0 rfl rfl) ?_
    refine D_r rfl rfl rfl (q_load ag_27 rfl aP rfl) ?_
    refine D_p rfl rfl rfl (q_move rfl) ?_
    refine D_r rfl rfl rfl (q_loadAgg (us := outV (nt, bl)) ag_72 sz_72 rfl aP (by simp [outV, noteV, splice, Value.cells]) rfl) ?_
    refine D_call rfl rfl rfl rfl rfl rfl pf_30 (s_hear s.y hs.y (i : Int) nt bl hblo (by omega) hnt.1 hnt.2.2 hRm.jb (by unfold BrA.sz BIG; omega)) (tk_both aC aC) (.inl rfl) ?_
    rintro _ _ ⟨rfl, y', hto, hle, rfl⟩
    refine D_nil ?_
    refine N_seq ?_
    refine C_seq ?_
    have hyp : y'.ptr = s.y.ptr := by simp only [BrA.ptr, hto.blk]
    rw [show s.cells = (s.setY y').cells from by simp only [SimA.cells, SimA.setY, hyp]]
    refine C_to ((x.tlO rest).kb ++ (nodesKb (s.nodes.eraseIdx i) ++ (s.setY y').kb0) ++ F) (by (try simp only [NodeA.kb_eq, NodeA.tlO, SimA.kb0_eq, SimA.setY]); exact aT) ?_
    refine C_perm _ ?_ ((SimA.close_ (s := s.setY y') (x' := (x.tlO rest)) hx rfl).append_right F)
    have hxo' : (x.tlO rest).Ok := { hxo with osl := htl.1, ov := tail_V x.osl 13, outs := fun z hz => hxo.outs z (by rw [hxq]; exact .tail _ hz) }
    have hsp : ((s.setY y').setN i (x.tlO rest)).Ok := (hs.setY hto.ok).setN (s := s.setY y') hx hxo' rfl
    have hmp : ((s.setY y').setN i (x.tlO rest)).m = { s.m with nodes := s.m.nodes.set i { x.n with out := rest.map (·.1) }, b := (s.m.b.hear i nt).2 } := by rw [SimA.setN_m, SimA.setY_m, hto.b]; rfl
    have hrm : roomy ((s.setY y').setN i (x.tlO rest)).m = true := by rw [hmp]; exact hpre rfl x.n nt _ hxm hmo
    have hpp : ((s.setY y').setN i (x.tlO rest)).ptr = s.ptr := rfl
    obtain ⟨sp, hsp0⟩ : ∃ sp, ((s.setY y').setN i (x.tlO rest)) = sp := ⟨_, rfl⟩
    rw [hsp0] at hsp hmp hrm hpp ⊢
    rw [← hpp]
    refine C_region ?_
    refine wm (i := 0) rfl rfl rfl rfl ?_
    refine W_call (i := 1) rfl rfl rfl rfl rfl rfl pf_56 (s_stake' sp hsp hrm) aC ?_
    rintro _ _ ⟨rfl, s', hs', hm', hp', rfl⟩
    refine W_nil ?_
    refine N_seq ?_
    refine C_seq ?_
    refine C_region ?_
    refine wa (i := 0) rfl rfl rfl rfl ?_
    refine W_nil ?_
    refine N_seq ?_
    refine C_ret fun a w ha hk => ?_
    exact R_val (e := .ret) (.inl rfl) ha.defers (res1 ha rfl rfl) (hR _ _ _ ⟨s', by rw [del_back hxm hup hmo], hs', by rw [hm', hmp, del_back hxm hup hmo], hp'.trans hpp, rfl⟩ (hk.take aT))
   ·
    try simp only [CL] at ht30
    have hno : x.n.out = [] := by have : x.outs = [] := List.eq_nil_of_length_eq_zero (by omega); simp [NodeA.n, this]
    refine C_skip ?_
    refine N_seq ?_
    refine C_seq ?_
    refine C_seq ?_
    refine C_region ?_
    refine wm (i := 0) rfl rfl rfl rfl ?_
    refine W_q (i := 1) rfl rfl rfl (q_not rfl) ?_
    refine wm (i := 2) rfl rfl rfl rfl ?_
    refine W_skip (i := 3) rfl rfl rfl ?_
    refine W_skip (i := 4) rfl rfl rfl ?_
    refine W_skip (i := 5) rfl rfl rfl ?_
    refine W_skip (i := 6) rfl rfl rfl ?_
    refine W_skip (i := 7) rfl rfl rfl ?_
    refine W_skip (i := 8) rfl rfl rfl ?_
    refine W_q (i := 9) rfl rfl rfl (q_pickF rfl rfl) ?_
    refine W_nil ?_
    refine N_seq ?_
    refine C_condF rfl ?_
    refine C_skip ?_
    refine N_seq ?_
    refine C_seq ?_
    refine C_region ?_
    refine wa (i := 0) rfl rfl rfl rfl ?_
    refine W_nil ?_
    refine N_seq ?_
    refine C_ret fun a w ha hk => ?_
    exact R_val (e := .ret) (.inl rfl) ha.defers (res1 ha rfl rfl) (hR _ _ _ ⟨s, by rw [del_no hxm (.inr (.inl ⟨rfl, hno⟩))], hs, by rw [del_no hxm (.inr (.inl ⟨rfl, hno⟩))], rfl, rfl⟩ (hk.take aT))
  ·
   try simp only [CL] at ht23
   subst ht23
   refine W_skip (i := 2) rfl rfl rfl ?_
   refine W_skip (i := 3) rfl rfl rfl ?_
   refine W_skip (i := 4) rfl rfl rfl ?_
   refine W_skip (i := 5) rfl rfl rfl ?_
   refine W_skip (i := 6) rfl rfl rfl ?_
   refine W_skip (i := 7) rfl rfl rfl ?_
   refine W_q (i := 8) rfl rfl rfl (q_pickF rfl rfl) ?_
   refine W_nil ?_
   refine N_seq ?_
   refine C_condF rfl ?_
   refine C_skip ?_
   refine N_seq ?_
   refine C_seq ?_
   refine C_seq ?_
   refine C_region ?_
   refine wm (i := 0) rfl rfl rfl rfl ?_
   refine W_q (i := 1) rfl rfl rfl (q_not rfl) ?_
   refine wm (i := 2) rfl rfl rfl rfl ?_
   refine wm (i := 3) rfl rfl rfl rfl ?_
   refine wc (i := 4) rfl rfl rfl rfl ?_
   refine W_q (i := 5) rfl rfl rfl (q_fieldAddr fb_107_2 rfl rfl) ?_
   refine W_q (i := 6) rfl rfl rfl (q_loadM (v := .slice pi x.isl.len ci) ag_105 rfl (mem_of_perm (A := s.kb) aC (SimA.m_n hx)) (by rw [← hiv]; rfl)) ?_
   refine W_q (i := 7) rfl rfl rfl (q_lenSlice Tryz.underlying105 rfl rfl) ?_
   refine W_q (i := 8) rfl rfl rfl (q_int rfl rfl rfl) ?_
   refine W_q (i := 9) rfl rfl rfl (q_pickT rfl rfl) ?_
   refine W_nil ?_
   refine N_seq ?_
   refine C_cond rfl (fun ht63 => ?_) (fun ht63 => ?_)
   ·
    try simp only [CL] at ht63
    obtain ⟨nt, rest, hxq⟩ : ∃ a l, x.inn = a :: l := by cases h : x.inn with | nil => rw [h] at hil; simp at hil; omega | cons a l => exact ⟨a, l, rfl⟩
    have hlive : x.iv = x.isl.val := by cases hxo.iv with | live h => exact h | dead b off h1 h2 => rw [h1, hxq] at hil; simp [Sl.nilS] at hil
    have hio : x.isl.Ok (noteO nt ++ flat noteO rest) 13 := by have := hxo.isl; rw [hxq] at this; exact this
    have htl := tail_ok hio (noteO_len _) (by omega)
    have hmo : x.n.inn = nt :: rest := hxq
    refine C_seq ?_
    refine C_perm _ ?_ ((SimA.open_ hx).append_right F)
    rw [NodeA.kb_eq, SimA.kb0_eq]
    try simp only [NL]
    rw [hxq, show flat noteO (nt :: rest) = noteO nt ++ flat noteO rest from rfl]
    try simp only [NL]
    refine C_region ?_
    refine wm (i := 0) rfl rfl rfl rfl ?_
    refine wc (i := 1) rfl rfl rfl rfl ?_
    refine W_q (i := 2) rfl rfl rfl (q_fieldAddr fb_107_2 rfl rfl) ?_
    refine W_q (i := 3) rfl rfl rfl (q_load (v := x.isl.val) ag_105 rfl aP (by rw [← hlive]; rfl)) ?_
    refine W_q (i := 4) rfl rfl rfl (q_idxSl Tryz.underlying105 sz_72 hio rfl rfl (by omega) (by omega) rfl) ?_
    refine W_q (i := 5) rfl rfl rfl (q_loadAggSl (i := 0 * 13) (us := noteO nt) ag_72 sz_72 rfl hio aC (by simp) (by simp [noteO_len]) (by omega) rfl) ?_
    refine W_e (i := 6) rfl rfl rfl (e_alloc zf_72) ?_
    intro b9
    refine W_e (i := 7) rfl rfl rfl (e_storeAgg (us := noteO nt) sz_72 rfl rfl rfl rfl (by exact Upd.here) (by first | exact Nat.le_refl _ | (simp [Value.cells]; done) | (simp [Value.cells]; exact Nat.le_refl _))) ?_
    intro _
    refine W_nil ?_
    refine N_seq ?_
    refine C_seq ?_
    refine C_region ?_
    refine wm (i := 0) rfl rfl rfl rfl ?_
    refine wm (i := 1) rfl rfl rfl rfl ?_
    refine wc (i := 2) rfl rfl rfl rfl ?_
    refine W_q (i := 3) rfl rfl rfl (q_fieldAddr fb_107_2 rfl rfl) ?_
    refine W_q (i := 4) rfl rfl rfl (q_load (v := x.isl.val) ag_105 rfl aP (by rw [← hlive]; rfl)) ?_
    refine W_e (i := 5) rfl rfl rfl (e_tail (s := x.isl) Tryz.underlying105 sz_72 rfl rfl hio (noteO_len _) (by omega) aC) ?_
    intro _
    refine wc (i := 6) rfl rfl rfl rfl ?_
    refine W_q (i := 7) rfl rfl rfl (q_fieldAddr fb_107_2 rfl rfl) ?_
    refine W_e (i := 8) rfl rfl rfl (e_store sz_105 rfl rfl (tail_V x.isl 13).one aU (by first | decide | exact Nat.le_of_ble_eq_true rfl | simp [splice, Value.cells])) ?_
    intro _
    refine W_nil ?_
    refine N_seq ?_
    refine C_seq ?_
    refine C_to ((x.tlI rest).kb ++ ((b9, Cells (noteO nt) 72) :: (nodesKb (s.nodes.eraseIdx i) ++ (s.kb0 ++ F)))) (by (try simp only [NodeA.kb_eq, NodeA.tlI, SimA.kb0_eq]); exact aT) ?_
    have hxo' : (x.tlI rest).Ok := { hxo with isl := htl.1, iv := tail_V x.isl 13 }
    have hxn : (x.tlI rest).n = { x.n with inn := rest } := rfl
    refine C_region ?_
    refine wm (i := 0) rfl rfl rfl rfl ?_
    refine W_q (i := 1) rfl rfl rfl (q_loadAgg (us := noteO nt) ag_72 sz_72 rfl aP (by simp [noteO_len]) rfl) ?_
    refine W_call (i := 2) rfl rfl rfl rfl rfl rfl pf_97 (s_nact (x.tlI rest) hxo' (show oneRun (x.tlI rest).n = true from hxr.2) nt (by have := hxr.1; show x.outs.length ≤ 1000000; omega)) aC ?_
    rintro _ _ ⟨rfl, x', hx'o, hx'n, hx'p, rfl⟩
    refine W_nil ?_
    refine N_seq ?_
    refine C_seq ?_
    refine C_region ?_
    refine wa (i := 0) rfl rfl rfl rfl ?_
    refine W_nil ?_
    refine N_seq ?_
    refine C_ret fun a w ha hk => ?_
    exact R_val (e := .ret) (.inl rfl) ha.defers (res1 ha rfl rfl) (hR _ _ _ ⟨s.setN i x', by rw [del_to hxm hup hmo], hs.setN hx hx'o hx'p, by rw [del_to hxm hup hmo, SimA.setN_m, hx'n, hxn], rfl, rfl⟩ ((hk.take (T := x'.kb ++ (nodesKb (s.nodes.eraseIdx i) ++ s.kb0) ++ F) aT).perm ((SimA.close_ hx hx'p).append_right F)))
   ·
    try simp only [CL] at ht63
    have hni : x.n.inn = [] := List.eq_nil_of_length_eq_zero (show x.inn.length = 0 by omega)
    refine C_skip ?_
    refine N_seq ?_
    refine C_seq ?_
    refine C_region ?_
    refine wa (i := 0) rfl rfl rfl rfl ?_
    refine W_nil ?_
    refine N_seq ?_
    refine C_ret fun a w ha hk => ?_
    exact R_val (e := .ret) (.inl rfl) ha.defers (res1 ha rfl rfl) (hR _ _ _ ⟨s, by rw [del_no hxm (.inr (.inr ⟨rfl, hni⟩))], hs, by rw [del_no hxm (.inr (.inr ⟨rfl, hni⟩))], rfl, rfl⟩ (hk.take aT))
end Go.SL
namespace Go.SL
open Go Go.Proofs
set_option maxRecDepth 10000
def rmStep (m : List (Int × Int)) (n : Qd.Node) : List (Int × Int) := if n.running ≠ 0 then Qd.putA m n.running ((Qd.lookA m n.running).getD 0 + 1) else m
def kOf (s : Qd.Sim) (job : Int) : Int := ((Qd.lookA s.jobs job).map (·.k)).getD 0
def rfStep (jobs : List (Int × Qd.ApiJob)) (ran : List (Int × Int)) (p : Int × Int) : List (Int × Int) := if p.2 = ((Qd.lookA jobs p.1).map (·.k)).getD 0 then Qd.putA ran p.1 ((Qd.lookA ran p.1).getD 0 + 1) else ran
theorem rf_fold : ∀ (l : List (Int × Int)) (s : Qd.Sim), l.foldl (fun (s : Qd.Sim) (p : Int × Int) => if p.2 = ((Qd.lookA s.jobs p.1).map (·.k)).getD 0 then { s with ran := Qd.putA s.ran p.1 ((Qd.lookA s.ran p.1).getD 0 + 1) } else s) s = { s with ran := l.foldl (rfStep s.jobs) s.ran }
  | [], s => rfl
  | p :: l, s => by
    rw [List.foldl_cons, List.foldl_cons, rf_fold l]
    unfold rfStep
    split <;> rfl
/-- the sim, its nodes a tick on -/
def tk1 (s : Qd.Sim) : Qd.Sim := { s with now := s.now + 1, nodes := s.nodes.map fun (n : Qd.Node) => n.tick (s.now + 1) }
def tk2r (s : Qd.Sim) : Qd.Sim := { tk1 s with ran := (tk1 s).runningMap.foldl (rfStep s.jobs) s.ran }
def tk3 (s : Qd.Sim) : Qd.Sim := let r := s.b.tick (s.now + 1); if r.1 ≠ 0 then ({ tk2r s with b := r.2 } : Qd.Sim).setWrong0 else { tk2r s with b := r.2 }
theorem tick_eq (s : Qd.Sim) : s.tick = (tk3 s).take := by
  unfold Qd.Sim.tick tk3 tk2r
  dsimp only
  rw [rf_fold]
  rfl
/-- what a tick asks for -/
def tkpre (s : Qd.Sim) : Bool := roomy s && decide (0 ≤ s.now) && decide (s.now + 1 ≤ 4294967295) && (tk1 s).nodes.all oneRun && decide ((tk1 s).runningMap.length ≤ 1) && s.ran.all (fun p => decide (0 ≤ p.2) && decide (p.2 ≤ 1000000)) && tpre s.b (s.now + 1) && roomy (tk3 s) && decide (s.nodes.length ≤ 1000)
end Go.SL
