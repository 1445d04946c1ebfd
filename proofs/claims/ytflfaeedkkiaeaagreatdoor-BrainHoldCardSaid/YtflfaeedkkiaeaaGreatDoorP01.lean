/- A part of the proof of the given statement BrainHold: the layer over the kit in which the walks are written, and contracts of the program's functions (a Go function answers as its plain model does). -/
import Derived.Test.YtflfaeedkkiaeaaGreatDoorP00
namespace Go.SL
open Go
section
variable {P : Program} {n : Nat} {L : Env} {K : KB}
theorem q_neg {d : Option Nat} {x : Operand} {k : IntKind} {p r : Int} {T : TypeId} {ty pos aft gd} (hx : ev L x = some (.int k p)) (hr : k.wrap (0 - p) = r) : QRun P n ⟨d, .unOp .neg T x, ty, pos, aft, gd⟩ L K (.int k r) := by
  intro a w ha hk
  subst hr
  simp [execOp, ev_eval ha hx, Op.unary, Op.intArith]
theorem q_shr32 {d : Option Nat} {x y : Operand} {p : Nat} {q : Int} {k : IntKind} {T U : TypeId} {ty pos aft gd} (hx : ev L x = some (.int .u32 p)) (hy : ev L y = some (.int k q)) (h0 : 0 ≤ q) (h16 : q ≤ 32) {r : Nat} (hr : p >>> q.toNat = r) :
    QRun P n ⟨d, .binOp .shr T x y U, ty, pos, aft, gd⟩ L K (.int .u32 (r : Int)) := by
  intro a w ha hk
  subst hr
  have hm : min q.toNat 32 = q.toNat := by omega
  have hn : ¬ q < 0 := by omega
  simp only [execOp, ev_eval ha hx, ev_eval ha hy, eqGuard_shr, binOp_shr, Op.shift, hn, if_false, IntKind.bits, hm, Sem.run_bind, Sem.run_pure, Result.andThen, Nat.shiftRight_eq_div_pow]
  congr 3
  rw [Int.fdiv_eq_ediv_of_nonneg _ (by have : (0:Int) < 2 ^ q.toNat := Int.pow_pos (by omega); omega)]
  push_cast
  rfl
theorem q_indexArr {d : Option Nat} {x y : Operand} {T e : TypeId} {b off l k m : Nat} {j : Int} {kd : IntKind} {ty pos aft gd} (hT : P.underlying T = some (.array l e)) (he : sizeB P e = some k)
    (hx : ev L x = some (.pointer (some ⟨b, off, none⟩))) (hy : ev L y = some (.int kd j)) (h0 : 0 ≤ j) (hl : j < l) (hm : off + j.toNat * k = m) :
    QRun P n ⟨d, .indexAddr T x y, ty, pos, aft, gd⟩ L K (.pointer (some ⟨b, m, none⟩)) := by
  intro a w ha hk
  have hadd : Addr.add ⟨b, off, none⟩ (j.toNat * k) = ⟨b, m, none⟩ := by
    unfold Addr.add; split <;> simp_all
  simp [execOp, ev_eval ha hx, ev_eval ha hy, Instr.indexAt, asIntOf, run_underlying hT, h0, hl, run_sizeOf he, hadd, Instr.sureAddr]
/-! ### literals -/
theorem fold_set : ∀ (l : List Value) (i : Nat) (cs : Array Value), i + l.length ≤ cs.size →
    ((l.zipIdx i).foldl (fun (cs : Array Value) (p : Value × Nat) => cs.setIfInBounds (0 + p.2) p.1) cs).toList = cs.toList.take i ++ l ++ cs.toList.drop (i + l.length)
  | [], i, cs, _ => by simp
  | v :: l, i, cs, h => by
    simp only [List.zipIdx_cons, List.foldl_cons]
    rw [fold_set l (i + 1) _ (by simp at h ⊢; omega)]
    simp at h
    simp only [Nat.zero_add, Array.toList_setIfInBounds, List.length_cons, List.append_assoc, List.cons_append]
    rw [List.take_add_one, List.take_set, List.drop_set]
    have h1 : i < cs.size := by omega
    have h2 : i < i + 1 + l.length := by omega
    have h3 : i + 1 + l.length = i + (l.length + 1) := by omega
    rw [← h3]
    simp [h1, h2]
    exact List.set_eq_of_length_le (by simp; omega)
theorem e_lit1 [Bs] {d : Option Nat} {T e : TypeId} {k : Nat} {x : Operand} {v z : Value} {ty pos aft gd} (hT : P.underlying T = some (.slice e)) (hk : sizeB P e = some k)
    (hz : zeroB P e = some z) (hl : k ≤ 2 ^ 24) (hx : ev L x = some v) (hv : v.cells.size = k) :
    ERun (β := Nat) P n ⟨d, .buildSlice T 1 #[(0, x)], ty, pos, aft, gd⟩ L K (fun b => .slice (some ⟨b, 0, none⟩) 1 1) (fun b => (b, Cells v.cells.toList e) :: K) := by
  refine e_buildSlice (vs := [(0, v)]) (cs := v.cells) hT hk hz (by omega) (by simp [hx]) ?_
  simp only [Instr.fill, Nat.zero_mul, hv, Nat.zero_add]
  have h0 : ¬ (k ≠ k ∨ k > (Array.map (fun x => z.cells[x % z.cells.size]!) (Array.range (1 * k))).size) := by simp
  simp only [decide_eq_true_eq, ne_eq, not_true_eq_false, decide_false, Bool.false_or]
  rw [if_neg (by simp)]
  congr 1
  apply Array.ext'
  have := fold_set v.cells.toList 0 (Array.map (fun x => z.cells[x % z.cells.size]!) (Array.range (1 * k))) (by simp [hv])
  rw [← Array.foldl_toList, Array.toList_zipIdx]
  simp only [Nat.zero_add] at this ⊢
  rw [this]
  simp [hv]
end
/-- the table behind TrailingZeros -/
theorem tz_at (k : Nat) (hk : k < 16) : (2 ^ k * 125613361 % 4294967296) >>> 27 < 32 ∧ tzVals[(2 ^ k * 125613361 % 4294967296) >>> 27]? = some (.int .u8 (k : Int)) ∧ 2 ^ k < 65536 := by
  have h : ∀ k : Fin 16, (2 ^ k.1 * 125613361 % 4294967296) >>> 27 < 32 ∧ tzTab[(2 ^ k.1 * 125613361 % 4294967296) >>> 27]? = some k.1 ∧ 2 ^ k.1 < 65536 := by decide
  obtain ⟨h1, h2, h3⟩ := h ⟨k, hk⟩
  exact ⟨h1, by rw [tzVals, List.getElem?_map, h2]; rfl, h3⟩
theorem neg16 {s : Nat} (h0 : s ≠ 0) (hs : s < 65536) : IntKind.u16.wrap (0 - (s : Int)) = ((65536 - s : Nat) : Int) := by
  rw [wrap_u16]; omega
theorem q_loadX {P : Program} {n : Nat} {L : Env} {K : KB} {d : Option Nat} {x : Operand} {T : TypeId} {b off : Nat} {φ : OP} {v : Value} {ty pos aft gd} (hT : aggB P T = some false)
    (hx : ev L x = some (.pointer (some ⟨b, off, none⟩))) (hm : (b, φ) ∈ K) (hφ : ∀ o : Obj, φ o → ∃ cs T fr, o = .cells cs T fr ∧ cs[off]? = some v) : QRun P n ⟨d, .load T x, ty, pos, aft, gd⟩ L K v := by
  intro a w ha hk
  obtain ⟨o, ho, hp⟩ := hk.has _ hm
  obtain ⟨cs, U, fr, rfl, hc⟩ := hφ o hp
  have hcell : w.cell? ⟨b, off, none⟩ = some v := by simp [World.cell?, ho, hc]
  simp [execOp, ev_eval ha hx, Instr.loadAt, Instr.sureAddr, loadVar, run_isAgg hT, load, Sem.run, hcell]
theorem tab_at [Bs] {i : Nat} {v : Value} (hi : i < 32) (hv : tzVals[i]? = some v) : ∀ o : Obj, o = Bs.tab → ∃ cs T fr, o = .cells cs T fr ∧ cs[i]? = some v := by
  rintro _ rfl
  obtain ⟨cs, T, fr, h1, h2⟩ := Bs.htab
  exact ⟨cs, T, fr, h1, (h2 i hi).trans hv⟩
end Go.SL
namespace Go.SL
open Go
section
variable {P : Program} {n : Nat} {L : Env} {K : KB}
theorem q_shl16w {d : Option Nat} {x y : Operand} {q : Int} {T U : TypeId} {ty pos aft gd} (hx : ev L x = some (.int .u16 1)) (hy : ev L y = some (.int .i64 q)) (h0 : 0 ≤ q) (h16 : q ≤ 16) :
    QRun P n ⟨d, .binOp .shl T x y U, ty, pos, aft, gd⟩ L K (.int .u16 ((2 ^ q.toNat % 65536 : Nat) : Int)) := by
  intro a w ha hk
  have hm : min q.toNat 16 = q.toNat := by omega
  have hn : ¬ q < 0 := by omega
  simp only [execOp, ev_eval ha hx, ev_eval ha hy, eqGuard_shl, binOp_shl, Op.shift, hn, if_false, IntKind.bits, hm, wrap_u16, Sem.run_bind, Sem.run_pure, Result.andThen]
  congr 3
  have : (1 * 2 ^ q.toNat : Int) = ((2 ^ q.toNat : Nat) : Int) := by simp
  rw [this]
  rfl
/-- make([]T, n), elements of one cell -/
theorem e_mkSl1 [Bs] {d : Option Nat} {x y : Operand} {T e : TypeId} {v : Value} {kx : IntKind} {l : Int} {by_ : Nat} {ty pos aft gd} (hT : P.underlying T = some (.slice e)) (hi : infoB P e = some (some v, 1, by_)) (hv : v.cells = #[v])
    (hx : ev L x = some (.int kx l)) (hy : ev L y = some (.int kx l)) (h0 : 0 ≤ l) (hb : (by_ : Int) * l ≤ 281474976710656) (h63 : l ≤ 9223372036854775807) :
    ERun (β := Nat) P n ⟨d, .makeSlice T x y, ty, pos, aft, gd⟩ L K (fun b => .slice (some ⟨b, 0, none⟩) l.toNat l.toNat) (fun b => (b, Cells (List.replicate l.toNat v) e) :: K) := by
  obtain ⟨i, h2, h3⟩ := Option.map_eq_some_iff.1 hi
  simp only [Prod.mk.injEq] at h3
  obtain ⟨h4, h5, h6⟩ := h3
  subst h6
  have := e_makeSlice (P := P) (n := n) (L := L) (K := K) (d := d) (ty := ty) (pos := pos) (aft := aft) (gd := gd) hT h2 h4 hx hy h0 hb h63
  simp only [h5, hv, Nat.mul_one, madeCells_one] at this
  exact this
end
end Go.SL
namespace Go.SL
open Go
section
variable {P : Program} {n : Nat} {L : Env} {K : KB} {kd : IntKind}
def isIface (P : Program) (T : TypeId) : Bool := match P.underlying T with
  | some (.interface _) => true
  | some _ => false
  | none => true
theorem q_makeIface {d : Option Nat} {x : Operand} {T : TypeId} {v : Value} {ty pos aft gd} (hT : isIface P T = false) (hx : ev L x = some v) : QRun P n ⟨d, .makeInterface T x, ty, pos, aft, gd⟩ L K (.iface T v) := by
  intro a w ha hk
  unfold isIface at hT
  split at hT
  · cases hT
  · rename_i u hu h
    simp only [execOp, ev_eval ha hx, Instr.makeInterface, Sem.run_bind, run_underlying h, Result.andThen]
    cases u <;> first | rfl | exact absurd h (hu _)
  · cases hT
theorem q_typeAssert {d : Option Nat} {x : Operand} {S T : TypeId} {v : Value} {ty pos aft gd} (hT : isIface P T = false) (hx : ev L x = some (.iface T v)) : QRun P n ⟨d, .typeAssert x S T false, ty, pos, aft, gd⟩ L K v := by
  intro a w ha hk
  unfold isIface at hT
  split at hT
  · cases hT
  · rename_i u hu h
    simp only [execOp, ev_eval ha hx, Instr.typeAssert, Sem.run_bind, run_underlying h, Result.andThen]
    cases u <;> first | (simp; done) | exact absurd h (hu _)
  · cases hT
theorem q_typeAssert2 {d : Option Nat} {x : Operand} {S T : TypeId} {v : Value} {ty pos aft gd} (hT : isIface P T = false) (hx : ev L x = some (.iface T v)) : QRun P n ⟨d, .typeAssert x S T true, ty, pos, aft, gd⟩ L K (.tuple #[v, .bool true]) := by
  intro a w ha hk
  unfold isIface at hT
  split at hT
  · cases hT
  · rename_i u hu h
    simp only [execOp, ev_eval ha hx, Instr.typeAssert, Sem.run_bind, run_underlying h, Result.andThen]
    cases u <;> first | (simp; done) | exact absurd h (hu _)
  · cases hT
/-- maps.clone -/
theorem e_mapsClone [Bs] {d : Option Nat} {x y : Operand} {f : FuncId} {fn : Func} {T : TypeId} {r : Nat} {m : List (Int × Value)} {R : KB} {ats : Array TypeId} {ty pos aft gd} (hf : P.funcs[f]? = some fn) (hname : (fn.name == "runtime.NumGoroutine") = false)
    (hb : fn.body.isNone = true) (hn : Extern.findNext fn = none) (he : Extern.find fn = some Extern.MapsClone.clone) (hy : ev L y = some (.func (.func f) #[] #[])) (hx : ev L x = some (.iface T (.map (some r)))) (hp : Pick K r (MapI kd m) R) :
    ERun (β := Nat) P n ⟨d, .call ⟨.value y, #[x], ats⟩, ty, pos, aft, gd⟩ L K (fun b => .iface T (.map (some b))) (fun b => (b, MapI kd m) :: K) := by
  intro a w ha hk
  obtain ⟨bs, ck, hs, ho⟩ := MapI.get (hk.has _ hp.mem)
  refine .inl ⟨w.heap.size, { w with heap := w.heap.push (.map ((m.zip bs).map (mkE kd)).toArray ck) }, .inl ?_, hk.alloc (φ := MapI kd m) ⟨bs, ck, hs, rfl⟩⟩
  have e : Extern.MapsClone.clone #[.iface T (.map (some r))] = (getObj r >>= fun o => match o with
      | .map entries clock => (newObj (.map entries clock) >>= fun n => pure (.iface T (.map (some n))))
      | _ => stuck "maps.clone: a map expected") := rfl
  have hc : (callFunc f #[.iface T (.map (some r))]).run P w = .ok (.value (.iface T (.map (some w.heap.size)))) { w with heap := w.heap.push (.map ((m.zip bs).map (mkE kd)).toArray ck) } := by
    rw [run_callFunc_extern hf hname hb hn he, e]
    simp [run_getObj_map ho, newObj, Sem.run, Result.andThen]
  simp [execOp, resolve, ev_eval ha hx, ev_eval ha hy, Deferred.ofValue, invoke, hc]
theorem q_eqSliceNil {d : Option Nat} {x y : Operand} {T U : TypeId} {e : TypeId} {s : Sl} {ty pos aft gd} (hT : P.underlying T = some (.slice e)) (hx : ev L x = some s.val) (hy : ev L y = some (.slice none 0 0)) :
    QRun P n ⟨d, .binOp .eql T x y U, ty, pos, aft, gd⟩ L K (.bool s.a.isNone) := by
  have := q_eqOf (P := P) (n := n) (L := L) (K := K) (d := d) (T := T) (U := U) (ty := ty) (pos := pos) (aft := aft) (gd := gd) (u := s.val) (v := .slice none 0 0) (r := s.a.isNone) hx hy rfl rfl (fun w d => by
    have := eqIn_slice (P := P) (r := s.a.map fun p => (⟨p.1, p.2, none⟩ : Addr)) (l := s.len) (c := s.cap) hT w d
    rw [Option.isNone_map] at this; exact this)
  exact this
/-- []T{} -/
theorem e_lit0 [Bs] {d : Option Nat} {T e : TypeId} {k : Nat} {ty pos aft gd} (hT : P.underlying T = some (.slice e)) (hk : sizeB P e = some k) :
    ERun (β := Nat) P n ⟨d, .buildSlice T 0 #[], ty, pos, aft, gd⟩ L K (fun b => .slice (some ⟨b, 0, none⟩) 0 0) (fun b => (b, Cells [] e) :: K) := by
  intro a w ha hkn
  refine .inl ⟨w.heap.size, { w with heap := w.heap.push (.cells #[] e) }, .inl ?_, hkn.alloc (φ := Cells [] e) rfl⟩
  simp [execOp, Instr.buildSlice, run_underlying hT, run_sizeOf hk, Instr.fill, newRow, newObj, Sem.run]
  congr 2
  exact Array.eq_empty_of_size_eq_zero (by simp)
/-- append([]T{}, s..): s is not nil -/
theorem e_clone [Bs] {d : Option Nat} {x y : Operand} {T e : TypeId} {z : Value} {s : Sl} {vs : List Value} {sz b by_ : Nat} {R R' : KB} {ats : Array TypeId} {ty pos aft gd} (hT : P.underlying T = some (.slice e)) (hi : infoB P e = some (some z, sz, by_))
    (hzs : z.cells.size = sz) (hat : ats = #[T, T]) (hx : ev L x = some (.slice (some ⟨b, 0, none⟩) 0 0)) (hy : ev L y = some s.val) (hp : Pick K b (Cells [] e) R') (hK : R'.Perm (s.kb vs sz e ++ R)) (hs : s.a.isSome = true)
    (hok : s.Ok vs sz) (hb : s.len * by_ ≤ 140737488355328) (h63 : s.len ≤ 140737488355328) (h1 : vs.all oneC = true) :
    ERun (β := { s' : Sl // s'.len = s.len ∧ s'.Ok vs sz }) P n ⟨d, .call ⟨.builtin .append, #[x, y], ats⟩, ty, pos, aft, gd⟩ L K (fun s' => s'.1.val) (fun s' => s'.1.kb vs sz e ++ (s.kb vs sz e ++ R)) := by
  obtain ⟨i, h2, h3⟩ := Option.map_eq_some_iff.1 hi
  simp only [Prod.mk.injEq] at h3
  obtain ⟨h4, h5, h6⟩ := h3
  subst h6
  obtain ⟨⟨bx, off⟩, hsa⟩ := Option.isSome_iff_exists.1 hs
  intro a w ha hkn
  have hk2 : Knows w ((⟨some (b, 0), 0, 0⟩ : Sl).kb [] sz e ++ (s.kb vs sz e ++ R)) := by
    have := kb_of_cells (l := 0) (sz := sz) hkn hp (by simp)
    exact this.perm (hK.append_left _)
  have hkb : s.kb vs sz e = [(bx, Row off vs (s.cap * sz) e)] := by simp [Sl.kb, hsa]
  have hv : s.val = .slice (some ⟨bx, off, none⟩) s.len s.cap := by simp [Sl.val, hsa]
  have hy' := hy
  rw [hv] at hy'
  rcases e_append (P := P) (n := n) (L := L) (K := (⟨some (b, 0), 0, 0⟩ : Sl).kb [] sz e ++ (s.kb vs sz e ++ R)) (s := ⟨some (b, 0), 0, 0⟩) (vs := []) (us := vs) (m := s.len) (d := d) (ty := ty) (pos := pos) (aft := aft) (gd := gd) hT h2 h4 h5 hzs hat hx
    ⟨by simp, Nat.le_refl _, fun h => by cases h⟩ (by simpa using hb) (by simpa using h63) hy' hok.vlen h1 (.refl _) (R' := R) (by rw [hkb]; exact .here) a w ha hk2 with ⟨s', w', hr, hk'⟩ | h
  · refine .inl ⟨⟨s'.1, by simpa using s'.2.1, by simpa using s'.2.2⟩, w', hr, by simpa using hk'⟩
  · exact .inr h
end
end Go.SL
namespace Go.SL
open Go
section
variable {P : Program} {n : Nat} {L : Env} {K : KB}
theorem wrap_u64 (x : Int) : IntKind.u64.wrap x = x % 18446744073709551616 := by
  simp only [IntKind.wrap, IntKind.bits, IntKind.signed]
  simp
theorem ofInt64 (a : Nat) : BitVec.ofInt 64 (a : Int) = BitVec.ofNat 64 a := by
  apply BitVec.eq_of_toNat_eq
  simp
theorem q_and64 {d : Option Nat} {x y : Operand} {p q : Nat} {T U : TypeId} {ty pos aft gd} (hx : ev L x = some (.int .u64 p)) (hy : ev L y = some (.int .u64 q)) (hp : p < 18446744073709551616) (hq : q < 18446744073709551616) {r : Nat} (hr : p &&& q = r) :
    QRun P n ⟨d, .binOp .and T x y U, ty, pos, aft, gd⟩ L K (.int .u64 (r : Int)) := by
  subst hr
  refine q_bits (.inl rfl) hx hy fun w => ?_
  have h : p &&& q < 18446744073709551616 := Nat.lt_of_le_of_lt Nat.and_le_left hp
  change (pure (Value.int .u64 (IntKind.u64.wrap (((BitVec.ofInt 64 (p : Int)) &&& (BitVec.ofInt 64 (q : Int))).toNat : Int))) : Sem Value).run P w = _
  rw [ofInt64, ofInt64]
  rw [show (BitVec.ofNat 64 p &&& BitVec.ofNat 64 q).toNat = p &&& q by rw [BitVec.toNat_and, BitVec.toNat_ofNat, BitVec.toNat_ofNat, Nat.mod_eq_of_lt hp, Nat.mod_eq_of_lt hq]]
  rw [wrap_u64]
  simp only [Sem.run_pure]
  congr 2
  omega
theorem q_shr64 {d : Option Nat} {x y : Operand} {p : Nat} {q : Int} {k : IntKind} {T U : TypeId} {ty pos aft gd} (hx : ev L x = some (.int .u64 p)) (hy : ev L y = some (.int k q)) (h0 : 0 ≤ q) (h16 : q ≤ 64) {r : Nat} (hr : p / 2 ^ q.toNat = r) :
    QRun P n ⟨d, .binOp .shr T x y U, ty, pos, aft, gd⟩ L K (.int .u64 (r : Int)) := by
  intro a w ha hk
  subst hr
  have hm : min q.toNat 64 = q.toNat := by omega
  have hn : ¬ q < 0 := by omega
  simp only [execOp, ev_eval ha hx, ev_eval ha hy, eqGuard_shr, binOp_shr, Op.shift, hn, if_false, IntKind.bits, hm, Sem.run_bind, Sem.run_pure, Result.andThen]
  congr 3
  rw [Int.fdiv_eq_ediv_of_nonneg _ (by have : (0:Int) < 2 ^ q.toNat := Int.pow_pos (by omega); omega)]
  push_cast
  rfl
end
def cmpI (x y : Int) : Int := if x < y then -1 else if y < x then 1 else 0
end Go.SL
namespace Go.SL
open Go
section
variable {P : Program} {n : Nat} {L : Env} {K : KB}
theorem range2 : Array.range 2 = #[0, 1] := by decide
theorem range3 : Array.range 3 = #[0, 1, 2] := by decide
theorem e_lit2 [Bs] {d : Option Nat} {T e : TypeId} {x y : Operand} {a b : Int} {k : IntKind} {z : Value} {ty pos aft gd} (hT : P.underlying T = some (.slice e)) (hk : sizeB P e = some 1)
    (hz : zeroB P e = some z) (hx : ev L x = some (.int k a)) (hy : ev L y = some (.int k b)) :
    ERun (β := Nat) P n ⟨d, .buildSlice T 2 #[(0, x), (1, y)], ty, pos, aft, gd⟩ L K (fun b => .slice (some ⟨b, 0, none⟩) 2 2) (fun b' => (b', Cells [.int k a, .int k b] e) :: K) := by
  refine e_buildSlice (vs := [(0, .int k a), (1, .int k b)]) (cs := #[.int k a, .int k b]) hT hk hz (by decide) (by simp [hx, hy]) ?_
  rw [show 2 * 1 = 2 from rfl, range2]
  simp [Instr.fill, Value.cells]
theorem e_lit3 [Bs] {d : Option Nat} {T e : TypeId} {x y u : Operand} {a b c : Int} {k : IntKind} {z : Value} {ty pos aft gd} (hT : P.underlying T = some (.slice e)) (hk : sizeB P e = some 1)
    (hz : zeroB P e = some z) (hx : ev L x = some (.int k a)) (hy : ev L y = some (.int k b)) (hu : ev L u = some (.int k c)) :
    ERun (β := Nat) P n ⟨d, .buildSlice T 3 #[(0, x), (1, y), (2, u)], ty, pos, aft, gd⟩ L K (fun b => .slice (some ⟨b, 0, none⟩) 3 3) (fun b' => (b', Cells [.int k a, .int k b, .int k c] e) :: K) := by
  refine e_buildSlice (vs := [(0, .int k a), (1, .int k b), (2, .int k c)]) (cs := #[.int k a, .int k b, .int k c]) hT hk hz (by decide) (by simp [hx, hy, hu]) ?_
  rw [show 3 * 1 = 3 from rfl, range3]
  simp [Instr.fill, Value.cells]
variable {Q : Exit → Act → World → Prop} {ops : List Oper} {S : World → Prop} {t : Nat} {is : Pl} {ls : Array Bool} {i : Nat} {rest : List Nat}
/-- a literal is a slice -/
theorem W_lit [Bs] {b l sz : Nat} {vs : List Value} {T : TypeId} {R : KB} (hp : Pick K b (Cells vs T) R) (hl : vs.length = l * sz) (h : W P n ops Q rest L ((⟨some (b, 0), l, l⟩ : Sl).kb vs sz T ++ R)) : W P n ops Q rest L K :=
  fun a w ha hk => h a w ha (kb_of_cells hk hp hl)
theorem D_lit [Bs] {b l sz : Nat} {vs : List Value} {T : TypeId} {R : KB} (hp : Pick K b (Cells vs T) R) (hl : vs.length = l * sz) (h : D P n ops Q S t is ls L ((⟨some (b, 0), l, l⟩ : Sl).kb vs sz T ++ R)) : D P n ops Q S t is ls L K :=
  fun a w ha hk => h a w ha (kb_of_cells hk hp hl)
/-- the first of a slice -/
def Sl.to (s : Sl) (k : Nat) : Sl := ⟨s.a, k, s.cap⟩
theorem Sl.Ok.to {s : Sl} {vs : List Value} {sz k : Nat} (h : s.Ok vs sz) (hk : k ≤ s.len) : (s.to k).Ok (vs.take (k * sz)) sz := by
  refine ⟨?_, Nat.le_trans hk h.cap, h.nil⟩
  have : k * sz ≤ s.len * sz := Nat.mul_le_mul_right _ hk
  rw [List.length_take, h.vlen]
  simp only [Sl.to]
  omega
theorem Knows.to [Bs] {w : World} {s : Sl} {vs : List Value} {sz k : Nat} {T : TypeId} {R : KB} (h : Knows w (s.kb vs sz T ++ R)) : Knows w ((s.to k).kb (vs.take (k * sz)) sz T ++ R) := by
  cases ha : s.a with
  | none => simpa [Sl.kb, Sl.to, ha] using h
  | some p =>
    obtain ⟨b, off⟩ := p
    simp only [Sl.kb, Sl.to, ha] at h ⊢
    refine h.mono .here ?_
    rintro o ⟨pre, post, rfl, h1, h2⟩
    refine ⟨pre, vs.drop (k * sz) ++ post, ?_, h1, ?_⟩
    · congr 1
      apply Array.ext'
      simp [← List.append_assoc]
      rw [List.append_assoc pre, List.take_append_drop]
    · simp only [List.length_append, List.length_take, List.length_drop] at h2 ⊢; omega
theorem q_sliceTo {d : Option Nat} {x y : Operand} {T e : TypeId} {sz k : Nat} {s : Sl} {vs : List Value} {kh : IntKind} {ty pos aft gd} (hT : P.underlying T = some (.slice e)) (hs : sizeB P e = some sz)
    (hok : s.Ok vs sz) (hx : ev L x = some s.val) (hy : ev L y = some (.int kh k)) (h0 : 0 < s.len) (hk : k ≤ s.len) :
    QRun P n ⟨d, .slice T x none (some y) none, ty, pos, aft, gd⟩ L K (s.to k).val := by
  have ha := Sl.some_of hok h0
  have hv := Sl.val_some ha
  rw [hv] at hx
  refine q_slice (p := 0) (q := k) (kl := kh) hT hs hx (.inl ⟨rfl, rfl⟩) (.inr ⟨y, rfl, hy⟩) (Nat.zero_le _) (Nat.le_trans hk hok.cap) ?_
  simp only [Sl.val, Sl.to, ha, Option.map_some, Nat.zero_mul, Nat.add_zero, Nat.sub_zero, ite_self]
end
end Go.SL
namespace Go.SL
open Go
section
variable {P : Program} {n : Nat} {L : Env} {K : KB}
/-- a result that lies in a block (an aggregate) -/
theorem res1c [Bs] {fn : Func} {a : Act} {w : World} {s : Nat} {T U : TypeId} {b m : Nat} {vs us : List Value} {K' : KB} (ha : Holds n a L) (hk : Knows w K) (hr : fn.results = #[.cell s T]) (hs : L.get s = some (.pointer (some ⟨b, 0, none⟩)))
    (hT : aggB P T = some true) (hm : sizeB P T = some m) (hp : Pick K b (Cells vs U) K') (hlen : m ≤ vs.length) (hv : vs.take m = us) : (results fn a.tmps).run P w = .ok (.agg us.toArray) w := by
  have hg := ha.get' hs
  have h1 : a.tmps.getD s undef = .pointer (some ⟨b, 0, none⟩) := by rw [Array.getD_eq_getD_getElem?]; exact hg
  have := run_loadCellsFrom (P := P) (b := b) (off := 0) (fun j => hk.cell hp j) m 0 #[] (by omega)
  have hl : (loadVar T ⟨b, 0, none⟩).run P w = .ok (.agg us.toArray) w := by
    simp [loadVar, run_isAgg hT, run_sizeOf hm, loadCells, this, hv]
  simp [results, hr, hg, asAddr, hl]
end
/-- a chunk is written another way -/
theorem C_swap [Bs] {P : Program} {n : Nat} {L : Env} {K A B R : KB} {Q : Exit → Act → World → Prop} {c : Code} (hA : K.Perm (A ++ R)) (hB : A.Perm B) (h : C P n c Q L (B ++ R)) : C P n c Q L K :=
  fun a w ha hk => h a w ha (hk.perm (hA.trans (hB.append_right R)))
theorem C_take [Bs] {P : Program} {n : Nat} {L : Env} {K K' : KB} {Q : Exit → Act → World → Prop} {c : Code} (ht : Takes K K') (h : C P n c Q L K') : C P n c Q L K := fun a w ha hk => h a w ha (hk.take ht)
theorem C_loopT [Bs] {P : Program} {n : Nat} {L : Env} {K : KB} {Q : Exit → Act → World → Prop} {ι : Type} (Lf : ι → Env) (Kf : ι → KB) (μ : ι → Nat) (j₀ : ι) {c : Code} (hL : Sub (Lf j₀) L) (hK : Takes K (Kf j₀))
    (round : ∀ j, C P n c (Exit.then (fun a w => ∃ j', μ j' < μ j ∧ Holds n a (Lf j') ∧ Knows w (Kf j')) Q) (Lf j) (Kf j)) : C P n (.loop c) Q L K :=
  C_take hK (C_loop Lf Kf μ j₀ hL (.refl _) round)
/-! ## Slices of slices -/
/-- the rows' own blocks -/
def rowsKb (rs : List (Sl × List Value)) (sz : Nat) (T : TypeId) : KB := rs.flatMap fun r => r.1.kb r.2 sz T
theorem rowsKb_cons (r : Sl × List Value) (rs : List (Sl × List Value)) (sz : Nat) (T : TypeId) : rowsKb (r :: rs) sz T = r.1.kb r.2 sz T ++ rowsKb rs sz T := rfl
theorem rowsKb_app (xs ys : List (Sl × List Value)) (sz : Nat) (T : TypeId) : rowsKb (xs ++ ys) sz T = rowsKb xs sz T ++ rowsKb ys sz T := by simp [rowsKb]
/-- one row, the others beside it -/
theorem rowsKb_at {rs : List (Sl × List Value)} {i : Nat} (h : i < rs.length) (sz : Nat) (T : TypeId) :
    (rowsKb rs sz T).Perm ((rs[i]).1.kb (rs[i]).2 sz T ++ rowsKb (rs.eraseIdx i) sz T) := by
  have e : rs = rs.take i ++ rs[i] :: rs.drop (i + 1) := by rw [← List.drop_eq_getElem_cons h, List.take_append_drop]
  have e2 : rs.eraseIdx i = rs.take i ++ rs.drop (i + 1) := List.eraseIdx_eq_take_drop_succ rs i
  rw [e2, rowsKb_app]
  conv => lhs; rw [e, rowsKb_app, rowsKb_cons]
  exact tk_app (B := rowsKb (rs.take i) sz T) tk_here
/-- .. and back, the row changed -/
theorem rowsKb_set {rs : List (Sl × List Value)} {i : Nat} (h : i < rs.length) (r : Sl × List Value) (sz : Nat) (T : TypeId) :
    (r.1.kb r.2 sz T ++ rowsKb (rs.eraseIdx i) sz T).Perm (rowsKb (rs.set i r) sz T) := by
  have h2 : i < (rs.set i r).length := by simpa using h
  have := rowsKb_at h2 sz T
  rw [List.getElem_set_self, List.eraseIdx_set_eq] at this
  exact this.symm
end Go.SL
/-! ## Short names for what is asked again and again -/
namespace Go.SL
open Go
theorem aP {K K' : KB} {b : Nat} {φ : OP} (h : Pick K b φ K' := by first | ((repeat (first | exact Pick.here | (with_reducible apply Pick.there) | apply Pick.appR)); done) | (repeat (first | exact Pick.here | apply Pick.there | apply Pick.appR))) : Pick K b φ K' := h
theorem aU {K K' : KB} {b : Nat} {φ ψ : OP} (h : Upd K b φ ψ K' := by first | ((repeat (first | exact Upd.here | (with_reducible apply Upd.there) | apply Upd.app)); done) | (repeat (first | exact Upd.here | apply Upd.there | apply Upd.app))) : Upd K b φ ψ K' := h
theorem aC {K A R : KB} (h : K.Perm (A ++ R) := by repeat (first | exact tk_here | exact tk_all | apply tk_app | apply tk_cons)) : K.Perm (A ++ R) := h
theorem aQ {K R : KB} (h : K.Perm R := by (try simp only [List.append_assoc, List.cons_append, List.nil_append, List.append_nil]); repeat (first | with_reducible exact List.Perm.refl _ | ((with_reducible apply pk_app); focus ((repeat (first | exact tk_here | exact tk_all | apply tk_app | apply tk_cons)); done)) | ((with_reducible apply pk_cons); focus ((repeat (first | exact tk_one | apply tk_app | apply tk_cons)); done)) | exact List.Perm.refl _)) : K.Perm R := h
theorem aT {K T : KB} (h : Takes K T := by (try simp only [List.append_assoc, List.cons_append, List.nil_append, List.append_nil]); repeat (first | exact takes_nil | with_reducible exact takes_refl | ((with_reducible apply takes_app); focus ((repeat (first | exact tk_here | exact tk_all | apply tk_app | apply tk_cons)); done)) | ((with_reducible apply takes_cons); focus ((repeat (first | exact tk_one | apply tk_app | apply tk_cons)); done)) | exact takes_last (by focus ((repeat (first | exact tk_here | exact tk_all | apply tk_app | apply tk_cons)); done)) | exact takes_refl)) : Takes K T := h
theorem aS {L L' : Env} (h : Sub L' L := by repeat (first | exact trivial | refine ⟨rfl, ?_⟩)) : Sub L' L := h
theorem aK [Bs] {w : World} {K K' : KB} (hk : Knows w K) (h : K'.Sublist K := by repeat (first | exact List.Sublist.refl _ | apply List.Sublist.cons)) : Knows w K' := hk.sublist h
theorem CL : (∀ (p : Prop) [Decidable p], (decide p = true) = p) ∧ (∀ (p : Prop) [Decidable p], decide p = false ↔ ¬ p) ∧ (∀ b : Bool, ((!b) = true) = (b = false)) ∧ (∀ b : Bool, ((!b) = false) = (b = true)) ∧ (∀ a b : Bool, ((!a) = b) ↔ (a = !b)) ∧ ((!true) = false) ∧ ((!false) = true) ∧
  (∀ {α : Type} [BEq α] [LawfulBEq α] (a b : α), (a == b) = true ↔ a = b) ∧ (∀ {α : Type} [BEq α] [LawfulBEq α] (a b : α), (a != b) = true ↔ a ≠ b) ∧ (∀ {α : Type} (a b : α), (a ≠ b) = ¬ (a = b)) ∧ (∀ {α : Type} [BEq α] [LawfulBEq α] (a b : α), (a == b) = false ↔ a ≠ b) ∧ (∀ {α : Type} [BEq α] [LawfulBEq α] (a b : α), (a != b) = false ↔ a = b) ∧
  (∀ {α : Type} (o : Option α), o.isNone = true ↔ o = none) ∧ (∀ {α : Type} (o : Option α), o.isNone = false ↔ o.isSome = true) ∧ (∀ {α : Type} (o : Option α), o.isSome = false ↔ o.isNone = true) ∧ (∀ (p : Prop) [Decidable p], ¬¬p ↔ p) :=
  ⟨fun _ _ => decide_eq_true_eq, fun _ _ => decide_eq_false_iff_not, fun _ => Bool.not_eq_true' _, fun _ => Bool.not_eq_false' _, fun _ _ => Bool.not_eq_eq_eq_not, rfl, rfl, fun _ _ => beq_iff_eq, fun _ _ => bne_iff_ne, fun _ _ => ne_eq _ _, fun _ _ => beq_eq_false_iff_ne, fun _ _ => bne_eq_false_iff_eq, fun _ => Option.isNone_iff_eq_none, fun _ => Option.isNone_eq_false_iff, fun _ => Option.isSome_eq_false_iff, fun _ _ => Decidable.not_not⟩
theorem NL : (∀ (a b c : KB), (a ++ b) ++ c = a ++ (b ++ c)) ∧ (∀ (x : Nat × OP) (a b : KB), (x :: a) ++ b = x :: (a ++ b)) ∧ (∀ a : KB, [] ++ a = a) ∧ (∀ a : KB, a ++ [] = a) := ⟨List.append_assoc, fun _ _ _ => rfl, fun _ => rfl, List.append_nil⟩
section
variable {P : Program} {n : Nat} {ops : List Oper} {Q : Exit → Act → World → Prop} {i : Nat} {rest : List Nat} {L : Env} {K : KB}
theorem wm [Bs] {d : Option Nat} {x : Operand} {v : Value} {ty pos aft gd} (ho : nthO ops i = some ⟨d, .move x, ty, pos, aft, gd⟩) (hw : wanted ops L ⟨d, .move x, ty, pos, aft, gd⟩ = some true) (hd : fits n d = true) (hx : ev L x = some v) (h : W P n ops Q rest (puts L d v) K) : W P n ops Q (i :: rest) L K := W_q ho hw hd (q_move hx) h
theorem wa [Bs] {d : Option Nat} {x : Operand} {v : Value} {ty pos aft gd} (ho : nthO ops i = some ⟨d, .assign x, ty, pos, aft, gd⟩) (hw : wanted ops L ⟨d, .assign x, ty, pos, aft, gd⟩ = some true) (hd : fits n d = true) (hx : ev L x = some v) (h : W P n ops Q rest (puts L d v) K) : W P n ops Q (i :: rest) L K := W_q ho hw hd (q_assign hx) h
theorem wc [Bs] {d : Option Nat} {x : Operand} {p : Addr} {ty pos aft gd} (ho : nthO ops i = some ⟨d, .nilCheck x, ty, pos, aft, gd⟩) (hw : wanted ops L ⟨d, .nilCheck x, ty, pos, aft, gd⟩ = some true) (hd : fits n d = true) (hx : ev L x = some (.pointer (some p))) (h : W P n ops Q rest (puts L d (.pointer (some p))) K) : W P n ops Q (i :: rest) L K := W_q ho hw hd (q_nilCheck hx) h
end
end Go.SL
namespace Go.SL
open Go Go.Proofs
set_option maxRecDepth 10000
/-- yield's word, of a kind of values -/
def Yields [Bs] (P : Program) (l : Nat) (J : List Value → KB → Prop) (N : Nat) (Qx : Value → Prop) : Prop :=
  ∀ pre x, Qx x → pre.length < N → ∀ Kx Fr w, J pre Kx → Knows w (Kx ++ Fr) → YieldAt Fence.wide 0 P l #[x] w fun e w' => e = .returned (.bool true) ∧ ∃ Ky, J (pre ++ [x]) Ky ∧ Knows w' (Ky ++ Fr)
theorem Yields.at [Bs] {P : Program} {l : Nat} {J : List Value → KB → Prop} {N : Nat} {Qx : Value → Prop} {pre : List Value} {x : Value} {K Kx Fr : KB} (hY : Yields P l J N Qx) (hx : Qx x) (hlen : pre.length < N) (hJ : J pre Kx)
    (hK : K.Perm (Kx ++ Fr)) : ∀ w, Knows w K → YieldAt Fence.wide 0 P l [x].toArray w fun e w' => e = .returned (.bool true) ∧ ∃ Ky, (∃ K1, J (pre ++ [x]) K1 ∧ Ky = K1 ++ Fr) ∧ Knows w' Ky := by
  intro w hw
  obtain ⟨fn, tmps, assign, body, h1, h2⟩ := hY pre x hx hlen Kx Fr w hJ (hw.perm hK)
  refine ⟨fn, tmps, assign, body, h1, h2.mono ?_⟩
  rintro e w' ⟨rfl, Ky, h3, h4⟩
  exact ⟨rfl, _, ⟨Ky, h3, rfl⟩, h4⟩
def encK (kd : IntKind) (m : List (Int × Value)) : List Value := m.map fun p => .int kd p.1
def encV (m : List (Int × Value)) : List Value := m.map fun p => p.2
/-- the cells of values, one behind the other -/
def flatV (xs : List Value) : List Value := xs.flatMap fun v => v.cells.toList
theorem flatV_snoc (xs : List Value) (x : Value) : flatV xs ++ x.cells.toList = flatV (xs ++ [x]) := by simp [flatV]
/-- what appending in a loop keeps -/
def CJ (bx T e sz : Nat) (xs : List Value) (Kx : KB) : Prop := ∃ s : Sl, s.Ok (flatV xs) sz ∧ s.len = xs.length ∧ (xs = [] → s = Sl.nilS) ∧ Kx = (bx, Cells [s.val] T) :: s.kb (flatV xs) sz e
theorem ag_117 : aggB Tryz.prog 117 = some false := by kernel_rfl
theorem ag_175 : aggB Tryz.prog 175 = some true := by kernel_rfl
theorem ag_82 : aggB Tryz.prog 82 = some false := by kernel_rfl
theorem ag_88 : aggB Tryz.prog 88 = some false := by kernel_rfl
theorem sz_175 : sizeB Tryz.prog 175 = some 2 := by kernel_rfl
theorem zf_175 : zeroB Tryz.prog 175 = some (Go.Value.agg #[Go.Value.int (Go.IntKind.u32) 0, Go.Value.int (Go.IntKind.u32) 0]) := by kernel_rfl
theorem s_keysB1 [Bs] (m : List (Int × Value)) (bx r l : Nat) (J : List Value → KB → Prop) (hY : Yields Tryz.prog l J m.length (fun x => ∃ p ∈ m, x = .int .u32 p.1)) (K0 : KB) (h0 : J [] K0) : Spec Tryz.prog 104 [.func (.yield l) #[] #[], .pointer (some ⟨bx, 0, none⟩)] ([(bx, Cells [.map (some r)] 82), (r, MapI .u32 m)] ++ K0) fun _ K' => ∃ xs K1, (∃ vis, vis.Perm m ∧ xs = encK .u32 vis) ∧ J xs K1 ∧ K' = [(bx, Cells [.map (some r)] 82), (r, MapI .u32 m)] ++ K1 := by
 refine spec_body Tryz.func104 rfl rfl fun F R hR => ?_
 refine C_seq ?_
 refine C_region ?_
 refine W_q (i := 0) rfl rfl rfl (q_load ag_82 rfl aP rfl) ?_
 refine W_e (i := 1) rfl rfl rfl (e_range Tryz.underlying82 rfl aP) ?_
 rintro ⟨⟨it5, hit5⟩, ib5⟩
 refine W_nil ?_
 refine N_seq ?_
 refine C_block ?_
 refine C_loop (ι := (it : It m) × { Kx : KB // J (encK .u32 it.vis) Kx }) (fun _ => [(0, .func (.yield l) #[] #[]), (5, .pointer (some ⟨ib5, 0, none⟩))]) (fun j => j.1.kb .u32 ib5 r ++ ((bx, Cells [.map (some r)] 82) :: (j.2.1 ++ F))) (fun j => m.length - j.1.vis.length) ⟨it5, K0, by rw [hit5]; exact h0⟩ aS aQ ?_
 rintro ⟨it, Kx, hJ⟩
 refine C_seq ?_
 refine C_region ?_
 refine W_e (i := 0) rfl rfl rfl (e_next rfl aC) ?_
 rintro ⟨_ | ⟨it6, x6⟩, hq6⟩
 ·
  dsimp only at hq6 ⊢
  refine W_q (i := 1) rfl rfl rfl (q_extract rfl rfl) ?_
  refine W_nil ?_
  refine N_seq ?_
  refine C_seq ?_
  refine C_condF rfl ?_
  refine C_exit ?_
  intro a w ha hk
  exact R_val (e := .normal) (by simp) ha.defers (res0 rfl) (hR _ _ _ ⟨_, _, ⟨it.vis, hq6, rfl⟩, hJ, rfl⟩ ((hk.perm (by exact .refl _)).close.perm aQ))
 ·
  dsimp only at hq6 ⊢
  obtain ⟨hv6, hm6, hn6⟩ := hq6
  refine W_q (i := 1) rfl rfl rfl (q_extract rfl rfl) ?_
  refine W_nil ?_
  refine N_seq ?_
  refine C_seq ?_
  refine C_condT rfl ?_
  refine C_skip ?_
  refine N_seq ?_
  refine C_block ?_
  refine C_seq ?_
  refine C_region ?_
  refine W_q (i := 0) rfl rfl rfl (q_entry rfl aP aP (by assumption)) ?_
  refine W_q (i := 1) rfl rfl rfl (q_extract rfl rfl) ?_
  refine wa (i := 2) rfl rfl rfl rfl ?_
  refine W_nil ?_
  refine N_seq ?_
  refine C_seq ?_
  refine C_regionI ?_
  refine WI_q (i := 0) (fun _ => trivial) rfl rfl rfl rfl (q_move rfl) ?_
  refine WI_q (i := 1) (fun _ => trivial) rfl rfl rfl rfl (q_move rfl) ?_
  refine WI_round (i := 2) rfl rfl rfl rfl rfl (hY.at (pre := encK .u32 it.vis) ⟨_, hm6, rfl⟩ (by simpa [encK, encV] using hn6) hJ aC) ?_
  rintro _ ⟨K1, hJ1, rfl⟩
  refine WI_q (i := 3) (fun _ => trivial) rfl rfl rfl rfl (q_not rfl) ?_
  refine WI_nil ?_
  refine N_seq ?_
  refine C_condF rfl ?_
  refine C_skip ?_
  exact fun a w ha hk => ⟨⟨it6, K1, by rw [hv6]; simpa [encK, encV] using hJ1⟩, by simp only; rw [hv6]; simp; omega, ha.sub aS, hk.perm aQ⟩
theorem s_valuesA1 [Bs] (m : List (Int × Value)) (bx r l : Nat) (J : List Value → KB → Prop) (hY : Yields Tryz.prog l J m.length (fun x => ∃ p ∈ m, x = p.2)) (K0 : KB) (h0 : J [] K0) (hm2 : ∀ p ∈ m, ∃ a b, p.2 = .agg #[.int .u32 a, .int .u32 b]) : Spec Tryz.prog 155 [.func (.yield l) #[] #[], .pointer (some ⟨bx, 0, none⟩)] ([(bx, Cells [.map (some r)] 88), (r, MapI .i64 m)] ++ K0) fun _ K' => ∃ xs K1, (∃ vis, vis.Perm m ∧ xs = encV vis) ∧ J xs K1 ∧ K' = [(bx, Cells [.map (some r)] 88), (r, MapI .i64 m)] ++ K1 := by
 refine spec_body Tryz.func155 rfl rfl fun F R hR => ?_
 refine C_seq ?_
 refine C_region ?_
 refine W_q (i := 0) rfl rfl rfl (q_load ag_88 rfl aP rfl) ?_
 refine W_e (i := 1) rfl rfl rfl (e_range Tryz.underlying88 rfl aP) ?_
 rintro ⟨⟨it6, hit6⟩, ib6⟩
 refine W_nil ?_
 refine N_seq ?_
 refine C_block ?_
 refine C_loop (ι := (it : It m) × { Kx : KB // J (encV it.vis) Kx }) (fun _ => [(0, .func (.yield l) #[] #[]), (6, .pointer (some ⟨ib6, 0, none⟩))]) (fun j => j.1.kb .i64 ib6 r ++ ((bx, Cells [.map (some r)] 88) :: (j.2.1 ++ F))) (fun j => m.length - j.1.vis.length) ⟨it6, K0, by rw [hit6]; exact h0⟩ aS aQ ?_
 rintro ⟨it, Kx, hJ⟩
 refine C_seq ?_
 refine C_region ?_
 refine W_e (i := 0) rfl rfl rfl (e_next rfl aC) ?_
 rintro ⟨_ | ⟨it7, x7⟩, hq7⟩
 ·
  dsimp only at hq7 ⊢
  refine W_q (i := 1) rfl rfl rfl (q_extract rfl rfl) ?_
  refine W_nil ?_
  refine N_seq ?_
  refine C_seq ?_
  refine C_condF rfl ?_
  refine C_exit ?_
  intro a w ha hk
  exact R_val (e := .normal) (by simp) ha.defers (res0 rfl) (hR _ _ _ ⟨_, _, ⟨it.vis, hq7, rfl⟩, hJ, rfl⟩ ((hk.perm (by exact .refl _)).close.perm aQ))
 ·
  dsimp only at hq7 ⊢
  obtain ⟨hv7, hm7, hn7⟩ := hq7
  refine W_q (i := 1) rfl rfl rfl (q_extract rfl rfl) ?_
  refine W_nil ?_
  refine N_seq ?_
  refine C_seq ?_
  refine C_condT rfl ?_
  refine C_skip ?_
  refine N_seq ?_
  refine C_block ?_
  refine C_seq ?_
  refine C_region ?_
  refine W_q (i := 0) rfl rfl rfl (q_entry rfl aP aP (by assumption)) ?_
  refine W_q (i := 1) rfl rfl rfl (q_extract rfl rfl) ?_
  obtain ⟨y1, y2, hy⟩ := hm2 _ hm7
  rw [hy]
  refine W_e (i := 2) rfl rfl rfl (e_alloc zf_175) ?_
  intro vb
  refine W_e (i := 3) rfl rfl rfl (e_storeAgg sz_175 rfl rfl rfl rfl aU (by first | decide | exact Nat.le_of_ble_eq_true rfl | simp [splice, Value.cells])) ?_
  intro _
  refine W_nil ?_
  refine N_seq ?_
  refine C_seq ?_
  refine C_regionI ?_
  refine WI_q (i := 0) (fun _ => trivial) rfl rfl rfl rfl (q_move rfl) ?_
  refine WI_q (i := 1) (fun _ => trivial) rfl rfl rfl rfl (q_loadAgg (us := [.int .u32 y1, .int .u32 y2]) ag_175 sz_175 rfl aP (by simp [splice, Value.cells]) (by simp [splice, Value.cells])) ?_
  refine WI_round (i := 2) rfl rfl rfl rfl rfl (hY.at (pre := encV it.vis) ⟨_, hm7, hy.symm⟩ (by simpa [encK, encV] using hn7) hJ aC) ?_
  rintro _ ⟨K1, hJ1, rfl⟩
  refine WI_q (i := 3) (fun _ => trivial) rfl rfl rfl rfl (q_not rfl) ?_
  refine WI_nil ?_
  refine N_seq ?_
  refine C_condF rfl ?_
  refine C_skip ?_
  exact fun a w ha hk => ⟨⟨it7, K1, by rw [hv7]; simpa [encK, encV, hy] using hJ1⟩, by simp only; rw [hv7]; simp; omega, ha.sub aS, Knows.sublist (K := (vb, _) :: _) (hk.perm aQ) (List.sublist_cons_self _ _)⟩
end Go.SL
namespace Go.SL
open Go Go.Proofs
set_option maxRecDepth 10000
def TZ [Bs] : KB := [(0, fun o => o = Bs.tab)]
theorem ag_5 : aggB Tryz.prog 5 = some false := by kernel_rfl
theorem sz_5 : sizeB Tryz.prog 5 = some 1 := by kernel_rfl
theorem s_tz [Bs] (s : Nat) (hs : s < 65536) : Spec Tryz.prog 129 [.int .u16 s] TZ (fun v K' => v = .int .i64 (Qd.tz s) ∧ K' = TZ) := by
 refine spec_body Tryz.func129 rfl rfl fun F R hR => ?_
 refine C_seq ?_
 refine C_region ?_
 refine wa (i := 0) rfl rfl rfl rfl ?_
 refine W_nil ?_
 refine N_seq ?_
 refine C_seq ?_
 refine C_seq ?_
 refine C_region ?_
 refine wm (i := 0) rfl rfl rfl rfl ?_
 refine W_q (i := 1) rfl rfl rfl (q_int rfl rfl rfl) ?_
 refine W_nil ?_
 refine N_seq ?_
 refine C_cond rfl (fun ht4 => ?_) (fun ht4 => ?_)
 ·
  have hz : s = 0 := by simpa using ht4
  refine C_seq ?_
  refine C_region ?_
  refine wa (i := 0) rfl rfl rfl rfl ?_
  refine W_nil ?_
  refine N_seq ?_
  refine C_ret fun a w ha hk => ?_
  exact R_val (e := .ret) (.inl rfl) ha.defers (res1 ha rfl rfl) (hR _ _ _ ⟨by rw [hz]; rfl, rfl⟩ (aK hk))
 ·
  have hz : s ≠ 0 := by simpa using ht4
  obtain ⟨k, hb, hl, hk, ht⟩ := Qd.bitsOf_pos hs hz
  obtain ⟨hi1, hi2, hi3⟩ := tz_at k hk
  have hlow := hl.low hs
  refine C_skip ?_
  refine N_seq ?_
  refine C_seq ?_
  refine C_region ?_
  refine wm (i := 0) rfl rfl rfl rfl ?_
  refine wm (i := 1) rfl rfl rfl rfl ?_
  refine W_q (i := 2) rfl rfl rfl (q_neg rfl (neg16 hz hs)) ?_
  refine W_q (i := 3) rfl rfl rfl (q_and16 (p := s) (q := 65536 - s) rfl rfl hs (by omega)) ?_
  rw [hlow]
  refine W_q (i := 4) rfl rfl rfl (q_conv Tryz.underlying118 Tryz.underlying31 rfl (r := ((2 ^ k : Nat) : Int)) (by rw [wrap_u32]; omega)) ?_
  refine W_q (i := 5) rfl rfl rfl (q_mul rfl rfl (r := ((2 ^ k * 125613361 % 4294967296 : Nat) : Int)) (by rw [wrap_u32]; omega)) ?_
  refine W_q (i := 6) rfl rfl rfl (q_shr32 rfl rfl (by decide) (by decide) (r := (2 ^ k * 125613361 % 4294967296) >>> 27) rfl) ?_
  refine W_q (i := 7) rfl rfl rfl (q_indexArr Tryz.underlying238 sz_5 rfl rfl (Int.natCast_nonneg _) (Int.ofNat_lt.2 hi1) rfl) ?_
  refine W_q (i := 8) rfl rfl rfl (q_loadX ag_5 rfl (List.mem_append_left _ (.head _)) (v := .int .u8 (k : Int)) (by rw [Int.toNat_natCast, Nat.mul_one, Nat.zero_add]; exact tab_at hi1 hi2)) ?_
  refine W_q (i := 9) rfl rfl rfl (q_conv Tryz.underlying5 Tryz.underlying3 rfl (r := (k : Int)) (wrap64_id (by omega) (by omega))) ?_
  refine wa (i := 10) rfl rfl rfl rfl ?_
  refine W_nil ?_
  refine N_seq ?_
  refine C_ret fun a w ha hk => ?_
  exact R_val (e := .ret) (.inl rfl) ha.defers (res1 ha rfl rfl) (hR _ _ _ ⟨by rw [ht], rfl⟩ (aK hk))
end Go.SL
namespace Go.SL
open Go Go.Proofs
set_option maxRecDepth 10000
def encI (xs : List Int) : List Value := xs.map fun x => .int .i64 x
def encN (xs : List Nat) : List Value := xs.map fun (x : Nat) => .int .i64 (x : Int)
theorem flatV_one {xs : List Value} (h : ∀ x ∈ xs, ∃ k i, x = .int k i) : flatV xs = xs := by
  induction xs with
  | nil => rfl
  | cons x xs ih =>
    obtain ⟨k, i, rfl⟩ := h _ (.head _)
    simp only [flatV, List.flatMap_cons] at ih ⊢
    rw [ih fun y hy => h y (.tail _ hy)]
    rfl
theorem ag_205 : aggB Tryz.prog 205 = some false := by kernel_rfl
theorem ag_53 : aggB Tryz.prog 53 = some false := by kernel_rfl
theorem ag_66 : aggB Tryz.prog 66 = some false := by kernel_rfl
theorem inf_175 : infoB Tryz.prog 175 = some (some (Go.Value.agg #[Go.Value.int (Go.IntKind.u32) 0, Go.Value.int (Go.IntKind.u32) 0]), 2, 8) := by kernel_rfl
theorem inf_31 : infoB Tryz.prog 31 = some (some (Go.Value.int (Go.IntKind.u32) 0), 1, 4) := by kernel_rfl
theorem inf_3 : infoB Tryz.prog 3 = some (some (Go.Value.int (Go.IntKind.i64) 0), 1, 8) := by kernel_rfl
theorem pf_129 : plainFn Tryz.prog 129 = true := by kernel_rfl
theorem sz_205 : sizeB Tryz.prog 205 = some 1 := by kernel_rfl
theorem sz_31 : sizeB Tryz.prog 31 = some 1 := by kernel_rfl
theorem sz_3 : sizeB Tryz.prog 3 = some 1 := by kernel_rfl
theorem sz_53 : sizeB Tryz.prog 53 = some 1 := by kernel_rfl
theorem sz_66 : sizeB Tryz.prog 66 = some 1 := by kernel_rfl
theorem zf_31 : zeroB Tryz.prog 31 = some (Go.Value.int (Go.IntKind.u32) 0) := by kernel_rfl
theorem zf_3 : zeroB Tryz.prog 3 = some (Go.Value.int (Go.IntKind.i64) 0) := by kernel_rfl
theorem s_appendSeqK [Bs] {gf : FuncId} {fb lb : Array Value} {S : List Value → Prop} {N : Nat} {Qx : Value → Prop} {Ki : KB} (it : Iter Tryz.prog gf fb lb S N Qx Ki) (hp : plainFn Tryz.prog gf = true) (hQ : ∀ x, Qx x → ∃ i, x = .int .u32 i) (hN : N * 4 ≤ 140737488355328) : Spec Tryz.prog 136 [.slice none 0 0, .func (.func gf) fb lb] Ki (fun v K' => ∃ xs sl, S xs ∧ v = Sl.val sl ∧ sl.Ok (flatV xs) 1 ∧ sl.len = xs.length ∧ (xs = [] → sl = Sl.nilS) ∧ K' = Ki ++ sl.kb (flatV xs) 1 31) := by
  refine spec_body_m Tryz.func136 rfl rfl fun F R hR => ?_
  refine C_seq ?_
  refine C_region ?_
  refine W_e (i := 0) rfl rfl rfl (e_box rfl) ?_
  intro b2
  refine wa (i := 1) rfl rfl rfl rfl ?_
  refine W_nil ?_
  refine N_seq ?_
  refine C_seq ?_
  refine C_seq ?_
  refine C_region ?_
  refine wm (i := 0) rfl rfl rfl rfl ?_
  refine W_nil ?_
  refine N_seq ?_
  refine C_block ?_
  refine C_rangeFunc (t := 6) (p := 7) rfl hp (by decide) it (CJ b2 53 31 1) [(b2, Cells [.slice none 0 0] 53)] aQ ⟨Sl.nilS, Sl.nil_ok _, rfl, fun _ => rfl, rfl⟩ (fun x _ => [(5, x), (2, .pointer (some ⟨b2, 0, none⟩))]) (fun _ _ => []) ?_ ?_ ?_
  · intro l pre x Kx Fr hx hJ
    refine CI_region ?_
    refine WI_q (i := 0) (fun _ => trivial) rfl rfl rfl rfl (q_assign rfl) ?_
    exact WI_nil fun a w ha hk => ⟨0, ha.sub aS, hk⟩
  · intro l pre x vb Kx Fr hx hlen hJ
    obtain ⟨i, rfl⟩ := hQ x hx
    obtain ⟨s, hok, hsl, hnil, rfl⟩ := hJ
    try simp only [NL]
    refine CI_block ?_
    refine CI_region ?_
    refine WI_q (i := 0) (fun _ => trivial) rfl rfl rfl rfl (q_load ag_53 rfl aP rfl) ?_
    refine WI_q (i := 1) (fun _ => trivial) rfl rfl rfl rfl (q_move rfl) ?_
    refine WI_e (i := 2) (fun _ => trivial) rfl rfl rfl rfl (e_lit1 Tryz.underlying53 sz_31 zf_31 (by decide) rfl rfl) ?_
    intro b10
    refine WI_e (i := 3) (fun _ => trivial) rfl rfl rfl rfl (e_app1 (us := [.int .u32 i]) Tryz.underlying53 inf_31 rfl rfl rfl rfl aP aC hok (by omega) (by omega) rfl rfl (flatV_snoc pre (.int .u32 i))) ?_
    rintro ⟨s', hsl', hsk'⟩
    refine WI_e (i := 4) (fun _ => trivial) rfl rfl rfl rfl (e_store sz_53 rfl rfl rfl aU (by first | decide | exact Nat.le_of_ble_eq_true rfl | simp [splice, Value.cells])) ?_
    intro _
    exact WI_nil fun a w ha hk => ⟨rfl, _, ⟨s', hsk', by simp [hsl', hsl], by simp, rfl⟩, hk.perm aQ⟩
  · intro xs K1 D hS hJ
    obtain ⟨s, hok, hsl, hnil, rfl⟩ := hJ
    refine C_tail ?_
    try simp only [NL]
    refine Wd_q (i := 0) rfl rfl rfl (q_load ag_53 rfl aP rfl) ?_
    refine Wd_q (i := 1) rfl rfl rfl (q_assign rfl) ?_
    refine Wd_nil fun a w ha hk => ?_
    refine wp_ret ?_
    refine T_val (.inl rfl) (hk.obj (.head _)) (fun w => res1 ha rfl rfl) (hR _ _ _ ⟨xs, s, hS, rfl, hok, hsl, hnil, rfl⟩ ?_)
    have h2 := hk.put (ψ := fun _ => True) (o := .deferred none) (R := _) (.refl _) trivial
    exact Knows.sublist (K := (D, _) :: (b2, _) :: _) (h2.perm aQ) ((List.sublist_cons_self _ _).trans (List.sublist_cons_self _ _))
theorem s_appendSeqV [Bs] {gf : FuncId} {fb lb : Array Value} {S : List Value → Prop} {N : Nat} {Qx : Value → Prop} {Ki : KB} (it : Iter Tryz.prog gf fb lb S N Qx Ki) (hp : plainFn Tryz.prog gf = true) (hQ : ∀ x, Qx x → ∃ a b, x = .agg #[.int .u32 a, .int .u32 b]) (hN : N * 8 ≤ 140737488355328) : Spec Tryz.prog 154 [.slice none 0 0, .func (.func gf) fb lb] Ki (fun v K' => ∃ xs sl, S xs ∧ v = Sl.val sl ∧ sl.Ok (flatV xs) 2 ∧ sl.len = xs.length ∧ (xs = [] → sl = Sl.nilS) ∧ K' = Ki ++ sl.kb (flatV xs) 2 175) := by
  refine spec_body_m Tryz.func154 rfl rfl fun F R hR => ?_
  refine C_seq ?_
  refine C_region ?_
  refine W_e (i := 0) rfl rfl rfl (e_box rfl) ?_
  intro b2
  refine wa (i := 1) rfl rfl rfl rfl ?_
  refine W_nil ?_
  refine N_seq ?_
  refine C_seq ?_
  refine C_seq ?_
  refine C_region ?_
  refine wm (i := 0) rfl rfl rfl rfl ?_
  refine W_nil ?_
  refine N_seq ?_
  refine C_block ?_
  refine C_rangeFunc (t := 6) (p := 7) rfl hp (by decide) it (CJ b2 205 175 2) [(b2, Cells [.slice none 0 0] 205)] aQ ⟨Sl.nilS, Sl.nil_ok _, rfl, fun _ => rfl, rfl⟩ (fun _ b => [(5, .pointer (some ⟨b, 0, none⟩)), (2, .pointer (some ⟨b2, 0, none⟩))]) (fun x b => [(b, Cells (splice [.int .u32 0, .int .u32 0] 0 x.cells.toList) 175)]) ?_ ?_ ?_
  · intro l pre x Kx Fr hx hJ
    refine CI_region ?_
    obtain ⟨a, b, rfl⟩ := hQ x hx
    refine WI_e (i := 0) (fun _ => trivial) rfl rfl rfl rfl (e_alloc zf_175) ?_
    intro vb
    refine WI_e (i := 1) (fun _ => trivial) rfl rfl rfl rfl (e_storeAgg (us := [.int .u32 a, .int .u32 b]) sz_175 rfl rfl rfl rfl (by exact Upd.here) (by simp [Value.cells])) ?_
    intro _
    exact WI_nil fun a w ha hk => ⟨vb, ha.sub aS, hk⟩
  · intro l pre x vb Kx Fr hx hlen hJ
    obtain ⟨a, b, rfl⟩ := hQ x hx
    obtain ⟨s, hok, hsl, hnil, rfl⟩ := hJ
    try simp only [NL]
    refine CI_block ?_
    refine CI_region ?_
    refine WI_q (i := 0) (fun _ => trivial) rfl rfl rfl rfl (q_load ag_205 rfl aP rfl) ?_
    refine WI_q (i := 1) (fun _ => trivial) rfl rfl rfl rfl (q_loadAgg (us := [.int .u32 a, .int .u32 b]) ag_175 sz_175 rfl aP (by simp [splice, Value.cells]) (by simp [splice, Value.cells])) ?_
    refine WI_e (i := 2) (fun _ => trivial) rfl rfl rfl rfl (e_lit1 Tryz.underlying205 sz_175 zf_175 (by decide) rfl rfl) ?_
    intro b10
    refine WI_e (i := 3) (fun _ => trivial) rfl rfl rfl rfl (e_app1 (us := [.int .u32 a, .int .u32 b]) Tryz.underlying205 inf_175 rfl rfl rfl rfl aP aC hok (by omega) (by omega) rfl rfl (flatV_snoc pre (.agg #[.int .u32 a, .int .u32 b]))) ?_
    rintro ⟨s', hsl', hsk'⟩
    refine WI_e (i := 4) (fun _ => trivial) rfl rfl rfl rfl (e_store sz_205 rfl rfl rfl aU (by first | decide | exact Nat.le_of_ble_eq_true rfl | simp [splice, Value.cells])) ?_
    intro _
    exact WI_nil fun a w ha hk => ⟨rfl, _, ⟨s', hsk', by simp [hsl', hsl], by simp, rfl⟩, Knows.sublist (K := (vb, _) :: _) (hk.perm aQ) (List.sublist_cons_self _ _)⟩
  · intro xs K1 D hS hJ
    obtain ⟨s, hok, hsl, hnil, rfl⟩ := hJ
    refine C_tail ?_
    try simp only [NL]
    refine Wd_q (i := 0) rfl rfl rfl (q_load ag_205 rfl aP rfl) ?_
    refine Wd_q (i := 1) rfl rfl rfl (q_assign rfl) ?_
    refine Wd_nil fun a w ha hk => ?_
    refine wp_ret ?_
    refine T_val (.inl rfl) (hk.obj (.head _)) (fun w => res1 ha rfl rfl) (hR _ _ _ ⟨xs, s, hS, rfl, hok, hsl, hnil, rfl⟩ ?_)
    have h2 := hk.put (ψ := fun _ => True) (o := .deferred none) (R := _) (.refl _) trivial
    exact Knows.sublist (K := (D, _) :: (b2, _) :: _) (h2.perm aQ) ((List.sublist_cons_self _ _).trans (List.sublist_cons_self _ _))
end Go.SL
namespace Go.SL
open Go
open Go.Sort (swp insInner insOuter insertionSort)
theorem Sl.Ok.of {s : Sl} {vs vs' : List Value} {sz : Nat} (h : s.Ok vs sz) (hl : vs'.length = vs.length) : s.Ok vs' sz := ⟨by rw [hl]; exact h.vlen, h.cap, h.nil⟩
theorem wrapNat (j : Nat) : (0:Int) ≤ (j:Int) := Int.natCast_nonneg j
theorem pred64 {j : Nat} (h0 : 0 < j) (h : j < 2 ^ 62) : IntKind.i64.wrap ((j : Int) - 1) = ((j - 1 : Nat) : Int) := by
  rw [wrap64_id (by omega) (by omega)]; omega
theorem succ64 {j : Nat} (h : j < 2 ^ 62) : IntKind.i64.wrap ((j : Int) + 1) = ((j + 1 : Nat) : Int) := by
  rw [wrap64_id (by omega) (by omega)]; omega
section
variable {α : Type} [Inhabited α]
theorem swp_size (d : Array α) (i j : Nat) : (swp d i j).size = d.size := by simp [swp]
theorem insInner_stop {lt : α → α → Bool} {a j : Nat} {d : Array α} (h : j ≤ a ∨ lt d[j]! d[j - 1]! = false) : insInner lt a j d = d := by
  cases j with
  | zero => rfl
  | succ j =>
    rw [insInner]
    rw [if_neg]
    rcases h with h | h
    · simp; omega
    · simp at h; simp [h]
theorem insInner_go {lt : α → α → Bool} {a j : Nat} {d : Array α} (h : a < j) (hl : lt d[j]! d[j - 1]! = true) : insInner lt a j d = insInner lt a (j - 1) (swp d j (j - 1)) := by
  cases j with
  | zero => omega
  | succ j =>
    rw [insInner]
    rw [if_pos]
    · rfl
    · simp at hl; simp [hl]; omega
theorem insOuter_go {lt : α → α → Bool} {a b i : Nat} {d : Array α} (h : i < b) : insOuter lt a b i d = insOuter lt a b (i + 1) (insInner lt a i d) := by
  rw [insOuter, if_pos h]
theorem insOuter_stop {lt : α → α → Bool} {a b i : Nat} {d : Array α} (h : ¬ i < b) : insOuter lt a b i d = d := by
  rw [insOuter, if_neg h]
theorem at_get {d : Array α} {i : Nat} (h : i < d.size) : d.toList[i]? = some d[i]! := by
  simp [h]
/-! one cell an element -/
theorem sc_at {V : α → Value} {d : Array α} {i : Nat} (h : i < d.size) : (d.toList.map V)[i]? = some (V d[i]!) := by
  rw [List.getElem?_map, at_get h]; rfl
theorem sc_swp {V : α → Value} {d : Array α} {i j : Nat} : ((d.toList.map V).set i (V d[j]!)).set j (V d[i]!) = (swp d i j).toList.map V := by
  simp [swp, List.map_set]
/-! more -/
theorem fl_at {E : α → List Value} {k : Nat} (hE : ∀ x, (E x).length = k) {d : Array α} {i : Nat} (h : i < d.size) : ((flat E d.toList).drop (i * k)).take k = E d[i]! := flat_at hE _ _ _ (at_get h)
theorem fl_swp {E : α → List Value} {k : Nat} (hE : ∀ x, (E x).length = k) {d : Array α} {i j : Nat} (hi : i < d.size) (hj : j < d.size) : splice (splice (flat E d.toList) (i * k) (E d[j]!)) (j * k) (E d[i]!) = flat E (swp d i j).toList := by
  rw [flat_set hE _ _ _ (by simpa using hi), flat_set hE _ _ _ (by simpa using hj)]
  simp [swp]
theorem mem_swp {d : Array α} {i j : Nat} (hi : i < d.size) (hj : j < d.size) {x : α} (hx : x ∈ swp d i j) : x ∈ d := by
  simp only [swp] at hx
  rcases Array.mem_or_eq_of_mem_setIfInBounds hx with h | rfl
  · rcases Array.mem_or_eq_of_mem_setIfInBounds h with h | rfl
    · exact h
    · simp [hj]
  · simp [hi]
theorem get_mem {d : Array α} {i : Nat} (h : i < d.size) : d[i]! ∈ d := by simp [h]
end
def ltI (x y : Int) : Bool := decide (x < y)
end Go.SL
namespace Go.SL
open Go Go.Proofs
open Go.Sort (swp insInner insOuter insertionSort)
set_option maxRecDepth 10000
theorem ag_31 : aggB Tryz.prog 31 = some false := by kernel_rfl
theorem ag_3 : aggB Tryz.prog 3 = some false := by kernel_rfl
theorem mo : Tryz.prog.follows .mixedOrders = true := by kernel_rfl
theorem pf_152 : plainFn Tryz.prog 152 = true := by kernel_rfl
theorem pf_162 : plainFn Tryz.prog 162 = true := by kernel_rfl
theorem pf_192 : plainFn Tryz.prog 192 = true := by kernel_rfl
theorem pf_209 : plainFn Tryz.prog 209 = true := by kernel_rfl
theorem s_isNaN_u32 [Bs] (x : Int) : Spec Tryz.prog 192 [.int .u32 x] [] (fun v K' => v = .bool false ∧ K' = []) := by
 refine spec_body Tryz.func192 rfl rfl fun F R hR => ?_
 refine C_seq ?_
 refine C_region ?_
 refine wa (i := 0) rfl rfl rfl rfl ?_
 refine W_nil ?_
 refine N_seq ?_
 refine C_seq ?_
 refine C_region ?_
 refine wm (i := 0) rfl rfl rfl rfl ?_
 refine wm (i := 1) rfl rfl rfl rfl ?_
 refine W_q (i := 2) rfl rfl rfl (q_int rfl rfl rfl) ?_
 refine wa (i := 3) rfl rfl rfl rfl ?_
 refine W_nil ?_
 refine N_seq ?_
 refine C_ret fun a w ha hk => ?_
 exact R_val (e := .ret) (.inl rfl) ha.defers (res1 ha rfl rfl) (hR _ _ _ ⟨by simp, rfl⟩ (aK hk))
theorem s_less_u32 [Bs] (x y : Int) : Spec Tryz.prog 162 [.int .u32 x, .int .u32 y] [] (fun v K' => v = .bool (ltI x y) ∧ K' = []) := by
 refine spec_body Tryz.func162 rfl rfl fun F R hR => ?_
 refine C_seq ?_
 refine C_region ?_
 refine wa (i := 0) rfl rfl rfl rfl ?_
 refine W_nil ?_
 refine N_seq ?_
 refine C_seq ?_
 refine C_region ?_
 refine wm (i := 0) rfl rfl rfl rfl ?_
 refine W_call (i := 1) rfl rfl rfl rfl rfl rfl pf_192 (s_isNaN_u32 _) tk_nil ?_
 rintro _ _ ⟨rfl, rfl⟩
 refine wm (i := 2) rfl rfl rfl rfl ?_
 refine W_skip (i := 3) rfl rfl rfl ?_
 refine W_skip (i := 4) rfl rfl rfl ?_
 refine W_skip (i := 5) rfl rfl rfl ?_
 refine W_q (i := 6) rfl rfl rfl (q_pickF rfl rfl) ?_
 refine wm (i := 7) rfl rfl rfl rfl ?_
 refine wm (i := 8) rfl rfl rfl rfl ?_
 refine wm (i := 9) rfl rfl rfl rfl ?_
 refine W_q (i := 10) rfl rfl rfl (q_int rfl rfl rfl) ?_
 refine W_q (i := 11) rfl rfl rfl (q_pickF rfl rfl) ?_
 refine wa (i := 12) rfl rfl rfl rfl ?_
 refine W_nil ?_
 refine N_seq ?_
 refine C_ret fun a w ha hk => ?_
 exact R_val (e := .ret) (.inl rfl) ha.defers (res1 ha rfl rfl) (hR _ _ _ ⟨rfl, rfl⟩ (aK hk))
theorem s_isNaN_i64 [Bs] (x : Int) : Spec Tryz.prog 152 [.int .i64 x] [] (fun v K' => v = .bool false ∧ K' = []) := by
 refine spec_body Tryz.func152 rfl rfl fun F R hR => ?_
 refine C_seq ?_
 refine C_region ?_
 refine wa (i := 0) rfl rfl rfl rfl ?_
 refine W_nil ?_
 refine N_seq ?_
 refine C_seq ?_
 refine C_region ?_
 refine wm (i := 0) rfl rfl rfl rfl ?_
 refine wm (i := 1) rfl rfl rfl rfl ?_
 refine W_q (i := 2) rfl rfl rfl (q_int rfl rfl rfl) ?_
 refine wa (i := 3) rfl rfl rfl rfl ?_
 refine W_nil ?_
 refine N_seq ?_
 refine C_ret fun a w ha hk => ?_
 exact R_val (e := .ret) (.inl rfl) ha.defers (res1 ha rfl rfl) (hR _ _ _ ⟨by simp, rfl⟩ (aK hk))
theorem s_less_i64 [Bs] (x y : Int) : Spec Tryz.prog 209 [.int .i64 x, .int .i64 y] [] (fun v K' => v = .bool (ltI x y) ∧ K' = []) := by
 refine spec_body Tryz.func209 rfl rfl fun F R hR => ?_
 refine C_seq ?_
 refine C_region ?_
 refine wa (i := 0) rfl rfl rfl rfl ?_
 refine W_nil ?_
 refine N_seq ?_
 refine C_seq ?_
 refine C_region ?_
 refine wm (i := 0) rfl rfl rfl rfl ?_
 refine W_call (i := 1) rfl rfl rfl rfl rfl rfl pf_152 (s_isNaN_i64 _) tk_nil ?_
 rintro _ _ ⟨rfl, rfl⟩
 refine wm (i := 2) rfl rfl rfl rfl ?_
 refine W_skip (i := 3) rfl rfl rfl ?_
 refine W_skip (i := 4) rfl rfl rfl ?_
 refine W_skip (i := 5) rfl rfl rfl ?_
 refine W_q (i := 6) rfl rfl rfl (q_pickF rfl rfl) ?_
 refine wm (i := 7) rfl rfl rfl rfl ?_
 refine wm (i := 8) rfl rfl rfl rfl ?_
 refine wm (i := 9) rfl rfl rfl rfl ?_
 refine W_q (i := 10) rfl rfl rfl (q_int rfl rfl rfl) ?_
 refine W_q (i := 11) rfl rfl rfl (q_pickF rfl rfl) ?_
 refine wa (i := 12) rfl rfl rfl rfl ?_
 refine W_nil ?_
 refine N_seq ?_
 refine C_ret fun a w ha hk => ?_
 exact R_val (e := .ret) (.inl rfl) ha.defers (res1 ha rfl rfl) (hR _ _ _ ⟨rfl, rfl⟩ (aK hk))
theorem s_insO_u32 [Bs] (sl : Sl) (d : Array Int) (a b : Nat) (hok : sl.Ok (d.toList.map (fun x : Int => Value.int .u32 x)) 1) (hb : b ≤ d.size) (ha2 : a < 2 ^ 61) (hs2 : d.size < 2 ^ 61) : Spec Tryz.prog 156 [sl.val, .int .i64 (a : Int), .int .i64 (b : Int)] (sl.kb (d.toList.map (fun x : Int => Value.int .u32 x)) 1 31) (fun v K' => v = .tuple #[] ∧ K' = sl.kb ((insertionSort ltI d a b).toList.map (fun x : Int => Value.int .u32 x)) 1 31) := by
 refine spec_body Tryz.func156 rfl rfl fun F R hR => ?_
 refine C_seq ?_
 refine C_region ?_
 refine wm (i := 0) rfl rfl rfl rfl ?_
 refine W_q (i := 1) rfl rfl rfl (q_add rfl rfl (succ64 (by omega))) ?_
 refine wa (i := 2) rfl rfl rfl rfl ?_
 refine W_nil ?_
 refine N_seq ?_
 refine C_block ?_
 refine C_loop (ι := { q : Nat × Array Int // a < q.1 ∧ q.2.size = d.size ∧ insOuter ltI a b q.1 q.2 = insertionSort ltI d a b }) (fun q => [(0, sl.val), (1, .int .i64 (a : Int)), (2, .int .i64 (b : Int)), (6, .int .i64 (q.1.1 : Int))]) (fun q => sl.kb (q.1.2.toList.map (fun x : Int => Value.int .u32 x)) 1 31 ++ F) (fun q => b - q.1.1) ⟨(a + 1, d), by simp, rfl, rfl⟩ aS aQ ?_
 rintro ⟨⟨i, w0⟩, hai, hsz1, hgo⟩; dsimp only at *; have hsz1 : w0.size = d.size := hsz1
 refine C_seq ?_
 refine C_seq ?_
 refine C_region ?_
 refine wm (i := 0) rfl rfl rfl rfl ?_
 refine wm (i := 1) rfl rfl rfl rfl ?_
 refine W_q (i := 2) rfl rfl rfl (q_int rfl rfl rfl) ?_
 refine W_nil ?_
 refine N_seq ?_
 refine C_cond rfl (fun ht12 => ?_) (fun ht12 => ?_)
 ·
  have hib : i < b := by simpa using ht12
  refine C_skip ?_
  refine N_seq ?_
  refine C_seq ?_
  refine C_block ?_
  refine C_seq ?_
  refine C_region ?_
  refine wm (i := 0) rfl rfl rfl rfl ?_
  refine wa (i := 1) rfl rfl rfl rfl ?_
  refine W_nil ?_
  refine N_seq ?_
  refine C_block ?_
  refine C_loop (ι := { q : Nat × Array Int // q.1 ≤ i ∧ q.2.size = d.size ∧ insInner ltI a q.1 q.2 = insInner ltI a i w0 }) (fun q => [(0, sl.val), (1, .int .i64 (a : Int)), (2, .int .i64 (b : Int)), (6, .int .i64 (i : Int)), (7, .int .i64 (q.1.1 : Int))]) (fun q => sl.kb (q.1.2.toList.map (fun x : Int => Value.int .u32 x)) 1 31 ++ F) (fun q => q.1.1) ⟨(i, w0), Nat.le_refl _, by simpa using hsz1, rfl⟩ aS aQ ?_
  rintro ⟨⟨j, u⟩, hji, hsz2, hin⟩; dsimp only at *
  have hsz2 : u.size = d.size := hsz2
  have hok1 : sl.Ok (u.toList.map (fun x : Int => Value.int .u32 x)) 1 := hok.of (by simp [*])
  have hlen1 : (u.toList.map (fun x : Int => Value.int .u32 x)).length = u.size * 1 := by simp
  refine C_seq ?_
  refine C_seq ?_
  refine C_draw (.cons 0 .pure (.cons 1 .pure (.cons 2 .pure (.cons 3 .pure (.cons 4 .pure (.cons 5 .pure (.cons 6 .pure (.cons 7 .read (.cons 8 .pure (.cons 9 .pure (.cons 10 .pure (.cons 11 .pure (.cons 12 .read (.cons 13 .eff (.cons 14 .pure .nil))))))))))))))) (fun w => Knows w _) 13 mo (by kernel_rfl) (fun _ h => h) ?_
  refine D_p rfl rfl rfl (q_move rfl) ?_
  refine D_p rfl rfl rfl (q_move rfl) ?_
  refine D_p rfl rfl rfl (q_int rfl rfl rfl) ?_
  refine D_p rfl rfl rfl (q_move rfl) ?_
  refine D_bool 19 _ rfl (fun ht19 => ?_) (fun ht19 => ?_)
  ·
   have hj : a < j := by simpa using ht19
   refine D_p rfl rfl rfl (q_move rfl) ?_
   refine D_p rfl rfl rfl (q_move rfl) ?_
   refine D_p rfl rfl rfl (q_idxSl Tryz.underlying53 sz_31 hok1 rfl rfl (wrapNat _) (by have := hok1.vlen; have hz := hlen1; simp at this hz ⊢; omega) rfl) ?_
   refine D_r rfl rfl rfl (q_loadSl (i := j) (v := (fun x : Int => Value.int .u32 x) u[j]!) ag_31 rfl hok1 aC (by simp) (sc_at (by omega))) ?_
   refine D_p rfl rfl rfl (q_move rfl) ?_
   refine D_p rfl rfl rfl (q_move rfl) ?_
   refine D_p rfl rfl rfl (q_sub rfl rfl (pred64 (by omega) (by omega))) ?_
   refine D_p rfl rfl rfl (q_idxSl Tryz.underlying53 sz_31 hok1 rfl rfl (wrapNat _) (by have := hok1.vlen; have hz := hlen1; simp at this hz ⊢; omega) rfl) ?_
   refine D_r rfl rfl rfl (q_loadSl (i := (j - 1)) (v := (fun x : Int => Value.int .u32 x) u[j - 1]!) ag_31 rfl hok1 aC (by simp) (sc_at (by omega))) ?_
   refine D_call rfl rfl rfl rfl rfl rfl pf_162 (s_less_u32 _ _) tk_nil (.inl rfl) ?_
   rintro _ _ ⟨rfl, rfl⟩
   refine D_p rfl rfl rfl (q_pickT rfl rfl) ?_
   refine D_nil ?_
   refine N_seq ?_
   refine C_cond rfl (fun ht30 => ?_) (fun ht30 => ?_)
   ·
    have hl : ltI u[j]! u[j - 1]! = true := by simpa using ht30
    refine C_skip ?_
    refine N_seq ?_
    refine C_seq ?_
    refine C_block ?_
    refine C_draw (.cons 0 .pure (.cons 1 .pure (.cons 2 .pure (.cons 3 .pure (.cons 4 .pure (.cons 5 .pure (.cons 6 .pure (.cons 7 .pure (.cons 8 .pure (.cons 9 .read (.cons 10 .pure (.cons 11 .pure (.cons 12 .pure (.cons 13 .read (.cons 14 .pure (.cons 15 .eff (.cons 16 .pure (.cons 17 .eff .nil)))))))))))))))))) (fun w => Knows w _) 15 mo (by kernel_rfl) (fun _ h => h) ?_
    refine D_p rfl rfl rfl (q_move rfl) ?_
    refine D_p rfl rfl rfl (q_move rfl) ?_
    refine D_p rfl rfl rfl (q_move rfl) ?_
    refine D_p rfl rfl rfl (q_move rfl) ?_
    refine D_p rfl rfl rfl (q_sub rfl rfl (pred64 (by omega) (by omega))) ?_
    refine D_p rfl rfl rfl (q_move rfl) ?_
    refine D_p rfl rfl rfl (q_move rfl) ?_
    refine D_p rfl rfl rfl (q_sub rfl rfl (pred64 (by omega) (by omega))) ?_
    refine D_p rfl rfl rfl (q_idxSl Tryz.underlying53 sz_31 hok1 rfl rfl (wrapNat _) (by have := hok1.vlen; have hz := hlen1; simp at this hz ⊢; omega) rfl) ?_
    refine D_r rfl rfl rfl (q_loadSl (i := (j - 1)) (v := (fun x : Int => Value.int .u32 x) u[j - 1]!) ag_31 rfl hok1 aC (by simp) (sc_at (by omega))) ?_
    refine D_p rfl rfl rfl (q_move rfl) ?_
    refine D_p rfl rfl rfl (q_move rfl) ?_
    refine D_p rfl rfl rfl (q_idxSl Tryz.underlying53 sz_31 hok1 rfl rfl (wrapNat _) (by have := hok1.vlen; have hz := hlen1; simp at this hz ⊢; omega) rfl) ?_
    refine D_r rfl rfl rfl (q_loadSl (i := j) (v := (fun x : Int => Value.int .u32 x) u[j]!) ag_31 rfl hok1 aC (by simp) (sc_at (by omega))) ?_
    refine D_p rfl rfl rfl (q_idxSl Tryz.underlying53 sz_31 hok1 rfl rfl (wrapNat _) (by have := hok1.vlen; have hz := hlen1; simp at this hz ⊢; omega) rfl) ?_
    refine D_e rfl rfl rfl (e_storeSl (i := j) sz_31 rfl rfl hok1 aC (by simp) rfl (by simp; omega) rfl) (.inl rfl) ?_
    intro _
    have hok1 : sl.Ok ((u.toList.map (fun x : Int => Value.int .u32 x)).set j ((fun x : Int => Value.int .u32 x) u[j - 1]!)) 1 := hok1.of (by simp)
    have hlen1 : ((u.toList.map (fun x : Int => Value.int .u32 x)).set j ((fun x : Int => Value.int .u32 x) u[j - 1]!)).length = u.size * 1 := by simp
    refine D_p rfl rfl rfl (q_idxSl Tryz.underlying53 sz_31 hok1 rfl rfl (wrapNat _) (by have := hok1.vlen; have hz := hlen1; simp at this hz ⊢; omega) rfl) ?_
    refine D_e rfl rfl rfl (e_storeSl (i := j - 1) sz_31 rfl rfl hok1 aC (by simp) rfl (by simp; omega) sc_swp) (.inl rfl) ?_
    intro _
    refine D_nil ?_
    refine N_seq ?_
    refine C_region ?_
    refine wm (i := 0) rfl rfl rfl rfl ?_
    refine W_q (i := 1) rfl rfl rfl (q_sub rfl rfl (pred64 (by omega) (by omega))) ?_
    refine wa (i := 2) rfl rfl rfl rfl ?_
    refine W_nil ?_
    exact fun a w ha hk => ⟨⟨(j - 1, swp u j (j - 1)), by simp only; omega, by simp [swp_size, *], by rw [insInner_go hj hl] at hin; exact hin⟩, by simp only; omega, ha.sub aS, hk.perm aQ⟩
   ·
    have hl : ltI u[j]! u[j - 1]! = false := by simpa using ht30
    refine C_exit ?_
    refine N_seq ?_
    have hin : insInner ltI a i w0 = u := by rw [← hin]; first | exact insInner_stop (.inl (by omega)) | exact insInner_stop (.inr hl)
    refine C_region ?_
    refine wm (i := 0) rfl rfl rfl rfl ?_
    refine W_q (i := 1) rfl rfl rfl (q_add rfl rfl (succ64 (by omega))) ?_
    refine wa (i := 2) rfl rfl rfl rfl ?_
    refine W_nil ?_
    exact fun a w ha hk => ⟨⟨(i + 1, u), by omega, by simp [*], by rw [insOuter_go hib, hin] at hgo; simpa using hgo⟩, by simp only; omega, ha.sub aS, hk.perm aQ⟩
  ·
   have hj : ¬ a < j := by simpa using ht19
   refine D_pskip rfl rfl rfl ?_
   refine D_pskip rfl rfl rfl ?_
   refine D_pskip rfl rfl rfl ?_
   refine D_rskip rfl rfl rfl ?_
   refine D_pskip rfl rfl rfl ?_
   refine D_pskip rfl rfl rfl ?_
   refine D_pskip rfl rfl rfl ?_
   refine D_pskip rfl rfl rfl ?_
   refine D_rskip rfl rfl rfl ?_
   refine D_eskip rfl rfl rfl (.inl rfl) ?_
   refine D_p rfl rfl rfl (q_pickF rfl rfl) ?_
   refine D_nil ?_
   refine N_seq ?_
   refine C_condF rfl ?_
   refine C_exit ?_
   refine N_seq ?_
   have hin : insInner ltI a i w0 = u := by rw [← hin]; first | exact insInner_stop (.inl (by omega)) | exact insInner_stop (.inr hl)
   refine C_region ?_
   refine wm (i := 0) rfl rfl rfl rfl ?_
   refine W_q (i := 1) rfl rfl rfl (q_add rfl rfl (succ64 (by omega))) ?_
   refine wa (i := 2) rfl rfl rfl rfl ?_
   refine W_nil ?_
   exact fun a w ha hk => ⟨⟨(i + 1, u), by omega, by simp [*], by rw [insOuter_go hib, hin] at hgo; simpa using hgo⟩, by simp only; omega, ha.sub aS, hk.perm aQ⟩
 ·
  have hib : ¬ i < b := by simpa using ht12
  rw [insOuter_stop hib] at hgo
  refine C_exit ?_
  intro a w ha hk
  exact R_val (e := .normal) (by simp) ha.defers (res0 rfl) (hR _ _ _ ⟨rfl, rfl⟩ (by rw [← hgo]; exact hk.perm aQ))
theorem s_insO_i64 [Bs] (sl : Sl) (d : Array Int) (a b : Nat) (hok : sl.Ok (d.toList.map (fun x : Int => Value.int .i64 x)) 1) (hb : b ≤ d.size) (ha2 : a < 2 ^ 61) (hs2 : d.size < 2 ^ 61) : Spec Tryz.prog 203 [sl.val, .int .i64 (a : Int), .int .i64 (b : Int)] (sl.kb (d.toList.map (fun x : Int => Value.int .i64 x)) 1 3) (fun v K' => v = .tuple #[] ∧ K' = sl.kb ((insertionSort ltI d a b).toList.map (fun x : Int => Value.int .i64 x)) 1 3) := by
 refine spec_body Tryz.func203 rfl rfl fun F R hR => ?_
 refine C_seq ?_
 refine C_region ?_
 refine wm (i := 0) rfl rfl rfl rfl ?_
 refine W_q (i := 1) rfl rfl rfl (q_add rfl rfl (succ64 (by omega))) ?_
 refine wa (i := 2) rfl rfl rfl rfl ?_
 refine W_nil ?_
 refine N_seq ?_
 refine C_block ?_
 refine C_loop (ι := { q : Nat × Array Int // a < q.1 ∧ q.2.size = d.size ∧ insOuter ltI a b q.1 q.2 = insertionSort ltI d a b }) (fun q => [(0, sl.val), (1, .int .i64 (a : Int)), (2, .int .i64 (b : Int)), (6, .int .i64 (q.1.1 : Int))]) (fun q => sl.kb (q.1.2.toList.map (fun x : Int => Value.int .i64 x)) 1 3 ++ F) (fun q => b - q.1.1) ⟨(a + 1, d), by simp, rfl, rfl⟩ aS aQ ?_
 rintro ⟨⟨i, w0⟩, hai, hsz1, hgo⟩; dsimp only at *; have hsz1 : w0.size = d.size := hsz1
 refine C_seq ?_
 refine C_seq ?_
 refine C_region ?_
 refine wm (i := 0) rfl rfl rfl rfl ?_
 refine wm (i := 1) rfl rfl rfl rfl ?_
 refine W_q (i := 2) rfl rfl rfl (q_int rfl rfl rfl) ?_
 refine W_nil ?_
 refine N_seq ?_
 refine C_cond rfl (fun ht12 => ?_) (fun ht12 => ?_)
 ·
  have hib : i < b := by simpa using ht12
  refine C_skip ?_
  refine N_seq ?_
  refine C_seq ?_
  refine C_block ?_
  refine C_seq ?_
  refine C_region ?_
  refine wm (i := 0) rfl rfl rfl rfl ?_
  refine wa (i := 1) rfl rfl rfl rfl ?_
  refine W_nil ?_
  refine N_seq ?_
  refine C_block ?_
  refine C_loop (ι := { q : Nat × Array Int // q.1 ≤ i ∧ q.2.size = d.size ∧ insInner ltI a q.1 q.2 = insInner ltI a i w0 }) (fun q => [(0, sl.val), (1, .int .i64 (a : Int)), (2, .int .i64 (b : Int)), (6, .int .i64 (i : Int)), (7, .int .i64 (q.1.1 : Int))]) (fun q => sl.kb (q.1.2.toList.map (fun x : Int => Value.int .i64 x)) 1 3 ++ F) (fun q => q.1.1) ⟨(i, w0), Nat.le_refl _, by simpa using hsz1, rfl⟩ aS aQ ?_
  rintro ⟨⟨j, u⟩, hji, hsz2, hin⟩; dsimp only at *
  have hsz2 : u.size = d.size := hsz2
  have hok1 : sl.Ok (u.toList.map (fun x : Int => Value.int .i64 x)) 1 := hok.of (by simp [*])
  have hlen1 : (u.toList.map (fun x : Int => Value.int .i64 x)).length = u.size * 1 := by simp
  refine C_seq ?_
  refine C_seq ?_
  refine C_draw (.cons 0 .pure (.cons 1 .pure (.cons 2 .pure (.cons 3 .pure (.cons 4 .pure (.cons 5 .pure (.cons 6 .pure (.cons 7 .read (.cons 8 .pure (.cons 9 .pure (.cons 10 .pure (.cons 11 .pure (.cons 12 .read (.cons 13 .eff (.cons 14 .pure .nil))))))))))))))) (fun w => Knows w _) 13 mo (by kernel_rfl) (fun _ h => h) ?_
  refine D_p rfl rfl rfl (q_move rfl) ?_
  refine D_p rfl rfl rfl (q_move rfl) ?_
  refine D_p rfl rfl rfl (q_int rfl rfl rfl) ?_
  refine D_p rfl rfl rfl (q_move rfl) ?_
  refine D_bool 19 _ rfl (fun ht19 => ?_) (fun ht19 => ?_)
  ·
   have hj : a < j := by simpa using ht19
   refine D_p rfl rfl rfl (q_move rfl) ?_
   refine D_p rfl rfl rfl (q_move rfl) ?_
   refine D_p rfl rfl rfl (q_idxSl Tryz.underlying66 sz_3 hok1 rfl rfl (wrapNat _) (by have := hok1.vlen; have hz := hlen1; simp at this hz ⊢; omega) rfl) ?_
   refine D_r rfl rfl rfl (q_loadSl (i := j) (v := (fun x : Int => Value.int .i64 x) u[j]!) ag_3 rfl hok1 aC (by simp) (sc_at (by omega))) ?_
   refine D_p rfl rfl rfl (q_move rfl) ?_
   refine D_p rfl rfl rfl (q_move rfl) ?_
   refine D_p rfl rfl rfl (q_sub rfl rfl (pred64 (by omega) (by omega))) ?_
   refine D_p rfl rfl rfl (q_idxSl Tryz.underlying66 sz_3 hok1 rfl rfl (wrapNat _) (by have := hok1.vlen; have hz := hlen1; simp at this hz ⊢; omega) rfl) ?_
   refine D_r rfl rfl rfl (q_loadSl (i := (j - 1)) (v := (fun x : Int => Value.int .i64 x) u[j - 1]!) ag_3 rfl hok1 aC (by simp) (sc_at (by omega))) ?_
   refine D_call rfl rfl rfl rfl rfl rfl pf_209 (s_less_i64 _ _) tk_nil (.inl rfl) ?_
   rintro _ _ ⟨rfl, rfl⟩
   refine D_p rfl rfl rfl (q_pickT rfl rfl) ?_
   refine D_nil ?_
   refine N_seq ?_
   refine C_cond rfl (fun ht30 => ?_) (fun ht30 => ?_)
   ·
    have hl : ltI u[j]! u[j - 1]! = true := by simpa using ht30
    refine C_skip ?_
    refine N_seq ?_
    refine C_seq ?_
    refine C_block ?_
    refine C_draw (.cons 0 .pure (.cons 1 .pure (.cons 2 .pure (.cons 3 .pure (.cons 4 .pure (.cons 5 .pure (.cons 6 .pure (.cons 7 .pure (.cons 8 .pure (.cons 9 .read (.cons 10 .pure (.cons 11 .pure (.cons 12 .pure (.cons 13 .read (.cons 14 .pure (.cons 15 .eff (.cons 16 .pure (.cons 17 .eff .nil)))))))))))))))))) (fun w => Knows w _) 15 mo (by kernel_rfl) (fun _ h => h) ?_
    refine D_p rfl rfl rfl (q_move rfl) ?_
    refine D_p rfl rfl rfl (q_move rfl) ?_
    refine D_p rfl rfl rfl (q_move rfl) ?_
    refine D_p rfl rfl rfl (q_move rfl) ?_
    refine D_p rfl rfl rfl (q_sub rfl rfl (pred64 (by omega) (by omega))) ?_
    refine D_p rfl rfl rfl (q_move rfl) ?_
    refine D_p rfl rfl rfl (q_move rfl) ?_
    refine D_p rfl rfl rfl (q_sub rfl rfl (pred64 (by omega) (by omega))) ?_
    refine D_p rfl rfl rfl (q_idxSl Tryz.underlying66 sz_3 hok1 rfl rfl (wrapNat _) (by have := hok1.vlen; have hz := hlen1; simp at this hz ⊢; omega) rfl) ?_
    refine D_r rfl rfl rfl (q_loadSl (i := (j - 1)) (v := (fun x : Int => Value.int .i64 x) u[j - 1]!) ag_3 rfl hok1 aC (by simp) (sc_at (by omega))) ?_
    refine D_p rfl rfl rfl (q_move rfl) ?_
    refine D_p rfl rfl rfl (q_move rfl) ?_
    refine D_p rfl rfl rfl (q_idxSl Tryz.underlying66 sz_3 hok1 rfl rfl (wrapNat _) (by have := hok1.vlen; have hz := hlen1; simp at this hz ⊢; omega) rfl) ?_
    refine D_r rfl rfl rfl (q_loadSl (i := j) (v := (fun x : Int => Value.int .i64 x) u[j]!) ag_3 rfl hok1 aC (by simp) (sc_at (by omega))) ?_
    refine D_p rfl rfl rfl (q_idxSl Tryz.underlying66 sz_3 hok1 rfl rfl (wrapNat _) (by have := hok1.vlen; have hz := hlen1; simp at this hz ⊢; omega) rfl) ?_
    refine D_e rfl rfl rfl (e_storeSl (i := j) sz_3 rfl rfl hok1 aC (by simp) rfl (by simp; omega) rfl) (.inl rfl) ?_
    intro _
    have hok1 : sl.Ok ((u.toList.map (fun x : Int => Value.int .i64 x)).set j ((fun x : Int => Value.int .i64 x) u[j - 1]!)) 1 := hok1.of (by simp)
    have hlen1 : ((u.toList.map (fun x : Int => Value.int .i64 x)).set j ((fun x : Int => Value.int .i64 x) u[j - 1]!)).length = u.size * 1 := by simp
    refine D_p rfl rfl rfl (q_idxSl Tryz.underlying66 sz_3 hok1 rfl rfl (wrapNat _) (by have := hok1.vlen; have hz := hlen1; simp at this hz ⊢; omega) rfl) ?_
    refine D_e rfl rfl rfl (e_storeSl (i := j - 1) sz_3 rfl rfl hok1 aC (by simp) rfl (by simp; omega) sc_swp) (.inl rfl) ?_
    intro _
    refine D_nil ?_
    refine N_seq ?_
    refine C_region ?_
    refine wm (i := 0) rfl rfl rfl rfl ?_
    refine W_q (i := 1) rfl rfl rfl (q_sub rfl rfl (pred64 (by omega) (by omega))) ?_
    refine wa (i := 2) rfl rfl rfl rfl ?_
    refine W_nil ?_
    exact fun a w ha hk => ⟨⟨(j - 1, swp u j (j - 1)), by simp only; omega, by simp [swp_size, *], by rw [insInner_go hj hl] at hin; exact hin⟩, by simp only; omega, ha.sub aS, hk.perm aQ⟩
   ·
    have hl : ltI u[j]! u[j - 1]! = false := by simpa using ht30
    refine C_exit ?_
    refine N_seq ?_
    have hin : insInner ltI a i w0 = u := by rw [← hin]; first | exact insInner_stop (.inl (by omega)) | exact insInner_stop (.inr hl)
    refine C_region ?_
    refine wm (i := 0) rfl rfl rfl rfl ?_
    refine W_q (i := 1) rfl rfl rfl (q_add rfl rfl (succ64 (by omega))) ?_
    refine wa (i := 2) rfl rfl rfl rfl ?_
    refine W_nil ?_
    exact fun a w ha hk => ⟨⟨(i + 1, u), by omega, by simp [*], by rw [insOuter_go hib, hin] at hgo; simpa using hgo⟩, by simp only; omega, ha.sub aS, hk.perm aQ⟩
  ·
   have hj : ¬ a < j := by simpa using ht19
   refine D_pskip rfl rfl rfl ?_
   refine D_pskip rfl rfl rfl ?_
   refine D_pskip rfl rfl rfl ?_
   refine D_rskip rfl rfl rfl ?_
   refine D_pskip rfl rfl rfl ?_
   refine D_pskip rfl rfl rfl ?_
   refine D_pskip rfl rfl rfl ?_
   refine D_pskip rfl rfl rfl ?_
   refine D_rskip rfl rfl rfl ?_
   refine D_eskip rfl rfl rfl (.inl rfl) ?_
   refine D_p rfl rfl rfl (q_pickF rfl rfl) ?_
   refine D_nil ?_
   refine N_seq ?_
   refine C_condF rfl ?_
   refine C_exit ?_
   refine N_seq ?_
   have hin : insInner ltI a i w0 = u := by rw [← hin]; first | exact insInner_stop (.inl (by omega)) | exact insInner_stop (.inr hl)
   refine C_region ?_
   refine wm (i := 0) rfl rfl rfl rfl ?_
   refine W_q (i := 1) rfl rfl rfl (q_add rfl rfl (succ64 (by omega))) ?_
   refine wa (i := 2) rfl rfl rfl rfl ?_
   refine W_nil ?_
   exact fun a w ha hk => ⟨⟨(i + 1, u), by omega, by simp [*], by rw [insOuter_go hib, hin] at hgo; simpa using hgo⟩, by simp only; omega, ha.sub aS, hk.perm aQ⟩
 ·
  have hib : ¬ i < b := by simpa using ht12
  rw [insOuter_stop hib] at hgo
  refine C_exit ?_
  intro a w ha hk
  exact R_val (e := .normal) (by simp) ha.defers (res0 rfl) (hR _ _ _ ⟨rfl, rfl⟩ (by rw [← hgo]; exact hk.perm aQ))
end Go.SL
namespace Qd
open Go.Sort (SWO PermIn SortedIn)
section
variable {α : Type}
theorem insBy_perm (lt : α → α → Bool) (x : α) : ∀ l, (insBy lt x l).Perm (x :: l)
  | [] => .refl _
  | y :: l => by
    rw [insBy]
    split
    · exact ((insBy_perm lt x l).cons y).trans (List.Perm.swap _ _ _)
    · exact .refl _
theorem sortBy_perm (lt : α → α → Bool) : ∀ l, (sortBy lt l).Perm l
  | [] => .refl _
  | x :: l => (insBy_perm lt x _).trans ((sortBy_perm lt l).cons x)
theorem insBy_sorted {lt : α → α → Bool} (h : SWO lt) (x : α) : ∀ {l : List α}, l.Pairwise (fun a b => lt b a = false) → (insBy lt x l).Pairwise (fun a b => lt b a = false)
  | [], _ => by simp [insBy]
  | y :: l, hl => by
    rw [insBy]
    rw [List.pairwise_cons] at hl
    split
    · rename_i hyx
      rw [List.pairwise_cons]
      refine ⟨fun z hz => ?_, insBy_sorted h x hl.2⟩
      rcases List.mem_cons.1 ((insBy_perm lt x l).mem_iff.1 hz) with rfl | hz
      · cases hc : lt z y with
        | false => rfl
        | true => have := h.trans _ _ _ hyx hc; rw [h.irrefl] at this; cases this
      · exact hl.1 z hz
    · rename_i hyx
      have hyx : lt y x = false := by simpa using hyx
      rw [List.pairwise_cons]
      refine ⟨fun z hz => ?_, by rw [List.pairwise_cons]; exact hl⟩
      rcases List.mem_cons.1 hz with rfl | hz
      · exact hyx
      · exact h.ntrans _ _ _ (hl.1 z hz) hyx
theorem sortBy_sorted {lt : α → α → Bool} (h : SWO lt) : ∀ l : List α, (sortBy lt l).Pairwise (fun a b => lt b a = false)
  | [] => by simp [sortBy]
  | x :: l => insBy_sorted h x (sortBy_sorted h l)
/-- which of two is not less, and not the other way: the same -/
def Total (lt : α → α → Bool) (l : List α) : Prop := ∀ x ∈ l, ∀ y ∈ l, lt x y = false → lt y x = false → x = y
theorem sortBy_unique {lt : α → α → Bool} (h : SWO lt) {l m : List α} (ht : Total lt l) (hp : m.Perm l) (hs : m.Pairwise (fun a b => lt b a = false)) : m = sortBy lt l := by
  refine List.Perm.eq_of_pairwise (le := fun x y => lt y x = false) ?_ hs (sortBy_sorted h l) (hp.trans (sortBy_perm lt l).symm)
  intro x y hx hy h1 h2
  exact ht x (hp.mem_iff.1 hx) y ((sortBy_perm lt l).mem_iff.1 hy) h2 h1
theorem sortBy_of_perm {lt : α → α → Bool} (h : SWO lt) {l m : List α} (ht : Total lt l) (hp : m.Perm l) : sortBy lt m = sortBy lt l :=
  sortBy_unique h ht ((sortBy_perm lt m).trans hp) (sortBy_sorted h m)
variable [Inhabited α]
theorem sorted_array {lt : α → α → Bool} (h : SWO lt) {d d' : Array α} (ht : Total lt d.toList) (hp : PermIn 0 d.size d d') (hs : SortedIn lt 0 d.size d') : d'.toList = sortBy lt d.toList := by
  obtain ⟨h1, h2, h3⟩ := hp
  refine sortBy_unique h ht ?_ ?_
  · have e1 : (d'.extract 0 d.size).toList = d'.toList := by rw [← h1]; simp
    have e2 : (d.extract 0 d.size).toList = d.toList := by simp
    rwa [e1, e2] at h3
  · rw [List.pairwise_iff_getElem]
    intro i j hi hj hij
    have hi' : i < d'.size := by simpa using hi
    have hj' : j < d'.size := by simpa using hj
    have := hs i j (Nat.zero_le _) hij (by omega)
    simpa [hi', hj'] using this
theorem ins_sorts {lt : α → α → Bool} (h : SWO lt) (d : Array α) (ht : Total lt d.toList) : (Go.Sort.insertionSort lt d 0 d.size).toList = sortBy lt d.toList :=
  let r := Go.Sort.insertionSort_holds h d 0 d.size (Nat.zero_le _) (Nat.le_refl _)
  sorted_array h ht r.1 r.2
end
theorem swoI : SWO (fun x y : Int => decide (x < y)) := ⟨by simp, by simp; omega, by simp; omega⟩
theorem totI (l : List Int) : Total (fun x y : Int => decide (x < y)) l := fun x _ y _ h1 h2 => by simp at h1 h2; omega
end Qd
namespace Go.SL
open Go Go.Proofs
open Go.Sort (swp insInner insOuter insertionSort)
set_option maxRecDepth 10000
def len8 : ByteArray := ⟨#[0, 1, 2, 2, 3, 3, 3, 3, 4, 4, 4, 4, 4, 4, 4, 4, 5, 5, 5, 5, 5, 5, 5, 5, 5, 5, 5, 5, 5, 5, 5, 5, 6, 6, 6, 6, 6, 6, 6, 6, 6, 6, 6, 6, 6, 6, 6, 6, 6, 6, 6, 6, 6, 6, 6, 6, 6, 6, 6, 6, 6, 6, 6, 6, 7, 7, 7, 7, 7, 7, 7, 7, 7, 7, 7, 7, 7, 7, 7, 7, 7, 7, 7, 7, 7, 7, 7, 7, 7, 7, 7, 7, 7, 7, 7, 7, 7, 7, 7, 7, 7, 7, 7, 7, 7, 7, 7, 7, 7, 7, 7, 7, 7, 7, 7, 7, 7, 7, 7, 7, 7, 7, 7, 7, 7, 7, 7, 7, 8, 8, 8, 8, 8, 8, 8, 8, 8, 8, 8, 8, 8, 8, 8, 8, 8, 8, 8, 8, 8, 8, 8, 8, 8, 8, 8, 8, 8, 8, 8, 8, 8, 8, 8, 8, 8, 8, 8, 8, 8, 8, 8, 8, 8, 8, 8, 8, 8, 8, 8, 8, 8, 8, 8, 8, 8, 8, 8, 8, 8, 8, 8, 8, 8, 8, 8, 8, 8, 8, 8, 8, 8, 8, 8, 8, 8, 8, 8, 8, 8, 8, 8, 8, 8, 8, 8, 8, 8, 8, 8, 8, 8, 8, 8, 8, 8, 8, 8, 8, 8, 8, 8, 8, 8, 8, 8, 8, 8, 8, 8, 8, 8, 8, 8, 8, 8, 8, 8, 8, 8, 8, 8, 8, 8, 8, 8, 8]⟩
theorem len8_at (j : Nat) (h : j < 256) : len8[j]? = some (len8[j]'(show j < len8.size from h)) := getElem?_pos len8 j (show j < len8.size from h)
theorem pf_137 : plainFn Tryz.prog 137 = true := by kernel_rfl
theorem pf_138 : plainFn Tryz.prog 138 = true := by kernel_rfl
theorem pf_156 : plainFn Tryz.prog 156 = true := by kernel_rfl
theorem pf_166 : plainFn Tryz.prog 166 = true := by kernel_rfl
theorem pf_175 : plainFn Tryz.prog 175 = true := by kernel_rfl
theorem pf_203 : plainFn Tryz.prog 203 = true := by kernel_rfl
theorem s_len64 [Bs] (x : Nat) (hx : x < 256) : Spec Tryz.prog 166 [.int .u64 x] [] (fun v K' => (∃ r : Int, v = .int .i64 r) ∧ K' = []) := by
  refine spec_body Tryz.func166 rfl rfl fun F R hR => ?_
  refine C_seq ?_
  refine C_region ?_
  refine wa (i := 0) rfl rfl rfl rfl ?_
  refine W_nil ?_
  refine N_seq ?_
  refine C_seq ?_
  refine C_seq ?_
  refine C_region ?_
  refine wm (i := 0) rfl rfl rfl rfl ?_
  refine W_q (i := 1) rfl rfl rfl (q_int rfl rfl rfl) ?_
  refine W_nil ?_
  refine N_seq ?_
  refine C_cond rfl (fun ht4 => ?_) (fun ht4 => ?_)
  · exact absurd ht4 (by simp; omega)
  refine C_skip ?_
  refine N_seq ?_
  refine C_seq ?_
  refine C_seq ?_
  refine C_region ?_
  refine wm (i := 0) rfl rfl rfl rfl ?_
  refine W_q (i := 1) rfl rfl rfl (q_int rfl rfl rfl) ?_
  refine W_nil ?_
  refine N_seq ?_
  refine C_cond rfl (fun ht8 => ?_) (fun ht8 => ?_)
  · exact absurd ht8 (by simp; omega)
  refine C_skip ?_
  refine N_seq ?_
  refine C_seq ?_
  refine C_seq ?_
  refine C_region ?_
  refine wm (i := 0) rfl rfl rfl rfl ?_
  refine W_q (i := 1) rfl rfl rfl (q_int rfl rfl rfl) ?_
  refine W_nil ?_
  refine N_seq ?_
  refine C_cond rfl (fun ht14 => ?_) (fun ht14 => ?_)
  · exact absurd ht14 (by simp; omega)
  refine C_skip ?_
  refine N_seq ?_
  refine C_seq ?_
  refine C_region ?_
  refine wm (i := 0) rfl rfl rfl rfl ?_
  refine wm (i := 1) rfl rfl rfl rfl ?_
  refine W_q (i := 2) rfl rfl rfl (q_conv Tryz.underlying225 Tryz.underlying5 rfl (r := (x : Int)) (by rw [wrap_u8]; omega)) ?_
  refine W_q (i := 3) rfl rfl rfl (q_indexStr Tryz.underlying9 rfl rfl (Int.natCast_nonneg _) (len8_at x hx)) ?_
  refine W_q (i := 4) rfl rfl rfl (q_conv Tryz.underlying5 Tryz.underlying3 rfl rfl) ?_
  refine W_q (i := 5) rfl rfl rfl (q_int rfl rfl rfl) ?_
  refine wa (i := 6) rfl rfl rfl rfl ?_
  refine W_nil ?_
  refine N_seq ?_
  refine C_ret fun a w ha hk => ?_
  exact R_val (e := .ret) (.inl rfl) ha.defers (res1 ha rfl rfl) (hR _ _ _ ⟨⟨_, rfl⟩, rfl⟩ (aK hk))
theorem s_len [Bs] (x : Nat) (hx : x < 256) : Spec Tryz.prog 138 [.int .u64 x] [] (fun v K' => (∃ r : Int, v = .int .i64 r) ∧ K' = []) := by
 refine spec_body Tryz.func138 rfl rfl fun F R hR => ?_
 refine C_seq ?_
 refine C_region ?_
 refine wa (i := 0) rfl rfl rfl rfl ?_
 refine W_nil ?_
 refine N_seq ?_
 refine C_seq ?_
 refine C_condF rfl ?_
 refine C_skip ?_
 refine N_seq ?_
 refine C_seq ?_
 refine C_region ?_
 refine wm (i := 0) rfl rfl rfl rfl ?_
 refine W_call (i := 1) rfl rfl rfl rfl rfl rfl pf_166 (s_len64 _ (by omega)) tk_nil ?_
 rintro _ _ ⟨⟨r, rfl⟩, rfl⟩
 refine wa (i := 2) rfl rfl rfl rfl ?_
 refine W_nil ?_
 refine N_seq ?_
 refine C_ret fun a w ha hk => ?_
 exact R_val (e := .ret) (.inl rfl) ha.defers (res1 ha rfl rfl) (hR _ _ _ ⟨⟨_, rfl⟩, rfl⟩ (aK hk))
theorem s_pdqO_u32 [Bs] (sl : Sl) (d : Array Int) (b : Nat) (l : Int) (hok : sl.Ok (d.toList.map (fun x : Int => Value.int .u32 x)) 1) (hb : b = d.size) (h12 : b ≤ 12) : Spec Tryz.prog 137 [sl.val, .int .i64 0, .int .i64 (b : Int), .int .i64 l] (sl.kb (d.toList.map (fun x : Int => Value.int .u32 x)) 1 31) (fun v K' => v = .tuple #[] ∧ K' = sl.kb ((insertionSort ltI d 0 b).toList.map (fun x : Int => Value.int .u32 x)) 1 31) := by
  refine spec_body Tryz.func137 rfl rfl fun F R hR => ?_
  refine C_seq ?_
  refine C_region ?_
  refine wa (i := 0) rfl rfl rfl rfl ?_
  refine W_nil ?_
  refine N_seq ?_
  refine C_seq ?_
  refine C_region ?_
  refine wa (i := 0) rfl rfl rfl rfl ?_
  refine W_nil ?_
  refine N_seq ?_
  refine C_block ?_
  refine C_loop (ι := Unit) (fun _ => [(0, sl.val), (1, .int .i64 0), (2, .int .i64 (b : Int)), (3, .int .i64 l)]) (fun _ => sl.kb (d.toList.map (fun x : Int => Value.int .u32 x)) 1 31 ++ F) (fun _ => 0) () aS (.refl _) ?_
  rintro ⟨⟩
  refine C_block ?_
  refine C_seq ?_
  refine C_region ?_
  refine wm (i := 0) rfl rfl rfl rfl ?_
  refine wm (i := 1) rfl rfl rfl rfl ?_
  refine W_q (i := 2) rfl rfl rfl (q_sub rfl rfl (r := (b : Int)) (by rw [wrap64_id (by omega) (by omega)]; omega)) ?_
  refine wa (i := 3) rfl rfl rfl rfl ?_
  refine W_nil ?_
  refine N_seq ?_
  refine C_seq ?_
  refine C_seq ?_
  refine C_region ?_
  refine wm (i := 0) rfl rfl rfl rfl ?_
  refine W_q (i := 1) rfl rfl rfl (q_int rfl rfl rfl) ?_
  refine W_nil ?_
  refine N_seq ?_
  refine C_cond rfl (fun ht23 => ?_) (fun ht23 => ?_)
  rotate_left
  · exact absurd ht23 (by simp; omega)
  refine C_seq ?_
  refine C_region ?_
  refine wm (i := 0) rfl rfl rfl rfl ?_
  refine wm (i := 1) rfl rfl rfl rfl ?_
  refine wm (i := 2) rfl rfl rfl rfl ?_
  refine W_call (i := 3) rfl rfl rfl rfl rfl rfl pf_156 (s_insO_u32 sl d 0 b hok (by omega) (by decide) (by omega)) aC ?_
  rintro _ _ ⟨rfl, rfl⟩
  refine W_nil ?_
  refine N_seq ?_
  refine C_ret fun a w ha hk => ?_
  exact R_val (e := .ret) (.inl rfl) ha.defers (res0 rfl) (hR _ _ _ ⟨rfl, rfl⟩ (aK hk))
theorem s_sort_u32 [Bs] (sl : Sl) (xs : List Int) (hok : sl.Ok (xs.map (fun x : Int => Value.int .u32 x)) 1) (h12 : xs.length ≤ 12) : Spec Tryz.prog 101 [sl.val] (sl.kb (xs.map (fun x : Int => Value.int .u32 x)) 1 31) (fun v K' => v = .tuple #[] ∧ K' = sl.kb ((Qd.sortI xs).map (fun x : Int => Value.int .u32 x)) 1 31) := by
 have hl : sl.len = xs.length := by have := hok.vlen; simpa using this.symm
 have hs : (insertionSort ltI xs.toArray 0 sl.len).toList = Qd.sortI xs := by rw [hl]; exact Qd.ins_sorts Qd.swoI xs.toArray (Qd.totI _)
 refine spec_body Tryz.func101 rfl rfl fun F R hR => ?_
 refine C_seq ?_
 refine C_region ?_
 refine wm (i := 0) rfl rfl rfl rfl ?_
 refine W_q (i := 1) rfl rfl rfl (q_lenSl Tryz.underlying53 rfl rfl) ?_
 refine wa (i := 2) rfl rfl rfl rfl ?_
 refine W_nil ?_
 refine N_seq ?_
 refine C_region ?_
 refine wm (i := 0) rfl rfl rfl rfl ?_
 refine wm (i := 1) rfl rfl rfl rfl ?_
 refine wm (i := 2) rfl rfl rfl rfl ?_
 refine W_q (i := 3) rfl rfl rfl (q_conv Tryz.underlying3 Tryz.underlying215 rfl (r := (sl.len : Int)) (by first | (simp [IntKind.wrap, IntKind.bits, IntKind.signed]; done) | (simp [IntKind.wrap, IntKind.bits, IntKind.signed]; omega))) ?_
 refine W_call (i := 4) rfl rfl rfl rfl rfl rfl pf_138 (s_len sl.len (by omega)) tk_nil ?_
 rintro _ _ ⟨⟨r, rfl⟩, rfl⟩
 refine W_call (i := 5) rfl rfl rfl rfl rfl rfl pf_137 (s_pdqO_u32 sl xs.toArray sl.len r hok (by simpa using hl) (by omega)) aC ?_
 rintro _ _ ⟨rfl, rfl⟩
 rw [hs]
 refine W_nil ?_
 intro a w ha hk
 exact R_val (e := .normal) (.inr rfl) ha.defers (res0 rfl) (hR _ _ _ ⟨rfl, rfl⟩ (aK hk))
theorem s_pdqO_i64 [Bs] (sl : Sl) (d : Array Int) (b : Nat) (l : Int) (hok : sl.Ok (d.toList.map (fun x : Int => Value.int .i64 x)) 1) (hb : b = d.size) (h12 : b ≤ 12) : Spec Tryz.prog 175 [sl.val, .int .i64 0, .int .i64 (b : Int), .int .i64 l] (sl.kb (d.toList.map (fun x : Int => Value.int .i64 x)) 1 3) (fun v K' => v = .tuple #[] ∧ K' = sl.kb ((insertionSort ltI d 0 b).toList.map (fun x : Int => Value.int .i64 x)) 1 3) := by
  refine spec_body Tryz.func175 rfl rfl fun F R hR => ?_
  refine C_seq ?_
  refine C_region ?_
  refine wa (i := 0) rfl rfl rfl rfl ?_
  refine W_nil ?_
  refine N_seq ?_
  refine C_seq ?_
  refine C_region ?_
  refine wa (i := 0) rfl rfl rfl rfl ?_
  refine W_nil ?_
  refine N_seq ?_
  refine C_block ?_
  refine C_loop (ι := Unit) (fun _ => [(0, sl.val), (1, .int .i64 0), (2, .int .i64 (b : Int)), (3, .int .i64 l)]) (fun _ => sl.kb (d.toList.map (fun x : Int => Value.int .i64 x)) 1 3 ++ F) (fun _ => 0) () aS (.refl _) ?_
  rintro ⟨⟩
  refine C_block ?_
  refine C_seq ?_
  refine C_region ?_
  refine wm (i := 0) rfl rfl rfl rfl ?_
  refine wm (i := 1) rfl rfl rfl rfl ?_
  refine W_q (i := 2) rfl rfl rfl (q_sub rfl rfl (r := (b : Int)) (by rw [wrap64_id (by omega) (by omega)]; omega)) ?_
  refine wa (i := 3) rfl rfl rfl rfl ?_
  refine W_nil ?_
  refine N_seq ?_
  refine C_seq ?_
  refine C_seq ?_
  refine C_region ?_
  refine wm (i := 0) rfl rfl rfl rfl ?_
  refine W_q (i := 1) rfl rfl rfl (q_int rfl rfl rfl) ?_
  refine W_nil ?_
  refine N_seq ?_
  refine C_cond rfl (fun ht23 => ?_) (fun ht23 => ?_)
  rotate_left
  · exact absurd ht23 (by simp; omega)
  refine C_seq ?_
  refine C_region ?_
  refine wm (i := 0) rfl rfl rfl rfl ?_
  refine wm (i := 1) rfl rfl rfl rfl ?_
  refine wm (i := 2) rfl rfl rfl rfl ?_
  refine W_call (i := 3) rfl rfl rfl rfl rfl rfl pf_203 (s_insO_i64 sl d 0 b hok (by omega) (by decide) (by omega)) aC ?_
  rintro _ _ ⟨rfl, rfl⟩
  refine W_nil ?_
  refine N_seq ?_
  refine C_ret fun a w ha hk => ?_
  exact R_val (e := .ret) (.inl rfl) ha.defers (res0 rfl) (hR _ _ _ ⟨rfl, rfl⟩ (aK hk))
theorem s_sort_i64 [Bs] (sl : Sl) (xs : List Int) (hok : sl.Ok (xs.map (fun x : Int => Value.int .i64 x)) 1) (h12 : xs.length ≤ 12) : Spec Tryz.prog 147 [sl.val] (sl.kb (xs.map (fun x : Int => Value.int .i64 x)) 1 3) (fun v K' => v = .tuple #[] ∧ K' = sl.kb ((Qd.sortI xs).map (fun x : Int => Value.int .i64 x)) 1 3) := by
 have hl : sl.len = xs.length := by have := hok.vlen; simpa using this.symm
 have hs : (insertionSort ltI xs.toArray 0 sl.len).toList = Qd.sortI xs := by rw [hl]; exact Qd.ins_sorts Qd.swoI xs.toArray (Qd.totI _)
 refine spec_body Tryz.func147 rfl rfl fun F R hR => ?_
 refine C_seq ?_
 refine C_region ?_
 refine wm (i := 0) rfl rfl rfl rfl ?_
 refine W_q (i := 1) rfl rfl rfl (q_lenSl Tryz.underlying66 rfl rfl) ?_
 refine wa (i := 2) rfl rfl rfl rfl ?_
 refine W_nil ?_
 refine N_seq ?_
 refine C_region ?_
 refine wm (i := 0) rfl rfl rfl rfl ?_
 refine wm (i := 1) rfl rfl rfl rfl ?_
 refine wm (i := 2) rfl rfl rfl rfl ?_
 refine W_q (i := 3) rfl rfl rfl (q_conv Tryz.underlying3 Tryz.underlying215 rfl (r := (sl.len : Int)) (by first | (simp [IntKind.wrap, IntKind.bits, IntKind.signed]; done) | (simp [IntKind.wrap, IntKind.bits, IntKind.signed]; omega))) ?_
 refine W_call (i := 4) rfl rfl rfl rfl rfl rfl pf_138 (s_len sl.len (by omega)) tk_nil ?_
 rintro _ _ ⟨⟨r, rfl⟩, rfl⟩
 refine W_call (i := 5) rfl rfl rfl rfl rfl rfl pf_175 (s_pdqO_i64 sl xs.toArray sl.len r hok (by simpa using hl) (by omega)) aC ?_
 rintro _ _ ⟨rfl, rfl⟩
 rw [hs]
 refine W_nil ?_
 intro a w ha hk
 exact R_val (e := .normal) (.inr rfl) ha.defers (res0 rfl) (hR _ _ _ ⟨rfl, rfl⟩ (aK hk))
end Go.SL
namespace Go.SL
open Go Go.Proofs
open Go.Sort (swp insInner insOuter insertionSort)
set_option maxRecDepth 10000
theorem ag_183 : aggB Tryz.prog 183 = some true := by kernel_rfl
theorem ag_232 : aggB Tryz.prog 232 = some true := by kernel_rfl
theorem pf_153 : plainFn Tryz.prog 153 = true := by kernel_rfl
theorem pf_169 : plainFn Tryz.prog 169 = true := by kernel_rfl
theorem pf_179 : plainFn Tryz.prog 179 = true := by kernel_rfl
theorem pf_193 : plainFn Tryz.prog 193 = true := by kernel_rfl
theorem pf_202 : plainFn Tryz.prog 202 = true := by kernel_rfl
theorem pf_221 : plainFn Tryz.prog 221 = true := by kernel_rfl
theorem sz_183 : sizeB Tryz.prog 183 = some 3 := by kernel_rfl
theorem sz_232 : sizeB Tryz.prog 232 = some 2 := by kernel_rfl
theorem s_insF_u32 [Bs] {lt : Int → Int → Bool} {Pe : Int → Prop} {gf : FuncId} {lb : List Value} {Kc : KB} (hp : plainFn Tryz.prog gf = true) (hcmp : ∀ x y, Pe x → Pe y → Spec Tryz.prog gf (.int .u32 x :: .int .u32 y :: lb) Kc (fun v K' => ∃ c : Int, v = .int .i64 c ∧ (c < 0 ↔ lt x y = true) ∧ K' = Kc)) (sl : Sl) (d : Array Int) (a b : Nat) (hok : sl.Ok (d.toList.map (fun x : Int => Value.int .u32 x)) 1) (hPe : ∀ x ∈ d, Pe x) (hb : b ≤ d.size) (ha2 : a < 2 ^ 61) (hs2 : d.size < 2 ^ 61) (fv : Value) (hfv : fv = .func (.func gf) #[] lb.toArray) : Spec Tryz.prog 179 [sl.val, .int .i64 (a : Int), .int .i64 (b : Int), fv] (sl.kb (d.toList.map (fun x : Int => Value.int .u32 x)) 1 31 ++ Kc) (fun v K' => v = .tuple #[] ∧ K' = sl.kb ((insertionSort lt d a b).toList.map (fun x : Int => Value.int .u32 x)) 1 31 ++ Kc) := by
 subst hfv
 refine spec_body Tryz.func179 rfl rfl fun F R hR => ?_
 refine C_seq ?_
 refine C_region ?_
 refine wm (i := 0) rfl rfl rfl rfl ?_
 refine W_q (i := 1) rfl rfl rfl (q_add rfl rfl (succ64 (by omega))) ?_
 refine wa (i := 2) rfl rfl rfl rfl ?_
 refine W_nil ?_
 refine N_seq ?_
 refine C_block ?_
 refine C_loop (ι := { q : Nat × Array Int // a < q.1 ∧ q.2.size = d.size ∧ (∀ x ∈ q.2, Pe x) ∧ insOuter lt a b q.1 q.2 = insertionSort lt d a b }) (fun q => [(0, sl.val), (1, .int .i64 (a : Int)), (2, .int .i64 (b : Int)), (8, .int .i64 (q.1.1 : Int)), (3, .func (.func gf) #[] lb.toArray)]) (fun q => sl.kb (q.1.2.toList.map (fun x : Int => Value.int .u32 x)) 1 31 ++ (Kc ++ F)) (fun q => b - q.1.1) ⟨(a + 1, d), by simp, rfl, hPe, rfl⟩ aS aQ ?_
 rintro ⟨⟨i, w0⟩, hai, hsz1, hel0, hgo⟩; dsimp only at *; have hsz1 : w0.size = d.size := hsz1
 refine C_seq ?_
 refine C_seq ?_
 refine C_region ?_
 refine wm (i := 0) rfl rfl rfl rfl ?_
 refine wm (i := 1) rfl rfl rfl rfl ?_
 refine W_q (i := 2) rfl rfl rfl (q_int rfl rfl rfl) ?_
 refine W_nil ?_
 refine N_seq ?_
 refine C_cond rfl (fun ht14 => ?_) (fun ht14 => ?_)
 ·
  have hib : i < b := by simpa using ht14
  refine C_skip ?_
  refine N_seq ?_
  refine C_seq ?_
  refine C_block ?_
  refine C_seq ?_
  refine C_region ?_
  refine wm (i := 0) rfl rfl rfl rfl ?_
  refine wa (i := 1) rfl rfl rfl rfl ?_
  refine W_nil ?_
  refine N_seq ?_
  refine C_block ?_
  refine C_loop (ι := { q : Nat × Array Int // q.1 ≤ i ∧ q.2.size = d.size ∧ (∀ x ∈ q.2, Pe x) ∧ insInner lt a q.1 q.2 = insInner lt a i w0 }) (fun q => [(0, sl.val), (1, .int .i64 (a : Int)), (2, .int .i64 (b : Int)), (8, .int .i64 (i : Int)), (9, .int .i64 (q.1.1 : Int)), (3, .func (.func gf) #[] lb.toArray)]) (fun q => sl.kb (q.1.2.toList.map (fun x : Int => Value.int .u32 x)) 1 31 ++ (Kc ++ F)) (fun q => q.1.1) ⟨(i, w0), Nat.le_refl _, by simpa using hsz1, hel0, rfl⟩ aS aQ ?_
  rintro ⟨⟨j, u⟩, hji, hsz2, hel, hin⟩; dsimp only at *
  have hsz2 : u.size = d.size := hsz2
  have hok1 : sl.Ok (u.toList.map (fun x : Int => Value.int .u32 x)) 1 := hok.of (by simp [*])
  have hlen1 : (u.toList.map (fun x : Int => Value.int .u32 x)).length = u.size * 1 := by simp
  refine C_seq ?_
  refine C_seq ?_
  refine C_draw (.cons 0 .pure (.cons 1 .pure (.cons 2 .pure (.cons 3 .pure (.cons 4 .pure (.cons 5 .pure (.cons 6 .pure (.cons 7 .pure (.cons 8 .read (.cons 9 .pure (.cons 10 .pure (.cons 11 .pure (.cons 12 .pure (.cons 13 .read (.cons 14 .eff (.cons 15 .pure (.cons 16 .pure .nil))))))))))))))))) (fun w => Knows w _) 14 mo (by kernel_rfl) (fun _ h => h) ?_
  refine D_p rfl rfl rfl (q_move rfl) ?_
  refine D_p rfl rfl rfl (q_move rfl) ?_
  refine D_p rfl rfl rfl (q_int rfl rfl rfl) ?_
  refine D_p rfl rfl rfl (q_move rfl) ?_
  refine D_bool 21 _ rfl (fun ht21 => ?_) (fun ht21 => ?_)
  ·
   have hj : a < j := by simpa using ht21
   refine D_p rfl rfl rfl (q_move rfl) ?_
   refine D_p rfl rfl rfl (q_move rfl) ?_
   refine D_p rfl rfl rfl (q_move rfl) ?_
   refine D_p rfl rfl rfl (q_idxSl Tryz.underlying53 sz_31 hok1 rfl rfl (wrapNat _) (by have := hok1.vlen; have hz := hlen1; simp at this hz ⊢; omega) rfl) ?_
   refine D_r rfl rfl rfl (q_loadSl (i := j) (v := (fun x : Int => Value.int .u32 x) u[j]!) ag_31 rfl hok1 aC (by simp) (sc_at (by omega))) ?_
   refine D_p rfl rfl rfl (q_move rfl) ?_
   refine D_p rfl rfl rfl (q_move rfl) ?_
   refine D_p rfl rfl rfl (q_sub rfl rfl (pred64 (by omega) (by omega))) ?_
   refine D_p rfl rfl rfl (q_idxSl Tryz.underlying53 sz_31 hok1 rfl rfl (wrapNat _) (by have := hok1.vlen; have hz := hlen1; simp at this hz ⊢; omega) rfl) ?_
   refine D_r rfl rfl rfl (q_loadSl (i := (j - 1)) (v := (fun x : Int => Value.int .u32 x) u[j - 1]!) ag_31 rfl hok1 aC (by simp) (sc_at (by omega))) ?_
   refine D_call rfl rfl rfl rfl rfl rfl hp (hcmp u[j]! u[j - 1]! (hel _ (get_mem (by omega))) (hel _ (get_mem (by omega)))) aC (.inl rfl) ?_
   rintro _ _ ⟨c, rfl, hc, rfl⟩
   refine D_p rfl rfl rfl (q_int rfl rfl rfl) ?_
   refine D_p rfl rfl rfl (q_pickT rfl rfl) ?_
   refine D_nil ?_
   refine N_seq ?_
   refine C_cond rfl (fun ht34 => ?_) (fun ht34 => ?_)
   ·
    have hl : lt u[j]! u[j - 1]! = true := hc.1 (by simpa using ht34)
    refine C_skip ?_
    refine N_seq ?_
    refine C_seq ?_
    refine C_block ?_
    refine C_draw (.cons 0 .pure (.cons 1 .pure (.cons 2 .pure (.cons 3 .pure (.cons 4 .pure (.cons 5 .pure (.cons 6 .pure (.cons 7 .pure (.cons 8 .pure (.cons 9 .read (.cons 10 .pure (.cons 11 .pure (.cons 12 .pure (.cons 13 .read (.cons 14 .pure (.cons 15 .eff (.cons 16 .pure (.cons 17 .eff .nil)))))))))))))))))) (fun w => Knows w _) 15 mo (by kernel_rfl) (fun _ h => h) ?_
    refine D_p rfl rfl rfl (q_move rfl) ?_
    refine D_p rfl rfl rfl (q_move rfl) ?_
    refine D_p rfl rfl rfl (q_move rfl) ?_
    refine D_p rfl rfl rfl (q_move rfl) ?_
    refine D_p rfl rfl rfl (q_sub rfl rfl (pred64 (by omega) (by omega))) ?_
    refine D_p rfl rfl rfl (q_move rfl) ?_
    refine D_p rfl rfl rfl (q_move rfl) ?_
    refine D_p rfl rfl rfl (q_sub rfl rfl (pred64 (by omega) (by omega))) ?_
    refine D_p rfl rfl rfl (q_idxSl Tryz.underlying53 sz_31 hok1 rfl rfl (wrapNat _) (by have := hok1.vlen; have hz := hlen1; simp at this hz ⊢; omega) rfl) ?_
    refine D_r rfl rfl rfl (q_loadSl (i := (j - 1)) (v := (fun x : Int => Value.int .u32 x) u[j - 1]!) ag_31 rfl hok1 aC (by simp) (sc_at (by omega))) ?_
    refine D_p rfl rfl rfl (q_move rfl) ?_
    refine D_p rfl rfl rfl (q_move rfl) ?_
    refine D_p rfl rfl rfl (q_idxSl Tryz.underlying53 sz_31 hok1 rfl rfl (wrapNat _) (by have := hok1.vlen; have hz := hlen1; simp at this hz ⊢; omega) rfl) ?_
    refine D_r rfl rfl rfl (q_loadSl (i := j) (v := (fun x : Int => Value.int .u32 x) u[j]!) ag_31 rfl hok1 aC (by simp) (sc_at (by omega))) ?_
    refine D_p rfl rfl rfl (q_idxSl Tryz.underlying53 sz_31 hok1 rfl rfl (wrapNat _) (by have := hok1.vlen; have hz := hlen1; simp at this hz ⊢; omega) rfl) ?_
    refine D_e rfl rfl rfl (e_storeSl (i := j) sz_31 rfl rfl hok1 aC (by simp) rfl (by simp; omega) rfl) (.inl rfl) ?_
    intro _
    have hok1 : sl.Ok ((u.toList.map (fun x : Int => Value.int .u32 x)).set j ((fun x : Int => Value.int .u32 x) u[j - 1]!)) 1 := hok1.of (by simp)
    have hlen1 : ((u.toList.map (fun x : Int => Value.int .u32 x)).set j ((fun x : Int => Value.int .u32 x) u[j - 1]!)).length = u.size * 1 := by simp
    refine D_p rfl rfl rfl (q_idxSl Tryz.underlying53 sz_31 hok1 rfl rfl (wrapNat _) (by have := hok1.vlen; have hz := hlen1; simp at this hz ⊢; omega) rfl) ?_
    refine D_e rfl rfl rfl (e_storeSl (i := j - 1) sz_31 rfl rfl hok1 aC (by simp) rfl (by simp; omega) sc_swp) (.inl rfl) ?_
    intro _
    refine D_nil ?_
    refine N_seq ?_
    refine C_region ?_
    refine wm (i := 0) rfl rfl rfl rfl ?_
    refine W_q (i := 1) rfl rfl rfl (q_sub rfl rfl (pred64 (by omega) (by omega))) ?_
    refine wa (i := 2) rfl rfl rfl rfl ?_
    refine W_nil ?_
    exact fun a w ha hk => ⟨⟨(j - 1, swp u j (j - 1)), by simp only; omega, by simp [swp_size, *], fun x hx => hel x (mem_swp (by omega) (by omega) hx), by rw [insInner_go hj hl] at hin; exact hin⟩, by simp only; omega, ha.sub aS, hk.perm aQ⟩
   ·
    have hl : lt u[j]! u[j - 1]! = false := by cases h : lt u[j]! u[j - 1]! with | false => rfl | true => have := hc.2 h; simp at ht34; omega
    refine C_exit ?_
    refine N_seq ?_
    have hin : insInner lt a i w0 = u := by rw [← hin]; first | exact insInner_stop (.inl (by omega)) | exact insInner_stop (.inr hl)
    refine C_region ?_
    refine wm (i := 0) rfl rfl rfl rfl ?_
    refine W_q (i := 1) rfl rfl rfl (q_add rfl rfl (succ64 (by omega))) ?_
    refine wa (i := 2) rfl rfl rfl rfl ?_
    refine W_nil ?_
    exact fun a w ha hk => ⟨⟨(i + 1, u), by omega, by simp [*], hel, by rw [insOuter_go hib, hin] at hgo; simpa using hgo⟩, by simp only; omega, ha.sub aS, hk.perm aQ⟩
  ·
   have hj : ¬ a < j := by simpa using ht21
   refine D_pskip rfl rfl rfl ?_
   refine D_pskip rfl rfl rfl ?_
   refine D_pskip rfl rfl rfl ?_
   refine D_pskip rfl rfl rfl ?_
   refine D_rskip rfl rfl rfl ?_
   refine D_pskip rfl rfl rfl ?_
   refine D_pskip rfl rfl rfl ?_
   refine D_pskip rfl rfl rfl ?_
   refine D_pskip rfl rfl rfl ?_
   refine D_rskip rfl rfl rfl ?_
   refine D_eskip rfl rfl rfl (.inl rfl) ?_
   refine D_pskip rfl rfl rfl ?_
   refine D_p rfl rfl rfl (q_pickF rfl rfl) ?_
   refine D_nil ?_
   refine N_seq ?_
   refine C_condF rfl ?_
   refine C_exit ?_
   refine N_seq ?_
   have hin : insInner lt a i w0 = u := by rw [← hin]; first | exact insInner_stop (.inl (by omega)) | exact insInner_stop (.inr hl)
   refine C_region ?_
   refine wm (i := 0) rfl rfl rfl rfl ?_
   refine W_q (i := 1) rfl rfl rfl (q_add rfl rfl (succ64 (by omega))) ?_
   refine wa (i := 2) rfl rfl rfl rfl ?_
   refine W_nil ?_
   exact fun a w ha hk => ⟨⟨(i + 1, u), by omega, by simp [*], hel, by rw [insOuter_go hib, hin] at hgo; simpa using hgo⟩, by simp only; omega, ha.sub aS, hk.perm aQ⟩
 ·
  have hib : ¬ i < b := by simpa using ht14
  rw [insOuter_stop hib] at hgo
  refine C_exit ?_
  intro a w ha hk
  exact R_val (e := .normal) (by simp) ha.defers (res0 rfl) (hR _ _ _ ⟨rfl, rfl⟩ (by rw [← hgo]; exact hk.perm aQ))
theorem s_insF_item [Bs] {α : Type} [Inhabited α] {E : α → List Value} (hE : ∀ x, (E x).length = 3) (h1E : ∀ x, (E x).all oneC = true) {lt : α → α → Bool} {Pe : α → Prop} {gf : FuncId} {lb : List Value} {Kc : KB} (hp : plainFn Tryz.prog gf = true) (hcmp : ∀ x y, Pe x → Pe y → Spec Tryz.prog gf (.agg (E x).toArray :: .agg (E y).toArray :: lb) Kc (fun v K' => ∃ c : Int, v = .int .i64 c ∧ (c < 0 ↔ lt x y = true) ∧ K' = Kc)) (sl : Sl) (d : Array α) (a b : Nat) (hok : sl.Ok (flat E d.toList) 3) (hPe : ∀ x ∈ d, Pe x) (hb : b ≤ d.size) (ha2 : a < 2 ^ 61) (hs2 : d.size < 2 ^ 61) (fv : Value) (hfv : fv = .func (.func gf) #[] lb.toArray) : Spec Tryz.prog 193 [sl.val, .int .i64 (a : Int), .int .i64 (b : Int), fv] (sl.kb (flat E d.toList) 3 183 ++ Kc) (fun v K' => v = .tuple #[] ∧ K' = sl.kb (flat E (insertionSort lt d a b).toList) 3 183 ++ Kc) := by
 subst hfv
 refine spec_body Tryz.func193 rfl rfl fun F R hR => ?_
 refine C_seq ?_
 refine C_region ?_
 refine wm (i := 0) rfl rfl rfl rfl ?_
 refine W_q (i := 1) rfl rfl rfl (q_add rfl rfl (succ64 (by omega))) ?_
 refine wa (i := 2) rfl rfl rfl rfl ?_
 refine W_nil ?_
 refine N_seq ?_
 refine C_block ?_
 refine C_loop (ι := { q : Nat × Array α // a < q.1 ∧ q.2.size = d.size ∧ (∀ x ∈ q.2, Pe x) ∧ insOuter lt a b q.1 q.2 = insertionSort lt d a b }) (fun q => [(0, sl.val), (1, .int .i64 (a : Int)), (2, .int .i64 (b : Int)), (8, .int .i64 (q.1.1 : Int)), (3, .func (.func gf) #[] lb.toArray)]) (fun q => sl.kb (flat E q.1.2.toList) 3 183 ++ (Kc ++ F)) (fun q => b - q.1.1) ⟨(a + 1, d), by simp, rfl, hPe, rfl⟩ aS aQ ?_
 rintro ⟨⟨i, w0⟩, hai, hsz1, hel0, hgo⟩; dsimp only at *; have hsz1 : w0.size = d.size := hsz1
 refine C_seq ?_
 refine C_seq ?_
 refine C_region ?_
 refine wm (i := 0) rfl rfl rfl rfl ?_
 refine wm (i := 1) rfl rfl rfl rfl ?_
 refine W_q (i := 2) rfl rfl rfl (q_int rfl rfl rfl) ?_
 refine W_nil ?_
 refine N_seq ?_
 refine C_cond rfl (fun ht14 => ?_) (fun ht14 => ?_)
 ·
  have hib : i < b := by simpa using ht14
  refine C_skip ?_
  refine N_seq ?_
  refine C_seq ?_
  refine C_block ?_
  refine C_seq ?_
  refine C_region ?_
  refine wm (i := 0) rfl rfl rfl rfl ?_
  refine wa (i := 1) rfl rfl rfl rfl ?_
  refine W_nil ?_
  refine N_seq ?_
  refine C_block ?_
  refine C_loop (ι := { q : Nat × Array α // q.1 ≤ i ∧ q.2.size = d.size ∧ (∀ x ∈ q.2, Pe x) ∧ insInner lt a q.1 q.2 = insInner lt a i w0 }) (fun q => [(0, sl.val), (1, .int .i64 (a : Int)), (2, .int .i64 (b : Int)), (8, .int .i64 (i : Int)), (9, .int .i64 (q.1.1 : Int)), (3, .func (.func gf) #[] lb.toArray)]) (fun q => sl.kb (flat E q.1.2.toList) 3 183 ++ (Kc ++ F)) (fun q => q.1.1) ⟨(i, w0), Nat.le_refl _, by simpa using hsz1, hel0, rfl⟩ aS aQ ?_
  rintro ⟨⟨j, u⟩, hji, hsz2, hel, hin⟩; dsimp only at *
  have hsz2 : u.size = d.size := hsz2
  have hok1 : sl.Ok (flat E u.toList) 3 := hok.of (by rw [flat_len hE, flat_len hE]; simp [*])
  have hlen1 : (flat E u.toList).length = u.size * 3 := by rw [flat_len hE]; simp
  refine C_seq ?_
  refine C_seq ?_
  refine C_draw (.cons 0 .pure (.cons 1 .pure (.cons 2 .pure (.cons 3 .pure (.cons 4 .pure (.cons 5 .pure (.cons 6 .pure (.cons 7 .pure (.cons 8 .read (.cons 9 .pure (.cons 10 .pure (.cons 11 .pure (.cons 12 .pure (.cons 13 .read (.cons 14 .eff (.cons 15 .pure (.cons 16 .pure .nil))))))))))))))))) (fun w => Knows w _) 14 mo (by kernel_rfl) (fun _ h => h) ?_
  refine D_p rfl rfl rfl (q_move rfl) ?_
  refine D_p rfl rfl rfl (q_move rfl) ?_
  refine D_p rfl rfl rfl (q_int rfl rfl rfl) ?_
  refine D_p rfl rfl rfl (q_move rfl) ?_
  refine D_bool 21 _ rfl (fun ht21 => ?_) (fun ht21 => ?_)
  ·
   have hj : a < j := by simpa using ht21
   refine D_p rfl rfl rfl (q_move rfl) ?_
   refine D_p rfl rfl rfl (q_move rfl) ?_
   refine D_p rfl rfl rfl (q_move rfl) ?_
   refine D_p rfl rfl rfl (q_idxSl Tryz.underlying184 sz_183 hok1 rfl rfl (wrapNat _) (by have := hok1.vlen; have hz := hlen1; simp at this hz ⊢; omega) rfl) ?_
   refine D_r rfl rfl rfl (q_loadAggSl (i := j * 3) (us := E u[j]!) ag_183 sz_183 rfl hok1 aC (by simp) (by rw [flat_len hE]; simp; omega) (by have := hok1.vlen; rw [flat_len hE] at this; simp at this; omega) (fl_at hE (by omega))) ?_
   refine D_p rfl rfl rfl (q_move rfl) ?_
   refine D_p rfl rfl rfl (q_move rfl) ?_
   refine D_p rfl rfl rfl (q_sub rfl rfl (pred64 (by omega) (by omega))) ?_
   refine D_p rfl rfl rfl (q_idxSl Tryz.underlying184 sz_183 hok1 rfl rfl (wrapNat _) (by have := hok1.vlen; have hz := hlen1; simp at this hz ⊢; omega) rfl) ?_
   refine D_r rfl rfl rfl (q_loadAggSl (i := (j - 1) * 3) (us := E u[j - 1]!) ag_183 sz_183 rfl hok1 aC (by simp) (by rw [flat_len hE]; simp; omega) (by have := hok1.vlen; rw [flat_len hE] at this; simp at this; omega) (fl_at hE (by omega))) ?_
   refine D_call rfl rfl rfl rfl rfl rfl hp (hcmp u[j]! u[j - 1]! (hel _ (get_mem (by omega))) (hel _ (get_mem (by omega)))) aC (.inl rfl) ?_
   rintro _ _ ⟨c, rfl, hc, rfl⟩
   refine D_p rfl rfl rfl (q_int rfl rfl rfl) ?_
   refine D_p rfl rfl rfl (q_pickT rfl rfl) ?_
   refine D_nil ?_
   refine N_seq ?_
   refine C_cond rfl (fun ht34 => ?_) (fun ht34 => ?_)
   ·
    have hl : lt u[j]! u[j - 1]! = true := hc.1 (by simpa using ht34)
    refine C_skip ?_
    refine N_seq ?_
    refine C_seq ?_
    refine C_block ?_
    refine C_draw (.cons 0 .pure (.cons 1 .pure (.cons 2 .pure (.cons 3 .pure (.cons 4 .pure (.cons 5 .pure (.cons 6 .pure (.cons 7 .pure (.cons 8 .pure (.cons 9 .read (.cons 10 .pure (.cons 11 .pure (.cons 12 .pure (.cons 13 .read (.cons 14 .pure (.cons 15 .eff (.cons 16 .pure (.cons 17 .eff .nil)))))))))))))))))) (fun w => Knows w _) 15 mo (by kernel_rfl) (fun _ h => h) ?_
    refine D_p rfl rfl rfl (q_move rfl) ?_
    refine D_p rfl rfl rfl (q_move rfl) ?_
    refine D_p rfl rfl rfl (q_move rfl) ?_
    refine D_p rfl rfl rfl (q_move rfl) ?_
    refine D_p rfl rfl rfl (q_sub rfl rfl (pred64 (by omega) (by omega))) ?_
    refine D_p rfl rfl rfl (q_move rfl) ?_
    refine D_p rfl rfl rfl (q_move rfl) ?_
    refine D_p rfl rfl rfl (q_sub rfl rfl (pred64 (by omega) (by omega))) ?_
    refine D_p rfl rfl rfl (q_idxSl Tryz.underlying184 sz_183 hok1 rfl rfl (wrapNat _) (by have := hok1.vlen; have hz := hlen1; simp at this hz ⊢; omega) rfl) ?_
    refine D_r rfl rfl rfl (q_loadAggSl (i := (j - 1) * 3) (us := E u[j - 1]!) ag_183 sz_183 rfl hok1 aC (by simp) (by rw [flat_len hE]; simp; omega) (by have := hok1.vlen; rw [flat_len hE] at this; simp at this; omega) (fl_at hE (by omega))) ?_
    refine D_p rfl rfl rfl (q_move rfl) ?_
    refine D_p rfl rfl rfl (q_move rfl) ?_
    refine D_p rfl rfl rfl (q_idxSl Tryz.underlying184 sz_183 hok1 rfl rfl (wrapNat _) (by have := hok1.vlen; have hz := hlen1; simp at this hz ⊢; omega) rfl) ?_
    refine D_r rfl rfl rfl (q_loadAggSl (i := j * 3) (us := E u[j]!) ag_183 sz_183 rfl hok1 aC (by simp) (by rw [flat_len hE]; simp; omega) (by have := hok1.vlen; rw [flat_len hE] at this; simp at this; omega) (fl_at hE (by omega))) ?_
    refine D_p rfl rfl rfl (q_idxSl Tryz.underlying184 sz_183 hok1 rfl rfl (wrapNat _) (by have := hok1.vlen; have hz := hlen1; simp at this hz ⊢; omega) rfl) ?_
    refine D_e rfl rfl rfl (e_storeAggSl (i := j * 3) sz_183 rfl rfl hok1 aC (by simp) (h1E _) (hE _) (by have := hok1.vlen; rw [flat_len hE] at this; simp at this; omega) (by rw [hE, flat_len hE]; have : (j + 1) * 3 ≤ u.size * 3 := Nat.mul_le_mul_right _ (by omega); simp; omega) rfl) (.inl rfl) ?_
    intro _
    have hok1 : sl.Ok (splice (flat E u.toList) (j * 3) (E u[j - 1]!)) 3 := hok1.of (by rw [flat_set hE _ _ _ (by simp; omega), flat_len hE, flat_len hE]; simp)
    have hlen1 : (splice (flat E u.toList) (j * 3) (E u[j - 1]!)).length = u.size * 3 := by rw [flat_set hE _ _ _ (by simp; omega), flat_len hE]; simp
    refine D_p rfl rfl rfl (q_idxSl Tryz.underlying184 sz_183 hok1 rfl rfl (wrapNat _) (by have := hok1.vlen; have hz := hlen1; simp at this hz ⊢; omega) rfl) ?_
    refine D_e rfl rfl rfl (e_storeAggSl (i := (j - 1) * 3) sz_183 rfl rfl hok1 aC (by simp) (h1E _) (hE _) (by have := hok1.vlen; rw [hlen1] at this; omega) (by rw [hE, hlen1]; have : (j - 1 + 1) * 3 ≤ u.size * 3 := Nat.mul_le_mul_right _ (by omega); omega) (fl_swp hE (by omega) (by omega))) (.inl rfl) ?_
    intro _
    refine D_nil ?_
    refine N_seq ?_
    refine C_region ?_
    refine wm (i := 0) rfl rfl rfl rfl ?_
    refine W_q (i := 1) rfl rfl rfl (q_sub rfl rfl (pred64 (by omega) (by omega))) ?_
    refine wa (i := 2) rfl rfl rfl rfl ?_
    refine W_nil ?_
    exact fun a w ha hk => ⟨⟨(j - 1, swp u j (j - 1)), by simp only; omega, by simp [swp_size, *], fun x hx => hel x (mem_swp (by omega) (by omega) hx), by rw [insInner_go hj hl] at hin; exact hin⟩, by simp only; omega, ha.sub aS, hk.perm aQ⟩
   ·
    have hl : lt u[j]! u[j - 1]! = false := by cases h : lt u[j]! u[j - 1]! with | false => rfl | true => have := hc.2 h; simp at ht34; omega
    refine C_exit ?_
    refine N_seq ?_
    have hin : insInner lt a i w0 = u := by rw [← hin]; first | exact insInner_stop (.inl (by omega)) | exact insInner_stop (.inr hl)
    refine C_region ?_
    refine wm (i := 0) rfl rfl rfl rfl ?_
    refine W_q (i := 1) rfl rfl rfl (q_add rfl rfl (succ64 (by omega))) ?_
    refine wa (i := 2) rfl rfl rfl rfl ?_
    refine W_nil ?_
    exact fun a w ha hk => ⟨⟨(i + 1, u), by omega, by simp [*], hel, by rw [insOuter_go hib, hin] at hgo; simpa using hgo⟩, by simp only; omega, ha.sub aS, hk.perm aQ⟩
  ·
   have hj : ¬ a < j := by simpa using ht21
   refine D_pskip rfl rfl rfl ?_
   refine D_pskip rfl rfl rfl ?_
   refine D_pskip rfl rfl rfl ?_
   refine D_pskip rfl rfl rfl ?_
   refine D_rskip rfl rfl rfl ?_
   refine D_pskip rfl rfl rfl ?_
   refine D_pskip rfl rfl rfl ?_
   refine D_pskip rfl rfl rfl ?_
   refine D_pskip rfl rfl rfl ?_
   refine D_rskip rfl rfl rfl ?_
   refine D_eskip rfl rfl rfl (.inl rfl) ?_
   refine D_pskip rfl rfl rfl ?_
   refine D_p rfl rfl rfl (q_pickF rfl rfl) ?_
   refine D_nil ?_
   refine N_seq ?_
   refine C_condF rfl ?_
   refine C_exit ?_
   refine N_seq ?_
   have hin : insInner lt a i w0 = u := by rw [← hin]; first | exact insInner_stop (.inl (by omega)) | exact insInner_stop (.inr hl)
   refine C_region ?_
   refine wm (i := 0) rfl rfl rfl rfl ?_
   refine W_q (i := 1) rfl rfl rfl (q_add rfl rfl (succ64 (by omega))) ?_
   refine wa (i := 2) rfl rfl rfl rfl ?_
   refine W_nil ?_
   exact fun a w ha hk => ⟨⟨(i + 1, u), by omega, by simp [*], hel, by rw [insOuter_go hib, hin] at hgo; simpa using hgo⟩, by simp only; omega, ha.sub aS, hk.perm aQ⟩
 ·
  have hib : ¬ i < b := by simpa using ht14
  rw [insOuter_stop hib] at hgo
  refine C_exit ?_
  intro a w ha hk
  exact R_val (e := .normal) (by simp) ha.defers (res0 rfl) (hR _ _ _ ⟨rfl, rfl⟩ (by rw [← hgo]; exact hk.perm aQ))
theorem s_insF_cell [Bs] {α : Type} [Inhabited α] {E : α → List Value} (hE : ∀ x, (E x).length = 2) (h1E : ∀ x, (E x).all oneC = true) {lt : α → α → Bool} {Pe : α → Prop} {gf : FuncId} {lb : List Value} {Kc : KB} (hp : plainFn Tryz.prog gf = true) (hcmp : ∀ x y, Pe x → Pe y → Spec Tryz.prog gf (.agg (E x).toArray :: .agg (E y).toArray :: lb) Kc (fun v K' => ∃ c : Int, v = .int .i64 c ∧ (c < 0 ↔ lt x y = true) ∧ K' = Kc)) (sl : Sl) (d : Array α) (a b : Nat) (hok : sl.Ok (flat E d.toList) 2) (hPe : ∀ x ∈ d, Pe x) (hb : b ≤ d.size) (ha2 : a < 2 ^ 61) (hs2 : d.size < 2 ^ 61) (fv : Value) (hfv : fv = .func (.func gf) #[] lb.toArray) : Spec Tryz.prog 221 [sl.val, .int .i64 (a : Int), .int .i64 (b : Int), fv] (sl.kb (flat E d.toList) 2 232 ++ Kc) (fun v K' => v = .tuple #[] ∧ K' = sl.kb (flat E (insertionSort lt d a b).toList) 2 232 ++ Kc) := by
 subst hfv
 refine spec_body Tryz.func221 rfl rfl fun F R hR => ?_
 refine C_seq ?_
 refine C_region ?_
 refine wm (i := 0) rfl rfl rfl rfl ?_
 refine W_q (i := 1) rfl rfl rfl (q_add rfl rfl (succ64 (by omega))) ?_
 refine wa (i := 2) rfl rfl rfl rfl ?_
 refine W_nil ?_
 refine N_seq ?_
 refine C_block ?_
 refine C_loop (ι := { q : Nat × Array α // a < q.1 ∧ q.2.size = d.size ∧ (∀ x ∈ q.2, Pe x) ∧ insOuter lt a b q.1 q.2 = insertionSort lt d a b }) (fun q => [(0, sl.val), (1, .int .i64 (a : Int)), (2, .int .i64 (b : Int)), (8, .int .i64 (q.1.1 : Int)), (3, .func (.func gf) #[] lb.toArray)]) (fun q => sl.kb (flat E q.1.2.toList) 2 232 ++ (Kc ++ F)) (fun q => b - q.1.1) ⟨(a + 1, d), by simp, rfl, hPe, rfl⟩ aS aQ ?_
 rintro ⟨⟨i, w0⟩, hai, hsz1, hel0, hgo⟩; dsimp only at *; have hsz1 : w0.size = d.size := hsz1
 refine C_seq ?_
 refine C_seq ?_
 refine C_region ?_
 refine wm (i := 0) rfl rfl rfl rfl ?_
 refine wm (i := 1) rfl rfl rfl rfl ?_
 refine W_q (i := 2) rfl rfl rfl (q_int rfl rfl rfl) ?_
 refine W_nil ?_
 refine N_seq ?_
 refine C_cond rfl (fun ht14 => ?_) (fun ht14 => ?_)
 ·
  have hib : i < b := by simpa using ht14
  refine C_skip ?_
  refine N_seq ?_
  refine C_seq ?_
  refine C_block ?_
  refine C_seq ?_
  refine C_region ?_
  refine wm (i := 0) rfl rfl rfl rfl ?_
  refine wa (i := 1) rfl rfl rfl rfl ?_
  refine W_nil ?_
  refine N_seq ?_
  refine C_block ?_
  refine C_loop (ι := { q : Nat × Array α // q.1 ≤ i ∧ q.2.size = d.size ∧ (∀ x ∈ q.2, Pe x) ∧ insInner lt a q.1 q.2 = insInner lt a i w0 }) (fun q => [(0, sl.val), (1, .int .i64 (a : Int)), (2, .int .i64 (b : Int)), (8, .int .i64 (i : Int)), (9, .int .i64 (q.1.1 : Int)), (3, .func (.func gf) #[] lb.toArray)]) (fun q => sl.kb (flat E q.1.2.toList) 2 232 ++ (Kc ++ F)) (fun q => q.1.1) ⟨(i, w0), Nat.le_refl _, by simpa using hsz1, hel0, rfl⟩ aS aQ ?_
  rintro ⟨⟨j, u⟩, hji, hsz2, hel, hin⟩; dsimp only at *
  have hsz2 : u.size = d.size := hsz2
  have hok1 : sl.Ok (flat E u.toList) 2 := hok.of (by rw [flat_len hE, flat_len hE]; simp [*])
  have hlen1 : (flat E u.toList).length = u.size * 2 := by rw [flat_len hE]; simp
  refine C_seq ?_
  refine C_seq ?_
  refine C_draw (.cons 0 .pure (.cons 1 .pure (.cons 2 .pure (.cons 3 .pure (.cons 4 .pure (.cons 5 .pure (.cons 6 .pure (.cons 7 .pure (.cons 8 .read (.cons 9 .pure (.cons 10 .pure (.cons 11 .pure (.cons 12 .pure (.cons 13 .read (.cons 14 .eff (.cons 15 .pure (.cons 16 .pure .nil))))))))))))))))) (fun w => Knows w _) 14 mo (by kernel_rfl) (fun _ h => h) ?_
  refine D_p rfl rfl rfl (q_move rfl) ?_
  refine D_p rfl rfl rfl (q_move rfl) ?_
  refine D_p rfl rfl rfl (q_int rfl rfl rfl) ?_
  refine D_p rfl rfl rfl (q_move rfl) ?_
  refine D_bool 21 _ rfl (fun ht21 => ?_) (fun ht21 => ?_)
  ·
   have hj : a < j := by simpa using ht21
   refine D_p rfl rfl rfl (q_move rfl) ?_
   refine D_p rfl rfl rfl (q_move rfl) ?_
   refine D_p rfl rfl rfl (q_move rfl) ?_
   refine D_p rfl rfl rfl (q_idxSl Tryz.underlying228 sz_232 hok1 rfl rfl (wrapNat _) (by have := hok1.vlen; have hz := hlen1; simp at this hz ⊢; omega) rfl) ?_
   refine D_r rfl rfl rfl (q_loadAggSl (i := j * 2) (us := E u[j]!) ag_232 sz_232 rfl hok1 aC (by simp) (by rw [flat_len hE]; simp; omega) (by have := hok1.vlen; rw [flat_len hE] at this; simp at this; omega) (fl_at hE (by omega))) ?_
   refine D_p rfl rfl rfl (q_move rfl) ?_
   refine D_p rfl rfl rfl (q_move rfl) ?_
   refine D_p rfl rfl rfl (q_sub rfl rfl (pred64 (by omega) (by omega))) ?_
   refine D_p rfl rfl rfl (q_idxSl Tryz.underlying228 sz_232 hok1 rfl rfl (wrapNat _) (by have := hok1.vlen; have hz := hlen1; simp at this hz ⊢; omega) rfl) ?_
   refine D_r rfl rfl rfl (q_loadAggSl (i := (j - 1) * 2) (us := E u[j - 1]!) ag_232 sz_232 rfl hok1 aC (by simp) (by rw [flat_len hE]; simp; omega) (by have := hok1.vlen; rw [flat_len hE] at this; simp at this; omega) (fl_at hE (by omega))) ?_
   refine D_call rfl rfl rfl rfl rfl rfl hp (hcmp u[j]! u[j - 1]! (hel _ (get_mem (by omega))) (hel _ (get_mem (by omega)))) aC (.inl rfl) ?_
   rintro _ _ ⟨c, rfl, hc, rfl⟩
   refine D_p rfl rfl rfl (q_int rfl rfl rfl) ?_
   refine D_p rfl rfl rfl (q_pickT rfl rfl) ?_
   refine D_nil ?_
   refine N_seq ?_
   refine C_cond rfl (fun ht34 => ?_) (fun ht34 => ?_)
   ·
    have hl : lt u[j]! u[j - 1]! = true := hc.1 (by simpa using ht34)
    refine C_skip ?_
    refine N_seq ?_
    refine C_seq ?_
    refine C_block ?_
    refine C_draw (.cons 0 .pure (.cons 1 .pure (.cons 2 .pure (.cons 3 .pure (.cons 4 .pure (.cons 5 .pure (.cons 6 .pure (.cons 7 .pure (.cons 8 .pure (.cons 9 .read (.cons 10 .pure (.cons 11 .pure (.cons 12 .pure (.cons 13 .read (.cons 14 .pure (.cons 15 .eff (.cons 16 .pure (.cons 17 .eff .nil)))))))))))))))))) (fun w => Knows w _) 15 mo (by kernel_rfl) (fun _ h => h) ?_
    refine D_p rfl rfl rfl (q_move rfl) ?_
    refine D_p rfl rfl rfl (q_move rfl) ?_
    refine D_p rfl rfl rfl (q_move rfl) ?_
    refine D_p rfl rfl rfl (q_move rfl) ?_
    refine D_p rfl rfl rfl (q_sub rfl rfl (pred64 (by omega) (by omega))) ?_
    refine D_p rfl rfl rfl (q_move rfl) ?_
    refine D_p rfl rfl rfl (q_move rfl) ?_
    refine D_p rfl rfl rfl (q_sub rfl rfl (pred64 (by omega) (by omega))) ?_
    refine D_p rfl rfl rfl (q_idxSl Tryz.underlying228 sz_232 hok1 rfl rfl (wrapNat _) (by have := hok1.vlen; have hz := hlen1; simp at this hz ⊢; omega) rfl) ?_
    refine D_r rfl rfl rfl (q_loadAggSl (i := (j - 1) * 2) (us := E u[j - 1]!) ag_232 sz_232 rfl hok1 aC (by simp) (by rw [flat_len hE]; simp; omega) (by have := hok1.vlen; rw [flat_len hE] at this; simp at this; omega) (fl_at hE (by omega))) ?_
    refine D_p rfl rfl rfl (q_move rfl) ?_
    refine D_p rfl rfl rfl (q_move rfl) ?_
    refine D_p rfl rfl rfl (q_idxSl Tryz.underlying228 sz_232 hok1 rfl rfl (wrapNat _) (by have := hok1.vlen; have hz := hlen1; simp at this hz ⊢; omega) rfl) ?_
    refine D_r rfl rfl rfl (q_loadAggSl (i := j * 2) (us := E u[j]!) ag_232 sz_232 rfl hok1 aC (by simp) (by rw [flat_len hE]; simp; omega) (by have := hok1.vlen; rw [flat_len hE] at this; simp at this; omega) (fl_at hE (by omega))) ?_
    refine D_p rfl rfl rfl (q_idxSl Tryz.underlying228 sz_232 hok1 rfl rfl (wrapNat _) (by have := hok1.vlen; have hz := hlen1; simp at this hz ⊢; omega) rfl) ?_
    refine D_e rfl rfl rfl (e_storeAggSl (i := j * 2) sz_232 rfl rfl hok1 aC (by simp) (h1E _) (hE _) (by have := hok1.vlen; rw [flat_len hE] at this; simp at this; omega) (by rw [hE, flat_len hE]; have : (j + 1) * 2 ≤ u.size * 2 := Nat.mul_le_mul_right _ (by omega); simp; omega) rfl) (.inl rfl) ?_
    intro _
    have hok1 : sl.Ok (splice (flat E u.toList) (j * 2) (E u[j - 1]!)) 2 := hok1.of (by rw [flat_set hE _ _ _ (by simp; omega), flat_len hE, flat_len hE]; simp)
    have hlen1 : (splice (flat E u.toList) (j * 2) (E u[j - 1]!)).length = u.size * 2 := by rw [flat_set hE _ _ _ (by simp; omega), flat_len hE]; simp
    refine D_p rfl rfl rfl (q_idxSl Tryz.underlying228 sz_232 hok1 rfl rfl (wrapNat _) (by have := hok1.vlen; have hz := hlen1; simp at this hz ⊢; omega) rfl) ?_
    refine D_e rfl rfl rfl (e_storeAggSl (i := (j - 1) * 2) sz_232 rfl rfl hok1 aC (by simp) (h1E _) (hE _) (by have := hok1.vlen; rw [hlen1] at this; omega) (by rw [hE, hlen1]; have : (j - 1 + 1) * 2 ≤ u.size * 2 := Nat.mul_le_mul_right _ (by omega); omega) (fl_swp hE (by omega) (by omega))) (.inl rfl) ?_
    intro _
    refine D_nil ?_
    refine N_seq ?_
    refine C_region ?_
    refine wm (i := 0) rfl rfl rfl rfl ?_
    refine W_q (i := 1) rfl rfl rfl (q_sub rfl rfl (pred64 (by omega) (by omega))) ?_
    refine wa (i := 2) rfl rfl rfl rfl ?_
    refine W_nil ?_
    exact fun a w ha hk => ⟨⟨(j - 1, swp u j (j - 1)), by simp only; omega, by simp [swp_size, *], fun x hx => hel x (mem_swp (by omega) (by omega) hx), by rw [insInner_go hj hl] at hin; exact hin⟩, by simp only; omega, ha.sub aS, hk.perm aQ⟩
   ·
    have hl : lt u[j]! u[j - 1]! = false := by cases h : lt u[j]! u[j - 1]! with | false => rfl | true => have := hc.2 h; simp at ht34; omega
    refine C_exit ?_
    refine N_seq ?_
    have hin : insInner lt a i w0 = u := by rw [← hin]; first | exact insInner_stop (.inl (by omega)) | exact insInner_stop (.inr hl)
    refine C_region ?_
    refine wm (i := 0) rfl rfl rfl rfl ?_
    refine W_q (i := 1) rfl rfl rfl (q_add rfl rfl (succ64 (by omega))) ?_
    refine wa (i := 2) rfl rfl rfl rfl ?_
    refine W_nil ?_
    exact fun a w ha hk => ⟨⟨(i + 1, u), by omega, by simp [*], hel, by rw [insOuter_go hib, hin] at hgo; simpa using hgo⟩, by simp only; omega, ha.sub aS, hk.perm aQ⟩
  ·
   have hj : ¬ a < j := by simpa using ht21
   refine D_pskip rfl rfl rfl ?_
   refine D_pskip rfl rfl rfl ?_
   refine D_pskip rfl rfl rfl ?_
   refine D_pskip rfl rfl rfl ?_
   refine D_rskip rfl rfl rfl ?_
   refine D_pskip rfl rfl rfl ?_
   refine D_pskip rfl rfl rfl ?_
   refine D_pskip rfl rfl rfl ?_
   refine D_pskip rfl rfl rfl ?_
   refine D_rskip rfl rfl rfl ?_
   refine D_eskip rfl rfl rfl (.inl rfl) ?_
   refine D_pskip rfl rfl rfl ?_
   refine D_p rfl rfl rfl (q_pickF rfl rfl) ?_
   refine D_nil ?_
   refine N_seq ?_
   refine C_condF rfl ?_
   refine C_exit ?_
   refine N_seq ?_
   have hin : insInner lt a i w0 = u := by rw [← hin]; first | exact insInner_stop (.inl (by omega)) | exact insInner_stop (.inr hl)
   refine C_region ?_
   refine wm (i := 0) rfl rfl rfl rfl ?_
   refine W_q (i := 1) rfl rfl rfl (q_add rfl rfl (succ64 (by omega))) ?_
   refine wa (i := 2) rfl rfl rfl rfl ?_
   refine W_nil ?_
   exact fun a w ha hk => ⟨⟨(i + 1, u), by omega, by simp [*], hel, by rw [insOuter_go hib, hin] at hgo; simpa using hgo⟩, by simp only; omega, ha.sub aS, hk.perm aQ⟩
 ·
  have hib : ¬ i < b := by simpa using ht14
  rw [insOuter_stop hib] at hgo
  refine C_exit ?_
  intro a w ha hk
  exact R_val (e := .normal) (by simp) ha.defers (res0 rfl) (hR _ _ _ ⟨rfl, rfl⟩ (by rw [← hgo]; exact hk.perm aQ))
theorem s_pdqF_u32 [Bs] {lt : Int → Int → Bool} {Pe : Int → Prop} {gf : FuncId} {lb : List Value} {Kc : KB} (hp : plainFn Tryz.prog gf = true) (hcmp : ∀ x y, Pe x → Pe y → Spec Tryz.prog gf (.int .u32 x :: .int .u32 y :: lb) Kc (fun v K' => ∃ c : Int, v = .int .i64 c ∧ (c < 0 ↔ lt x y = true) ∧ K' = Kc)) (sl : Sl) (d : Array Int) (b : Nat) (l : Int) (hok : sl.Ok (d.toList.map (fun x : Int => Value.int .u32 x)) 1) (hPe : ∀ x ∈ d, Pe x) (hb : b = d.size) (h12 : b ≤ 12) : Spec Tryz.prog 153 [sl.val, .int .i64 0, .int .i64 (b : Int), .int .i64 l, .func (.func gf) #[] lb.toArray] (sl.kb (d.toList.map (fun x : Int => Value.int .u32 x)) 1 31 ++ Kc) (fun v K' => v = .tuple #[] ∧ K' = sl.kb ((insertionSort lt d 0 b).toList.map (fun x : Int => Value.int .u32 x)) 1 31 ++ Kc) := by
  refine spec_body Tryz.func153 rfl rfl fun F R hR => ?_
  refine C_seq ?_
  refine C_region ?_
  refine wa (i := 0) rfl rfl rfl rfl ?_
  refine W_nil ?_
  refine N_seq ?_
  refine C_seq ?_
  refine C_region ?_
  refine wa (i := 0) rfl rfl rfl rfl ?_
  refine W_nil ?_
  refine N_seq ?_
  refine C_block ?_
  refine C_loop (ι := Unit) (fun _ => [(0, sl.val), (1, .int .i64 0), (2, .int .i64 (b : Int)), (3, .int .i64 l), (4, .func (.func gf) #[] lb.toArray)]) (fun _ => sl.kb (d.toList.map (fun x : Int => Value.int .u32 x)) 1 31 ++ (Kc ++ F)) (fun _ => 0) () aS aQ ?_
  rintro ⟨⟩
  refine C_block ?_
  refine C_seq ?_
  refine C_region ?_
  refine wm (i := 0) rfl rfl rfl rfl ?_
  refine wm (i := 1) rfl rfl rfl rfl ?_
  refine W_q (i := 2) rfl rfl rfl (q_sub rfl rfl (r := (b : Int)) (by rw [wrap64_id (by omega) (by omega)]; omega)) ?_
  refine wa (i := 3) rfl rfl rfl rfl ?_
  refine W_nil ?_
  refine N_seq ?_
  refine C_seq ?_
  refine C_seq ?_
  refine C_region ?_
  refine wm (i := 0) rfl rfl rfl rfl ?_
  refine W_q (i := 1) rfl rfl rfl (q_int rfl rfl rfl) ?_
  refine W_nil ?_
  refine N_seq ?_
  refine C_cond rfl (fun ht25 => ?_) (fun ht25 => ?_)
  rotate_left
  · exact absurd ht25 (by simp; omega)
  refine C_seq ?_
  refine C_region ?_
  refine wm (i := 0) rfl rfl rfl rfl ?_
  refine wm (i := 1) rfl rfl rfl rfl ?_
  refine wm (i := 2) rfl rfl rfl rfl ?_
  refine wm (i := 3) rfl rfl rfl rfl ?_
  refine W_call (i := 4) rfl rfl rfl rfl rfl rfl pf_179 (s_insF_u32 hp hcmp sl d 0 b hok hPe (by omega) (by decide) (by omega) _ rfl) (by first | (rw [List.append_assoc]; done) | (rw [List.append_assoc]; exact .refl _)) ?_
  rintro _ _ ⟨rfl, rfl⟩
  refine W_nil ?_
  refine N_seq ?_
  refine C_ret fun a w ha hk => ?_
  exact R_val (e := .ret) (.inl rfl) ha.defers (res0 rfl) (hR _ _ _ ⟨rfl, rfl⟩ (hk.perm aQ))
theorem s_sortF_u32 [Bs] {lt : Int → Int → Bool} {Pe : Int → Prop} {gf : FuncId} {lb : List Value} {Kc : KB} (hp : plainFn Tryz.prog gf = true) (hcmp : ∀ x y, Pe x → Pe y → Spec Tryz.prog gf (.int .u32 x :: .int .u32 y :: lb) Kc (fun v K' => ∃ c : Int, v = .int .i64 c ∧ (c < 0 ↔ lt x y = true) ∧ K' = Kc)) (sl : Sl) (xs : List Int) (hok : sl.Ok (xs.map (fun x : Int => Value.int .u32 x)) 1) (hPe : ∀ x ∈ xs, Pe x) (h12 : xs.length ≤ 12) (hswo : Sort.SWO lt) (htot : Qd.Total lt xs) : Spec Tryz.prog 127 [sl.val, .func (.func gf) #[] lb.toArray] (sl.kb (xs.map (fun x : Int => Value.int .u32 x)) 1 31 ++ Kc) (fun v K' => v = .tuple #[] ∧ K' = sl.kb ((Qd.sortBy lt xs).map (fun x : Int => Value.int .u32 x)) 1 31 ++ Kc) := by
 have hl : sl.len = xs.length := by have := hok.vlen; simpa using this.symm
 have hs : (insertionSort lt xs.toArray 0 sl.len).toList = Qd.sortBy lt xs := by rw [hl]; exact Qd.ins_sorts hswo xs.toArray htot
 refine spec_body Tryz.func127 rfl rfl fun F R hR => ?_
 refine C_seq ?_
 refine C_region ?_
 refine wm (i := 0) rfl rfl rfl rfl ?_
 refine W_q (i := 1) rfl rfl rfl (q_lenSl Tryz.underlying53 rfl rfl) ?_
 refine wa (i := 2) rfl rfl rfl rfl ?_
 refine W_nil ?_
 refine N_seq ?_
 refine C_region ?_
 refine wm (i := 0) rfl rfl rfl rfl ?_
 refine wm (i := 1) rfl rfl rfl rfl ?_
 refine wm (i := 2) rfl rfl rfl rfl ?_
 refine W_q (i := 3) rfl rfl rfl (q_conv Tryz.underlying3 Tryz.underlying215 rfl (r := (sl.len : Int)) (by first | (simp [IntKind.wrap, IntKind.bits, IntKind.signed]; done) | (simp [IntKind.wrap, IntKind.bits, IntKind.signed]; omega))) ?_
 refine W_call (i := 4) rfl rfl rfl rfl rfl rfl pf_138 (s_len sl.len (by omega)) tk_nil ?_
 rintro _ _ ⟨⟨r, rfl⟩, rfl⟩
 refine wm (i := 5) rfl rfl rfl rfl ?_
 refine W_call (i := 6) rfl rfl rfl rfl rfl rfl pf_153 (s_pdqF_u32 hp hcmp sl xs.toArray sl.len r hok (by simpa using hPe) (by simpa using hl) (by omega)) (by simp only [List.nil_append, List.append_assoc]; exact .refl _) ?_
 rintro _ _ ⟨rfl, rfl⟩
 rw [hs]
 refine W_nil ?_
 intro a w ha hk
 exact R_val (e := .normal) (.inr rfl) ha.defers (res0 rfl) (hR _ _ _ ⟨rfl, rfl⟩ (hk.perm aQ))
theorem s_pdqF_item [Bs] {α : Type} [Inhabited α] {E : α → List Value} (hE : ∀ x, (E x).length = 3) (h1E : ∀ x, (E x).all oneC = true) {lt : α → α → Bool} {Pe : α → Prop} {gf : FuncId} {lb : List Value} {Kc : KB} (hp : plainFn Tryz.prog gf = true) (hcmp : ∀ x y, Pe x → Pe y → Spec Tryz.prog gf (.agg (E x).toArray :: .agg (E y).toArray :: lb) Kc (fun v K' => ∃ c : Int, v = .int .i64 c ∧ (c < 0 ↔ lt x y = true) ∧ K' = Kc)) (sl : Sl) (d : Array α) (b : Nat) (l : Int) (hok : sl.Ok (flat E d.toList) 3) (hPe : ∀ x ∈ d, Pe x) (hb : b = d.size) (h12 : b ≤ 12) : Spec Tryz.prog 169 [sl.val, .int .i64 0, .int .i64 (b : Int), .int .i64 l, .func (.func gf) #[] lb.toArray] (sl.kb (flat E d.toList) 3 183 ++ Kc) (fun v K' => v = .tuple #[] ∧ K' = sl.kb (flat E (insertionSort lt d 0 b).toList) 3 183 ++ Kc) := by
  refine spec_body Tryz.func169 rfl rfl fun F R hR => ?_
  refine C_seq ?_
  refine C_region ?_
  refine wa (i := 0) rfl rfl rfl rfl ?_
  refine W_nil ?_
  refine N_seq ?_
  refine C_seq ?_
  refine C_region ?_
  refine wa (i := 0) rfl rfl rfl rfl ?_
  refine W_nil ?_
  refine N_seq ?_
  refine C_block ?_
  refine C_loop (ι := Unit) (fun _ => [(0, sl.val), (1, .int .i64 0), (2, .int .i64 (b : Int)), (3, .int .i64 l), (4, .func (.func gf) #[] lb.toArray)]) (fun _ => sl.kb (flat E d.toList) 3 183 ++ (Kc ++ F)) (fun _ => 0) () aS aQ ?_
  rintro ⟨⟩
  refine C_block ?_
  refine C_seq ?_
  refine C_region ?_
  refine wm (i := 0) rfl rfl rfl rfl ?_
  refine wm (i := 1) rfl rfl rfl rfl ?_
  refine W_q (i := 2) rfl rfl rfl (q_sub rfl rfl (r := (b : Int)) (by rw [wrap64_id (by omega) (by omega)]; omega)) ?_
  refine wa (i := 3) rfl rfl rfl rfl ?_
  refine W_nil ?_
  refine N_seq ?_
  refine C_seq ?_
  refine C_seq ?_
  refine C_region ?_
  refine wm (i := 0) rfl rfl rfl rfl ?_
  refine W_q (i := 1) rfl rfl rfl (q_int rfl rfl rfl) ?_
  refine W_nil ?_
  refine N_seq ?_
  refine C_cond rfl (fun ht25 => ?_) (fun ht25 => ?_)
  rotate_left
  · exact absurd ht25 (by simp; omega)
  refine C_seq ?_
  refine C_region ?_
  refine wm (i := 0) rfl rfl rfl rfl ?_
  refine wm (i := 1) rfl rfl rfl rfl ?_
  refine wm (i := 2) rfl rfl rfl rfl ?_
  refine wm (i := 3) rfl rfl rfl rfl ?_
  refine W_call (i := 4) rfl rfl rfl rfl rfl rfl pf_193 (s_insF_item hE h1E hp hcmp sl d 0 b hok hPe (by omega) (by decide) (by omega) _ rfl) (by first | (rw [List.append_assoc]; done) | (rw [List.append_assoc]; exact .refl _)) ?_
  rintro _ _ ⟨rfl, rfl⟩
  refine W_nil ?_
  refine N_seq ?_
  refine C_ret fun a w ha hk => ?_
  exact R_val (e := .ret) (.inl rfl) ha.defers (res0 rfl) (hR _ _ _ ⟨rfl, rfl⟩ (hk.perm aQ))
theorem s_sortF_item [Bs] {α : Type} [Inhabited α] {E : α → List Value} (hE : ∀ x, (E x).length = 3) (h1E : ∀ x, (E x).all oneC = true) {lt : α → α → Bool} {Pe : α → Prop} {gf : FuncId} {lb : List Value} {Kc : KB} (hp : plainFn Tryz.prog gf = true) (hcmp : ∀ x y, Pe x → Pe y → Spec Tryz.prog gf (.agg (E x).toArray :: .agg (E y).toArray :: lb) Kc (fun v K' => ∃ c : Int, v = .int .i64 c ∧ (c < 0 ↔ lt x y = true) ∧ K' = Kc)) (sl : Sl) (xs : List α) (hok : sl.Ok (flat E xs) 3) (hPe : ∀ x ∈ xs, Pe x) (h12 : xs.length ≤ 12) (hswo : Sort.SWO lt) (htot : Qd.Total lt xs) : Spec Tryz.prog 142 [sl.val, .func (.func gf) #[] lb.toArray] (sl.kb (flat E xs) 3 183 ++ Kc) (fun v K' => v = .tuple #[] ∧ K' = sl.kb (flat E (Qd.sortBy lt xs)) 3 183 ++ Kc) := by
 have hl : sl.len = xs.length := by have := hok.vlen; rw [flat_len hE] at this; omega
 have hs : (insertionSort lt xs.toArray 0 sl.len).toList = Qd.sortBy lt xs := by rw [hl]; exact Qd.ins_sorts hswo xs.toArray htot
 refine spec_body Tryz.func142 rfl rfl fun F R hR => ?_
 refine C_seq ?_
 refine C_region ?_
 refine wm (i := 0) rfl rfl rfl rfl ?_
 refine W_q (i := 1) rfl rfl rfl (q_lenSl Tryz.underlying184 rfl rfl) ?_
 refine wa (i := 2) rfl rfl rfl rfl ?_
 refine W_nil ?_
 refine N_seq ?_
 refine C_region ?_
 refine wm (i := 0) rfl rfl rfl rfl ?_
 refine wm (i := 1) rfl rfl rfl rfl ?_
 refine wm (i := 2) rfl rfl rfl rfl ?_
 refine W_q (i := 3) rfl rfl rfl (q_conv Tryz.underlying3 Tryz.underlying215 rfl (r := (sl.len : Int)) (by first | (simp [IntKind.wrap, IntKind.bits, IntKind.signed]; done) | (simp [IntKind.wrap, IntKind.bits, IntKind.signed]; omega))) ?_
 refine W_call (i := 4) rfl rfl rfl rfl rfl rfl pf_138 (s_len sl.len (by omega)) tk_nil ?_
 rintro _ _ ⟨⟨r, rfl⟩, rfl⟩
 refine wm (i := 5) rfl rfl rfl rfl ?_
 refine W_call (i := 6) rfl rfl rfl rfl rfl rfl pf_169 (s_pdqF_item hE h1E hp hcmp sl xs.toArray sl.len r hok (by simpa using hPe) (by simpa using hl) (by omega)) (by simp only [List.nil_append, List.append_assoc]; exact .refl _) ?_
 rintro _ _ ⟨rfl, rfl⟩
 rw [hs]
 refine W_nil ?_
 intro a w ha hk
 exact R_val (e := .normal) (.inr rfl) ha.defers (res0 rfl) (hR _ _ _ ⟨rfl, rfl⟩ (hk.perm aQ))
theorem s_pdqF_cell [Bs] {α : Type} [Inhabited α] {E : α → List Value} (hE : ∀ x, (E x).length = 2) (h1E : ∀ x, (E x).all oneC = true) {lt : α → α → Bool} {Pe : α → Prop} {gf : FuncId} {lb : List Value} {Kc : KB} (hp : plainFn Tryz.prog gf = true) (hcmp : ∀ x y, Pe x → Pe y → Spec Tryz.prog gf (.agg (E x).toArray :: .agg (E y).toArray :: lb) Kc (fun v K' => ∃ c : Int, v = .int .i64 c ∧ (c < 0 ↔ lt x y = true) ∧ K' = Kc)) (sl : Sl) (d : Array α) (b : Nat) (l : Int) (hok : sl.Ok (flat E d.toList) 2) (hPe : ∀ x ∈ d, Pe x) (hb : b = d.size) (h12 : b ≤ 12) : Spec Tryz.prog 202 [sl.val, .int .i64 0, .int .i64 (b : Int), .int .i64 l, .func (.func gf) #[] lb.toArray] (sl.kb (flat E d.toList) 2 232 ++ Kc) (fun v K' => v = .tuple #[] ∧ K' = sl.kb (flat E (insertionSort lt d 0 b).toList) 2 232 ++ Kc) := by
  refine spec_body Tryz.func202 rfl rfl fun F R hR => ?_
  refine C_seq ?_
  refine C_region ?_
  refine wa (i := 0) rfl rfl rfl rfl ?_
  refine W_nil ?_
  refine N_seq ?_
  refine C_seq ?_
  refine C_region ?_
  refine wa (i := 0) rfl rfl rfl rfl ?_
  refine W_nil ?_
  refine N_seq ?_
  refine C_block ?_
  refine C_loop (ι := Unit) (fun _ => [(0, sl.val), (1, .int .i64 0), (2, .int .i64 (b : Int)), (3, .int .i64 l), (4, .func (.func gf) #[] lb.toArray)]) (fun _ => sl.kb (flat E d.toList) 2 232 ++ (Kc ++ F)) (fun _ => 0) () aS aQ ?_
  rintro ⟨⟩
  refine C_block ?_
  refine C_seq ?_
  refine C_region ?_
  refine wm (i := 0) rfl rfl rfl rfl ?_
  refine wm (i := 1) rfl rfl rfl rfl ?_
  refine W_q (i := 2) rfl rfl rfl (q_sub rfl rfl (r := (b : Int)) (by rw [wrap64_id (by omega) (by omega)]; omega)) ?_
  refine wa (i := 3) rfl rfl rfl rfl ?_
  refine W_nil ?_
  refine N_seq ?_
  refine C_seq ?_
  refine C_seq ?_
  refine C_region ?_
  refine wm (i := 0) rfl rfl rfl rfl ?_
  refine W_q (i := 1) rfl rfl rfl (q_int rfl rfl rfl) ?_
  refine W_nil ?_
  refine N_seq ?_
  refine C_cond rfl (fun ht25 => ?_) (fun ht25 => ?_)
  rotate_left
  · exact absurd ht25 (by simp; omega)
  refine C_seq ?_
  refine C_region ?_
  refine wm (i := 0) rfl rfl rfl rfl ?_
  refine wm (i := 1) rfl rfl rfl rfl ?_
  refine wm (i := 2) rfl rfl rfl rfl ?_
  refine wm (i := 3) rfl rfl rfl rfl ?_
  refine W_call (i := 4) rfl rfl rfl rfl rfl rfl pf_221 (s_insF_cell hE h1E hp hcmp sl d 0 b hok hPe (by omega) (by decide) (by omega) _ rfl) (by first | (rw [List.append_assoc]; done) | (rw [List.append_assoc]; exact .refl _)) ?_
  rintro _ _ ⟨rfl, rfl⟩
  refine W_nil ?_
  refine N_seq ?_
  refine C_ret fun a w ha hk => ?_
  exact R_val (e := .ret) (.inl rfl) ha.defers (res0 rfl) (hR _ _ _ ⟨rfl, rfl⟩ (hk.perm aQ))
theorem s_sortF_cell [Bs] {α : Type} [Inhabited α] {E : α → List Value} (hE : ∀ x, (E x).length = 2) (h1E : ∀ x, (E x).all oneC = true) {lt : α → α → Bool} {Pe : α → Prop} {gf : FuncId} {lb : List Value} {Kc : KB} (hp : plainFn Tryz.prog gf = true) (hcmp : ∀ x y, Pe x → Pe y → Spec Tryz.prog gf (.agg (E x).toArray :: .agg (E y).toArray :: lb) Kc (fun v K' => ∃ c : Int, v = .int .i64 c ∧ (c < 0 ↔ lt x y = true) ∧ K' = Kc)) (sl : Sl) (xs : List α) (hok : sl.Ok (flat E xs) 2) (hPe : ∀ x ∈ xs, Pe x) (h12 : xs.length ≤ 12) (hswo : Sort.SWO lt) (htot : Qd.Total lt xs) : Spec Tryz.prog 173 [sl.val, .func (.func gf) #[] lb.toArray] (sl.kb (flat E xs) 2 232 ++ Kc) (fun v K' => v = .tuple #[] ∧ K' = sl.kb (flat E (Qd.sortBy lt xs)) 2 232 ++ Kc) := by
 have hl : sl.len = xs.length := by have := hok.vlen; rw [flat_len hE] at this; omega
 have hs : (insertionSort lt xs.toArray 0 sl.len).toList = Qd.sortBy lt xs := by rw [hl]; exact Qd.ins_sorts hswo xs.toArray htot
 refine spec_body Tryz.func173 rfl rfl fun F R hR => ?_
 refine C_seq ?_
 refine C_region ?_
 refine wm (i := 0) rfl rfl rfl rfl ?_
 refine W_q (i := 1) rfl rfl rfl (q_lenSl Tryz.underlying228 rfl rfl) ?_
 refine wa (i := 2) rfl rfl rfl rfl ?_
 refine W_nil ?_
 refine N_seq ?_
 refine C_region ?_
 refine wm (i := 0) rfl rfl rfl rfl ?_
 refine wm (i := 1) rfl rfl rfl rfl ?_
 refine wm (i := 2) rfl rfl rfl rfl ?_
 refine W_q (i := 3) rfl rfl rfl (q_conv Tryz.underlying3 Tryz.underlying215 rfl (r := (sl.len : Int)) (by first | (simp [IntKind.wrap, IntKind.bits, IntKind.signed]; done) | (simp [IntKind.wrap, IntKind.bits, IntKind.signed]; omega))) ?_
 refine W_call (i := 4) rfl rfl rfl rfl rfl rfl pf_138 (s_len sl.len (by omega)) tk_nil ?_
 rintro _ _ ⟨⟨r, rfl⟩, rfl⟩
 refine wm (i := 5) rfl rfl rfl rfl ?_
 refine W_call (i := 6) rfl rfl rfl rfl rfl rfl pf_202 (s_pdqF_cell hE h1E hp hcmp sl xs.toArray sl.len r hok (by simpa using hPe) (by simpa using hl) (by omega)) (by simp only [List.nil_append, List.append_assoc]; exact .refl _) ?_
 rintro _ _ ⟨rfl, rfl⟩
 rw [hs]
 refine W_nil ?_
 intro a w ha hk
 exact R_val (e := .normal) (.inr rfl) ha.defers (res0 rfl) (hR _ _ _ ⟨rfl, rfl⟩ (hk.perm aQ))
end Go.SL
namespace Go.SL
open Go Go.Proofs
set_option maxRecDepth 10000
theorem capIn_le (a : Int) : 0 ≤ Qd.capIn a ∧ Qd.capIn a ≤ 1099511627776 := by unfold Qd.capIn Qd.imin Qd.imax Qd.top; omega
theorem pf_125 : plainFn Tryz.prog 125 = true := by kernel_rfl
theorem pf_145 : plainFn Tryz.prog 145 = true := by kernel_rfl
theorem ps_134 : placesB Tryz.prog 134 = some #[] := by kernel_rfl
theorem sz_134 : sizeB Tryz.prog 134 = some 0 := by kernel_rfl
theorem zf_134 : zeroB Tryz.prog 134 = some (Go.Value.agg #[]) := by kernel_rfl
theorem s_in [Bs] (x : Int) : Spec Tryz.prog 125 [.int .i64 x] [] (fun v K' => v = .int .i64 (Qd.capIn x) ∧ K' = []) := by
 refine spec_body Tryz.func125 rfl rfl fun F R hR => ?_
 refine C_seq ?_
 refine C_region ?_
 refine wa (i := 0) rfl rfl rfl rfl ?_
 refine W_nil ?_
 refine N_seq ?_
 refine C_seq ?_
 refine C_region ?_
 refine wm (i := 0) rfl rfl rfl rfl ?_
 refine W_q (i := 1) rfl rfl rfl (q_max2 rfl rfl) ?_
 refine W_q (i := 2) rfl rfl rfl (q_min2 rfl rfl) ?_
 refine wa (i := 3) rfl rfl rfl rfl ?_
 refine W_nil ?_
 refine N_seq ?_
 refine C_ret fun a w ha hk => ?_
 exact R_val (e := .ret) (.inl rfl) ha.defers (res1 ha rfl rfl) (hR _ _ _ ⟨rfl, rfl⟩ (aK hk))
theorem s_capAdd [Bs] (x y : Int) : Spec Tryz.prog 134 [.int .i64 x, .int .i64 y] [] (fun v K' => v = .int .i64 (Qd.capAdd x y) ∧ K' = []) := by
 have hx := capIn_le x
 have hy := capIn_le y
 refine spec_body Tryz.func134 rfl rfl fun F R hR => ?_
 refine C_seq ?_
 refine C_region ?_
 refine wa (i := 0) rfl rfl rfl rfl ?_
 refine W_nil ?_
 refine N_seq ?_
 refine C_seq ?_
 refine C_region ?_
 refine wm (i := 0) rfl rfl rfl rfl ?_
 refine W_call (i := 1) rfl rfl rfl rfl rfl rfl pf_125 (s_in _) tk_nil ?_
 rintro _ _ ⟨rfl, rfl⟩
 refine wm (i := 2) rfl rfl rfl rfl ?_
 refine W_call (i := 3) rfl rfl rfl rfl rfl rfl pf_125 (s_in _) tk_nil ?_
 rintro _ _ ⟨rfl, rfl⟩
 refine W_q (i := 4) rfl rfl rfl (q_add rfl rfl (by first | exact wrap64_id (by omega) (by omega) | rfl)) ?_
 refine W_call (i := 5) rfl rfl rfl rfl rfl rfl pf_125 (s_in _) tk_nil ?_
 rintro _ _ ⟨rfl, rfl⟩
 refine wa (i := 6) rfl rfl rfl rfl ?_
 refine W_nil ?_
 refine N_seq ?_
 refine C_ret fun a w ha hk => ?_
 exact R_val (e := .ret) (.inl rfl) ha.defers (res1 ha rfl rfl) (hR _ _ _ ⟨rfl, rfl⟩ (aK hk))
theorem s_capSub [Bs] (x y : Int) : Spec Tryz.prog 145 [.int .i64 x, .int .i64 y] [] (fun v K' => v = .int .i64 (Qd.capSub x y) ∧ K' = []) := by
 have hx := capIn_le x
 have hy := capIn_le y
 refine spec_body Tryz.func145 rfl rfl fun F R hR => ?_
 refine C_seq ?_
 refine C_region ?_
 refine wa (i := 0) rfl rfl rfl rfl ?_
 refine W_nil ?_
 refine N_seq ?_
 refine C_seq ?_
 refine C_region ?_
 refine wm (i := 0) rfl rfl rfl rfl ?_
 refine W_call (i := 1) rfl rfl rfl rfl rfl rfl pf_125 (s_in _) tk_nil ?_
 rintro _ _ ⟨rfl, rfl⟩
 refine wm (i := 2) rfl rfl rfl rfl ?_
 refine W_call (i := 3) rfl rfl rfl rfl rfl rfl pf_125 (s_in _) tk_nil ?_
 rintro _ _ ⟨rfl, rfl⟩
 refine W_q (i := 4) rfl rfl rfl (q_sub rfl rfl (by first | exact wrap64_id (by omega) (by omega) | rfl)) ?_
 refine W_call (i := 5) rfl rfl rfl rfl rfl rfl pf_125 (s_in _) tk_nil ?_
 rintro _ _ ⟨rfl, rfl⟩
 refine wa (i := 6) rfl rfl rfl rfl ?_
 refine W_nil ?_
 refine N_seq ?_
 refine C_ret fun a w ha hk => ?_
 exact R_val (e := .ret) (.inl rfl) ha.defers (res1 ha rfl rfl) (hR _ _ _ ⟨rfl, rfl⟩ (aK hk))
theorem s_capKeep [Bs] (x y z : Int) : Spec Tryz.prog 133 [.int .i64 x, .int .i64 y, .int .i64 z] [] (fun v K' => v = .int .i64 (Qd.capKeep x y z) ∧ K' = []) := by
 refine spec_body Tryz.func133 rfl rfl fun F R hR => ?_
 refine C_seq ?_
 refine C_region ?_
 refine wa (i := 0) rfl rfl rfl rfl ?_
 refine W_nil ?_
 refine N_seq ?_
 refine C_seq ?_
 refine C_region ?_
 refine wm (i := 0) rfl rfl rfl rfl ?_
 refine W_call (i := 1) rfl rfl rfl rfl rfl rfl pf_125 (s_in _) tk_nil ?_
 rintro _ _ ⟨rfl, rfl⟩
 refine wm (i := 2) rfl rfl rfl rfl ?_
 refine W_call (i := 3) rfl rfl rfl rfl rfl rfl pf_125 (s_in _) tk_nil ?_
 rintro _ _ ⟨rfl, rfl⟩
 refine W_q (i := 4) rfl rfl rfl (q_max2 rfl rfl) ?_
 refine wm (i := 5) rfl rfl rfl rfl ?_
 refine W_call (i := 6) rfl rfl rfl rfl rfl rfl pf_125 (s_in _) tk_nil ?_
 rintro _ _ ⟨rfl, rfl⟩
 refine W_q (i := 7) rfl rfl rfl (q_min2 rfl rfl) ?_
 refine wa (i := 8) rfl rfl rfl rfl ?_
 refine W_nil ?_
 refine N_seq ?_
 refine C_ret fun a w ha hk => ?_
 exact R_val (e := .ret) (.inl rfl) ha.defers (res1 ha rfl rfl) (hR _ _ _ ⟨rfl, rfl⟩ (aK hk))
theorem s_capLeft [Bs] (x y : Int) : Spec Tryz.prog 112 [.int .i64 x, .int .i64 y] [] (fun v K' => v = .int .i64 (Qd.capSub x y) ∧ K' = []) := by
 refine spec_body Tryz.func112 rfl rfl fun F R hR => ?_
 refine C_seq ?_
 refine C_region ?_
 refine wa (i := 0) rfl rfl rfl rfl ?_
 refine W_nil ?_
 refine N_seq ?_
 refine C_seq ?_
 refine C_region ?_
 refine wm (i := 0) rfl rfl rfl rfl ?_
 refine wm (i := 1) rfl rfl rfl rfl ?_
 refine W_call (i := 2) rfl rfl rfl rfl rfl rfl pf_145 (s_capSub _ _) tk_nil ?_
 rintro _ _ ⟨rfl, rfl⟩
 refine wa (i := 3) rfl rfl rfl rfl ?_
 refine W_nil ?_
 refine N_seq ?_
 refine C_ret fun a w ha hk => ?_
 exact R_val (e := .ret) (.inl rfl) ha.defers (res1 ha rfl rfl) (hR _ _ _ ⟨rfl, rfl⟩ (aK hk))
theorem s_has [Bs] (r : Option Nat) (xs : List Int) (x : Int) (K : KB) (hm : MapAt K .i64 r (setM xs)) : Spec Tryz.prog 73 [.map r, .int .i64 x] K (fun v K' => v = .bool (decide (x ∈ xs)) ∧ K' = K) := by
 refine spec_body Tryz.func73 rfl rfl fun F R hR => ?_
 refine C_seq ?_
 refine C_region ?_
 refine wa (i := 0) rfl rfl rfl rfl ?_
 refine W_nil ?_
 refine N_seq ?_
 refine C_seq ?_
 refine C_region ?_
 refine wm (i := 0) rfl rfl rfl rfl ?_
 refine wm (i := 1) rfl rfl rfl rfl ?_
 have hm' : MapAt (K ++ F) .i64 r (setM xs) := hm.app F
 refine W_q (i := 2) rfl rfl rfl (q_lookup2 Tryz.underlying81 Tryz.underlying3 zf_134 rfl rfl hm' (look_set_v _ _) (look_set_b _ _)) ?_
 refine wm (i := 3) rfl rfl rfl rfl ?_
 refine W_q (i := 4) rfl rfl rfl (q_extract rfl rfl) ?_
 refine W_q (i := 5) rfl rfl rfl (q_extract rfl rfl) ?_
 refine W_e (i := 6) rfl rfl rfl (e_alloc zf_134) ?_
 intro b5
 refine W_e (i := 7) rfl rfl rfl (e_storeAgg (us := []) sz_134 rfl rfl rfl rfl aU (by decide)) ?_
 intro _
 refine wa (i := 8) rfl rfl rfl rfl ?_
 refine W_nil ?_
 refine N_seq ?_
 refine C_seq ?_
 refine C_region ?_
 refine wm (i := 0) rfl rfl rfl rfl ?_
 refine wa (i := 1) rfl rfl rfl rfl ?_
 refine W_nil ?_
 refine N_seq ?_
 refine C_ret fun a w ha hk => ?_
 exact R_val (e := .ret) (.inl rfl) ha.defers (res1 ha rfl rfl) (hR _ _ _ ⟨rfl, rfl⟩ (aK hk))
theorem s_add [Bs] (r : Nat) (xs : List Int) (x : Int) : Spec Tryz.prog 38 [.map (some r), .int .i64 x] [(r, SetB xs)] (fun v K' => v = .tuple #[] ∧ K' = [(r, SetB (addS xs x))]) := by
 refine spec_body Tryz.func38 rfl rfl fun F R hR => ?_
 refine C_region ?_
 refine wm (i := 0) rfl rfl rfl rfl ?_
 refine wm (i := 1) rfl rfl rfl rfl ?_
 refine W_q (i := 2) rfl rfl rfl (q_build ps_134 zf_134 rfl rfl) ?_
 refine W_e (i := 3) rfl rfl rfl (e_mapUpdate (m := setM xs) Tryz.underlying81 Tryz.underlying3 rfl rfl rfl (put_set xs x) (by exact Upd.here)) ?_
 intro _
 refine W_nil ?_
 intro a w ha hk
 exact R_val (e := .normal) (.inr rfl) ha.defers (res0 rfl) (hR _ _ _ ⟨rfl, rfl⟩ (aK hk))
end Go.SL
namespace Go.SL
open Go Go.Proofs
set_option maxRecDepth 10000
structure MxA where
  m : Qd.Mx
  blk : Nat
  jb : Nat
  tk : Sl
def standV (s : Qd.Stand) : Value := .agg #[.int .i64 s.row, .int .u16 s.nodes]
def takenV (l : List Nat) : List Value := l.map fun (t : Nat) => .int .u16 (t : Int)
def MxA.cells (x : MxA) : List Value := [.int .i64 x.m.rows, .int .i64 x.m.nodes, .int .u16 x.m.up, .map (some x.jb), x.tk.val]
def MxA.kb (x : MxA) : KB := (x.blk, Cells x.cells 124) :: (x.jb, MapI .u32 (x.m.jobs.map fun p => (p.1, standV p.2))) :: x.tk.kb (takenV x.m.taken) 1 119
def MxA.ptr (x : MxA) : Value := .pointer (some ⟨x.blk, 0, none⟩)
structure MxA.Ok (x : MxA) : Prop where
  m : x.m.Ok
  tk : x.tk.Ok (takenV x.m.taken) 1
theorem MxA.kb_app (x : MxA) (F : KB) : x.kb ++ F = (x.blk, Cells x.cells 124) :: (x.jb, MapI .u32 (x.m.jobs.map fun p => (p.1, standV p.2))) :: (x.tk.kb (takenV x.m.taken) 1 119 ++ F) := rfl
theorem MxA.kb_eq (x : MxA) : x.kb = (x.blk, Cells x.cells 124) :: (x.jb, MapI .u32 (x.m.jobs.map fun p => (p.1, standV p.2))) :: (x.tk.kb (takenV x.m.taken) 1 119) := rfl
theorem MxA.Ok.len {x : MxA} (h : x.Ok) : x.tk.len = x.m.taken.length := by have := h.tk.vlen; simpa [takenV] using this.symm
def putMx (x : MxA) (m : Qd.Mx) : MxA := { x with m }
theorem put_st (m : List (Int × Qd.Stand)) (k : Int) (s : Qd.Stand) : putI (m.map fun p => (p.1, standV p.2)) k (standV s) = (Qd.putA m k s).map fun p => (p.1, standV p.2) := by
  induction m with
  | nil => rfl
  | cons p m ih =>
    obtain ⟨a, u⟩ := p
    simp only [List.map_cons, putI, Qd.putA]
    split
    · rfl
    · simp [ih]
theorem del_st (m : List (Int × Qd.Stand)) (k : Int) : delI (m.map fun p => (p.1, standV p.2)) k = (Qd.delA m k).map fun p => (p.1, standV p.2) := by
  induction m with
  | nil => rfl
  | cons p m ih =>
    obtain ⟨a, u⟩ := p
    simp only [List.map_cons, delI, Qd.delA]
    split
    · rfl
    · simp [ih]
theorem taken_at {l : List Nat} {i : Nat} (h : i < l.length) : (takenV l)[i]? = some (.int .u16 (l.getD i 0 : Int)) := by
  simp [takenV, List.getD, h]
theorem taken_set {l : List Nat} {i t : Nat} : (takenV l).set i (.int .u16 (t : Int)) = takenV (l.set i t) := by
  simp [takenV, List.map_set]
theorem look_st (m : List (Int × Qd.Stand)) (k : Int) : lookI (m.map fun p => (p.1, standV p.2)) k = (Qd.lookA m k).map standV :=
  look_map standV Qd.lookA (fun _ => rfl) (fun _ _ _ _ => rfl) m k
theorem fb_124_0 : fieldB Tryz.prog 124 0 = some 0 := by kernel_rfl
theorem fb_124_1 : fieldB Tryz.prog 124 1 = some 1 := by kernel_rfl
theorem s_mrow [Bs] (x : MxA) (r : Int) : Spec Tryz.prog 126 [x.ptr, .int .i64 r] (x.kb) (fun v K' => v = .bool (x.m.isRow r) ∧ K' = x.kb) := by
 refine spec_body Tryz.func126 rfl rfl fun F R hR => ?_
 refine C_seq ?_
 refine C_region ?_
 refine wa (i := 0) rfl rfl rfl rfl ?_
 refine W_nil ?_
 refine N_seq ?_
 refine C_seq ?_
 refine C_region ?_
 refine wm (i := 0) rfl rfl rfl rfl ?_
 refine W_q (i := 1) rfl rfl rfl (q_nePtrNil Tryz.underlying63 rfl rfl) ?_
 refine wm (i := 2) rfl rfl rfl rfl ?_
 refine wm (i := 3) rfl rfl rfl rfl ?_
 refine W_q (i := 4) rfl rfl rfl (q_int rfl rfl rfl) ?_
 refine W_q (i := 5) rfl rfl rfl (q_pickT rfl rfl) ?_
 refine wm (i := 6) rfl rfl rfl rfl ?_
 refine W_bool 11 _ rfl (fun ht11 => ?_) (fun ht11 => ?_)
 ·
  refine wm (i := 7) rfl rfl rfl rfl ?_
  refine wm (i := 8) rfl rfl rfl rfl ?_
  refine wc (i := 9) rfl rfl rfl rfl ?_
  refine W_q (i := 10) rfl rfl rfl (q_fieldAddr fb_124_0 rfl rfl) ?_
  refine W_q (i := 11) rfl rfl rfl (q_load ag_3 rfl aP rfl) ?_
  refine W_q (i := 12) rfl rfl rfl (q_int rfl rfl rfl) ?_
  refine W_q (i := 13) rfl rfl rfl (q_pickT rfl rfl) ?_
  refine wa (i := 14) rfl rfl rfl rfl ?_
  refine W_nil ?_
  refine N_seq ?_
  refine C_ret fun a w ha hk => ?_
  exact R_val (e := .ret) (.inl rfl) ha.defers (res1 ha rfl rfl) (hR _ _ _ ⟨by simp [Qd.Mx.isRow, *], rfl⟩ (aK hk))
 ·
  refine W_skip (i := 7) rfl rfl rfl ?_
  refine W_skip (i := 8) rfl rfl rfl ?_
  refine W_skip (i := 9) rfl rfl rfl ?_
  refine W_skip (i := 10) rfl rfl rfl ?_
  refine W_skip (i := 11) rfl rfl rfl ?_
  refine W_skip (i := 12) rfl rfl rfl ?_
  refine W_q (i := 13) rfl rfl rfl (q_pickF rfl rfl) ?_
  refine wa (i := 14) rfl rfl rfl rfl ?_
  refine W_nil ?_
  refine N_seq ?_
  refine C_ret fun a w ha hk => ?_
  exact R_val (e := .ret) (.inl rfl) ha.defers (res1 ha rfl rfl) (hR _ _ _ ⟨by simp [Qd.Mx.isRow, *], rfl⟩ (aK hk))
theorem s_mnode [Bs] (x : MxA) (r : Int) : Spec Tryz.prog 69 [x.ptr, .int .i64 r] (x.kb) (fun v K' => v = .bool (x.m.isNode r) ∧ K' = x.kb) := by
 refine spec_body Tryz.func69 rfl rfl fun F R hR => ?_
 refine C_seq ?_
 refine C_region ?_
 refine wa (i := 0) rfl rfl rfl rfl ?_
 refine W_nil ?_
 refine N_seq ?_
 refine C_seq ?_
 refine C_region ?_
 refine wm (i := 0) rfl rfl rfl rfl ?_
 refine W_q (i := 1) rfl rfl rfl (q_nePtrNil Tryz.underlying63 rfl rfl) ?_
 refine wm (i := 2) rfl rfl rfl rfl ?_
 refine wm (i := 3) rfl rfl rfl rfl ?_
 refine W_q (i := 4) rfl rfl rfl (q_int rfl rfl rfl) ?_
 refine W_q (i := 5) rfl rfl rfl (q_pickT rfl rfl) ?_
 refine wm (i := 6) rfl rfl rfl rfl ?_
 refine W_bool 11 _ rfl (fun ht11 => ?_) (fun ht11 => ?_)
 ·
  refine wm (i := 7) rfl rfl rfl rfl ?_
  refine wm (i := 8) rfl rfl rfl rfl ?_
  refine wc (i := 9) rfl rfl rfl rfl ?_
  refine W_q (i := 10) rfl rfl rfl (q_fieldAddr fb_124_1 rfl rfl) ?_
  refine W_q (i := 11) rfl rfl rfl (q_load ag_3 rfl aP rfl) ?_
  refine W_q (i := 12) rfl rfl rfl (q_int rfl rfl rfl) ?_
  refine W_q (i := 13) rfl rfl rfl (q_pickT rfl rfl) ?_
  refine wa (i := 14) rfl rfl rfl rfl ?_
  refine W_nil ?_
  refine N_seq ?_
  refine C_ret fun a w ha hk => ?_
  exact R_val (e := .ret) (.inl rfl) ha.defers (res1 ha rfl rfl) (hR _ _ _ ⟨by simp [Qd.Mx.isNode, *], rfl⟩ (aK hk))
 ·
  refine W_skip (i := 7) rfl rfl rfl ?_
  refine W_skip (i := 8) rfl rfl rfl ?_
  refine W_skip (i := 9) rfl rfl rfl ?_
  refine W_skip (i := 10) rfl rfl rfl ?_
  refine W_skip (i := 11) rfl rfl rfl ?_
  refine W_skip (i := 12) rfl rfl rfl ?_
  refine W_q (i := 13) rfl rfl rfl (q_pickF rfl rfl) ?_
  refine wa (i := 14) rfl rfl rfl rfl ?_
  refine W_nil ?_
  refine N_seq ?_
  refine C_ret fun a w ha hk => ?_
  exact R_val (e := .ret) (.inl rfl) ha.defers (res1 ha rfl rfl) (hR _ _ _ ⟨by simp [Qd.Mx.isNode, *], rfl⟩ (aK hk))
theorem s_mhas [Bs] (s : Nat) (n : Int) (hs : s < 65536) (h0 : 0 ≤ n) (h16 : n ≤ 16) : Spec Tryz.prog 106 [.int .u16 s, .int .i64 n] ([]) (fun v K' => v = .bool (Qd.hasB s n) ∧ K' = []) := by
 refine spec_body Tryz.func106 rfl rfl fun F R hR => ?_
 refine C_seq ?_
 refine C_region ?_
 refine wa (i := 0) rfl rfl rfl rfl ?_
 refine W_nil ?_
 refine N_seq ?_
 refine C_seq ?_
 refine C_region ?_
 refine wm (i := 0) rfl rfl rfl rfl ?_
 refine wm (i := 1) rfl rfl rfl rfl ?_
 refine W_q (i := 2) rfl rfl rfl (q_shr16 rfl rfl h0 h16) ?_
 have hshr : s >>> n.toNat < 65536 := Nat.lt_of_le_of_lt (Nat.shiftRight_le _ _) hs
 refine W_q (i := 3) rfl rfl rfl (q_and16 (q := 1) rfl rfl hshr (by decide)) ?_
 refine W_q (i := 4) rfl rfl rfl (q_int rfl rfl rfl) ?_
 refine wa (i := 5) rfl rfl rfl rfl ?_
 refine W_nil ?_
 refine N_seq ?_
 refine C_ret fun a w ha hk => ?_
 exact R_val (e := .ret) (.inl rfl) ha.defers (res1 ha rfl rfl) (hR _ _ _ ⟨congrArg Value.bool (Qd.hasB_int s n), rfl⟩ (aK hk))
end Go.SL
namespace Go.SL
open Go Go.Proofs
set_option maxRecDepth 10000
theorem lk_st (m : List (Int × Qd.Stand)) (k : Int) : (lookI (m.map fun p => (p.1, standV p.2)) k).getD (.agg #[.int .i64 0, .int .u16 0]) = standV ((Qd.lookA m k).getD ⟨0, 0⟩) := by
  rw [look_st]; cases Qd.lookA m k <;> rfl
theorem lk_sb (m : List (Int × Qd.Stand)) (k : Int) : (lookI (m.map fun p => (p.1, standV p.2)) k).isSome = (Qd.lookA m k).isSome := by
  rw [look_st]; simp
theorem ag_119 : aggB Tryz.prog 119 = some false := by kernel_rfl
theorem ag_121 : aggB Tryz.prog 121 = some true := by kernel_rfl
theorem ag_122 : aggB Tryz.prog 122 = some false := by kernel_rfl
theorem fb_121_0 : fieldB Tryz.prog 121 0 = some 0 := by kernel_rfl
theorem fb_121_1 : fieldB Tryz.prog 121 1 = some 1 := by kernel_rfl
theorem fb_124_3 : fieldB Tryz.prog 124 3 = some 3 := by kernel_rfl
theorem fb_124_4 : fieldB Tryz.prog 124 4 = some 4 := by kernel_rfl
theorem pf_63 : plainFn Tryz.prog 63 = true := by kernel_rfl
theorem sz_119 : sizeB Tryz.prog 119 = some 1 := by kernel_rfl
theorem sz_121 : sizeB Tryz.prog 121 = some 2 := by kernel_rfl
theorem zf_121 : zeroB Tryz.prog 121 = some (Go.Value.agg #[Go.Value.int (Go.IntKind.i64) 0, Go.Value.int (Go.IntKind.u16) 0]) := by kernel_rfl
theorem s_stands [Bs] (x : MxA) (job : Int) : Spec Tryz.prog 63 [x.ptr, .int .u32 job] (x.kb) (fun v K' => v = .bool (Qd.lookA x.m.jobs job).isSome ∧ K' = x.kb) := by
 refine spec_body Tryz.func63 rfl rfl fun F R hR => ?_
 rw [MxA.kb_app]
 generalize hs : (Qd.lookA x.m.jobs job).getD ⟨0, 0⟩ = s
 refine C_seq ?_
 refine C_region ?_
 refine wa (i := 0) rfl rfl rfl rfl ?_
 refine W_nil ?_
 refine N_seq ?_
 refine C_seq ?_
 refine C_region ?_
 refine wm (i := 0) rfl rfl rfl rfl ?_
 refine wc (i := 1) rfl rfl rfl rfl ?_
 refine W_q (i := 2) rfl rfl rfl (q_fieldAddr fb_124_3 rfl rfl) ?_
 refine W_q (i := 3) rfl rfl rfl (q_load ag_117 rfl aP rfl) ?_
 refine wm (i := 4) rfl rfl rfl rfl ?_
 refine W_q (i := 5) rfl rfl rfl (q_lookup2 Tryz.underlying117 Tryz.underlying31 zf_121 rfl rfl (MapAt.of aP) (lk_st _ _) (lk_sb _ _)) ?_
 rw [hs]
 refine wm (i := 6) rfl rfl rfl rfl ?_
 refine W_q (i := 7) rfl rfl rfl (q_extract rfl rfl) ?_
 refine W_q (i := 8) rfl rfl rfl (q_extract rfl rfl) ?_
 refine W_e (i := 9) rfl rfl rfl (e_alloc zf_121) ?_
 intro b5
 refine W_e (i := 10) rfl rfl rfl (e_storeAgg (us := [.int .i64 s.row, .int .u16 s.nodes]) sz_121 rfl rfl rfl rfl (by exact Upd.here) (by simp [Value.cells])) ?_
 intro _
 refine wa (i := 11) rfl rfl rfl rfl ?_
 refine W_nil ?_
 refine N_seq ?_
 refine C_seq ?_
 refine C_region ?_
 refine wm (i := 0) rfl rfl rfl rfl ?_
 refine wa (i := 1) rfl rfl rfl rfl ?_
 refine W_nil ?_
 refine N_seq ?_
 refine C_ret fun a w ha hk => ?_
 exact R_val (e := .ret) (.inl rfl) ha.defers (res1 ha rfl rfl) (hR _ _ _ ⟨rfl, rfl⟩ (hk.take (by (try simp only [MxA.kb_eq]); exact aT)))
theorem s_mput [Bs] (x : MxA) (hx : x.Ok) (job : Int) (s : Qd.Stand) (hr : 0 ≤ s.row ∧ s.row < x.m.rows) (hs : s.nodes < 65536) : Spec Tryz.prog 148 [x.ptr, .int .u32 job, standV s] (x.kb) (fun v K' => v = .tuple #[] ∧ K' = (putMx x (x.m.put job s)).kb) := by
 have hlen := hx.m.tlen
 have htl := Qd.Mx.taken_lt hx.m s.row.toNat
 have hrl : s.row.toNat < x.m.taken.length := by have := hx.m.rows; omega
 refine spec_body Tryz.func148 rfl rfl fun F R hR => ?_
 rw [MxA.kb_app]
 refine C_seq ?_
 refine C_region ?_
 refine W_e (i := 0) rfl rfl rfl (e_box rfl) ?_
 intro b5
 refine W_nil ?_
 refine N_seq ?_
 refine C_seq ?_
 refine C_draw (.cons 0 .pure (.cons 1 .pure (.cons 2 .pure (.cons 3 .read (.cons 4 .pure (.cons 5 .read (.cons 6 .eff .nil))))))) (fun w => Knows w _) 6 mo (by kernel_rfl) (fun _ h => h) ?_
 refine D_p rfl rfl rfl (q_move rfl) ?_
 refine D_p rfl rfl rfl (q_nilCheck rfl) ?_
 refine D_p rfl rfl rfl (q_fieldAddr fb_124_3 rfl rfl) ?_
 refine D_r rfl rfl rfl (q_load ag_117 rfl aP rfl) ?_
 refine D_p rfl rfl rfl (q_move rfl) ?_
 refine D_r rfl rfl rfl (q_loadAgg (us := [.int .i64 s.row, .int .u16 s.nodes]) ag_121 sz_121 rfl aP (by simp [standV, Value.cells]) rfl) ?_
 refine D_e rfl rfl rfl (e_mapUpdate Tryz.underlying117 Tryz.underlying31 rfl rfl (v := standV s) rfl (put_st _ _ _) aU) (.inl rfl) ?_
 intro _
 refine D_nil ?_
 refine N_seq ?_
 refine C_draw (.cons 0 .pure (.cons 1 .pure (.cons 2 .pure (.cons 3 .read (.cons 4 .pure (.cons 5 .read (.cons 6 .pure (.cons 7 .read (.cons 8 .pure (.cons 9 .read (.cons 10 .pure (.cons 11 .pure (.cons 12 .eff .nil))))))))))))) (fun w => Knows w _) 12 mo (by kernel_rfl) (fun _ h => h) ?_
 refine D_p rfl rfl rfl (q_move rfl) ?_
 refine D_p rfl rfl rfl (q_nilCheck rfl) ?_
 refine D_p rfl rfl rfl (q_fieldAddr fb_124_4 rfl rfl) ?_
 refine D_r rfl rfl rfl (q_load ag_122 rfl aP rfl) ?_
 refine D_p rfl rfl rfl (q_fieldAddr fb_121_0 rfl rfl) ?_
 refine D_r rfl rfl rfl (q_load ag_3 rfl aP rfl) ?_
 refine D_p rfl rfl rfl (q_idxSl Tryz.underlying122 sz_119 hx.tk rfl rfl (by omega) (by have := hx.len; omega) rfl) ?_
 refine D_r rfl rfl rfl (q_loadSl (i := (s.row).toNat) (v := .int .u16 ((x.m.taken.getD (s.row).toNat 0 : Nat) : Int)) ag_119 rfl hx.tk aC (by simp) (taken_at (by omega))) ?_
 refine D_p rfl rfl rfl (q_fieldAddr fb_121_1 rfl rfl) ?_
 refine D_r rfl rfl rfl (q_load ag_119 rfl aP rfl) ?_
 refine D_p rfl rfl rfl (q_or16 rfl rfl htl hs) ?_
 refine D_p rfl rfl rfl (q_idxSl Tryz.underlying122 sz_119 hx.tk rfl rfl (by omega) (by have := hx.len; omega) rfl) ?_
 refine D_e rfl rfl rfl (e_storeSl (i := s.row.toNat) sz_119 rfl rfl hx.tk aC (by simp) rfl (by simpa [takenV] using hrl) taken_set) (.inl rfl) ?_
 intro _
 refine D_nil ?_
 intro a w ha hk
 exact R_val (e := .normal) (.inr rfl) ha.defers (res0 rfl) (hR _ _ _ ⟨rfl, rfl⟩ (hk.take (by (try simp only [MxA.kb_eq, putMx]); exact aT)))
theorem s_mremove [Bs] (x : MxA) (hx : x.Ok) (job : Int) : Spec Tryz.prog 94 [x.ptr, .int .u32 job] (x.kb) (fun v K' => v = .int .i64 (if (Qd.lookA x.m.jobs job).isSome then 0 else 6) ∧ K' = (putMx x (x.m.remove job)).kb) := by
 have hlen := hx.m.tlen
 generalize ho : Qd.lookA x.m.jobs job = o
 refine spec_body Tryz.func94 rfl rfl fun F R hR => ?_
 refine C_seq ?_
 refine C_region ?_
 refine wa (i := 0) rfl rfl rfl rfl ?_
 refine W_nil ?_
 refine N_seq ?_
 refine C_seq ?_
 refine C_seq ?_
 refine C_region ?_
 refine wm (i := 0) rfl rfl rfl rfl ?_
 refine W_q (i := 1) rfl rfl rfl (q_eqPtrNil Tryz.underlying63 rfl rfl) ?_
 refine wm (i := 2) rfl rfl rfl rfl ?_
 refine wm (i := 3) rfl rfl rfl rfl ?_
 refine wm (i := 4) rfl rfl rfl rfl ?_
 refine W_call (i := 5) rfl rfl rfl rfl rfl rfl pf_63 (s_stands x job) aC ?_
 rintro _ _ ⟨rfl, rfl⟩
 rw [ho]
 refine W_q (i := 6) rfl rfl rfl (q_not rfl) ?_
 refine W_q (i := 7) rfl rfl rfl (q_pickF rfl rfl) ?_
 refine W_nil ?_
 refine N_seq ?_
 refine C_cond rfl (fun ht13 => ?_) (fun ht13 => ?_)
 ·
  have hn : o = none := by simpa using ht13
  subst hn
  refine C_seq ?_
  refine C_region ?_
  refine wa (i := 0) rfl rfl rfl rfl ?_
  refine W_nil ?_
  refine N_seq ?_
  refine C_ret fun a w ha hk => ?_
  exact R_val (e := .ret) (.inl rfl) ha.defers (res1 ha rfl rfl) (hR _ _ _ ⟨rfl, by rw [Qd.Mx.remove, ho]; rfl⟩ hk)
 ·
  obtain ⟨s, rfl⟩ : ∃ s, o = some s := Option.isSome_iff_exists.1 (by simpa using ht13)
  have hj := hx.m.job _ (Qd.lookA_mem ho)
  dsimp only at hj
  have htl := Qd.Mx.taken_lt hx.m s.row.toNat
  have hrl : s.row.toNat < x.m.taken.length := by have := hx.m.rows; omega
  rw [MxA.kb_app]
  refine C_skip ?_
  refine N_seq ?_
  refine C_seq ?_
  refine C_region ?_
  refine wm (i := 0) rfl rfl rfl rfl ?_
  refine wc (i := 1) rfl rfl rfl rfl ?_
  refine W_q (i := 2) rfl rfl rfl (q_fieldAddr fb_124_3 rfl rfl) ?_
  refine W_q (i := 3) rfl rfl rfl (q_load ag_117 rfl aP rfl) ?_
  refine wm (i := 4) rfl rfl rfl rfl ?_
  refine W_q (i := 5) rfl rfl rfl (q_lookup Tryz.underlying117 Tryz.underlying31 zf_121 rfl rfl (MapAt.of aP) (lk_st _ _)) ?_
  rw [ho]
  dsimp only [Option.getD_some]
  refine W_e (i := 6) rfl rfl rfl (e_alloc zf_121) ?_
  intro b5
  refine W_e (i := 7) rfl rfl rfl (e_storeAgg (us := [.int .i64 s.row, .int .u16 s.nodes]) sz_121 rfl rfl rfl rfl (by exact Upd.here) (by simp [Value.cells])) ?_
  intro _
  refine W_nil ?_
  refine N_seq ?_
  refine C_seq ?_
  refine C_draw (.cons 0 .pure (.cons 1 .pure (.cons 2 .pure (.cons 3 .read (.cons 4 .pure (.cons 5 .read (.cons 6 .pure (.cons 7 .read (.cons 8 .pure (.cons 9 .read (.cons 10 .pure (.cons 11 .pure (.cons 12 .eff .nil))))))))))))) (fun w => Knows w _) 12 mo (by kernel_rfl) (fun _ h => h) ?_
  refine D_p rfl rfl rfl (q_move rfl) ?_
  refine D_p rfl rfl rfl (q_nilCheck rfl) ?_
  refine D_p rfl rfl rfl (q_fieldAddr fb_124_4 rfl rfl) ?_
  refine D_r rfl rfl rfl (q_load ag_122 rfl aP rfl) ?_
  refine D_p rfl rfl rfl (q_fieldAddr fb_121_0 rfl rfl) ?_
  refine D_r rfl rfl rfl (q_load ag_3 rfl aP rfl) ?_
  refine D_p rfl rfl rfl (q_idxSl Tryz.underlying122 sz_119 hx.tk rfl rfl (by omega) (by have := hx.len; omega) rfl) ?_
  refine D_r rfl rfl rfl (q_loadSl (i := (s.row).toNat) (v := .int .u16 ((x.m.taken.getD (s.row).toNat 0 : Nat) : Int)) ag_119 rfl hx.tk aC (by simp) (taken_at (by omega))) ?_
  refine D_p rfl rfl rfl (q_fieldAddr fb_121_1 rfl rfl) ?_
  refine D_r rfl rfl rfl (q_load ag_119 rfl aP rfl) ?_
  refine D_p rfl rfl rfl (q_andNot16 rfl rfl htl hj.2.2.2.2.2) ?_
  refine D_p rfl rfl rfl (q_idxSl Tryz.underlying122 sz_119 hx.tk rfl rfl (by omega) (by have := hx.len; omega) rfl) ?_
  refine D_e rfl rfl rfl (e_storeSl (i := s.row.toNat) sz_119 rfl rfl hx.tk aC (by simp) rfl (by simpa [takenV] using hrl) taken_set) (.inl rfl) ?_
  intro _
  refine D_nil ?_
  refine N_seq ?_
  refine C_seq ?_
  refine C_region ?_
  refine wm (i := 0) rfl rfl rfl rfl ?_
  refine wc (i := 1) rfl rfl rfl rfl ?_
  refine W_q (i := 2) rfl rfl rfl (q_fieldAddr fb_124_3 rfl rfl) ?_
  refine W_q (i := 3) rfl rfl rfl (q_load ag_117 rfl aP rfl) ?_
  refine wm (i := 4) rfl rfl rfl rfl ?_
  refine W_e (i := 5) rfl rfl rfl (e_delete Tryz.underlying117 Tryz.underlying31 rfl rfl rfl (del_st _ _) aU) ?_
  intro _
  refine W_nil ?_
  refine N_seq ?_
  refine C_seq ?_
  refine C_region ?_
  refine wa (i := 0) rfl rfl rfl rfl ?_
  refine W_nil ?_
  refine N_seq ?_
  refine C_ret fun a w ha hk => ?_
  exact R_val (e := .ret) (.inl rfl) ha.defers (res1 ha rfl rfl) (hR _ _ _ ⟨rfl, by rw [Qd.Mx.remove, ho]⟩ (hk.take (by (try simp only [MxA.kb_eq, putMx]); exact aT)))
end Go.SL
namespace Go.SL
open Go Go.Proofs
set_option maxRecDepth 10000
def popTab : ByteArray := ⟨#[0, 1, 1, 2, 1, 2, 2, 3, 1, 2, 2, 3, 2, 3, 3, 4, 1, 2, 2, 3, 2, 3, 3, 4, 2, 3, 3, 4, 3, 4, 4, 5, 1, 2, 2, 3, 2, 3, 3, 4, 2, 3, 3, 4, 3, 4, 4, 5, 2, 3, 3, 4, 3, 4, 4, 5, 3, 4, 4, 5, 4, 5, 5, 6, 1, 2, 2, 3, 2, 3, 3, 4, 2, 3, 3, 4, 3, 4, 4, 5, 2, 3, 3, 4, 3, 4, 4, 5, 3, 4, 4, 5, 4, 5, 5, 6, 2, 3, 3, 4, 3, 4, 4, 5, 3, 4, 4, 5, 4, 5, 5, 6, 3, 4, 4, 5, 4, 5, 5, 6, 4, 5, 5, 6, 5, 6, 6, 7, 1, 2, 2, 3, 2, 3, 3, 4, 2, 3, 3, 4, 3, 4, 4, 5, 2, 3, 3, 4, 3, 4, 4, 5, 3, 4, 4, 5, 4, 5, 5, 6, 2, 3, 3, 4, 3, 4, 4, 5, 3, 4, 4, 5, 4, 5, 5, 6, 3, 4, 4, 5, 4, 5, 5, 6, 4, 5, 5, 6, 5, 6, 6, 7, 2, 3, 3, 4, 3, 4, 4, 5, 3, 4, 4, 5, 4, 5, 5, 6, 3, 4, 4, 5, 4, 5, 5, 6, 4, 5, 5, 6, 5, 6, 6, 7, 3, 4, 4, 5, 4, 5, 5, 6, 4, 5, 5, 6, 5, 6, 6, 7, 4, 5, 5, 6, 5, 6, 6, 7, 5, 6, 6, 7, 6, 7, 7, 8]⟩
theorem fb_124_2 : fieldB Tryz.prog 124 2 = some 2 := by kernel_rfl
theorem pf_106 : plainFn Tryz.prog 106 = true := by kernel_rfl
theorem pf_126 : plainFn Tryz.prog 126 = true := by kernel_rfl
theorem pf_148 : plainFn Tryz.prog 148 = true := by kernel_rfl
theorem pf_69 : plainFn Tryz.prog 69 = true := by kernel_rfl
theorem ps_121 : placesB Tryz.prog 121 = some #[(0, 1), (1, 1)] := by kernel_rfl
theorem s_misup [Bs] (x : MxA) (hx : x.Ok) (r : Int) : Spec Tryz.prog 70 [x.ptr, .int .i64 r] (x.kb) (fun v K' => v = .bool (x.m.isUp r) ∧ K' = x.kb) := by
 refine spec_body Tryz.func70 rfl rfl fun F R hR => ?_
 refine C_seq ?_
 refine C_region ?_
 refine wa (i := 0) rfl rfl rfl rfl ?_
 refine W_nil ?_
 refine N_seq ?_
 refine C_seq ?_
 refine C_region ?_
 refine wm (i := 0) rfl rfl rfl rfl ?_
 refine wm (i := 1) rfl rfl rfl rfl ?_
 refine W_call (i := 2) rfl rfl rfl rfl rfl rfl pf_69 (s_mnode x _) aC ?_
 rintro _ _ ⟨rfl, rfl⟩
 refine wm (i := 3) rfl rfl rfl rfl ?_
 refine W_bool 8 _ rfl (fun ht8 => ?_) (fun ht8 => ?_)
 ·
  have hn := Qd.Mx.isNode_lt hx.m ht8
  have hu := hx.m.up
  rw [MxA.kb_app]
  refine wm (i := 4) rfl rfl rfl rfl ?_
  refine wc (i := 5) rfl rfl rfl rfl ?_
  refine W_q (i := 6) rfl rfl rfl (q_fieldAddr fb_124_2 rfl rfl) ?_
  refine W_q (i := 7) rfl rfl rfl (q_load ag_119 rfl aP rfl) ?_
  refine wm (i := 8) rfl rfl rfl rfl ?_
  refine W_call (i := 9) rfl rfl rfl rfl rfl rfl pf_106 (s_mhas _ _ hu (by omega) (by omega)) tk_nil ?_
  rintro _ _ ⟨rfl, rfl⟩
  refine W_q (i := 10) rfl rfl rfl (q_pickT rfl rfl) ?_
  refine wa (i := 11) rfl rfl rfl rfl ?_
  refine W_nil ?_
  refine N_seq ?_
  refine C_ret fun a w ha hk => ?_
  exact R_val (e := .ret) (.inl rfl) ha.defers (res1 ha rfl rfl) (hR _ _ _ ⟨by rw [Qd.Mx.isUp, ht8]; rfl, rfl⟩ (hk.take (by (try simp only [MxA.kb_eq]); exact aT)))
 ·
  refine W_skip (i := 4) rfl rfl rfl ?_
  refine W_skip (i := 5) rfl rfl rfl ?_
  refine W_skip (i := 6) rfl rfl rfl ?_
  refine W_skip (i := 7) rfl rfl rfl ?_
  refine W_skip (i := 8) rfl rfl rfl ?_
  refine W_skip (i := 9) rfl rfl rfl ?_
  refine W_q (i := 10) rfl rfl rfl (q_pickF rfl rfl) ?_
  refine wa (i := 11) rfl rfl rfl rfl ?_
  refine W_nil ?_
  refine N_seq ?_
  refine C_ret fun a w ha hk => ?_
  exact R_val (e := .ret) (.inl rfl) ha.defers (res1 ha rfl rfl) (hR _ _ _ ⟨by rw [Qd.Mx.isUp, ht8]; rfl, rfl⟩ (hk.take (by (try simp only [MxA.kb_eq]); exact aT)))
theorem s_mup [Bs] (x : MxA) (hx : x.Ok) (n : Int) (up : Bool) : Spec Tryz.prog 36 [x.ptr, .int .i64 n, .bool up] (x.kb) (fun v K' => v = .int .i64 (if x.m.isNode n then 0 else 1) ∧ K' = (if x.m.isNode n then putMx x (x.m.setUp n up) else x).kb) := by
 refine spec_body Tryz.func36 rfl rfl fun F R hR => ?_
 refine C_seq ?_
 refine C_region ?_
 refine wa (i := 0) rfl rfl rfl rfl ?_
 refine W_nil ?_
 refine N_seq ?_
 refine C_seq ?_
 refine C_block ?_
 refine C_seq ?_
 refine C_region ?_
 refine wm (i := 0) rfl rfl rfl rfl ?_
 refine W_q (i := 1) rfl rfl rfl (q_eqPtrNil Tryz.underlying63 rfl rfl) ?_
 refine wa (i := 2) rfl rfl rfl rfl ?_
 refine W_nil ?_
 refine N_seq ?_
 refine C_condF rfl ?_
 refine C_seq ?_
 refine C_region ?_
 refine wm (i := 0) rfl rfl rfl rfl ?_
 refine wm (i := 1) rfl rfl rfl rfl ?_
 refine W_call (i := 2) rfl rfl rfl rfl rfl rfl pf_69 (s_mnode x _) aC ?_
 rintro _ _ ⟨rfl, rfl⟩
 refine W_q (i := 3) rfl rfl rfl (q_not rfl) ?_
 refine wa (i := 4) rfl rfl rfl rfl ?_
 refine W_nil ?_
 refine N_seq ?_
 refine C_cond rfl (fun ht19 => ?_) (fun ht19 => ?_)
 ·
  have hnn : x.m.isNode n = false := by simpa using ht19
  refine C_seq ?_
  refine C_region ?_
  refine wa (i := 0) rfl rfl rfl rfl ?_
  refine W_nil ?_
  refine N_seq ?_
  refine C_ret fun a w ha hk => ?_
  exact R_val (e := .ret) (.inl rfl) ha.defers (res1 ha rfl rfl) (hR _ _ _ ⟨by simp [hnn], by rw [hnn]; try rfl⟩ hk)
 ·
  have hnn : x.m.isNode n = true := by simpa using ht19
  have hn := Qd.Mx.isNode_lt hx.m hnn
  have hu := hx.m.up
  have hb := Qd.bit_lt hn.2.2
  rw [MxA.kb_app]
  refine C_seq ?_
  refine C_region ?_
  refine wm (i := 0) rfl rfl rfl rfl ?_
  refine wa (i := 1) rfl rfl rfl rfl ?_
  refine W_nil ?_
  refine N_seq ?_
  refine C_cond rfl (fun ht24 => ?_) (fun ht24 => ?_)
  ·
   have hup : up = true := ht24
   subst hup
   refine C_draw (.cons 0 .pure (.cons 1 .pure (.cons 2 .pure (.cons 3 .read (.cons 4 .pure (.cons 5 .pure (.cons 6 .pure (.cons 7 .pure (.cons 8 .pure (.cons 9 .eff .nil)))))))))) (fun w => Knows w _) 9 mo (by kernel_rfl) (fun _ h => h) ?_
   refine D_p rfl rfl rfl (q_move rfl) ?_
   refine D_p rfl rfl rfl (q_nilCheck rfl) ?_
   refine D_p rfl rfl rfl (q_fieldAddr fb_124_2 rfl rfl) ?_
   refine D_r rfl rfl rfl (q_load ag_119 rfl aP rfl) ?_
   refine D_p rfl rfl rfl (q_move rfl) ?_
   refine D_p rfl rfl rfl (q_shl16 rfl rfl hn.1 hn.2.2) ?_
   refine D_p rfl rfl rfl (q_or16 rfl rfl hu hb) ?_
   refine D_p rfl rfl rfl (q_nilCheck rfl) ?_
   refine D_p rfl rfl rfl (q_fieldAddr fb_124_2 rfl rfl) ?_
   refine D_e rfl rfl rfl (e_store sz_119 rfl rfl rfl aU (by simp [MxA.cells])) (.inl rfl) ?_
   intro _
   refine D_nil ?_
   refine N_seq ?_
   refine C_seq ?_
   refine C_region ?_
   refine wa (i := 0) rfl rfl rfl rfl ?_
   refine W_nil ?_
   refine N_seq ?_
   refine C_ret fun a w ha hk => ?_
   exact R_val (e := .ret) (.inl rfl) ha.defers (res1 ha rfl rfl) (hR _ _ _ ⟨by simp [hnn], by rw [hnn]; try rfl⟩ hk)
  ·
   have hup : up = false := ht24
   subst hup
   refine C_draw (.cons 0 .pure (.cons 1 .pure (.cons 2 .pure (.cons 3 .read (.cons 4 .pure (.cons 5 .pure (.cons 6 .pure (.cons 7 .pure (.cons 8 .pure (.cons 9 .eff .nil)))))))))) (fun w => Knows w _) 9 mo (by kernel_rfl) (fun _ h => h) ?_
   refine D_p rfl rfl rfl (q_move rfl) ?_
   refine D_p rfl rfl rfl (q_nilCheck rfl) ?_
   refine D_p rfl rfl rfl (q_fieldAddr fb_124_2 rfl rfl) ?_
   refine D_r rfl rfl rfl (q_load ag_119 rfl aP rfl) ?_
   refine D_p rfl rfl rfl (q_move rfl) ?_
   refine D_p rfl rfl rfl (q_shl16 rfl rfl hn.1 hn.2.2) ?_
   refine D_p rfl rfl rfl (q_andNot16 rfl rfl hu hb) ?_
   refine D_p rfl rfl rfl (q_nilCheck rfl) ?_
   refine D_p rfl rfl rfl (q_fieldAddr fb_124_2 rfl rfl) ?_
   refine D_e rfl rfl rfl (e_store sz_119 rfl rfl rfl aU (by simp [MxA.cells])) (.inl rfl) ?_
   intro _
   refine D_nil ?_
   refine N_seq ?_
   refine C_seq ?_
   refine C_region ?_
   refine wa (i := 0) rfl rfl rfl rfl ?_
   refine W_nil ?_
   refine N_seq ?_
   refine C_ret fun a w ha hk => ?_
   exact R_val (e := .ret) (.inl rfl) ha.defers (res1 ha rfl rfl) (hR _ _ _ ⟨by simp [hnn], by rw [hnn]; try rfl⟩ hk)
theorem s_msize [Bs] (x : MxA) : Spec Tryz.prog 119 [x.ptr] (x.kb) (fun v K' => v = .tuple #[.int .i64 x.m.rows, .int .i64 x.m.nodes] ∧ K' = x.kb) := by
 refine spec_body Tryz.func119 rfl rfl fun F R hR => ?_
 refine C_seq ?_
 refine C_region ?_
 refine wa (i := 0) rfl rfl rfl rfl ?_
 refine wa (i := 1) rfl rfl rfl rfl ?_
 refine W_nil ?_
 refine N_seq ?_
 refine C_seq ?_
 refine C_seq ?_
 refine C_region ?_
 refine wm (i := 0) rfl rfl rfl rfl ?_
 refine W_q (i := 1) rfl rfl rfl (q_eqPtrNil Tryz.underlying63 rfl rfl) ?_
 refine W_nil ?_
 refine N_seq ?_
 refine C_condF rfl ?_
 refine C_skip ?_
 refine N_seq ?_
 refine C_seq ?_
 refine C_draw (.cons 0 .pure (.cons 1 .pure (.cons 2 .pure (.cons 3 .read (.cons 4 .pure (.cons 5 .pure (.cons 6 .pure (.cons 7 .read (.cons 8 .pure (.cons 9 .pure .nil)))))))))) (fun w => Knows w _) 10 mo (by kernel_rfl) (fun _ h => h) ?_
 refine D_p rfl rfl rfl (q_move rfl) ?_
 refine D_p rfl rfl rfl (q_nilCheck rfl) ?_
 refine D_p rfl rfl rfl (q_fieldAddr fb_124_0 rfl rfl) ?_
 refine D_r rfl rfl rfl (q_load ag_3 rfl aP rfl) ?_
 refine D_p rfl rfl rfl (q_move rfl) ?_
 refine D_p rfl rfl rfl (q_nilCheck rfl) ?_
 refine D_p rfl rfl rfl (q_fieldAddr fb_124_1 rfl rfl) ?_
 refine D_r rfl rfl rfl (q_load ag_3 rfl aP rfl) ?_
 refine D_p rfl rfl rfl (q_assign rfl) ?_
 refine D_p rfl rfl rfl (q_assign rfl) ?_
 refine D_nil ?_
 refine N_seq ?_
 refine C_ret fun a w ha hk => ?_
 exact R_val (e := .ret) (.inl rfl) ha.defers (res2 ha rfl rfl rfl) (hR _ _ _ ⟨rfl, rfl⟩ (aK hk))
theorem encI_at {ns : List Int} {i : Nat} (h : i < ns.length) : (encI ns)[i]? = some (.int .i64 ns[i]) := by simp [encI, h]
theorem find_range {α : Type} {f : Nat → α} {p : α → Bool} {n i : Nat} (h : ∀ j, j < i → p (f j) = false) (hi : i < n) (hp : p (f i) = true) : ((List.range n).map f).find? p = some (f i) := by
  rw [List.find?_eq_some_iff_append]
  refine ⟨hp, (List.range i).map f, (List.range' (i + 1) (n - i - 1)).map f, ?_, ?_⟩
  · have : List.range n = List.range i ++ i :: List.range' (i + 1) (n - i - 1) := by
      rw [List.range_eq_range', List.range_eq_range', ← List.range'_succ, show n - i - 1 + 1 = n - i from by omega]
      have := List.range'_append (s := 0) (m := i) (n := n - i) (step := 1)
      simp at this
      rw [this]; congr 1; omega
    rw [this]; simp
  · intro x hx
    simp at hx
    obtain ⟨j, hj, rfl⟩ := hx
    simp [h j hj]
theorem find_none {α : Type} {f : Nat → α} {p : α → Bool} {n : Nat} (h : ∀ j, j < n → p (f j) = false) : ((List.range n).map f).find? p = none := by
  rw [List.find?_eq_none]
  intro x hx
  simp at hx
  obtain ⟨j, hj, rfl⟩ := hx
  simp [h j hj]
theorem maskOf_snoc (l : List Int) (n : Int) : Qd.maskOf (l ++ [n]) = Qd.maskOf l ||| Qd.bit n := by simp [Qd.maskOf]
theorem maskOf_lt {m : Qd.Mx} (hm : m.Ok) {l : List Int} (h : ∀ n ∈ l, m.isNode n = true) : Qd.maskOf l < 65536 := by
  have : ∀ (l : List Int) (s : Nat), s < 65536 → (∀ n ∈ l, m.isNode n = true) → l.foldl (fun s n => s ||| Qd.bit n) s < 65536 := by
    intro l
    induction l with
    | nil => intro s hs _; exact hs
    | cons n l ih =>
      intro s hs h
      exact ih _ (Qd.or_lt16 hs (Qd.bit_lt (Qd.Mx.isNode_lt hm (h n (by simp))).2.2)) fun k hk => h k (by simp [hk])
  exact this l 0 (by decide) h
theorem rising_of {l : List Int} (h : l.Pairwise (· < ·)) : Qd.rising l = true := by
  induction l with
  | nil => rfl
  | cons a l ih =>
    cases l with
    | nil => rfl
    | cons b l =>
      rw [List.pairwise_cons] at h
      simp only [Qd.rising, Bool.and_eq_true, decide_eq_true_eq]
      exact ⟨h.1 b (by simp), ih h.2⟩
structure GoodPut (m : Qd.Mx) (job row : Int) (ns : List Int) : Prop where
  job : job ≠ 0
  row : m.isRow row = true
  ne : ns ≠ []
  all : ∀ n ∈ ns, m.isNode n = true
  inc : ns.Pairwise (· < ·)
theorem GoodPut.try {m : Qd.Mx} {job row : Int} {ns : List Int} (h : GoodPut m job row ns) : m.tryPut job row ns =
    if (Qd.lookA m.jobs job).isSome then (7, m) else if (m.taken.getD row.toNat 0) &&& Qd.maskOf ns ≠ 0 then (15, m) else (0, m.put job ⟨row, Qd.maskOf ns⟩) := by
  rw [Qd.Mx.tryPut, if_neg]
  simp [h.job, h.row, h.ne, rising_of h.inc]
  exact h.all
theorem s_mtryput [Bs] (x : MxA) (hx : x.Ok) (job row : Int) (ns : List Int) (sl : Sl) (hok : sl.Ok (encI ns) 1) (hg : GoodPut x.m job row ns) (h16 : ns.length ≤ 16) : Spec Tryz.prog 116 [x.ptr, .int .u32 job, .int .i64 row, sl.val] (x.kb ++ sl.kb (encI ns) 1 3) (fun v K' => v = .int .i64 (x.m.tryPut job row ns).1 ∧ K' = (putMx x (x.m.tryPut job row ns).2).kb ++ sl.kb (encI ns) 1 3) := by
  have hsl : sl.len = ns.length := by have := hok.vlen; simpa [encI] using this.symm
  have hnz : 0 < ns.length := List.length_pos_iff.2 hg.ne
  have hrl := Qd.Mx.isRow_lt hx.m hg.row
  have htl := Qd.Mx.taken_lt hx.m row.toNat
  have hml := maskOf_lt hx.m hg.all
  have hjz : (job != 0) = true := by simp [hg.job]
  have htry := hg.try
  refine spec_body Tryz.func116 rfl rfl fun F R hR => ?_
  rw [List.append_assoc]
  refine C_seq ?_
  refine C_region ?_
  refine wa (i := 0) rfl rfl rfl rfl ?_
  refine W_nil ?_
  refine N_seq ?_
  refine C_seq ?_
  refine C_seq ?_
  refine C_region ?_
  refine wm (i := 0) rfl rfl rfl rfl ?_
  refine W_q (i := 1) rfl rfl rfl (q_eqPtrNil Tryz.underlying63 rfl rfl) ?_
  refine W_nil ?_
  refine N_seq ?_
  refine C_condF rfl ?_
  refine C_skip ?_
  refine N_seq ?_
  refine C_seq ?_
  refine C_region ?_
  refine wm (i := 0) rfl rfl rfl rfl ?_
  refine W_q (i := 1) rfl rfl rfl (q_build (vs := [(0, .int .i64 row)]) (cs := #[.int .i64 row, .int .u16 0]) ps_121 zf_121 rfl rfl) ?_
  refine wm (i := 2) rfl rfl rfl rfl ?_
  refine W_q (i := 3) rfl rfl rfl (q_int rfl rfl rfl) ?_
  rw [hjz]
  refine wm (i := 4) rfl rfl rfl rfl ?_
  refine wm (i := 5) rfl rfl rfl rfl ?_
  refine wm (i := 6) rfl rfl rfl rfl ?_
  refine W_call (i := 7) rfl rfl rfl rfl rfl rfl pf_126 (s_mrow x row) aC ?_
  rintro _ _ ⟨rfl, rfl⟩
  rw [hg.row]
  refine W_q (i := 8) rfl rfl rfl (q_pickT rfl rfl) ?_
  refine wm (i := 9) rfl rfl rfl rfl ?_
  refine wm (i := 10) rfl rfl rfl rfl ?_
  refine W_q (i := 11) rfl rfl rfl (q_lenSl Tryz.underlying66 rfl rfl) ?_
  refine W_q (i := 12) rfl rfl rfl (q_int rfl rfl rfl) ?_
  rw [show decide ((0:Int) < (sl.len : Int)) = true from by simp; omega]
  refine W_q (i := 13) rfl rfl rfl (q_pickT rfl rfl) ?_
  refine W_e (i := 14) rfl rfl rfl (e_alloc zf_121) ?_
  intro b9
  refine W_e (i := 15) rfl rfl rfl (e_storeAgg (us := [.int .i64 row, .int .u16 ((0 : Nat) : Int)]) sz_121 rfl rfl rfl rfl (by exact Upd.here) (by simp [Value.cells])) ?_
  intro _
  refine wa (i := 16) rfl rfl rfl rfl ?_
  refine W_nil ?_
  refine N_seq ?_
  refine C_seq ?_
  refine C_seq ?_
  refine C_region ?_
  refine wm (i := 0) rfl rfl rfl rfl ?_
  refine W_q (i := 1) rfl rfl rfl (q_lenSl Tryz.underlying66 rfl rfl) ?_
  refine wm (i := 2) rfl rfl rfl rfl ?_
  refine W_nil ?_
  refine N_seq ?_
  refine C_block ?_
  refine C_loop (ι := { i : Nat // i ≤ ns.length }) (fun i => [(0, x.ptr), (1, .int .u32 job), (2, .int .i64 row), (3, sl.val), (9, .pointer (some ⟨b9, 0, none⟩)), (10, .bool true), (29, sl.val), (30, .int .i64 (sl.len : Int)), (31, .int .i64 (i.1 : Int))]) (fun i => (b9, Cells [.int .i64 row, .int .u16 ((Qd.maskOf (ns.take i.1) : Nat) : Int)] 121) :: (x.kb ++ (sl.kb (encI ns) 1 3 ++ F))) (fun i => ns.length - i.1) ⟨0, Nat.zero_le _⟩ aS (.refl _) ?_
  rintro ⟨i, hi⟩
  dsimp only
  refine C_seq ?_
  refine C_region ?_
  refine W_q (i := 0) rfl rfl rfl (q_int rfl rfl rfl) ?_
  refine W_nil ?_
  refine N_seq ?_
  refine C_seq ?_
  refine C_cond rfl (fun ht32 => ?_) (fun ht32 => ?_)
  ·
    have hin : i < ns.length := by simp at ht32; omega
    have hni := Qd.Mx.isNode_lt hx.m (hg.all _ (List.getElem_mem hin))
    have hmi : Qd.maskOf (ns.take (i + 1)) = Qd.maskOf (ns.take i) ||| Qd.bit ns[i] := by rw [List.take_succ_eq_append_getElem hin, maskOf_snoc]
    have hm0 : Qd.maskOf (ns.take i) < 65536 := maskOf_lt hx.m fun n hn => hg.all n (List.mem_of_mem_take hn)
    refine C_skip ?_
    refine N_seq ?_
    refine C_seq ?_
    refine C_block ?_
    refine C_seq ?_
    refine C_region ?_
    refine wm (i := 0) rfl rfl rfl rfl ?_
    refine W_q (i := 1) rfl rfl rfl (q_idxSl Tryz.underlying66 sz_3 hok rfl rfl (Int.natCast_nonneg _) (by omega) rfl) ?_
    refine W_q (i := 2) rfl rfl rfl (q_loadSl (i := i) (v := .int .i64 ns[i]) ag_3 rfl hok aC (by simp) (encI_at hin)) ?_
    refine wa (i := 3) rfl rfl rfl rfl ?_
    refine wa (i := 4) rfl rfl rfl rfl ?_
    refine W_nil ?_
    refine N_seq ?_
    refine C_seq ?_
    refine C_region ?_
    refine wm (i := 0) rfl rfl rfl rfl ?_
    refine wm (i := 1) rfl rfl rfl rfl ?_
    refine wm (i := 2) rfl rfl rfl rfl ?_
    refine wm (i := 3) rfl rfl rfl rfl ?_
    refine W_call (i := 4) rfl rfl rfl rfl rfl rfl pf_69 (s_mnode x ns[i]) aC ?_
    rintro _ _ ⟨rfl, rfl⟩
    rw [hg.all _ (List.getElem_mem hin)]
    refine W_q (i := 5) rfl rfl rfl (q_pickT rfl rfl) ?_
    refine wm (i := 6) rfl rfl rfl rfl ?_
    refine wm (i := 7) rfl rfl rfl rfl ?_
    refine W_q (i := 8) rfl rfl rfl (q_int rfl rfl rfl) ?_
    refine wm (i := 9) rfl rfl rfl rfl ?_
    refine W_bool 45 _ rfl (fun ht45 => ?_) (fun ht45 => ?_)
    ·
      have hiz : i = 0 := by simpa using ht45
      refine W_skip (i := 10) rfl rfl rfl ?_
      refine W_skip (i := 11) rfl rfl rfl ?_
      refine W_skip (i := 12) rfl rfl rfl ?_
      refine W_skip (i := 13) rfl rfl rfl ?_
      refine W_skip (i := 14) rfl rfl rfl ?_
      refine W_skip (i := 15) rfl rfl rfl ?_
      refine W_skip (i := 16) rfl rfl rfl ?_
      refine W_q (i := 17) rfl rfl rfl (q_pickT rfl rfl) ?_
      refine W_q (i := 18) rfl rfl rfl (q_pickT rfl rfl) ?_
      refine wa (i := 19) rfl rfl rfl rfl ?_
      refine W_nil ?_
      refine N_seq ?_
      refine C_seq ?_
      refine C_region ?_
      refine wm (i := 0) rfl rfl rfl rfl ?_
      refine W_nil ?_
      refine N_seq ?_
      refine C_condT rfl ?_
      refine C_draw (.cons 0 .pure (.cons 1 .read (.cons 2 .pure (.cons 3 .pure (.cons 4 .pure (.cons 5 .pure (.cons 6 .eff .nil))))))) (fun w => Knows w _) 6 mo (by kernel_rfl) (fun _ h => h) ?_
      refine D_p rfl rfl rfl (q_fieldAddr fb_121_1 rfl rfl) ?_
      refine D_r rfl rfl rfl (q_load ag_119 rfl aP rfl) ?_
      refine D_p rfl rfl rfl (q_move rfl) ?_
      refine D_p rfl rfl rfl (q_shl16 rfl rfl hni.1 hni.2.2) ?_
      refine D_p rfl rfl rfl (q_or16 rfl rfl hm0 (Qd.bit_lt hni.2.2)) ?_
      refine D_p rfl rfl rfl (q_fieldAddr fb_121_1 rfl rfl) ?_
      refine D_e rfl rfl rfl (e_store sz_119 rfl rfl rfl aU (by first | decide | exact Nat.le_of_ble_eq_true rfl | simp [splice, Value.cells])) (.inl rfl) ?_
      intro _
      refine D_nil ?_
      refine N_seq ?_
      refine C_region ?_
      refine W_q (i := 0) rfl rfl rfl (q_add rfl rfl (succ64 (by omega))) ?_
      refine wm (i := 1) rfl rfl rfl rfl ?_
      refine W_nil ?_
      exact fun a w ha hk => ⟨⟨i + 1, by omega⟩, by simp only; omega, ha.sub aS, by dsimp only; rw [hmi]; exact hk.take (by (try simp only [MxA.kb_eq]); exact aT)⟩
    ·
      have hiz : i ≠ 0 := by simpa using ht45
      have hlt : ns[i - 1] < ns[i] := List.pairwise_iff_getElem.1 hg.inc (i - 1) i (by omega) hin (by omega)
      refine wm (i := 10) rfl rfl rfl rfl ?_
      refine wm (i := 11) rfl rfl rfl rfl ?_
      refine wm (i := 12) rfl rfl rfl rfl ?_
      refine W_q (i := 13) rfl rfl rfl (q_sub rfl rfl (pred64 (by omega) (by omega))) ?_
      refine W_q (i := 14) rfl rfl rfl (q_idxSl Tryz.underlying66 sz_3 hok rfl rfl (Int.natCast_nonneg _) (by omega) rfl) ?_
      refine W_q (i := 15) rfl rfl rfl (q_loadSl (i := i - 1) (v := .int .i64 ns[i - 1]) ag_3 rfl hok aC (by simp) (encI_at (by omega))) ?_
      refine W_q (i := 16) rfl rfl rfl (q_int rfl rfl rfl) ?_
      rw [show decide (ns[i - 1] < ns[i]) = true from by simpa using hlt]
      refine W_q (i := 17) rfl rfl rfl (q_pickF rfl rfl) ?_
      refine W_q (i := 18) rfl rfl rfl (q_pickT rfl rfl) ?_
      refine wa (i := 19) rfl rfl rfl rfl ?_
      refine W_nil ?_
      refine N_seq ?_
      refine C_seq ?_
      refine C_region ?_
      refine wm (i := 0) rfl rfl rfl rfl ?_
      refine W_nil ?_
      refine N_seq ?_
      refine C_condT rfl ?_
      refine C_draw (.cons 0 .pure (.cons 1 .read (.cons 2 .pure (.cons 3 .pure (.cons 4 .pure (.cons 5 .pure (.cons 6 .eff .nil))))))) (fun w => Knows w _) 6 mo (by kernel_rfl) (fun _ h => h) ?_
      refine D_p rfl rfl rfl (q_fieldAddr fb_121_1 rfl rfl) ?_
      refine D_r rfl rfl rfl (q_load ag_119 rfl aP rfl) ?_
      refine D_p rfl rfl rfl (q_move rfl) ?_
      refine D_p rfl rfl rfl (q_shl16 rfl rfl hni.1 hni.2.2) ?_
      refine D_p rfl rfl rfl (q_or16 rfl rfl hm0 (Qd.bit_lt hni.2.2)) ?_
      refine D_p rfl rfl rfl (q_fieldAddr fb_121_1 rfl rfl) ?_
      refine D_e rfl rfl rfl (e_store sz_119 rfl rfl rfl aU (by first | decide | exact Nat.le_of_ble_eq_true rfl | simp [splice, Value.cells])) (.inl rfl) ?_
      intro _
      refine D_nil ?_
      refine N_seq ?_
      refine C_region ?_
      refine W_q (i := 0) rfl rfl rfl (q_add rfl rfl (succ64 (by omega))) ?_
      refine wm (i := 1) rfl rfl rfl rfl ?_
      refine W_nil ?_
      exact fun a w ha hk => ⟨⟨i + 1, by omega⟩, by simp only; omega, ha.sub aS, by dsimp only; rw [hmi]; exact hk.take (by (try simp only [MxA.kb_eq]); exact aT)⟩
  ·
    have hin : i = ns.length := by simp at ht32; omega
    subst hin
    rw [List.take_length]
    refine C_exit ?_
    refine N_seq ?_
    refine C_seq ?_
    refine C_block ?_
    refine C_seq ?_
    refine C_region ?_
    refine wm (i := 0) rfl rfl rfl rfl ?_
    refine W_q (i := 1) rfl rfl rfl (q_not rfl) ?_
    refine wa (i := 2) rfl rfl rfl rfl ?_
    refine W_nil ?_
    refine N_seq ?_
    refine C_cond rfl (fun ht63 => ?_) (fun ht63 => ?_)
    · exact absurd ht63 (by simp)
    refine C_seq ?_
    refine C_region ?_
    refine wm (i := 0) rfl rfl rfl rfl ?_
    refine wm (i := 1) rfl rfl rfl rfl ?_
    refine W_call (i := 2) rfl rfl rfl rfl rfl rfl pf_63 (s_stands x _) aC ?_
    rintro _ _ ⟨rfl, rfl⟩
    refine wa (i := 3) rfl rfl rfl rfl ?_
    refine W_nil ?_
    refine N_seq ?_
    refine C_cond rfl (fun ht66 => ?_) (fun ht66 => ?_)
    ·
      rw [if_pos ht66] at htry
      refine C_seq ?_
      refine C_region ?_
      refine wa (i := 0) rfl rfl rfl rfl ?_
      refine W_nil ?_
      refine N_seq ?_
      refine C_ret fun a w ha hk => ?_
      exact R_val (e := .ret) (.inl rfl) ha.defers (res1 ha rfl rfl) (hR _ _ _ ⟨by rw [htry], by rw [htry]; try rfl⟩ (hk.take (by (try simp only [MxA.kb_eq, putMx]); exact aT)))
    ·
      rw [if_neg (by simp [ht66])] at htry
      rw [MxA.kb_app]
      refine C_seq ?_
      refine C_draw (.cons 0 .pure (.cons 1 .pure (.cons 2 .pure (.cons 3 .read (.cons 4 .pure (.cons 5 .pure (.cons 6 .read (.cons 7 .pure (.cons 8 .read (.cons 9 .pure (.cons 10 .pure (.cons 11 .pure .nil)))))))))))) (fun w => Knows w _) 12 mo (by kernel_rfl) (fun _ h => h) ?_
      refine D_p rfl rfl rfl (q_move rfl) ?_
      refine D_p rfl rfl rfl (q_nilCheck rfl) ?_
      refine D_p rfl rfl rfl (q_fieldAddr fb_124_4 rfl rfl) ?_
      refine D_r rfl rfl rfl (q_load ag_122 rfl aP rfl) ?_
      refine D_p rfl rfl rfl (q_move rfl) ?_
      refine D_p rfl rfl rfl (q_idxSl Tryz.underlying122 sz_119 hx.tk rfl rfl (by omega) (by have := hx.len; omega) rfl) ?_
      refine D_r rfl rfl rfl (q_loadSl (i := (row).toNat) (v := .int .u16 ((x.m.taken.getD (row).toNat 0 : Nat) : Int)) ag_119 rfl hx.tk aC (by simp) (taken_at (by omega))) ?_
      refine D_p rfl rfl rfl (q_fieldAddr fb_121_1 rfl rfl) ?_
      refine D_r rfl rfl rfl (q_load ag_119 rfl aP rfl) ?_
      refine D_p rfl rfl rfl (q_and16 rfl rfl htl hml) ?_
      refine D_p rfl rfl rfl (q_int rfl rfl rfl) ?_
      refine D_p rfl rfl rfl (q_assign rfl) ?_
      refine D_nil ?_
      refine N_seq ?_
      refine C_cond rfl (fun ht70 => ?_) (fun ht70 => ?_)
      ·
        rw [if_pos (by simpa using ht70)] at htry
        refine C_seq ?_
        refine C_region ?_
        refine wa (i := 0) rfl rfl rfl rfl ?_
        refine W_nil ?_
        refine N_seq ?_
        refine C_ret fun a w ha hk => ?_
        exact R_val (e := .ret) (.inl rfl) ha.defers (res1 ha rfl rfl) (hR _ _ _ ⟨by rw [htry], by rw [htry]; try rfl⟩ (hk.take (by (try simp only [MxA.kb_eq, putMx]); exact aT)))
      ·
        rw [if_neg (by simpa using ht70)] at htry
        refine C_skip ?_
        refine N_seq ?_
        refine C_seq ?_
        refine C_region ?_
        refine wm (i := 0) rfl rfl rfl rfl ?_
        refine wm (i := 1) rfl rfl rfl rfl ?_
        refine W_q (i := 2) rfl rfl rfl (q_loadAgg (us := [.int .i64 row, .int .u16 ((Qd.maskOf ns : Nat) : Int)]) ag_121 sz_121 rfl aP (by simp) rfl) ?_
        refine W_call (i := 3) rfl rfl rfl rfl rfl rfl pf_148 (s_mput x hx job ⟨row, Qd.maskOf ns⟩ ⟨hrl.1, hrl.2.1⟩ hml) (by simp only [MxA.kb_eq, List.cons_append]; exact (tk_cons1 (by repeat (first | exact tk_one | apply tk_app | apply tk_cons)) (tk_cons1 (by repeat (first | exact tk_one | apply tk_app | apply tk_cons)) aC))) ?_
        rintro _ _ ⟨rfl, rfl⟩
        refine W_nil ?_
        refine N_seq ?_
        refine C_seq ?_
        refine C_region ?_
        refine wa (i := 0) rfl rfl rfl rfl ?_
        refine W_nil ?_
        refine N_seq ?_
        refine C_ret fun a w ha hk => ?_
        exact R_val (e := .ret) (.inl rfl) ha.defers (res1 ha rfl rfl) (hR _ _ _ ⟨by rw [htry], by rw [htry]; try rfl⟩ (hk.take (by (try simp only [MxA.kb_eq, putMx]); exact aT)))
end Go.SL
namespace Qd
open Go.Sort (SWO)
theorem lookA_of_mem {α : Type} {m : List (Int × α)} {k : Int} {v : α} (hn : (m.map (·.1)).Nodup) (h : (k, v) ∈ m) : lookA m k = some v := by
  induction m with
  | nil => cases h
  | cons p m ih =>
    obtain ⟨a, u⟩ := p
    simp only [List.map_cons, List.nodup_cons] at hn
    rcases List.mem_cons.1 h with e | h
    · cases e; simp [lookA]
    · have : k ≠ a := fun e => hn.1 (by rw [← e]; exact List.mem_map_of_mem (f := (·.1)) h)
      simp only [lookA, this, if_false]
      exact ih hn.2 h
def ndsAt (m : Mx) (a : Int) : Nat := ((lookA m.jobs a).getD ⟨0, 0⟩).nodes
def ltJ (m : Mx) (a b : Int) : Bool := decide (tz (ndsAt m a) < tz (ndsAt m b))
theorem swo_key {α : Type} (f : α → Nat) : SWO (fun a b => decide (f a < f b)) := ⟨by simp, by simp; intros; omega, by simp; intros; omega⟩
theorem swoJ (m : Mx) : SWO (ltJ m) := swo_key _
theorem ndsAt_lt {m : Mx} (h : m.Ok) (a : Int) : ndsAt m a < 65536 := by
  unfold ndsAt
  cases hl : lookA m.jobs a with
  | none => decide
  | some s => exact (h.job _ (lookA_mem hl)).2.2.2.2.2
theorem sortBy_map {α β : Type} (f : α → β) (lt : α → α → Bool) (lt' : β → β → Bool) : ∀ l : List α, (∀ x ∈ l, ∀ y ∈ l, lt' (f x) (f y) = lt x y) → sortBy lt' (l.map f) = (sortBy lt l).map f
  | [], _ => rfl
  | x :: l, h => by
    have hi : ∀ (x : α) (l : List α), (∀ y ∈ l, lt' (f y) (f x) = lt y x) → insBy lt' (f x) (l.map f) = (insBy lt x l).map f := by
      intro x l
      induction l with
      | nil => intro _; rfl
      | cons y l ih =>
        intro h
        simp only [List.map_cons, insBy, h y (by simp)]
        split
        · simp [ih fun z hz => h z (by simp [hz])]
        · rfl
    simp only [List.map_cons, sortBy]
    rw [sortBy_map f lt lt' l fun y hy z hz => h y (by simp [hy]) z (by simp [hz])]
    exact hi x _ fun y hy => h y (by simp [(sortBy_perm lt l).mem_iff.1 hy]) x (by simp)
theorem tz_testBit {s : Nat} (hs : s < 65536) (h0 : 0 < s) : s.testBit (tz s) = true := by
  obtain ⟨k, h1, h2, h3, h4⟩ := bitsOf_pos hs (by omega)
  rw [h4]; exact h2.1
theorem Mx.row_perm {m : Mx} (h : m.Ok) {vis : List (Int × Stand)} (hv : vis.Perm m.jobs) {r : Int} (hr : m.isRow r = true) :
    Total (ltJ m) ((vis.filter fun p => p.2.row == r).map (·.1)) ∧ sortBy (ltJ m) ((vis.filter fun p => p.2.row == r).map (·.1)) = m.row r := by
  have hlk : ∀ p ∈ m.jobs, ndsAt m p.1 = p.2.nodes := fun p hp => by simp [ndsAt, lookA_of_mem h.keys (k := p.1) (v := p.2) hp]
  have key : ∀ l : List (Int × Stand), (∀ p ∈ l, p ∈ m.jobs ∧ p.2.row = r) → Total (ltJ m) (l.map (·.1)) := by
    intro l hl x hx y hy h1 h2
    simp only [List.mem_map] at hx hy
    obtain ⟨p, hp, rfl⟩ := hx
    obtain ⟨q, hq, rfl⟩ := hy
    obtain ⟨hp1, hp2⟩ := hl p hp
    obtain ⟨hq1, hq2⟩ := hl q hq
    simp only [ltJ, hlk p hp1, hlk q hq1, decide_eq_false_iff_not] at h1 h2
    by_cases e : p.1 = q.1
    · exact e
    · exfalso
      have hj1 := h.job p hp1
      have hj2 := h.job q hq1
      have ht : tz p.2.nodes = tz q.2.nodes := by omega
      have ha := h.apart p hp1 q hq1 e (hp2.trans hq2.symm)
      have h3 := tz_testBit hj1.2.2.2.2.2 hj1.2.2.2.2.1
      have h4 := tz_testBit hj2.2.2.2.2.2 hj2.2.2.2.2.1
      have h5 : (p.2.nodes &&& q.2.nodes).testBit (tz p.2.nodes) = true := by rw [Nat.testBit_and, h3]; rw [ht, h4]; rfl
      rw [ha] at h5
      simp at h5
  have hp2 : (vis.filter fun p => p.2.row == r).Perm (m.jobs.filter fun p => p.2.row == r) := hv.filter _
  have t1 := key (vis.filter fun p => p.2.row == r) fun p hp => by
    simp only [List.mem_filter, beq_iff_eq] at hp; exact ⟨hv.mem_iff.1 hp.1, hp.2⟩
  have t2 := key (m.jobs.filter fun p => p.2.row == r) fun p hp => by
    simp only [List.mem_filter, beq_iff_eq] at hp; exact hp
  refine ⟨t1, ?_⟩
  rw [Mx.row, if_pos hr, sortBy_of_perm (swoJ m) t2 (hp2.map _)]
  refine sortBy_map _ _ _ _ fun p hp q hq => ?_
  simp only [List.mem_filter] at hp hq
  simp only [ltJ, hlk p hp.1, hlk q hq.1]
theorem Mx.at_found {m : Mx} (h : m.Ok) {r n : Int} (hr : m.isRow r = true) (hn : m.isNode n = true) {p : Int × Stand} (hp : p ∈ m.jobs) (h1 : p.2.row = r) (h2 : hasB p.2.nodes n = true) : m.at_ r n = p.1 := by
  rw [Mx.at_, if_pos (by simp [hr, hn])]
  cases hf : m.jobs.find? fun p => p.2.row == r && hasB p.2.nodes n with
  | none =>
    have := List.find?_eq_none.1 hf p hp
    simp [h1, h2] at this
  | some q =>
    have hq := List.mem_of_find?_eq_some hf
    have hq2 := List.find?_some hf
    simp only [Bool.and_eq_true, beq_iff_eq] at hq2
    by_cases e : p.1 = q.1
    · simp [e]
    · exfalso
      have ha := h.apart p hp q hq e (h1.trans hq2.1.symm)
      have h5 : (p.2.nodes &&& q.2.nodes).testBit n.toNat = true := by
        rw [Nat.testBit_and]
        have := h2; have := hq2.2
        simp only [hasB] at *
        simp [*]
      rw [ha] at h5
      simp at h5
theorem Mx.at_none {m : Mx} {r n : Int} (hf : ∀ p ∈ m.jobs, p.2.row = r → hasB p.2.nodes n = false) : m.at_ r n = 0 := by
  rw [Mx.at_]
  split
  · rw [List.find?_eq_none.2]
    · rfl
    · intro p hp
      simp only [Bool.and_eq_true, beq_iff_eq, not_and, Bool.not_eq_true]
      exact hf p hp
  · rfl
theorem Mx.at_out {m : Mx} {r n : Int} (h : (m.isRow r && m.isNode n) = false) : m.at_ r n = 0 := by
  rw [Mx.at_, if_neg (by simp [h])]
theorem Mx.new_ok {r n : Int} (hr : 1 ≤ r ∧ r ≤ 8) (hn : 1 ≤ n ∧ n ≤ 16) : (Mx.new r n).Ok where
  rows := hr
  nodes := hn
  up := by
    have : (2 : Nat) ^ n.toNat ≤ 2 ^ 16 := Nat.pow_le_pow_right (by decide) (by omega)
    have h2 : (2 : Nat) ^ 16 = 65536 := by decide
    simp only [Mx.new]
    omega
  tlen := by simp [Mx.new]
  tlt := by intro t ht; simp [Mx.new] at ht; omega
  keys := by simp [Mx.new]
  job := by simp [Mx.new]
  tk := by intro r' i hr'; simp [Mx.new, List.getD, List.getElem?_replicate]; split <;> simp
  apart := by simp [Mx.new]
end Qd
