/- A part of the proof of the given statement BrainHold: the layer over the kit in which the walks are written, and contracts of the program's functions (a Go function answers as its plain model does). -/
import Derived.Test.YtflfaeedkkiaeaaGreatDoorP03
namespace Go.SL
open Go Go.Proofs
set_option maxRecDepth 10000
theorem ids_len (y : BrA) : y.b.ids.length = y.jobs.length := by rw [ids_eq, Qd.sortI, (Qd.sortBy_perm _ _).length_eq]; simp
theorem ids_nodup {y : BrA} (hy : y.Ok) : y.b.ids.Nodup := by rw [ids_eq, Qd.sortI, (Qd.sortBy_perm _ _).nodup_iff]; exact hy.keys
/-- a walk over all jobs -/
structure EachInv (g : Qd.Brain → Int → Qd.Job → Qd.Brain) (y0 y : BrA) (ids : List Int) (i c : Nat) : Prop where
  ok : y.Ok
  b : Qd.Brain.each g (ids.drop i) y.b = Qd.Brain.each g ids y0.b
  blk : y.blk = y0.blk
  sz : y.sz ≤ y0.sz + c * i
  len : y.jobs.length ≤ y0.jobs.length
  rest : ∀ k id, i ≤ k → ids[k]? = some id → Qd.lookA y.jobs id = Qd.lookA y0.jobs id
theorem EachInv.start {g : Qd.Brain → Int → Qd.Job → Qd.Brain} {y : BrA} {ids : List Int} {c : Nat} (hy : y.Ok) : EachInv g y y ids 0 c := ⟨hy, rfl, rfl, Nat.le_add_right _ _, Nat.le_refl _, fun _ _ _ _ => rfl⟩
theorem each_cons (g : Qd.Brain → Int → Qd.Job → Qd.Brain) (id : Int) (l : List Int) (b : Qd.Brain) : Qd.Brain.each g (id :: l) b = Qd.Brain.each g l (match b.job id with | some x => g b id x | none => b) := rfl
theorem EachInv.step {g : Qd.Brain → Int → Qd.Job → Qd.Brain} {y0 y y' : BrA} {ids : List Int} {i c : Nat} {id : Int} {j : JobA} (h : EachInv g y0 y ids i c) (hn : ids.Nodup) (hid : ids[i]? = some id) (hl : Qd.lookA y.jobs id = some j) (ht : BTo y y' id (g y.b id j.x) c) : EachInv g y0 y' ids (i + 1) c := by
  refine ⟨ht.ok, ?_, ht.blk.trans h.blk, ?_, Nat.le_trans ht.len h.len, ?_⟩
  · rw [← h.b, drop_get hid, each_cons, job_b, hl, ht.b]; rfl
  · have h1 := ht.sz; have h2 := h.sz; rw [Nat.mul_succ]; omega
  · intro k id' hk hid'
    rw [ht.oth id' ?_]
    · exact h.rest k id' (by omega) hid'
    · rintro rfl
      have h3 := (List.getElem?_eq_some_iff.1 hid)
      have h4 := (List.getElem?_eq_some_iff.1 hid')
      obtain ⟨a1, a2⟩ := h3
      obtain ⟨b1, b2⟩ := h4
      have := (List.getElem_inj hn).1 (a2.trans b2.symm)
      omega
theorem EachInv.done {g : Qd.Brain → Int → Qd.Job → Qd.Brain} {y0 y : BrA} {ids : List Int} {c : Nat} (h : EachInv g y0 y ids ids.length c) : y.b = Qd.Brain.each g ids y0.b := by
  have := h.b; rwa [List.drop_length] at this
/-- how long all run does not depend on the order -/
def finO (fr to : Int) : Int := if to < fr then 0 else to - fr + 1
theorem overlapGo_eq : ∀ (l : List (Int × Int)) (fr to : Int), Qd.overlapGo l fr to = bif l.any (fun p => decide (p.2 < p.1)) then 0 else finO (l.foldl (fun f p => Qd.imax f p.1) fr) (l.foldl (fun t p => Qd.imin t p.2) to)
  | [], fr, to => rfl
  | (a, b) :: l, fr, to => by
    rw [Qd.overlapGo, overlapGo_eq l]
    by_cases h : b < a
    · simp [h]
    · have hd : decide (b < a) = false := decide_eq_false h
      rw [if_neg h]
      simp only [List.any_cons, hd, Bool.false_or, List.foldl_cons]
theorem foldl_perm {α β : Type} (f : β → α → β) (hc : ∀ t a b, f (f t a) b = f (f t b) a) {l m : List α} (h : l.Perm m) : ∀ t, l.foldl f t = m.foldl f t := by
  induction h with
  | nil => intro t; rfl
  | cons x _ ih => intro t; exact ih _
  | swap x y l => intro t; simp only [List.foldl_cons]; rw [hc]
  | trans _ _ h1 h2 => intro t; rw [h1, h2]
theorem perm_map {α β : Type} {f : α → β} : ∀ {xs : List β} {L : List α}, xs.Perm (L.map f) → ∃ l : List α, l.Perm L ∧ xs = l.map f
  | [], L, h => by
    have := h.length_eq
    have h2 : L = [] := List.eq_nil_of_length_eq_zero (by simpa using this.symm)
    exact ⟨[], by rw [h2], rfl⟩
  | x :: xs, L, h => by
    have hm : x ∈ L.map f := h.mem_iff.1 (.head _)
    obtain ⟨a, ha, rfl⟩ := List.mem_map.1 hm
    obtain ⟨s, t, rfl⟩ := List.append_of_mem ha
    have h2 : xs.Perm ((s ++ t).map f) := by
      have h3 := h.trans (l₃ := (a :: (s ++ t)).map f) (List.Perm.map f List.perm_middle)
      exact h3.cons_inv
    obtain ⟨l, h4, h5⟩ := perm_map h2
    exact ⟨a :: l, (h4.cons a).trans List.perm_middle.symm, by rw [h5]; rfl⟩
theorem idxOf_first {xs : List Int} {x : Int} {i : Nat} (h : xs[i]? = some x) (hno : ∀ k : Nat, k < i → xs[k]? ≠ some x) : xs.idxOf x = i := by
  induction xs generalizing i with
  | nil => simp at h
  | cons a xs ih =>
    rw [List.idxOf_cons]
    cases i with
    | zero => simp at h; simp [h]
    | succ i =>
      have h0 := hno 0 (Nat.succ_pos _)
      simp at h0
      have : (a == x) = false := by simpa using h0
      rw [this]
      simp only [cond_false]
      rw [ih (by simpa using h) fun k hk => by have := hno (k + 1) (by omega); simpa using this]
theorem overlap_perm {l m : List (Int × Int)} (h : l.Perm m) : Qd.overlap l = Qd.overlap m := by
  unfold Qd.overlap
  have h0 : l.isEmpty = m.isEmpty := by
    rw [Bool.eq_iff_iff, List.isEmpty_iff_length_eq_zero, List.isEmpty_iff_length_eq_zero, h.length_eq]
  have h1 : l.any (fun p => decide (p.2 < p.1)) = m.any (fun p => decide (p.2 < p.1)) := by
    rw [Bool.eq_iff_iff, List.any_eq_true, List.any_eq_true]
    exact ⟨fun ⟨x, hx, hp⟩ => ⟨x, h.mem_iff.1 hx, hp⟩, fun ⟨x, hx, hp⟩ => ⟨x, h.mem_iff.2 hx, hp⟩⟩
  have h2 := foldl_perm (fun t (p : Int × Int) => Qd.imin t p.2) (fun a b c => by simp only [Qd.imin]; split <;> split <;> (try split) <;> (try split) <;> omega) h
  have h3 := foldl_perm (fun t (p : Int × Int) => Qd.imax t p.1) (fun a b c => by simp only [Qd.imax]; split <;> split <;> (try split) <;> (try split) <;> omega) h
  rw [h0]
  split
  · rfl
  · rw [overlapGo_eq, overlapGo_eq, h1, h2, h3]
theorem flatV_ran (l : List (Int × Int)) : flatV (l.map ranV) = flat enc2 l := by
  induction l with
  | nil => rfl
  | cons p l ih => simp only [flatV, flat, List.map_cons, List.flatMap_cons] at ih ⊢; rw [ih]; rfl
theorem encV_ran {ran : List (Int × (Int × Int))} {xs : List Value} (h : ∃ vis, vis.Perm (mapV ranV ran) ∧ xs = encV vis) : ∃ l : List (Int × Int), xs = l.map ranV ∧ l.Perm (ran.map (·.2)) := by
  obtain ⟨vis, h1, rfl⟩ := h
  have h2 : (encV vis).Perm ((ran.map (·.2)).map ranV) := by
    have := h1.map (fun p : Int × Value => p.2)
    simpa [encV, mapV, Function.comp_def] using this
  obtain ⟨l, h3, h4⟩ := perm_map h2
  exact ⟨l, h4, h3⟩
/-- no run is counted -/
def ranJob (j : JobA) (work : Int) : JobA := { j with x := { j.x with ran := none, work }, rn := none }
theorem ranJob_ok {j : JobA} (h : j.Ok) (work : Int) : (ranJob j work).Ok := ⟨h.at_, h.a16, h.atn, h.ld, h.ld1, h.sv, h.svo, h.dr, rfl, by simp [ranJob], by simp [ranJob], h.idr, h.kr, by simp [ranJob], by simp [ranJob]⟩
theorem save_set {b : Qd.Brain} {id : Int} {x x' : Qd.Job} : (b.setJob id x').save id x = b.save id x := by
  by_cases h : x.work = x.j.credit ∨ x.saving.isSome ∨ x.drops.isSome ∨ x.j.state ≠ 2
  · rw [Qd.Brain.save, Qd.Brain.save, if_pos h, if_pos h]; simp [Qd.Brain.setJob, putA_put]
  · rw [save_eq h rfl, save_eq h rfl]; simp [Qd.Brain.setJob, putA_put]
def BrA.sta (y : BrA) (st : Option (Nat × List Int)) (stopped : Bool) : BrA := { y with st, stopped }
theorem BrA.Ok.sta {y : BrA} (hy : y.Ok) (st : Option (Nat × List Int)) (stopped : Bool) : (y.sta st stopped).Ok := { hy with }
theorem stKb_some (r : Nat) (xs : List Int) : stKb (some (r, xs)) = [(r, SetB xs)] := rfl
theorem ag_86 : aggB Tryz.prog 86 = some false := by kernel_rfl
theorem fb_84_14 : fieldB Tryz.prog 84 14 = some 17 := by kernel_rfl
theorem fb_90_11 : fieldB Tryz.prog 90 11 = some 16 := by kernel_rfl
theorem pf_130 : plainFn Tryz.prog 130 = true := by kernel_rfl
theorem pf_131 : plainFn Tryz.prog 131 = true := by kernel_rfl
theorem pf_132 : plainFn Tryz.prog 132 = true := by kernel_rfl
theorem pf_133 : plainFn Tryz.prog 133 = true := by kernel_rfl
theorem pf_155 : plainFn Tryz.prog 155 = true := by kernel_rfl
theorem pf_50 : plainFn Tryz.prog 50 = true := by kernel_rfl
theorem pf_87 : plainFn Tryz.prog 87 = true := by kernel_rfl
theorem pf_93 : plainFn Tryz.prog 93 = true := by kernel_rfl
theorem pf_95 : plainFn Tryz.prog 95 = true := by kernel_rfl
theorem sz_88 : sizeB Tryz.prog 88 = some 1 := by kernel_rfl
theorem it_valuesA [Bs] (ran : List (Int × (Int × Int))) (bx r : Nat) : Iter Tryz.prog 155 #[] #[.pointer (some ⟨bx, 0, none⟩)] (fun xs => ∃ vis, vis.Perm (mapV ranV ran) ∧ xs = encV vis) (mapV ranV ran).length (fun x => ∃ p ∈ mapV ranV ran, x = p.2) [(bx, Cells [.map (some r)] 88), (r, MapI .i64 (mapV ranV ran))] :=
  fun l J hY K0 h0 => s_valuesA1 (mapV ranV ran) bx r l J hY K0 h0 (fun p hp => by simp only [mapV, List.mem_map] at hp; obtain ⟨q, _, rfl⟩ := hp; exact ⟨_, _, rfl⟩)
set_option maxHeartbeats 2000000 in
theorem s_index [Bs] (sl : Sl) (xs : List Int) (x : Int) (hok : sl.Ok (encI xs) 1) (hb : xs.length ≤ 1000000) : Spec Tryz.prog 93 [sl.val, .int .i64 x] (sl.kb (encI xs) 1 3) (fun v K' => v = .int .i64 (if x ∈ xs then (xs.idxOf x : Int) else -1) ∧ K' = sl.kb (encI xs) 1 3) := by
 have hsl : sl.len = xs.length := by have := hok.vlen; simp [encI] at this; omega
 refine spec_body Tryz.func93 rfl rfl fun F R hR => ?_
 try simp only [NL]
 refine C_seq ?_
 refine C_region ?_
 refine wa (i := 0) rfl rfl rfl rfl ?_
 refine W_nil ?_
 refine N_seq ?_
 refine C_seq ?_
 refine C_seq ?_
 refine C_region ?_
 refine wm (i := 0) rfl rfl rfl rfl ?_
 refine W_q (i := 1) rfl rfl rfl (q_lenSl Tryz.underlying66 rfl rfl) ?_
 refine wm (i := 2) rfl rfl rfl rfl ?_
 refine W_nil ?_
 refine N_seq ?_
 refine C_block ?_
 refine C_loop (ι := { i : Nat // i ≤ xs.length ∧ ∀ k : Nat, k < i → xs[k]? ≠ some x }) (fun i => [(0, sl.val), (1, .int .i64 x), (7, .int .i64 (sl.len : Int)), (8, .int .i64 (i.1 : Int))]) (fun _ => sl.kb (encI xs) 1 3 ++ F) (fun i => xs.length - i.1) ⟨0, Nat.zero_le _, fun k hk => absurd hk (Nat.not_lt_zero _)⟩ aS (.refl _) ?_
 rintro ⟨i, hi, hno⟩
 dsimp only
 refine C_seq ?_
 refine C_region ?_
 refine W_q (i := 0) rfl rfl rfl (q_int rfl rfl rfl) ?_
 refine W_nil ?_
 refine N_seq ?_
 refine C_seq ?_
 refine C_cond rfl (fun ht9 => ?_) (fun ht9 => ?_)
 ·
  try simp only [CL] at ht9
  have hil : i < xs.length := by omega
  obtain ⟨n, hn⟩ : ∃ n, xs[i]? = some n := ⟨_, List.getElem?_eq_getElem hil⟩
  refine C_skip ?_
  refine N_seq ?_
  refine C_seq ?_
  refine C_block ?_
  refine C_seq ?_
  refine C_region ?_
  refine wm (i := 0) rfl rfl rfl rfl ?_
  refine wa (i := 1) rfl rfl rfl rfl ?_
  refine W_nil ?_
  refine N_seq ?_
  refine C_seq ?_
  refine C_region ?_
  refine wm (i := 0) rfl rfl rfl rfl ?_
  refine wm (i := 1) rfl rfl rfl rfl ?_
  refine wm (i := 2) rfl rfl rfl rfl ?_
  refine W_q (i := 3) rfl rfl rfl (q_idxSl Tryz.underlying66 sz_3 hok rfl rfl (Int.natCast_nonneg _) (by omega) rfl) ?_
  refine W_q (i := 4) rfl rfl rfl (q_loadSl (i := i) (v := .int .i64 n) ag_3 rfl hok aC (by simp) (by simp [encI, hn])) ?_
  refine W_q (i := 5) rfl rfl rfl (q_int rfl rfl rfl) ?_
  refine W_nil ?_
  refine N_seq ?_
  refine C_cond rfl (fun ht16 => ?_) (fun ht16 => ?_)
  ·
   try simp only [CL] at ht16
   have hx1 : xs[i]? = some x := by rw [hn, ht16]
   have hm : x ∈ xs := List.mem_of_getElem? hx1
   have hix : xs.idxOf x = i := idxOf_first hx1 hno
   refine C_seq ?_
   refine C_region ?_
   refine wm (i := 0) rfl rfl rfl rfl ?_
   refine wa (i := 1) rfl rfl rfl rfl ?_
   refine W_nil ?_
   refine N_seq ?_
   refine C_ret fun a w ha hk => ?_
   exact R_val (e := .ret) (.inl rfl) ha.defers (res1 ha rfl rfl) (hR _ _ _ ⟨by rw [if_pos hm, hix], rfl⟩ (aK hk))
  ·
   try simp only [CL] at ht16
   refine C_skip ?_
   refine N_seq ?_
   refine C_region ?_
   refine W_q (i := 0) rfl rfl rfl (q_add rfl rfl (succ64 (by omega))) ?_
   refine wm (i := 1) rfl rfl rfl rfl ?_
   refine W_nil ?_
   exact fun a w ha hk => ⟨⟨i + 1, by omega, fun k hk2 => by rcases Nat.lt_succ_iff_lt_or_eq.1 hk2 with h | h; exact hno k h; (rw [h, hn]; intro he; exact ht16 (Option.some.inj he).symm)⟩, by dsimp only; omega, ha.sub aS, hk⟩
 ·
  try simp only [CL] at ht9
  have hil : i = xs.length := by omega
  have hnm : x ∉ xs := by intro hm; obtain ⟨k, hk2, he⟩ := List.getElem_of_mem hm; exact hno k (by omega) (by rw [List.getElem?_eq_getElem hk2, he])
  refine C_exit ?_
  refine N_seq ?_
  refine C_seq ?_
  refine C_region ?_
  refine wa (i := 0) rfl rfl rfl rfl ?_
  refine W_nil ?_
  refine N_seq ?_
  refine C_ret fun a w ha hk => ?_
  exact R_val (e := .ret) (.inl rfl) ha.defers (res1 ha rfl rfl) (hR _ _ _ ⟨by rw [if_neg hnm], rfl⟩ (aK hk))
set_option maxHeartbeats 2000000 in
theorem s_contains [Bs] (sl : Sl) (xs : List Int) (x : Int) (hok : sl.Ok (encI xs) 1) (hb : xs.length ≤ 1000000) : Spec Tryz.prog 51 [sl.val, .int .i64 x] (sl.kb (encI xs) 1 3) (fun v K' => v = .bool (decide (x ∈ xs)) ∧ K' = sl.kb (encI xs) 1 3) := by
 refine spec_body Tryz.func51 rfl rfl fun F R hR => ?_
 try simp only [NL]
 refine C_seq ?_
 refine C_region ?_
 refine wa (i := 0) rfl rfl rfl rfl ?_
 refine W_nil ?_
 refine N_seq ?_
 refine C_seq ?_
 refine C_region ?_
 refine wm (i := 0) rfl rfl rfl rfl ?_
 refine wm (i := 1) rfl rfl rfl rfl ?_
 refine W_call (i := 2) rfl rfl rfl rfl rfl rfl pf_93 (s_index _ _ _ hok hb) aC ?_
 rintro _ _ ⟨rfl, rfl⟩
 refine W_q (i := 3) rfl rfl rfl (q_int rfl rfl rfl) ?_
 refine wa (i := 4) rfl rfl rfl rfl ?_
 refine W_nil ?_
 refine N_seq ?_
 refine C_ret fun a w ha hk => ?_
 exact R_val (e := .ret) (.inl rfl) ha.defers (res1 ha rfl rfl) (hR _ _ _ ⟨by by_cases h : x ∈ xs; (rw [if_pos h, decide_eq_true h]; simp); (rw [if_neg h, decide_eq_false h]; rfl), rfl⟩ (aK hk))
set_option maxHeartbeats 2000000 in
theorem s_bcount [Bs] (y : BrA) (hy : y.Ok) (id : Int) (j : JobA) (hlk : Qd.lookA y.jobs id = some j) (hsz0 : y.sz + 16 ≤ BIG) : Spec Tryz.prog 95 [y.ptr, j.ptr] (y.kb) (fun v K' => v = .tuple #[] ∧ ∃ y', BTo y y' id (y.b.count id j.x) 16 ∧ K' = y'.kb) := by
 obtain ⟨hjo, hji, hjk⟩ := hy.at hlk
 have hjr := hjo.rn
 have h16 := hjo.a16
 have hal : j.at_.len = j.x.at_.length := by have := hjo.at_.vlen; simp [encI] at this; omega
 have hjd := hjo.dr
 refine spec_body Tryz.func95 rfl rfl fun F R hR => ?_
 try simp only [NL]
 refine C_perm _ ?_ ((BrA.open_ hlk).append_right F)
 rw [opn_eq]
 try simp only [NL]
 refine C_seq ?_
 refine C_region ?_
 refine wm (i := 0) rfl rfl rfl rfl ?_
 refine wc (i := 1) rfl rfl rfl rfl ?_
 refine W_q (i := 2) rfl rfl rfl (q_fieldAddr fb_90_11 rfl rfl) ?_
 refine W_q (i := 3) rfl rfl rfl (q_load ag_88 rfl aP rfl) ?_
 refine wa (i := 4) rfl rfl rfl rfl ?_
 refine W_nil ?_
 refine N_seq ?_
 refine C_seq ?_
 refine C_region ?_
 refine wm (i := 0) rfl rfl rfl rfl ?_
 refine wc (i := 1) rfl rfl rfl rfl ?_
 refine W_q (i := 2) rfl rfl rfl (q_fieldAddr fb_90_11 rfl rfl) ?_
 refine W_e (i := 3) rfl rfl rfl (e_store sz_88 rfl rfl rfl aU (by first | decide | exact Nat.le_of_ble_eq_true rfl | simp [splice, Value.cells])) ?_
 intro _
 refine W_nil ?_
 refine N_seq ?_
 refine C_seq ?_
 refine C_seq ?_
 refine C_draw (.cons 0 .pure (.cons 1 .pure (.cons 2 .pure (.cons 3 .pure (.cons 4 .pure (.cons 5 .pure (.cons 6 .read (.cons 7 .pure (.cons 8 .pure (.cons 9 .pure (.cons 10 .pure (.cons 11 .read (.cons 12 .pure (.cons 13 .pure (.cons 14 .pure (.cons 15 .read (.cons 16 .read (.cons 17 .pure (.cons 18 .pure .nil))))))))))))))))))) (fun w => Knows w _) 19 mo (by kernel_rfl) (fun _ h => h) ?_
 refine D_p rfl rfl rfl (q_move rfl) ?_
 refine D_p rfl rfl rfl (q_eqMapNil Tryz.underlying88 rfl rfl) ?_
 refine D_p rfl rfl rfl (q_move rfl) ?_
 refine D_bool 15 _ rfl (fun ht15 => ?_) (fun ht15 => ?_)
 ·
  try simp only [CL] at ht15
  have hrn : j.rn = none := by simpa using ht15
  have hr0 : j.x.ran = none := by rw [hrn] at hjr; simpa using hjr
  have hg : y.b.count id j.x = y.b.setJob id { j.x with ran := none } := by rw [Qd.Brain.count, hr0]; congr 1; cases hx : j.x; simp_all
  refine D_pskip rfl rfl rfl ?_
  refine D_pskip rfl rfl rfl ?_
  refine D_pskip rfl rfl rfl ?_
  refine D_rskip rfl rfl rfl ?_
  refine D_pskip rfl rfl rfl ?_
  refine D_p rfl rfl rfl (q_pickT rfl rfl) ?_
  refine D_p rfl rfl rfl (q_move rfl) ?_
  refine D_pskip rfl rfl rfl ?_
  refine D_rskip rfl rfl rfl ?_
  refine D_pskip rfl rfl rfl ?_
  refine D_pskip rfl rfl rfl ?_
  refine D_pskip rfl rfl rfl ?_
  refine D_rskip rfl rfl rfl ?_
  refine D_rskip rfl rfl rfl ?_
  refine D_pskip rfl rfl rfl ?_
  refine D_p rfl rfl rfl (q_pickT rfl rfl) ?_
  refine D_nil ?_
  refine N_seq ?_
  refine C_condT rfl ?_
  refine C_ret fun a w ha hk => ?_
  exact R_val (e := .ret) (.inl rfl) ha.defers (res0 rfl) (hR _ _ _ ⟨rfl, y.set id (ranJob j j.x.work), ⟨hy.set hlk (ranJob_ok hjo _) hji rfl, by rw [hg, BrA.set_b]; rfl, rfl, Nat.le_add_right _ _, len_set hlk, oth_set⟩, rfl⟩ ((hk.take (T := opn (y.set id (ranJob j j.x.work)) (ranJob j j.x.work) (mapV JobA.ptr y.jobs) (mapKb JobA.kb (Qd.delA y.jobs id)) ++ F) (by (try simp only [opn_eq, BrA.set, BrA.osK, BrA.isK, BrA.dsK, BrA.msK, ranKb_none, Option.getD_none, ranJob]); exact aT)).perm ((BrA.close_ (y := y.set id (ranJob j j.x.work)) (id := id) (a := (ranJob j j.x.work)) BrA.set_look (BrA.set_pm (y := y) (a' := (ranJob j j.x.work)) hlk rfl) (BrA.set_js (y := y) (a' := (ranJob j j.x.work)) hlk)).append_right F)))
 ·
  try simp only [CL] at ht15
  obtain ⟨r, hrn⟩ : ∃ r, j.rn = some r := Option.isSome_iff_exists.1 ht15
  obtain ⟨rs, hrs⟩ : ∃ rs, j.x.ran = some rs := Option.isSome_iff_exists.1 (by rw [hjr, hrn]; rfl)
  rw [hrn, hrs, ranKb_some]
  simp only [Option.getD_some, List.cons_append, List.nil_append]
  have hgc : y.b.count id j.x = if j.x.drops.isSome ∨ rs.length ≠ j.x.at_.length then y.b.setJob id { j.x with ran := none } else y.b.save id { j.x with ran := none, work := (Qd.capKeep (Qd.capAdd j.x.work (Qd.overlap (rs.map (·.2)))) 0 j.x.j.w) } := by rw [Qd.Brain.count, hrs]
  refine D_p rfl rfl rfl (q_move rfl) ?_
  refine D_p rfl rfl rfl (q_nilCheck rfl) ?_
  refine D_p rfl rfl rfl (q_fieldAddr fb_90_8 rfl rfl) ?_
  refine D_r rfl rfl rfl (q_load ag_81 rfl aP rfl) ?_
  refine D_p rfl rfl rfl (q_neMapNil Tryz.underlying81 rfl rfl) ?_
  refine D_p rfl rfl rfl (q_pickF rfl rfl) ?_
  refine D_p rfl rfl rfl (q_move rfl) ?_
  refine D_bool 22 _ rfl (fun ht22 => ?_) (fun ht22 => ?_)
  ·
   try simp only [CL] at ht22
   have hg : y.b.count id j.x = y.b.setJob id { j.x with ran := none } := by rw [hgc, if_pos (.inl (by rw [hjd]; simpa using ht22))]
   refine D_pskip rfl rfl rfl ?_
   refine D_rskip rfl rfl rfl ?_
   refine D_pskip rfl rfl rfl ?_
   refine D_pskip rfl rfl rfl ?_
   refine D_pskip rfl rfl rfl ?_
   refine D_rskip rfl rfl rfl ?_
   refine D_rskip rfl rfl rfl ?_
   refine D_pskip rfl rfl rfl ?_
   refine D_p rfl rfl rfl (q_pickT rfl rfl) ?_
   refine D_nil ?_
   refine N_seq ?_
   refine C_condT rfl ?_
   refine C_ret fun a w ha hk => ?_
   exact R_val (e := .ret) (.inl rfl) ha.defers (res0 rfl) (hR _ _ _ ⟨rfl, y.set id (ranJob j j.x.work), ⟨hy.set hlk (ranJob_ok hjo _) hji rfl, by rw [hg, BrA.set_b]; rfl, rfl, Nat.le_add_right _ _, len_set hlk, oth_set⟩, rfl⟩ ((hk.take (T := opn (y.set id (ranJob j j.x.work)) (ranJob j j.x.work) (mapV JobA.ptr y.jobs) (mapKb JobA.kb (Qd.delA y.jobs id)) ++ F) (by (try simp only [opn_eq, BrA.set, BrA.osK, BrA.isK, BrA.dsK, BrA.msK, ranKb_none, Option.getD_none, ranJob]); exact aT)).perm ((BrA.close_ (y := y.set id (ranJob j j.x.work)) (id := id) (a := (ranJob j j.x.work)) BrA.set_look (BrA.set_pm (y := y) (a' := (ranJob j j.x.work)) hlk rfl) (BrA.set_js (y := y) (a' := (ranJob j j.x.work)) hlk)).append_right F)))
  ·
   try simp only [CL] at ht22
   have hdn : j.x.drops.isSome = false := by rw [hjd]; simpa using ht22
   refine D_p rfl rfl rfl (q_move rfl) ?_
   refine D_r rfl rfl rfl (q_lenMap Tryz.underlying88 rfl rfl (MapAt.of aP)) ?_
   refine D_p rfl rfl rfl (q_move rfl) ?_
   refine D_p rfl rfl rfl (q_nilCheck rfl) ?_
   refine D_p rfl rfl rfl (q_fieldAddr fb_90_1 rfl rfl) ?_
   refine D_r rfl rfl rfl (q_load ag_66 rfl aP rfl) ?_
   refine D_r rfl rfl rfl (q_lenSl Tryz.underlying66 rfl rfl) ?_
   refine D_p rfl rfl rfl (q_int rfl rfl rfl) ?_
   refine D_p rfl rfl rfl (q_pickF rfl rfl) ?_
   refine D_nil ?_
   refine N_seq ?_
   refine C_cond rfl (fun ht31 => ?_) (fun ht31 => ?_)
   ·
    try simp only [CL] at ht31
    have hg : y.b.count id j.x = y.b.setJob id { j.x with ran := none } := by rw [hgc, if_pos (.inr (by intro h; apply ht31; simp [mapV, h, hal]))]
    refine C_ret fun a w ha hk => ?_
    exact R_val (e := .ret) (.inl rfl) ha.defers (res0 rfl) (hR _ _ _ ⟨rfl, y.set id (ranJob j j.x.work), ⟨hy.set hlk (ranJob_ok hjo _) hji rfl, by rw [hg, BrA.set_b]; rfl, rfl, Nat.le_add_right _ _, len_set hlk, oth_set⟩, rfl⟩ ((hk.take (T := opn (y.set id (ranJob j j.x.work)) (ranJob j j.x.work) (mapV JobA.ptr y.jobs) (mapKb JobA.kb (Qd.delA y.jobs id)) ++ F) (by (try simp only [opn_eq, BrA.set, BrA.osK, BrA.isK, BrA.dsK, BrA.msK, ranKb_none, Option.getD_none, ranJob]); exact aT)).perm ((BrA.close_ (y := y.set id (ranJob j j.x.work)) (id := id) (a := (ranJob j j.x.work)) BrA.set_look (BrA.set_pm (y := y) (a' := (ranJob j j.x.work)) hlk rfl) (BrA.set_js (y := y) (a' := (ranJob j j.x.work)) hlk)).append_right F)))
   ·
    try simp only [CL] at ht31
    have hrl : rs.length = j.x.at_.length := by simp [mapV] at ht31; omega
    have hg := hgc
    rw [if_neg (by simp [hdn, hrl])] at hg
    refine C_skip ?_
    refine N_seq ?_
    refine C_seq ?_
    refine C_region ?_
    refine wm (i := 0) rfl rfl rfl rfl ?_
    refine W_call (i := 1) rfl rfl rfl rfl rfl rfl pf_132 (s_valuesA r) tk_nil ?_
    rintro _ _ ⟨bx, rfl, rfl⟩
    try simp only [NL]
    refine W_call (i := 2) rfl rfl rfl rfl rfl rfl pf_131 (s_collectV (it_valuesA rs bx r) pf_155 (fun x hx => by obtain ⟨p, hp, rfl⟩ := hx; simp only [mapV, List.mem_map] at hp; obtain ⟨q, _, rfl⟩ := hp; exact ⟨_, _, rfl⟩) (by simp [mapV]; omega)) (tk_cons1 (by repeat (first | exact tk_one | apply tk_app | apply tk_cons)) (by repeat (first | exact tk_one | apply tk_app | apply tk_cons))) ?_
    rintro _ _ ⟨xs, osl, hS, rfl, hok, hsl, hnil, rfl⟩
    obtain ⟨l, rfl, hlp⟩ := encV_ran hS
    rw [flatV_ran] at hok ⊢
    try simp only [NL]
    have hll : l.length = rs.length := by have := hlp.length_eq; simpa using this
    refine W_call (i := 3) rfl rfl rfl rfl rfl rfl pf_130 (s_overlap osl l hok (fun p hp => by have h9 := hlp.mem_iff.1 hp; obtain ⟨q, hq, rfl⟩ := List.mem_map.1 h9; exact hjo.r32 q (by rw [hrs]; exact hq)) (by omega)) aC ?_
    rintro _ _ ⟨rfl, rfl⟩
    rw [overlap_perm hlp]
    refine wa (i := 4) rfl rfl rfl rfl ?_
    refine W_nil ?_
    refine N_seq ?_
    refine C_seq ?_
    refine C_draw (.cons 0 .pure (.cons 1 .pure (.cons 2 .pure (.cons 3 .pure (.cons 4 .read (.cons 5 .pure (.cons 7 .pure (.cons 8 .pure (.cons 9 .pure (.cons 10 .pure (.cons 11 .read (.cons 6 .eff (.cons 12 .eff (.cons 13 .pure (.cons 14 .pure (.cons 15 .eff .nil)))))))))))))))) (fun w => Knows w _) 12 mo (by kernel_rfl) (fun _ h => h) ?_
    refine D_p rfl rfl rfl (q_move rfl) ?_
    refine D_p rfl rfl rfl (q_move rfl) ?_
    refine D_p rfl rfl rfl (q_nilCheck rfl) ?_
    refine D_p rfl rfl rfl (q_fieldAddr fb_90_3 rfl rfl) ?_
    refine D_r rfl rfl rfl (q_load ag_3 rfl aP rfl) ?_
    refine D_p rfl rfl rfl (q_move rfl) ?_
    refine D_p rfl rfl rfl (q_move rfl) ?_
    refine D_p rfl rfl rfl (q_nilCheck rfl) ?_
    refine D_p rfl rfl rfl (q_fieldAddr fb_90_0 rfl rfl) ?_
    refine D_p rfl rfl rfl (q_fieldAddr fb_35_3 rfl rfl) ?_
    refine D_r rfl rfl rfl (q_load ag_3 rfl aP rfl) ?_
    refine D_call rfl rfl rfl rfl rfl rfl pf_134 (s_capAdd _ _) tk_nil (.inr (by rintro _ _ _ ⟨rfl, rfl⟩ h; exact h.take aT)) ?_
    rintro _ _ ⟨rfl, rfl⟩
    refine D_call rfl rfl rfl rfl rfl rfl pf_133 (s_capKeep _ _ _) tk_nil (.inl rfl) ?_
    rintro _ _ ⟨rfl, rfl⟩
    generalize hwk : (Qd.capKeep (Qd.capAdd j.x.work (Qd.overlap (rs.map (·.2)))) 0 j.x.j.w) = wk at hg ⊢
    refine D_p rfl rfl rfl (q_nilCheck rfl) ?_
    refine D_p rfl rfl rfl (q_fieldAddr fb_90_3 rfl rfl) ?_
    refine D_e rfl rfl rfl (e_store sz_3 rfl rfl rfl aU (by first | decide | exact Nat.le_of_ble_eq_true rfl | simp [splice, Value.cells])) (.inl rfl) ?_
    intro _
    refine D_nil ?_
    refine N_seq ?_
    refine C_to (opn (y.set id (ranJob j wk)) (ranJob j wk) (mapV JobA.ptr y.jobs) (mapKb JobA.kb (Qd.delA y.jobs id)) ++ F) (by (try simp only [opn_eq, BrA.set, BrA.osK, BrA.isK, BrA.dsK, BrA.msK, ranKb_none, Option.getD_none, ranJob]); exact aT) ?_
    refine C_perm _ ?_ ((BrA.close_ (y := y.set id (ranJob j wk)) (id := id) (a := (ranJob j wk)) BrA.set_look (BrA.set_pm (y := y) (a' := (ranJob j wk)) hlk rfl) (BrA.set_js (y := y) (a' := (ranJob j wk)) hlk)).append_right F)
    refine C_region ?_
    refine wm (i := 0) rfl rfl rfl rfl ?_
    refine wm (i := 1) rfl rfl rfl rfl ?_
    refine W_call (i := 2) rfl rfl rfl rfl rfl rfl pf_87 (s_save (y.set id (ranJob j wk)) (hy.set hlk (ranJob_ok hjo _) hji rfl) id (ranJob j wk) BrA.set_look hsz0) aC ?_
    rintro _ _ ⟨rfl, y', hto, rfl⟩
    refine W_nil ?_
    intro a w ha hk
    exact R_val (e := .normal) (.inr rfl) ha.defers (res0 rfl) (hR _ _ _ ⟨rfl, y', hto.of_set hlk (by rw [hg, BrA.set_b]; exact save_set) rfl (Nat.le_refl _) rfl, rfl⟩ hk)
set_option maxHeartbeats 2000000 in
theorem s_stopHeard [Bs] (y : BrA) (hy : y.Ok) (n : Int) (h12 : y.jobs.length ≤ 12) (hsz0 : y.sz + 200 ≤ BIG) : Spec Tryz.prog 54 [y.ptr, .int .i64 n] (y.kb) (fun v K' => v = .tuple #[] ∧ ∃ y', BTop y y' (y.b.stopHeard n) 200 ∧ y'.jobs.length ≤ y.jobs.length ∧ K' = y'.kb) := by
 refine spec_body Tryz.func54 rfl rfl fun F R hR => ?_
 try simp only [NL]
 rw [BrA.kb_eq]
 try simp only [NL]
 refine C_seq ?_
 refine C_seq ?_
 refine C_region ?_
 refine wm (i := 0) rfl rfl rfl rfl ?_
 refine wc (i := 1) rfl rfl rfl rfl ?_
 refine W_q (i := 2) rfl rfl rfl (q_fieldAddr fb_84_13 rfl rfl) ?_
 refine W_q (i := 3) rfl rfl rfl (q_load ag_81 rfl aP rfl) ?_
 refine W_q (i := 4) rfl rfl rfl (q_eqMapNil Tryz.underlying81 rfl rfl) ?_
 refine W_nil ?_
 refine N_seq ?_
 refine C_cond rfl (fun ht10 => ?_) (fun ht10 => ?_)
 ·
  try simp only [CL] at ht10
  have hst : y.st = none := by cases h : y.st with | none => rfl | some p => rw [h] at ht10; simp [stMap] at ht10
  have hg : y.b.stopHeard n = y.b := by simp only [Qd.Brain.stopHeard, BrA.b, hst, Option.map_none]
  refine C_ret fun a w ha hk => ?_
  exact R_val (e := .ret) (.inl rfl) ha.defers (res0 rfl) (hR _ _ _ ⟨rfl, y, ⟨hy, hg.symm, rfl, Nat.le_add_right _ _⟩, Nat.le_refl _, rfl⟩ (hk.take (by (try simp only [BrA.kb_eq]); exact aT)))
 ·
  try simp only [CL] at ht10
  obtain ⟨⟨r, xs⟩, hst⟩ : ∃ p, y.st = some p := by cases h : y.st with | none => rw [h] at ht10; simp [stMap] at ht10 | some p => exact ⟨p, rfl⟩
  have hyc : y.cells = (y.sta (some (r, xs)) y.stopped).cells := by simp only [BrA.cells, BrA.sta, hst]
  rw [hst, hyc]
  simp only [stMap, stKb_some, List.cons_append, List.nil_append]
  refine C_skip ?_
  refine N_seq ?_
  refine C_seq ?_
  refine C_region ?_
  refine wm (i := 0) rfl rfl rfl rfl ?_
  refine wc (i := 1) rfl rfl rfl rfl ?_
  refine W_q (i := 2) rfl rfl rfl (q_fieldAddr fb_84_13 rfl rfl) ?_
  refine W_q (i := 3) rfl rfl rfl (q_load ag_81 rfl aP rfl) ?_
  refine wm (i := 4) rfl rfl rfl rfl ?_
  refine W_e (i := 5) rfl rfl rfl (e_delete Tryz.underlying81 Tryz.underlying3 rfl rfl rfl (del_set xs n) aU) ?_
  intro _
  refine W_nil ?_
  refine N_seq ?_
  refine C_seq ?_
  refine C_seq ?_
  refine C_region ?_
  refine wm (i := 0) rfl rfl rfl rfl ?_
  refine wc (i := 1) rfl rfl rfl rfl ?_
  refine W_q (i := 2) rfl rfl rfl (q_fieldAddr fb_84_13 rfl rfl) ?_
  refine W_q (i := 3) rfl rfl rfl (q_load ag_81 rfl aP rfl) ?_
  refine W_q (i := 4) rfl rfl rfl (q_lenMap Tryz.underlying81 rfl rfl (MapAt.of aP)) ?_
  refine W_q (i := 5) rfl rfl rfl (q_int rfl rfl rfl) ?_
  refine W_nil ?_
  refine N_seq ?_
  refine C_cond rfl (fun ht21 => ?_) (fun ht21 => ?_)
  ·
   try simp only [CL] at ht21
   have hne : xs.erase n ≠ [] := by intro h; rw [h] at ht21; simp [setM] at ht21
   have hg : y.b.stopHeard n = { y.b with stops := some (xs.erase n) } := by simp only [Qd.Brain.stopHeard, BrA.b, hst, Option.map_some]; rw [if_pos hne]
   refine C_ret fun a w ha hk => ?_
   exact R_val (e := .ret) (.inl rfl) ha.defers (res0 rfl) (hR _ _ _ ⟨rfl, y.sta (some (r, xs.erase n)) y.stopped, ⟨hy.sta _ _, by rw [hg]; rfl, rfl, Nat.le_add_right _ _⟩, Nat.le_refl _, rfl⟩ (hk.take (by (try simp only [BrA.kb_eq, BrA.sta, stKb_some, BrA.jsK, BrA.osK, BrA.isK, BrA.dsK, BrA.msK]); exact aT)))
  ·
   try simp only [CL] at ht21
   have hne : xs.erase n = [] := by cases h : xs.erase n with | nil => rfl | cons a l => exfalso; rw [h] at ht21; simp [setM] at ht21
   have hy0 : (y.sta none false).Ok := hy.sta none false
   have hg : y.b.stopHeard n = Qd.Brain.each Qd.Brain.count (y.sta none false).b.ids (y.sta none false).b := by simp only [Qd.Brain.stopHeard, BrA.b, hst, Option.map_some]; rw [if_neg (by simp [hne])]; rfl
   refine C_skip ?_
   refine N_seq ?_
   refine C_seq ?_
   refine C_region ?_
   refine wm (i := 0) rfl rfl rfl rfl ?_
   refine wm (i := 1) rfl rfl rfl rfl ?_
   refine wc (i := 2) rfl rfl rfl rfl ?_
   refine W_q (i := 3) rfl rfl rfl (q_fieldAddr fb_84_13 rfl rfl) ?_
   refine W_e (i := 4) rfl rfl rfl (e_store sz_81 rfl rfl rfl aU (by first | decide | exact Nat.le_of_ble_eq_true rfl | simp [splice, Value.cells])) ?_
   intro _
   refine wc (i := 5) rfl rfl rfl rfl ?_
   refine W_q (i := 6) rfl rfl rfl (q_fieldAddr fb_84_14 rfl rfl) ?_
   refine W_e (i := 7) rfl rfl rfl (e_store sz_4 rfl rfl rfl aU (by first | decide | exact Nat.le_of_ble_eq_true rfl | simp [splice, Value.cells])) ?_
   intro _
   refine W_nil ?_
   refine N_seq ?_
   refine C_seq ?_
   refine C_region ?_
   refine wm (i := 0) rfl rfl rfl rfl ?_
   refine W_call (i := 1) rfl rfl rfl rfl rfl rfl pf_50 (s_all (y.sta none false) h12) (tk_cons1 (by repeat (first | exact tk_one | apply tk_app | apply tk_cons)) (by repeat (first | exact tk_one | apply tk_app | apply tk_cons))) ?_
   rintro _ _ ⟨sl, rfl, hsok, rfl⟩
   obtain ⟨ids0, hids⟩ : ∃ ids, (y.sta none false).b.ids = ids := ⟨_, rfl⟩
   rw [hids] at hsok ⊢
   have hnd := ids_nodup hy0
   rw [hids] at hnd
   have hidl : ids0.length = (y.sta none false).jobs.length := by rw [← hids]; exact ids_len _
   have hid12 : ids0.length ≤ 12 := by rw [hidl]; exact h12
   have hsl : sl.len = ids0.length := by have := hsok.vlen; simp [ptrsV] at this; omega
   try simp only [NL]
   refine W_q (i := 2) rfl rfl rfl (q_lenSl Tryz.underlying99 rfl rfl) ?_
   refine wm (i := 3) rfl rfl rfl rfl ?_
   refine W_nil ?_
   refine N_seq ?_
   refine C_block ?_
   refine C_loopT (ι := { q : Nat × BrA // q.1 ≤ ids0.length ∧ EachInv Qd.Brain.count (y.sta none false) q.2 ids0 q.1 16 }) (fun q => [(0, (y.sta none false).ptr), (29, sl.val), (30, .int .i64 (sl.len : Int)), (31, .int .i64 (q.1.1 : Int))]) (fun q => q.1.2.kb ++ (sl.kb (ptrsV (y.sta none false).jobs ids0) 1 86 ++ F)) (fun q => ids0.length - q.1.1) ⟨(0, (y.sta none false)), Nat.zero_le _, EachInv.start hy0⟩ aS (by (try simp only [BrA.kb_eq]); exact aT) ?_
   rintro ⟨⟨i, yi⟩, hi, hE⟩
   dsimp only at hi hE ⊢
   have hEs := hE.sz
   have hEl := hE.len
   refine C_seq ?_
   refine C_region ?_
   refine W_q (i := 0) rfl rfl rfl (q_int rfl rfl rfl) ?_
   refine W_nil ?_
   refine N_seq ?_
   refine C_seq ?_
   refine C_cond rfl (fun ht32 => ?_) (fun ht32 => ?_)
   ·
    try simp only [CL] at ht32
    have hil : i < ids0.length := by omega
    obtain ⟨id, hid⟩ : ∃ id, ids0[i]? = some id := ⟨_, List.getElem?_eq_getElem hil⟩
    obtain ⟨j, hj0⟩ := ids_look (y.sta none false) (id := id) (by rw [hids]; exact List.mem_of_getElem? hid)
    have hji : Qd.lookA yi.jobs id = some j := by rw [hE.rest i id (Nat.le_refl _) hid]; exact hj0
    refine C_skip ?_
    refine N_seq ?_
    refine C_seq ?_
    refine C_block ?_
    refine C_seq ?_
    refine C_region ?_
    refine W_q (i := 0) rfl rfl rfl (q_idxSl Tryz.underlying99 sz_86 hsok rfl rfl (Int.natCast_nonneg _) (by omega) rfl) ?_
    refine W_q (i := 1) rfl rfl rfl (q_loadSl (i := i) (v := j.ptr) ag_86 rfl hsok aC (by simp) ((ptrsV_at hid).trans (by rw [ptrV_some hj0]))) ?_
    refine wa (i := 2) rfl rfl rfl rfl ?_
    refine W_nil ?_
    refine N_seq ?_
    refine C_region ?_
    refine wm (i := 0) rfl rfl rfl rfl ?_
    refine wm (i := 1) rfl rfl rfl rfl ?_
    refine W_call (i := 2) rfl rfl rfl rfl rfl rfl pf_95 ((show Spec Tryz.prog 95 [(y.sta none false).ptr, j.ptr] yi.kb (fun v K' => v = .tuple #[] ∧ ∃ y', BTo yi y' id (Qd.Brain.count yi.b id j.x) 16 ∧ K' = y'.kb) from by rw [show (y.sta none false).ptr = yi.ptr from by simp only [BrA.ptr, hE.blk]]; exact s_bcount yi hE.ok id j hji (by have e1 : (y.sta none false).sz = y.sz := rfl; have e2 : (y.sta none false).jobs.length = y.jobs.length := rfl; unfold BIG at *; omega))) aC ?_
    rintro _ _ ⟨rfl, y', hto, rfl⟩
    refine W_nil ?_
    refine N_seq ?_
    refine C_region ?_
    refine W_q (i := 0) rfl rfl rfl (q_add rfl rfl (succ64 (by omega))) ?_
    refine wm (i := 1) rfl rfl rfl rfl ?_
    refine W_nil ?_
    exact fun a w ha hk => ⟨⟨(i + 1, y'), by dsimp only; omega, hE.step hnd hid hji hto⟩, by dsimp only; omega, ha.sub aS, hk⟩
   ·
    try simp only [CL] at ht32
    have hil : i = ids0.length := by omega
    subst hil
    refine C_exit ?_
    intro a w ha hk
    exact R_val (e := .normal) (.inr rfl) ha.defers (res0 rfl) (hR _ _ _ ⟨rfl, yi, ⟨hE.ok, by rw [hg, hids]; exact hE.done, hE.blk, by have e1 : (y.sta none false).sz = y.sz := rfl; have e2 : (y.sta none false).jobs.length = y.jobs.length := rfl; omega⟩, hE.len, rfl⟩ (hk.take aT))
end Go.SL
namespace Go.SL
open Go
section
variable {P : Program} {n : Nat} {L : Env} {K : KB} {Q : Exit → Act → World → Prop}
/-- an array of two -/
theorem q_buildArr2 {d : Option Nat} {T e : TypeId} {x y : Operand} {k : IntKind} {p q u v : Int} {ty pos aft gd} (hT : P.underlying T = some (.array 2 e)) (he : sizeB P e = some 1) (hz : zeroB P T = some (.agg #[.int k u, .int k v]))
    (hx : ev L x = some (.int k p)) (hy : ev L y = some (.int k q)) : QRun P n ⟨d, .build T #[(0, x), (1, y)], ty, pos, aft, gd⟩ L K (.agg #[.int k p, .int k q]) := by
  intro a w ha hk
  simp only [execOp, Instr.build, Sem.run_bind, run_zeroValue hz, Result.andThen, run_underlying hT, run_sizeOf he]
  simp [ev_eval ha hx, ev_eval ha hy, Instr.fill, Value.cells]
end
theorem stAt (o : Option (Nat × List Int)) : MapAt (stKb o) .i64 (stMap o) (setM ((o.map (·.2)).getD [])) := by
  cases o with
  | none => rfl
  | some p => exact ⟨_, Pick.here⟩
end Go.SL
namespace Go.SL
open Go Go.Proofs
set_option maxRecDepth 10000
def heardB (b : Qd.Brain) (n : Int) (note : Qd.Note) : Qd.Brain := match b.job note.job with
  | none => b
  | some x => match x.ran with
    | none => b
    | some r => if note.frm > 0 ∧ n ∈ x.at_ then b.setJob note.job { x with ran := some (Qd.putA r n (note.frm, note.to)) } else b
theorem heard_no {b : Qd.Brain} {n : Int} {note : Qd.Note} (h : n ∉ b.stops.getD [] ∨ b.stopped = false ∨ note.gen ≠ b.gen) : b.heard n note = b := by
  unfold Qd.Brain.heard
  cases hs : b.stops with
  | none => rfl
  | some s => rw [hs] at h; dsimp only at h ⊢; rw [if_pos (by simpa using h)]
theorem heard_go {b : Qd.Brain} {n : Int} {note : Qd.Note} (h1 : n ∈ b.stops.getD []) (h2 : b.stopped = true) (h3 : note.gen = b.gen) : b.heard n note = (heardB b n note).stopHeard n := by
  unfold Qd.Brain.heard
  cases hs : b.stops with
  | none => rw [hs] at h1; simp at h1
  | some s => rw [hs] at h1; dsimp only at h1 ⊢; rw [if_neg (by simp at h1; simp [h1, h2, h3])]; rfl
theorem putA_nodup {α : Type} {m : List (Int × α)} {k : Int} {v : α} (h : (m.map (·.1)).Nodup) : ((Qd.putA m k v).map (·.1)).Nodup := by
  cases hl : Qd.lookA m k with
  | some u => rw [Qd.keys_put hl]; exact h
  | none =>
    rw [Qd.keys_new hl, List.map_append, List.nodup_append]
    refine ⟨h, by simp, ?_⟩
    intro a ha b hb
    simp only [List.map_cons, List.map_nil, List.mem_singleton] at hb
    subst hb
    obtain ⟨p, hp, rfl⟩ := List.mem_map.1 ha
    intro he
    have := Qd.lookA_of_mem h (k := p.1) (v := p.2) hp
    rw [he, hl] at this; cases this
def ranSet (j : JobA) (n fr to : Int) : JobA := { j with x := { j.x with ran := some (Qd.putA (j.x.ran.getD []) n (fr, to)) } }
theorem nodup_le : ∀ {l xs : List Int}, l.Nodup → (∀ a ∈ l, a ∈ xs) → l.length ≤ xs.length
  | [], xs, _, _ => Nat.zero_le _
  | a :: l, xs, hn, h => by
    rw [List.nodup_cons] at hn
    have h1 : a ∈ xs := h a (by simp)
    have h2 := nodup_le (xs := xs.erase a) hn.2 fun x hx => (List.mem_erase_of_ne (by rintro rfl; exact hn.1 hx)).2 (h x (by simp [hx]))
    have h3 := List.length_erase_of_mem h1
    have h4 : 0 < xs.length := List.length_pos_of_mem h1
    simp only [List.length_cons]
    omega
/-- as many as nodes -/
theorem keys_le {α : Type} {m : List (Int × α)} {xs : List Int} (hn : (m.map (·.1)).Nodup) (h : ∀ p ∈ m, p.1 ∈ xs) : m.length ≤ xs.length := by
  have := nodup_le hn (fun a ha => by obtain ⟨p, hp, rfl⟩ := List.mem_map.1 ha; exact h p hp)
  simpa using this
theorem ranSet_ok {j : JobA} (h : j.Ok) {rs : List (Int × (Int × Int))} {n fr to : Int} (hr : j.x.ran = some rs) (h32 : In32 (fr, to)) (hn : n ∈ j.x.at_) : (ranSet j n fr to).Ok :=
  ⟨h.at_, h.a16, h.atn, h.ld, h.ld1, h.sv, h.svo, h.dr, by have := h.rn; rw [hr] at this; exact this, by
    intro p hp
    simp only [ranSet, Option.getD_some] at hp
    rcases Qd.mem_put hp with rfl | hp
    · exact h32
    · exact h.r32 p hp, by
    simp only [ranSet, Option.getD_some]
    have := keys_le (m := Qd.putA (j.x.ran.getD []) n (fr, to)) (xs := j.x.at_) (putA_nodup h.rnk) (fun p hp => by rcases Qd.mem_put hp with rfl | hp; exact hn; exact h.rat p hp)
    have := h.a16
    omega, h.idr, h.kr, putA_nodup h.rnk, fun p hp => by
    simp only [ranSet, Option.getD_some] at hp
    rcases Qd.mem_put hp with rfl | hp
    · exact hn
    · exact h.rat p hp⟩
theorem fb_72_10 : fieldB Tryz.prog 72 10 = some 10 := by kernel_rfl
theorem fb_72_11 : fieldB Tryz.prog 72 11 = some 11 := by kernel_rfl
theorem fb_72_5 : fieldB Tryz.prog 72 5 = some 5 := by kernel_rfl
theorem fb_72_6 : fieldB Tryz.prog 72 6 = some 6 := by kernel_rfl
theorem inf_5 : infoB Tryz.prog 5 = some (some (Go.Value.int (Go.IntKind.u8) 0), 1, 1) := by kernel_rfl
theorem pf_51 : plainFn Tryz.prog 51 = true := by kernel_rfl
theorem pf_54 : plainFn Tryz.prog 54 = true := by kernel_rfl
set_option maxHeartbeats 2000000 in
theorem s_bytesClone [Bs] (s : Sl) (vs : List Value) (hok : s.Ok vs 1) (hb : s.len ≤ 1000000) (h1 : vs.all oneC = true) : Spec Tryz.prog 105 [s.val] (s.kb vs 1 5) (fun v K' => ∃ s' : Sl, v = s'.val ∧ s'.Ok vs 1 ∧ s'.len = s.len ∧ K' = s.kb vs 1 5 ++ s'.kb vs 1 5) := by
 refine spec_body Tryz.func105 rfl rfl fun F R hR => ?_
 try simp only [NL]
 refine C_seq ?_
 refine C_region ?_
 refine wa (i := 0) rfl rfl rfl rfl ?_
 refine W_nil ?_
 refine N_seq ?_
 refine C_seq ?_
 refine C_seq ?_
 refine C_region ?_
 refine wm (i := 0) rfl rfl rfl rfl ?_
 refine W_q (i := 1) rfl rfl rfl (q_eqSliceNil Tryz.underlying22 rfl rfl) ?_
 refine W_nil ?_
 refine N_seq ?_
 refine C_cond rfl (fun ht4 => ?_) (fun ht4 => ?_)
 ·
  try simp only [CL] at ht4
  have hn : s.a = none := by simpa using ht4
  have hc := hok.nil hn
  have hcap := hok.cap
  have hl0 : s.len = 0 := by omega
  have hv0 : vs = [] := List.eq_nil_of_length_eq_zero (by have := hok.vlen; rw [hl0] at this; simpa using this)
  refine C_seq ?_
  refine C_region ?_
  refine wa (i := 0) rfl rfl rfl rfl ?_
  refine W_nil ?_
  refine N_seq ?_
  refine C_ret fun a w ha hk => ?_
  exact R_val (e := .ret) (.inl rfl) ha.defers (res1 ha rfl rfl) (hR _ _ _ ⟨Sl.nilS, rfl, by rw [hv0]; exact Sl.nil_ok _, by rw [hl0]; rfl, rfl⟩ (hk.take (by (try simp only [nilS_kb]); exact aT)))
 ·
  try simp only [CL] at ht4
  have hn : s.a.isSome = true := by simpa using ht4
  refine C_skip ?_
  refine N_seq ?_
  refine C_seq ?_
  refine C_region ?_
  refine W_e (i := 0) rfl rfl rfl (e_lit0 Tryz.underlying22 sz_5) ?_
  intro b5
  refine wm (i := 1) rfl rfl rfl rfl ?_
  refine W_e (i := 2) rfl rfl rfl (e_clone Tryz.underlying22 inf_5 rfl rfl rfl rfl (by exact Pick.here) aC hn hok (by omega) (by omega) h1) ?_
  rintro ⟨s', hl', hok'⟩
  refine wa (i := 3) rfl rfl rfl rfl ?_
  refine W_nil ?_
  refine N_seq ?_
  refine C_ret fun a w ha hk => ?_
  exact R_val (e := .ret) (.inl rfl) ha.defers (res1 ha rfl rfl) (hR _ _ _ ⟨s', rfl, hok', hl', rfl⟩ (hk.take aT))
set_option maxHeartbeats 2000000 in
theorem s_heard [Bs] (y : BrA) (hy : y.Ok) (n : Int) (note : Qd.Note) (bl : Value) (h32 : In32 (note.frm, note.to)) (h12 : y.jobs.length ≤ 12) (hsz0 : y.sz + 200 ≤ BIG) : Spec Tryz.prog 66 [y.ptr, .int .i64 n, .agg (noteV note bl).toArray] (y.kb) (fun v K' => v = .tuple #[] ∧ ∃ y', BTop y y' (y.b.heard n note) 200 ∧ y'.jobs.length ≤ y.jobs.length ∧ K' = y'.kb) := by
 refine spec_body Tryz.func66 rfl rfl fun F R hR => ?_
 try simp only [NL]
 rw [BrA.kb_eq]
 try simp only [NL]
 refine C_seq ?_
 refine C_region ?_
 refine W_e (i := 0) rfl rfl rfl (e_box rfl) ?_
 intro b5
 refine W_nil ?_
 refine N_seq ?_
 refine C_seq ?_
 refine C_seq ?_
 refine C_draw (.cons 0 .pure (.cons 1 .pure (.cons 2 .pure (.cons 3 .read (.cons 4 .pure (.cons 5 .eff (.cons 6 .pure (.cons 7 .pure (.cons 8 .pure (.cons 9 .pure (.cons 10 .pure (.cons 11 .read (.cons 12 .pure (.cons 13 .pure (.cons 14 .pure (.cons 15 .pure (.cons 16 .read (.cons 17 .pure (.cons 18 .pure (.cons 19 .pure (.cons 20 .read (.cons 21 .pure (.cons 22 .pure .nil))))))))))))))))))))))) (fun w => Knows w _) 23 mo (by kernel_rfl) (fun _ h => h) ?_
 refine D_p rfl rfl rfl (q_move rfl) ?_
 refine D_p rfl rfl rfl (q_nilCheck rfl) ?_
 refine D_p rfl rfl rfl (q_fieldAddr fb_84_13 rfl rfl) ?_
 refine D_r rfl rfl rfl (q_load ag_81 rfl aP rfl) ?_
 refine D_p rfl rfl rfl (q_move rfl) ?_
 refine D_call rfl rfl rfl rfl rfl rfl pf_73 (s_has (stMap y.st) ((y.st.map (·.2)).getD []) n (stKb y.st) (stAt y.st)) aC (.inr (by rintro _ _ _ ⟨rfl, rfl⟩ h; exact h.take aT)) ?_
 rintro _ _ ⟨rfl, rfl⟩
 refine D_p rfl rfl rfl (q_not rfl) ?_
 refine D_p rfl rfl rfl (q_move rfl) ?_
 refine D_bool 14 _ rfl (fun ht14 => ?_) (fun ht14 => ?_)
 ·
  try simp only [CL] at ht14
  have hg : y.b.heard n note = y.b := heard_no (.inl ht14)
  refine D_pskip rfl rfl rfl ?_
  refine D_pskip rfl rfl rfl ?_
  refine D_pskip rfl rfl rfl ?_
  refine D_rskip rfl rfl rfl ?_
  refine D_pskip rfl rfl rfl ?_
  refine D_p rfl rfl rfl (q_pickT rfl rfl) ?_
  refine D_p rfl rfl rfl (q_move rfl) ?_
  refine D_pskip rfl rfl rfl ?_
  refine D_rskip rfl rfl rfl ?_
  refine D_pskip rfl rfl rfl ?_
  refine D_pskip rfl rfl rfl ?_
  refine D_pskip rfl rfl rfl ?_
  refine D_rskip rfl rfl rfl ?_
  refine D_pskip rfl rfl rfl ?_
  refine D_p rfl rfl rfl (q_pickT rfl rfl) ?_
  refine D_nil ?_
  refine N_seq ?_
  refine C_condT rfl ?_
  refine C_ret fun a w ha hk => ?_
  exact R_val (e := .ret) (.inl rfl) ha.defers (res0 rfl) (hR _ _ _ ⟨rfl, y, ⟨hy, hg.symm, rfl, Nat.le_add_right _ _⟩, Nat.le_refl _, rfl⟩ (hk.take (by (try simp only [BrA.kb_eq]); exact aT)))
 ·
  try simp only [CL] at ht14
  refine D_p rfl rfl rfl (q_move rfl) ?_
  refine D_p rfl rfl rfl (q_nilCheck rfl) ?_
  refine D_p rfl rfl rfl (q_fieldAddr fb_84_14 rfl rfl) ?_
  refine D_r rfl rfl rfl (q_load ag_4 rfl aP rfl) ?_
  refine D_p rfl rfl rfl (q_not rfl) ?_
  refine D_p rfl rfl rfl (q_pickF rfl rfl) ?_
  refine D_p rfl rfl rfl (q_move rfl) ?_
  refine D_bool 21 _ rfl (fun ht21 => ?_) (fun ht21 => ?_)
  ·
   try simp only [CL] at ht21
   have hg : y.b.heard n note = y.b := heard_no (.inr (.inl ht21))
   refine D_pskip rfl rfl rfl ?_
   refine D_rskip rfl rfl rfl ?_
   refine D_pskip rfl rfl rfl ?_
   refine D_pskip rfl rfl rfl ?_
   refine D_pskip rfl rfl rfl ?_
   refine D_rskip rfl rfl rfl ?_
   refine D_pskip rfl rfl rfl ?_
   refine D_p rfl rfl rfl (q_pickT rfl rfl) ?_
   refine D_nil ?_
   refine N_seq ?_
   refine C_condT rfl ?_
   refine C_ret fun a w ha hk => ?_
   exact R_val (e := .ret) (.inl rfl) ha.defers (res0 rfl) (hR _ _ _ ⟨rfl, y, ⟨hy, hg.symm, rfl, Nat.le_add_right _ _⟩, Nat.le_refl _, rfl⟩ (hk.take (by (try simp only [BrA.kb_eq]); exact aT)))
  ·
   try simp only [CL] at ht21
   refine D_p rfl rfl rfl (q_fieldAddr fb_72_5 rfl rfl) ?_
   refine D_r rfl rfl rfl (q_load ag_31 rfl aP rfl) ?_
   refine D_p rfl rfl rfl (q_move rfl) ?_
   refine D_p rfl rfl rfl (q_nilCheck rfl) ?_
   refine D_p rfl rfl rfl (q_fieldAddr fb_84_9 rfl rfl) ?_
   refine D_r rfl rfl rfl (q_load ag_31 rfl aP rfl) ?_
   refine D_p rfl rfl rfl (q_int rfl rfl rfl) ?_
   refine D_p rfl rfl rfl (q_pickF rfl rfl) ?_
   refine D_nil ?_
   refine N_seq ?_
   refine C_cond rfl (fun ht29 => ?_) (fun ht29 => ?_)
   ·
    try simp only [CL] at ht29
    have hg : y.b.heard n note = y.b := heard_no (.inr (.inr ht29))
    refine C_ret fun a w ha hk => ?_
    exact R_val (e := .ret) (.inl rfl) ha.defers (res0 rfl) (hR _ _ _ ⟨rfl, y, ⟨hy, hg.symm, rfl, Nat.le_add_right _ _⟩, Nat.le_refl _, rfl⟩ (hk.take (by (try simp only [BrA.kb_eq]); exact aT)))
   ·
    try simp only [CL] at ht29
    have hg := heard_go (b := y.b) (n := n) (note := note) (by simpa [BrA.b] using ht14) (by simpa [BrA.b] using ht21) ht29
    refine C_skip ?_
    refine N_seq ?_
    refine C_cut (ι := { y1 : BrA // y1.Ok ∧ y1.blk = y.blk ∧ y1.b = heardB y.b n note ∧ y1.sz = y.sz ∧ y1.jobs.length = y.jobs.length }) (fun _ => [(0, y.ptr), (1, .int .i64 n)]) (fun y1 => y1.1.kb ++ F) ?_ ?_
    ·
     refine C_seq ?_
     refine C_draw (.cons 0 .pure (.cons 1 .pure (.cons 2 .pure (.cons 3 .read (.cons 4 .pure (.cons 5 .read (.cons 6 .read (.cons 7 .pure .nil)))))))) (fun w => Knows w _) 8 mo (by kernel_rfl) (fun _ h => h) ?_
     refine D_p rfl rfl rfl (q_move rfl) ?_
     refine D_p rfl rfl rfl (q_nilCheck rfl) ?_
     refine D_p rfl rfl rfl (q_fieldAddr fb_84_4 rfl rfl) ?_
     refine D_r rfl rfl rfl (q_load ag_82 rfl aP rfl) ?_
     refine D_p rfl rfl rfl (q_fieldAddr fb_72_6 rfl rfl) ?_
     refine D_r rfl rfl rfl (q_load ag_31 rfl aP rfl) ?_
     refine D_r rfl rfl rfl (q_lookup Tryz.underlying82 Tryz.underlying31 zf_86 rfl rfl (MapAt.of aP) (look_ptr _ _)) ?_
     refine D_p rfl rfl rfl (q_assign rfl) ?_
     refine D_nil ?_
     refine N_seq ?_
     refine C_seq ?_
     refine C_region ?_
     refine wm (i := 0) rfl rfl rfl rfl ?_
     refine W_q (i := 1) rfl rfl rfl (q_nePtrV Tryz.underlying86 rfl rfl) ?_
     refine wm (i := 2) rfl rfl rfl rfl ?_
     refine W_bool 39 _ rfl (fun ht39 => ?_) (fun ht39 => ?_)
     ·
      try simp only [CL] at ht39
      obtain ⟨j, hlk⟩ : ∃ j, Qd.lookA y.jobs note.job = some j := Option.isSome_iff_exists.1 ht39
      rw [ptrV_some hlk]
      obtain ⟨hjo, hji, hjk⟩ := hy.at hlk
      have h16 := hjo.a16
      have hjr := hjo.rn
      refine W_take (y.kb ++ ((b5, Cells (noteV note bl) 72) :: F)) (by (try simp only [BrA.kb_eq]); exact aT) ?_
      refine W_perm _ ?_ ((BrA.open_ hlk).append_right ((b5, Cells (noteV note bl) 72) :: F))
      rw [opn_eq]
      try simp only [NL]
      refine wm (i := 3) rfl rfl rfl rfl ?_
      refine wc (i := 4) rfl rfl rfl rfl ?_
      refine W_q (i := 5) rfl rfl rfl (q_fieldAddr fb_90_11 rfl rfl) ?_
      refine W_q (i := 6) rfl rfl rfl (q_load ag_88 rfl aP rfl) ?_
      refine W_q (i := 7) rfl rfl rfl (q_neMapNil Tryz.underlying88 rfl rfl) ?_
      refine W_q (i := 8) rfl rfl rfl (q_pickT rfl rfl) ?_
      refine wm (i := 9) rfl rfl rfl rfl ?_
      refine W_bool 46 _ rfl (fun ht46 => ?_) (fun ht46 => ?_)
      ·
       try simp only [CL] at ht46
       obtain ⟨r, hrn⟩ : ∃ r, j.rn = some r := Option.isSome_iff_exists.1 (by simpa using ht46)
       obtain ⟨rs, hr1⟩ : ∃ rs, j.x.ran = some rs := Option.isSome_iff_exists.1 (by rw [hjr, hrn]; rfl)
       refine W_q (i := 10) rfl rfl rfl (q_fieldAddr fb_72_10 rfl rfl) ?_
       refine W_q (i := 11) rfl rfl rfl (q_load ag_31 rfl aP rfl) ?_
       refine W_q (i := 12) rfl rfl rfl (q_int rfl rfl rfl) ?_
       refine W_q (i := 13) rfl rfl rfl (q_pickT rfl rfl) ?_
       refine wm (i := 14) rfl rfl rfl rfl ?_
       refine W_bool 51 _ rfl (fun ht51 => ?_) (fun ht51 => ?_)
       ·
        try simp only [CL] at ht51
        refine wm (i := 15) rfl rfl rfl rfl ?_
        refine wc (i := 16) rfl rfl rfl rfl ?_
        refine W_q (i := 17) rfl rfl rfl (q_fieldAddr fb_90_1 rfl rfl) ?_
        refine W_q (i := 18) rfl rfl rfl (q_load ag_66 rfl aP rfl) ?_
        refine wm (i := 19) rfl rfl rfl rfl ?_
        refine W_call (i := 20) rfl rfl rfl rfl rfl rfl pf_51 (s_contains j.at_ j.x.at_ n hjo.at_ (by omega)) aC ?_
        rintro _ _ ⟨rfl, rfl⟩
        refine W_q (i := 21) rfl rfl rfl (q_pickT rfl rfl) ?_
        refine W_nil ?_
        refine N_seq ?_
        refine C_cond rfl (fun ht58 => ?_) (fun ht58 => ?_)
        ·
         try simp only [CL] at ht58
         rw [hrn, hr1, ranKb_some]
         simp only [Option.getD_some, List.cons_append, List.nil_append]
         refine C_draw (.cons 0 .pure (.cons 1 .pure (.cons 2 .pure (.cons 3 .read (.cons 4 .pure (.cons 5 .pure (.cons 6 .read (.cons 7 .pure (.cons 8 .read (.cons 9 .pure (.cons 10 .eff .nil))))))))))) (fun w => Knows w _) 10 mo (by kernel_rfl) (fun _ h => h) ?_
         refine D_p rfl rfl rfl (q_move rfl) ?_
         refine D_p rfl rfl rfl (q_nilCheck rfl) ?_
         refine D_p rfl rfl rfl (q_fieldAddr fb_90_11 rfl rfl) ?_
         refine D_r rfl rfl rfl (q_load ag_88 rfl aP rfl) ?_
         rw [hrn]
         refine D_p rfl rfl rfl (q_move rfl) ?_
         refine D_p rfl rfl rfl (q_fieldAddr fb_72_10 rfl rfl) ?_
         refine D_r rfl rfl rfl (q_load ag_31 rfl aP rfl) ?_
         refine D_p rfl rfl rfl (q_fieldAddr fb_72_11 rfl rfl) ?_
         refine D_r rfl rfl rfl (q_load ag_31 rfl aP rfl) ?_
         refine D_p rfl rfl rfl (q_buildArr2 Tryz.underlying175 sz_31 zf_175 rfl rfl) ?_
         refine D_e rfl rfl rfl (e_mapUpdate Tryz.underlying88 Tryz.underlying3 rfl rfl (v := ranV (note.frm, note.to)) rfl (putI_mapV ranV rs n (note.frm, note.to)) aU) (.inl rfl) ?_
         intro _
         refine D_nil ?_
         exact fun a w ha hk => ⟨⟨y.set note.job (ranSet j n note.frm note.to), hy.set hlk (ranSet_ok hjo hr1 h32 ht58) hji rfl, rfl, by unfold heardB; rw [job_b, hlk]; dsimp only [Option.map_some]; rw [hr1]; dsimp only; rw [if_pos ⟨ht51, ht58⟩, BrA.set_b]; simp only [ranSet, hr1, Option.getD_some], rfl, by simp only [BrA.set]; exact Qd.len_put hlk⟩, ha.sub aS, ((hk.take (T := opn (y.set note.job (ranSet j n note.frm note.to)) (ranSet j n note.frm note.to) (mapV JobA.ptr y.jobs) (mapKb JobA.kb (Qd.delA y.jobs note.job)) ++ F) (by have hrk : ∀ m, ranKb j.rn m = [(r, MapI .i64 (mapV ranV m))] := (fun m => by rw [hrn]; rfl); simp only [opn_eq, ranSet, hrk, hr1]; (try simp only [BrA.set, BrA.osK, BrA.isK, BrA.dsK, BrA.msK, Option.getD_some]); (try simp only [NL]); repeat (first | exact takes_nil | with_reducible exact takes_refl | ((with_reducible apply takes_app); focus ((repeat (first | exact tk_here | exact tk_all | apply tk_app | apply tk_cons)); done)) | ((with_reducible apply takes_cons); focus ((repeat (first | exact tk_one | apply tk_app | apply tk_cons)); done)) | exact takes_last (by focus ((repeat (first | exact tk_here | exact tk_all | apply tk_app | apply tk_cons)); done)) | exact takes_refl))).perm ((BrA.close_ (y := y.set note.job (ranSet j n note.frm note.to)) (id := note.job) (a := (ranSet j n note.frm note.to)) BrA.set_look (BrA.set_pm (y := y) (a' := (ranSet j n note.frm note.to)) hlk rfl) (BrA.set_js (y := y) (a' := (ranSet j n note.frm note.to)) hlk)).append_right F))⟩
        ·
         try simp only [CL] at ht58
         refine C_skip ?_
         exact fun a w ha hk => ⟨⟨y, hy, rfl, by unfold heardB; rw [job_b, hlk]; dsimp only [Option.map_some]; rw [hr1]; dsimp only; rw [if_neg (fun h => ht58 h.2)], rfl, rfl⟩, ha.sub aS, ((hk.take (T := opn y j (mapV JobA.ptr y.jobs) (mapKb JobA.kb (Qd.delA y.jobs note.job)) ++ F) (by (try simp only [opn_eq]); exact aT)).perm ((BrA.open_ hlk).symm.append_right F))⟩
       ·
        try simp only [CL] at ht51
        refine W_skip (i := 15) rfl rfl rfl ?_
        refine W_skip (i := 16) rfl rfl rfl ?_
        refine W_skip (i := 17) rfl rfl rfl ?_
        refine W_skip (i := 18) rfl rfl rfl ?_
        refine W_skip (i := 19) rfl rfl rfl ?_
        refine W_skip (i := 20) rfl rfl rfl ?_
        refine W_q (i := 21) rfl rfl rfl (q_pickF rfl rfl) ?_
        refine W_nil ?_
        refine N_seq ?_
        refine C_condF rfl ?_
        refine C_skip ?_
        exact fun a w ha hk => ⟨⟨y, hy, rfl, by unfold heardB; rw [job_b, hlk]; dsimp only [Option.map_some]; rw [hr1]; dsimp only; rw [if_neg (fun h => ht51 h.1)], rfl, rfl⟩, ha.sub aS, ((hk.take (T := opn y j (mapV JobA.ptr y.jobs) (mapKb JobA.kb (Qd.delA y.jobs note.job)) ++ F) (by (try simp only [opn_eq]); exact aT)).perm ((BrA.open_ hlk).symm.append_right F))⟩
      ·
       try simp only [CL] at ht46
       have hr0 : j.x.ran = none := by have h9 : j.rn = none := (by simpa using ht46); rw [h9] at hjr; simpa using hjr
       refine W_skip (i := 10) rfl rfl rfl ?_
       refine W_skip (i := 11) rfl rfl rfl ?_
       refine W_skip (i := 12) rfl rfl rfl ?_
       refine W_q (i := 13) rfl rfl rfl (q_pickF rfl rfl) ?_
       refine wm (i := 14) rfl rfl rfl rfl ?_
       refine W_skip (i := 15) rfl rfl rfl ?_
       refine W_skip (i := 16) rfl rfl rfl ?_
       refine W_skip (i := 17) rfl rfl rfl ?_
       refine W_skip (i := 18) rfl rfl rfl ?_
       refine W_skip (i := 19) rfl rfl rfl ?_
       refine W_skip (i := 20) rfl rfl rfl ?_
       refine W_q (i := 21) rfl rfl rfl (q_pickF rfl rfl) ?_
       refine W_nil ?_
       refine N_seq ?_
       refine C_condF rfl ?_
       refine C_skip ?_
       exact fun a w ha hk => ⟨⟨y, hy, rfl, by unfold heardB; rw [job_b, hlk]; dsimp only [Option.map_some]; rw [hr0], rfl, rfl⟩, ha.sub aS, ((hk.take (T := opn y j (mapV JobA.ptr y.jobs) (mapKb JobA.kb (Qd.delA y.jobs note.job)) ++ F) (by (try simp only [opn_eq]); exact aT)).perm ((BrA.open_ hlk).symm.append_right F))⟩
     ·
      try simp only [CL] at ht39
      have hno : Qd.lookA y.jobs note.job = none := by simpa using ht39
      refine W_skip (i := 3) rfl rfl rfl ?_
      refine W_skip (i := 4) rfl rfl rfl ?_
      refine W_skip (i := 5) rfl rfl rfl ?_
      refine W_skip (i := 6) rfl rfl rfl ?_
      refine W_skip (i := 7) rfl rfl rfl ?_
      refine W_q (i := 8) rfl rfl rfl (q_pickF rfl rfl) ?_
      refine wm (i := 9) rfl rfl rfl rfl ?_
      refine W_skip (i := 10) rfl rfl rfl ?_
      refine W_skip (i := 11) rfl rfl rfl ?_
      refine W_skip (i := 12) rfl rfl rfl ?_
      refine W_q (i := 13) rfl rfl rfl (q_pickF rfl rfl) ?_
      refine wm (i := 14) rfl rfl rfl rfl ?_
      refine W_skip (i := 15) rfl rfl rfl ?_
      refine W_skip (i := 16) rfl rfl rfl ?_
      refine W_skip (i := 17) rfl rfl rfl ?_
      refine W_skip (i := 18) rfl rfl rfl ?_
      refine W_skip (i := 19) rfl rfl rfl ?_
      refine W_skip (i := 20) rfl rfl rfl ?_
      refine W_q (i := 21) rfl rfl rfl (q_pickF rfl rfl) ?_
      refine W_nil ?_
      refine N_seq ?_
      refine C_condF rfl ?_
      refine C_skip ?_
      exact fun a w ha hk => ⟨⟨y, hy, rfl, by unfold heardB; rw [job_b, hno]; rfl, rfl, rfl⟩, ha.sub aS, hk.take (by (try simp only [BrA.kb_eq]); exact aT)⟩
    ·
     rintro ⟨y1, h1ok, h1blk, h1b, h1sz, h1len⟩
     dsimp only
     refine C_region ?_
     refine wm (i := 0) rfl rfl rfl rfl ?_
     refine wm (i := 1) rfl rfl rfl rfl ?_
     refine W_call (i := 2) rfl rfl rfl rfl rfl rfl pf_54 ((show Spec Tryz.prog 54 [y.ptr, .int .i64 n] y1.kb (fun v K' => v = .tuple #[] ∧ ∃ y', BTop y1 y' (y1.b.stopHeard n) 200 ∧ y'.jobs.length ≤ y1.jobs.length ∧ K' = y'.kb) from by rw [show y.ptr = y1.ptr from by simp only [BrA.ptr, h1blk]]; exact s_stopHeard y1 h1ok n (by omega) (by omega))) aC ?_
     rintro _ _ ⟨rfl, y', hto, hlen, rfl⟩
     refine W_nil ?_
     intro a w ha hk
     exact R_val (e := .normal) (.inr rfl) ha.defers (res0 rfl) (hR _ _ _ ⟨rfl, y', ⟨hto.ok, by rw [hto.b, hg, h1b], hto.blk.trans h1blk, by have := hto.sz; omega⟩, by omega, rfl⟩ hk)
end Go.SL
namespace Go.SL
open Go Go.Proofs
set_option maxRecDepth 10000
/-- a job with an image under way -/
def savJ (j : JobA) (s : SavA) : JobA := { j with x := { j.x with saving := some s.s }, sv := some s }
theorem savJ_ok {j : JobA} (h : j.Ok) {s : SavA} (h1 : s.Ok) (h2 : s.s.img.job = j.x.j.id) (h3 : s.s.told = false → s.s.img.blobs.length = j.x.at_.length) : (savJ j s).Ok :=
  ⟨h.at_, h.a16, h.atn, h.ld, h.ld1, rfl, fun s hs => by cases hs; exact ⟨h1, h2, h3⟩, h.dr, h.rn, h.r32, h.rle, h.idr, h.kr, h.rnk, h.rat⟩
def BrA.ima (y : BrA) (ims : List ImA) (isl : Sl) : BrA := { y with ims, isl }
theorem BrA.Ok.ima {y : BrA} (hy : y.Ok) {ims : List ImA} {isl : Sl} (h : isl.Ok (flat ImA.cells ims) 4) (h2 : ∀ x ∈ ims, x.Ok) : (y.ima ims isl).Ok := { hy with isl := h, ims := h2 }
theorem imsKb_snoc (xs : List ImA) (x : ImA) : imsKb (xs ++ [x]) = imsKb xs ++ x.own := by simp [imsKb]
theorem svKb_some (s : SavA) : svKb (some s) = s.kb := rfl
theorem encB_one (xs : List Int) : (encB xs).all oneC = true := by
  simp only [encB, List.all_map, List.all_eq_true]; intro x _; rfl
theorem idxOf_at {xs : List Int} {x : Int} (h : x ∈ xs) : xs.idxOf x < xs.length := List.idxOf_lt_length_iff.2 h
theorem ag_22 : aggB Tryz.prog 22 = some false := by kernel_rfl
theorem ag_51 : aggB Tryz.prog 51 = some false := by kernel_rfl
theorem ag_58 : aggB Tryz.prog 58 = some false := by kernel_rfl
theorem ag_60 : aggB Tryz.prog 60 = some true := by kernel_rfl
theorem fb_131_0 : fieldB Tryz.prog 131 0 = some 0 := by kernel_rfl
theorem fb_131_1 : fieldB Tryz.prog 131 1 = some 4 := by kernel_rfl
theorem fb_131_2 : fieldB Tryz.prog 131 2 = some 5 := by kernel_rfl
theorem fb_60_1 : fieldB Tryz.prog 60 1 = some 1 := by kernel_rfl
theorem fb_60_3 : fieldB Tryz.prog 60 3 = some 3 := by kernel_rfl
theorem fb_72_12 : fieldB Tryz.prog 72 12 = some 12 := by kernel_rfl
theorem fb_72_7 : fieldB Tryz.prog 72 7 = some 7 := by kernel_rfl
theorem fb_72_8 : fieldB Tryz.prog 72 8 = some 8 := by kernel_rfl
theorem fb_84_7 : fieldB Tryz.prog 84 7 = some 10 := by kernel_rfl
theorem inf_60 : infoB Tryz.prog 60 = some (some (Go.Value.agg #[Go.Value.int (Go.IntKind.u32) 0, Go.Value.int (Go.IntKind.u32) 0, Go.Value.int (Go.IntKind.i64) 0, Go.Value.slice none 0 0]), 4, 40) := by kernel_rfl
theorem pf_105 : plainFn Tryz.prog 105 = true := by kernel_rfl
theorem sz_22 : sizeB Tryz.prog 22 = some 1 := by kernel_rfl
theorem sz_51 : sizeB Tryz.prog 51 = some 1 := by kernel_rfl
theorem sz_60 : sizeB Tryz.prog 60 = some 4 := by kernel_rfl
set_option maxHeartbeats 2000000 in
theorem s_saved [Bs] (y : BrA) (hy : y.Ok) (id : Int) (j : JobA) (hlk : Qd.lookA y.jobs id = some j) (n : Int) (hnat : n ∈ j.x.at_) (note : Qd.Note) (bl : Sl) (hbl : bl.Ok (encB note.blob) 1) (hbb : bl.len ≤ 1000000) (hrk : 0 ≤ note.rank ∧ note.rank ≤ 255) (hsz0 : y.sz + 1 ≤ BIG) : Spec Tryz.prog 67 [y.ptr, j.ptr, .int .i64 n, .agg (noteV note bl.val).toArray] (y.kb ++ bl.kb (encB note.blob) 1 5) (fun v K' => v = .tuple #[] ∧ ∃ y', BTo y y' id (y.b.saved id j.x n note) 1 ∧ K' = y'.kb) := by
 obtain ⟨hjo, hji, hjk⟩ := hy.at hlk
 have h16 := hjo.a16
 have hjs := hjo.sv
 have hal : j.at_.len = j.x.at_.length := by have := hjo.at_.vlen; simp [encI] at this; omega
 obtain ⟨rk, hrke⟩ : ∃ rk, j.x.at_.idxOf n = rk := ⟨_, rfl⟩
 have hrkl : rk < j.x.at_.length := by rw [← hrke]; exact idxOf_at hnat
 have hsz : y.sz + 1 ≤ BIG := hsz0
 unfold BrA.sz BIG at hsz
 have hil : y.isl.len = y.ims.length := by have := hy.isl.vlen; rw [flat_len ImA.cells_len] at this; omega
 have hbe : (encB note.blob).length = bl.len := by have := hbl.vlen; omega
 refine spec_body Tryz.func67 rfl rfl fun F R hR => ?_
 try simp only [NL]
 refine C_perm _ ?_ ((BrA.open_ hlk).append_right (bl.kb (encB note.blob) 1 5 ++ F))
 rw [opn_eq]
 try simp only [NL]
 refine C_seq ?_
 refine C_region ?_
 refine W_e (i := 0) rfl rfl rfl (e_box rfl) ?_
 intro b7
 refine W_nil ?_
 refine N_seq ?_
 refine C_seq ?_
 refine C_region ?_
 refine wm (i := 0) rfl rfl rfl rfl ?_
 refine wc (i := 1) rfl rfl rfl rfl ?_
 refine W_q (i := 2) rfl rfl rfl (q_fieldAddr fb_90_5 rfl rfl) ?_
 refine W_q (i := 3) rfl rfl rfl (q_load ag_87 rfl aP rfl) ?_
 refine wa (i := 4) rfl rfl rfl rfl ?_
 refine W_nil ?_
 refine N_seq ?_
 refine C_seq ?_
 refine C_region ?_
 refine wm (i := 0) rfl rfl rfl rfl ?_
 refine wc (i := 1) rfl rfl rfl rfl ?_
 refine W_q (i := 2) rfl rfl rfl (q_fieldAddr fb_90_1 rfl rfl) ?_
 refine W_q (i := 3) rfl rfl rfl (q_load ag_66 rfl aP rfl) ?_
 refine wm (i := 4) rfl rfl rfl rfl ?_
 refine W_call (i := 5) rfl rfl rfl rfl rfl rfl pf_93 (s_index j.at_ j.x.at_ n hjo.at_ (by omega)) aC ?_
 rintro _ _ ⟨rfl, rfl⟩
 rw [if_pos hnat, hrke]
 refine wa (i := 6) rfl rfl rfl rfl ?_
 refine W_nil ?_
 refine N_seq ?_
 refine C_seq ?_
 refine C_seq ?_
 refine C_draw (.cons 0 .pure (.cons 1 .pure (.cons 2 .pure (.cons 3 .pure (.cons 4 .pure (.cons 5 .pure (.cons 6 .read (.cons 7 .pure (.cons 8 .pure (.cons 9 .pure (.cons 10 .read (.cons 11 .pure (.cons 12 .pure (.cons 13 .pure (.cons 14 .pure (.cons 15 .read (.cons 16 .pure (.cons 17 .pure (.cons 18 .pure (.cons 19 .pure (.cons 20 .read (.cons 21 .pure (.cons 22 .pure (.cons 23 .pure (.cons 24 .pure .nil))))))))))))))))))))))))) (fun w => Knows w _) 25 mo (by kernel_rfl) (fun _ h => h) ?_
 refine D_p rfl rfl rfl (q_move rfl) ?_
 refine D_p rfl rfl rfl (q_eqSv Tryz.underlying87 rfl rfl) ?_
 refine D_p rfl rfl rfl (q_move rfl) ?_
 refine D_bool 22 _ rfl (fun ht22 => ?_) (fun ht22 => ?_)
 ·
  try simp only [CL] at ht22
  have hsv : j.sv = none := by simpa using ht22
  have hg : y.b.saved id j.x n note = y.b := by rw [Qd.Brain.saved, hjs, hsv]; rfl
  refine D_pskip rfl rfl rfl ?_
  refine D_pskip rfl rfl rfl ?_
  refine D_pskip rfl rfl rfl ?_
  refine D_rskip rfl rfl rfl ?_
  refine D_p rfl rfl rfl (q_pickT rfl rfl) ?_
  refine D_p rfl rfl rfl (q_move rfl) ?_
  refine D_pskip rfl rfl rfl ?_
  refine D_rskip rfl rfl rfl ?_
  refine D_pskip rfl rfl rfl ?_
  refine D_pskip rfl rfl rfl ?_
  refine D_pskip rfl rfl rfl ?_
  refine D_pskip rfl rfl rfl ?_
  refine D_rskip rfl rfl rfl ?_
  refine D_pskip rfl rfl rfl ?_
  refine D_p rfl rfl rfl (q_pickT rfl rfl) ?_
  refine D_p rfl rfl rfl (q_move rfl) ?_
  refine D_pskip rfl rfl rfl ?_
  refine D_rskip rfl rfl rfl ?_
  refine D_pskip rfl rfl rfl ?_
  refine D_pskip rfl rfl rfl ?_
  refine D_pskip rfl rfl rfl ?_
  refine D_p rfl rfl rfl (q_pickT rfl rfl) ?_
  refine D_nil ?_
  refine N_seq ?_
  refine C_condT rfl ?_
  refine C_ret fun a w ha hk => ?_
  exact R_val (e := .ret) (.inl rfl) ha.defers (res0 rfl) (hR _ _ _ ⟨rfl, y, BTo.same hy 1 hg.symm, rfl⟩ ((hk.take (T := opn y j (mapV JobA.ptr y.jobs) (mapKb JobA.kb (Qd.delA y.jobs id)) ++ F) (by rw [opn_eq]; (try simp only [NL]); repeat (first | exact takes_nil | with_reducible exact takes_refl | ((with_reducible apply takes_app); focus ((repeat (first | exact tk_here | exact tk_all | apply tk_app | apply tk_cons)); done)) | ((with_reducible apply takes_cons); focus ((repeat (first | exact tk_one | apply tk_app | apply tk_cons)); done)) | exact takes_last (by focus ((repeat (first | exact tk_here | exact tk_all | apply tk_app | apply tk_cons)); done)) | exact takes_refl))).perm ((BrA.open_ hlk).symm.append_right F)))
 ·
  try simp only [CL] at ht22
  obtain ⟨s, hsv⟩ : ∃ s, j.sv = some s := Option.isSome_iff_exists.1 ht22
  obtain ⟨hso, hsj, hsl9⟩ := hjo.svo s hsv
  have hjc : j.cells = (savJ j s).cells := by simp only [JobA.cells, savJ, hsv]
  rw [hsv, svKb_some, hjc]
  simp only [SavA.kb, List.cons_append]
  refine D_p rfl rfl rfl (q_move rfl) ?_
  refine D_p rfl rfl rfl (q_nilCheck rfl) ?_
  refine D_p rfl rfl rfl (q_fieldAddr fb_131_2 rfl rfl) ?_
  refine D_r rfl rfl rfl (q_load (v := .bool s.s.told) ag_4 rfl aP rfl) ?_
  refine D_p rfl rfl rfl (q_pickF rfl rfl) ?_
  refine D_p rfl rfl rfl (q_move rfl) ?_
  refine D_bool 28 _ rfl (fun ht28 => ?_) (fun ht28 => ?_)
  ·
   try simp only [CL] at ht28
   have hg : y.b.saved id j.x n note = y.b := by rw [Qd.Brain.saved, hjs, hsv]; dsimp only [Option.map_some]; rw [if_pos (.inl ht28)]
   refine D_pskip rfl rfl rfl ?_
   refine D_rskip rfl rfl rfl ?_
   refine D_pskip rfl rfl rfl ?_
   refine D_pskip rfl rfl rfl ?_
   refine D_pskip rfl rfl rfl ?_
   refine D_pskip rfl rfl rfl ?_
   refine D_rskip rfl rfl rfl ?_
   refine D_pskip rfl rfl rfl ?_
   refine D_p rfl rfl rfl (q_pickT rfl rfl) ?_
   refine D_p rfl rfl rfl (q_move rfl) ?_
   refine D_pskip rfl rfl rfl ?_
   refine D_rskip rfl rfl rfl ?_
   refine D_pskip rfl rfl rfl ?_
   refine D_pskip rfl rfl rfl ?_
   refine D_pskip rfl rfl rfl ?_
   refine D_p rfl rfl rfl (q_pickT rfl rfl) ?_
   refine D_nil ?_
   refine N_seq ?_
   refine C_condT rfl ?_
   refine C_ret fun a w ha hk => ?_
   exact R_val (e := .ret) (.inl rfl) ha.defers (res0 rfl) (hR _ _ _ ⟨rfl, y, BTo.same hy 1 hg.symm, rfl⟩ ((hk.take (T := opn y j (mapV JobA.ptr y.jobs) (mapKb JobA.kb (Qd.delA y.jobs id)) ++ F) (by rw [opn_eq]; rw [hsv, svKb_some, hjc]; simp only [SavA.kb]; (try simp only [NL]); repeat (first | exact takes_nil | with_reducible exact takes_refl | ((with_reducible apply takes_app); focus ((repeat (first | exact tk_here | exact tk_all | apply tk_app | apply tk_cons)); done)) | ((with_reducible apply takes_cons); focus ((repeat (first | exact tk_one | apply tk_app | apply tk_cons)); done)) | exact takes_last (by focus ((repeat (first | exact tk_here | exact tk_all | apply tk_app | apply tk_cons)); done)) | exact takes_refl))).perm ((BrA.open_ hlk).symm.append_right F)))
  ·
   try simp only [CL] at ht28
   have htold : s.s.told = false := by simpa using ht28
   have hbs := hso htold
   have hbl9 := hsl9 htold
   refine D_p rfl rfl rfl (q_fieldAddr fb_72_7 rfl rfl) ?_
   refine D_r rfl rfl rfl (q_load ag_31 rfl aP rfl) ?_
   refine D_p rfl rfl rfl (q_move rfl) ?_
   refine D_p rfl rfl rfl (q_nilCheck rfl) ?_
   refine D_p rfl rfl rfl (q_fieldAddr fb_131_0 rfl rfl) ?_
   refine D_p rfl rfl rfl (q_fieldAddr fb_60_1 rfl rfl) ?_
   refine D_r rfl rfl rfl (q_load (v := .int .u32 s.s.img.ver) ag_31 rfl aP rfl) ?_
   refine D_p rfl rfl rfl (q_int rfl rfl rfl) ?_
   refine D_p rfl rfl rfl (q_pickF rfl rfl) ?_
   refine D_p rfl rfl rfl (q_move rfl) ?_
   refine D_bool 38 _ rfl (fun ht38 => ?_) (fun ht38 => ?_)
   ·
    try simp only [CL] at ht38
    have hg : y.b.saved id j.x n note = y.b := by rw [Qd.Brain.saved, hjs, hsv]; dsimp only [Option.map_some]; rw [if_pos (.inr (.inl ht38))]
    refine D_pskip rfl rfl rfl ?_
    refine D_rskip rfl rfl rfl ?_
    refine D_pskip rfl rfl rfl ?_
    refine D_pskip rfl rfl rfl ?_
    refine D_pskip rfl rfl rfl ?_
    refine D_p rfl rfl rfl (q_pickT rfl rfl) ?_
    refine D_nil ?_
    refine N_seq ?_
    refine C_condT rfl ?_
    refine C_ret fun a w ha hk => ?_
    exact R_val (e := .ret) (.inl rfl) ha.defers (res0 rfl) (hR _ _ _ ⟨rfl, y, BTo.same hy 1 hg.symm, rfl⟩ ((hk.take (T := opn y j (mapV JobA.ptr y.jobs) (mapKb JobA.kb (Qd.delA y.jobs id)) ++ F) (by rw [opn_eq]; rw [hsv, svKb_some, hjc]; simp only [SavA.kb]; (try simp only [NL]); repeat (first | exact takes_nil | with_reducible exact takes_refl | ((with_reducible apply takes_app); focus ((repeat (first | exact tk_here | exact tk_all | apply tk_app | apply tk_cons)); done)) | ((with_reducible apply takes_cons); focus ((repeat (first | exact tk_one | apply tk_app | apply tk_cons)); done)) | exact takes_last (by focus ((repeat (first | exact tk_here | exact tk_all | apply tk_app | apply tk_cons)); done)) | exact takes_refl))).perm ((BrA.open_ hlk).symm.append_right F)))
   ·
    try simp only [CL] at ht38
    refine D_p rfl rfl rfl (q_fieldAddr fb_72_8 rfl rfl) ?_
    refine D_r rfl rfl rfl (q_load ag_5 rfl aP rfl) ?_
    refine D_p rfl rfl rfl (q_conv Tryz.underlying5 Tryz.underlying3 rfl (r := note.rank) (wrap64_id (by omega) (by omega))) ?_
    refine D_p rfl rfl rfl (q_move rfl) ?_
    refine D_p rfl rfl rfl (q_int rfl rfl rfl) ?_
    refine D_p rfl rfl rfl (q_pickF rfl rfl) ?_
    refine D_nil ?_
    refine N_seq ?_
    refine C_cond rfl (fun ht44 => ?_) (fun ht44 => ?_)
    ·
     try simp only [CL] at ht44
     have hg : y.b.saved id j.x n note = y.b := by rw [Qd.Brain.saved, hjs, hsv]; dsimp only [Option.map_some]; rw [if_pos (.inr (.inr (by rw [hrke]; exact ht44)))]
     refine C_ret fun a w ha hk => ?_
     exact R_val (e := .ret) (.inl rfl) ha.defers (res0 rfl) (hR _ _ _ ⟨rfl, y, BTo.same hy 1 hg.symm, rfl⟩ ((hk.take (T := opn y j (mapV JobA.ptr y.jobs) (mapKb JobA.kb (Qd.delA y.jobs id)) ++ F) (by rw [opn_eq]; rw [hsv, svKb_some, hjc]; simp only [SavA.kb]; (try simp only [NL]); repeat (first | exact takes_nil | with_reducible exact takes_refl | ((with_reducible apply takes_app); focus ((repeat (first | exact tk_here | exact tk_all | apply tk_app | apply tk_cons)); done)) | ((with_reducible apply takes_cons); focus ((repeat (first | exact tk_one | apply tk_app | apply tk_cons)); done)) | exact takes_last (by focus ((repeat (first | exact tk_here | exact tk_all | apply tk_app | apply tk_cons)); done)) | exact takes_refl))).perm ((BrA.open_ hlk).symm.append_right F)))
    ·
     try simp only [CL] at ht44
     have hg : y.b.saved id j.x n note = if (Qd.addS s.s.have_ n).length = j.x.at_.length then { y.b.setJob id { j.x with saving := some ⟨{ s.s.img with blobs := s.s.img.blobs.set rk note.blob }, Qd.addS s.s.have_ n, true⟩ } with images := y.b.images ++ [{ s.s.img with blobs := s.s.img.blobs.set rk note.blob }] } else y.b.setJob id { j.x with saving := some ⟨{ s.s.img with blobs := s.s.img.blobs.set rk note.blob }, Qd.addS s.s.have_ n, s.s.told⟩ } := by rw [Qd.Brain.saved, hjs, hsv]; dsimp only [Option.map_some]; rw [if_neg (by rw [hrke]; rintro (h | h | h); exact absurd h (by simp [htold]); exact h ht38; exact h ht44), hrke]
     rw [if_neg (by simp [htold])]
     simp only [SavA.im, ImA.own, List.append_assoc]
     have hbsl : s.bs.length = j.x.at_.length := by have h9 := hbs.eq; simp only [SavA.im] at h9; rw [← hbl9, h9]; simp
     have hsbl : s.bl.len = s.bs.length := by have h9 : s.bl.Ok (blobVals s.bs) 1 := hbs.bl; have := h9.vlen; simp [blobVals] at this; omega
     have hm1 : (setM (addS s.s.have_ n)).length = (addS s.s.have_ n).length := by simp [setM]
     have hm2 : (savJ j s).at_.len = j.at_.len := rfl
     have hnt : ¬ s.s.told = true := by simp [htold]
     obtain ⟨⟨ob, obv⟩, hob⟩ : ∃ r, s.bs[rk]? = some r := ⟨_, List.getElem?_eq_getElem (by omega)⟩
     have hoi : rk < (s.bs.map fun r => (r.1, encB r.2)).length := by simp; omega
     have hrow := rowsKb_at hoi 1 5
     have hoe9 : (s.bs.map fun r => (r.1, encB r.2))[rk]? = some (ob, encB obv) := by simp [hob]
     have hoe : (s.bs.map fun r => (r.1, encB r.2))[rk] = (ob, encB obv) := (List.getElem?_eq_some_iff.1 hoe9).2
     rw [hoe] at hrow
     refine C_swap (A := blobKb s.bs) aC hrow ?_
     try simp only [NL]
     refine C_skip ?_
     refine N_seq ?_
     refine C_seq ?_
     refine C_draw (.cons 0 .pure (.cons 1 .pure (.cons 2 .pure (.cons 3 .pure (.cons 4 .read (.cons 5 .pure (.cons 6 .pure (.cons 7 .read (.cons 8 .eff (.cons 9 .pure (.cons 10 .eff .nil))))))))))) (fun w => Knows w _) 10 mo (by kernel_rfl) (fun _ h => h) ?_
     refine D_p rfl rfl rfl (q_move rfl) ?_
     refine D_p rfl rfl rfl (q_nilCheck rfl) ?_
     refine D_p rfl rfl rfl (q_fieldAddr fb_131_0 rfl rfl) ?_
     refine D_p rfl rfl rfl (q_fieldAddr fb_60_3 rfl rfl) ?_
     refine D_r rfl rfl rfl (q_load (v := s.bl.val) ag_58 rfl aP rfl) ?_
     refine D_p rfl rfl rfl (q_move rfl) ?_
     refine D_p rfl rfl rfl (q_fieldAddr fb_72_12 rfl rfl) ?_
     refine D_r rfl rfl rfl (q_load ag_22 rfl aP rfl) ?_
     refine D_call rfl rfl rfl rfl rfl rfl pf_105 (s_bytesClone bl (encB note.blob) hbl hbb (encB_one _)) aC (.inr (by rintro _ _ _ ⟨bn, rfl, hbn, hbnl, rfl⟩ h; exact h.take aT)) ?_
     rintro _ _ ⟨bn, rfl, hbn, hbnl, rfl⟩
     try simp only [NL]
     refine D_p rfl rfl rfl (q_idxSl Tryz.underlying58 sz_22 hbs.bl rfl rfl (by omega) (by show (rk : Int) < (s.bl.len : Int); omega) rfl) ?_
     refine D_e rfl rfl rfl (e_storeSl (i := rk) sz_22 rfl rfl hbs.bl aC (by simp [SavA.im]) rfl (by simp [blobVals, SavA.im]; omega) (vs' := blobVals (s.bs.set rk (bn, note.blob))) (by simp [blobVals, SavA.im, List.map_set])) (.inl rfl) ?_
     intro _
     refine D_nil ?_
     refine N_seq ?_
     refine C_seq ?_
     refine C_region ?_
     refine wm (i := 0) rfl rfl rfl rfl ?_
     refine wc (i := 1) rfl rfl rfl rfl ?_
     refine W_q (i := 2) rfl rfl rfl (q_fieldAddr fb_131_1 rfl rfl) ?_
     refine W_q (i := 3) rfl rfl rfl (q_load (v := .map (some s.hv)) ag_81 rfl aP rfl) ?_
     refine wm (i := 4) rfl rfl rfl rfl ?_
     refine W_call (i := 5) rfl rfl rfl rfl rfl rfl pf_38 (s_add s.hv s.s.have_ n) (by repeat (first | exact tk_one | apply tk_app | apply tk_cons)) ?_
     rintro _ _ ⟨rfl, rfl⟩
     try simp only [NL]
     refine W_nil ?_
     refine N_seq ?_
     refine C_seq ?_
     refine C_draw (.cons 0 .pure (.cons 1 .pure (.cons 2 .pure (.cons 3 .read (.cons 4 .read (.cons 5 .pure (.cons 6 .pure (.cons 7 .pure (.cons 8 .read (.cons 9 .read (.cons 10 .pure .nil))))))))))) (fun w => Knows w _) 11 mo (by kernel_rfl) (fun _ h => h) ?_
     refine D_p rfl rfl rfl (q_move rfl) ?_
     refine D_p rfl rfl rfl (q_nilCheck rfl) ?_
     refine D_p rfl rfl rfl (q_fieldAddr fb_131_1 rfl rfl) ?_
     refine D_r rfl rfl rfl (q_load (v := .map (some s.hv)) ag_81 rfl aP rfl) ?_
     refine D_r rfl rfl rfl (q_lenMap Tryz.underlying81 rfl rfl (MapAt.of aP)) ?_
     refine D_p rfl rfl rfl (q_move rfl) ?_
     refine D_p rfl rfl rfl (q_nilCheck rfl) ?_
     refine D_p rfl rfl rfl (q_fieldAddr fb_90_1 rfl rfl) ?_
     refine D_r rfl rfl rfl (q_load ag_66 rfl aP rfl) ?_
     refine D_r rfl rfl rfl (q_lenSl Tryz.underlying66 rfl rfl) ?_
     refine D_p rfl rfl rfl (q_int rfl rfl rfl) ?_
     refine D_nil ?_
     refine N_seq ?_
     refine C_cond rfl (fun ht71 => ?_) (fun ht71 => ?_)
     ·
      try simp only [CL] at ht71
      have hfull : (Qd.addS s.s.have_ n).length = j.x.at_.length := (show (addS s.s.have_ n).length = j.x.at_.length from by omega)
      rw [if_pos hfull] at hg
      refine C_seq ?_
      refine C_region ?_
      refine wm (i := 0) rfl rfl rfl rfl ?_
      refine wc (i := 1) rfl rfl rfl rfl ?_
      refine W_q (i := 2) rfl rfl rfl (q_fieldAddr fb_131_2 rfl rfl) ?_
      refine W_e (i := 3) rfl rfl rfl (e_store sz_4 rfl rfl rfl aU (by first | decide | exact Nat.le_of_ble_eq_true rfl | simp [splice, Value.cells])) ?_
      intro _
      refine W_nil ?_
      refine N_seq ?_
      simp only [BrA.isK, List.append_assoc]
      refine C_draw (.cons 0 .pure (.cons 1 .pure (.cons 2 .pure (.cons 3 .pure (.cons 4 .read (.cons 5 .pure (.cons 6 .pure (.cons 7 .pure (.cons 8 .read (.cons 9 .eff (.cons 10 .eff (.cons 11 .pure (.cons 12 .pure (.cons 13 .eff .nil)))))))))))))) (fun w => Knows w _) 10 mo (by kernel_rfl) (fun _ h => h) ?_
      refine D_p rfl rfl rfl (q_move rfl) ?_
      refine D_p rfl rfl rfl (q_move rfl) ?_
      refine D_p rfl rfl rfl (q_nilCheck rfl) ?_
      refine D_p rfl rfl rfl (q_fieldAddr fb_84_7 rfl rfl) ?_
      refine D_r rfl rfl rfl (q_load (v := y.isl.val) ag_51 rfl aP rfl) ?_
      refine D_p rfl rfl rfl (q_move rfl) ?_
      refine D_p rfl rfl rfl (q_nilCheck rfl) ?_
      refine D_p rfl rfl rfl (q_fieldAddr fb_131_0 rfl rfl) ?_
      refine D_r rfl rfl rfl (q_loadAgg (us := (ImA.mk { s.s.img with blobs := s.s.img.blobs.set rk note.blob } s.bl (s.bs.set rk (bn, note.blob))).cells) ag_60 sz_60 rfl aP (by exact Nat.le_of_ble_eq_true rfl) rfl) ?_
      refine D_e rfl rfl rfl (e_lit1 Tryz.underlying51 sz_60 zf_60 (by decide) rfl rfl) (.inr (fun _ _ h => h.take aT)) ?_
      intro b84
      refine D_e rfl rfl rfl (e_app1 (us := (ImA.mk { s.s.img with blobs := s.s.img.blobs.set rk note.blob } s.bl (s.bs.set rk (bn, note.blob))).cells) (vs' := flat ImA.cells (y.ims ++ [(ImA.mk { s.s.img with blobs := s.s.img.blobs.set rk note.blob } s.bl (s.bs.set rk (bn, note.blob)))])) Tryz.underlying51 inf_60 rfl rfl rfl rfl aP aC hy.isl (by omega) (by omega) rfl rfl (flat_snoc _ _).symm) (.inl rfl) ?_
      rintro ⟨sl', hsl', hok'⟩
      refine D_p rfl rfl rfl (q_nilCheck rfl) ?_
      refine D_p rfl rfl rfl (q_fieldAddr fb_84_7 rfl rfl) ?_
      refine D_e rfl rfl rfl (e_store sz_51 rfl rfl rfl aU (by first | decide | exact Nat.le_of_ble_eq_true rfl | simp [splice, Value.cells])) (.inl rfl) ?_
      intro _
      refine D_nil ?_
      intro a w ha hk
      have hnew : (ImA.mk { s.s.img with blobs := s.s.img.blobs.set rk note.blob } s.bl (s.bs.set rk (bn, note.blob))).Ok := ⟨hbs.bl.of (by simp [blobVals, SavA.im]), fun r hr => by rcases List.mem_or_eq_of_mem_set hr with h | h; exact hbs.bs r h; (subst h; exact hbn), by have := hbs.eq; simp only [SavA.im] at this; simp only; rw [this, List.map_set]⟩
      have hk2 := Knows.swap (B := rowsKb ((s.bs.map fun r => (r.1, encB r.2)).set rk (bn, encB note.blob)) 1 5) hk (A := bn.kb (encB note.blob) 1 5 ++ rowsKb ((s.bs.map fun r => (r.1, encB r.2)).eraseIdx rk) 1 5) (tk_both aC aC) (rowsKb_set hoi (bn, encB note.blob) 1 5)
      have hrs : rowsKb ((s.bs.map fun r => (r.1, encB r.2)).set rk (bn, encB note.blob)) 1 5 = blobKb (s.bs.set rk (bn, note.blob)) := by unfold blobKb; rw [List.map_set]
      rw [hrs] at hk2
      exact R_val (e := .normal) (.inr rfl) ha.defers (res0 rfl) (hR _ _ _ ⟨rfl, (y.ima (y.ims ++ [(ImA.mk { s.s.img with blobs := s.s.img.blobs.set rk note.blob } s.bl (s.bs.set rk (bn, note.blob)))]) sl').set id (savJ j (SavA.mk ⟨{ s.s.img with blobs := s.s.img.blobs.set rk note.blob }, addS s.s.have_ n, true⟩ s.blk s.bl (s.bs.set rk (bn, note.blob)) s.hv)), ⟨(hy.ima hok' (fun x hx => by rcases List.mem_append.1 hx with h | h; exact hy.ims x h; (simp at h; subst h; exact hnew))).set (y := y.ima _ _) hlk (savJ_ok hjo (fun h => by cases h) hsj (fun h => by cases h)) hji rfl, by rw [hg, BrA.set_b]; simp only [BrA.b, BrA.ima, Qd.Brain.setJob, List.map_append]; rfl, rfl, by simp [BrA.sz, BrA.set, BrA.ima]; omega, len_set (y := y.ima _ _) hlk, oth_set (y := y.ima _ _)⟩, rfl⟩ ((hk2.take (T := opn ((y.ima (y.ims ++ [(ImA.mk { s.s.img with blobs := s.s.img.blobs.set rk note.blob } s.bl (s.bs.set rk (bn, note.blob)))]) sl').set id (savJ j (SavA.mk ⟨{ s.s.img with blobs := s.s.img.blobs.set rk note.blob }, addS s.s.have_ n, true⟩ s.blk s.bl (s.bs.set rk (bn, note.blob)) s.hv))) (savJ j (SavA.mk ⟨{ s.s.img with blobs := s.s.img.blobs.set rk note.blob }, addS s.s.have_ n, true⟩ s.blk s.bl (s.bs.set rk (bn, note.blob)) s.hv)) (mapV JobA.ptr y.jobs) (mapKb JobA.kb (Qd.delA y.jobs id)) ++ F) (by simp only [opn_eq, savJ, svKb_some, SavA.kb]; (try simp only [BrA.set, BrA.ima, SavA.im, ImA.own, imsKb_snoc, if_true, BrA.osK, BrA.isK, BrA.dsK, BrA.msK]); (try simp only [NL]); repeat (first | exact takes_nil | with_reducible exact takes_refl | ((with_reducible apply takes_app); focus ((repeat (first | exact tk_here | exact tk_all | apply tk_app | apply tk_cons)); done)) | ((with_reducible apply takes_cons); focus ((repeat (first | exact tk_one | apply tk_app | apply tk_cons)); done)) | exact takes_last (by focus ((repeat (first | exact tk_here | exact tk_all | apply tk_app | apply tk_cons)); done)) | exact takes_refl))).perm ((BrA.close_ (y := (y.ima (y.ims ++ [(ImA.mk { s.s.img with blobs := s.s.img.blobs.set rk note.blob } s.bl (s.bs.set rk (bn, note.blob)))]) sl').set id (savJ j (SavA.mk ⟨{ s.s.img with blobs := s.s.img.blobs.set rk note.blob }, addS s.s.have_ n, true⟩ s.blk s.bl (s.bs.set rk (bn, note.blob)) s.hv))) (id := id) (a := (savJ j (SavA.mk ⟨{ s.s.img with blobs := s.s.img.blobs.set rk note.blob }, addS s.s.have_ n, true⟩ s.blk s.bl (s.bs.set rk (bn, note.blob)) s.hv))) BrA.set_look (BrA.set_pm (y := (y.ima (y.ims ++ [(ImA.mk { s.s.img with blobs := s.s.img.blobs.set rk note.blob } s.bl (s.bs.set rk (bn, note.blob)))]) sl')) (a' := (savJ j (SavA.mk ⟨{ s.s.img with blobs := s.s.img.blobs.set rk note.blob }, addS s.s.have_ n, true⟩ s.blk s.bl (s.bs.set rk (bn, note.blob)) s.hv))) hlk rfl) (BrA.set_js (y := (y.ima (y.ims ++ [(ImA.mk { s.s.img with blobs := s.s.img.blobs.set rk note.blob } s.bl (s.bs.set rk (bn, note.blob)))]) sl')) (a' := (savJ j (SavA.mk ⟨{ s.s.img with blobs := s.s.img.blobs.set rk note.blob }, addS s.s.have_ n, true⟩ s.blk s.bl (s.bs.set rk (bn, note.blob)) s.hv))) hlk)).append_right F)))
     ·
      try simp only [CL] at ht71
      have hfull : ¬ (Qd.addS s.s.have_ n).length = j.x.at_.length := by intro h9; apply ht71; have h8 : (addS s.s.have_ n).length = j.x.at_.length := h9; omega
      rw [if_neg hfull] at hg
      refine C_skip ?_
      intro a w ha hk
      have hnew : (ImA.mk { s.s.img with blobs := s.s.img.blobs.set rk note.blob } s.bl (s.bs.set rk (bn, note.blob))).Ok := ⟨hbs.bl.of (by simp [blobVals, SavA.im]), fun r hr => by rcases List.mem_or_eq_of_mem_set hr with h | h; exact hbs.bs r h; (subst h; exact hbn), by have := hbs.eq; simp only [SavA.im] at this; simp only; rw [this, List.map_set]⟩
      have hk2 := Knows.swap (B := rowsKb ((s.bs.map fun r => (r.1, encB r.2)).set rk (bn, encB note.blob)) 1 5) hk (A := bn.kb (encB note.blob) 1 5 ++ rowsKb ((s.bs.map fun r => (r.1, encB r.2)).eraseIdx rk) 1 5) (tk_both aC aC) (rowsKb_set hoi (bn, encB note.blob) 1 5)
      have hrs : rowsKb ((s.bs.map fun r => (r.1, encB r.2)).set rk (bn, encB note.blob)) 1 5 = blobKb (s.bs.set rk (bn, note.blob)) := by unfold blobKb; rw [List.map_set]
      rw [hrs] at hk2
      exact R_val (e := .normal) (.inr rfl) ha.defers (res0 rfl) (hR _ _ _ ⟨rfl, y.set id (savJ j (SavA.mk ⟨{ s.s.img with blobs := s.s.img.blobs.set rk note.blob }, addS s.s.have_ n, s.s.told⟩ s.blk s.bl (s.bs.set rk (bn, note.blob)) s.hv)), ⟨hy.set hlk (savJ_ok hjo (fun _ => hnew) hsj (fun h => by rw [← hbl9]; simp)) hji rfl, by rw [hg, BrA.set_b]; rfl, rfl, Nat.le_add_right _ _, len_set hlk, oth_set⟩, rfl⟩ ((hk2.take (T := opn (y.set id (savJ j (SavA.mk ⟨{ s.s.img with blobs := s.s.img.blobs.set rk note.blob }, addS s.s.have_ n, s.s.told⟩ s.blk s.bl (s.bs.set rk (bn, note.blob)) s.hv))) (savJ j (SavA.mk ⟨{ s.s.img with blobs := s.s.img.blobs.set rk note.blob }, addS s.s.have_ n, s.s.told⟩ s.blk s.bl (s.bs.set rk (bn, note.blob)) s.hv)) (mapV JobA.ptr y.jobs) (mapKb JobA.kb (Qd.delA y.jobs id)) ++ F) (by simp only [opn_eq, savJ, svKb_some, SavA.kb]; rw [if_neg hnt]; (try simp only [BrA.set, SavA.im, ImA.own, BrA.osK, BrA.isK, BrA.dsK, BrA.msK]); (try simp only [NL]); repeat (first | exact takes_nil | with_reducible exact takes_refl | ((with_reducible apply takes_app); focus ((repeat (first | exact tk_here | exact tk_all | apply tk_app | apply tk_cons)); done)) | ((with_reducible apply takes_cons); focus ((repeat (first | exact tk_one | apply tk_app | apply tk_cons)); done)) | exact takes_last (by focus ((repeat (first | exact tk_here | exact tk_all | apply tk_app | apply tk_cons)); done)) | exact takes_refl))).perm ((BrA.close_ (y := y.set id (savJ j (SavA.mk ⟨{ s.s.img with blobs := s.s.img.blobs.set rk note.blob }, addS s.s.have_ n, s.s.told⟩ s.blk s.bl (s.bs.set rk (bn, note.blob)) s.hv))) (id := id) (a := (savJ j (SavA.mk ⟨{ s.s.img with blobs := s.s.img.blobs.set rk note.blob }, addS s.s.have_ n, s.s.told⟩ s.blk s.bl (s.bs.set rk (bn, note.blob)) s.hv))) BrA.set_look (BrA.set_pm (y := y) (a' := (savJ j (SavA.mk ⟨{ s.s.img with blobs := s.s.img.blobs.set rk note.blob }, addS s.s.have_ n, s.s.told⟩ s.blk s.bl (s.bs.set rk (bn, note.blob)) s.hv))) hlk rfl) (BrA.set_js (y := y) (a' := (savJ j (SavA.mk ⟨{ s.s.img with blobs := s.s.img.blobs.set rk note.blob }, addS s.s.have_ n, s.s.told⟩ s.blk s.bl (s.bs.set rk (bn, note.blob)) s.hv))) hlk)).append_right F)))
end Go.SL
namespace Go.SL
open Go Go.Proofs
set_option maxRecDepth 10000
def loadedJ (j : JobA) (n st : Int) : JobA := { j with x := { j.x with loaded := addS j.x.loaded n, j := { j.x.j with state := st } } }
theorem loadedJ_ok {j : JobA} (h : j.Ok) {r : Nat} (hl : j.ld = some r) (n st : Int) : (loadedJ j n st).Ok :=
  ⟨h.at_, h.a16, h.atn, fun h => (by simp only [loadedJ] at h; rw [hl] at h; cases h), fun _ => (by simp only [loadedJ]; rw [hl]; rfl), h.sv, h.svo, h.dr, h.rn, h.r32, h.rle, h.idr, h.kr, h.rnk, h.rat⟩
def dropsJ (j : JobA) (ds : List Int) : JobA := { j with x := { j.x with drops := some ds } }
theorem dropsJ_ok {j : JobA} (h : j.Ok) {r : Nat} (hd : j.dr = some r) (ds : List Int) : (dropsJ j ds).Ok :=
  ⟨h.at_, h.a16, h.atn, h.ld, h.ld1, h.sv, h.svo, by simp only [dropsJ]; rw [hd]; rfl, h.rn, h.r32, h.rle, h.idr, h.kr, h.rnk, h.rat⟩
theorem fb_72_0 : fieldB Tryz.prog 72 0 = some 0 := by kernel_rfl
theorem fb_90_2 : fieldB Tryz.prog 90 2 = some 7 := by kernel_rfl
theorem pf_66 : plainFn Tryz.prog 66 = true := by kernel_rfl
theorem pf_67 : plainFn Tryz.prog 67 = true := by kernel_rfl
set_option maxHeartbeats 2000000 in
theorem s_hear [Bs] (y : BrA) (hy : y.Ok) (n : Int) (note : Qd.Note) (bl : Sl) (hbl : bl.Ok (encB note.blob) 1) (hbb : bl.len ≤ 1000000) (hrk : 0 ≤ note.rank ∧ note.rank ≤ 255) (h32 : In32 (note.frm, note.to)) (h12 : y.jobs.length ≤ 12) (hsz0 : y.sz + 200 ≤ BIG) : Spec Tryz.prog 30 [y.ptr, .int .i64 n, .agg (noteV note bl.val).toArray] (y.kb ++ bl.kb (encB note.blob) 1 5) (fun v K' => v = .int .i64 (y.b.hear n note).1 ∧ ∃ y', BTop y y' (y.b.hear n note).2 200 ∧ y'.jobs.length ≤ y.jobs.length ∧ K' = y'.kb) := by
 refine spec_body Tryz.func30 rfl rfl fun F R hR => ?_
 try simp only [NL]
 rw [BrA.kb_eq]
 try simp only [NL]
 refine C_seq ?_
 refine C_region ?_
 refine W_e (i := 0) rfl rfl rfl (e_box rfl) ?_
 intro b5
 refine wa (i := 1) rfl rfl rfl rfl ?_
 refine W_nil ?_
 refine N_seq ?_
 refine C_seq ?_
 refine C_seq ?_
 refine C_region ?_
 refine wm (i := 0) rfl rfl rfl rfl ?_
 refine wm (i := 1) rfl rfl rfl rfl ?_
 refine W_call (i := 2) rfl rfl rfl rfl rfl rfl pf_37 (s_node y hy n true) (tk_cons1 (by repeat (first | exact tk_one | apply tk_app | apply tk_cons)) aC) ?_
 rintro _ _ ⟨rfl, rfl⟩
 try simp only [NL]
 refine wa (i := 3) rfl rfl rfl rfl ?_
 refine W_nil ?_
 refine N_seq ?_
 refine C_seq ?_
 refine C_region ?_
 refine wm (i := 0) rfl rfl rfl rfl ?_
 refine W_q (i := 1) rfl rfl rfl (q_int rfl rfl rfl) ?_
 refine W_nil ?_
 refine N_seq ?_
 refine C_cond rfl (fun ht13 => ?_) (fun ht13 => ?_)
 ·
  try simp only [CL] at ht13
  have he : y.b.hear n note = (y.b.nodeErr n true, y.b) := by rw [Qd.Brain.hear, if_pos ht13]
  refine C_seq ?_
  refine C_region ?_
  refine wm (i := 0) rfl rfl rfl rfl ?_
  refine wa (i := 1) rfl rfl rfl rfl ?_
  refine W_nil ?_
  refine N_seq ?_
  refine C_ret fun a w ha hk => ?_
  exact R_val (e := .ret) (.inl rfl) ha.defers (res1 ha rfl rfl) (hR _ _ _ ⟨by rw [he], y, ⟨hy, by rw [he], rfl, Nat.le_add_right _ _⟩, Nat.le_refl _, rfl⟩ (hk.take (by (try simp only [BrA.kb_eq]); exact aT)))
 ·
  try simp only [CL] at ht13
  have hz : y.b.nodeErr n true = 0 := by simpa using ht13
  refine C_skip ?_
  refine N_seq ?_
  refine C_seq ?_
  refine C_seq ?_
  refine C_region ?_
  refine W_q (i := 0) rfl rfl rfl (q_fieldAddr fb_72_0 rfl rfl) ?_
  refine W_q (i := 1) rfl rfl rfl (q_load (v := .int .u8 note.kind) ag_5 rfl aP rfl) ?_
  refine W_q (i := 2) rfl rfl rfl (q_int rfl rfl rfl) ?_
  refine W_nil ?_
  refine N_seq ?_
  refine C_cond rfl (fun ht17 => ?_) (fun ht17 => ?_)
  ·
   try simp only [CL] at ht17
   have he : y.b.hear n note = (0, y.b.heard n note) := by rw [Qd.Brain.hear, if_neg (by simpa using hz), if_pos ht17]
   refine C_seq ?_
   refine C_to (y.kb ++ ((b5, Cells (noteV note bl.val) 72) :: (bl.kb (encB note.blob) 1 5 ++ F))) (by (try simp only [BrA.kb_eq]); exact aT) ?_
   refine C_region ?_
   refine wm (i := 0) rfl rfl rfl rfl ?_
   refine wm (i := 1) rfl rfl rfl rfl ?_
   refine W_q (i := 2) rfl rfl rfl (q_loadAgg (us := noteV note bl.val) ag_72 sz_72 rfl aP (by exact Nat.le_of_ble_eq_true rfl) rfl) ?_
   refine W_call (i := 3) rfl rfl rfl rfl rfl rfl pf_66 (s_heard y hy n note bl.val h32 h12 hsz0) aC ?_
   rintro _ _ ⟨rfl, y', hto, hlen, rfl⟩
   refine W_nil ?_
   refine N_seq ?_
   refine C_seq ?_
   refine C_region ?_
   refine wa (i := 0) rfl rfl rfl rfl ?_
   refine W_nil ?_
   refine N_seq ?_
   refine C_ret fun a w ha hk => ?_
   exact R_val (e := .ret) (.inl rfl) ha.defers (res1 ha rfl rfl) (hR _ _ _ ⟨by rw [he], y', ⟨hto.ok, by rw [he, hto.b], hto.blk, hto.sz⟩, hlen, rfl⟩ (hk.take aT))
  ·
   try simp only [CL] at ht17
   have hk7 : note.kind ≠ 7 := ht17
   refine C_skip ?_
   refine N_seq ?_
   refine C_seq ?_
   refine C_draw (.cons 0 .pure (.cons 1 .pure (.cons 2 .pure (.cons 3 .read (.cons 4 .pure (.cons 5 .read (.cons 6 .read (.cons 7 .pure .nil)))))))) (fun w => Knows w _) 8 mo (by kernel_rfl) (fun _ h => h) ?_
   refine D_p rfl rfl rfl (q_move rfl) ?_
   refine D_p rfl rfl rfl (q_nilCheck rfl) ?_
   refine D_p rfl rfl rfl (q_fieldAddr fb_84_4 rfl rfl) ?_
   refine D_r rfl rfl rfl (q_load ag_82 rfl aP rfl) ?_
   refine D_p rfl rfl rfl (q_fieldAddr fb_72_6 rfl rfl) ?_
   refine D_r rfl rfl rfl (q_load (v := .int .u32 note.job) ag_31 rfl aP rfl) ?_
   refine D_r rfl rfl rfl (q_lookup Tryz.underlying82 Tryz.underlying31 zf_86 rfl rfl (MapAt.of aP) (look_ptr _ _)) ?_
   refine D_p rfl rfl rfl (q_assign rfl) ?_
   refine D_nil ?_
   refine N_seq ?_
   refine C_seq ?_
   refine C_seq ?_
   refine C_region ?_
   refine wm (i := 0) rfl rfl rfl rfl ?_
   refine W_q (i := 1) rfl rfl rfl (q_eqPtrV Tryz.underlying86 rfl rfl) ?_
   refine wm (i := 2) rfl rfl rfl rfl ?_
   refine W_bool 31 _ rfl (fun ht31 => ?_) (fun ht31 => ?_)
   ·
    try simp only [CL] at ht31
    have hno : Qd.lookA y.jobs note.job = none := by simpa using ht31
    have he : y.b.hear n note = (0, y.b) := by rw [Qd.Brain.hear, if_neg (by simpa using hz), if_neg ht17, job_b, hno]; rfl
    refine W_skip (i := 3) rfl rfl rfl ?_
    refine W_skip (i := 4) rfl rfl rfl ?_
    refine W_skip (i := 5) rfl rfl rfl ?_
    refine W_skip (i := 6) rfl rfl rfl ?_
    refine W_skip (i := 7) rfl rfl rfl ?_
    refine W_skip (i := 8) rfl rfl rfl ?_
    refine W_skip (i := 9) rfl rfl rfl ?_
    refine W_q (i := 10) rfl rfl rfl (q_pickT rfl rfl) ?_
    refine W_nil ?_
    refine N_seq ?_
    refine C_condT rfl ?_
    refine C_seq ?_
    refine C_region ?_
    refine wa (i := 0) rfl rfl rfl rfl ?_
    refine W_nil ?_
    refine N_seq ?_
    refine C_ret fun a w ha hk => ?_
    exact R_val (e := .ret) (.inl rfl) ha.defers (res1 ha rfl rfl) (hR _ _ _ ⟨by rw [he], y, ⟨hy, by rw [he], rfl, Nat.le_add_right _ _⟩, Nat.le_refl _, rfl⟩ (hk.take (by (try simp only [BrA.kb_eq]); exact aT)))
   ·
    try simp only [CL] at ht31
    obtain ⟨j, hlk⟩ : ∃ j, Qd.lookA y.jobs note.job = some j := Option.isSome_iff_exists.1 ht31
    rw [ptrV_some hlk]
    obtain ⟨hjo, hji, hjk⟩ := hy.at hlk
    have h16 := hjo.a16
    have hjd := hjo.dr
    have hal : j.at_.len = j.x.at_.length := by have := hjo.at_.vlen; simp [encI] at this; omega
    refine W_take (y.kb ++ ((b5, Cells (noteV note bl.val) 72) :: (bl.kb (encB note.blob) 1 5 ++ F))) (by (try simp only [BrA.kb_eq]); exact aT) ?_
    refine W_perm _ ?_ ((BrA.open_ hlk).append_right ((b5, Cells (noteV note bl.val) 72) :: (bl.kb (encB note.blob) 1 5 ++ F)))
    rw [opn_eq]
    try simp only [NL]
    refine wm (i := 3) rfl rfl rfl rfl ?_
    refine wc (i := 4) rfl rfl rfl rfl ?_
    refine W_q (i := 5) rfl rfl rfl (q_fieldAddr fb_90_1 rfl rfl) ?_
    refine W_q (i := 6) rfl rfl rfl (q_load ag_66 rfl aP rfl) ?_
    refine wm (i := 7) rfl rfl rfl rfl ?_
    refine W_call (i := 8) rfl rfl rfl rfl rfl rfl pf_51 (s_contains j.at_ j.x.at_ n hjo.at_ (by omega)) aC ?_
    rintro _ _ ⟨rfl, rfl⟩
    refine W_q (i := 9) rfl rfl rfl (q_not rfl) ?_
    refine W_q (i := 10) rfl rfl rfl (q_pickF rfl rfl) ?_
    refine W_nil ?_
    refine N_seq ?_
    refine C_cond rfl (fun ht39 => ?_) (fun ht39 => ?_)
    ·
     try simp only [CL] at ht39
     have hnat : n ∉ j.x.at_ := by simpa using ht39
     have he : y.b.hear n note = (0, y.b) := by rw [Qd.Brain.hear, if_neg (by simpa using hz), if_neg ht17, job_b, hlk]; dsimp only [Option.map_some]; rw [if_pos hnat]
     refine C_seq ?_
     refine C_region ?_
     refine wa (i := 0) rfl rfl rfl rfl ?_
     refine W_nil ?_
     refine N_seq ?_
     refine C_ret fun a w ha hk => ?_
     exact R_val (e := .ret) (.inl rfl) ha.defers (res1 ha rfl rfl) (hR _ _ _ ⟨by rw [he], y, ⟨hy, by rw [he], rfl, Nat.le_add_right _ _⟩, Nat.le_refl _, rfl⟩ ((hk.take (T := opn y j (mapV JobA.ptr y.jobs) (mapKb JobA.kb (Qd.delA y.jobs note.job)) ++ F) (by (try simp only [opn_eq]); exact aT)).perm ((BrA.open_ hlk).symm.append_right F)))
    ·
     try simp only [CL] at ht39
     have hnat : n ∈ j.x.at_ := by simpa using ht39
     have hgj : y.b.hear n note = if note.kind = 4 then ((0 : Int), if j.x.j.state = 1 then y.b.setJob note.job { j.x with loaded := addS j.x.loaded n, j := { j.x.j with state := if (addS j.x.loaded n).length = j.x.at_.length then 2 else 1 } } else y.b) else if note.kind = 9 then (0, y.b.saved note.job j.x n note) else if note.kind = 11 then (0, match j.x.drops with | none => y.b | some d => y.b.gone note.job { j.x with drops := some (d.erase n) }) else (0, y.b) := by rw [Qd.Brain.hear, if_neg (by simpa using hz), if_neg ht17, job_b, hlk]; dsimp only [Option.map_some]; rw [if_neg (by simpa using hnat)]; rfl
     refine C_skip ?_
     refine N_seq ?_
     refine C_cut (ι := { y1 : BrA // y1.Ok ∧ y1.blk = y.blk ∧ (y.b.hear n note) = (0, y1.b) ∧ y1.sz ≤ y.sz + 200 ∧ y1.jobs.length ≤ y.jobs.length }) (fun _ => []) (fun y1 => y1.1.kb ++ F) ?_ ?_
     ·
      refine C_seq ?_
      refine C_region ?_
      refine W_q (i := 0) rfl rfl rfl (q_fieldAddr fb_72_0 rfl rfl) ?_
      refine W_q (i := 1) rfl rfl rfl (q_load (v := .int .u8 note.kind) ag_5 rfl aP rfl) ?_
      refine W_nil ?_
      refine N_seq ?_
      refine C_block ?_
      refine C_seq ?_
      refine C_region ?_
      refine W_q (i := 0) rfl rfl rfl (q_int rfl rfl rfl) ?_
      refine wa (i := 1) rfl rfl rfl rfl ?_
      refine W_nil ?_
      refine N_seq ?_
      refine C_cond rfl (fun ht42 => ?_) (fun ht42 => ?_)
      ·
       try simp only [CL] at ht42
       have hg4 := hgj
       rw [if_pos ht42] at hg4
       refine C_seq ?_
       refine C_region ?_
       refine wm (i := 0) rfl rfl rfl rfl ?_
       refine wc (i := 1) rfl rfl rfl rfl ?_
       refine W_q (i := 2) rfl rfl rfl (q_fieldAddr fb_90_0 rfl rfl) ?_
       refine W_q (i := 3) rfl rfl rfl (q_fieldAddr fb_35_4 rfl rfl) ?_
       refine W_q (i := 4) rfl rfl rfl (q_load ag_5 rfl aP rfl) ?_
       refine W_q (i := 5) rfl rfl rfl (q_int rfl rfl rfl) ?_
       refine W_nil ?_
       refine N_seq ?_
       refine C_cond rfl (fun ht49 => ?_) (fun ht49 => ?_)
       ·
        try simp only [CL] at ht49
        obtain ⟨r, hld⟩ : ∃ r, j.ld = some r := Option.isSome_iff_exists.1 (hjo.ld1 ht49)
        have hldk : ∀ xs, setKb j.ld xs = [(r, SetB xs)] := fun xs => by rw [hld]; rfl
        rw [hldk]
        try simp only [NL]
        refine C_seq ?_
        refine C_region ?_
        refine wm (i := 0) rfl rfl rfl rfl ?_
        refine wc (i := 1) rfl rfl rfl rfl ?_
        refine W_q (i := 2) rfl rfl rfl (q_fieldAddr fb_90_2 rfl rfl) ?_
        refine W_q (i := 3) rfl rfl rfl (q_load ag_81 rfl aP rfl) ?_
        rw [hld]
        refine wm (i := 4) rfl rfl rfl rfl ?_
        refine W_call (i := 5) rfl rfl rfl rfl rfl rfl pf_38 (s_add r j.x.loaded n) (by repeat (first | exact tk_one | apply tk_app | apply tk_cons)) ?_
        rintro _ _ ⟨rfl, rfl⟩
        try simp only [NL]
        refine W_nil ?_
        refine N_seq ?_
        refine C_seq ?_
        refine C_draw (.cons 0 .pure (.cons 1 .pure (.cons 2 .pure (.cons 3 .read (.cons 4 .read (.cons 5 .pure (.cons 6 .pure (.cons 7 .pure (.cons 8 .read (.cons 9 .read (.cons 10 .pure .nil))))))))))) (fun w => Knows w _) 11 mo (by kernel_rfl) (fun _ h => h) ?_
        refine D_p rfl rfl rfl (q_move rfl) ?_
        refine D_p rfl rfl rfl (q_nilCheck rfl) ?_
        refine D_p rfl rfl rfl (q_fieldAddr fb_90_2 rfl rfl) ?_
        refine D_r rfl rfl rfl (q_load ag_81 rfl aP rfl) ?_
        rw [hld]
        refine D_r rfl rfl rfl (q_lenMap Tryz.underlying81 rfl rfl (MapAt.of aP)) ?_
        refine D_p rfl rfl rfl (q_move rfl) ?_
        refine D_p rfl rfl rfl (q_nilCheck rfl) ?_
        refine D_p rfl rfl rfl (q_fieldAddr fb_90_1 rfl rfl) ?_
        refine D_r rfl rfl rfl (q_load ag_66 rfl aP rfl) ?_
        refine D_r rfl rfl rfl (q_lenSl Tryz.underlying66 rfl rfl) ?_
        refine D_p rfl rfl rfl (q_int rfl rfl rfl) ?_
        refine D_nil ?_
        refine N_seq ?_
        refine C_cond rfl (fun ht66 => ?_) (fun ht66 => ?_)
        ·
         try simp only [CL] at ht66
         have hml : (setM (addS j.x.loaded n)).length = (addS j.x.loaded n).length := by simp [setM]
         have hfull : (addS j.x.loaded n).length = j.x.at_.length := by omega
         refine C_region ?_
         refine wm (i := 0) rfl rfl rfl rfl ?_
         refine wc (i := 1) rfl rfl rfl rfl ?_
         refine W_q (i := 2) rfl rfl rfl (q_fieldAddr fb_90_0 rfl rfl) ?_
         refine W_q (i := 3) rfl rfl rfl (q_fieldAddr fb_35_4 rfl rfl) ?_
         refine W_e (i := 4) rfl rfl rfl (e_store sz_5 rfl rfl rfl aU (by first | decide | exact Nat.le_of_ble_eq_true rfl | simp [splice, Value.cells])) ?_
         intro _
         refine W_nil ?_
         exact fun a w ha hk => ⟨⟨y.set note.job (loadedJ j n 2), hy.set hlk (loadedJ_ok hjo hld n 2) hji rfl, rfl, by rw [hg4, if_pos ht49, BrA.set_b, if_pos hfull]; rfl, Nat.le_add_right _ _, len_set hlk⟩, ha.sub aS, ((hk.take (T := opn (y.set note.job (loadedJ j n 2)) (loadedJ j n 2) (mapV JobA.ptr y.jobs) (mapKb JobA.kb (Qd.delA y.jobs note.job)) ++ F) (by simp only [opn_eq, loadedJ, hldk]; (try simp only [BrA.set, BrA.osK, BrA.isK, BrA.dsK, BrA.msK]); (try simp only [NL]); repeat (first | exact takes_nil | with_reducible exact takes_refl | ((with_reducible apply takes_app); focus ((repeat (first | exact tk_here | exact tk_all | apply tk_app | apply tk_cons)); done)) | ((with_reducible apply takes_cons); focus ((repeat (first | exact tk_one | apply tk_app | apply tk_cons)); done)) | exact takes_last (by focus ((repeat (first | exact tk_here | exact tk_all | apply tk_app | apply tk_cons)); done)) | exact takes_refl))).perm ((BrA.close_ (y := y.set note.job (loadedJ j n 2)) (id := note.job) (a := (loadedJ j n 2)) BrA.set_look (BrA.set_pm (y := y) (a' := (loadedJ j n 2)) hlk rfl) (BrA.set_js (y := y) (a' := (loadedJ j n 2)) hlk)).append_right F))⟩
        ·
         try simp only [CL] at ht66
         have hml : (setM (addS j.x.loaded n)).length = (addS j.x.loaded n).length := by simp [setM]
         have hfull : ¬ (addS j.x.loaded n).length = j.x.at_.length := by omega
         refine C_skip ?_
         exact fun a w ha hk => ⟨⟨y.set note.job (loadedJ j n 1), hy.set hlk (loadedJ_ok hjo hld n 1) hji rfl, rfl, by rw [hg4, if_pos ht49, BrA.set_b, if_neg hfull]; rfl, Nat.le_add_right _ _, len_set hlk⟩, ha.sub aS, ((hk.take (T := opn (y.set note.job (loadedJ j n 1)) (loadedJ j n 1) (mapV JobA.ptr y.jobs) (mapKb JobA.kb (Qd.delA y.jobs note.job)) ++ F) (by simp only [opn_eq, loadedJ, hldk, ← ht49]; (try simp only [BrA.set, BrA.osK, BrA.isK, BrA.dsK, BrA.msK]); (try simp only [NL]); repeat (first | exact takes_nil | with_reducible exact takes_refl | ((with_reducible apply takes_app); focus ((repeat (first | exact tk_here | exact tk_all | apply tk_app | apply tk_cons)); done)) | ((with_reducible apply takes_cons); focus ((repeat (first | exact tk_one | apply tk_app | apply tk_cons)); done)) | exact takes_last (by focus ((repeat (first | exact tk_here | exact tk_all | apply tk_app | apply tk_cons)); done)) | exact takes_refl))).perm ((BrA.close_ (y := y.set note.job (loadedJ j n 1)) (id := note.job) (a := (loadedJ j n 1)) BrA.set_look (BrA.set_pm (y := y) (a' := (loadedJ j n 1)) hlk rfl) (BrA.set_js (y := y) (a' := (loadedJ j n 1)) hlk)).append_right F))⟩
       ·
        try simp only [CL] at ht49
        refine C_skip ?_
        exact fun a w ha hk => ⟨⟨y, hy, rfl, by rw [hg4, if_neg ht49], Nat.le_add_right _ _, Nat.le_refl _⟩, ha.sub aS, ((hk.take (T := opn y j (mapV JobA.ptr y.jobs) (mapKb JobA.kb (Qd.delA y.jobs note.job)) ++ F) (by (try simp only [opn_eq]); exact aT)).perm ((BrA.open_ hlk).symm.append_right F))⟩
      ·
       try simp only [CL] at ht42
       rw [if_neg ht42] at hgj
       refine C_seq ?_
       refine C_region ?_
       refine W_q (i := 0) rfl rfl rfl (q_int rfl rfl rfl) ?_
       refine wa (i := 1) rfl rfl rfl rfl ?_
       refine W_nil ?_
       refine N_seq ?_
       refine C_cond rfl (fun ht71 => ?_) (fun ht71 => ?_)
       ·
        try simp only [CL] at ht71
        have hg9 := hgj
        rw [if_pos ht71] at hg9
        refine C_to (opn y j (mapV JobA.ptr y.jobs) (mapKb JobA.kb (Qd.delA y.jobs note.job)) ++ ((b5, Cells (noteV note bl.val) 72) :: (bl.kb (encB note.blob) 1 5 ++ F))) (by (try simp only [opn_eq]); exact aT) ?_
        refine C_perm _ ?_ ((BrA.open_ hlk).symm.append_right ((b5, Cells (noteV note bl.val) 72) :: (bl.kb (encB note.blob) 1 5 ++ F)))
        refine C_region ?_
        refine wm (i := 0) rfl rfl rfl rfl ?_
        refine wm (i := 1) rfl rfl rfl rfl ?_
        refine wm (i := 2) rfl rfl rfl rfl ?_
        refine W_q (i := 3) rfl rfl rfl (q_loadAgg (us := noteV note bl.val) ag_72 sz_72 rfl aP (by exact Nat.le_of_ble_eq_true rfl) rfl) ?_
        refine W_call (i := 4) rfl rfl rfl rfl rfl rfl pf_67 (s_saved y hy note.job j hlk n hnat note bl hbl hbb hrk (by omega)) (tk_both aC aC) ?_
        rintro _ _ ⟨rfl, y', hto, rfl⟩
        refine W_nil ?_
        exact fun a w ha hk => ⟨⟨y', hto.ok, hto.blk, by rw [hg9, hto.b], Nat.le_trans hto.sz (by omega), hto.len⟩, ha.sub aS, hk.take aT⟩
       ·
        try simp only [CL] at ht71
        rw [if_neg ht71] at hgj
        refine C_seq ?_
        refine C_region ?_
        refine W_q (i := 0) rfl rfl rfl (q_int rfl rfl rfl) ?_
        refine wa (i := 1) rfl rfl rfl rfl ?_
        refine W_nil ?_
        refine N_seq ?_
        refine C_cond rfl (fun ht78 => ?_) (fun ht78 => ?_)
        ·
         try simp only [CL] at ht78
         have hg11 := hgj
         rw [if_pos ht78] at hg11
         refine C_seq ?_
         refine C_region ?_
         refine wm (i := 0) rfl rfl rfl rfl ?_
         refine wc (i := 1) rfl rfl rfl rfl ?_
         refine W_q (i := 2) rfl rfl rfl (q_fieldAddr fb_90_8 rfl rfl) ?_
         refine W_q (i := 3) rfl rfl rfl (q_load ag_81 rfl aP rfl) ?_
         refine W_q (i := 4) rfl rfl rfl (q_neMapNil Tryz.underlying81 rfl rfl) ?_
         refine W_nil ?_
         refine N_seq ?_
         refine C_cond rfl (fun ht84 => ?_) (fun ht84 => ?_)
         ·
          try simp only [CL] at ht84
          obtain ⟨r, hdr⟩ : ∃ r, j.dr = some r := Option.isSome_iff_exists.1 (by simpa using ht84)
          obtain ⟨ds, hds⟩ : ∃ ds, j.x.drops = some ds := Option.isSome_iff_exists.1 (by rw [hjd, hdr]; rfl)
          have hdrk : ∀ xs, setKb j.dr xs = [(r, SetB xs)] := fun xs => by rw [hdr]; rfl
          rw [hdrk, hds]
          simp only [Option.getD_some, List.cons_append, List.nil_append]
          refine C_seq ?_
          refine C_region ?_
          refine wm (i := 0) rfl rfl rfl rfl ?_
          refine wc (i := 1) rfl rfl rfl rfl ?_
          refine W_q (i := 2) rfl rfl rfl (q_fieldAddr fb_90_8 rfl rfl) ?_
          refine W_q (i := 3) rfl rfl rfl (q_load ag_81 rfl aP rfl) ?_
          rw [hdr]
          refine wm (i := 4) rfl rfl rfl rfl ?_
          refine W_e (i := 5) rfl rfl rfl (e_delete Tryz.underlying81 Tryz.underlying3 rfl rfl rfl (del_set ds n) aU) ?_
          intro _
          refine W_nil ?_
          refine N_seq ?_
          refine C_to (opn (y.set note.job (dropsJ j (ds.erase n))) (dropsJ j (ds.erase n)) (mapV JobA.ptr y.jobs) (mapKb JobA.kb (Qd.delA y.jobs note.job)) ++ F) (by simp only [opn_eq, dropsJ, hdrk]; (try simp only [BrA.set, BrA.osK, BrA.isK, BrA.dsK, BrA.msK, Option.getD_some]); (try simp only [NL]); repeat (first | exact takes_nil | with_reducible exact takes_refl | ((with_reducible apply takes_app); focus ((repeat (first | exact tk_here | exact tk_all | apply tk_app | apply tk_cons)); done)) | ((with_reducible apply takes_cons); focus ((repeat (first | exact tk_one | apply tk_app | apply tk_cons)); done)) | exact takes_last (by focus ((repeat (first | exact tk_here | exact tk_all | apply tk_app | apply tk_cons)); done)) | exact takes_refl)) ?_
          refine C_perm _ ?_ ((BrA.close_ (y := y.set note.job (dropsJ j (ds.erase n))) (id := note.job) (a := (dropsJ j (ds.erase n))) BrA.set_look (BrA.set_pm (y := y) (a' := (dropsJ j (ds.erase n))) hlk rfl) (BrA.set_js (y := y) (a' := (dropsJ j (ds.erase n))) hlk)).append_right F)
          refine C_region ?_
          refine wm (i := 0) rfl rfl rfl rfl ?_
          refine wm (i := 1) rfl rfl rfl rfl ?_
          refine W_call (i := 2) rfl rfl rfl rfl rfl rfl pf_53 (s_gone (y.set note.job (dropsJ j (ds.erase n))) (hy.set hlk (dropsJ_ok hjo hdr _) hji rfl) note.job (dropsJ j (ds.erase n)) BrA.set_look) aC ?_
          rintro _ _ ⟨rfl, y', hto, rfl⟩
          refine W_nil ?_
          exact fun a w ha hk => ⟨⟨y', hto.ok, hto.blk, by rw [hg11, hds, hto.b, BrA.set_b]; exact congrArg (Prod.mk (0 : Int)) (gone_set' (b := y.b) (x := (dropsJ j (ds.erase n)).x) (BrA.look_mj hlk) hji).symm, Nat.le_trans hto.sz (Nat.le_add_right _ _), Nat.le_trans hto.len (len_set hlk)⟩, ha.sub aS, hk.take aT⟩
         ·
          try simp only [CL] at ht84
          have hdn : j.dr = none := by simpa using ht84
          have hd0 : j.x.drops = none := by rw [hdn] at hjd; simpa using hjd
          refine C_skip ?_
          exact fun a w ha hk => ⟨⟨y, hy, rfl, by rw [hg11, hd0], Nat.le_add_right _ _, Nat.le_refl _⟩, ha.sub aS, ((hk.take (T := opn y j (mapV JobA.ptr y.jobs) (mapKb JobA.kb (Qd.delA y.jobs note.job)) ++ F) (by (try simp only [opn_eq]); exact aT)).perm ((BrA.open_ hlk).symm.append_right F))⟩
        ·
         try simp only [CL] at ht78
         have hg0 := hgj
         rw [if_neg ht78] at hg0
         refine C_skip ?_
         exact fun a w ha hk => ⟨⟨y, hy, rfl, by rw [hg0], Nat.le_add_right _ _, Nat.le_refl _⟩, ha.sub aS, ((hk.take (T := opn y j (mapV JobA.ptr y.jobs) (mapKb JobA.kb (Qd.delA y.jobs note.job)) ++ F) (by (try simp only [opn_eq]); exact aT)).perm ((BrA.open_ hlk).symm.append_right F))⟩
     ·
      rintro ⟨y1, h1ok, h1blk, h1b, h1sz, h1len⟩
      dsimp only
      refine C_seq ?_
      refine C_region ?_
      refine wa (i := 0) rfl rfl rfl rfl ?_
      refine W_nil ?_
      refine N_seq ?_
      refine C_ret fun a w ha hk => ?_
      exact R_val (e := .ret) (.inl rfl) ha.defers (res1 ha rfl rfl) (hR _ _ _ ⟨by rw [h1b], y1, ⟨h1ok, by rw [h1b], h1blk, h1sz⟩, h1len, rfl⟩ hk)
end Go.SL
namespace Go.SL
open Go
theorem Pick.of_mem {K : KB} {b : Nat} {φ : OP} (h : (b, φ) ∈ K) : ∃ K', Pick K b φ K' := by
  induction K with
  | nil => cases h
  | cons x K ih =>
    rcases List.mem_cons.1 h with rfl | h
    · exact ⟨_, .here⟩
    · obtain ⟨K', hp⟩ := ih h; exact ⟨_, .there hp⟩
theorem mem_of_perm {K A R : KB} {x : Nat × OP} (h : K.Perm (A ++ R)) (hm : x ∈ A) : x ∈ K := h.mem_iff.2 (List.mem_append_left _ hm)
theorem MapAt.mem {K : KB} {kd : IntKind} {r : Nat} {m : List (Int × Value)} (h : (r, MapI kd m) ∈ K) : MapAt K kd (some r) m := Pick.of_mem h
section
variable {P : Program} {n : Nat} {L : Env} {K : KB}
theorem q_loadM {d : Option Nat} {x : Operand} {T U : TypeId} {b off : Nat} {vs : List Value} {v : Value} {ty pos aft gd} (hT : aggB P T = some false)
    (hx : ev L x = some (.pointer (some ⟨b, off, none⟩))) (hm : (b, Cells vs U) ∈ K) (hv : vs[off]? = some v) : QRun P n ⟨d, .load T x, ty, pos, aft, gd⟩ L K v := by
  obtain ⟨K', hp⟩ := Pick.of_mem hm
  exact q_load hT hx hp hv
theorem q_loadSlM {d : Option Nat} {x : Operand} {T U : TypeId} {s : Sl} {vs : List Value} {sz m i : Nat} {v : Value} {ty pos aft gd} (hT : aggB P T = some false)
    (hx : ev L x = some (.pointer (some ⟨s.blk, m, none⟩))) (hok : s.Ok vs sz) (hK : ∃ R, K.Perm (s.kb vs sz U ++ R)) (hm : m = s.off + i) (hv : vs[i]? = some v) : QRun P n ⟨d, .load T x, ty, pos, aft, gd⟩ L K v := by
  obtain ⟨R, hK⟩ := hK
  exact q_loadSl hT hx hok hK hm hv
end
theorem perm_in {K A R B : KB} (h : K.Perm (A ++ R)) (hB : ∃ R', A.Perm (B ++ R')) : ∃ R', K.Perm (B ++ R') := by
  obtain ⟨R', hB⟩ := hB
  exact ⟨R' ++ R, h.trans (by rw [← List.append_assoc]; exact hB.append_right R)⟩
theorem BrA.m_y (y : BrA) : (y.blk, Cells y.cells 84) ∈ y.kb := by rw [BrA.kb_eq]; exact .head _
theorem BrA.m_jb (y : BrA) : (y.jb, MapI .u32 (mapV JobA.ptr y.jobs)) ∈ y.kb := by rw [BrA.kb_eq]; exact .tail _ (.tail _ (.head _))
theorem BrA.m_job {y : BrA} {id : Int} {j : JobA} (h : Qd.lookA y.jobs id = some j) : (j.blk, Cells j.cells 90) ∈ y.kb := by
  rw [(BrA.open_ h).mem_iff, opn_eq]; exact .tail _ (.head _)
theorem BrA.p_rest {y : BrA} {id : Int} {j : JobA} (h : Qd.lookA y.jobs id = some j) : ∃ R, y.kb.Perm (j.kb ++ R) := by
  have h1 := mapKb_at JobA.kb h
  have h2 : y.kb.Perm (y.jsK ++ ((y.blk, Cells y.cells 84) :: (y.up, SetB y.ups) :: (y.jb, MapI .u32 (mapV JobA.ptr y.jobs)) :: (y.mx.kb ++ (y.osK ++ (y.isK ++ (y.dsK ++ (y.msK ++ stKb y.st))))))) := by
    rw [BrA.kb_eq]
    have : ((y.blk, Cells y.cells 84) :: (y.up, SetB y.ups) :: (y.jb, MapI .u32 (mapV JobA.ptr y.jobs)) :: (y.mx.kb ++ (y.osK ++ (y.isK ++ (y.dsK ++ (y.msK ++ (stKb y.st ++ y.jsK))))))) = ((y.blk, Cells y.cells 84) :: (y.up, SetB y.ups) :: (y.jb, MapI .u32 (mapV JobA.ptr y.jobs)) :: (y.mx.kb ++ (y.osK ++ (y.isK ++ (y.dsK ++ (y.msK ++ stKb y.st)))))) ++ y.jsK := by simp only [List.cons_append, List.append_assoc]
    rw [this]
    exact List.perm_append_comm
  have h3 := h2.trans (h1.append_right _)
  rw [List.append_assoc] at h3
  exact ⟨_, h3⟩
theorem BrA.p_at {y : BrA} {id : Int} {j : JobA} (h : Qd.lookA y.jobs id = some j) : ∃ R, y.kb.Perm (j.at_.kb (encI j.x.at_) 1 3 ++ R) := by
  obtain ⟨R, hp⟩ := BrA.p_rest h
  refine ⟨(j.blk, Cells j.cells 90) :: (setKb j.ld j.x.loaded ++ (svKb j.sv ++ (setKb j.dr (j.x.drops.getD []) ++ ranKb j.rn (j.x.ran.getD [])))) ++ R, hp.trans ?_⟩
  simp only [JobA.kb, JobA.rest, List.cons_append, List.append_assoc]
  exact List.perm_middle.symm
theorem BrA.m_sv {y : BrA} {id : Int} {j : JobA} {s : SavA} (h : Qd.lookA y.jobs id = some j) (hs : j.sv = some s) : (s.blk, Cells s.cells 131) ∈ y.kb := by
  rw [(BrA.open_ h).mem_iff, opn_eq, hs]
  simp [svKb, SavA.kb]
end Go.SL
namespace Go.SL
open Go Go.Proofs
set_option maxRecDepth 10000
def idleP (b : Qd.Brain) (id : Int) : Bool := match b.job id with | some x => x.drops.isNone | none => false
theorem any_split {α : Type} {xs : List α} {p : α → Bool} {i : Nat} {x : α} (hx : xs[i]? = some x) (hp : p x = true) : xs.any p = true := List.any_eq_true.2 ⟨x, List.mem_of_getElem? hx, hp⟩
theorem any_no {α : Type} {xs : List α} {p : α → Bool} (h : ∀ k : Nat, k < xs.length → ∀ x, xs[k]? = some x → p x = false) : xs.any p = false := by
  rw [List.any_eq_false]
  intro x hx
  obtain ⟨k, hk, rfl⟩ := List.getElem_of_mem hx
  rw [h k hk _ (List.getElem?_eq_getElem hk)]
  decide
theorem stop_fold {y : BrA} (i : Nat) : ∀ b : Qd.Brain, b.stops = y.b.stops → b.gen = y.b.gen → ((List.range i).foldl (fun b (n : Nat) => if (n : Int) ∈ (b.stops.getD []) then b.order n { kind := 6, gen := b.gen } else b) b) = { b with orders := b.orders ++ ((List.range i).filter fun (n : Nat) => decide ((n : Int) ∈ y.b.stops.getD [])).map fun (n : Nat) => (⟨n, { kind := 6, gen := y.b.gen }⟩ : Qd.Order) } := by
  intro b h1 h2
  induction i with
  | zero => simp
  | succ i ih =>
    rw [List.range_succ, List.foldl_append, ih, List.filter_append, List.map_append]
    simp only [List.foldl_cons, List.foldl_nil]
    rw [h1]
    by_cases h : (i : Int) ∈ y.b.stops.getD []
    · rw [if_pos h]; simp [Qd.Brain.order, h, h2]
    · rw [if_neg h]; simp [h]
def stopOs (y : BrA) (i : Nat) : List Qd.Order := ((List.range i).filter fun (n : Nat) => decide ((n : Int) ∈ y.b.stops.getD [])).map fun (n : Nat) => (⟨n, { kind := 6, gen := y.b.gen }⟩ : Qd.Order)
theorem stopOs_len (y : BrA) (i : Nat) : (stopOs y i).length ≤ i := by
  unfold stopOs; rw [List.length_map]; have := List.length_filter_le (fun (n : Nat) => decide ((n : Int) ∈ y.b.stops.getD [])) (List.range i); simpa using this
theorem stopOs0 (y : BrA) : stopOs y 0 = [] := rfl
theorem stopOs_yes {y : BrA} {i : Nat} (h : (i : Int) ∈ (y.st.map (·.2)).getD []) : stopOs y (i + 1) = stopOs y i ++ [⟨i, { kind := 6, gen := y.gen }⟩] := by
  have h' : (i : Int) ∈ y.b.stops.getD [] := h
  simp [stopOs, List.range_succ, List.filter_append, h']; rfl
theorem stopOs_no {y : BrA} {i : Nat} (h : (i : Int) ∉ (y.st.map (·.2)).getD []) : stopOs y (i + 1) = stopOs y i := by
  have h' : (i : Int) ∉ y.b.stops.getD [] := h
  simp [stopOs, List.range_succ, List.filter_append, h']
theorem okc {y : BrA} (hy : y.Ok) : (1 ≤ y.c.rows ∧ y.c.rows ≤ 8) ∧ (1 ≤ y.c.nodes ∧ y.c.nodes ≤ 16) ∧ (1 ≤ y.c.quantum ∧ y.c.quantum ≤ 1000) ∧ (1 ≤ y.c.grace ∧ y.c.grace ≤ 1000) := by
  have := hy.c
  unfold Qd.Brain.okConfig at this
  simp only [Bool.and_eq_true, decide_eq_true_eq] at this
  omega
def imgSel (b : Qd.Brain) (i : Qd.Image) : Bool := match b.job i.job with
    | some x => match x.saving with | some s => s.img.ver == i.ver | none => false
    | none => false
theorem imsKb_cons (x : ImA) (xs : List ImA) : imsKb (x :: xs) = x.own ++ imsKb xs := rfl
theorem flat_nil {α : Type} (e : α → List Value) : flat e [] = [] := rfl
theorem ag_27 : aggB Tryz.prog 27 = some false := by kernel_rfl
theorem ag_97 : aggB Tryz.prog 97 = some true := by kernel_rfl
theorem pf_107 : plainFn Tryz.prog 107 = true := by kernel_rfl
theorem pf_71 : plainFn Tryz.prog 71 = true := by kernel_rfl
theorem pf_72 : plainFn Tryz.prog 72 = true := by kernel_rfl
set_option maxHeartbeats 2000000 in
theorem s_ixfU [Bs] {α : Type} (V : α → Value) (xs : List α) (p : α → Bool) (sl : Sl) {gf : FuncId} {lb : List Value} {Kc : KB} (hp : plainFn Tryz.prog gf = true) (hok : sl.Ok (xs.map V) 1) (hb : xs.length ≤ 1000000) (hcmp : ∀ x ∈ xs, Spec Tryz.prog gf (V x :: lb) Kc (fun v K' => v = .bool (p x) ∧ K' = Kc)) : Spec Tryz.prog 107 [sl.val, .func (.func gf) #[] lb.toArray] (sl.kb (xs.map V) 1 31 ++ Kc) (fun v K' => ∃ r : Int, v = .int .i64 r ∧ (if xs.any p then 0 ≤ r ∧ r < xs.length else r = -1) ∧ K' = sl.kb (xs.map V) 1 31 ++ Kc) := by
 have hsl : sl.len = xs.length := by have := hok.vlen; simp at this; omega
 refine spec_body Tryz.func107 rfl rfl fun F R hR => ?_
 try simp only [NL]
 refine C_seq ?_
 refine C_region ?_
 refine wa (i := 0) rfl rfl rfl rfl ?_
 refine W_nil ?_
 refine N_seq ?_
 refine C_seq ?_
 refine C_seq ?_
 refine C_region ?_
 refine wm (i := 0) rfl rfl rfl rfl ?_
 refine W_q (i := 1) rfl rfl rfl (q_lenSl Tryz.underlying53 rfl rfl) ?_
 refine wm (i := 2) rfl rfl rfl rfl ?_
 refine W_nil ?_
 refine N_seq ?_
 refine C_block ?_
 refine C_loopT (ι := { i : Nat // i ≤ xs.length ∧ ∀ k : Nat, k < i → ∀ x, xs[k]? = some x → p x = false }) (fun i => [(0, sl.val), (1, .func (.func gf) #[] lb.toArray), (7, .int .i64 (sl.len : Int)), (8, .int .i64 (i.1 : Int))]) (fun _ => sl.kb (xs.map V) 1 31 ++ (Kc ++ F)) (fun i => xs.length - i.1) ⟨0, Nat.zero_le _, fun k hk => absurd hk (Nat.not_lt_zero _)⟩ aS aT ?_
 rintro ⟨i, hi, hno⟩
 dsimp only
 refine C_seq ?_
 refine C_region ?_
 refine W_q (i := 0) rfl rfl rfl (q_int rfl rfl rfl) ?_
 refine W_nil ?_
 refine N_seq ?_
 refine C_seq ?_
 refine C_cond rfl (fun ht9 => ?_) (fun ht9 => ?_)
 ·
  try simp only [CL] at ht9
  have hil : i < xs.length := by omega
  obtain ⟨n, hn⟩ : ∃ n, xs[i]? = some n := ⟨_, List.getElem?_eq_getElem hil⟩
  refine C_skip ?_
  refine N_seq ?_
  refine C_seq ?_
  refine C_block ?_
  refine C_seq ?_
  refine C_region ?_
  refine wm (i := 0) rfl rfl rfl rfl ?_
  refine wa (i := 1) rfl rfl rfl rfl ?_
  refine W_nil ?_
  refine N_seq ?_
  refine C_seq ?_
  refine C_region ?_
  refine wm (i := 0) rfl rfl rfl rfl ?_
  refine wm (i := 1) rfl rfl rfl rfl ?_
  refine wm (i := 2) rfl rfl rfl rfl ?_
  refine W_q (i := 3) rfl rfl rfl (q_idxSl Tryz.underlying53 sz_31 hok rfl rfl (Int.natCast_nonneg _) (by omega) rfl) ?_
  refine W_q (i := 4) rfl rfl rfl (q_loadSl (i := i) (v := V n) ag_31 rfl hok aC (by simp) (by simp [hn])) ?_
  refine W_call (i := 5) rfl rfl rfl rfl rfl rfl hp (hcmp n (List.mem_of_getElem? hn)) aC ?_
  rintro _ _ ⟨rfl, rfl⟩
  refine W_nil ?_
  refine N_seq ?_
  refine C_cond rfl (fun ht16 => ?_) (fun ht16 => ?_)
  ·
   try simp only [CL] at ht16
   refine C_seq ?_
   refine C_region ?_
   refine wm (i := 0) rfl rfl rfl rfl ?_
   refine wa (i := 1) rfl rfl rfl rfl ?_
   refine W_nil ?_
   refine N_seq ?_
   refine C_ret fun a w ha hk => ?_
   exact R_val (e := .ret) (.inl rfl) ha.defers (res1 ha rfl rfl) (hR _ _ _ ⟨(i : Int), rfl, by rw [if_pos (any_split hn ht16)]; omega, rfl⟩ (hk.take aT))
  ·
   try simp only [CL] at ht16
   refine C_skip ?_
   refine N_seq ?_
   refine C_region ?_
   refine W_q (i := 0) rfl rfl rfl (q_add rfl rfl (succ64 (by omega))) ?_
   refine wm (i := 1) rfl rfl rfl rfl ?_
   refine W_nil ?_
   exact fun a w ha hk => ⟨⟨i + 1, by omega, fun k hk2 x hx => by rcases Nat.lt_succ_iff_lt_or_eq.1 hk2 with h | h; exact hno k h x hx; (subst h; rw [hn] at hx; cases hx; exact ht16)⟩, by dsimp only; omega, ha.sub aS, hk.take aT⟩
 ·
  try simp only [CL] at ht9
  have hil : i = xs.length := by omega
  subst hil
  refine C_exit ?_
  refine N_seq ?_
  refine C_seq ?_
  refine C_region ?_
  refine wa (i := 0) rfl rfl rfl rfl ?_
  refine W_nil ?_
  refine N_seq ?_
  refine C_ret fun a w ha hk => ?_
  exact R_val (e := .ret) (.inl rfl) ha.defers (res1 ha rfl rfl) (hR _ _ _ ⟨-1, rfl, by rw [if_neg (by rw [any_no hno]; decide)], rfl⟩ (hk.take aT))
set_option maxHeartbeats 2000000 in
theorem s_cnfU [Bs] {α : Type} (V : α → Value) (xs : List α) (p : α → Bool) (sl : Sl) {gf : FuncId} {lb : List Value} {Kc : KB} (hp : plainFn Tryz.prog gf = true) (hok : sl.Ok (xs.map V) 1) (hb : xs.length ≤ 1000000) (hcmp : ∀ x ∈ xs, Spec Tryz.prog gf (V x :: lb) Kc (fun v K' => v = .bool (p x) ∧ K' = Kc)) : Spec Tryz.prog 71 [sl.val, .func (.func gf) #[] lb.toArray] (sl.kb (xs.map V) 1 31 ++ Kc) (fun v K' => v = .bool (xs.any p) ∧ K' = sl.kb (xs.map V) 1 31 ++ Kc) := by
 refine spec_body Tryz.func71 rfl rfl fun F R hR => ?_
 try simp only [NL]
 refine C_seq ?_
 refine C_region ?_
 refine wa (i := 0) rfl rfl rfl rfl ?_
 refine W_nil ?_
 refine N_seq ?_
 refine C_seq ?_
 refine C_region ?_
 refine wm (i := 0) rfl rfl rfl rfl ?_
 refine wm (i := 1) rfl rfl rfl rfl ?_
 refine W_call (i := 2) rfl rfl rfl rfl rfl rfl pf_107 (s_ixfU V xs p sl hp hok hb hcmp) (tk_both aC aC) ?_
 rintro _ _ ⟨r, rfl, hr, rfl⟩
 refine W_q (i := 3) rfl rfl rfl (q_int rfl rfl rfl) ?_
 refine wa (i := 4) rfl rfl rfl rfl ?_
 refine W_nil ?_
 refine N_seq ?_
 refine C_ret fun a w ha hk => ?_
 exact R_val (e := .ret) (.inl rfl) ha.defers (res1 ha rfl rfl) (hR _ _ _ ⟨by cases h : xs.any p with | true => rw [if_pos h] at hr; simp [hr.1] | false => rw [if_neg (by simp [h])] at hr; subst hr; rfl, rfl⟩ (hk.take aT))
set_option maxHeartbeats 2000000 in
theorem s_ixfO [Bs] {α : Type} (V : α → List Value) (hV : ∀ x, (V x).length = 14) (xs : List α) (p : α → Bool) (sl : Sl) {gf : FuncId} {lb : List Value} {Kc : KB} (hp : plainFn Tryz.prog gf = true) (hok : sl.Ok (flat V xs) 14) (hb : xs.length ≤ 1000000) (hcmp : ∀ x ∈ xs, Spec Tryz.prog gf (.agg (V x).toArray :: lb) Kc (fun v K' => v = .bool (p x) ∧ K' = Kc)) : Spec Tryz.prog 92 [sl.val, .func (.func gf) #[] lb.toArray] (sl.kb (flat V xs) 14 97 ++ Kc) (fun v K' => ∃ r : Int, v = .int .i64 r ∧ (if xs.any p then 0 ≤ r ∧ r < xs.length else r = -1) ∧ K' = sl.kb (flat V xs) 14 97 ++ Kc) := by
 have hsl : sl.len = xs.length := by have := hok.vlen; rw [flat_len hV] at this; omega
 refine spec_body Tryz.func92 rfl rfl fun F R hR => ?_
 try simp only [NL]
 refine C_seq ?_
 refine C_region ?_
 refine wa (i := 0) rfl rfl rfl rfl ?_
 refine W_nil ?_
 refine N_seq ?_
 refine C_seq ?_
 refine C_seq ?_
 refine C_region ?_
 refine wm (i := 0) rfl rfl rfl rfl ?_
 refine W_q (i := 1) rfl rfl rfl (q_lenSl Tryz.underlying37 rfl rfl) ?_
 refine wm (i := 2) rfl rfl rfl rfl ?_
 refine W_nil ?_
 refine N_seq ?_
 refine C_block ?_
 refine C_loopT (ι := { i : Nat // i ≤ xs.length ∧ ∀ k : Nat, k < i → ∀ x, xs[k]? = some x → p x = false }) (fun i => [(0, sl.val), (1, .func (.func gf) #[] lb.toArray), (7, .int .i64 (sl.len : Int)), (8, .int .i64 (i.1 : Int))]) (fun _ => sl.kb (flat V xs) 14 97 ++ (Kc ++ F)) (fun i => xs.length - i.1) ⟨0, Nat.zero_le _, fun k hk => absurd hk (Nat.not_lt_zero _)⟩ aS aT ?_
 rintro ⟨i, hi, hno⟩
 dsimp only
 refine C_seq ?_
 refine C_region ?_
 refine W_q (i := 0) rfl rfl rfl (q_int rfl rfl rfl) ?_
 refine W_nil ?_
 refine N_seq ?_
 refine C_seq ?_
 refine C_cond rfl (fun ht9 => ?_) (fun ht9 => ?_)
 ·
  try simp only [CL] at ht9
  have hil : i < xs.length := by omega
  obtain ⟨n, hn⟩ : ∃ n, xs[i]? = some n := ⟨_, List.getElem?_eq_getElem hil⟩
  refine C_skip ?_
  refine N_seq ?_
  refine C_seq ?_
  refine C_block ?_
  refine C_seq ?_
  refine C_region ?_
  refine wm (i := 0) rfl rfl rfl rfl ?_
  refine wa (i := 1) rfl rfl rfl rfl ?_
  refine W_nil ?_
  refine N_seq ?_
  refine C_seq ?_
  refine C_region ?_
  refine wm (i := 0) rfl rfl rfl rfl ?_
  refine wm (i := 1) rfl rfl rfl rfl ?_
  refine wm (i := 2) rfl rfl rfl rfl ?_
  refine W_q (i := 3) rfl rfl rfl (q_idxSl Tryz.underlying37 sz_97 hok rfl rfl (Int.natCast_nonneg _) (by omega) rfl) ?_
  refine W_q (i := 4) rfl rfl rfl (q_loadAggSl (i := i * 14) (us := V n) ag_97 sz_97 rfl hok aC (by simp) (by rw [flat_len hV]; omega) (by omega) (flat_at hV _ _ _ hn)) ?_
  refine W_call (i := 5) rfl rfl rfl rfl rfl rfl hp (hcmp n (List.mem_of_getElem? hn)) aC ?_
  rintro _ _ ⟨rfl, rfl⟩
  refine W_nil ?_
  refine N_seq ?_
  refine C_cond rfl (fun ht16 => ?_) (fun ht16 => ?_)
  ·
   try simp only [CL] at ht16
   refine C_seq ?_
   refine C_region ?_
   refine wm (i := 0) rfl rfl rfl rfl ?_
   refine wa (i := 1) rfl rfl rfl rfl ?_
   refine W_nil ?_
   refine N_seq ?_
   refine C_ret fun a w ha hk => ?_
   exact R_val (e := .ret) (.inl rfl) ha.defers (res1 ha rfl rfl) (hR _ _ _ ⟨(i : Int), rfl, by rw [if_pos (any_split hn ht16)]; omega, rfl⟩ (hk.take aT))
  ·
   try simp only [CL] at ht16
   refine C_skip ?_
   refine N_seq ?_
   refine C_region ?_
   refine W_q (i := 0) rfl rfl rfl (q_add rfl rfl (succ64 (by omega))) ?_
   refine wm (i := 1) rfl rfl rfl rfl ?_
   refine W_nil ?_
   exact fun a w ha hk => ⟨⟨i + 1, by omega, fun k hk2 x hx => by rcases Nat.lt_succ_iff_lt_or_eq.1 hk2 with h | h; exact hno k h x hx; (subst h; rw [hn] at hx; cases hx; exact ht16)⟩, by dsimp only; omega, ha.sub aS, hk.take aT⟩
 ·
  try simp only [CL] at ht9
  have hil : i = xs.length := by omega
  subst hil
  refine C_exit ?_
  refine N_seq ?_
  refine C_seq ?_
  refine C_region ?_
  refine wa (i := 0) rfl rfl rfl rfl ?_
  refine W_nil ?_
  refine N_seq ?_
  refine C_ret fun a w ha hk => ?_
  exact R_val (e := .ret) (.inl rfl) ha.defers (res1 ha rfl rfl) (hR _ _ _ ⟨-1, rfl, by rw [if_neg (by rw [any_no hno]; decide)], rfl⟩ (hk.take aT))
set_option maxHeartbeats 2000000 in
theorem s_idle1 [Bs] (y : BrA) (hy : y.Ok) (id : Int) (b1 : Nat) (Kc : KB) (h1 : (b1, Cells [y.ptr] 27) ∈ Kc) (h2 : (y.blk, Cells y.cells 84) ∈ Kc) (h3 : (y.jb, MapI .u32 (mapV JobA.ptr y.jobs)) ∈ Kc) (h4 : ∀ id j, Qd.lookA y.jobs id = some j → (j.blk, Cells j.cells 90) ∈ Kc) : Spec Tryz.prog 72 [.int .u32 id, .pointer (some ⟨b1, 0, none⟩)] (Kc) (fun v K' => v = .bool (idleP y.b id) ∧ K' = Kc) := by
 refine spec_body Tryz.func72 rfl rfl fun F R hR => ?_
 try simp only [NL]
 refine C_seq ?_
 refine C_region ?_
 refine wa (i := 0) rfl rfl rfl rfl ?_
 refine W_nil ?_
 refine N_seq ?_
 refine C_seq ?_
 refine C_region ?_
 refine W_q (i := 0) rfl rfl rfl (q_loadM ag_27 rfl (List.mem_append_left _ h1) rfl) ?_
 refine wc (i := 1) rfl rfl rfl rfl ?_
 refine W_q (i := 2) rfl rfl rfl (q_fieldAddr fb_84_4 rfl rfl) ?_
 refine W_q (i := 3) rfl rfl rfl (q_loadM ag_82 rfl (List.mem_append_left _ h2) rfl) ?_
 refine wm (i := 4) rfl rfl rfl rfl ?_
 refine W_q (i := 5) rfl rfl rfl (q_lookup Tryz.underlying82 Tryz.underlying31 zf_86 rfl rfl (MapAt.mem (List.mem_append_left _ h3)) (look_ptr _ _)) ?_
 refine W_q (i := 6) rfl rfl rfl (q_nePtrV Tryz.underlying86 rfl rfl) ?_
 refine wm (i := 7) rfl rfl rfl rfl ?_
 refine W_bool 11 _ rfl (fun ht11 => ?_) (fun ht11 => ?_)
 ·
  try simp only [CL] at ht11
  obtain ⟨j, hlk⟩ : ∃ j, Qd.lookA y.jobs id = some j := Option.isSome_iff_exists.1 ht11
  have hjd := (hy.at hlk).1.dr
  refine W_q (i := 8) rfl rfl rfl (q_loadM ag_27 rfl (List.mem_append_left _ h1) rfl) ?_
  refine wc (i := 9) rfl rfl rfl rfl ?_
  refine W_q (i := 10) rfl rfl rfl (q_fieldAddr fb_84_4 rfl rfl) ?_
  refine W_q (i := 11) rfl rfl rfl (q_loadM ag_82 rfl (List.mem_append_left _ h2) rfl) ?_
  refine wm (i := 12) rfl rfl rfl rfl ?_
  refine W_q (i := 13) rfl rfl rfl (q_lookup Tryz.underlying82 Tryz.underlying31 zf_86 rfl rfl (MapAt.mem (List.mem_append_left _ h3)) ((look_ptr _ _).trans (ptrV_some hlk))) ?_
  refine wc (i := 14) rfl rfl rfl rfl ?_
  refine W_q (i := 15) rfl rfl rfl (q_fieldAddr fb_90_8 rfl rfl) ?_
  refine W_q (i := 16) rfl rfl rfl (q_loadM ag_81 rfl (List.mem_append_left _ (h4 _ _ hlk)) rfl) ?_
  refine W_q (i := 17) rfl rfl rfl (q_eqMapNil Tryz.underlying81 rfl rfl) ?_
  refine W_q (i := 18) rfl rfl rfl (q_pickT rfl rfl) ?_
  refine wa (i := 19) rfl rfl rfl rfl ?_
  refine W_nil ?_
  refine N_seq ?_
  refine C_ret fun a w ha hk => ?_
  exact R_val (e := .ret) (.inl rfl) ha.defers (res1 ha rfl rfl) (hR _ _ _ ⟨by rw [idleP, job_b, hlk]; dsimp only [Option.map_some]; congr 1; cases h5 : j.dr <;> cases h6 : j.x.drops <;> simp_all, rfl⟩ (aK hk))
 ·
  try simp only [CL] at ht11
  have hno : Qd.lookA y.jobs id = none := by simpa using ht11
  refine W_skip (i := 8) rfl rfl rfl ?_
  refine W_skip (i := 9) rfl rfl rfl ?_
  refine W_skip (i := 10) rfl rfl rfl ?_
  refine W_skip (i := 11) rfl rfl rfl ?_
  refine W_skip (i := 12) rfl rfl rfl ?_
  refine W_skip (i := 13) rfl rfl rfl ?_
  refine W_skip (i := 14) rfl rfl rfl ?_
  refine W_skip (i := 15) rfl rfl rfl ?_
  refine W_skip (i := 16) rfl rfl rfl ?_
  refine W_skip (i := 17) rfl rfl rfl ?_
  refine W_q (i := 18) rfl rfl rfl (q_pickF rfl rfl) ?_
  refine wa (i := 19) rfl rfl rfl rfl ?_
  refine W_nil ?_
  refine N_seq ?_
  refine C_ret fun a w ha hk => ?_
  exact R_val (e := .ret) (.inl rfl) ha.defers (res1 ha rfl rfl) (hR _ _ _ ⟨by rw [idleP, job_b, hno]; rfl, rfl⟩ (aK hk))
/-- without the members -/
def BrA.kbM (y : BrA) : KB := (y.blk, Cells y.cells 84) :: (y.up, SetB y.ups) :: (y.jb, MapI .u32 (mapV JobA.ptr y.jobs)) :: (y.mx.kb ++ (y.osK ++ (y.isK ++ (y.dsK ++ (stKb y.st ++ y.jsK)))))
theorem BrA.kbM_eq (y : BrA) : y.kbM = (y.blk, Cells y.cells 84) :: (y.up, SetB y.ups) :: (y.jb, MapI .u32 (mapV JobA.ptr y.jobs)) :: (y.mx.kb ++ (y.osK ++ (y.isK ++ (y.dsK ++ (stKb y.st ++ y.jsK))))) := rfl
theorem BrA.m_jobM {y : BrA} {id : Int} {j : JobA} (h : Qd.lookA y.jobs id = some j) : (j.blk, Cells j.cells 90) ∈ y.kbM := by
  rw [BrA.kbM_eq]
  have : (j.blk, Cells j.cells 90) ∈ y.jsK := by rw [BrA.jsK, (mapKb_at JobA.kb h).mem_iff]; exact .head _
  simp [this]
set_option maxHeartbeats 2000000 in
theorem s_idle [Bs] (y : BrA) (hy : y.Ok) (hb : y.mem.length ≤ 1000000) : Spec Tryz.prog 40 [y.ptr] (y.kb) (fun v K' => v = .bool y.b.idle ∧ K' = y.kb) := by
 refine spec_body Tryz.func40 rfl rfl fun F R hR => ?_
 try simp only [NL]
 refine C_seq ?_
 refine C_region ?_
 refine W_e (i := 0) rfl rfl rfl (e_box rfl) ?_
 intro b1
 refine wa (i := 1) rfl rfl rfl rfl ?_
 refine W_nil ?_
 refine N_seq ?_
 refine C_seq ?_
 refine C_to (y.msK ++ ((b1, Cells [y.ptr] 27) :: (y.kbM ++ F))) (by (try simp only [BrA.kb_eq, BrA.kbM_eq]); exact aT) ?_
 refine C_region ?_
 refine W_q (i := 0) rfl rfl rfl (q_load ag_27 rfl aP rfl) ?_
 refine wc (i := 1) rfl rfl rfl rfl ?_
 refine W_q (i := 2) rfl rfl rfl (q_fieldAddr fb_84_11 rfl rfl) ?_
 refine W_q (i := 3) rfl rfl rfl (q_load (v := y.msl.val) ag_53 rfl aP rfl) ?_
 refine W_q (i := 4) rfl rfl rfl (q_makeFunc (us := #[]) (vs := #[.pointer (some ⟨b1, 0, none⟩)]) (by simp) (by simp; rfl)) ?_
 refine W_call (i := 5) rfl rfl rfl rfl rfl rfl pf_71 (s_cnfU (fun x : Int => Value.int .u32 x) y.mem (idleP y.b) y.msl pf_72 hy.msl hb (fun x _ => s_idle1 y hy x b1 ((b1, Cells [y.ptr] 27) :: y.kbM) (.head _) (.tail _ (.head _)) (.tail _ (.tail _ (.tail _ (.head _)))) (fun _ _ h => .tail _ (BrA.m_jobM h)))) (by simp only [List.append_assoc, List.cons_append, BrA.msK]; exact List.Perm.refl _) ?_
 rintro _ _ ⟨rfl, rfl⟩
 refine W_q (i := 6) rfl rfl rfl (q_not rfl) ?_
 refine wa (i := 7) rfl rfl rfl rfl ?_
 refine W_nil ?_
 refine N_seq ?_
 refine C_ret fun a w ha hk => ?_
 exact R_val (e := .ret) (.inl rfl) ha.defers (res1 ha rfl rfl) (hR _ _ _ ⟨rfl, rfl⟩ (hk.take (by (try simp only [BrA.kb_eq, BrA.kbM_eq, BrA.msK, encU_map]); exact aT)))
set_option maxHeartbeats 2000000 in
theorem s_stop [Bs] (y : BrA) (hy : y.Ok) (hsz0 : y.sz + 16 ≤ BIG) : Spec Tryz.prog 41 [y.ptr] (y.kb) (fun v K' => v = .tuple #[] ∧ ∃ y', BTop y y' y.b.stop 16 ∧ y'.jobs = y.jobs ∧ K' = y'.kb) := by
 have hc := okc hy
 have hsz : y.sz + 16 ≤ BIG := hsz0
 unfold BrA.sz BIG at hsz
 refine spec_body Tryz.func41 rfl rfl fun F R hR => ?_
 try simp only [NL]
 rw [BrA.kb_eq]
 try simp only [NL]
 refine C_seq ?_
 refine C_region ?_
 refine wm (i := 0) rfl rfl rfl rfl ?_
 refine wc (i := 1) rfl rfl rfl rfl ?_
 refine W_q (i := 2) rfl rfl rfl (q_fieldAddr fb_84_14 rfl rfl) ?_
 refine W_e (i := 3) rfl rfl rfl (e_store sz_4 rfl rfl rfl aU (by first | decide | exact Nat.le_of_ble_eq_true rfl | simp [splice, Value.cells])) ?_
 intro _
 refine W_nil ?_
 refine N_seq ?_
 refine C_seq ?_
 refine C_region ?_
 refine wm (i := 0) rfl rfl rfl rfl ?_
 refine wc (i := 1) rfl rfl rfl rfl ?_
 refine W_q (i := 2) rfl rfl rfl (q_fieldAddr fb_84_0 rfl rfl) ?_
 refine W_q (i := 3) rfl rfl rfl (q_fieldAddr fb_25_0 rfl rfl) ?_
 refine W_q (i := 4) rfl rfl rfl (q_load ag_3 rfl aP rfl) ?_
 refine wm (i := 5) rfl rfl rfl rfl ?_
 refine W_nil ?_
 refine N_seq ?_
 refine C_block ?_
 refine C_loopT (ι := { q : Nat × Sl // (q.1 : Int) ≤ y.c.nodes ∧ q.2.Ok (flat orderV (y.os ++ stopOs y q.1)) 14 }) (fun q => [(0, y.ptr), (10, .int .i64 y.c.nodes), (11, .int .i64 (q.1.1 : Int))]) (fun q => (y.blk, Cells ((y.sta y.st true).osa (y.os ++ stopOs y q.1.1) q.1.2).cells 84) :: (q.1.2.kb (flat orderV (y.os ++ stopOs y q.1.1)) 14 97 ++ (stKb y.st ++ ((y.up, SetB y.ups) :: (y.jb, MapI .u32 (mapV JobA.ptr y.jobs)) :: (y.mx.kb ++ (y.isK ++ (y.dsK ++ (y.msK ++ (y.jsK ++ F))))))))) (fun q => y.c.nodes.toNat - q.1.1) ⟨(0, y.osl), by omega, by simpa [stopOs0] using hy.osl⟩ aS (by (try simp only [BrA.osK, stopOs0]); exact aT) ?_
 rintro ⟨⟨i, osl⟩, hi, hoo⟩
 dsimp only at hi hoo ⊢
 have hsl9 := stopOs_len y i
 refine C_seq ?_
 refine C_region ?_
 refine W_q (i := 0) rfl rfl rfl (q_int rfl rfl rfl) ?_
 refine W_nil ?_
 refine N_seq ?_
 refine C_seq ?_
 refine C_cond rfl (fun ht12 => ?_) (fun ht12 => ?_)
 ·
  try simp only [CL] at ht12
  have hil : (i : Int) < y.c.nodes := by omega
  refine C_skip ?_
  refine N_seq ?_
  refine C_seq ?_
  refine C_block ?_
  refine C_seq ?_
  refine C_region ?_
  refine wm (i := 0) rfl rfl rfl rfl ?_
  refine wa (i := 1) rfl rfl rfl rfl ?_
  refine W_nil ?_
  refine N_seq ?_
  refine C_seq ?_
  refine C_region ?_
  refine wm (i := 0) rfl rfl rfl rfl ?_
  refine wc (i := 1) rfl rfl rfl rfl ?_
  refine W_q (i := 2) rfl rfl rfl (q_fieldAddr fb_84_13 rfl rfl) ?_
  refine W_q (i := 3) rfl rfl rfl (q_load ag_81 rfl aP rfl) ?_
  refine wm (i := 4) rfl rfl rfl rfl ?_
  refine W_call (i := 5) rfl rfl rfl rfl rfl rfl pf_73 (s_has (stMap y.st) ((y.st.map (·.2)).getD []) i (stKb y.st) (stAt y.st)) aC ?_
  rintro _ _ ⟨rfl, rfl⟩
  refine W_nil ?_
  refine N_seq ?_
  refine C_cond rfl (fun ht19 => ?_) (fun ht19 => ?_)
  ·
   try simp only [CL] at ht19
   have hso := stopOs_yes ht19
   refine C_region ?_
   refine wm (i := 0) rfl rfl rfl rfl ?_
   refine wm (i := 1) rfl rfl rfl rfl ?_
   refine wm (i := 2) rfl rfl rfl rfl ?_
   refine wc (i := 3) rfl rfl rfl rfl ?_
   refine W_q (i := 4) rfl rfl rfl (q_fieldAddr fb_84_9 rfl rfl) ?_
   refine W_q (i := 5) rfl rfl rfl (q_load ag_31 rfl aP rfl) ?_
   refine W_q (i := 6) rfl rfl rfl (q_build (vs := [(0, .int .u8 6), (5, .int .u32 y.gen)]) (cs := (noteO { kind := 6, gen := y.gen }).toArray) ps_72 zf_72 rfl (by simp [Instr.fill, Value.cells, noteO, noteV])) ?_
   refine W_call (i := 7) rfl rfl rfl rfl rfl rfl pf_74 (s_order y.blk ((y.sta y.st true).osa (y.os ++ stopOs y i) osl).cells osl _ hoo rfl (by simp; omega) i { kind := 6, gen := y.gen }) (tk_cons1 (by repeat (first | exact tk_one | apply tk_app | apply tk_cons)) aC) ?_
   rintro _ _ ⟨rfl, osl', hoo', rfl⟩
   try simp only [NL]
   refine W_nil ?_
   refine N_seq ?_
   refine C_region ?_
   refine W_q (i := 0) rfl rfl rfl (q_add rfl rfl (succ64 (by omega))) ?_
   refine wm (i := 1) rfl rfl rfl rfl ?_
   refine W_nil ?_
   exact fun a w ha hk => ⟨⟨(i + 1, osl'), by dsimp only; omega, by dsimp only; rw [hso, ← List.append_assoc]; exact hoo'⟩, by dsimp only; omega, ha.sub aS, by dsimp only; rw [hso, ← List.append_assoc]; exact hk.take (by (try simp only [BrA.osa, BrA.sta]); exact aT)⟩
  ·
   try simp only [CL] at ht19
   have hso := stopOs_no ht19
   refine C_skip ?_
   refine N_seq ?_
   refine C_region ?_
   refine W_q (i := 0) rfl rfl rfl (q_add rfl rfl (succ64 (by omega))) ?_
   refine wm (i := 1) rfl rfl rfl rfl ?_
   refine W_nil ?_
   exact fun a w ha hk => ⟨⟨(i + 1, osl), by dsimp only; omega, by dsimp only; rw [hso]; exact hoo⟩, by dsimp only; omega, ha.sub aS, by dsimp only; rw [hso]; exact hk.take aT⟩
 ·
  try simp only [CL] at ht12
  have hil : i = y.c.nodes.toNat := by omega
  subst hil
  refine C_exit ?_
  intro a w ha hk
  exact R_val (e := .normal) (.inr rfl) ha.defers (res0 rfl) (hR _ _ _ ⟨rfl, (y.sta y.st true).osa (y.os ++ stopOs y y.c.nodes.toNat) osl, ⟨(hy.sta y.st true).osa hoo, by rw [Qd.Brain.stop, stop_fold (y := y) _ { y.b with stopped := true } rfl rfl]; rfl, rfl, by simp only [BrA.sz, BrA.osa, BrA.sta, List.length_append]; omega⟩, rfl, rfl⟩ (hk.take (by (try simp only [BrA.kb_eq, BrA.osa, BrA.sta, BrA.jsK, BrA.osK, BrA.isK, BrA.dsK, BrA.msK]); exact aT)))
end Go.SL
namespace Go.SL
open Go Go.Proofs
set_option maxRecDepth 10000
theorem finish_set {b : Qd.Brain} {id : Int} {x x' x0 : Qd.Job} (h : Qd.lookA b.jobs id = some x0) (hi : x.j.id = id) : (b.setJob id x').finish id x = b.finish id x := by
  unfold Qd.Brain.finish
  split
  · simp [Qd.Brain.setJob, putA_put]
  · exact drop_set (b := { b with done := b.done ++ [x.j.id] }) (x := { x with done := true }) h hi
/-- a job whose image is published, or isn't -/
def pubJ (j : JobA) (c : Int) : JobA := { j with x := { j.x with j := { j.x.j with credit := c }, saving := none }, sv := none }
theorem pubJ_ok {j : JobA} (h : j.Ok) (c : Int) : (pubJ j c).Ok := ⟨h.at_, h.a16, h.atn, h.ld, h.ld1, rfl, fun s hs => (by simp [pubJ] at hs), h.dr, h.rn, h.r32, h.rle, h.idr, h.kr, h.rnk, h.rat⟩
/-- without the images -/
def BrA.kbI (y : BrA) : KB := (y.blk, Cells y.cells 84) :: (y.up, SetB y.ups) :: (y.jb, MapI .u32 (mapV JobA.ptr y.jobs)) :: (y.mx.kb ++ (y.osK ++ (y.dsK ++ (y.msK ++ (stKb y.st ++ y.jsK)))))
theorem BrA.kbI_eq (y : BrA) : y.kbI = (y.blk, Cells y.cells 84) :: (y.up, SetB y.ups) :: (y.jb, MapI .u32 (mapV JobA.ptr y.jobs)) :: (y.mx.kb ++ (y.osK ++ (y.dsK ++ (y.msK ++ (stKb y.st ++ y.jsK))))) := rfl
theorem BrA.m_yI (y : BrA) : (y.blk, Cells y.cells 84) ∈ y.kbI := by rw [BrA.kbI_eq]; exact .head _
theorem BrA.m_jbI (y : BrA) : (y.jb, MapI .u32 (mapV JobA.ptr y.jobs)) ∈ y.kbI := by rw [BrA.kbI_eq]; exact .tail _ (.tail _ (.head _))
theorem BrA.m_js {y : BrA} {id : Int} {j : JobA} (h : Qd.lookA y.jobs id = some j) : (j.blk, Cells j.cells 90) ∈ y.jsK := by rw [BrA.jsK, (mapKb_at JobA.kb h).mem_iff]; exact .head _
theorem BrA.m_ss {y : BrA} {id : Int} {j : JobA} {s : SavA} (h : Qd.lookA y.jobs id = some j) (hs : j.sv = some s) : (s.blk, Cells s.cells 131) ∈ y.jsK := by
  rw [BrA.jsK, (mapKb_at JobA.kb h).mem_iff]
  simp [JobA.kb, JobA.rest, hs, svKb, SavA.kb]
theorem BrA.m_jobI {y : BrA} {id : Int} {j : JobA} (h : Qd.lookA y.jobs id = some j) : (j.blk, Cells j.cells 90) ∈ y.kbI := by
  rw [BrA.kbI_eq]; simp [BrA.m_js h]
theorem BrA.m_svI {y : BrA} {id : Int} {j : JobA} {s : SavA} (h : Qd.lookA y.jobs id = some j) (hs : j.sv = some s) : (s.blk, Cells s.cells 131) ∈ y.kbI := by
  rw [BrA.kbI_eq]; simp [BrA.m_ss h hs]
theorem filter_snoc {α : Type} (p : α → Bool) {l : List α} {i : Nat} {x : α} (h : l[i]? = some x) : (l.take (i + 1)).filter p = if p x then (l.take i).filter p ++ [x] else (l.take i).filter p := by
  rw [List.take_add_one, h, List.filter_append]
  by_cases hp : p x = true <;> simp [hp]
theorem fb_60_2 : fieldB Tryz.prog 60 2 = some 2 := by kernel_rfl
theorem fb_84_2 : fieldB Tryz.prog 84 2 = some 5 := by kernel_rfl
theorem fb_90_6 : fieldB Tryz.prog 90 6 = some 11 := by kernel_rfl
theorem fb_90_7 : fieldB Tryz.prog 90 7 = some 12 := by kernel_rfl
set_option maxHeartbeats 2000000 in
theorem s_save1 [Bs] (y : BrA) (hy0 : y.Ok) (h12 : y.jobs.length ≤ 12) (hsz0 : y.sz + 200 ≤ BIG) : Spec Tryz.prog 46 [y.ptr] (y.kb) (fun v K' => v = .tuple #[] ∧ ∃ y', BTop y y' (Qd.Brain.each Qd.Brain.save y.b.ids y.b) 200 ∧ y'.jobs.length ≤ y.jobs.length ∧ K' = y'.kb) := by
 refine spec_body Tryz.func46 rfl rfl fun F R hR => ?_
 try simp only [NL]
 rw [BrA.kb_eq]
 try simp only [NL]
 refine C_seq ?_
 refine C_region ?_
 refine wm (i := 0) rfl rfl rfl rfl ?_
 refine W_call (i := 1) rfl rfl rfl rfl rfl rfl pf_50 (s_all y h12) (tk_cons1 (by repeat (first | exact tk_one | apply tk_app | apply tk_cons)) (by repeat (first | exact tk_one | apply tk_app | apply tk_cons))) ?_
 rintro _ _ ⟨sl, rfl, hsok, rfl⟩
 obtain ⟨ids0, hids⟩ : ∃ ids, y.b.ids = ids := ⟨_, rfl⟩
 rw [hids] at hsok ⊢
 have hnd := ids_nodup hy0
 rw [hids] at hnd
 have hidl : ids0.length = y.jobs.length := by rw [← hids]; exact ids_len _
 have hid12 : ids0.length ≤ 12 := by rw [hidl]; exact h12
 have hsl : sl.len = ids0.length := by have := hsok.vlen; simp [ptrsV] at this; omega
 try simp only [NL]
 refine W_q (i := 2) rfl rfl rfl (q_lenSl Tryz.underlying99 rfl rfl) ?_
 refine wm (i := 3) rfl rfl rfl rfl ?_
 refine W_nil ?_
 refine N_seq ?_
 refine C_block ?_
 refine C_loopT (ι := { q : Nat × BrA // q.1 ≤ ids0.length ∧ EachInv Qd.Brain.save y q.2 ids0 q.1 16 }) (fun q => [(0, y.ptr), (5, sl.val), (6, .int .i64 (sl.len : Int)), (7, .int .i64 (q.1.1 : Int))]) (fun q => q.1.2.kb ++ (sl.kb (ptrsV y.jobs ids0) 1 86 ++ F)) (fun q => ids0.length - q.1.1) ⟨(0, y), Nat.zero_le _, EachInv.start hy0⟩ aS (by (try simp only [BrA.kb_eq]); exact aT) ?_
 rintro ⟨⟨i, yi⟩, hi, hE⟩
 dsimp only at hi hE ⊢
 have hEs := hE.sz
 have hEl := hE.len
 refine C_seq ?_
 refine C_region ?_
 refine W_q (i := 0) rfl rfl rfl (q_int rfl rfl rfl) ?_
 refine W_nil ?_
 refine N_seq ?_
 refine C_seq ?_
 refine C_cond rfl (fun ht8 => ?_) (fun ht8 => ?_)
 ·
  try simp only [CL] at ht8
  have hil : i < ids0.length := by omega
  obtain ⟨id, hid⟩ : ∃ id, ids0[i]? = some id := ⟨_, List.getElem?_eq_getElem hil⟩
  obtain ⟨j, hj0⟩ := ids_look y (id := id) (by rw [hids]; exact List.mem_of_getElem? hid)
  have hji : Qd.lookA yi.jobs id = some j := by rw [hE.rest i id (Nat.le_refl _) hid]; exact hj0
  refine C_skip ?_
  refine N_seq ?_
  refine C_seq ?_
  refine C_block ?_
  refine C_seq ?_
  refine C_region ?_
  refine W_q (i := 0) rfl rfl rfl (q_idxSl Tryz.underlying99 sz_86 hsok rfl rfl (Int.natCast_nonneg _) (by omega) rfl) ?_
  refine W_q (i := 1) rfl rfl rfl (q_loadSl (i := i) (v := j.ptr) ag_86 rfl hsok aC (by simp) ((ptrsV_at hid).trans (by rw [ptrV_some hj0]))) ?_
  refine wa (i := 2) rfl rfl rfl rfl ?_
  refine W_nil ?_
  refine N_seq ?_
  refine C_region ?_
  refine wm (i := 0) rfl rfl rfl rfl ?_
  refine wm (i := 1) rfl rfl rfl rfl ?_
  refine W_call (i := 2) rfl rfl rfl rfl rfl rfl pf_87 ((show Spec Tryz.prog 87 [y.ptr, j.ptr] yi.kb (fun v K' => v = .tuple #[] ∧ ∃ y', BTo yi y' id (Qd.Brain.save yi.b id j.x) 16 ∧ K' = y'.kb) from by rw [show y.ptr = yi.ptr from by simp only [BrA.ptr, hE.blk]]; exact s_save yi hE.ok id j hji (by omega))) aC ?_
  rintro _ _ ⟨rfl, y', hto, rfl⟩
  refine W_nil ?_
  refine N_seq ?_
  refine C_region ?_
  refine W_q (i := 0) rfl rfl rfl (q_add rfl rfl (succ64 (by omega))) ?_
  refine wm (i := 1) rfl rfl rfl rfl ?_
  refine W_nil ?_
  exact fun a w ha hk => ⟨⟨(i + 1, y'), by dsimp only; omega, hE.step hnd hid hji hto⟩, by dsimp only; omega, ha.sub aS, hk⟩
 ·
  try simp only [CL] at ht8
  have hil : i = ids0.length := by omega
  subst hil
  refine C_exit ?_
  intro a w ha hk
  exact R_val (e := .normal) (.inr rfl) ha.defers (res0 rfl) (hR _ _ _ ⟨rfl, yi, ⟨hE.ok, by rw [hids]; exact hE.done, hE.blk, by omega⟩, hE.len, rfl⟩ (hk.take aT))
set_option maxHeartbeats 2000000 in
theorem s_leave [Bs] (y : BrA) (hy0 : y.Ok) (h12 : y.jobs.length ≤ 12) (hsz0 : y.sz + 200 ≤ BIG) : Spec Tryz.prog 42 [y.ptr] (y.kb) (fun v K' => v = .tuple #[] ∧ ∃ y', BTop y y' (Qd.Brain.each Qd.Brain.leaveOne y.b.ids y.b) 200 ∧ y'.jobs.length ≤ y.jobs.length ∧ K' = y'.kb) := by
 refine spec_body Tryz.func42 rfl rfl fun F R hR => ?_
 try simp only [NL]
 rw [BrA.kb_eq]
 try simp only [NL]
 refine C_seq ?_
 refine C_region ?_
 refine wm (i := 0) rfl rfl rfl rfl ?_
 refine W_call (i := 1) rfl rfl rfl rfl rfl rfl pf_50 (s_all y h12) (tk_cons1 (by repeat (first | exact tk_one | apply tk_app | apply tk_cons)) (by repeat (first | exact tk_one | apply tk_app | apply tk_cons))) ?_
 rintro _ _ ⟨sl, rfl, hsok, rfl⟩
 obtain ⟨ids0, hids⟩ : ∃ ids, y.b.ids = ids := ⟨_, rfl⟩
 rw [hids] at hsok ⊢
 have hnd := ids_nodup hy0
 rw [hids] at hnd
 have hidl : ids0.length = y.jobs.length := by rw [← hids]; exact ids_len _
 have hid12 : ids0.length ≤ 12 := by rw [hidl]; exact h12
 have hsl : sl.len = ids0.length := by have := hsok.vlen; simp [ptrsV] at this; omega
 try simp only [NL]
 refine W_q (i := 2) rfl rfl rfl (q_lenSl Tryz.underlying99 rfl rfl) ?_
 refine wm (i := 3) rfl rfl rfl rfl ?_
 refine W_nil ?_
 refine N_seq ?_
 refine C_block ?_
 refine C_loopT (ι := { q : Nat × BrA // q.1 ≤ ids0.length ∧ EachInv Qd.Brain.leaveOne y q.2 ids0 q.1 16 }) (fun q => [(0, y.ptr), (5, sl.val), (6, .int .i64 (sl.len : Int)), (7, .int .i64 (q.1.1 : Int))]) (fun q => q.1.2.kb ++ (sl.kb (ptrsV y.jobs ids0) 1 86 ++ F)) (fun q => ids0.length - q.1.1) ⟨(0, y), Nat.zero_le _, EachInv.start hy0⟩ aS (by (try simp only [BrA.kb_eq]); exact aT) ?_
 rintro ⟨⟨i, yi⟩, hi, hE⟩
 dsimp only at hi hE ⊢
 have hEs := hE.sz
 have hEl := hE.len
 refine C_seq ?_
 refine C_region ?_
 refine W_q (i := 0) rfl rfl rfl (q_int rfl rfl rfl) ?_
 refine W_nil ?_
 refine N_seq ?_
 refine C_seq ?_
 refine C_cond rfl (fun ht8 => ?_) (fun ht8 => ?_)
 ·
  try simp only [CL] at ht8
  have hil : i < ids0.length := by omega
  obtain ⟨id, hid⟩ : ∃ id, ids0[i]? = some id := ⟨_, List.getElem?_eq_getElem hil⟩
  obtain ⟨j, hj0⟩ := ids_look y (id := id) (by rw [hids]; exact List.mem_of_getElem? hid)
  have hji : Qd.lookA yi.jobs id = some j := by rw [hE.rest i id (Nat.le_refl _) hid]; exact hj0
  refine C_skip ?_
  refine N_seq ?_
  refine C_seq ?_
  refine C_block ?_
  refine C_seq ?_
  refine C_region ?_
  refine W_q (i := 0) rfl rfl rfl (q_idxSl Tryz.underlying99 sz_86 hsok rfl rfl (Int.natCast_nonneg _) (by omega) rfl) ?_
  refine W_q (i := 1) rfl rfl rfl (q_loadSl (i := i) (v := j.ptr) ag_86 rfl hsok aC (by simp) ((ptrsV_at hid).trans (by rw [ptrV_some hj0]))) ?_
  refine wa (i := 2) rfl rfl rfl rfl ?_
  refine W_nil ?_
  refine N_seq ?_
  refine C_seq ?_
  refine C_draw (.cons 0 .pure (.cons 1 .pure (.cons 2 .pure (.cons 3 .read (.cons 4 .pure (.cons 5 .pure (.cons 6 .pure (.cons 7 .pure (.cons 8 .read (.cons 9 .pure (.cons 10 .pure (.cons 11 .pure (.cons 12 .pure (.cons 13 .pure (.cons 14 .pure (.cons 15 .read (.cons 16 .pure (.cons 17 .pure (.cons 18 .pure (.cons 19 .read (.cons 20 .pure (.cons 21 .pure (.cons 22 .pure (.cons 23 .pure (.cons 24 .pure (.cons 25 .read (.cons 26 .pure (.cons 27 .pure (.cons 28 .pure (.cons 29 .pure (.cons 30 .read (.cons 31 .pure (.cons 32 .pure (.cons 33 .pure (.cons 34 .pure (.cons 35 .pure (.cons 36 .read (.cons 37 .pure (.cons 38 .pure (.cons 39 .pure (.cons 40 .pure .nil))))))))))))))))))))))))))))))))))))))))) (fun w => Knows w _) 41 mo (by kernel_rfl) (fun _ h => h) ?_
  refine D_p rfl rfl rfl (q_move rfl) ?_
  refine D_p rfl rfl rfl (q_nilCheck rfl) ?_
  refine D_p rfl rfl rfl (q_fieldAddr fb_90_6 rfl rfl) ?_
  refine D_r rfl rfl rfl (q_loadM ag_4 rfl (mem_of_perm (A := yi.kb) aC (BrA.m_job hji)) rfl) ?_
  refine D_p rfl rfl rfl (q_move rfl) ?_
  refine D_bool 15 _ rfl (fun ht15 => ?_) (fun ht15 => ?_)
  ·
   try simp only [CL] at ht15
   have hjd := (hE.ok.at hji).1.dr
   have hjs := (hE.ok.at hji).1.sv
   refine D_p rfl rfl rfl (q_move rfl) ?_
   refine D_p rfl rfl rfl (q_nilCheck rfl) ?_
   refine D_p rfl rfl rfl (q_fieldAddr fb_90_8 rfl rfl) ?_
   refine D_r rfl rfl rfl (q_loadM ag_81 rfl (mem_of_perm (A := yi.kb) aC (BrA.m_job hji)) rfl) ?_
   refine D_p rfl rfl rfl (q_eqMapNil Tryz.underlying81 rfl rfl) ?_
   refine D_p rfl rfl rfl (q_pickT rfl rfl) ?_
   refine D_p rfl rfl rfl (q_move rfl) ?_
   refine D_bool 22 _ rfl (fun ht22 => ?_) (fun ht22 => ?_)
   ·
    try simp only [CL] at ht22
    have hdn : j.x.drops.isNone = true := by have h7 : j.dr = none := (by simpa using ht22); rw [h7] at hjd; cases h8 : j.x.drops <;> simp_all
    refine D_p rfl rfl rfl (q_move rfl) ?_
    refine D_p rfl rfl rfl (q_nilCheck rfl) ?_
    refine D_p rfl rfl rfl (q_fieldAddr fb_84_2 rfl rfl) ?_
    refine D_r rfl rfl rfl (q_loadM ag_31 rfl ((show (y.blk, Cells yi.cells 84) ∈ _ from by rw [← hE.blk]; exact mem_of_perm (A := yi.kb) aC (BrA.m_y yi))) rfl) ?_
    refine D_p rfl rfl rfl (q_move rfl) ?_
    refine D_p rfl rfl rfl (q_nilCheck rfl) ?_
    refine D_p rfl rfl rfl (q_fieldAddr fb_90_7 rfl rfl) ?_
    refine D_r rfl rfl rfl (q_loadM ag_31 rfl (mem_of_perm (A := yi.kb) aC (BrA.m_job hji)) rfl) ?_
    refine D_p rfl rfl rfl (q_int rfl rfl rfl) ?_
    refine D_p rfl rfl rfl (q_move rfl) ?_
    refine D_bool 32 _ rfl (fun ht32 => ?_) (fun ht32 => ?_)
    ·
     try simp only [CL] at ht32
     have hl : Qd.Brain.leaveOne yi.b id j.x = yi.b.drop id j.x true := by rw [Qd.Brain.leaveOne, if_pos]; simp only [Bool.and_eq_true, Bool.or_eq_true, decide_eq_true_eq]; exact ⟨⟨ht15, hdn⟩, .inl ht32⟩
     refine D_pskip rfl rfl rfl ?_
     refine D_pskip rfl rfl rfl ?_
     refine D_pskip rfl rfl rfl ?_
     refine D_rskip rfl rfl rfl ?_
     refine D_pskip rfl rfl rfl ?_
     refine D_pskip rfl rfl rfl ?_
     refine D_pskip rfl rfl rfl ?_
     refine D_pskip rfl rfl rfl ?_
     refine D_rskip rfl rfl rfl ?_
     refine D_pskip rfl rfl rfl ?_
     refine D_pskip rfl rfl rfl ?_
     refine D_pskip rfl rfl rfl ?_
     refine D_pskip rfl rfl rfl ?_
     refine D_pskip rfl rfl rfl ?_
     refine D_rskip rfl rfl rfl ?_
     refine D_pskip rfl rfl rfl ?_
     refine D_pskip rfl rfl rfl ?_
     refine D_p rfl rfl rfl (q_pickT rfl rfl) ?_
     refine D_p rfl rfl rfl (q_pickT rfl rfl) ?_
     refine D_nil ?_
     refine N_seq ?_
     refine C_condT rfl ?_
     refine C_region ?_
     refine wm (i := 0) rfl rfl rfl rfl ?_
     refine wm (i := 1) rfl rfl rfl rfl ?_
     refine W_call (i := 2) rfl rfl rfl rfl rfl rfl pf_52 ((show Spec Tryz.prog 52 [y.ptr, j.ptr, .bool true] yi.kb (fun v K' => v = .tuple #[] ∧ ∃ y', BTo yi y' id (yi.b.drop id j.x true) 16 ∧ K' = y'.kb) from by rw [show y.ptr = yi.ptr from by simp only [BrA.ptr, hE.blk]]; exact s_drop yi hE.ok id j hji true (by omega))) aC ?_
     rintro _ _ ⟨rfl, y', hto, rfl⟩
     refine W_nil ?_
     refine N_seq ?_
     refine C_region ?_
     refine W_q (i := 0) rfl rfl rfl (q_add rfl rfl (succ64 (by omega))) ?_
     refine wm (i := 1) rfl rfl rfl rfl ?_
     refine W_nil ?_
     exact fun a w ha hk => ⟨⟨(i + 1, y'), by dsimp only; omega, hE.step hnd hid hji (by rw [hl]; exact hto)⟩, by dsimp only; omega, ha.sub aS, hk⟩
    ·
     try simp only [CL] at ht32
     have hnw : ¬ yi.b.now ≥ j.x.until_ := ht32
     refine D_p rfl rfl rfl (q_move rfl) ?_
     refine D_p rfl rfl rfl (q_nilCheck rfl) ?_
     refine D_p rfl rfl rfl (q_fieldAddr fb_90_3 rfl rfl) ?_
     refine D_r rfl rfl rfl (q_loadM ag_3 rfl (mem_of_perm (A := yi.kb) aC (BrA.m_job hji)) rfl) ?_
     refine D_p rfl rfl rfl (q_move rfl) ?_
     refine D_p rfl rfl rfl (q_nilCheck rfl) ?_
     refine D_p rfl rfl rfl (q_fieldAddr fb_90_0 rfl rfl) ?_
     refine D_p rfl rfl rfl (q_fieldAddr fb_35_5 rfl rfl) ?_
     refine D_r rfl rfl rfl (q_loadM ag_3 rfl (mem_of_perm (A := yi.kb) aC (BrA.m_job hji)) rfl) ?_
     refine D_p rfl rfl rfl (q_int rfl rfl rfl) ?_
     refine D_p rfl rfl rfl (q_move rfl) ?_
     refine D_bool 43 _ rfl (fun ht43 => ?_) (fun ht43 => ?_)
     ·
      try simp only [CL] at ht43
      refine D_p rfl rfl rfl (q_move rfl) ?_
      refine D_p rfl rfl rfl (q_nilCheck rfl) ?_
      refine D_p rfl rfl rfl (q_fieldAddr fb_90_5 rfl rfl) ?_
      refine D_r rfl rfl rfl (q_loadM ag_87 rfl (mem_of_perm (A := yi.kb) aC (BrA.m_job hji)) rfl) ?_
      refine D_p rfl rfl rfl (q_eqSv Tryz.underlying87 rfl rfl) ?_
      refine D_p rfl rfl rfl (q_pickT rfl rfl) ?_
      refine D_p rfl rfl rfl (q_pickF rfl rfl) ?_
      refine D_p rfl rfl rfl (q_pickT rfl rfl) ?_
      refine D_nil ?_
      refine N_seq ?_
      refine C_cond rfl (fun ht51 => ?_) (fun ht51 => ?_)
      ·
       try simp only [CL] at ht51
       have hl : Qd.Brain.leaveOne yi.b id j.x = yi.b.drop id j.x true := by rw [Qd.Brain.leaveOne, if_pos]; simp only [Bool.and_eq_true, Bool.or_eq_true, decide_eq_true_eq]; exact ⟨⟨ht15, hdn⟩, .inr ⟨ht43, by rw [hjs]; have h7 : j.sv = none := (by simpa using ht51); rw [h7]; rfl⟩⟩
       refine C_region ?_
       refine wm (i := 0) rfl rfl rfl rfl ?_
       refine wm (i := 1) rfl rfl rfl rfl ?_
       refine W_call (i := 2) rfl rfl rfl rfl rfl rfl pf_52 ((show Spec Tryz.prog 52 [y.ptr, j.ptr, .bool true] yi.kb (fun v K' => v = .tuple #[] ∧ ∃ y', BTo yi y' id (yi.b.drop id j.x true) 16 ∧ K' = y'.kb) from by rw [show y.ptr = yi.ptr from by simp only [BrA.ptr, hE.blk]]; exact s_drop yi hE.ok id j hji true (by omega))) aC ?_
       rintro _ _ ⟨rfl, y', hto, rfl⟩
       refine W_nil ?_
       refine N_seq ?_
       refine C_region ?_
       refine W_q (i := 0) rfl rfl rfl (q_add rfl rfl (succ64 (by omega))) ?_
       refine wm (i := 1) rfl rfl rfl rfl ?_
       refine W_nil ?_
       exact fun a w ha hk => ⟨⟨(i + 1, y'), by dsimp only; omega, hE.step hnd hid hji (by rw [hl]; exact hto)⟩, by dsimp only; omega, ha.sub aS, hk⟩
      ·
       try simp only [CL] at ht51
       have hl : Qd.Brain.leaveOne yi.b id j.x = yi.b := by rw [Qd.Brain.leaveOne, if_neg]; simp only [Bool.and_eq_true, Bool.or_eq_true, decide_eq_true_eq]; rintro ⟨_, h | h⟩; exact hnw h; (rw [hjs] at h; cases h9 : j.sv with | none => rw [h9] at ht51; simp at ht51 | some s => rw [h9] at h; simp at h)
       refine C_skip ?_
       refine N_seq ?_
       refine C_region ?_
       refine W_q (i := 0) rfl rfl rfl (q_add rfl rfl (succ64 (by omega))) ?_
       refine wm (i := 1) rfl rfl rfl rfl ?_
       refine W_nil ?_
       exact fun a w ha hk => ⟨⟨(i + 1, yi), by dsimp only; omega, hE.step hnd hid hji (BTo.same hE.ok 16 hl.symm)⟩, by dsimp only; omega, ha.sub aS, hk⟩
     ·
      try simp only [CL] at ht43
      have hl : Qd.Brain.leaveOne yi.b id j.x = yi.b := by rw [Qd.Brain.leaveOne, if_neg]; simp only [Bool.and_eq_true, Bool.or_eq_true, decide_eq_true_eq]; rintro ⟨_, h | h⟩; exact hnw h; exact ht43 h.1
      refine D_pskip rfl rfl rfl ?_
      refine D_pskip rfl rfl rfl ?_
      refine D_pskip rfl rfl rfl ?_
      refine D_rskip rfl rfl rfl ?_
      refine D_pskip rfl rfl rfl ?_
      refine D_p rfl rfl rfl (q_pickF rfl rfl) ?_
      refine D_p rfl rfl rfl (q_pickF rfl rfl) ?_
      refine D_p rfl rfl rfl (q_pickT rfl rfl) ?_
      refine D_nil ?_
      refine N_seq ?_
      refine C_condF rfl ?_
      refine C_skip ?_
      refine N_seq ?_
      refine C_region ?_
      refine W_q (i := 0) rfl rfl rfl (q_add rfl rfl (succ64 (by omega))) ?_
      refine wm (i := 1) rfl rfl rfl rfl ?_
      refine W_nil ?_
      exact fun a w ha hk => ⟨⟨(i + 1, yi), by dsimp only; omega, hE.step hnd hid hji (BTo.same hE.ok 16 hl.symm)⟩, by dsimp only; omega, ha.sub aS, hk⟩
   ·
    try simp only [CL] at ht22
    have hl : Qd.Brain.leaveOne yi.b id j.x = yi.b := by have h7 : j.x.drops.isNone = false := (by cases h8 : j.x.drops <;> simp_all); simp [Qd.Brain.leaveOne, h7]
    refine D_pskip rfl rfl rfl ?_
    refine D_pskip rfl rfl rfl ?_
    refine D_pskip rfl rfl rfl ?_
    refine D_rskip rfl rfl rfl ?_
    refine D_pskip rfl rfl rfl ?_
    refine D_pskip rfl rfl rfl ?_
    refine D_pskip rfl rfl rfl ?_
    refine D_rskip rfl rfl rfl ?_
    refine D_pskip rfl rfl rfl ?_
    refine D_pskip rfl rfl rfl ?_
    refine D_pskip rfl rfl rfl ?_
    refine D_pskip rfl rfl rfl ?_
    refine D_pskip rfl rfl rfl ?_
    refine D_rskip rfl rfl rfl ?_
    refine D_pskip rfl rfl rfl ?_
    refine D_pskip rfl rfl rfl ?_
    refine D_pskip rfl rfl rfl ?_
    refine D_pskip rfl rfl rfl ?_
    refine D_rskip rfl rfl rfl ?_
    refine D_pskip rfl rfl rfl ?_
    refine D_pskip rfl rfl rfl ?_
    refine D_pskip rfl rfl rfl ?_
    refine D_pskip rfl rfl rfl ?_
    refine D_pskip rfl rfl rfl ?_
    refine D_rskip rfl rfl rfl ?_
    refine D_pskip rfl rfl rfl ?_
    refine D_pskip rfl rfl rfl ?_
    refine D_pskip rfl rfl rfl ?_
    refine D_p rfl rfl rfl (q_pickF rfl rfl) ?_
    refine D_nil ?_
    refine N_seq ?_
    refine C_condF rfl ?_
    refine C_skip ?_
    refine N_seq ?_
    refine C_region ?_
    refine W_q (i := 0) rfl rfl rfl (q_add rfl rfl (succ64 (by omega))) ?_
    refine wm (i := 1) rfl rfl rfl rfl ?_
    refine W_nil ?_
    exact fun a w ha hk => ⟨⟨(i + 1, yi), by dsimp only; omega, hE.step hnd hid hji (BTo.same hE.ok 16 hl.symm)⟩, by dsimp only; omega, ha.sub aS, hk⟩
  ·
   try simp only [CL] at ht15
   have hl : Qd.Brain.leaveOne yi.b id j.x = yi.b := by simp [Qd.Brain.leaveOne, ht15]
   refine D_pskip rfl rfl rfl ?_
   refine D_pskip rfl rfl rfl ?_
   refine D_pskip rfl rfl rfl ?_
   refine D_rskip rfl rfl rfl ?_
   refine D_pskip rfl rfl rfl ?_
   refine D_p rfl rfl rfl (q_pickF rfl rfl) ?_
   refine D_p rfl rfl rfl (q_move rfl) ?_
   refine D_pskip rfl rfl rfl ?_
   refine D_pskip rfl rfl rfl ?_
   refine D_pskip rfl rfl rfl ?_
   refine D_rskip rfl rfl rfl ?_
   refine D_pskip rfl rfl rfl ?_
   refine D_pskip rfl rfl rfl ?_
   refine D_pskip rfl rfl rfl ?_
   refine D_rskip rfl rfl rfl ?_
   refine D_pskip rfl rfl rfl ?_
   refine D_pskip rfl rfl rfl ?_
   refine D_pskip rfl rfl rfl ?_
   refine D_pskip rfl rfl rfl ?_
   refine D_pskip rfl rfl rfl ?_
   refine D_rskip rfl rfl rfl ?_
   refine D_pskip rfl rfl rfl ?_
   refine D_pskip rfl rfl rfl ?_
   refine D_pskip rfl rfl rfl ?_
   refine D_pskip rfl rfl rfl ?_
   refine D_rskip rfl rfl rfl ?_
   refine D_pskip rfl rfl rfl ?_
   refine D_pskip rfl rfl rfl ?_
   refine D_pskip rfl rfl rfl ?_
   refine D_pskip rfl rfl rfl ?_
   refine D_pskip rfl rfl rfl ?_
   refine D_rskip rfl rfl rfl ?_
   refine D_pskip rfl rfl rfl ?_
   refine D_pskip rfl rfl rfl ?_
   refine D_pskip rfl rfl rfl ?_
   refine D_p rfl rfl rfl (q_pickF rfl rfl) ?_
   refine D_nil ?_
   refine N_seq ?_
   refine C_condF rfl ?_
   refine C_skip ?_
   refine N_seq ?_
   refine C_region ?_
   refine W_q (i := 0) rfl rfl rfl (q_add rfl rfl (succ64 (by omega))) ?_
   refine wm (i := 1) rfl rfl rfl rfl ?_
   refine W_nil ?_
   exact fun a w ha hk => ⟨⟨(i + 1, yi), by dsimp only; omega, hE.step hnd hid hji (BTo.same hE.ok 16 hl.symm)⟩, by dsimp only; omega, ha.sub aS, hk⟩
 ·
  try simp only [CL] at ht8
  have hil : i = ids0.length := by omega
  subst hil
  refine C_exit ?_
  intro a w ha hk
  exact R_val (e := .normal) (.inr rfl) ha.defers (res0 rfl) (hR _ _ _ ⟨rfl, yi, ⟨hE.ok, by rw [hids]; exact hE.done, hE.blk, by omega⟩, hE.len, rfl⟩ (hk.take aT))
set_option maxHeartbeats 2000000 in
theorem s_published [Bs] (y : BrA) (hy : y.Ok) (id ver : Int) (ok : Bool) (hsz0 : y.sz + 17 ≤ BIG) : Spec Tryz.prog 32 [y.ptr, .int .u32 id, .int .u32 ver, .bool ok] (y.kb) (fun v K' => v = .int .i64 (y.b.published id ver ok).1 ∧ ∃ y', BTop y y' (y.b.published id ver ok).2 17 ∧ y'.jobs.length ≤ y.jobs.length ∧ K' = y'.kb) := by
 refine spec_body Tryz.func32 rfl rfl fun F R hR => ?_
 try simp only [NL]
 refine C_seq ?_
 refine C_region ?_
 refine wa (i := 0) rfl rfl rfl rfl ?_
 refine W_nil ?_
 refine N_seq ?_
 refine C_seq ?_
 refine C_seq ?_
 refine C_region ?_
 refine wm (i := 0) rfl rfl rfl rfl ?_
 refine W_q (i := 1) rfl rfl rfl (q_eqPtrNil Tryz.underlying27 rfl rfl) ?_
 refine wm (i := 2) rfl rfl rfl rfl ?_
 refine wm (i := 3) rfl rfl rfl rfl ?_
 refine wc (i := 4) rfl rfl rfl rfl ?_
 refine W_q (i := 5) rfl rfl rfl (q_fieldAddr fb_84_4 rfl rfl) ?_
 refine W_q (i := 6) rfl rfl rfl (q_load ag_82 rfl aP rfl) ?_
 refine wm (i := 7) rfl rfl rfl rfl ?_
 refine W_q (i := 8) rfl rfl rfl (q_lookup Tryz.underlying82 Tryz.underlying31 zf_86 rfl rfl (MapAt.of aP) (look_ptr _ _)) ?_
 refine W_q (i := 9) rfl rfl rfl (q_eqPtrV Tryz.underlying86 rfl rfl) ?_
 refine W_q (i := 10) rfl rfl rfl (q_pickF rfl rfl) ?_
 refine W_nil ?_
 refine N_seq ?_
 refine C_cond rfl (fun ht20 => ?_) (fun ht20 => ?_)
 ·
  try simp only [CL] at ht20
  have hno : Qd.lookA y.jobs id = none := by simpa using ht20
  have hg : y.b.published id ver ok = (6, y.b) := by rw [Qd.Brain.published, job_b, hno]; rfl
  refine C_seq ?_
  refine C_region ?_
  refine wa (i := 0) rfl rfl rfl rfl ?_
  refine W_nil ?_
  refine N_seq ?_
  refine C_ret fun a w ha hk => ?_
  exact R_val (e := .ret) (.inl rfl) ha.defers (res1 ha rfl rfl) (hR _ _ _ ⟨by rw [hg], y, ⟨hy, by rw [hg], rfl, Nat.le_add_right _ _⟩, Nat.le_refl _, rfl⟩ (aK hk))
 ·
  try simp only [CL] at ht20
  obtain ⟨j, hlk⟩ : ∃ j, Qd.lookA y.jobs id = some j := Option.isSome_iff_exists.1 ht20
  obtain ⟨hjo, hji, hjk⟩ := hy.at hlk
  have hjs := hjo.sv
  refine C_skip ?_
  refine N_seq ?_
  refine C_seq ?_
  refine C_region ?_
  refine wm (i := 0) rfl rfl rfl rfl ?_
  refine wc (i := 1) rfl rfl rfl rfl ?_
  refine W_q (i := 2) rfl rfl rfl (q_fieldAddr fb_84_4 rfl rfl) ?_
  refine W_q (i := 3) rfl rfl rfl (q_load ag_82 rfl aP rfl) ?_
  refine wm (i := 4) rfl rfl rfl rfl ?_
  refine W_q (i := 5) rfl rfl rfl (q_lookup Tryz.underlying82 Tryz.underlying31 zf_86 rfl rfl (MapAt.of aP) ((look_ptr _ _).trans (ptrV_some hlk))) ?_
  refine wa (i := 6) rfl rfl rfl rfl ?_
  refine W_nil ?_
  refine N_seq ?_
  refine C_seq ?_
  refine C_seq ?_
  refine C_region ?_
  refine wm (i := 0) rfl rfl rfl rfl ?_
  refine wc (i := 1) rfl rfl rfl rfl ?_
  refine W_q (i := 2) rfl rfl rfl (q_fieldAddr fb_90_5 rfl rfl) ?_
  refine W_q (i := 3) rfl rfl rfl (q_loadM ag_87 rfl (mem_of_perm (A := y.kb) aC (BrA.m_job hlk)) rfl) ?_
  refine W_q (i := 4) rfl rfl rfl (q_eqSv Tryz.underlying87 rfl rfl) ?_
  refine wm (i := 5) rfl rfl rfl rfl ?_
  refine W_bool 32 _ rfl (fun ht32 => ?_) (fun ht32 => ?_)
  ·
   try simp only [CL] at ht32
   have hsv : j.sv = none := by simpa using ht32
   have hg : y.b.published id ver ok = (6, y.b) := by rw [Qd.Brain.published, job_b, hlk]; dsimp only [Option.map_some]; rw [hjs, hsv]; rfl
   refine W_skip (i := 6) rfl rfl rfl ?_
   refine W_skip (i := 7) rfl rfl rfl ?_
   refine W_skip (i := 8) rfl rfl rfl ?_
   refine W_skip (i := 9) rfl rfl rfl ?_
   refine W_skip (i := 10) rfl rfl rfl ?_
   refine W_skip (i := 11) rfl rfl rfl ?_
   refine W_skip (i := 12) rfl rfl rfl ?_
   refine W_skip (i := 13) rfl rfl rfl ?_
   refine W_q (i := 14) rfl rfl rfl (q_pickT rfl rfl) ?_
   refine wm (i := 15) rfl rfl rfl rfl ?_
   refine W_skip (i := 16) rfl rfl rfl ?_
   refine W_skip (i := 17) rfl rfl rfl ?_
   refine W_skip (i := 18) rfl rfl rfl ?_
   refine W_skip (i := 19) rfl rfl rfl ?_
   refine W_skip (i := 20) rfl rfl rfl ?_
   refine W_skip (i := 21) rfl rfl rfl ?_
   refine W_skip (i := 22) rfl rfl rfl ?_
   refine W_skip (i := 23) rfl rfl rfl ?_
   refine W_skip (i := 24) rfl rfl rfl ?_
   refine W_skip (i := 25) rfl rfl rfl ?_
   refine W_q (i := 26) rfl rfl rfl (q_pickT rfl rfl) ?_
   refine W_nil ?_
   refine N_seq ?_
   refine C_condT rfl ?_
   refine C_seq ?_
   refine C_region ?_
   refine wa (i := 0) rfl rfl rfl rfl ?_
   refine W_nil ?_
   refine N_seq ?_
   refine C_ret fun a w ha hk => ?_
   exact R_val (e := .ret) (.inl rfl) ha.defers (res1 ha rfl rfl) (hR _ _ _ ⟨by rw [hg], y, ⟨hy, by rw [hg], rfl, Nat.le_add_right _ _⟩, Nat.le_refl _, rfl⟩ (aK hk))
  ·
   try simp only [CL] at ht32
   obtain ⟨s, hsv⟩ : ∃ s, j.sv = some s := Option.isSome_iff_exists.1 ht32
   rw [hsv]
   refine wm (i := 6) rfl rfl rfl rfl ?_
   refine wc (i := 7) rfl rfl rfl rfl ?_
   refine W_q (i := 8) rfl rfl rfl (q_fieldAddr fb_90_5 rfl rfl) ?_
   refine W_q (i := 9) rfl rfl rfl (q_loadM ag_87 rfl (mem_of_perm (A := y.kb) aC (BrA.m_job hlk)) rfl) ?_
   rw [hsv]
   refine wc (i := 10) rfl rfl rfl rfl ?_
   refine W_q (i := 11) rfl rfl rfl (q_fieldAddr fb_131_2 rfl rfl) ?_
   refine W_q (i := 12) rfl rfl rfl (q_loadM (v := .bool s.s.told) ag_4 rfl (mem_of_perm (A := y.kb) aC (BrA.m_sv hlk hsv)) rfl) ?_
   refine W_q (i := 13) rfl rfl rfl (q_not rfl) ?_
   refine W_q (i := 14) rfl rfl rfl (q_pickF rfl rfl) ?_
   refine wm (i := 15) rfl rfl rfl rfl ?_
   refine W_bool 42 _ rfl (fun ht42 => ?_) (fun ht42 => ?_)
   ·
    try simp only [CL] at ht42
    have hg : y.b.published id ver ok = (6, y.b) := by rw [Qd.Brain.published, job_b, hlk]; dsimp only [Option.map_some]; rw [hjs, hsv]; dsimp only [Option.map_some]; rw [if_pos (.inl (by simpa using ht42))]
    refine W_skip (i := 16) rfl rfl rfl ?_
    refine W_skip (i := 17) rfl rfl rfl ?_
    refine W_skip (i := 18) rfl rfl rfl ?_
    refine W_skip (i := 19) rfl rfl rfl ?_
    refine W_skip (i := 20) rfl rfl rfl ?_
    refine W_skip (i := 21) rfl rfl rfl ?_
    refine W_skip (i := 22) rfl rfl rfl ?_
    refine W_skip (i := 23) rfl rfl rfl ?_
    refine W_skip (i := 24) rfl rfl rfl ?_
    refine W_skip (i := 25) rfl rfl rfl ?_
    refine W_q (i := 26) rfl rfl rfl (q_pickT rfl rfl) ?_
    refine W_nil ?_
    refine N_seq ?_
    refine C_condT rfl ?_
    refine C_seq ?_
    refine C_region ?_
    refine wa (i := 0) rfl rfl rfl rfl ?_
    refine W_nil ?_
    refine N_seq ?_
    refine C_ret fun a w ha hk => ?_
    exact R_val (e := .ret) (.inl rfl) ha.defers (res1 ha rfl rfl) (hR _ _ _ ⟨by rw [hg], y, ⟨hy, by rw [hg], rfl, Nat.le_add_right _ _⟩, Nat.le_refl _, rfl⟩ (aK hk))
   ·
    try simp only [CL] at ht42
    refine wm (i := 16) rfl rfl rfl rfl ?_
    refine wc (i := 17) rfl rfl rfl rfl ?_
    refine W_q (i := 18) rfl rfl rfl (q_fieldAddr fb_90_5 rfl rfl) ?_
    refine W_q (i := 19) rfl rfl rfl (q_loadM ag_87 rfl (mem_of_perm (A := y.kb) aC (BrA.m_job hlk)) rfl) ?_
    rw [hsv]
    refine wc (i := 20) rfl rfl rfl rfl ?_
    refine W_q (i := 21) rfl rfl rfl (q_fieldAddr fb_131_0 rfl rfl) ?_
    refine W_q (i := 22) rfl rfl rfl (q_fieldAddr fb_60_1 rfl rfl) ?_
    refine W_q (i := 23) rfl rfl rfl (q_loadM (v := .int .u32 s.s.img.ver) ag_31 rfl (mem_of_perm (A := y.kb) aC (BrA.m_sv hlk hsv)) rfl) ?_
    refine wm (i := 24) rfl rfl rfl rfl ?_
    refine W_q (i := 25) rfl rfl rfl (q_int rfl rfl rfl) ?_
    refine W_q (i := 26) rfl rfl rfl (q_pickF rfl rfl) ?_
    refine W_nil ?_
    refine N_seq ?_
    refine C_cond rfl (fun ht53 => ?_) (fun ht53 => ?_)
    ·
     try simp only [CL] at ht53
     have hg : y.b.published id ver ok = (6, y.b) := by rw [Qd.Brain.published, job_b, hlk]; dsimp only [Option.map_some]; rw [hjs, hsv]; dsimp only [Option.map_some]; rw [if_pos (.inr ht53)]
     refine C_seq ?_
     refine C_region ?_
     refine wa (i := 0) rfl rfl rfl rfl ?_
     refine W_nil ?_
     refine N_seq ?_
     refine C_ret fun a w ha hk => ?_
     exact R_val (e := .ret) (.inl rfl) ha.defers (res1 ha rfl rfl) (hR _ _ _ ⟨by rw [hg], y, ⟨hy, by rw [hg], rfl, Nat.le_add_right _ _⟩, Nat.le_refl _, rfl⟩ (aK hk))
    ·
     try simp only [CL] at ht53
     have hg : y.b.published id ver ok = (0, y.b.finish id { j.x with j := if ok then { j.x.j with credit := s.s.img.credit } else j.x.j, saving := none }) := by rw [Qd.Brain.published, job_b, hlk]; dsimp only [Option.map_some]; rw [hjs, hsv]; dsimp only [Option.map_some]; rw [if_neg (by rintro (h | h); exact absurd h (by simpa using ht42); exact h ht53)]
     refine C_skip ?_
     refine N_seq ?_
     refine C_seq ?_
     refine C_seq ?_
     refine C_perm _ ?_ ((BrA.open_ hlk).append_right F)
     rw [opn_eq]
     have hjc : j.cells = (savJ j s).cells := by simp only [JobA.cells, savJ, hsv]
     rw [hsv, svKb_some, hjc]
     simp only [SavA.kb, List.cons_append, List.append_assoc]
     refine C_region ?_
     refine wm (i := 0) rfl rfl rfl rfl ?_
     refine W_nil ?_
     refine N_seq ?_
     refine C_cond rfl (fun ht54 => ?_) (fun ht54 => ?_)
     ·
      try simp only [CL] at ht54
      subst ht54
      refine C_region ?_
      refine wm (i := 0) rfl rfl rfl rfl ?_
      refine wm (i := 1) rfl rfl rfl rfl ?_
      refine wc (i := 2) rfl rfl rfl rfl ?_
      refine W_q (i := 3) rfl rfl rfl (q_fieldAddr fb_90_5 rfl rfl) ?_
      refine W_q (i := 4) rfl rfl rfl (q_load ag_87 rfl aP rfl) ?_
      refine wc (i := 5) rfl rfl rfl rfl ?_
      refine W_q (i := 6) rfl rfl rfl (q_fieldAddr fb_131_0 rfl rfl) ?_
      refine W_q (i := 7) rfl rfl rfl (q_fieldAddr fb_60_2 rfl rfl) ?_
      refine W_q (i := 8) rfl rfl rfl (q_load ag_3 rfl aP rfl) ?_
      refine wc (i := 9) rfl rfl rfl rfl ?_
      refine W_q (i := 10) rfl rfl rfl (q_fieldAddr fb_90_0 rfl rfl) ?_
      refine W_q (i := 11) rfl rfl rfl (q_fieldAddr fb_35_5 rfl rfl) ?_
      refine W_e (i := 12) rfl rfl rfl (e_store sz_3 rfl rfl rfl aU (by first | decide | exact Nat.le_of_ble_eq_true rfl | simp [splice, Value.cells])) ?_
      intro _
      refine W_nil ?_
      refine N_seq ?_
      refine C_seq ?_
      refine C_region ?_
      refine wm (i := 0) rfl rfl rfl rfl ?_
      refine wc (i := 1) rfl rfl rfl rfl ?_
      refine W_q (i := 2) rfl rfl rfl (q_fieldAddr fb_90_5 rfl rfl) ?_
      refine W_e (i := 3) rfl rfl rfl (e_store sz_87 rfl rfl rfl aU (by first | decide | exact Nat.le_of_ble_eq_true rfl | simp [splice, Value.cells])) ?_
      intro _
      refine W_nil ?_
      refine N_seq ?_
      refine C_seq ?_
      refine C_to (opn (y.set id (pubJ j s.s.img.credit)) (pubJ j s.s.img.credit) (mapV JobA.ptr y.jobs) (mapKb JobA.kb (Qd.delA y.jobs id)) ++ F) (by (try simp only [opn_eq, BrA.set, pubJ, BrA.osK, BrA.isK, BrA.dsK, BrA.msK, svKb_none]); exact aT) ?_
      refine C_perm _ ?_ ((BrA.close_ (y := y.set id (pubJ j s.s.img.credit)) (id := id) (a := (pubJ j s.s.img.credit)) BrA.set_look (BrA.set_pm (y := y) (a' := (pubJ j s.s.img.credit)) hlk rfl) (BrA.set_js (y := y) (a' := (pubJ j s.s.img.credit)) hlk)).append_right F)
      refine C_region ?_
      refine wm (i := 0) rfl rfl rfl rfl ?_
      refine wm (i := 1) rfl rfl rfl rfl ?_
      refine W_call (i := 2) rfl rfl rfl rfl rfl rfl pf_39 (s_finish (y.set id (pubJ j s.s.img.credit)) (hy.set hlk (pubJ_ok hjo _) hji rfl) id (pubJ j s.s.img.credit) BrA.set_look hsz0) aC ?_
      rintro _ _ ⟨rfl, y', hto, rfl⟩
      refine W_nil ?_
      refine N_seq ?_
      refine C_seq ?_
      refine C_region ?_
      refine wa (i := 0) rfl rfl rfl rfl ?_
      refine W_nil ?_
      refine N_seq ?_
      refine C_ret fun a w ha hk => ?_
      exact R_val (e := .ret) (.inl rfl) ha.defers (res1 ha rfl rfl) (hR _ _ _ ⟨by rw [hg], y', ⟨hto.ok, by rw [hto.b, hg, BrA.set_b]; exact finish_set (x := (pubJ j _).x) (BrA.look_mj hlk) hji, hto.blk, hto.sz⟩, Nat.le_trans hto.len (len_set hlk), rfl⟩ (aK hk))
     ·
      try simp only [CL] at ht54
      subst ht54
      refine C_skip ?_
      refine N_seq ?_
      refine C_seq ?_
      refine C_region ?_
      refine wm (i := 0) rfl rfl rfl rfl ?_
      refine wc (i := 1) rfl rfl rfl rfl ?_
      refine W_q (i := 2) rfl rfl rfl (q_fieldAddr fb_90_5 rfl rfl) ?_
      refine W_e (i := 3) rfl rfl rfl (e_store sz_87 rfl rfl rfl aU (by first | decide | exact Nat.le_of_ble_eq_true rfl | simp [splice, Value.cells])) ?_
      intro _
      refine W_nil ?_
      refine N_seq ?_
      refine C_seq ?_
      refine C_to (opn (y.set id (pubJ j j.x.j.credit)) (pubJ j j.x.j.credit) (mapV JobA.ptr y.jobs) (mapKb JobA.kb (Qd.delA y.jobs id)) ++ F) (by (try simp only [opn_eq, BrA.set, pubJ, BrA.osK, BrA.isK, BrA.dsK, BrA.msK, svKb_none]); exact aT) ?_
      refine C_perm _ ?_ ((BrA.close_ (y := y.set id (pubJ j j.x.j.credit)) (id := id) (a := (pubJ j j.x.j.credit)) BrA.set_look (BrA.set_pm (y := y) (a' := (pubJ j j.x.j.credit)) hlk rfl) (BrA.set_js (y := y) (a' := (pubJ j j.x.j.credit)) hlk)).append_right F)
      refine C_region ?_
      refine wm (i := 0) rfl rfl rfl rfl ?_
      refine wm (i := 1) rfl rfl rfl rfl ?_
      refine W_call (i := 2) rfl rfl rfl rfl rfl rfl pf_39 (s_finish (y.set id (pubJ j j.x.j.credit)) (hy.set hlk (pubJ_ok hjo _) hji rfl) id (pubJ j j.x.j.credit) BrA.set_look hsz0) aC ?_
      rintro _ _ ⟨rfl, y', hto, rfl⟩
      refine W_nil ?_
      refine N_seq ?_
      refine C_seq ?_
      refine C_region ?_
      refine wa (i := 0) rfl rfl rfl rfl ?_
      refine W_nil ?_
      refine N_seq ?_
      refine C_ret fun a w ha hk => ?_
      exact R_val (e := .ret) (.inl rfl) ha.defers (res1 ha rfl rfl) (hR _ _ _ ⟨by rw [hg], y', ⟨hto.ok, by rw [hto.b, hg, BrA.set_b]; exact finish_set (x := (pubJ j _).x) (BrA.look_mj hlk) hji, hto.blk, hto.sz⟩, Nat.le_trans hto.len (len_set hlk), rfl⟩ (aK hk))
end Go.SL
namespace Go.SL
open Go Go.Proofs
set_option maxRecDepth 10000
theorem fb_60_0 : fieldB Tryz.prog 60 0 = some 0 := by kernel_rfl
set_option maxHeartbeats 2000000 in
theorem s_images [Bs] (y : BrA) (hy : y.Ok) (hb : y.ims.length ≤ 1000000) : Spec Tryz.prog 31 [y.ptr] (y.kb) (fun v K' => ∃ (osl : Sl) (outs : List ImA), v = osl.val ∧ outs.map (·.i) = y.b.takeImages.1 ∧ osl.Ok (flat ImA.cells outs) 4 ∧ (∀ x ∈ outs, x.Ok) ∧ K' = (y.ima [] Sl.nilS).kb ++ (osl.kb (flat ImA.cells outs) 4 60 ++ imsKb outs)) := by
 have hil : y.isl.len = y.ims.length := by have := hy.isl.vlen; rw [flat_len ImA.cells_len] at this; omega
 refine spec_body Tryz.func31 rfl rfl fun F R hR => ?_
 try simp only [NL]
 rw [BrA.kb_eq]
 try simp only [NL]
 refine C_seq ?_
 refine C_region ?_
 refine wa (i := 0) rfl rfl rfl rfl ?_
 refine W_nil ?_
 refine N_seq ?_
 refine C_seq ?_
 refine C_seq ?_
 refine C_region ?_
 refine wm (i := 0) rfl rfl rfl rfl ?_
 refine W_q (i := 1) rfl rfl rfl (q_eqPtrNil Tryz.underlying27 rfl rfl) ?_
 refine W_nil ?_
 refine N_seq ?_
 refine C_condF rfl ?_
 refine C_skip ?_
 refine N_seq ?_
 refine C_seq ?_
 refine C_region ?_
 refine wa (i := 0) rfl rfl rfl rfl ?_
 refine W_nil ?_
 refine N_seq ?_
 refine C_seq ?_
 refine C_seq ?_
 refine C_region ?_
 refine wm (i := 0) rfl rfl rfl rfl ?_
 refine wc (i := 1) rfl rfl rfl rfl ?_
 refine W_q (i := 2) rfl rfl rfl (q_fieldAddr fb_84_7 rfl rfl) ?_
 refine W_q (i := 3) rfl rfl rfl (q_load ag_51 rfl aP rfl) ?_
 refine W_q (i := 4) rfl rfl rfl (q_lenSl Tryz.underlying51 rfl rfl) ?_
 refine wm (i := 5) rfl rfl rfl rfl ?_
 refine W_nil ?_
 refine N_seq ?_
 refine C_block ?_
 refine C_loopT (ι := { q : Nat × Sl // q.1 ≤ y.ims.length ∧ q.2.Ok (flat ImA.cells ((y.ims.take q.1).filter fun x => imgSel y.b x.i)) 4 }) (fun q => [(0, y.ptr), (3, q.1.2.val), (12, y.isl.val), (13, .int .i64 (y.isl.len : Int)), (14, .int .i64 (q.1.1 : Int))]) (fun q => y.kbI ++ (y.isl.kb (flat ImA.cells y.ims) 4 60 ++ (q.1.2.kb (flat ImA.cells ((y.ims.take q.1.1).filter fun x => imgSel y.b x.i)) 4 60 ++ (imsKb ((y.ims.take q.1.1).filter fun x => imgSel y.b x.i) ++ (imsKb (y.ims.drop q.1.1) ++ F))))) (fun q => y.ims.length - q.1.1) ⟨(0, Sl.nilS), Nat.zero_le _, Sl.nil_ok 4⟩ aS (by (try simp only [BrA.kbI_eq, BrA.isK, nilS_kb, List.take_zero, List.drop_zero, List.filter_nil, imsKb_nil, flat_nil]); exact aT) ?_
 rintro ⟨⟨i, osl⟩, hi, hoo⟩
 dsimp only at hi hoo ⊢
 obtain ⟨outs, houts⟩ : ∃ outs, ((y.ims.take i).filter fun x => imgSel y.b x.i) = outs := ⟨_, rfl⟩
 rw [houts] at hoo ⊢
 have hol : osl.len = outs.length := by have := hoo.vlen; rw [flat_len ImA.cells_len] at this; omega
 have hoi : outs.length ≤ i := by rw [← houts]; have := List.length_filter_le (fun x => imgSel y.b x.i) (y.ims.take i); simp at this ⊢; omega
 refine C_seq ?_
 refine C_region ?_
 refine W_q (i := 0) rfl rfl rfl (q_int rfl rfl rfl) ?_
 refine W_nil ?_
 refine N_seq ?_
 refine C_seq ?_
 refine C_cond rfl (fun ht15 => ?_) (fun ht15 => ?_)
 ·
  try simp only [CL] at ht15
  have hil2 : i < y.ims.length := by omega
  obtain ⟨x, hx⟩ : ∃ x, y.ims[i]? = some x := ⟨_, List.getElem?_eq_getElem hil2⟩
  rw [drop_get hx, imsKb_cons]
  refine C_skip ?_
  refine N_seq ?_
  refine C_seq ?_
  refine C_block ?_
  refine C_seq ?_
  refine C_region ?_
  refine W_q (i := 0) rfl rfl rfl (q_idxSl Tryz.underlying51 sz_60 hy.isl rfl rfl (Int.natCast_nonneg _) (by omega) rfl) ?_
  refine W_q (i := 1) rfl rfl rfl (q_loadAggSl (i := i * 4) (us := x.cells) ag_60 sz_60 rfl hy.isl aC (by simp) (by rw [flat_len ImA.cells_len]; omega) (by omega) (flat_at ImA.cells_len _ _ _ hx)) ?_
  refine W_e (i := 2) rfl rfl rfl (e_alloc zf_60) ?_
  intro b5
  refine W_e (i := 3) rfl rfl rfl (e_storeAgg (us := x.cells) sz_60 rfl rfl rfl rfl (by exact Upd.here) (by first | exact Nat.le_refl _ | (simp [Value.cells]; done) | (simp [Value.cells]; exact Nat.le_refl _))) ?_
  intro _
  refine W_nil ?_
  refine N_seq ?_
  refine C_seq ?_
  refine C_draw (.cons 0 .pure (.cons 1 .pure (.cons 2 .pure (.cons 3 .read (.cons 4 .pure (.cons 5 .read (.cons 6 .read (.cons 7 .pure .nil)))))))) (fun w => Knows w _) 8 mo (by kernel_rfl) (fun _ h => h) ?_
  refine D_p rfl rfl rfl (q_move rfl) ?_
  refine D_p rfl rfl rfl (q_nilCheck rfl) ?_
  refine D_p rfl rfl rfl (q_fieldAddr fb_84_4 rfl rfl) ?_
  refine D_r rfl rfl rfl (q_loadM (v := .map (some y.jb)) ag_82 rfl (mem_of_perm (A := y.kbI) aC (BrA.m_yI y)) rfl) ?_
  refine D_p rfl rfl rfl (q_fieldAddr fb_60_0 rfl rfl) ?_
  refine D_r rfl rfl rfl (q_load (v := .int .u32 x.i.job) ag_31 rfl aP rfl) ?_
  refine D_r rfl rfl rfl (q_lookup Tryz.underlying82 Tryz.underlying31 zf_86 rfl rfl (MapAt.mem (mem_of_perm (A := y.kbI) aC (BrA.m_jbI y))) (look_ptr _ _)) ?_
  refine D_p rfl rfl rfl (q_assign rfl) ?_
  refine D_nil ?_
  refine N_seq ?_
  refine C_seq ?_
  refine C_draw (.cons 0 .pure (.cons 1 .pure (.cons 2 .pure (.cons 3 .pure (.cons 4 .pure (.cons 5 .pure (.cons 6 .read (.cons 7 .pure (.cons 8 .pure (.cons 9 .pure (.cons 10 .pure (.cons 11 .pure (.cons 12 .pure (.cons 13 .read (.cons 14 .pure (.cons 15 .pure (.cons 16 .pure (.cons 17 .read (.cons 18 .pure (.cons 19 .read (.cons 20 .pure (.cons 21 .pure .nil)))))))))))))))))))))) (fun w => Knows w _) 22 mo (by kernel_rfl) (fun _ h => h) ?_
  refine D_p rfl rfl rfl (q_move rfl) ?_
  refine D_p rfl rfl rfl (q_nePtrV Tryz.underlying86 rfl rfl) ?_
  refine D_p rfl rfl rfl (q_move rfl) ?_
  refine D_bool 27 _ rfl (fun ht27 => ?_) (fun ht27 => ?_)
  ·
   try simp only [CL] at ht27
   obtain ⟨j, hlk⟩ : ∃ j, Qd.lookA y.jobs x.i.job = some j := Option.isSome_iff_exists.1 ht27
   rw [ptrV_some hlk]
   have hjs := (hy.at hlk).1.sv
   refine D_p rfl rfl rfl (q_move rfl) ?_
   refine D_p rfl rfl rfl (q_nilCheck rfl) ?_
   refine D_p rfl rfl rfl (q_fieldAddr fb_90_5 rfl rfl) ?_
   refine D_r rfl rfl rfl (q_loadM ag_87 rfl (mem_of_perm (A := y.kbI) aC (BrA.m_jobI hlk)) rfl) ?_
   refine D_p rfl rfl rfl (q_neSv Tryz.underlying87 rfl rfl) ?_
   refine D_p rfl rfl rfl (q_pickT rfl rfl) ?_
   refine D_p rfl rfl rfl (q_move rfl) ?_
   refine D_bool 34 _ rfl (fun ht34 => ?_) (fun ht34 => ?_)
   ·
    try simp only [CL] at ht34
    obtain ⟨s, hsv⟩ : ∃ s, j.sv = some s := Option.isSome_iff_exists.1 (by simpa using ht34)
    refine D_p rfl rfl rfl (q_move rfl) ?_
    refine D_p rfl rfl rfl (q_nilCheck rfl) ?_
    refine D_p rfl rfl rfl (q_fieldAddr fb_90_5 rfl rfl) ?_
    refine D_r rfl rfl rfl (q_loadM ag_87 rfl (mem_of_perm (A := y.kbI) aC (BrA.m_jobI hlk)) rfl) ?_
    rw [hsv]
    refine D_p rfl rfl rfl (q_nilCheck rfl) ?_
    refine D_p rfl rfl rfl (q_fieldAddr fb_131_0 rfl rfl) ?_
    refine D_p rfl rfl rfl (q_fieldAddr fb_60_1 rfl rfl) ?_
    refine D_r rfl rfl rfl (q_loadM (v := .int .u32 s.s.img.ver) ag_31 rfl (mem_of_perm (A := y.kbI) aC (BrA.m_svI hlk hsv)) rfl) ?_
    refine D_p rfl rfl rfl (q_fieldAddr fb_60_1 rfl rfl) ?_
    refine D_r rfl rfl rfl (q_load (v := .int .u32 x.i.ver) ag_31 rfl aP rfl) ?_
    refine D_p rfl rfl rfl (q_int rfl rfl rfl) ?_
    refine D_p rfl rfl rfl (q_pickT rfl rfl) ?_
    refine D_nil ?_
    refine N_seq ?_
    refine C_cond rfl (fun ht46 => ?_) (fun ht46 => ?_)
    ·
     try simp only [CL] at ht46
     have hsel : imgSel y.b x.i = true := by rw [imgSel, job_b, hlk]; dsimp only [Option.map_some]; rw [hjs, hsv]; simpa using ht46
     refine C_region ?_
     refine wm (i := 0) rfl rfl rfl rfl ?_
     refine W_q (i := 1) rfl rfl rfl (q_loadAgg (us := x.cells) ag_60 sz_60 rfl aP (by exact Nat.le_of_ble_eq_true rfl) rfl) ?_
     refine W_e (i := 2) rfl rfl rfl (e_lit1 Tryz.underlying51 sz_60 zf_60 (by decide) rfl rfl) ?_
     intro b49
     refine W_e (i := 3) rfl rfl rfl (e_app1 (us := x.cells) (vs' := flat ImA.cells (outs ++ [x])) Tryz.underlying51 inf_60 rfl rfl rfl rfl aP aC hoo (by omega) (by omega) rfl rfl (flat_snoc _ _).symm) ?_
     rintro ⟨sl', hsl', hok'⟩
     refine wa (i := 4) rfl rfl rfl rfl ?_
     refine W_nil ?_
     refine N_seq ?_
     refine C_region ?_
     refine W_q (i := 0) rfl rfl rfl (q_add rfl rfl (succ64 (by omega))) ?_
     refine wm (i := 1) rfl rfl rfl rfl ?_
     refine W_nil ?_
     exact fun a w ha hk => ⟨⟨(i + 1, sl'), by dsimp only; omega, by dsimp only; rw [filter_snoc _ hx, if_pos hsel, houts]; exact hok'⟩, by dsimp only; omega, ha.sub aS, by dsimp only; rw [filter_snoc _ hx, if_pos hsel, houts]; exact hk.take (by (try simp only [imsKb_snoc]); exact aT)⟩
    ·
     try simp only [CL] at ht46
     have hsel : imgSel y.b x.i = false := by rw [imgSel, job_b, hlk]; dsimp only [Option.map_some]; rw [hjs, hsv]; simpa using ht46
     refine C_skip ?_
     refine N_seq ?_
     refine C_region ?_
     refine W_q (i := 0) rfl rfl rfl (q_add rfl rfl (succ64 (by omega))) ?_
     refine wm (i := 1) rfl rfl rfl rfl ?_
     refine W_nil ?_
     exact fun a w ha hk => ⟨⟨(i + 1, osl), by dsimp only; omega, by dsimp only; rw [filter_snoc _ hx, if_neg (by rw [hsel]; decide), houts]; exact hoo⟩, by dsimp only; omega, ha.sub aS, by dsimp only; rw [filter_snoc _ hx, if_neg (by rw [hsel]; decide), houts]; exact hk.take aT⟩
   ·
    try simp only [CL] at ht34
    have hsn : j.sv = none := by simpa using ht34
    have hsel : imgSel y.b x.i = false := by rw [imgSel, job_b, hlk]; dsimp only [Option.map_some]; rw [hjs, hsn]; rfl
    refine D_pskip rfl rfl rfl ?_
    refine D_pskip rfl rfl rfl ?_
    refine D_pskip rfl rfl rfl ?_
    refine D_rskip rfl rfl rfl ?_
    refine D_pskip rfl rfl rfl ?_
    refine D_pskip rfl rfl rfl ?_
    refine D_pskip rfl rfl rfl ?_
    refine D_rskip rfl rfl rfl ?_
    refine D_pskip rfl rfl rfl ?_
    refine D_rskip rfl rfl rfl ?_
    refine D_pskip rfl rfl rfl ?_
    refine D_p rfl rfl rfl (q_pickF rfl rfl) ?_
    refine D_nil ?_
    refine N_seq ?_
    refine C_condF rfl ?_
    refine C_skip ?_
    refine N_seq ?_
    refine C_region ?_
    refine W_q (i := 0) rfl rfl rfl (q_add rfl rfl (succ64 (by omega))) ?_
    refine wm (i := 1) rfl rfl rfl rfl ?_
    refine W_nil ?_
    exact fun a w ha hk => ⟨⟨(i + 1, osl), by dsimp only; omega, by dsimp only; rw [filter_snoc _ hx, if_neg (by rw [hsel]; decide), houts]; exact hoo⟩, by dsimp only; omega, ha.sub aS, by dsimp only; rw [filter_snoc _ hx, if_neg (by rw [hsel]; decide), houts]; exact hk.take aT⟩
  ·
   try simp only [CL] at ht27
   have hno : Qd.lookA y.jobs x.i.job = none := by simpa using ht27
   have hsel : imgSel y.b x.i = false := by rw [imgSel, job_b, hno]; rfl
   refine D_pskip rfl rfl rfl ?_
   refine D_pskip rfl rfl rfl ?_
   refine D_pskip rfl rfl rfl ?_
   refine D_rskip rfl rfl rfl ?_
   refine D_pskip rfl rfl rfl ?_
   refine D_p rfl rfl rfl (q_pickF rfl rfl) ?_
   refine D_p rfl rfl rfl (q_move rfl) ?_
   refine D_pskip rfl rfl rfl ?_
   refine D_pskip rfl rfl rfl ?_
   refine D_pskip rfl rfl rfl ?_
   refine D_rskip rfl rfl rfl ?_
   refine D_pskip rfl rfl rfl ?_
   refine D_pskip rfl rfl rfl ?_
   refine D_pskip rfl rfl rfl ?_
   refine D_rskip rfl rfl rfl ?_
   refine D_pskip rfl rfl rfl ?_
   refine D_rskip rfl rfl rfl ?_
   refine D_pskip rfl rfl rfl ?_
   refine D_p rfl rfl rfl (q_pickF rfl rfl) ?_
   refine D_nil ?_
   refine N_seq ?_
   refine C_condF rfl ?_
   refine C_skip ?_
   refine N_seq ?_
   refine C_region ?_
   refine W_q (i := 0) rfl rfl rfl (q_add rfl rfl (succ64 (by omega))) ?_
   refine wm (i := 1) rfl rfl rfl rfl ?_
   refine W_nil ?_
   exact fun a w ha hk => ⟨⟨(i + 1, osl), by dsimp only; omega, by dsimp only; rw [filter_snoc _ hx, if_neg (by rw [hsel]; decide), houts]; exact hoo⟩, by dsimp only; omega, ha.sub aS, by dsimp only; rw [filter_snoc _ hx, if_neg (by rw [hsel]; decide), houts]; exact hk.take aT⟩
 ·
  try simp only [CL] at ht15
  have hil2 : i = y.ims.length := by omega
  subst hil2
  rw [List.take_length] at houts
  simp only [BrA.kbI_eq, List.cons_append, List.append_assoc]
  refine C_exit ?_
  refine N_seq ?_
  refine C_seq ?_
  refine C_region ?_
  refine wm (i := 0) rfl rfl rfl rfl ?_
  refine wc (i := 1) rfl rfl rfl rfl ?_
  refine W_q (i := 2) rfl rfl rfl (q_fieldAddr fb_84_7 rfl rfl) ?_
  refine W_e (i := 3) rfl rfl rfl (e_store sz_51 rfl rfl rfl aU (by first | decide | exact Nat.le_of_ble_eq_true rfl | simp [splice, Value.cells])) ?_
  intro _
  refine W_nil ?_
  refine N_seq ?_
  refine C_seq ?_
  refine C_region ?_
  refine wm (i := 0) rfl rfl rfl rfl ?_
  refine wa (i := 1) rfl rfl rfl rfl ?_
  refine W_nil ?_
  refine N_seq ?_
  refine C_ret fun a w ha hk => ?_
  exact R_val (e := .ret) (.inl rfl) ha.defers (res1 ha rfl rfl) (hR _ _ _ ⟨osl, outs, rfl, by rw [← houts, Qd.Brain.takeImages]; simp only [BrA.b]; rw [List.filter_map]; rfl, hoo, fun x hx => by rw [← houts] at hx; exact hy.ims x (List.mem_filter.1 hx).1, rfl⟩ (hk.take (by (try simp only [BrA.kb_eq, BrA.ima, BrA.jsK, imsKb_nil, flat_nil, BrA.osK, BrA.isK, BrA.dsK, BrA.msK, nilS_kb]); exact aT)))
end Go.SL
namespace Go.SL
open Go
section
variable {P : Program} {n : Nat} {ops : List Oper} {Q : Exit → Act → World → Prop} {i : Nat} {rest : List Nat} {L : Env} {K : KB}
theorem run_invoke {d : Option Nat} {x : Operand} {xs : Array Operand} {ats : Array TypeId} {name : String} {ty pos aft gd} {recv : Value} {f : FuncId} {vs args : List Value} {a : Act} {w : World} (ha : Holds n a L)
    (hx : ev L x = some recv) (hxs : evs L xs.toList = some vs) (hm : ∀ w, (callMethod recv name vs.toArray).run P w = .ok (.enter f args.toArray) w) :
    (execOp a.eval ⟨d, .call ⟨.invoke x name, xs, ats⟩, ty, pos, aft, gd⟩).run P w = .ok (.enter f args.toArray) w := by
  have h1 := ev_eval ha hx
  have h2 : xs.map a.eval = vs.toArray := by
    apply Array.ext'
    simpa using evs_eval ha hxs
  have h3 : (#[recv] ++ vs.toArray : Array Value).extract 1 (#[recv] ++ vs.toArray : Array Value).size = vs.toArray := by
    apply Array.ext'; simp
  have h4 : (#[recv] ++ vs.toArray : Array Value)[0]? = some recv := by simp
  simp only [execOp, resolve, h1, h2, invoke, Sem.run_bind, Sem.run_pure, Result.andThen, h4, h3, hm]
theorem W_callM [Bs] {d : Option Nat} {x : Operand} {xs : Array Operand} {ats : Array TypeId} {name : String} {ty pos aft gd} {recv : Value} {f : FuncId} {vs args : List Value} {Kc F : KB} {post : Value → KB → Prop} [hQ : Good Q]
    (ho : nthO ops i = some ⟨d, .call ⟨.invoke x name, xs, ats⟩, ty, pos, aft, gd⟩) (hw : wanted ops L ⟨d, .call ⟨.invoke x name, xs, ats⟩, ty, pos, aft, gd⟩ = some true) (hd : fits n d = true)
    (hx : ev L x = some recv) (hxs : evs L xs.toList = some vs) (hm : ∀ w, (callMethod recv name vs.toArray).run P w = .ok (.enter f args.toArray) w)
    (hs : Spec P f args Kc post) (hK : K.Perm (Kc ++ F)) (h : ∀ v K', post v K' → W P n ops Q rest (puts L d v) (K' ++ F)) : W P n ops Q (i :: rest) L K := by
  intro a w ha hk
  simp only [wpOps, nthO_eq, ho]
  rw [if_pos (wanted_spec hw ha)]
  exact .inl (wp_of_spec (run_invoke ha hx hxs hm) hs (hk.perm hK) fun v K' w' hpost hk' => h v K' hpost _ _ (ha.puts hd) hk')
end
end Go.SL
