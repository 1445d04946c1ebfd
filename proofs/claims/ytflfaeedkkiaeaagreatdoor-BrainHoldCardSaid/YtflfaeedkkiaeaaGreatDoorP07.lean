/- Proved: for every input quadrillelaw19.BrainHold returns true and leaves its arguments as they were (the tied card Rows.BrainHoldCardSaid). Conditions: those of the given row alone (math/bits.deBruijn32tab holds what the program's text lays); none is added. -/
import Derived.Test.YtflfaeedkkiaeaaGreatDoorP06
namespace Go.SL
open Go Go.Proofs
set_option maxRecDepth 10000
def SimA.nowS (s : SimA) (now : Int) : SimA := { s with now }
def SimA.ndS (s : SimA) (nodes : List NodeA) : SimA := { s with nodes }
def SimA.ranS (s : SimA) (ran : List (Int × Int)) : SimA := { s with ran }
structure NdInv (s s1 : SimA) (nl : List NodeA) (rm : List (Int × Int)) (now : Int) (i : Nat) : Prop where
  ok : (s1.ndS nl).Ok
  len : nl.length = s.nodes.length
  n : nl.map (·.n) = (s.m.nodes.take i).map (·.tick now) ++ s.m.nodes.drop i
  rest : ∀ j, i ≤ j → nl[j]? = s.nodes[j]?
  rme : rm = ((s.m.nodes.take i).map (·.tick now)).foldl rmStep []
  bd : ∀ k, 0 ≤ (Qd.lookA rm k).getD 0 ∧ (Qd.lookA rm k).getD 0 ≤ (i : Int)
theorem NdInv.step {s s1 : SimA} {nl : List NodeA} {rm : List (Int × Int)} {now : Int} {i : Nat} (h : NdInv s s1 nl rm now i) {x x' : NodeA} (hx : s.nodes[i]? = some x) (ho : x'.Ok) (hp : x'.ptr = x.ptr) (hn : x'.n = x.n.tick now) {rm' : List (Int × Int)} (hrm : rm' = rmStep rm x'.n) : NdInv s s1 (nl.set i x') rm' now (i + 1) := by
  have hxl : nl[i]? = some x := by rw [h.rest i (Nat.le_refl _)]; exact hx
  have hxm := SimA.nodes_m hx
  have hil : i < s.m.nodes.length := (List.getElem?_eq_some_iff.1 hxm).1
  have htk : (s.m.nodes.take (i + 1)).map (·.tick now) = (s.m.nodes.take i).map (·.tick now) ++ [x.n.tick now] := by rw [List.take_add_one, hxm]; simp
  refine ⟨SimA.Ok.setN (s := s1.ndS nl) h.ok hxl ho hp, by simp [h.len], ?_, ?_, ?_, ?_⟩
  · rw [List.map_set, h.n, htk, hn]
    have hl : ((s.m.nodes.take i).map (·.tick now)).length = i := by simp; omega
    have hd : s.m.nodes.drop i = x.n :: s.m.nodes.drop (i + 1) := drop_get hxm
    rw [hd, List.set_append, if_neg (by omega), hl, Nat.sub_self]
    simp
  · intro j hj
    rw [List.getElem?_set, if_neg (by omega)]
    exact h.rest j (by omega)
  · rw [htk, List.foldl_append, ← h.rme, hrm, hn]; rfl
  · intro k
    have hb := h.bd k
    rw [hrm]
    unfold rmStep
    split
    · rw [Qd.lookA_put]
      split
      · have hb2 := h.bd x'.n.running
        simp only [Option.getD_some]; omega
      · omega
    · omega
theorem look_i64 (m : List (Int × Int)) (k : Int) : (lookI (mapV i64V m) k).getD (.int .i64 0) = .int .i64 ((Qd.lookA m k).getD 0) := by
  rw [lookI_mapV]; cases Qd.lookA m k <;> rfl
def zjob : Qd.ApiJob := {}
theorem look_job (m : List (Int × Qd.ApiJob)) (k : Int) : (lookI (mapV jobAgg m) k).getD (jobAgg zjob) = jobAgg ((Qd.lookA m k).getD zjob) := by
  rw [lookI_mapV]; cases Qd.lookA m k <;> rfl
theorem SimA.m_jobs (s : SimA) : (s.jobsB, MapI .u32 (mapV jobAgg s.jobs)) ∈ s.kb := by rw [SimA.kb_eq]; simp
/-- one entry at the most -/
def RfAt (jobs : List (Int × Qd.ApiJob)) (rm ran0 : List (Int × Int)) (n : Nat) (ran : List (Int × Int)) : Prop := (n = 0 ∧ ran = ran0) ∨ (n = rm.length ∧ ran = rm.foldl (rfStep jobs) ran0)
theorem kz (m : List (Int × Qd.ApiJob)) (k : Int) : ((Qd.lookA m k).map (·.k)).getD 0 = ((Qd.lookA m k).getD zjob).k := by cases Qd.lookA m k <;> rfl
theorem ag_49 : aggB Tryz.prog 49 = some false := by kernel_rfl
theorem fb_55_3 : fieldB Tryz.prog 55 3 = some 6 := by kernel_rfl
theorem fb_55_5 : fieldB Tryz.prog 55 5 = some 8 := by kernel_rfl
theorem fb_55_6 : fieldB Tryz.prog 55 6 = some 9 := by kernel_rfl
theorem part_35_2_Sm8 : partB Tryz.prog 35 2 = some (2, 1, false) := by kernel_rfl
theorem pf_14 : plainFn Tryz.prog 14 = true := by kernel_rfl
theorem pf_96 : plainFn Tryz.prog 96 = true := by kernel_rfl
theorem zf_35 : zeroB Tryz.prog 35 = some (Go.Value.agg #[Go.Value.int (Go.IntKind.u32) 0, Go.Value.int (Go.IntKind.u8) 0, Go.Value.int (Go.IntKind.i64) 0, Go.Value.int (Go.IntKind.i64) 0, Go.Value.int (Go.IntKind.u8) 0, Go.Value.int (Go.IntKind.i64) 0]) := by kernel_rfl
set_option maxHeartbeats 2000000 in
theorem s_stick [Bs] (s : SimA) (hs : s.Ok) (hpre : tkpre s.m = true) : Spec Tryz.prog 55 [s.ptr] (s.kb ++ TZ) (fun v K' => v = .tuple #[] ∧ ∃ s' : SimA, s'.Ok ∧ s'.m = s.m.tick ∧ s'.ptr = s.ptr ∧ K' = s'.kb ++ TZ) := by
 simp only [tkpre, Bool.and_eq_true, decide_eq_true_eq] at hpre
 obtain ⟨⟨⟨⟨⟨⟨⟨⟨p1, p2⟩, p3⟩, p4⟩, p5⟩, p6⟩, p7⟩, p8⟩, p9⟩ := hpre
 have hRm := roomy_of p1
 have hnow : s.m.now = s.now := rfl
 rw [hnow] at p2 p3 p7
 have hRy1 := hRm.os
 have hRy2 := hRm.im
 have hRy3 := hRm.dn
 have hnsl : s.nsl.len = s.nodes.length := by have := hs.nsl.vlen; simp [nptrs] at this; omega
 have hnl1000 : s.nodes.length ≤ 1000 := by simpa [SimA.m] using p9
 refine spec_body Tryz.func55 rfl rfl fun F R hR => ?_
 try simp only [NL]
 rw [SimA.kb_eq]
 try simp only [NL]
 refine C_seq ?_
 refine C_region ?_
 refine wm (i := 0) rfl rfl rfl rfl ?_
 refine wc (i := 1) rfl rfl rfl rfl ?_
 refine W_q (i := 2) rfl rfl rfl (q_fieldAddr fb_55_3 rfl rfl) ?_
 refine W_q (i := 3) rfl rfl rfl (q_load ag_31 rfl aP rfl) ?_
 refine W_q (i := 4) rfl rfl rfl (q_add rfl rfl (r := (s.now + 1)) (by rw [wrap_u32]; omega)) ?_
 refine wc (i := 5) rfl rfl rfl rfl ?_
 refine W_q (i := 6) rfl rfl rfl (q_fieldAddr fb_55_3 rfl rfl) ?_
 refine W_e (i := 7) rfl rfl rfl (e_store sz_31 rfl rfl rfl aU (by first | decide | exact Nat.le_of_ble_eq_true rfl | simp [splice, Value.cells])) ?_
 intro _
 refine W_nil ?_
 refine N_seq ?_
 refine C_seq ?_
 refine C_to ((s.nowS (s.now + 1)).kb ++ (TZ ++ F)) (by (try simp only [SimA.kb_eq, SimA.nowS]); exact aT) ?_
 have hs1 : (s.nowS (s.now + 1)).Ok := { hs with }
 refine C_region ?_
 refine W_e (i := 0) rfl rfl rfl (e_makeMap .u32) ?_
 intro b15
 refine wa (i := 1) rfl rfl rfl rfl ?_
 refine W_nil ?_
 refine N_seq ?_
 refine C_seq ?_
 refine C_seq ?_
 refine C_region ?_
 refine wm (i := 0) rfl rfl rfl rfl ?_
 refine wc (i := 1) rfl rfl rfl rfl ?_
 refine W_q (i := 2) rfl rfl rfl (q_fieldAddr fb_55_2 rfl rfl) ?_
 refine W_q (i := 3) rfl rfl rfl (q_loadM (v := s.nsl.val) ag_48 rfl (mem_of_perm (A := (s.nowS (s.now + 1)).kb) aC (SimA.m_s (s.nowS (s.now + 1)))) rfl) ?_
 refine W_q (i := 4) rfl rfl rfl (q_lenSl Tryz.underlying48 rfl rfl) ?_
 refine wm (i := 5) rfl rfl rfl rfl ?_
 refine W_nil ?_
 refine N_seq ?_
 refine C_block ?_
 refine C_loopT (ι := { q : Nat × List NodeA × List (Int × Int) // q.1 ≤ s.nodes.length ∧ NdInv s (s.nowS (s.now + 1)) q.2.1 q.2.2 (s.now + 1) q.1 }) (fun q => [(0, s.ptr), (2, .map (some b15)), (19, s.nsl.val), (20, .int .i64 (s.nsl.len : Int)), (21, .int .i64 (q.1.1 : Int))]) (fun q => ((s.nowS (s.now + 1)).ndS q.1.2.1).kb ++ ((b15, MapI .u32 (mapV i64V q.1.2.2)) :: (TZ ++ F))) (fun q => s.nodes.length - q.1.1) ⟨(0, s.nodes, []), Nat.zero_le _, ⟨hs1, rfl, rfl, fun _ _ => rfl, rfl, fun k => ⟨by simp [Qd.lookA], by simp [Qd.lookA]⟩⟩⟩ aS (by (try simp only [SimA.ndS, SimA.nowS, mapV_nil]); exact aT) ?_
 rintro ⟨⟨i, nl, rm⟩, hi, hE⟩
 dsimp only at hi hE ⊢
 have hbd := hE.bd
 refine C_seq ?_
 refine C_region ?_
 refine W_q (i := 0) rfl rfl rfl (q_int rfl rfl rfl) ?_
 refine W_nil ?_
 refine N_seq ?_
 refine C_seq ?_
 refine C_cond rfl (fun ht22 => ?_) (fun ht22 => ?_)
 ·
  try simp only [CL] at ht22
  have hil : i < s.nodes.length := by omega
  obtain ⟨x, hx⟩ : ∃ x, s.nodes[i]? = some x := ⟨_, List.getElem?_eq_getElem hil⟩
  have hxl : nl[i]? = some x := by rw [hE.rest i (Nat.le_refl _)]; exact hx
  have hxin := List.mem_of_getElem? hx
  have hxo := hs.nodes x hxin
  have hxr := hRm.out x hxin
  have hxt : oneRun (x.n.tick (s.now + 1)) = true := List.all_eq_true.1 p4 _ (List.mem_map_of_mem (f := fun n : Qd.Node => n.tick (s.now + 1)) (List.mem_of_getElem? (SimA.nodes_m hx)))
  refine C_skip ?_
  refine N_seq ?_
  refine C_seq ?_
  refine C_block ?_
  refine C_seq ?_
  refine C_region ?_
  refine W_q (i := 0) rfl rfl rfl (q_idxSl Tryz.underlying48 sz_103 hE.ok.nsl rfl rfl (by omega) (show (i : Int) < (s.nsl.len : Int) from by omega) rfl) ?_
  refine W_q (i := 1) rfl rfl rfl (q_loadSlM (i := i) (v := x.ptr) ag_103 rfl hE.ok.nsl (perm_in (A := ((s.nowS (s.now + 1)).ndS nl).kb) aC (SimA.p_nsl ((s.nowS (s.now + 1)).ndS nl))) (by simp) (nptrs_at hxl)) ?_
  refine wa (i := 2) rfl rfl rfl rfl ?_
  refine W_nil ?_
  refine N_seq ?_
  refine C_seq ?_
  refine C_perm _ ?_ ((SimA.open_ (s := ((s.nowS (s.now + 1)).ndS nl)) hxl).append_right ((b15, MapI .u32 (mapV i64V rm)) :: (TZ ++ F)))
  rw [SimA.kb0_eq]
  try simp only [NL]
  refine C_region ?_
  refine wm (i := 0) rfl rfl rfl rfl ?_
  refine wm (i := 1) rfl rfl rfl rfl ?_
  refine wc (i := 2) rfl rfl rfl rfl ?_
  refine W_q (i := 3) rfl rfl rfl (q_fieldAddr fb_55_3 rfl rfl) ?_
  refine W_q (i := 4) rfl rfl rfl (q_load ag_31 rfl aP rfl) ?_
  refine W_call (i := 5) rfl rfl rfl rfl rfl rfl pf_96 (s_ntick x hxo hxr.2 (s.now + 1)) aC ?_
  rintro _ _ ⟨rfl, x', hx'o, hx'n, hx'p, rfl⟩
  refine W_nil ?_
  refine N_seq ?_
  refine C_seq ?_
  refine C_region ?_
  refine wm (i := 0) rfl rfl rfl rfl ?_
  refine W_call (i := 1) rfl rfl rfl rfl rfl rfl pf_59 ((show Spec Tryz.prog 59 [x.ptr] x'.kb (fun v K' => v = .int .u32 x'.n.running ∧ K' = x'.kb) from by rw [← hx'p]; exact s_running x' hx'o (by rw [hx'n]; exact hxt))) aC ?_
  rintro _ _ ⟨rfl, rfl⟩
  refine wa (i := 2) rfl rfl rfl rfl ?_
  refine W_nil ?_
  refine N_seq ?_
  refine C_seq ?_
  refine C_region ?_
  refine wm (i := 0) rfl rfl rfl rfl ?_
  refine W_q (i := 1) rfl rfl rfl (q_int rfl rfl rfl) ?_
  refine W_nil ?_
  refine N_seq ?_
  refine C_cond rfl (fun ht34 => ?_) (fun ht34 => ?_)
  ·
   try simp only [CL] at ht34
   refine C_region ?_
   refine wm (i := 0) rfl rfl rfl rfl ?_
   refine wm (i := 1) rfl rfl rfl rfl ?_
   refine W_q (i := 2) rfl rfl rfl (q_lookup Tryz.underlying44 Tryz.underlying31 zf_3 rfl rfl (MapAt.of aP) (look_i64 _ _)) ?_
   refine W_q (i := 3) rfl rfl rfl (q_add rfl rfl (r := (Qd.lookA rm x'.n.running).getD 0 + 1) (wrap64_id (by have := hbd x'.n.running; omega) (by have := hbd x'.n.running; omega))) ?_
   refine W_e (i := 4) rfl rfl rfl (e_mapUpdate Tryz.underlying44 Tryz.underlying31 rfl rfl (v := i64V ((Qd.lookA rm x'.n.running).getD 0 + 1)) rfl (putI_mapV i64V rm x'.n.running ((Qd.lookA rm x'.n.running).getD 0 + 1)) aU) ?_
   intro _
   refine W_nil ?_
   refine N_seq ?_
   refine C_to (x'.kb ++ (nodesKb (((s.nowS (s.now + 1)).ndS nl).nodes.eraseIdx i) ++ ((s.nowS (s.now + 1)).ndS nl).kb0) ++ ((b15, MapI .u32 (mapV i64V (Qd.putA rm x'.n.running ((Qd.lookA rm x'.n.running).getD 0 + 1)))) :: (TZ ++ F))) (by (try simp only [SimA.kb0_eq]); exact aT) ?_
   refine C_perm _ ?_ ((SimA.close_ (s := ((s.nowS (s.now + 1)).ndS nl)) hxl hx'p).append_right ((b15, MapI .u32 (mapV i64V (Qd.putA rm x'.n.running ((Qd.lookA rm x'.n.running).getD 0 + 1)))) :: (TZ ++ F)))
   refine C_region ?_
   refine W_q (i := 0) rfl rfl rfl (q_add rfl rfl (by first | exact wrap64_id (by omega) (by omega) | rfl)) ?_
   refine wm (i := 1) rfl rfl rfl rfl ?_
   refine W_nil ?_
   exact fun a w ha hk => ⟨⟨(i + 1, nl.set i x', (Qd.putA rm x'.n.running ((Qd.lookA rm x'.n.running).getD 0 + 1))), by dsimp only; omega, hE.step hx hx'o hx'p hx'n (by rw [rmStep, if_pos ht34])⟩, by dsimp only; omega, ha.sub aS, hk.take aT⟩
  ·
   try simp only [CL] at ht34
   refine C_skip ?_
   refine N_seq ?_
   refine C_to (x'.kb ++ (nodesKb (((s.nowS (s.now + 1)).ndS nl).nodes.eraseIdx i) ++ ((s.nowS (s.now + 1)).ndS nl).kb0) ++ ((b15, MapI .u32 (mapV i64V rm)) :: (TZ ++ F))) (by (try simp only [SimA.kb0_eq]); exact aT) ?_
   refine C_perm _ ?_ ((SimA.close_ (s := ((s.nowS (s.now + 1)).ndS nl)) hxl hx'p).append_right ((b15, MapI .u32 (mapV i64V rm)) :: (TZ ++ F)))
   refine C_region ?_
   refine W_q (i := 0) rfl rfl rfl (q_add rfl rfl (by first | exact wrap64_id (by omega) (by omega) | rfl)) ?_
   refine wm (i := 1) rfl rfl rfl rfl ?_
   refine W_nil ?_
   exact fun a w ha hk => ⟨⟨(i + 1, nl.set i x', rm), by dsimp only; omega, hE.step hx hx'o hx'p hx'n (by rw [rmStep, if_neg (by simpa using ht34)])⟩, by dsimp only; omega, ha.sub aS, hk.take aT⟩
 ·
  try simp only [CL] at ht22
  have hil : i = s.nodes.length := by omega
  subst hil
  refine C_exit ?_
  refine N_seq ?_
  refine C_seq ?_
  refine C_seq ?_
  have hnf : nl.map (·.n) = (tk1 s.m).nodes := by rw [hE.n, show s.nodes.length = s.m.nodes.length from by simp [SimA.m], List.take_length, List.drop_length, List.append_nil]; rfl
  have hrme : rm = (tk1 s.m).runningMap := by rw [hE.rme, show s.nodes.length = s.m.nodes.length from by simp [SimA.m], List.take_length]; rfl
  have hrl : rm.length ≤ 1 := by rw [hrme]; exact p5
  have hrb : ∀ k, 0 ≤ (Qd.lookA s.ran k).getD 0 ∧ (Qd.lookA s.ran k).getD 0 ≤ 1000000 := fun k => by cases hl : Qd.lookA s.ran k with | none => simp | some v => have := List.all_eq_true.1 p6 _ (Qd.lookA_mem hl); simpa using this
  refine C_region ?_
  refine wm (i := 0) rfl rfl rfl rfl ?_
  refine W_e (i := 1) rfl rfl rfl (e_range Tryz.underlying44 rfl aP) ?_
  rintro ⟨⟨it41, hit41⟩, ib41⟩
  refine W_nil ?_
  refine N_seq ?_
  refine C_block ?_
  refine C_loopT (ι := { q : It (mapV i64V rm) × List (Int × Int) // RfAt s.jobs rm s.ran q.1.vis.length q.2 }) (fun q => [(0, s.ptr), (41, .pointer (some ⟨ib41, 0, none⟩))]) (fun q => q.1.1.kb .u32 ib41 b15 ++ ((((s.nowS (s.now + 1)).ndS nl).ranS q.1.2).kb ++ (TZ ++ F))) (fun q => rm.length - q.1.1.vis.length) ⟨(it41, s.ran), .inl ⟨by rw [hit41]; rfl, rfl⟩⟩ aS (by (try simp only [SimA.ranS, SimA.ndS, SimA.nowS]); exact aT) ?_
  rintro ⟨⟨it, ran⟩, hrf⟩
  dsimp only at hrf ⊢
  refine C_seq ?_
  refine C_region ?_
  refine W_e (i := 0) rfl rfl rfl (e_next rfl aC) ?_
  rintro ⟨_ | ⟨it42, x42⟩, hq42⟩
  ·
   dsimp only at hq42 ⊢
   have hvl : it.vis.length = rm.length := by have := hq42.length_eq; simpa [mapV] using this
   have hran : ran = rm.foldl (rfStep s.jobs) s.ran := by rcases hrf with ⟨h1, h2⟩ | ⟨_, h⟩; (rw [hvl] at h1; have := List.eq_nil_of_length_eq_zero h1; rw [this]; exact h2); exact h
   refine W_q (i := 1) rfl rfl rfl (q_extract rfl rfl) ?_
   refine W_nil ?_
   refine N_seq ?_
   refine C_seq ?_
   refine C_condF rfl ?_
   refine C_exit ?_
   refine N_seq ?_
   refine C_seq ?_
   refine C_seq ?_
   refine C_to ((((s.nowS (s.now + 1)).ndS nl).ranS ran).kb ++ (TZ ++ F)) aT ?_
   have hs3 : (((s.nowS (s.now + 1)).ndS nl).ranS ran).Ok := { hE.ok with }
   rw [SimA.kb_eq]
   try simp only [NL]
   refine C_draw (.cons 0 .pure (.cons 1 .pure (.cons 2 .pure (.cons 3 .read (.cons 4 .pure (.cons 5 .pure (.cons 6 .pure (.cons 7 .read (.cons 8 .eff (.cons 9 .pure .nil)))))))))) (fun w => Knows w ([(s.blk, Cells (((s.nowS (s.now + 1)).ndS nl).ranS ran).cells 55)])) 8 mo (by kernel_rfl) (fun _ h => h.take aT) ?_
   refine D_p rfl rfl rfl (q_move rfl) ?_
   refine D_p rfl rfl rfl (q_nilCheck rfl) ?_
   refine D_p rfl rfl rfl (q_fieldAddr fb_55_0 rfl rfl) ?_
   refine D_r rfl rfl rfl (q_load ag_27 rfl aP rfl) ?_
   refine D_p rfl rfl rfl (q_move rfl) ?_
   refine D_p rfl rfl rfl (q_nilCheck rfl) ?_
   refine D_p rfl rfl rfl (q_fieldAddr fb_55_3 rfl rfl) ?_
   refine D_r rfl rfl rfl (q_load ag_31 rfl aP rfl) ?_
   refine D_call rfl rfl rfl rfl rfl rfl pf_14 (s_tick s.y hs.y (s.now + 1) ⟨by omega, by omega⟩ p7 (by unfold TickCost BrA.sz BIG; omega)) (tk_both aC aC) (.inl rfl) ?_
   rintro _ _ ⟨y', rfl, hto, rfl⟩
   obtain ⟨e, b', he⟩ : ∃ e b', s.y.b.tick (s.now + 1) = (e, b') := ⟨_, _, rfl⟩
   rw [he] at hto ⊢
   refine D_p rfl rfl rfl (q_int rfl rfl rfl) ?_
   refine D_nil ?_
   refine N_seq ?_
   refine C_cond rfl (fun ht72 => ?_) (fun ht72 => ?_)
   ·
    try simp only [CL] at ht72
    have hyp : y'.ptr = s.y.ptr := by simp only [BrA.ptr, hto.blk]
    rw [show (((s.nowS (s.now + 1)).ndS nl).ranS ran).cells = ((((s.nowS (s.now + 1)).ndS nl).ranS ran).setY y').cells from by simp only [SimA.cells, SimA.setY, SimA.ranS, SimA.ndS, SimA.nowS, hyp]]
    refine C_to (((((s.nowS (s.now + 1)).ndS nl).ranS ran).setY y').kb ++ (TZ ++ F)) (by (try simp only [SimA.kb_eq, SimA.setY]); exact aT) ?_
    have hsp0 : ((((s.nowS (s.now + 1)).ndS nl).ranS ran).setY y').Ok := hs3.setY hto.ok
    have hm0 : ((((s.nowS (s.now + 1)).ndS nl).ranS ran).setY y').m = { tk2r s.m with b := b' } := by simp only [SimA.m, SimA.setY, SimA.ranS, SimA.ndS, SimA.nowS]; rw [hto.b, hnf, hran, hrme]; rfl
    obtain ⟨x0, hx0⟩ : ∃ x, nl[0]? = some x := ⟨_, List.getElem?_eq_getElem (by have := hE.len; have := hRm.nn; omega)⟩
    refine C_perm _ ?_ ((SimA.open_ (s := ((((s.nowS (s.now + 1)).ndS nl).ranS ran).setY y')) hx0).append_right (TZ ++ F))
    rw [NodeA.kb_eq, SimA.kb0_eq]
    try simp only [NL]
    refine C_region ?_
    refine wm (i := 0) rfl rfl rfl rfl ?_
    refine wc (i := 1) rfl rfl rfl rfl ?_
    refine W_q (i := 2) rfl rfl rfl (q_fieldAddr fb_55_2 rfl rfl) ?_
    refine W_q (i := 3) rfl rfl rfl (q_load ag_48 rfl aP rfl) ?_
    refine W_q (i := 4) rfl rfl rfl (q_idxSl Tryz.underlying48 sz_103 hE.ok.nsl rfl rfl (by omega) (show (0 : Int) < (s.nsl.len : Int) from by have := hRm.nn; omega) rfl) ?_
    refine W_q (i := 5) rfl rfl rfl (q_loadSl (i := 0) (v := x0.ptr) ag_103 rfl hE.ok.nsl aC (by simp) (nptrs_at hx0)) ?_
    refine wc (i := 6) rfl rfl rfl rfl ?_
    refine W_q (i := 7) rfl rfl rfl (q_fieldAddr fb_107_4 rfl rfl) ?_
    refine W_e (i := 8) rfl rfl rfl (e_store sz_4 rfl rfl rfl aU (by first | decide | exact Nat.le_of_ble_eq_true rfl | simp [splice, Value.cells])) ?_
    intro _
    refine W_nil ?_
    refine N_seq ?_
    refine C_to (x0.bad.kb ++ (nodesKb (((((s.nowS (s.now + 1)).ndS nl).ranS ran).setY y').nodes.eraseIdx 0) ++ ((((s.nowS (s.now + 1)).ndS nl).ranS ran).setY y').kb0) ++ (TZ ++ F)) (by (try simp only [NodeA.kb_eq, NodeA.bad, SimA.kb0_eq]); exact aT) ?_
    refine C_perm _ ?_ ((SimA.close_ (s := ((((s.nowS (s.now + 1)).ndS nl).ranS ran).setY y')) (x' := x0.bad) hx0 rfl).append_right (TZ ++ F))
    have hsp : (((((s.nowS (s.now + 1)).ndS nl).ranS ran).setY y').setN 0 x0.bad).Ok := hsp0.setN (s := ((((s.nowS (s.now + 1)).ndS nl).ranS ran).setY y')) hx0 (hsp0.nodes x0 (List.mem_of_getElem? hx0)).bad rfl
    have hmp : (((((s.nowS (s.now + 1)).ndS nl).ranS ran).setY y').setN 0 x0.bad).m = tk3 s.m := by rw [wrong0 (s := ((((s.nowS (s.now + 1)).ndS nl).ranS ran).setY y')) hx0, hm0]; unfold tk3; rw [show s.m.b.tick (s.m.now + 1) = (e, b') from he]; exact (if_pos ht72).symm
    obtain ⟨sp, hspe⟩ : ∃ sp, (((((s.nowS (s.now + 1)).ndS nl).ranS ran).setY y').setN 0 x0.bad) = sp := ⟨_, rfl⟩
    have hpp : (((((s.nowS (s.now + 1)).ndS nl).ranS ran).setY y').setN 0 x0.bad).ptr = s.ptr := rfl
    rw [hspe] at hsp hmp hpp ⊢
    have hrm : roomy sp.m = true := by rw [hmp]; exact p8
    rw [← hpp]
    refine C_region ?_
    refine wm (i := 0) rfl rfl rfl rfl ?_
    refine W_call (i := 1) rfl rfl rfl rfl rfl rfl pf_56 (s_stake' sp hsp hrm) aC ?_
    rintro _ _ ⟨rfl, s', hs', hm', hp', rfl⟩
    refine W_nil ?_
    intro a w ha hk
    exact R_val (e := .normal) (.inr rfl) ha.defers (res0 rfl) (hR _ _ _ ⟨rfl, s', hs', by rw [hm', hmp]; exact (tick_eq s.m).symm, hp'.trans hpp, rfl⟩ (hk.take aT))
   ·
    try simp only [CL] at ht72
    have hyp : y'.ptr = s.y.ptr := by simp only [BrA.ptr, hto.blk]
    rw [show (((s.nowS (s.now + 1)).ndS nl).ranS ran).cells = ((((s.nowS (s.now + 1)).ndS nl).ranS ran).setY y').cells from by simp only [SimA.cells, SimA.setY, SimA.ranS, SimA.ndS, SimA.nowS, hyp]]
    refine C_to (((((s.nowS (s.now + 1)).ndS nl).ranS ran).setY y').kb ++ (TZ ++ F)) (by (try simp only [SimA.kb_eq, SimA.setY]); exact aT) ?_
    have hsp0 : ((((s.nowS (s.now + 1)).ndS nl).ranS ran).setY y').Ok := hs3.setY hto.ok
    have hm0 : ((((s.nowS (s.now + 1)).ndS nl).ranS ran).setY y').m = { tk2r s.m with b := b' } := by simp only [SimA.m, SimA.setY, SimA.ranS, SimA.ndS, SimA.nowS]; rw [hto.b, hnf, hran, hrme]; rfl
    refine C_skip ?_
    refine N_seq ?_
    have hsp := hsp0
    have hmp : ((((s.nowS (s.now + 1)).ndS nl).ranS ran).setY y').m = tk3 s.m := by rw [hm0]; unfold tk3; rw [show s.m.b.tick (s.m.now + 1) = (e, b') from he]; exact (if_neg (by simpa using ht72)).symm
    obtain ⟨sp, hspe⟩ : ∃ sp, ((((s.nowS (s.now + 1)).ndS nl).ranS ran).setY y') = sp := ⟨_, rfl⟩
    have hpp : ((((s.nowS (s.now + 1)).ndS nl).ranS ran).setY y').ptr = s.ptr := rfl
    rw [hspe] at hsp hmp hpp ⊢
    have hrm : roomy sp.m = true := by rw [hmp]; exact p8
    rw [← hpp]
    refine C_region ?_
    refine wm (i := 0) rfl rfl rfl rfl ?_
    refine W_call (i := 1) rfl rfl rfl rfl rfl rfl pf_56 (s_stake' sp hsp hrm) aC ?_
    rintro _ _ ⟨rfl, s', hs', hm', hp', rfl⟩
    refine W_nil ?_
    intro a w ha hk
    exact R_val (e := .normal) (.inr rfl) ha.defers (res0 rfl) (hR _ _ _ ⟨rfl, s', hs', by rw [hm', hmp]; exact (tick_eq s.m).symm, hp'.trans hpp, rfl⟩ (hk.take aT))
  ·
   dsimp only at hq42 ⊢
   obtain ⟨hv42, hm42, hn42⟩ := hq42
   obtain ⟨k, v, hkv, rfl⟩ : ∃ (k : Int) (v : Int), (k, v) ∈ rm ∧ x42 = (k, i64V v) := by simp only [mapV, List.mem_map] at hm42; obtain ⟨⟨k, v⟩, h1, h2⟩ := hm42; exact ⟨k, v, h1, h2.symm⟩
   have hvl : it.vis.length < rm.length := by simpa [mapV] using hn42
   have hvis : it.vis = [] := List.eq_nil_of_length_eq_zero (by omega)
   have hrm1 : rm = [(k, v)] := by cases rm with | nil => cases hkv | cons p l => cases l with | nil => simp at hkv; rw [hkv] | cons q l => simp at hrl
   have hran : ran = s.ran := by rcases hrf with ⟨_, h⟩ | ⟨h, _⟩; exact h; (rw [hvis, hrm1] at h; simp at h)
   refine W_q (i := 1) rfl rfl rfl (q_extract rfl rfl) ?_
   refine W_nil ?_
   refine N_seq ?_
   refine C_seq ?_
   refine C_condT rfl ?_
   refine C_skip ?_
   refine N_seq ?_
   refine C_block ?_
   refine C_seq ?_
   refine C_region ?_
   refine W_q (i := 0) rfl rfl rfl (q_entry rfl aP aP (by assumption)) ?_
   refine W_q (i := 1) rfl rfl rfl (q_extract rfl rfl) ?_
   refine W_q (i := 2) rfl rfl rfl (q_extract rfl rfl) ?_
   refine wa (i := 3) rfl rfl rfl rfl ?_
   refine wa (i := 4) rfl rfl rfl rfl ?_
   refine W_nil ?_
   refine N_seq ?_
   refine C_seq ?_
   refine C_region ?_
   refine wm (i := 0) rfl rfl rfl rfl ?_
   refine wm (i := 1) rfl rfl rfl rfl ?_
   refine wc (i := 2) rfl rfl rfl rfl ?_
   refine W_q (i := 3) rfl rfl rfl (q_fieldAddr fb_55_6 rfl rfl) ?_
   refine W_q (i := 4) rfl rfl rfl (q_loadM (v := .map (some s.jobsB)) ag_49 rfl (mem_of_perm (A := (((s.nowS (s.now + 1)).ndS nl).ranS ran).kb) aC (SimA.m_s (((s.nowS (s.now + 1)).ndS nl).ranS ran))) rfl) ?_
   refine wm (i := 5) rfl rfl rfl rfl ?_
   refine W_q (i := 6) rfl rfl rfl (q_lookup Tryz.underlying49 Tryz.underlying31 zf_35 rfl rfl (MapAt.mem (mem_of_perm (A := (((s.nowS (s.now + 1)).ndS nl).ranS ran).kb) aC (SimA.m_jobs (((s.nowS (s.now + 1)).ndS nl).ranS ran)))) (look_job _ _)) ?_
   refine W_q (i := 7) rfl rfl rfl (q_field (v := .int .i64 ((Qd.lookA s.jobs k).getD zjob).k) part_35_2_Sm8 (cs := (jobV ((Qd.lookA s.jobs k).getD zjob)).toArray) rfl rfl) ?_
   refine W_q (i := 8) rfl rfl rfl (q_int rfl rfl rfl) ?_
   refine W_nil ?_
   refine N_seq ?_
   refine C_cond rfl (fun ht55 => ?_) (fun ht55 => ?_)
   ·
    try simp only [CL] at ht55
    rw [SimA.kb_eq]
    try simp only [NL]
    refine C_region ?_
    refine wm (i := 0) rfl rfl rfl rfl ?_
    refine wc (i := 1) rfl rfl rfl rfl ?_
    refine W_q (i := 2) rfl rfl rfl (q_fieldAddr fb_55_5 rfl rfl) ?_
    refine W_q (i := 3) rfl rfl rfl (q_load ag_44 rfl aP rfl) ?_
    refine wm (i := 4) rfl rfl rfl rfl ?_
    refine W_q (i := 5) rfl rfl rfl (q_lookup (v := .int .i64 ((Qd.lookA ran k).getD 0)) Tryz.underlying44 Tryz.underlying31 zf_3 rfl rfl (MapAt.of aP) (look_i64 _ _)) ?_
    refine W_q (i := 6) rfl rfl rfl (q_add rfl rfl (r := (Qd.lookA ran k).getD 0 + 1) (wrap64_id (by have := hrb k; rw [hran]; omega) (by have := hrb k; rw [hran]; omega))) ?_
    refine W_e (i := 7) rfl rfl rfl (e_mapUpdate Tryz.underlying44 Tryz.underlying31 rfl rfl (v := i64V ((Qd.lookA ran k).getD 0 + 1)) rfl (putI_mapV i64V ran k ((Qd.lookA ran k).getD 0 + 1)) aU) ?_
    intro _
    refine W_nil ?_
    exact fun a w ha hk => ⟨⟨(it42, (Qd.putA ran k ((Qd.lookA ran k).getD 0 + 1))), .inr ⟨by rw [hv42, hvis]; simp [hrm1], by have hf : rm.foldl (rfStep s.jobs) s.ran = rfStep s.jobs s.ran (k, v) := (by rw [hrm1]; rfl); show (Qd.putA ran k ((Qd.lookA ran k).getD 0 + 1)) = rm.foldl (rfStep s.jobs) s.ran; rw [hf, hran]; simp [rfStep, kz, ht55]⟩⟩, by dsimp only; rw [hv42]; simp [mapV] at hn42 ⊢; omega, ha.sub aS, hk.take (by (try simp only [SimA.kb_eq, SimA.ranS, SimA.ndS, SimA.nowS]); exact aT)⟩
   ·
    try simp only [CL] at ht55
    refine C_skip ?_
    exact fun a w ha hk => ⟨⟨(it42, ran), .inr ⟨by rw [hv42, hvis]; simp [hrm1], by have hf : rm.foldl (rfStep s.jobs) s.ran = rfStep s.jobs s.ran (k, v) := (by rw [hrm1]; rfl); show ran = rm.foldl (rfStep s.jobs) s.ran; rw [hf, hran]; simp [rfStep, kz, ht55]⟩⟩, by dsimp only; rw [hv42]; simp [mapV] at hn42 ⊢; omega, ha.sub aS, hk.take (by (try simp only [SimA.kb_eq, SimA.ranS, SimA.ndS, SimA.nowS]); exact aT)⟩
end Go.SL
namespace Go.SL
open Go Go.Proofs
set_option maxRecDepth 10000
def pubOk (s : Qd.Sim) : Bool := roomy s && (match s.images with | [] => true | x :: r => roomy { s with images := r, b := (s.b.published x.job x.ver true).2 })
def delOk (s : Qd.Sim) (i : Nat) (back : Bool) : Bool := roomy s && decide (i < s.nodes.length) && (!back || (match s.nodes[i]? with | none => true | some n => match n.out with | [] => true | x :: r => roomy { s with nodes := s.nodes.set i { n with out := r }, b := (s.b.hear i x).2 }))
def roundOk : List Nat → Qd.Sim → Bool
  | [], _ => true
  | i :: l, s => delOk s i false && (delOk (s.deliver i false).2 i true && roundOk l ((s.deliver i false).2.deliver i true).2)
def calmGoOk : Nat → Qd.Sim → Bool
  | 0, _ => true
  | f + 1, s => pubOk s && decide ((s.publish true).2.nodes.length = s.nodes.length) && decide (s.nodes.length ≤ 1000) && roundOk (List.range s.nodes.length) (s.publish true).2 && (!s.calmRound.1 || calmGoOk f s.calmRound.2)
def calmOk (s : Qd.Sim) : Bool := tkpre s && calmGoOk 3000 s.tick
def rdStep (st : Bool × Qd.Sim) (i : Nat) : Bool × Qd.Sim := (((st.2.deliver i false).2.deliver i true).1 || ((st.2.deliver i false).1 || st.1), ((st.2.deliver i false).2.deliver i true).2)
theorem calmRound_eq (s : Qd.Sim) : s.calmRound = (List.range s.nodes.length).foldl rdStep (s.publish true) := rfl
theorem calmGo_succ (f : Nat) (s : Qd.Sim) : Qd.Sim.calmGo (f + 1) s = if s.calmRound.1 then Qd.Sim.calmGo f s.calmRound.2 else s.calmRound.2 := rfl
theorem range_drop {n i : Nat} (h : i < n) : (List.range n).drop i = i :: (List.range n).drop (i + 1) := by
  have : (List.range n)[i]? = some i := by simp [h]
  exact drop_get this
theorem s_spub' [Bs] (s : SimA) (hs : s.Ok) (h : pubOk s.m = true) : Spec Tryz.prog 58 [s.ptr, .bool true] s.kb (fun v K' => ∃ s' : SimA, v = .bool (s.m.publish true).1 ∧ s'.Ok ∧ s'.m = (s.m.publish true).2 ∧ s'.ptr = s.ptr ∧ K' = s'.kb) := by
  unfold pubOk at h
  rw [Bool.and_eq_true] at h
  refine s_spub s hs h.1 true ?_
  cases hi : s.m.images with
  | nil => exact .inl rfl
  | cons x r => rw [hi] at h; exact .inr ⟨x, r, rfl, h.2⟩
theorem s_sdel' [Bs] (s : SimA) (hs : s.Ok) (i : Nat) (back : Bool) (h : delOk s.m i back = true) : Spec Tryz.prog 57 [s.ptr, .int .i64 (i : Int), .bool back] s.kb (fun v K' => ∃ s' : SimA, v = .bool (s.m.deliver i back).1 ∧ s'.Ok ∧ s'.m = (s.m.deliver i back).2 ∧ s'.ptr = s.ptr ∧ K' = s'.kb) := by
  unfold delOk at h
  rw [Bool.and_eq_true, Bool.and_eq_true, decide_eq_true_eq] at h
  refine s_sdel s hs h.1.1 i (by simpa [SimA.m] using h.1.2) back ?_
  intro hb n x r hn ho
  have h2 := h.2
  rw [hb, hn] at h2
  simp only [Bool.not_true, Bool.false_or, ho] at h2
  exact h2
theorem pf_55 : plainFn Tryz.prog 55 = true := by kernel_rfl
theorem pf_57 : plainFn Tryz.prog 57 = true := by kernel_rfl
theorem pf_58 : plainFn Tryz.prog 58 = true := by kernel_rfl
set_option maxHeartbeats 2000000 in
theorem s_scalm [Bs] (s : SimA) (hs : s.Ok) (hpre : calmOk s.m = true) : Spec Tryz.prog 28 [s.ptr] (s.kb ++ TZ) (fun v K' => v = .tuple #[] ∧ ∃ s' : SimA, s'.Ok ∧ s'.m = s.m.calm ∧ s'.ptr = s.ptr ∧ K' = s'.kb ++ TZ) := by
 unfold calmOk at hpre
 rw [Bool.and_eq_true] at hpre
 obtain ⟨hp1, hp2⟩ := hpre
 refine spec_body Tryz.func28 rfl rfl fun F R hR => ?_
 try simp only [NL]
 refine C_seq ?_
 refine C_region ?_
 refine wm (i := 0) rfl rfl rfl rfl ?_
 refine W_call (i := 1) rfl rfl rfl rfl rfl rfl pf_55 (s_stick s hs hp1) (tk_both aC aC) ?_
 rintro _ _ ⟨rfl, s0, hs0, hm0, hq0, rfl⟩
 try simp only [NL]
 rw [← hm0] at hp2
 refine W_nil ?_
 refine N_seq ?_
 refine C_seq ?_
 refine C_region ?_
 refine wa (i := 0) rfl rfl rfl rfl ?_
 refine W_nil ?_
 refine N_seq ?_
 refine C_block ?_
 refine C_loopT (ι := { q : Nat × SimA // q.1 ≤ 3000 ∧ q.2.Ok ∧ q.2.ptr = s.ptr ∧ Qd.Sim.calmGo (3000 - q.1) q.2.m = s.m.calm ∧ calmGoOk (3000 - q.1) q.2.m = true }) (fun q => [(0, s.ptr), (2, .int .i64 (q.1.1 : Int))]) (fun q => q.1.2.kb ++ (TZ ++ F)) (fun q => 3000 - q.1.1) ⟨(0, s0), Nat.zero_le _, hs0, hq0, by rw [hm0]; rfl, hp2⟩ aS aT ?_
 rintro ⟨⟨k, sk⟩, hk0, hsk, hpk, hgo, hgk⟩
 dsimp only at hk0 hsk hpk hgo hgk ⊢
 refine C_seq ?_
 refine C_seq ?_
 refine C_region ?_
 refine wm (i := 0) rfl rfl rfl rfl ?_
 refine W_q (i := 1) rfl rfl rfl (q_int rfl rfl rfl) ?_
 refine W_nil ?_
 refine N_seq ?_
 refine C_cond rfl (fun ht8 => ?_) (fun ht8 => ?_)
 ·
  try simp only [CL] at ht8
  obtain ⟨f, hkk⟩ : ∃ f, 3000 - k = f + 1 := ⟨3000 - k - 1, by omega⟩
  have hkf : 3000 - (k + 1) = f := by omega
  rw [hkk] at hgk
  simp only [calmGoOk, Bool.and_eq_true, decide_eq_true_eq] at hgk
  obtain ⟨⟨⟨⟨hg1, hg2⟩, hg2b⟩, hg3⟩, hg4⟩ := hgk
  refine C_skip ?_
  refine N_seq ?_
  refine C_seq ?_
  refine C_block ?_
  refine C_seq ?_
  refine C_region ?_
  refine wm (i := 0) rfl rfl rfl rfl ?_
  refine W_call (i := 1) rfl rfl rfl rfl rfl rfl pf_58 ((show Spec Tryz.prog 58 [s.ptr, .bool true] sk.kb (fun v K' => ∃ s' : SimA, v = .bool (sk.m.publish true).1 ∧ s'.Ok ∧ s'.m = (sk.m.publish true).2 ∧ s'.ptr = sk.ptr ∧ K' = s'.kb) from by rw [← hpk]; exact s_spub' sk hsk hg1)) aC ?_
  rintro _ _ ⟨s1, rfl, hs1, hm1, hpp1, rfl⟩
  have hp1s := hpp1.trans hpk
  obtain ⟨b1, hb1⟩ : ∃ b1, (sk.m.publish true).1 = b1 := ⟨_, rfl⟩
  rw [hb1]
  obtain ⟨N, hN⟩ : ∃ N, sk.m.nodes.length = N := ⟨_, rfl⟩
  rw [hN] at hg2 hg2b hg3
  rw [← hm1] at hg2 hg3
  have hnl : s1.nsl.len = N := by have := hs1.nsl.vlen; simp [nptrs] at this; have h2 : s1.m.nodes.length = s1.nodes.length := (by simp [SimA.m]); omega
  have hrd : (List.range N).foldl rdStep (b1, s1.m) = sk.m.calmRound := by rw [calmRound_eq, hN, hm1, ← hb1]
  have hbk : s1.blk = s.blk := by have := hp1s; simpa [SimA.ptr] using this
  refine wa (i := 2) rfl rfl rfl rfl ?_
  refine W_nil ?_
  refine N_seq ?_
  refine C_seq ?_
  refine C_seq ?_
  refine C_region ?_
  refine wm (i := 0) rfl rfl rfl rfl ?_
  refine wc (i := 1) rfl rfl rfl rfl ?_
  refine W_q (i := 2) rfl rfl rfl (q_fieldAddr fb_55_2 rfl rfl) ?_
  refine W_q (i := 3) rfl rfl rfl (q_loadM (v := s1.nsl.val) ag_48 (by rw [hbk]; rfl) (mem_of_perm (A := s1.kb) aC (SimA.m_s s1)) rfl) ?_
  refine W_q (i := 4) rfl rfl rfl (q_lenSl Tryz.underlying48 rfl rfl) ?_
  refine wm (i := 5) rfl rfl rfl rfl ?_
  refine W_nil ?_
  refine N_seq ?_
  refine C_block ?_
  refine C_loopT (ι := { q : Nat × Bool × SimA // q.1 ≤ N ∧ q.2.2.Ok ∧ q.2.2.ptr = s.ptr ∧ ((List.range N).drop q.1).foldl rdStep (q.2.1, q.2.2.m) = sk.m.calmRound ∧ roundOk ((List.range N).drop q.1) q.2.2.m = true }) (fun q => [(0, s.ptr), (2, .int .i64 (k : Int)), (3, .bool q.1.2.1), (17, .int .i64 (s1.nsl.len : Int)), (18, .int .i64 (q.1.1 : Int))]) (fun q => q.1.2.2.kb ++ (TZ ++ F)) (fun q => N - q.1.1) ⟨(0, b1, s1), Nat.zero_le _, hs1, hp1s, hrd, hg3⟩ aS aT ?_
  rintro ⟨⟨i, sm, sj⟩, hi, hsj, hpj, hjr, hjo⟩
  dsimp only at hi hsj hpj hjr hjo ⊢
  refine C_seq ?_
  refine C_region ?_
  refine W_q (i := 0) rfl rfl rfl (q_int rfl rfl rfl) ?_
  refine W_nil ?_
  refine N_seq ?_
  refine C_seq ?_
  refine C_cond rfl (fun ht19 => ?_) (fun ht19 => ?_)
  ·
   try simp only [CL] at ht19
   have hil : i < N := by omega
   rw [range_drop hil] at hjo
   simp only [roundOk, Bool.and_eq_true] at hjo
   obtain ⟨hok1, hok2, hok3⟩ := hjo
   refine C_skip ?_
   refine N_seq ?_
   refine C_seq ?_
   refine C_block ?_
   refine C_seq ?_
   refine C_region ?_
   refine wm (i := 0) rfl rfl rfl rfl ?_
   refine wa (i := 1) rfl rfl rfl rfl ?_
   refine W_nil ?_
   refine N_seq ?_
   refine C_seq ?_
   refine C_region ?_
   refine wm (i := 0) rfl rfl rfl rfl ?_
   refine wm (i := 1) rfl rfl rfl rfl ?_
   refine W_call (i := 2) rfl rfl rfl rfl rfl rfl pf_57 ((show Spec Tryz.prog 57 [s.ptr, .int .i64 (i : Int), .bool false] sj.kb (fun v K' => ∃ s' : SimA, v = .bool (sj.m.deliver i false).1 ∧ s'.Ok ∧ s'.m = (sj.m.deliver i false).2 ∧ s'.ptr = sj.ptr ∧ K' = s'.kb) from by rw [← hpj]; exact s_sdel' sj hsj i false hok1)) aC ?_
   rintro _ _ ⟨sa, rfl, hsa, hma, hpa, rfl⟩
   rw [← hma] at hok2 hok3
   refine wm (i := 3) rfl rfl rfl rfl ?_
   refine W_bool 24 _ rfl (fun ht24 => ?_) (fun ht24 => ?_)
   ·
    try simp only [CL] at ht24
    refine W_skip (i := 4) rfl rfl rfl ?_
    refine W_q (i := 5) rfl rfl rfl (q_pickT rfl rfl) ?_
    refine wa (i := 6) rfl rfl rfl rfl ?_
    refine W_nil ?_
    refine N_seq ?_
    refine C_region ?_
    refine wm (i := 0) rfl rfl rfl rfl ?_
    refine wm (i := 1) rfl rfl rfl rfl ?_
    refine W_call (i := 2) rfl rfl rfl rfl rfl rfl pf_57 ((show Spec Tryz.prog 57 [s.ptr, .int .i64 (i : Int), .bool true] sa.kb (fun v K' => ∃ s' : SimA, v = .bool (sa.m.deliver i true).1 ∧ s'.Ok ∧ s'.m = (sa.m.deliver i true).2 ∧ s'.ptr = sa.ptr ∧ K' = s'.kb) from by rw [← (hpa.trans hpj)]; exact s_sdel' sa hsa i true hok2)) aC ?_
    rintro _ _ ⟨sb, rfl, hsb, hmb, hpb, rfl⟩
    refine wm (i := 3) rfl rfl rfl rfl ?_
    refine W_bool 30 _ rfl (fun ht30 => ?_) (fun ht30 => ?_)
    ·
     try simp only [CL] at ht30
     refine W_skip (i := 4) rfl rfl rfl ?_
     refine W_q (i := 5) rfl rfl rfl (q_pickT rfl rfl) ?_
     refine wa (i := 6) rfl rfl rfl rfl ?_
     refine W_nil ?_
     refine N_seq ?_
     refine C_region ?_
     refine W_q (i := 0) rfl rfl rfl (q_add rfl rfl (succ64 (by omega))) ?_
     refine wm (i := 1) rfl rfl rfl rfl ?_
     refine W_nil ?_
     exact fun a w ha hk => ⟨⟨(i + 1, true, sb), by dsimp only; omega, hsb, hpb.trans (hpa.trans hpj), by dsimp only; rw [← hjr, range_drop hil, List.foldl_cons]; congr 1; simp [rdStep, hmb, ← hma, ht24, ht30], by dsimp only; rw [hmb]; exact hok3⟩, by dsimp only; omega, ha.sub aS, hk.take aT⟩
    ·
     try simp only [CL] at ht30
     refine wm (i := 4) rfl rfl rfl rfl ?_
     refine W_q (i := 5) rfl rfl rfl (q_pickF rfl rfl) ?_
     refine wa (i := 6) rfl rfl rfl rfl ?_
     refine W_nil ?_
     refine N_seq ?_
     refine C_region ?_
     refine W_q (i := 0) rfl rfl rfl (q_add rfl rfl (succ64 (by omega))) ?_
     refine wm (i := 1) rfl rfl rfl rfl ?_
     refine W_nil ?_
     exact fun a w ha hk => ⟨⟨(i + 1, true, sb), by dsimp only; omega, hsb, hpb.trans (hpa.trans hpj), by dsimp only; rw [← hjr, range_drop hil, List.foldl_cons]; congr 1; simp [rdStep, hmb, ← hma, ht24, ht30], by dsimp only; rw [hmb]; exact hok3⟩, by dsimp only; omega, ha.sub aS, hk.take aT⟩
   ·
    try simp only [CL] at ht24
    refine wm (i := 4) rfl rfl rfl rfl ?_
    refine W_q (i := 5) rfl rfl rfl (q_pickF rfl rfl) ?_
    refine wa (i := 6) rfl rfl rfl rfl ?_
    refine W_nil ?_
    refine N_seq ?_
    refine C_region ?_
    refine wm (i := 0) rfl rfl rfl rfl ?_
    refine wm (i := 1) rfl rfl rfl rfl ?_
    refine W_call (i := 2) rfl rfl rfl rfl rfl rfl pf_57 ((show Spec Tryz.prog 57 [s.ptr, .int .i64 (i : Int), .bool true] sa.kb (fun v K' => ∃ s' : SimA, v = .bool (sa.m.deliver i true).1 ∧ s'.Ok ∧ s'.m = (sa.m.deliver i true).2 ∧ s'.ptr = sa.ptr ∧ K' = s'.kb) from by rw [← (hpa.trans hpj)]; exact s_sdel' sa hsa i true hok2)) aC ?_
    rintro _ _ ⟨sb, rfl, hsb, hmb, hpb, rfl⟩
    refine wm (i := 3) rfl rfl rfl rfl ?_
    refine W_bool 30 _ rfl (fun ht30 => ?_) (fun ht30 => ?_)
    ·
     try simp only [CL] at ht30
     refine W_skip (i := 4) rfl rfl rfl ?_
     refine W_q (i := 5) rfl rfl rfl (q_pickT rfl rfl) ?_
     refine wa (i := 6) rfl rfl rfl rfl ?_
     refine W_nil ?_
     refine N_seq ?_
     refine C_region ?_
     refine W_q (i := 0) rfl rfl rfl (q_add rfl rfl (succ64 (by omega))) ?_
     refine wm (i := 1) rfl rfl rfl rfl ?_
     refine W_nil ?_
     exact fun a w ha hk => ⟨⟨(i + 1, true, sb), by dsimp only; omega, hsb, hpb.trans (hpa.trans hpj), by dsimp only; rw [← hjr, range_drop hil, List.foldl_cons]; congr 1; simp [rdStep, hmb, ← hma, ht24, ht30], by dsimp only; rw [hmb]; exact hok3⟩, by dsimp only; omega, ha.sub aS, hk.take aT⟩
    ·
     try simp only [CL] at ht30
     refine wm (i := 4) rfl rfl rfl rfl ?_
     refine W_q (i := 5) rfl rfl rfl (q_pickF rfl rfl) ?_
     refine wa (i := 6) rfl rfl rfl rfl ?_
     refine W_nil ?_
     refine N_seq ?_
     refine C_region ?_
     refine W_q (i := 0) rfl rfl rfl (q_add rfl rfl (succ64 (by omega))) ?_
     refine wm (i := 1) rfl rfl rfl rfl ?_
     refine W_nil ?_
     exact fun a w ha hk => ⟨⟨(i + 1, sm, sb), by dsimp only; omega, hsb, hpb.trans (hpa.trans hpj), by dsimp only; rw [← hjr, range_drop hil, List.foldl_cons]; congr 1; simp [rdStep, hmb, ← hma, ht24, ht30], by dsimp only; rw [hmb]; exact hok3⟩, by dsimp only; omega, ha.sub aS, hk.take aT⟩
  ·
   try simp only [CL] at ht19
   have hil : i = N := by omega
   subst hil
   rw [show (List.range i).drop i = [] from by simp] at hjr
   have hjf : (sm, sj.m) = sk.m.calmRound := hjr
   refine C_exit ?_
   refine N_seq ?_
   refine C_seq ?_
   refine C_region ?_
   refine wm (i := 0) rfl rfl rfl rfl ?_
   refine W_q (i := 1) rfl rfl rfl (q_not rfl) ?_
   refine W_nil ?_
   refine N_seq ?_
   refine C_cond rfl (fun ht35 => ?_) (fun ht35 => ?_)
   ·
    try simp only [CL] at ht35
    have hsm : sm = false := by simpa using ht35
    refine C_ret fun a w ha hk => ?_
    exact R_val (e := .ret) (.inl rfl) ha.defers (res0 rfl) (hR _ _ _ ⟨rfl, sj, hsj, by rw [← hgo, hkk, calmGo_succ, ← hjf, hsm]; rfl, hpj, rfl⟩ (hk.take aT))
   ·
    try simp only [CL] at ht35
    have hsm : sm = true := by simpa using ht35
    refine C_skip ?_
    refine N_seq ?_
    refine C_region ?_
    refine wm (i := 0) rfl rfl rfl rfl ?_
    refine W_q (i := 1) rfl rfl rfl (q_add rfl rfl (succ64 (by omega))) ?_
    refine wa (i := 2) rfl rfl rfl rfl ?_
    refine W_nil ?_
    exact fun a w ha hk => ⟨⟨(k + 1, sj), by dsimp only; omega, hsj, hpj, by dsimp only; rw [← hgo, hkk, hkf, calmGo_succ, ← hjf, if_pos hsm], by dsimp only; rw [hkf]; rw [← hjf] at hg4; simpa [hsm] using hg4⟩, by dsimp only; omega, ha.sub aS, hk.take aT⟩
 ·
  try simp only [CL] at ht8
  have hk3 : k = 3000 := by omega
  subst hk3
  rw [Nat.sub_self] at hgo
  refine C_exit ?_
  intro a w ha hk
  exact R_val (e := .normal) (.inr rfl) ha.defers (res0 rfl) (hR _ _ _ ⟨rfl, sk, hsk, by rw [← hgo]; rfl, hpk, rfl⟩ (hk.take aT))
end Go.SL
namespace Go.SL
open Go Go.Proofs
set_option maxRecDepth 100000
def awS (n : Int) : Qd.Sim := { b := { c := { nodes := 2, rows := 1, quantum := 5, grace := 3 }, hold := 0, now := n, up := [0, 1], jobs := [], m := { rows := 1, nodes := 2, up := 3, jobs := [], taken := [0] }, orders := [], images := [], done := [], gen := 1, row := 0, members := [1], end_ := 7, stops := none, stopped := false }, c := { nodes := 2, rows := 1, quantum := 5, grace := 3 }, nodes := [({ up := true } : Qd.Node), ({ up := true } : Qd.Node)], now := n, next := 1, ran := [(1, 5)], jobs := [(1, { id := 1, k := 2, w := 3 })], done := [1], drops := [1, 1] }
def calmsOk : Nat → Qd.Sim → Bool
  | 0, _ => true
  | n + 1, s => calmOk s && calmsOk n s.calm
theorem aw1 : ((List.range 200).all fun (n : Nat) => decide (n < 12) || decide ((awS n).calm = awS (n + 1))) = true := by decide +kernel
theorem aw0 : Qd.Sim.calms 12 Qd.Sim.awakeStart = awS 12 := by decide +kernel
theorem aw2 : calmsOk 12 Qd.Sim.awakeStart = true := by decide +kernel
theorem aw3 : ((List.range 200).all fun (n : Nat) => decide (n < 12) || calmOk (awS n)) = true := by decide +kernel
end Go.SL
namespace Go.SL
open Go Go.Proofs
set_option maxRecDepth 10000
def SimA.add (s : SimA) (y : BrA) (x : NodeA) (nsl : Sl) : SimA := { s with y, nodes := s.nodes ++ [x], nsl }
def newNode (b rb : Nat) : NodeA := ⟨true, [], [], [], false, b, rb, Sl.nilS, Sl.nilS.val, Sl.nilS, Sl.nilS.val⟩
theorem newNode_ok (b rb : Nat) : (newNode b rb).Ok := ⟨List.nodup_nil, Sl.nil_ok 13, .live rfl, Sl.nil_ok 13, .live rfl, fun p hp => (by cases hp)⟩
def bgStep (s : Qd.Sim) (i : Nat) : Qd.Sim := { s with nodes := s.nodes ++ [{ up := true }], b := (s.b.setUp i).2 }
def newSim (y : BrA) (c : Qd.Config) (b b1 b2 b3 b4 b5 : Nat) : SimA := ⟨y, c, [], 0, 1, [], [], [], [], [], [], [], [], b, Sl.nilS, b1, b2, b3, b4, Sl.nilS, Sl.nilS.val, b5, Sl.nilS, Sl.nilS⟩
theorem newSim_ok {y : BrA} (hy : y.Ok) (c : Qd.Config) (b b1 b2 b3 b4 b5 : Nat) : (newSim y c b b1 b2 b3 b4 b5).Ok := ⟨hy, fun x hx => (by cases hx), Sl.nil_ok 1, Sl.nil_ok 4, .live rfl, fun x hx => (by cases hx), Sl.nil_ok 1, Sl.nil_ok 1⟩
theorem nodesKb_snoc (l : List NodeA) (x : NodeA) : nodesKb (l ++ [x]) = nodesKb l ++ x.kb := by simp [nodesKb]
theorem nptrs_snoc (l : List NodeA) (x : NodeA) : nptrs l ++ [x.ptr] = nptrs (l ++ [x]) := by simp [nptrs]
theorem imsKb_z : imsKb [] = [] := rfl
theorem nodesKb_z : nodesKb [] = [] := rfl
theorem setT_z : setT [] = [] := rfl
theorem outKb_z : outKb [] = [] := rfl
theorem mapKb_z {α : Type} (o : α → KB) : mapKb o [] = [] := rfl
theorem inf_103 : infoB Tryz.prog 103 = some (some (Go.Value.pointer none), 1, 8) := by kernel_rfl
theorem pf_11 : plainFn Tryz.prog 11 = true := by kernel_rfl
theorem pf_12 : plainFn Tryz.prog 12 = true := by kernel_rfl
theorem ps_107 : placesB Tryz.prog 107 = some #[(0, 1), (1, 1), (2, 1), (3, 1), (4, 1)] := by kernel_rfl
theorem ps_55 : placesB Tryz.prog 55 = some #[(0, 1), (1, 4), (5, 1), (6, 1), (7, 1), (8, 1), (9, 1), (10, 1), (11, 1), (12, 1), (13, 1), (14, 1), (15, 1)] := by kernel_rfl
theorem sz_48 : sizeB Tryz.prog 48 = some 1 := by kernel_rfl
theorem zf_103 : zeroB Tryz.prog 103 = some (Go.Value.pointer none) := by kernel_rfl
theorem zf_107 : zeroB Tryz.prog 107 = some (Go.Value.agg #[Go.Value.bool false, Go.Value.map none, Go.Value.slice none 0 0, Go.Value.slice none 0 0, Go.Value.bool false]) := by kernel_rfl
theorem zf_55 : zeroB Tryz.prog 55 = some (Go.Value.agg #[Go.Value.pointer none, Go.Value.int (Go.IntKind.i64) 0, Go.Value.int (Go.IntKind.i64) 0, Go.Value.int (Go.IntKind.i64) 0, Go.Value.int (Go.IntKind.i64) 0, Go.Value.slice none 0 0, Go.Value.int (Go.IntKind.u32) 0, Go.Value.int (Go.IntKind.u32) 0, Go.Value.map none, Go.Value.map none, Go.Value.map none, Go.Value.map none, Go.Value.slice none 0 0, Go.Value.map none, Go.Value.slice none 0 0, Go.Value.slice none 0 0]) := by kernel_rfl
set_option maxHeartbeats 2000000 in
theorem s_begin [Bs] (c : Qd.Config) (hc : Qd.Brain.okConfig c = true) : Spec Tryz.prog 19 [.agg (cfgV c).toArray] ([]) (fun v K' => ∃ s : SimA, v = s.ptr ∧ s.Ok ∧ s.m = Qd.Sim.begin_ c ∧ K' = s.kb) := by
 have hcc : 1 ≤ c.nodes ∧ c.nodes ≤ 16 := by simp only [Qd.Brain.okConfig, Bool.and_eq_true, decide_eq_true_eq] at hc; omega
 refine spec_body Tryz.func19 rfl rfl fun F R hR => ?_
 try simp only [NL]
 refine C_seq ?_
 refine C_region ?_
 refine W_e (i := 0) rfl rfl rfl (e_box rfl) ?_
 intro b1
 refine wa (i := 1) rfl rfl rfl rfl ?_
 refine W_nil ?_
 refine N_seq ?_
 refine C_seq ?_
 refine C_region ?_
 refine W_q (i := 0) rfl rfl rfl (q_loadAgg (us := cfgV c) ag_25 sz_25 rfl aP (by simp [cfgV, Value.cells]) rfl) ?_
 refine W_call (i := 1) rfl rfl rfl rfl rfl rfl pf_11 ((s_new c 0).mono (fun v K' h => h.resolve_right (fun h2 => by rw [hc] at h2; cases h2.1))) tk_nil ?_
 rintro _ _ ⟨_, y, rfl, hyh, hyo, hyb, rfl⟩
 refine wm (i := 2) rfl rfl rfl rfl ?_
 refine W_q (i := 3) rfl rfl rfl (q_extract rfl rfl) ?_
 refine W_q (i := 4) rfl rfl rfl (q_extract rfl rfl) ?_
 refine wa (i := 5) rfl rfl rfl rfl ?_
 refine wa (i := 6) rfl rfl rfl rfl ?_
 refine W_nil ?_
 refine N_seq ?_
 refine C_seq ?_
 refine C_seq ?_
 refine C_region ?_
 refine wm (i := 0) rfl rfl rfl rfl ?_
 refine W_q (i := 1) rfl rfl rfl (q_int rfl rfl rfl) ?_
 refine wm (i := 2) rfl rfl rfl rfl ?_
 refine wm (i := 3) rfl rfl rfl rfl ?_
 refine W_q (i := 4) rfl rfl rfl (q_eqPtrNil Tryz.underlying27 rfl rfl) ?_
 refine W_q (i := 5) rfl rfl rfl (q_pickF rfl rfl) ?_
 refine W_nil ?_
 refine N_seq ?_
 refine C_condF rfl ?_
 refine C_skip ?_
 refine N_seq ?_
 refine C_seq ?_
 refine C_region ?_
 refine wm (i := 0) rfl rfl rfl rfl ?_
 refine W_q (i := 1) rfl rfl rfl (q_loadAgg (us := cfgV c) ag_25 sz_25 rfl aP (by simp [cfgV, Value.cells]) rfl) ?_
 refine W_e (i := 2) rfl rfl rfl (e_makeMap .u32) ?_
 intro b20
 refine W_e (i := 3) rfl rfl rfl (e_makeMap .u32) ?_
 intro b21
 refine W_e (i := 4) rfl rfl rfl (e_makeMap .u32) ?_
 intro b22
 refine W_e (i := 5) rfl rfl rfl (e_makeMap .u32) ?_
 intro b23
 refine W_e (i := 6) rfl rfl rfl (e_makeMap .u32) ?_
 intro b24
 refine W_q (i := 7) rfl rfl rfl (q_build (vs := [(0, y.ptr), (1, .agg (cfgV c).toArray), (4, .int .u32 1), (5, .map (some b20)), (6, .map (some b21)), (7, .map (some b22)), (8, .map (some b23)), (10, .map (some b24))]) (cs := (newSim y c 0 b20 b21 b22 b23 b24).cells.toArray) ps_55 zf_55 rfl (by simp [Instr.fill, Value.cells, newSim, SimA.cells, cfgV, Sl.val, Sl.nilS, BrA.ptr])) ?_
 refine W_e (i := 8) rfl rfl rfl (e_box rfl) ?_
 intro b26
 refine wa (i := 9) rfl rfl rfl rfl ?_
 refine W_nil ?_
 refine N_seq ?_
 refine C_seq ?_
 refine C_seq ?_
 refine C_to ((newSim y c b26 b20 b21 b22 b23 b24).kb ++ ((b1, Cells (cfgV c) 25) :: F)) (by (try simp only [SimA.kb_eq, newSim, nilS_kb, imsKb_z, nodesKb_z, setT_z, mapV_nil]); exact aT) ?_
 have hn0 : (newSim y c b26 b20 b21 b22 b23 b24).m = { b := Qd.Brain.new c 0, c, nodes := [] } := by simp [SimA.m, newSim, hyb]
 refine C_region ?_
 refine W_q (i := 0) rfl rfl rfl (q_fieldAddr fb_25_0 rfl rfl) ?_
 refine W_q (i := 1) rfl rfl rfl (q_load ag_3 rfl aP rfl) ?_
 refine wm (i := 2) rfl rfl rfl rfl ?_
 refine W_nil ?_
 refine N_seq ?_
 refine C_block ?_
 refine C_loopT (ι := { q : Nat × SimA // q.1 ≤ c.nodes.toNat ∧ q.2.Ok ∧ q.2.blk = b26 ∧ q.2.y.blk = y.blk ∧ q.2.m = (List.range q.1).foldl bgStep { b := Qd.Brain.new c 0, c, nodes := [] } ∧ q.2.nodes.length = q.1 }) (fun q => [(3, y.ptr), (5, .pointer (some ⟨b26, 0, none⟩)), (28, .int .i64 c.nodes), (29, .int .i64 (q.1.1 : Int))]) (fun q => q.1.2.kb ++ F) (fun q => c.nodes.toNat - q.1.1) ⟨(0, (newSim y c b26 b20 b21 b22 b23 b24)), Nat.zero_le _, newSim_ok hyo _ _ _ _ _ _ _, rfl, rfl, hn0, rfl⟩ aS aT ?_
 rintro ⟨⟨i, s⟩, hi, hso, hsb, hsy, hsm, hsn⟩
 dsimp only at hi hso hsb hsy hsm hsn ⊢
 have hnl : s.nsl.len = s.nodes.length := by have := hso.nsl.vlen; simp [nptrs] at this; omega
 rw [show y.ptr = s.y.ptr from by simp only [BrA.ptr, hsy], ← hsb]
 refine C_seq ?_
 refine C_region ?_
 refine W_q (i := 0) rfl rfl rfl (q_int rfl rfl rfl) ?_
 refine W_nil ?_
 refine N_seq ?_
 refine C_seq ?_
 refine C_cond rfl (fun ht30 => ?_) (fun ht30 => ?_)
 ·
  try simp only [CL] at ht30
  have hil : i < c.nodes.toNat := by omega
  refine C_skip ?_
  refine N_seq ?_
  refine C_seq ?_
  refine C_block ?_
  refine C_seq ?_
  refine C_region ?_
  refine wm (i := 0) rfl rfl rfl rfl ?_
  refine wa (i := 1) rfl rfl rfl rfl ?_
  refine W_nil ?_
  refine N_seq ?_
  refine C_seq ?_
  rw [SimA.kb_eq]
  try simp only [NL]
  refine C_region ?_
  refine wm (i := 0) rfl rfl rfl rfl ?_
  refine wm (i := 1) rfl rfl rfl rfl ?_
  refine wc (i := 2) rfl rfl rfl rfl ?_
  refine W_q (i := 3) rfl rfl rfl (q_fieldAddr fb_55_2 rfl rfl) ?_
  refine W_q (i := 4) rfl rfl rfl (q_load ag_48 rfl aP rfl) ?_
  refine W_e (i := 5) rfl rfl rfl (e_makeMap .u32) ?_
  intro b37
  refine W_q (i := 6) rfl rfl rfl (q_build (vs := [(0, .bool true), (1, .map (some b37))]) (cs := (newNode 0 b37).cells.toArray) ps_107 zf_107 rfl (by simp [Instr.fill, Value.cells, newNode, NodeA.cells, Sl.val, Sl.nilS])) ?_
  refine W_e (i := 7) rfl rfl rfl (e_box rfl) ?_
  intro b39
  refine W_e (i := 8) rfl rfl rfl (e_lit1 Tryz.underlying48 sz_103 zf_103 (by decide) rfl rfl) ?_
  intro b40
  refine W_e (i := 9) rfl rfl rfl (e_app1 (us := [.pointer (some ⟨b39, 0, none⟩)]) (vs' := nptrs (s.nodes ++ [newNode b39 b37])) Tryz.underlying48 inf_103 rfl rfl rfl rfl aP aC hso.nsl (by omega) (by omega) rfl rfl (nptrs_snoc s.nodes (newNode b39 b37))) ?_
  rintro ⟨sl', hsl', hok'⟩
  refine wc (i := 10) rfl rfl rfl rfl ?_
  refine W_q (i := 11) rfl rfl rfl (q_fieldAddr fb_55_2 rfl rfl) ?_
  refine W_e (i := 12) rfl rfl rfl (e_store sz_48 rfl rfl rfl aU (by first | decide | exact Nat.le_of_ble_eq_true rfl | simp [splice, Value.cells])) ?_
  intro _
  refine W_nil ?_
  refine N_seq ?_
  refine C_region ?_
  refine wm (i := 0) rfl rfl rfl rfl ?_
  refine wm (i := 1) rfl rfl rfl rfl ?_
  refine W_call (i := 2) rfl rfl rfl rfl rfl rfl pf_12 (s_bup s.y hso.y (i : Int)) aC ?_
  rintro _ _ ⟨rfl, y', hto, rfl⟩
  have hyp : y'.ptr = s.y.ptr := by simp only [BrA.ptr, hto.blk]
  rw [show s.cells.set (0 + 5) sl'.val = (s.add y' (newNode b39 b37) sl').cells from by simp only [SimA.cells, SimA.add, hyp]; rfl]
  refine W_nil ?_
  refine N_seq ?_
  refine C_region ?_
  refine W_q (i := 0) rfl rfl rfl (q_add rfl rfl (succ64 (by omega))) ?_
  refine wm (i := 1) rfl rfl rfl rfl ?_
  refine W_nil ?_
  exact fun a w ha hk => ⟨⟨(i + 1, s.add y' (newNode b39 b37) sl'), by dsimp only; omega, { hso with y := hto.ok, nodes := fun z hz => (List.mem_append.1 hz).elim (hso.nodes z) (fun h => (List.mem_singleton.1 h) ▸ newNode_ok _ _), nsl := hok' }, rfl, hto.blk.trans hsy, by dsimp only; rw [List.range_succ, List.foldl_append, ← hsm]; simp [SimA.m, SimA.add, bgStep, hto.b, newNode, NodeA.n, NodeA.mr], by simp [SimA.add, hsn]⟩, by dsimp only; omega, ha.sub aS, hk.take (by (try simp only [SimA.kb_eq, SimA.add, nodesKb_snoc, NodeA.kb_eq, newNode, nilS_kb, outKb_z, mapKb_z, mapV_nil]); exact aT)⟩
 ·
  try simp only [CL] at ht30
  have hil : i = c.nodes.toNat := by omega
  subst hil
  refine C_exit ?_
  refine N_seq ?_
  refine C_seq ?_
  refine C_region ?_
  refine wm (i := 0) rfl rfl rfl rfl ?_
  refine wa (i := 1) rfl rfl rfl rfl ?_
  refine W_nil ?_
  refine N_seq ?_
  refine C_ret fun a w ha hk => ?_
  exact R_val (e := .ret) (.inl rfl) ha.defers (res1 ha rfl rfl) (hR _ _ _ ⟨s, by simp only [SimA.ptr, hsb], hso, by rw [hsm]; rfl, rfl⟩ (hk.take aT))
end Go.SL
namespace Go.SL
open Go Go.Proofs
set_option maxRecDepth 100000
theorem calms_succ : ∀ (n : Nat) (s : Qd.Sim), Qd.Sim.calms (n + 1) s = (Qd.Sim.calms n s).calm
  | 0, s => rfl
  | n + 1, s => by rw [Qd.Sim.calms, calms_succ n s.calm]; rfl
theorem calmsOk_at : ∀ (n : Nat) (s : Qd.Sim), calmsOk n s = true → ∀ i, i < n → calmOk (Qd.Sim.calms i s) = true
  | 0, _, _, i, h => by omega
  | n + 1, s, h, 0, _ => by simp only [calmsOk, Bool.and_eq_true] at h; exact h.1
  | n + 1, s, h, i + 1, hi => by simp only [calmsOk, Bool.and_eq_true] at h; exact calmsOk_at n s.calm h.2 i (by omega)
theorem aw_at : ∀ k, k + 12 ≤ 200 → Qd.Sim.calms (12 + k) Qd.Sim.awakeStart = awS ((12 + k : Nat) : Int)
  | 0, _ => aw0
  | k + 1, h => by
    rw [← Nat.add_assoc, calms_succ, aw_at k (by omega)]
    have h1 := List.all_eq_true.1 aw1 (12 + k) (by simp; omega)
    simp only [Bool.or_eq_true, decide_eq_true_eq] at h1
    rcases h1 with h1 | h1
    · omega
    · rw [h1]; rfl
theorem aw_ok {n : Nat} (h : n < 200) : calmOk (Qd.Sim.calms n Qd.Sim.awakeStart) = true := by
  by_cases h12 : n < 12
  · exact calmsOk_at 12 _ aw2 n h12
  · obtain ⟨k, rfl⟩ : ∃ k, n = 12 + k := ⟨n - 12, by omega⟩
    rw [aw_at k (by omega)]
    have h1 := List.all_eq_true.1 aw3 (12 + k) (by simp; omega)
    simp only [Bool.or_eq_true, decide_eq_true_eq] at h1
    rcases h1 with h1 | h1
    · omega
    · exact h1
theorem aw_end : Qd.Sim.calms 200 Qd.Sim.awakeStart = awS 200 := aw_at 188 (by omega)
def SimA.jbS (s : SimA) (y : BrA) (jobs : List (Int × Qd.ApiJob)) : SimA := { s with y, jobs }
def awJ : Qd.ApiJob := { id := 1, k := 2, w := 3 }
theorem pf_13 : plainFn Tryz.prog 13 = true := by kernel_rfl
theorem pf_19 : plainFn Tryz.prog 19 = true := by kernel_rfl
theorem pf_27 : plainFn Tryz.prog 27 = true := by kernel_rfl
theorem pf_28 : plainFn Tryz.prog 28 = true := by kernel_rfl
theorem ps_25 : placesB Tryz.prog 25 = some #[(0, 1), (1, 1), (2, 1), (3, 1)] := by kernel_rfl
theorem ps_35 : placesB Tryz.prog 35 = some #[(0, 1), (1, 1), (2, 1), (3, 1), (4, 1), (5, 1)] := by kernel_rfl
theorem zf_25 : zeroB Tryz.prog 25 = some (Go.Value.agg #[Go.Value.int (Go.IntKind.i64) 0, Go.Value.int (Go.IntKind.i64) 0, Go.Value.int (Go.IntKind.i64) 0, Go.Value.int (Go.IntKind.i64) 0]) := by kernel_rfl
set_option maxHeartbeats 2000000 in
theorem s_awake [Bs] : Spec Tryz.prog 9 [] (TZ) (fun v K' => v = .bool true ∧ K' = TZ) := by
 refine spec_body Tryz.func9 rfl rfl fun F R hR => ?_
 try simp only [NL]
 refine C_seq ?_
 refine C_region ?_
 refine wa (i := 0) rfl rfl rfl rfl ?_
 refine W_nil ?_
 refine N_seq ?_
 refine C_seq ?_
 refine C_region ?_
 refine W_q (i := 0) rfl rfl rfl (q_build (vs := [(0, .int .i64 2), (1, .int .i64 1), (2, .int .i64 5), (3, .int .i64 3)]) (cs := (cfgV (⟨2, 1, 5, 3⟩ : Qd.Config)).toArray) ps_25 zf_25 rfl (by simp [Instr.fill, Value.cells, cfgV])) ?_
 refine W_call (i := 1) rfl rfl rfl rfl rfl rfl pf_19 (s_begin (⟨2, 1, 5, 3⟩ : Qd.Config) (by decide)) tk_nil ?_
 rintro _ _ ⟨s, rfl, hs, hm, rfl⟩
 have hj0 : s.jobs = [] := by have h : s.m.jobs = s.jobs := rfl; rw [← h, hm]; decide +kernel
 have hz0 : s.y.sz = 0 := by have h1 : s.y.os.length = s.m.b.orders.length := rfl; have h2 : s.y.ims.length = s.m.b.images.length := (by simp [SimA.m, BrA.b]); have h3 : s.y.dn.length = s.m.b.done.length := rfl; unfold BrA.sz; rw [h1, h2, h3, hm]; decide +kernel
 refine wa (i := 2) rfl rfl rfl rfl ?_
 refine W_nil ?_
 refine N_seq ?_
 refine C_seq ?_
 refine C_seq ?_
 refine C_region ?_
 refine wm (i := 0) rfl rfl rfl rfl ?_
 refine W_q (i := 1) rfl rfl rfl (q_eqPtrNil Tryz.underlying42 rfl rfl) ?_
 refine W_nil ?_
 refine N_seq ?_
 refine C_condF rfl ?_
 refine C_skip ?_
 refine N_seq ?_
 refine C_seq ?_
 rw [SimA.kb_eq]
 try simp only [NL]
 refine C_region ?_
 refine wm (i := 0) rfl rfl rfl rfl ?_
 refine wc (i := 1) rfl rfl rfl rfl ?_
 refine W_q (i := 2) rfl rfl rfl (q_fieldAddr fb_55_6 rfl rfl) ?_
 refine W_q (i := 3) rfl rfl rfl (q_load ag_49 rfl aP rfl) ?_
 refine W_q (i := 4) rfl rfl rfl (q_build (vs := [(0, .int .u32 1), (2, .int .i64 2), (3, .int .i64 3)]) (cs := (jobV awJ).toArray) ps_35 zf_35 rfl (by simp [Instr.fill, Value.cells, jobV, awJ])) ?_
 refine W_e (i := 5) rfl rfl rfl (e_mapUpdate Tryz.underlying49 Tryz.underlying31 rfl rfl (v := jobAgg awJ) rfl (putI_mapV jobAgg s.jobs 1 awJ) aU) ?_
 intro _
 refine W_nil ?_
 refine N_seq ?_
 refine C_seq ?_
 refine C_draw (.cons 0 .pure (.cons 1 .pure (.cons 2 .pure (.cons 3 .read (.cons 4 .pure (.cons 5 .pure (.cons 6 .pure (.cons 7 .read (.cons 8 .read (.cons 9 .eff .nil)))))))))) (fun w => Knows w _) 9 mo (by kernel_rfl) (fun _ h => h) ?_
 refine D_p rfl rfl rfl (q_move rfl) ?_
 refine D_p rfl rfl rfl (q_nilCheck rfl) ?_
 refine D_p rfl rfl rfl (q_fieldAddr fb_55_0 rfl rfl) ?_
 refine D_r rfl rfl rfl (q_load ag_27 rfl aP rfl) ?_
 refine D_p rfl rfl rfl (q_move rfl) ?_
 refine D_p rfl rfl rfl (q_nilCheck rfl) ?_
 refine D_p rfl rfl rfl (q_fieldAddr fb_55_6 rfl rfl) ?_
 refine D_r rfl rfl rfl (q_load ag_49 rfl aP rfl) ?_
 refine D_r rfl rfl rfl (q_lookup (v := jobAgg awJ) Tryz.underlying49 Tryz.underlying31 zf_35 rfl rfl (MapAt.of aP) ((look_job _ _).trans (by simp [Qd.lookA_put]))) ?_
 refine D_call rfl rfl rfl rfl rfl rfl pf_13 (s_badd s.y hs.y awJ 0 ⟨by decide, by decide⟩ (by rw [hz0]; decide)) aC (.inl rfl) ?_
 rintro _ _ ⟨rfl, y', hto, rfl⟩
 refine D_nil ?_
 refine N_seq ?_
 refine C_seq ?_
 refine C_seq ?_
 have hyp : y'.ptr = s.y.ptr := by simp only [BrA.ptr, hto.blk]
 rw [show s.cells = (s.jbS y' (Qd.putA s.jobs 1 awJ)).cells from by simp only [SimA.cells, SimA.jbS, hyp]]
 refine C_to ((s.jbS y' (Qd.putA s.jobs 1 awJ)).kb ++ (TZ ++ F)) (by (try simp only [SimA.kb_eq, SimA.jbS]); exact aT) ?_
 have hs2 : (s.jbS y' (Qd.putA s.jobs 1 awJ)).Ok := { hs with y := hto.ok }
 have hm2 : (s.jbS y' (Qd.putA s.jobs 1 awJ)).m = Qd.Sim.awakeStart := by rw [show (s.jbS y' (Qd.putA s.jobs 1 awJ)).m = { s.m with b := y'.b, jobs := Qd.putA s.jobs 1 awJ } from rfl, hto.b, hj0, show s.y.b = s.m.b from rfl, hm]; rfl
 refine C_region ?_
 refine wm (i := 0) rfl rfl rfl rfl ?_
 refine W_nil ?_
 refine N_seq ?_
 refine C_block ?_
 refine C_loopT (ι := { q : Nat × SimA // q.1 ≤ 200 ∧ q.2.Ok ∧ q.2.ptr = s.ptr ∧ q.2.m = Qd.Sim.calms q.1 Qd.Sim.awakeStart }) (fun q => [(1, s.ptr), (21, .int .i64 (q.1.1 : Int))]) (fun q => q.1.2.kb ++ (TZ ++ F)) (fun q => 200 - q.1.1) ⟨(0, (s.jbS y' (Qd.putA s.jobs 1 awJ))), Nat.zero_le _, hs2, rfl, hm2⟩ aS aT ?_
 rintro ⟨⟨n, sk⟩, hn, hsk, hpk, hmk⟩
 dsimp only at hn hsk hpk hmk ⊢
 refine C_seq ?_
 refine C_region ?_
 refine W_q (i := 0) rfl rfl rfl (q_int rfl rfl rfl) ?_
 refine W_nil ?_
 refine N_seq ?_
 refine C_seq ?_
 refine C_cond rfl (fun ht22 => ?_) (fun ht22 => ?_)
 ·
  try simp only [CL] at ht22
  have hnl : n < 200 := by omega
  refine C_skip ?_
  refine N_seq ?_
  refine C_seq ?_
  refine C_block ?_
  refine C_region ?_
  refine wm (i := 0) rfl rfl rfl rfl ?_
  refine W_call (i := 1) rfl rfl rfl rfl rfl rfl pf_28 ((show Spec Tryz.prog 28 [s.ptr] (sk.kb ++ TZ) (fun v K' => v = .tuple #[] ∧ ∃ s' : SimA, s'.Ok ∧ s'.m = sk.m.calm ∧ s'.ptr = sk.ptr ∧ K' = s'.kb ++ TZ) from by rw [← hpk]; exact s_scalm sk hsk (by rw [hmk]; exact aw_ok hnl))) (tk_both aC aC) ?_
  rintro _ _ ⟨rfl, s', hs', hm', hp', rfl⟩
  try simp only [NL]
  refine W_nil ?_
  refine N_seq ?_
  refine C_region ?_
  refine W_q (i := 0) rfl rfl rfl (q_add rfl rfl (succ64 (by omega))) ?_
  refine wm (i := 1) rfl rfl rfl rfl ?_
  refine W_nil ?_
  exact fun a w ha hk => ⟨⟨(n + 1, s'), by dsimp only; omega, hs', hp'.trans hpk, by dsimp only; rw [hm', hmk, calms_succ]⟩, by dsimp only; omega, ha.sub aS, hk.take aT⟩
 ·
  try simp only [CL] at ht22
  have hn2 : n = 200 := by omega
  subst hn2
  rw [aw_end] at hmk
  have hd1 : sk.done = [1] := by have h : sk.m.done = sk.done := rfl; rw [← h, hmk]; rfl
  have hr1 : sk.ran = [(1, 5)] := by have h : sk.m.ran = sk.ran := rfl; rw [← h, hmk]; rfl
  have hb1 : sk.y.b.jobs = [] := by have h : sk.m.b = sk.y.b := rfl; rw [← h, hmk]; rfl
  have hbj : sk.y.jobs = [] := List.eq_nil_of_length_eq_zero (by rw [← mj_len, hb1]; rfl)
  have hbi : sk.y.b.ids = [] := by rw [ids_eq, hbj]; rfl
  have hbk : sk.blk = s.blk := by have := hpk; simpa [SimA.ptr] using this
  refine C_exit ?_
  refine N_seq ?_
  refine C_seq ?_
  rw [show s.ptr = sk.ptr from hpk.symm]
  rw [SimA.kb_eq]
  try simp only [NL]
  refine C_region ?_
  refine wm (i := 0) rfl rfl rfl rfl ?_
  refine wc (i := 1) rfl rfl rfl rfl ?_
  refine W_q (i := 2) rfl rfl rfl (q_fieldAddr fb_55_8 rfl rfl) ?_
  refine W_q (i := 3) rfl rfl rfl (q_load ag_50 rfl aP rfl) ?_
  refine W_q (i := 4) rfl rfl rfl (q_lookup (v := .bool true) Tryz.underlying50 Tryz.underlying31 zf_4 rfl rfl (MapAt.of aP) ((lookI_setT _ _).trans (by rw [hd1]; rfl))) ?_
  refine wm (i := 5) rfl rfl rfl rfl ?_
  refine wm (i := 6) rfl rfl rfl rfl ?_
  refine wc (i := 7) rfl rfl rfl rfl ?_
  refine W_q (i := 8) rfl rfl rfl (q_fieldAddr fb_55_5 rfl rfl) ?_
  refine W_q (i := 9) rfl rfl rfl (q_load ag_44 rfl aP rfl) ?_
  refine W_q (i := 10) rfl rfl rfl (q_lookup (v := .int .i64 5) Tryz.underlying44 Tryz.underlying31 zf_3 rfl rfl (MapAt.of aP) ((look_i64 _ _).trans (by rw [hr1]; rfl))) ?_
  refine W_q (i := 11) rfl rfl rfl (q_int rfl rfl (v := .bool true) rfl) ?_
  refine W_q (i := 12) rfl rfl rfl (q_pickT rfl rfl) ?_
  refine wm (i := 13) rfl rfl rfl rfl ?_
  refine wm (i := 14) rfl rfl rfl rfl ?_
  refine wc (i := 15) rfl rfl rfl rfl ?_
  refine W_q (i := 16) rfl rfl rfl (q_fieldAddr fb_55_0 rfl rfl) ?_
  refine W_q (i := 17) rfl rfl rfl (q_load ag_27 rfl aP rfl) ?_
  refine W_call (i := 18) rfl rfl rfl rfl rfl rfl pf_27 (s_bjobs sk.y (by rw [hbj]; exact Nat.zero_le _)) aC ?_
  rintro _ _ ⟨sl, rfl, hslo, rfl⟩
  rw [hbi] at hslo ⊢
  have hsl0 : sl.len = 0 := by have := hslo.vlen; simpa [encU] using this.symm
  try simp only [NL]
  refine W_q (i := 19) rfl rfl rfl (q_lenSl Tryz.underlying53 rfl rfl) ?_
  refine W_q (i := 20) rfl rfl rfl (q_int rfl rfl (v := .bool true) (by rw [hsl0]; rfl)) ?_
  refine W_q (i := 21) rfl rfl rfl (q_pickT rfl rfl) ?_
  refine wa (i := 22) rfl rfl rfl rfl ?_
  refine W_nil ?_
  refine N_seq ?_
  refine C_ret fun a w ha hk => ?_
  exact R_val (e := .ret) (.inl rfl) ha.defers (res1 ha rfl rfl) (hR _ _ _ ⟨rfl, rfl⟩ (hk.take aT))
end Go.SL
namespace Go.SL
open Go Go.Proofs
set_option maxRecDepth 10000
def cfgOf (n r q g : Int) : Qd.Config := ⟨1 + n % 6, 1 + r % 4, 1 + q % 6, 1 + g % 9⟩
set_option maxHeartbeats 2000000 in
theorem s_config [Bs] (n r q gg : Int) (hn : 0 ≤ n ∧ n < 256) (hr : 0 ≤ r ∧ r < 256) (hq : 0 ≤ q ∧ q < 256) (hg : 0 ≤ gg ∧ gg < 256) : Spec Tryz.prog 10 [.int .u8 n, .int .u8 r, .int .u8 q, .int .u8 gg] ([]) (fun v K' => v = .agg (cfgV (cfgOf n r q gg)).toArray ∧ K' = []) := by
 refine spec_body Tryz.func10 rfl rfl fun F R hR => ?_
 try simp only [NL]
 refine C_seq ?_
 refine C_region ?_
 refine W_e (i := 0) rfl rfl rfl (e_alloc zf_25) ?_
 intro b8
 refine W_nil ?_
 refine N_seq ?_
 refine C_seq ?_
 refine C_region ?_
 refine wm (i := 0) rfl rfl rfl rfl ?_
 refine W_q (i := 1) rfl rfl rfl (q_rem rfl rfl (by omega)) ?_
 rw [show Int.tmod n 6 = n % 6 from Int.tmod_eq_emod_of_nonneg (by omega)]
 refine W_q (i := 2) rfl rfl rfl (q_conv Tryz.underlying5 Tryz.underlying3 rfl (r := n % 6) (wrap64_id (by omega) (by omega))) ?_
 refine W_q (i := 3) rfl rfl rfl (q_add rfl rfl (by first | exact wrap64_id (by omega) (by omega) | rfl)) ?_
 refine wm (i := 4) rfl rfl rfl rfl ?_
 refine W_q (i := 5) rfl rfl rfl (q_rem rfl rfl (by omega)) ?_
 rw [show Int.tmod r 4 = r % 4 from Int.tmod_eq_emod_of_nonneg (by omega)]
 refine W_q (i := 6) rfl rfl rfl (q_conv Tryz.underlying5 Tryz.underlying3 rfl (r := r % 4) (wrap64_id (by omega) (by omega))) ?_
 refine W_q (i := 7) rfl rfl rfl (q_add rfl rfl (by first | exact wrap64_id (by omega) (by omega) | rfl)) ?_
 refine wm (i := 8) rfl rfl rfl rfl ?_
 refine W_q (i := 9) rfl rfl rfl (q_rem rfl rfl (by omega)) ?_
 rw [show Int.tmod q 6 = q % 6 from Int.tmod_eq_emod_of_nonneg (by omega)]
 refine W_q (i := 10) rfl rfl rfl (q_conv Tryz.underlying5 Tryz.underlying3 rfl (r := q % 6) (wrap64_id (by omega) (by omega))) ?_
 refine W_q (i := 11) rfl rfl rfl (q_add rfl rfl (by first | exact wrap64_id (by omega) (by omega) | rfl)) ?_
 refine wm (i := 12) rfl rfl rfl rfl ?_
 refine W_q (i := 13) rfl rfl rfl (q_rem rfl rfl (by omega)) ?_
 rw [show Int.tmod gg 9 = gg % 9 from Int.tmod_eq_emod_of_nonneg (by omega)]
 refine W_q (i := 14) rfl rfl rfl (q_conv Tryz.underlying5 Tryz.underlying3 rfl (r := gg % 9) (wrap64_id (by omega) (by omega))) ?_
 refine W_q (i := 15) rfl rfl rfl (q_add rfl rfl (by first | exact wrap64_id (by omega) (by omega) | rfl)) ?_
 refine W_q (i := 16) rfl rfl rfl (q_build (vs := [(0, .int .i64 (1 + n % 6)), (1, .int .i64 (1 + r % 4)), (2, .int .i64 (1 + q % 6)), (3, .int .i64 (1 + gg % 9))]) (cs := (cfgV (cfgOf n r q gg)).toArray) ps_25 zf_25 rfl (by simp [Instr.fill, Value.cells, cfgV, cfgOf])) ?_
 refine W_e (i := 17) rfl rfl rfl (e_storeAgg (us := cfgV (cfgOf n r q gg)) sz_25 rfl rfl rfl rfl (by exact Upd.here) (by first | exact Nat.le_refl _ | (simp [Value.cells]; done) | (simp [Value.cells]; exact Nat.le_refl _))) ?_
 intro _
 refine W_nil ?_
 refine N_seq ?_
 refine C_ret fun a w ha hk => ?_
 exact R_val (e := .ret) (by simp) ha.defers (res1c (us := cfgV (cfgOf n r q gg)) ha hk rfl rfl ag_25 sz_25 aP (by simp [cfgV, splice, Value.cells]) (by simp [cfgV, splice, Value.cells])) (hR _ _ _ ⟨rfl, rfl⟩ (hk.take aT))
end Go.SL
namespace Qd
/-- a brain that holds: nothing was ordered, nobody has a place -/
structure Held (b : Brain) (c : Config) (h t : Int) (k : Nat) : Prop where
  c : b.c = c
  hold : b.hold = h
  now : b.now = t
  os : b.orders = []
  im : b.images = []
  dn : b.done = []
  gen : b.gen = 0
  mem : b.members = []
  st : b.stops = none
  at_ : ∀ p ∈ b.jobs, p.2.at_ = []
  jl : b.jobs.length ≤ k
theorem Held.new (c : Config) (h : Int) : Held (Brain.new c h) c h 0 0 := ⟨rfl, rfl, rfl, rfl, rfl, rfl, rfl, rfl, rfl, (fun _ h => (by cases h)), Nat.le_refl _⟩
theorem Held.mono {b : Brain} {c : Config} {h t : Int} {k l : Nat} (H : Held b c h t k) (hl : k ≤ l) : Held b c h t l := { H with jl := Nat.le_trans H.jl hl }
theorem Held.setUp {b : Brain} {c : Config} {h t : Int} {k : Nat} (H : Held b c h t k) (n : Int) : Held (b.setUp n).2 c h t k := by
  unfold Brain.setUp
  dsimp only
  split
  · exact H
  · exact ⟨H.c, H.hold, H.now, H.os, H.im, H.dn, H.gen, H.mem, H.st, H.at_, H.jl⟩
theorem putA_len {α : Type} (m : List (Int × α)) (k : Int) (v : α) : (putA m k v).length ≤ m.length + 1 := by
  cases h : lookA m k with
  | none => rw [keys_new h]; simp
  | some u => rw [len_put h]; omega
theorem Held.add {b : Brain} {c : Config} {h t : Int} {k : Nat} (H : Held b c h t k) {j : ApiJob} {v : Int} (hw : j.credit < j.w) : Held (b.add j v).2 c h t (k + 1) := by
  unfold Brain.add
  dsimp only
  split
  · exact H.mono (by omega)
  · rename_i he
    unfold Brain.finish
    rw [if_pos (.inl (by simpa using hw))]
    refine ⟨H.c, H.hold, H.now, H.os, H.im, H.dn, H.gen, H.mem, H.st, ?_, ?_⟩
    · intro p hp
      rcases mem_put hp with rfl | hp
      · rfl
      · rcases mem_put hp with rfl | hp
        · rfl
        · exact H.at_ p hp
    · show (putA (putA b.jobs _ _) _ _).length ≤ _
      rw [len_put (v := _) (by rw [lookA_put]; simp; rfl)]
      exact Nat.le_trans (putA_len _ _ _) (by have := H.jl; omega)
theorem Held.tick {b : Brain} {c : Config} {h t : Int} {k : Nat} (H : Held b c h t k) {now : Int} (h1 : t < now) (h2 : now ≤ h) : (b.tick now).1 = 0 ∧ Held (b.tick now).2 c h now k := by
  have e : b.tick now = (0, { b with now }) := by
    unfold Brain.tick
    rw [if_neg (by rw [H.now]; omega)]
    exact if_pos (by rw [H.hold]; exact h2)
  rw [e]
  exact ⟨rfl, H.c, H.hold, rfl, H.os, H.im, H.dn, H.gen, H.mem, H.st, H.at_, H.jl⟩
theorem Held.pre {b : Brain} {c : Config} {h t : Int} {k : Nat} (H : Held b c h t k) {now : Int} (h2 : now ≤ h) : Go.SL.tpre b now = true := by
  unfold Go.SL.tpre
  rw [H.mem, H.hold, decide_eq_true h2]
  simp
theorem stopHeard_none {b : Brain} (h : b.stops = none) (n : Int) : b.stopHeard n = b := by
  unfold Brain.stopHeard
  split
  · rfl
  · rename_i s hs; rw [h] at hs; cases hs
theorem Held.lost [Go.SL.Bs] {b : Brain} {c : Config} {h t : Int} {k : Nat} (H : Held b c h t k) (n : Int) : Held (b.lost n).2 c h t k := by
  by_cases he : b.nodeErr n true = 0
  · rw [Go.SL.lost_none he H.os (fun id x hx => H.at_ _ (lookA_mem hx))]
    rw [stopHeard_none (b := { b with up := b.up.erase n, m := b.m.setUp n false }) H.st]
    exact ⟨H.c, H.hold, H.now, H.os, H.im, H.dn, H.gen, H.mem, H.st, H.at_, H.jl⟩
  · rw [Go.SL.lost_err he]; exact H
end Qd
namespace Go.SL
open Go Go.Proofs
set_option maxRecDepth 10000
/-- a slice of bytes that came in: whatever block its cells lie in -/
structure ArgS (K : KB) (a : Option Addr) (xs : List Int) : Prop where
  len : xs.length ≤ 9223372036854775807
  u8 : ∀ x ∈ xs, 0 ≤ x ∧ x < 256
  at_ : ∀ (i : Nat) (x : Int), xs[i]? = some x → ∃ b off φ, a = some ⟨b, off, none⟩ ∧ (b, φ) ∈ K ∧ ∀ o : Obj, φ o → ∃ cs T fr, o = .cells cs T fr ∧ cs[off + i]? = some (.int .u8 x)
theorem held_sz {y : BrA} {c : Qd.Config} {h t : Int} {k : Nat} (H : Qd.Held y.b c h t k) : y.sz = 0 := by
  have h1 : y.os = [] := H.os
  have h2 : y.dn = [] := H.dn
  have h3 : y.ims = [] := by have := H.im; simpa [BrA.b] using this
  unfold BrA.sz
  rw [h1, h2, h3]; rfl
theorem held_jobs {y : BrA} {c : Qd.Config} {h t : Int} {k : Nat} (H : Qd.Held y.b c h t k) : y.jobs.length ≤ k := by rw [← mj_len]; exact H.jl
theorem held_at {y : BrA} {c : Qd.Config} {h t : Int} {k : Nat} (H : Qd.Held y.b c h t k) : ∀ id j, Qd.lookA y.jobs id = some j → j.x.at_ = [] := by
  intro id j hl
  exact H.at_ (id, j.x) (List.mem_map.2 ⟨(id, j), Qd.lookA_mem hl, rfl⟩)
theorem held_osl {y : BrA} (hy : y.Ok) {c : Qd.Config} {h t : Int} {k : Nat} (H : Qd.Held y.b c h t k) : y.osl.len = 0 := by
  have h1 : y.os = [] := H.os
  have := hy.osl.vlen
  rw [h1] at this
  simp [flat] at this
  omega
theorem held_take {y : BrA} {c : Qd.Config} {h t : Int} {k : Nat} (H : Qd.Held y.b c h t k) : Qd.Held (y.osa [] Sl.nilS).b c h t k := ⟨H.c, H.hold, H.now, rfl, H.im, H.dn, H.gen, H.mem, H.st, H.at_, H.jl⟩
theorem pf_10 : plainFn Tryz.prog 10 = true := by kernel_rfl
theorem pf_15 : plainFn Tryz.prog 15 = true := by kernel_rfl
theorem pf_17 : plainFn Tryz.prog 17 = true := by kernel_rfl
theorem pf_18 : plainFn Tryz.prog 18 = true := by kernel_rfl
theorem pf_9 : plainFn Tryz.prog 9 = true := by kernel_rfl
set_option maxHeartbeats 2000000 in
theorem s_hold [Bs] (K0 : KB) (n r h : Int) (hn : 0 ≤ n ∧ n < 256) (hr : 0 ≤ r ∧ r < 256) (hh : 0 ≤ h ∧ h < 256) (ja la : Option Addr) (jc lc : Nat) (js ls : List Int) (hj : ArgS (K0 ++ TZ) ja js) (hl : ArgS (K0 ++ TZ) la ls) : Spec Tryz.prog 3 [.int .u8 n, .int .u8 r, .int .u8 h, .slice ja js.length jc, .slice la ls.length lc] (K0 ++ TZ) (fun v K' => v = .bool true ∧ K' = K0 ++ TZ) := by
 have hcc : Qd.Brain.okConfig (cfgOf n r 2 3) = true := by unfold Qd.Brain.okConfig cfgOf; dsimp only; simp only [Bool.and_eq_true, decide_eq_true_eq]; refine ⟨⟨⟨⟨⟨⟨⟨?_, ?_⟩, ?_⟩, ?_⟩, ?_⟩, ?_⟩, ?_⟩, ?_⟩ <;> omega
 have hcn : 1 ≤ (cfgOf n r 2 3).nodes ∧ (cfgOf n r 2 3).nodes ≤ 6 := by simp only [cfgOf]; omega
 have hjl := hj.len
 have hll := hl.len
 refine spec_body Tryz.func3 rfl rfl fun F R hR => ?_
 try simp only [NL]
 refine C_seq ?_
 refine C_region ?_
 refine wa (i := 0) rfl rfl rfl rfl ?_
 refine W_nil ?_
 refine N_seq ?_
 refine C_seq ?_
 refine C_seq ?_
 refine C_region ?_
 refine W_call (i := 0) rfl rfl rfl rfl rfl rfl pf_9 (s_awake) aC ?_
 rintro _ _ ⟨rfl, rfl⟩
 refine W_q (i := 1) rfl rfl rfl (q_not rfl) ?_
 refine W_nil ?_
 refine N_seq ?_
 refine C_condF rfl ?_
 refine C_skip ?_
 refine N_seq ?_
 refine C_seq ?_
 refine C_region ?_
 refine wm (i := 0) rfl rfl rfl rfl ?_
 refine wm (i := 1) rfl rfl rfl rfl ?_
 refine W_call (i := 2) rfl rfl rfl rfl rfl rfl pf_10 (s_config n r 2 3 hn hr (by decide) (by decide)) tk_nil ?_
 rintro _ _ ⟨rfl, rfl⟩
 try simp only [NL]
 refine W_e (i := 3) rfl rfl rfl (e_alloc zf_25) ?_
 intro b11
 refine W_e (i := 4) rfl rfl rfl (e_storeAgg (us := cfgV (cfgOf n r 2 3)) sz_25 rfl rfl rfl rfl (by exact Upd.here) (by first | exact Nat.le_refl _ | (simp [Value.cells]; done) | (simp [Value.cells]; exact Nat.le_refl _))) ?_
 intro _
 refine W_nil ?_
 refine N_seq ?_
 refine C_seq ?_
 refine C_region ?_
 refine W_q (i := 0) rfl rfl rfl (q_loadAgg (us := cfgV (cfgOf n r 2 3)) ag_25 sz_25 rfl aP (by simp [cfgV, splice, Value.cells]) rfl) ?_
 refine wm (i := 1) rfl rfl rfl rfl ?_
 refine W_q (i := 2) rfl rfl rfl (q_rem rfl rfl (by omega)) ?_
 rw [show Int.tmod h 40 = h % 40 from Int.tmod_eq_emod_of_nonneg (by omega)]
 refine W_q (i := 3) rfl rfl rfl (q_conv Tryz.underlying5 Tryz.underlying31 rfl (r := h % 40) (by simp [IntKind.wrap, IntKind.bits, IntKind.signed]; omega)) ?_
 refine W_call (i := 4) rfl rfl rfl rfl rfl rfl pf_11 ((s_new (cfgOf n r 2 3) (h % 40)).mono (fun v K' h => h.resolve_right (fun h2 => by rw [hcc] at h2; cases h2.1))) tk_nil ?_
 rintro _ _ ⟨_, y, rfl, hyh, hyo, hyb, rfl⟩
 have Hy : Qd.Held y.b (cfgOf n r 2 3) (h % 40) 0 0 := by rw [hyb]; exact Qd.Held.new _ _
 refine wm (i := 5) rfl rfl rfl rfl ?_
 refine W_q (i := 6) rfl rfl rfl (q_extract rfl rfl) ?_
 refine W_q (i := 7) rfl rfl rfl (q_extract rfl rfl) ?_
 refine wa (i := 8) rfl rfl rfl rfl ?_
 refine wa (i := 9) rfl rfl rfl rfl ?_
 refine W_nil ?_
 refine N_seq ?_
 refine C_seq ?_
 refine C_seq ?_
 refine C_region ?_
 refine wm (i := 0) rfl rfl rfl rfl ?_
 refine W_q (i := 1) rfl rfl rfl (q_int rfl rfl rfl) ?_
 refine W_nil ?_
 refine N_seq ?_
 refine C_condF rfl ?_
 refine C_skip ?_
 refine N_seq ?_
 refine C_seq ?_
 refine C_seq ?_
 refine C_region ?_
 refine W_q (i := 0) rfl rfl rfl (q_fieldAddr fb_25_0 rfl rfl) ?_
 refine W_q (i := 1) rfl rfl rfl (q_load ag_3 rfl aP rfl) ?_
 refine wm (i := 2) rfl rfl rfl rfl ?_
 refine W_nil ?_
 refine N_seq ?_
 refine C_block ?_
 refine C_loopT (ι := { q : Nat × BrA // q.1 ≤ (cfgOf n r 2 3).nodes.toNat ∧ q.2.Ok ∧ q.2.blk = y.blk ∧ Qd.Held q.2.b (cfgOf n r 2 3) (h % 40) 0 0 }) (fun q => [(2, .int .u8 h), (3, .slice ja js.length jc), (4, .slice la ls.length lc), (11, .pointer (some ⟨b11, 0, none⟩)), (12, y.ptr), (35, .int .i64 (cfgOf n r 2 3).nodes), (36, .int .i64 (q.1.1 : Int))]) (fun q => q.1.2.kb ++ ((b11, Cells (cfgV (cfgOf n r 2 3)) 25) :: (K0 ++ (TZ ++ F)))) (fun q => (cfgOf n r 2 3).nodes.toNat - q.1.1) ⟨(0, y), Nat.zero_le _, hyo, rfl, Hy⟩ aS aT ?_
 rintro ⟨⟨i, yi⟩, hi, hyi, hib, Hi⟩
 dsimp only at hi hyi hib Hi ⊢
 rw [show y.ptr = yi.ptr from by simp only [BrA.ptr, hib]]
 refine C_seq ?_
 refine C_region ?_
 refine W_q (i := 0) rfl rfl rfl (q_int rfl rfl rfl) ?_
 refine W_nil ?_
 refine N_seq ?_
 refine C_seq ?_
 refine C_cond rfl (fun ht37 => ?_) (fun ht37 => ?_)
 ·
  try simp only [CL] at ht37
  have hil : i < (cfgOf n r 2 3).nodes.toNat := by omega
  refine C_skip ?_
  refine N_seq ?_
  refine C_seq ?_
  refine C_block ?_
  refine C_seq ?_
  refine C_region ?_
  refine wm (i := 0) rfl rfl rfl rfl ?_
  refine wa (i := 1) rfl rfl rfl rfl ?_
  refine W_nil ?_
  refine N_seq ?_
  refine C_region ?_
  refine wm (i := 0) rfl rfl rfl rfl ?_
  refine wm (i := 1) rfl rfl rfl rfl ?_
  refine W_call (i := 2) rfl rfl rfl rfl rfl rfl pf_12 (s_bup yi hyi (i : Int)) aC ?_
  rintro _ _ ⟨rfl, y', hto, rfl⟩
  refine W_nil ?_
  refine N_seq ?_
  refine C_region ?_
  refine W_q (i := 0) rfl rfl rfl (q_add rfl rfl (succ64 (by omega))) ?_
  refine wm (i := 1) rfl rfl rfl rfl ?_
  refine W_nil ?_
  exact fun a w ha hk => ⟨⟨(i + 1, y'), by dsimp only; omega, hto.ok, hto.blk.trans hib, by dsimp only; rw [hto.b]; exact Hi.setUp _⟩, by dsimp only; omega, ha.sub aS, hk.take aT⟩
 ·
  try simp only [CL] at ht37
  rw [show yi.ptr = y.ptr from by simp only [BrA.ptr, hib]]
  refine C_exit ?_
  refine N_seq ?_
  refine C_seq ?_
  refine C_seq ?_
  refine C_region ?_
  refine wm (i := 0) rfl rfl rfl rfl ?_
  refine W_q (i := 1) rfl rfl rfl (q_lenSlice Tryz.underlying22 rfl rfl) ?_
  refine wm (i := 2) rfl rfl rfl rfl ?_
  refine W_nil ?_
  refine N_seq ?_
  refine C_block ?_
  refine C_loopT (ι := { q : Nat × BrA // q.1 ≤ js.length ∧ q.2.Ok ∧ q.2.blk = y.blk ∧ Qd.Held q.2.b (cfgOf n r 2 3) (h % 40) 0 (min q.1 10) }) (fun q => [(2, .int .u8 h), (4, .slice la ls.length lc), (11, .pointer (some ⟨b11, 0, none⟩)), (12, y.ptr), (43, .slice ja js.length jc), (44, .int .i64 (js.length : Int)), (45, .int .i64 (q.1.1 : Int))]) (fun q => q.1.2.kb ++ ((b11, Cells (cfgV (cfgOf n r 2 3)) 25) :: (K0 ++ (TZ ++ F)))) (fun q => js.length - q.1.1) ⟨(0, yi), Nat.zero_le _, hyi, hib, Hi⟩ aS aT ?_
  clear hi Hi hyi hib
  rintro ⟨⟨i, yi⟩, hi, hyi, hib, Hi⟩
  dsimp only at hi hyi hib Hi ⊢
  rw [show y.ptr = yi.ptr from by simp only [BrA.ptr, hib]]
  refine C_seq ?_
  refine C_region ?_
  refine W_q (i := 0) rfl rfl rfl (q_int rfl rfl rfl) ?_
  refine W_nil ?_
  refine N_seq ?_
  refine C_seq ?_
  refine C_cond rfl (fun ht46 => ?_) (fun ht46 => ?_)
  ·
   try simp only [CL] at ht46
   have hil : i < js.length := by omega
   obtain ⟨x, hx⟩ : ∃ x, js[i]? = some x := ⟨_, List.getElem?_eq_getElem hil⟩
   have hx8 := hj.u8 x (List.mem_of_getElem? hx)
   obtain ⟨bj, oj, φ, rfl, hmj, hφ⟩ := hj.at_ i x hx
   refine C_skip ?_
   refine N_seq ?_
   refine C_seq ?_
   refine C_block ?_
   refine C_seq ?_
   refine C_region ?_
   refine wm (i := 0) rfl rfl rfl rfl ?_
   refine W_q (i := 1) rfl rfl rfl (q_indexAddr Tryz.underlying22 sz_5 rfl rfl (Int.natCast_nonneg _) (by omega) rfl) ?_
   refine W_q (i := 2) rfl rfl rfl (q_loadX (φ := φ) (v := .int .u8 x) ag_5 rfl (by have h := hmj; rw [List.mem_append] at h; simp only [List.mem_append, List.mem_cons]; rcases h with h | h <;> simp [h]) (by simpa using hφ)) ?_
   refine wa (i := 3) rfl rfl rfl rfl ?_
   refine wa (i := 4) rfl rfl rfl rfl ?_
   refine W_nil ?_
   refine N_seq ?_
   refine C_seq ?_
   refine C_region ?_
   refine wm (i := 0) rfl rfl rfl rfl ?_
   refine W_q (i := 1) rfl rfl rfl (q_int rfl rfl rfl) ?_
   refine W_nil ?_
   refine N_seq ?_
   refine C_cond rfl (fun ht51 => ?_) (fun ht51 => ?_)
   ·
    try simp only [CL] at ht51
    refine C_region ?_
    refine wm (i := 0) rfl rfl rfl rfl ?_
    refine wm (i := 1) rfl rfl rfl rfl ?_
    refine W_q (i := 2) rfl rfl rfl (q_add rfl rfl (succ64 (by omega))) ?_
    refine W_q (i := 3) rfl rfl rfl (q_conv Tryz.underlying3 Tryz.underlying31 rfl (r := (i : Int) + 1) (by simp [IntKind.wrap, IntKind.bits, IntKind.signed]; omega)) ?_
    refine wm (i := 4) rfl rfl rfl rfl ?_
    refine W_q (i := 5) rfl rfl rfl (q_conv Tryz.underlying5 Tryz.underlying3 rfl (r := x) (wrap64_id (by omega) (by omega))) ?_
    refine W_q (i := 6) rfl rfl rfl (q_fieldAddr fb_25_0 rfl rfl) ?_
    refine W_q (i := 7) rfl rfl rfl (q_load (v := .int .i64 (cfgOf n r 2 3).nodes) ag_3 rfl aP rfl) ?_
    refine W_q (i := 8) rfl rfl rfl (q_rem rfl rfl (by omega)) ?_
    rw [show Int.tmod x (cfgOf n r 2 3).nodes = x % (cfgOf n r 2 3).nodes from Int.tmod_eq_emod_of_nonneg (by omega)]
    have hxn := Int.emod_nonneg x (b := (cfgOf n r 2 3).nodes) (by omega)
    have hxl := Int.emod_lt_of_pos x (b := (cfgOf n r 2 3).nodes) (by omega)
    refine W_q (i := 9) rfl rfl rfl (q_add rfl rfl (r := 1 + x % (cfgOf n r 2 3).nodes) (wrap64_id (by omega) (by omega))) ?_
    refine W_q (i := 10) rfl rfl rfl (q_build (vs := [(0, .int .u32 ((i : Int) + 1)), (2, .int .i64 (1 + x % (cfgOf n r 2 3).nodes)), (3, .int .i64 5)]) (cs := (jobV ({ id := (i : Int) + 1, k := 1 + x % (cfgOf n r 2 3).nodes, w := 5 } : Qd.ApiJob)).toArray) ps_35 zf_35 rfl (by simp [Instr.fill, Value.cells, jobV])) ?_
    refine W_call (i := 11) rfl rfl rfl rfl rfl rfl pf_13 (s_badd yi hyi ({ id := (i : Int) + 1, k := 1 + x % (cfgOf n r 2 3).nodes, w := 5 } : Qd.ApiJob) 0 (by dsimp only; omega) (by rw [held_sz Hi]; decide)) aC ?_
    rintro _ _ ⟨rfl, y', hto, rfl⟩
    refine W_nil ?_
    refine N_seq ?_
    refine C_region ?_
    refine W_q (i := 0) rfl rfl rfl (q_add rfl rfl (r := ((i + 1 : Nat) : Int)) (by rw [wrap64_id (by omega) (by omega)]; omega)) ?_
    refine wm (i := 1) rfl rfl rfl rfl ?_
    refine W_nil ?_
    exact fun a w ha hk => ⟨⟨(i + 1, y'), by dsimp only; omega, hto.ok, hto.blk.trans hib, by dsimp only; rw [hto.b]; exact (Hi.add (show (0 : Int) < 5 by decide)).mono (by omega)⟩, by dsimp only; omega, ha.sub aS, hk.take aT⟩
   ·
    try simp only [CL] at ht51
    refine C_skip ?_
    refine N_seq ?_
    refine C_region ?_
    refine W_q (i := 0) rfl rfl rfl (q_add rfl rfl (r := ((i + 1 : Nat) : Int)) (by rw [wrap64_id (by omega) (by omega)]; omega)) ?_
    refine wm (i := 1) rfl rfl rfl rfl ?_
    refine W_nil ?_
    exact fun a w ha hk => ⟨⟨(i + 1, yi), by dsimp only; omega, hyi, hib, by dsimp only; exact Hi.mono (by omega)⟩, by dsimp only; omega, ha.sub aS, hk.take aT⟩
  ·
   try simp only [CL] at ht46
   rw [show yi.ptr = y.ptr from by simp only [BrA.ptr, hib]]
   refine C_exit ?_
   refine N_seq ?_
   refine C_seq ?_
   refine C_seq ?_
   refine C_region ?_
   refine wm (i := 0) rfl rfl rfl rfl ?_
   refine W_q (i := 1) rfl rfl rfl (q_rem rfl rfl (by omega)) ?_
   rw [show Int.tmod h 40 = h % 40 from Int.tmod_eq_emod_of_nonneg (by omega)]
   refine W_q (i := 2) rfl rfl rfl (q_conv Tryz.underlying5 Tryz.underlying31 rfl (r := h % 40) (by simp [IntKind.wrap, IntKind.bits, IntKind.signed]; omega)) ?_
   refine wm (i := 3) rfl rfl rfl rfl ?_
   refine W_nil ?_
   refine N_seq ?_
   refine C_block ?_
   refine C_loopT (ι := { q : Nat × BrA // (q.1 : Int) ≤ h % 40 ∧ q.2.Ok ∧ q.2.blk = y.blk ∧ Qd.Held q.2.b (cfgOf n r 2 3) (h % 40) (q.1 : Int) 10 }) (fun q => [(4, .slice la ls.length lc), (11, .pointer (some ⟨b11, 0, none⟩)), (12, y.ptr), (67, .int .u32 (h % 40)), (68, .int .u32 (q.1.1 : Int))]) (fun q => q.1.2.kb ++ ((b11, Cells (cfgV (cfgOf n r 2 3)) 25) :: (K0 ++ (TZ ++ F)))) (fun q => (h % 40).toNat - q.1.1) ⟨(0, yi), by dsimp only; omega, hyi, hib, Hi.mono (by omega)⟩ aS aT ?_
   clear hi Hi hyi hib
   rintro ⟨⟨t, yi⟩, hi, hyi, hib, Hi⟩
   dsimp only at hi hyi hib Hi ⊢
   rw [show y.ptr = yi.ptr from by simp only [BrA.ptr, hib]]
   refine C_seq ?_
   refine C_region ?_
   refine W_q (i := 0) rfl rfl rfl (q_int rfl rfl rfl) ?_
   refine W_nil ?_
   refine N_seq ?_
   refine C_seq ?_
   refine C_cond rfl (fun ht69 => ?_) (fun ht69 => ?_)
   ·
    try simp only [CL] at ht69
    have hpre := Hi.pre (now := (t : Int) + 1) (by omega)
    obtain ⟨ht1, Ht1⟩ := Hi.tick (now := (t : Int) + 1) (by omega) (by omega)
    refine C_skip ?_
    refine N_seq ?_
    refine C_seq ?_
    refine C_block ?_
    refine C_seq ?_
    refine C_region ?_
    refine wm (i := 0) rfl rfl rfl rfl ?_
    refine wa (i := 1) rfl rfl rfl rfl ?_
    refine W_nil ?_
    refine N_seq ?_
    refine C_seq ?_
    refine C_seq ?_
    refine C_region ?_
    refine wm (i := 0) rfl rfl rfl rfl ?_
    refine wm (i := 1) rfl rfl rfl rfl ?_
    refine W_q (i := 2) rfl rfl rfl (q_add rfl rfl (r := (t : Int) + 1) (by simp [IntKind.wrap, IntKind.bits, IntKind.signed]; omega)) ?_
    refine W_call (i := 3) rfl rfl rfl rfl rfl rfl pf_14 (s_tick yi hyi ((t : Int) + 1) (by omega) hpre (by rw [held_sz Hi]; decide)) (tk_both aC aC) ?_
    rintro _ _ ⟨y1, rfl, hto1, rfl⟩
    try simp only [NL]
    rw [ht1]
    rw [← hto1.b] at Ht1
    have hb1 := hto1.blk.trans hib
    rw [show yi.ptr = y1.ptr from by simp only [BrA.ptr, hto1.blk]]
    refine W_q (i := 4) rfl rfl rfl (q_int rfl rfl rfl) ?_
    refine W_nil ?_
    refine N_seq ?_
    refine C_condF rfl ?_
    refine C_skip ?_
    refine N_seq ?_
    refine C_seq ?_
    refine C_seq ?_
    refine C_region ?_
    refine wm (i := 0) rfl rfl rfl rfl ?_
    refine W_q (i := 1) rfl rfl rfl (q_conv Tryz.underlying31 Tryz.underlying3 rfl (r := (t : Int)) (wrap64_id (by omega) (by omega))) ?_
    refine wm (i := 2) rfl rfl rfl rfl ?_
    refine W_q (i := 3) rfl rfl rfl (q_lenSlice Tryz.underlying22 rfl rfl) ?_
    refine W_q (i := 4) rfl rfl rfl (q_int rfl rfl rfl) ?_
    refine W_nil ?_
    refine N_seq ?_
    refine C_cond rfl (fun ht80 => ?_) (fun ht80 => ?_)
    ·
     try simp only [CL] at ht80
     have hil : t < ls.length := by omega
     obtain ⟨x, hx⟩ : ∃ x, ls[t]? = some x := ⟨_, List.getElem?_eq_getElem hil⟩
     have hx8 := hl.u8 x (List.mem_of_getElem? hx)
     obtain ⟨bj, oj, φ, rfl, hmj, hφ⟩ := hl.at_ t x hx
     refine C_seq ?_
     refine C_draw (.cons 0 .pure (.cons 1 .pure (.cons 2 .pure (.cons 3 .read (.cons 4 .pure (.cons 5 .pure (.cons 6 .read (.cons 7 .pure (.cons 8 .pure .nil))))))))) (fun w => Knows w _) 9 mo (by kernel_rfl) (fun _ h => h) ?_
     refine D_p rfl rfl rfl (q_move rfl) ?_
     refine D_p rfl rfl rfl (q_move rfl) ?_
     refine D_p rfl rfl rfl (q_indexAddr Tryz.underlying22 sz_5 rfl rfl (Int.natCast_nonneg _) (by omega) rfl) ?_
     refine D_r rfl rfl rfl (q_loadX (φ := φ) (v := .int .u8 x) ag_5 rfl (by have h := hmj; rw [List.mem_append] at h; simp only [List.mem_append, List.mem_cons]; rcases h with h | h <;> simp [h]) (by simpa using hφ)) ?_
     refine D_p rfl rfl rfl (q_conv Tryz.underlying5 Tryz.underlying3 rfl (r := x) (wrap64_id (by omega) (by omega))) ?_
     refine D_p rfl rfl rfl (q_fieldAddr fb_25_0 rfl rfl) ?_
     refine D_r rfl rfl rfl (q_load (v := .int .i64 (cfgOf n r 2 3).nodes) ag_3 rfl aP rfl) ?_
     refine D_p rfl rfl rfl (q_rem rfl rfl (by omega)) ?_
     rw [show Int.tmod x (cfgOf n r 2 3).nodes = x % (cfgOf n r 2 3).nodes from Int.tmod_eq_emod_of_nonneg (by omega)]
     refine D_p rfl rfl rfl (q_assign rfl) ?_
     refine D_nil ?_
     refine N_seq ?_
     refine C_seq ?_
     refine C_region ?_
     refine wm (i := 0) rfl rfl rfl rfl ?_
     refine wm (i := 1) rfl rfl rfl rfl ?_
     refine W_call (i := 2) rfl rfl rfl rfl rfl rfl pf_15 (s_lost0 y1 hto1.ok (x % (cfgOf n r 2 3).nodes) (Nat.le_trans (held_jobs Ht1) (by decide)) Ht1.os (held_at Ht1) (by rw [held_sz Ht1]; decide)) aC ?_
     rintro _ _ ⟨rfl, y2, hto2, rfl⟩
     have Ht2 := Ht1.lost (x % (cfgOf n r 2 3).nodes)
     rw [← hto2.b] at Ht2
     have hb2 := hto2.blk.trans hb1
     rw [show y1.ptr = y2.ptr from by simp only [BrA.ptr, hto2.blk]]
     refine W_q (i := 3) rfl rfl rfl (q_int rfl rfl rfl) ?_
     refine W_nil ?_
     refine N_seq ?_
     refine C_cond rfl (fun ht92 => ?_) (fun ht92 => ?_)
     ·
      try simp only [CL] at ht92
      refine C_region ?_
      refine wm (i := 0) rfl rfl rfl rfl ?_
      refine wm (i := 1) rfl rfl rfl rfl ?_
      refine W_call (i := 2) rfl rfl rfl rfl rfl rfl pf_12 (s_bup y2 hto2.ok (x % (cfgOf n r 2 3).nodes)) aC ?_
      rintro _ _ ⟨rfl, y3, hto3, rfl⟩
      have Ht3 := Ht2.setUp (x % (cfgOf n r 2 3).nodes)
      rw [← hto3.b] at Ht3
      have hb3 := hto3.blk.trans hb2
      rw [show y2.ptr = y3.ptr from by simp only [BrA.ptr, hto3.blk]]
      obtain ⟨ye, rfl⟩ : ∃ ye, ye = y3 := ⟨_, rfl⟩
      have hoe := hto3.ok
      have He : Qd.Held ye.b (cfgOf n r 2 3) (h % 40) ((t : Int) + 1) 10 := Ht3
      have hol := held_osl hoe He
      have hbe := hb3
      refine W_nil ?_
      refine N_seq ?_
      refine C_seq ?_
      refine C_region ?_
      refine wm (i := 0) rfl rfl rfl rfl ?_
      refine W_call (i := 1) rfl rfl rfl rfl rfl rfl pf_16 (s_btake ye) aC ?_
      rintro _ _ ⟨rfl, rfl⟩
      try simp only [NL]
      refine W_q (i := 2) rfl rfl rfl (q_lenSl Tryz.underlying37 rfl rfl) ?_
      refine W_q (i := 3) rfl rfl rfl (q_int rfl rfl (v := .bool false) (by rw [hol]; rfl)) ?_
      refine wm (i := 4) rfl rfl rfl rfl ?_
      refine wm (i := 5) rfl rfl rfl rfl ?_
      refine W_call (i := 6) rfl rfl rfl rfl rfl rfl pf_17 (s_resting (ye.osa [] Sl.nilS)) aC ?_
      rintro _ _ ⟨rfl, rfl⟩
      rw [show (ye.osa [] Sl.nilS).b.stops = none from He.st]
      refine W_q (i := 7) rfl rfl rfl (q_not rfl) ?_
      refine W_q (i := 8) rfl rfl rfl (q_pickF rfl rfl) ?_
      refine wm (i := 9) rfl rfl rfl rfl ?_
      refine wm (i := 10) rfl rfl rfl rfl ?_
      refine W_call (i := 11) rfl rfl rfl rfl rfl rfl pf_18 (s_gen (ye.osa [] Sl.nilS)) aC ?_
      rintro _ _ ⟨rfl, rfl⟩
      rw [show (ye.osa [] Sl.nilS).gen = 0 from He.gen]
      refine W_q (i := 12) rfl rfl rfl (q_int rfl rfl rfl) ?_
      refine W_q (i := 13) rfl rfl rfl (q_pickF rfl rfl) ?_
      refine W_nil ?_
      refine N_seq ?_
      refine C_condF rfl ?_
      refine C_skip ?_
      refine N_seq ?_
      refine C_region ?_
      refine W_q (i := 0) rfl rfl rfl (q_add rfl rfl (r := (t : Int) + 1) (by simp [IntKind.wrap, IntKind.bits, IntKind.signed]; omega)) ?_
      refine wm (i := 1) rfl rfl rfl rfl ?_
      refine W_nil ?_
      exact fun a w ha hk => ⟨⟨(t + 1, ye.osa [] Sl.nilS), by dsimp only; omega, hoe.osn, hbe, by dsimp only; exact held_take He⟩, by dsimp only; omega, ha.sub aS, hk.take aT⟩
     ·
      try simp only [CL] at ht92
      obtain ⟨ye, rfl⟩ : ∃ ye, ye = y2 := ⟨_, rfl⟩
      have hoe := hto2.ok
      have He : Qd.Held ye.b (cfgOf n r 2 3) (h % 40) ((t : Int) + 1) 10 := Ht2
      have hol := held_osl hoe He
      have hbe := hb2
      refine C_skip ?_
      refine N_seq ?_
      refine C_seq ?_
      refine C_region ?_
      refine wm (i := 0) rfl rfl rfl rfl ?_
      refine W_call (i := 1) rfl rfl rfl rfl rfl rfl pf_16 (s_btake ye) aC ?_
      rintro _ _ ⟨rfl, rfl⟩
      try simp only [NL]
      refine W_q (i := 2) rfl rfl rfl (q_lenSl Tryz.underlying37 rfl rfl) ?_
      refine W_q (i := 3) rfl rfl rfl (q_int rfl rfl (v := .bool false) (by rw [hol]; rfl)) ?_
      refine wm (i := 4) rfl rfl rfl rfl ?_
      refine wm (i := 5) rfl rfl rfl rfl ?_
      refine W_call (i := 6) rfl rfl rfl rfl rfl rfl pf_17 (s_resting (ye.osa [] Sl.nilS)) aC ?_
      rintro _ _ ⟨rfl, rfl⟩
      rw [show (ye.osa [] Sl.nilS).b.stops = none from He.st]
      refine W_q (i := 7) rfl rfl rfl (q_not rfl) ?_
      refine W_q (i := 8) rfl rfl rfl (q_pickF rfl rfl) ?_
      refine wm (i := 9) rfl rfl rfl rfl ?_
      refine wm (i := 10) rfl rfl rfl rfl ?_
      refine W_call (i := 11) rfl rfl rfl rfl rfl rfl pf_18 (s_gen (ye.osa [] Sl.nilS)) aC ?_
      rintro _ _ ⟨rfl, rfl⟩
      rw [show (ye.osa [] Sl.nilS).gen = 0 from He.gen]
      refine W_q (i := 12) rfl rfl rfl (q_int rfl rfl rfl) ?_
      refine W_q (i := 13) rfl rfl rfl (q_pickF rfl rfl) ?_
      refine W_nil ?_
      refine N_seq ?_
      refine C_condF rfl ?_
      refine C_skip ?_
      refine N_seq ?_
      refine C_region ?_
      refine W_q (i := 0) rfl rfl rfl (q_add rfl rfl (r := (t : Int) + 1) (by simp [IntKind.wrap, IntKind.bits, IntKind.signed]; omega)) ?_
      refine wm (i := 1) rfl rfl rfl rfl ?_
      refine W_nil ?_
      exact fun a w ha hk => ⟨⟨(t + 1, ye.osa [] Sl.nilS), by dsimp only; omega, hoe.osn, hbe, by dsimp only; exact held_take He⟩, by dsimp only; omega, ha.sub aS, hk.take aT⟩
    ·
     try simp only [CL] at ht80
     obtain ⟨ye, rfl⟩ : ∃ ye, ye = y1 := ⟨_, rfl⟩
     have hoe := hto1.ok
     have He : Qd.Held ye.b (cfgOf n r 2 3) (h % 40) ((t : Int) + 1) 10 := Ht1
     have hol := held_osl hoe He
     have hbe := hb1
     refine C_skip ?_
     refine N_seq ?_
     refine C_seq ?_
     refine C_region ?_
     refine wm (i := 0) rfl rfl rfl rfl ?_
     refine W_call (i := 1) rfl rfl rfl rfl rfl rfl pf_16 (s_btake ye) aC ?_
     rintro _ _ ⟨rfl, rfl⟩
     try simp only [NL]
     refine W_q (i := 2) rfl rfl rfl (q_lenSl Tryz.underlying37 rfl rfl) ?_
     refine W_q (i := 3) rfl rfl rfl (q_int rfl rfl (v := .bool false) (by rw [hol]; rfl)) ?_
     refine wm (i := 4) rfl rfl rfl rfl ?_
     refine wm (i := 5) rfl rfl rfl rfl ?_
     refine W_call (i := 6) rfl rfl rfl rfl rfl rfl pf_17 (s_resting (ye.osa [] Sl.nilS)) aC ?_
     rintro _ _ ⟨rfl, rfl⟩
     rw [show (ye.osa [] Sl.nilS).b.stops = none from He.st]
     refine W_q (i := 7) rfl rfl rfl (q_not rfl) ?_
     refine W_q (i := 8) rfl rfl rfl (q_pickF rfl rfl) ?_
     refine wm (i := 9) rfl rfl rfl rfl ?_
     refine wm (i := 10) rfl rfl rfl rfl ?_
     refine W_call (i := 11) rfl rfl rfl rfl rfl rfl pf_18 (s_gen (ye.osa [] Sl.nilS)) aC ?_
     rintro _ _ ⟨rfl, rfl⟩
     rw [show (ye.osa [] Sl.nilS).gen = 0 from He.gen]
     refine W_q (i := 12) rfl rfl rfl (q_int rfl rfl rfl) ?_
     refine W_q (i := 13) rfl rfl rfl (q_pickF rfl rfl) ?_
     refine W_nil ?_
     refine N_seq ?_
     refine C_condF rfl ?_
     refine C_skip ?_
     refine N_seq ?_
     refine C_region ?_
     refine W_q (i := 0) rfl rfl rfl (q_add rfl rfl (r := (t : Int) + 1) (by simp [IntKind.wrap, IntKind.bits, IntKind.signed]; omega)) ?_
     refine wm (i := 1) rfl rfl rfl rfl ?_
     refine W_nil ?_
     exact fun a w ha hk => ⟨⟨(t + 1, ye.osa [] Sl.nilS), by dsimp only; omega, hoe.osn, hbe, by dsimp only; exact held_take He⟩, by dsimp only; omega, ha.sub aS, hk.take aT⟩
   ·
    try simp only [CL] at ht69
    refine C_exit ?_
    refine N_seq ?_
    refine C_seq ?_
    refine C_region ?_
    refine wa (i := 0) rfl rfl rfl rfl ?_
    refine W_nil ?_
    refine N_seq ?_
    refine C_ret fun a w ha hk => ?_
    exact R_val (e := .ret) (.inl rfl) ha.defers (res1 ha rfl rfl) (hR _ _ _ ⟨rfl, rfl⟩ (hk.take aT))
end Go.SL
namespace Go.Proofs.YtflfaeedkkiaeaaGreatDoor
open Go.ChangeShapes Go.WideShapes Go.ChangeAt Go.RowKit Go.SL
set_option maxRecDepth 100000
theorem own : ownKnob Tryz.prog.godebug = none := by kernel_rfl
theorem gTab : Tryz.prog.globalNamed "math/bits.deBruijn32tab" = some 0 := by kernel_rfl
theorem gTabType : (Tryz.prog.globals[0]?).map (·.type) = some 238 := by kernel_rfl
theorem cells238 : Tryz.prog.cellsOf 238 = 32 := by kernel_rfl
theorem cells5 : Tryz.prog.cellsOf 5 = 1 := by kernel_rfl
theorem table {W : World} (h : laidMetH Tryz.prog Rows.brainHoldRow.laid W) : Lib.TabIs Tryz.prog W "math/bits.deBruijn32tab" .u8 (tzTab.map fun (t : Nat) => (t : Int)) :=
  Lib.tabIs_of_head (rest := []) gTab gTabType Tryz.underlying238 Tryz.underlying5 cells5 cells238 h
/-- the table's block, as the kit of the walks wants it -/
theorem tab_block {W : World} (h : laidMetH Tryz.prog Rows.brainHoldRow.laid W) : ∃ o, W.heap[0]? = some o ∧ ∃ cs T fr, o = .cells cs T fr ∧ ∀ i, i < 32 → cs[i]? = tzVals[i]? := by
  have hc : ∀ i, i < 32 → W.cell? ⟨0, i, none⟩ = tzVals[i]? := by
    intro i hi
    have h1 := (table h).cell gTab i (by simpa [tzTab] using hi)
    rw [h1]
    have hl : i < tzTab.length := by simpa [tzTab] using hi
    simp [tzVals, List.getD, List.getElem?_map, List.getElem?_eq_getElem hl]
  have h0 := hc 0 (by decide)
  unfold World.cell? at h0
  split at h0
  · rename_i c T fr ho
    refine ⟨_, ho, c, T, fr, rfl, fun i hi => ?_⟩
    have := hc i hi
    simpa [World.cell?, show W.heap[0]? = _ from ho] using this
  · simp [tzVals, tzTab] at h0
/-- whatever was there, but the table's block -/
def oldKB (W : World) : KB := ((List.range W.heap.size).filter (· ≠ 0)).map fun b => (b, fun o => W.heap[b]? = some o)
theorem mem_old {W : World} {b : Nat} (h0 : b ≠ 0) (hb : b < W.heap.size) : (b, fun o => W.heap[b]? = some o) ∈ oldKB W :=
  List.mem_map.2 ⟨b, by simp [hb, h0], rfl⟩
theorem knows_old [Bs] {W : World} (hos : W.os = Bs.os) (hout : W.output = Bs.out) (h0 : W.heap[0]? = some Bs.tab) : Knows W (oldKB W ++ TZ) := by
  refine ⟨⟨?_, ?_⟩, hos, hout⟩
  · have e : (oldKB W ++ TZ).map (·.1) = ((List.range W.heap.size).filter (· ≠ 0)) ++ [0] := by simp [oldKB, TZ, List.map_map, Function.comp_def]
    rw [e, List.nodup_append]
    refine ⟨List.nodup_range.filter _, by simp, ?_⟩
    intro a ha b hb
    simp at ha hb
    omega
  · intro p hp
    rcases List.mem_append.1 hp with hp | hp
    · obtain ⟨b, hb, rfl⟩ := List.mem_map.1 hp
      have hb2 : b < W.heap.size := by simp at hb; exact hb.1
      exact ⟨W.heap[b], Array.getElem?_eq_getElem hb2, Array.getElem?_eq_getElem hb2⟩
    · simp only [TZ, List.mem_singleton] at hp
      subst hp
      exact ⟨Bs.tab, h0, rfl⟩
theorem old_same [Bs] {W W' : World} (h0 : W.heap[0]? = some Bs.tab) (hk : Knows W' (oldKB W ++ TZ)) : ∀ i, i < W.heap.size → W'.heap[i]? = W.heap[i]? := by
  intro i hi
  by_cases hz : i = 0
  · subst hz
    obtain ⟨o, h1, h2⟩ := hk.has (0, fun o => o = Bs.tab) (List.mem_append_right _ (.head _))
    dsimp only at h1 h2
    rw [h1, h2, h0]
  · obtain ⟨o, h1, h2⟩ := hk.has _ (List.mem_append_left _ (mem_old hz hi))
    dsimp only at h1 h2
    rw [h1, h2]
theorem kept_of {W W' : World} {may : MemPlace → Prop} (hos : W'.os = W.os) (hout : W'.output = W.output) (hold : ∀ i, i < W.heap.size → W'.heap[i]? = W.heap[i]?) : W.keptBut W' may := by
  refine ⟨hos, hout, fun i hi => ?_⟩
  rw [hold i hi]
  split <;> simp_all
theorem cell_old {W W' : World} (hold : ∀ i, i < W.heap.size → W'.heap[i]? = W.heap[i]?) {a : Addr} {v : Value} (h : W.cell? a = some v) : W'.cell? a = some v := by
  have hb : a.block < W.heap.size := by
    unfold World.cell? at h
    split at h
    · rename_i ho; exact (Array.getElem?_eq_some_iff.1 ho).1
    · cases h
  unfold World.cell? at h ⊢
  rw [hold _ hb]; exact h
/-- 'post_of_same', where what is frozen is asked of the old blocks alone -/
theorem post_of_old {H : Type} {enc : TypeId × Value → H} {P : Program} {f : Func} {s : ChangeSpec} {apart fresh handsOn again : Bool} {W W' : World} {args : Array Value} {v : Value} {ds gs : List (DataW H)} {before pa pv : List MemPlace}
    (hW : DataW.Whole enc P f.params.toList s.vars apart W args.toList ds gs before)
    (hres : ∀ (b : Nat) (sp : Nat → Bool) (hd : Bool), DataW.TrodAll enc P W' b sp hd f.resultTypes.toList (v.resultList f.resultTypes.size) (s.fn H (ds ++ gs)).results [])
    (hargs : ∀ sp : Nat → Bool, (∀ p ∈ before, sp p.block = true) → DataW.TrodAll enc P W' 0 sp true f.params.toList args.toList (s.fn H (ds ++ gs)).args pa)
    (hvars : ∀ sp : Nat → Bool, (∀ p ∈ before, sp p.block = true) → DataW.TrodVars enc P W' sp s.vars (s.fn H (ds ++ gs)).vars pv)
    (hps : before = pa ++ pv) (hos : W'.os = W.os) (hout : W'.output = W.output) (hold : ∀ i, i < W.heap.size → W'.heap[i]? = W.heap[i]?)
    (hok : ∀ (j : Nat) (t : TypeId) (r : Value), f.resultTypes[j]? = some t → (v.resultList f.resultTypes.size)[j]? = some r → Value.okWide P W' .any 0 t r) :
    s.post enc P f apart fresh handsOn again W args v W' := by
  have hlt : ∀ p ∈ before, p.block < W.heap.size := fun p hp => hW.lt p hp
  have hsp : ∀ p ∈ before, (fun b => decide (b < W.heap.size)) p.block = true := fun p hp => by simpa using hlt p hp
  refine ⟨ds, gs, before, [], pa, pv, hW, hres _ _ _, hargs _ hsp, hvars _ hsp, World.keptBut_mono (fun p hp => ⟨hp, ?_⟩) (kept_of (may := (· ∈ before)) hos hout hold), fun _ => ?_⟩
  · rw [hps, List.mem_append] at hp
    exact Or.inr hp
  · obtain ⟨_, _, _, _, _, hz, hn⟩ := hW
    refine ⟨hok, _, _, ([] ++ pa) ++ pv, ⟨[] ++ pa, pv, trodAll_append (hargs _ (fun _ _ => rfl)) (hres _ _ _), hvars _ (fun _ _ => rfl), rfl, ?_, ?_⟩, ?_⟩
    · intro b off hp
      have hp' : MemPlace.cell b off ∈ before := by rw [hps]; simpa using hp
      have := hz b off hp'
      unfold World.frozen? at this ⊢
      rw [hold b (hlt _ hp')]; exact this
    · intro ha
      have := hn ha
      rw [hps] at this
      simpa using this
    · intro p hp _
      rw [hps]
      simpa using hp
/-- a slice of bytes that came in -/
theorem argS_of [Bs] {W : World} (h0 : W.heap[0]? = some Bs.tab) {a : Addr} {len cap : Nat} {zs : List Int} (hl : len ≤ cap) (hm : cap ≤ maxLen) (hz : zs.length = cap) (hc : ∀ i, i < zs.length → W.cell? (a.add i) = some (.int .u8 (zs.getD i 0)))
    (hw : ∀ n ∈ zs, (Lit.int .u8 n).wf = true) : ArgS (oldKB W ++ TZ) (some a) (zs.take len) ∧ (zs.take len).length = len := by
  have hlen : (zs.take len).length = len := by simp [hz, hl]
  refine ⟨⟨?_, ?_, ?_⟩, hlen⟩
  · rw [hlen]; exact Nat.le_trans hl (Nat.le_trans hm (by decide))
  · intro x hx
    have := hw x (List.mem_of_mem_take hx)
    simp only [Lit.wf, Bool.and_eq_true, decide_eq_true_eq] at this
    simp [IntKind.min, IntKind.max, IntKind.bits, IntKind.signed] at this
    omega
  · intro i x hx
    have hi : i < len := by rw [← hlen]; exact (List.getElem?_eq_some_iff.1 hx).1
    have hx2 : zs[i]? = some x := by rw [List.getElem?_take_of_lt hi] at hx; exact hx
    have h1 := hc 0 (by omega)
    have hspot : a.spot = none := by
      have := World.cell?_spot h1
      simpa [Addr.add] using this
    obtain ⟨b, off, sp⟩ := a
    dsimp only at hspot
    subst hspot
    have h2 := hc i (by omega)
    have hadd : Addr.add ⟨b, off, none⟩ i = ⟨b, off + i, none⟩ := by unfold Addr.add; split <;> simp_all
    rw [hadd, show zs.getD i 0 = x from by simp [List.getD, hx2]] at h2
    have hcell := h2
    unfold World.cell? at h2
    split at h2
    · rename_i c T fr ho
      dsimp only at ho
      by_cases hb : b = 0
      · subst hb
        refine ⟨0, off, _, rfl, List.mem_append_right _ (.head _), ?_⟩
        rintro o rfl
        rw [h0] at ho
        exact ⟨c, T, fr, Option.some.inj ho, by simpa using h2⟩
      · refine ⟨b, off, _, rfl, List.mem_append_left _ (mem_old hb (Array.getElem?_eq_some_iff.1 ho).1), ?_⟩
        intro o h3
        rw [ho] at h3
        exact ⟨c, T, fr, (Option.some.inj h3).symm, by simpa using h2⟩
    · cases h2
theorem argS_nil [Bs] (W : World) : ArgS (oldKB W ++ TZ) none [] := ⟨by decide, (fun _ h => by cases h), (fun _ _ h => by cases h)⟩
/-- what an argument of bytes is: how it is read now, and again behind the call -/
theorem bytes_arg [Bs] {H : Type} {enc : TypeId × Value → H} {W : World} (h0 : W.heap[0]? = some Bs.tab) {base : Nat} {v : Value} {d : DataW H} {p : List MemPlace} (hv : Value.okWide Tryz.prog W .any base 22 v) (hT : DataW.Trod enc Tryz.prog W 0 (fun _ => true) true 22 v d p) :
    ∃ (a : Option Addr) (xs : List Int) (c : Nat), v = .slice a xs.length c ∧ ArgS (oldKB W ++ TZ) a xs ∧ ∀ (W' : World) (sp : Nat → Bool), (∀ i, i < W.heap.size → W'.heap[i]? = W.heap[i]?) → (∀ q ∈ p, sp q.block = true) → DataW.Trod enc Tryz.prog W' 0 sp true 22 v d p := by
  obtain ⟨a0, len, cap, rfl⟩ := okWide_slice Tryz.underlying22 hv
  obtain ⟨fuel, hf⟩ := hT
  rcases open_ints Tryz.underlying22 Tryz.underlying5 cells5 hf with ⟨hcs, hx⟩ | ⟨a, len', cap', zs, hcs, _, hl, hm, hz, hx, hcell, hwz⟩
  · simp [Value.cells] at hcs
    obtain ⟨rfl, rfl, rfl⟩ := hcs
    simp only [Prod.mk.injEq] at hx
    obtain ⟨rfl, rfl⟩ := hx
    exact ⟨none, [], 0, rfl, argS_nil W, fun W' sp _ _ => shut_slice_nil Tryz.underlying22⟩
  · simp [Value.cells] at hcs
    obtain ⟨rfl, rfl, rfl⟩ := hcs
    simp only [Prod.mk.injEq] at hx
    obtain ⟨rfl, rfl⟩ := hx
    simp only [if_true] at hz
    obtain ⟨hA, hlen⟩ := argS_of h0 hl hm hz hcell hwz
    refine ⟨some a, zs.take len, cap, by rw [hlen], hA, fun W' sp hold hsp => ⟨2, ?_⟩⟩
    refine shut_ints 0 Tryz.underlying22 Tryz.underlying5 cells5 (Nat.zero_le _) hl hm ?_ (fun i hi => cell_old hold (hcell i hi)) hwz
    by_cases hc : cap = 0
    · subst hc
      have : len = 0 := by omega
      rw [hz, this]; simp
    · have hb : sp a.block = true := by
        have := hsp (.cell a.block (a.off + 0)) (by
          unfold MemPlace.row
          exact List.mem_map.2 ⟨0, by rw [List.mem_range, hz]; omega, rfl⟩)
        exact this
      rw [hb, if_pos rfl]; exact hz
set_option maxRecDepth 100000 in
theorem contract (H : Type) (enc : TypeId × Value → H) (W : World) (base : Nat) (args : Array Value) (ds gs : List (DataW H)) (before : List MemPlace)
    (hval : ∀ (j : Nat) t v, Tryz.f3.params[j]? = some t → args[j]? = some v → Value.okWide Tryz.prog W .any base t v)
    (hW : DataW.Whole enc Tryz.prog Tryz.f3.params.toList Rows.brainHoldSpec.vars false W args.toList ds gs before) (hL : laidMetH Tryz.prog Rows.brainHoldRow.laid W) :
    Calls Tryz.prog 3 args W fun e W' => ∃ v, e = .returned v ∧ Rows.brainHoldSpec.post enc Tryz.prog Tryz.f3 false true false false W args v W' := by
  have hW' := hW
  obtain ⟨p, q, hA0, hV, rfl, hfz, hnd⟩ := hW
  have hA : DataW.TrodAll enc Tryz.prog W 0 (fun _ => true) true Tryz.f3.params.toList args.toList ds p := hA0
  rw [Tryz.params3] at hA hval
  obtain ⟨v1, vs1, d1, ds1, p1, q1, e1, rfl, rfl, h1, r1⟩ := trodAll_cons hA
  obtain ⟨v2, vs2, d2, ds2, p2, q2, rfl, rfl, rfl, h2, r2⟩ := trodAll_cons r1
  obtain ⟨v3, vs3, d3, ds3, p3, q3, rfl, rfl, rfl, h3, r3⟩ := trodAll_cons r2
  obtain ⟨v4, vs4, d4, ds4, p4, q4, rfl, rfl, rfl, h4, r4⟩ := trodAll_cons r3
  obtain ⟨v5, vs5, d5, ds5, p5, q5, rfl, rfl, rfl, h5, r5⟩ := trodAll_cons r4
  obtain ⟨rfl, rfl, rfl⟩ := trodAll_nil r5
  obtain rfl : args = #[v1, v2, v3, v4, v5] := by cases args; simp_all
  obtain ⟨rfl, rfl⟩ := trodVars_none hV
  obtain ⟨n, rfl, rfl, rfl, hn⟩ := open_int Tryz.underlying5 (hval 0 5 v1 rfl rfl) h1
  obtain ⟨r, rfl, rfl, rfl, hr⟩ := open_int Tryz.underlying5 (hval 1 5 v2 rfl rfl) h2
  obtain ⟨h, rfl, rfl, rfl, hh⟩ := open_int Tryz.underlying5 (hval 2 5 v3 rfl rfl) h3
  obtain ⟨o, ho, hot⟩ := tab_block hL
  let _ : Bs := ⟨W.os, W.output, o, hot⟩
  have ho' : W.heap[0]? = some Bs.tab := ho
  obtain ⟨ja, js, jc, rfl, hj, hj2⟩ := bytes_arg ho' (hval 3 22 v4 rfl rfl) h4
  obtain ⟨la, ls, lc, rfl, hl, hl2⟩ := bytes_arg ho' (hval 4 22 v5 rfl rfl) h5
  clear hA0 hA
  have u8 : ∀ {n : Int}, (Lit.int .u8 n).wf = true → 0 ≤ n ∧ n < 256 := by
    intro n hn
    simp only [Lit.wf, Bool.and_eq_true, decide_eq_true_eq] at hn
    simp [IntKind.min, IntKind.max, IntKind.bits, IntKind.signed] at hn
    omega
  have hk : Knows W ((oldKB W ++ TZ) ++ []) := by rw [List.append_nil]; exact knows_old rfl rfl ho'
  refine (s_hold (oldKB W) n r h (u8 hn) (u8 hr) (u8 hh) ja la jc lc js ls hj hl [] W hk).mono fun e W' he => ?_
  cases e with
  | panicked c => exact he.elim
  | outgrown => exact he.elim
  | returned v =>
    obtain ⟨K', ⟨rfl, rfl⟩, hk'⟩ := he
    rw [List.append_nil] at hk'
    have hold := old_same ho' hk'
    refine ⟨_, rfl, post_of_old (pa := p4 ++ p5) (pv := []) hW' (fun _ _ _ => trodAll_cons_mk (shut_bool Tryz.underlying4 _) trodAll_mk0) (fun sp hsp => ?_) (fun _ _ => rfl) (by simp) hk'.base.1 hk'.base.2 hold (ok_one (by kernel_rfl) rfl (okWide_bool_mk Tryz.underlying4 _))⟩
    have := trodAll_cons_mk (enc := enc) (P := Tryz.prog) (w := W') (base := 0) (spare := sp) (held := true) (shut_int Tryz.underlying5 hn) (trodAll_cons_mk (shut_int Tryz.underlying5 hr) (trodAll_cons_mk (shut_int Tryz.underlying5 hh) (trodAll_cons_mk (hj2 W' sp hold (fun q hq => hsp q (by simp [hq]))) (trodAll_cons_mk (hl2 W' sp hold (fun q hq => hsp q (by simp [hq]))) trodAll_mk0))))
    simp only [List.nil_append, List.append_nil] at this
    exact this
end Go.Proofs.YtflfaeedkkiaeaaGreatDoor
namespace Go.Proofs.YtflfaeedkkiaeaaGreatDoor
open Go.ChangeShapes Go.WideShapes Go.ChangeAt Go.RowKit Go.SL
set_option maxRecDepth 100000
/-- a world for the witness: the table (block 0) holds what its initialiser lays -/
noncomputable def laidWorld (os : Os) : World :=
  { World.holding Tryz.prog os ⟨#[], #[], []⟩ with heap := (World.holding Tryz.prog os ⟨#[], #[], []⟩).heap.modify 0 fun
      | .cells _ t frozen => .cells #[.int .u8 0, .int .u8 1, .int .u8 28, .int .u8 2, .int .u8 29, .int .u8 14, .int .u8 24, .int .u8 3, .int .u8 30, .int .u8 22, .int .u8 20, .int .u8 15, .int .u8 25, .int .u8 17, .int .u8 4, .int .u8 8, .int .u8 31, .int .u8 27, .int .u8 13, .int .u8 23, .int .u8 21, .int .u8 19, .int .u8 16, .int .u8 7, .int .u8 26, .int .u8 12, .int .u8 18, .int .u8 6, .int .u8 11, .int .u8 5, .int .u8 10, .int .u8 9] t frozen
      | o => o }
noncomputable def wargs : Array Value := #[.int .u8 0, .int .u8 0, .int .u8 0, .slice none 0 0, .slice none 0 0]
theorem laid_met (os : Os) : laidMet Tryz.prog Rows.brainHoldRow.laid ((laidWorld os).forCall (fun _ _ => 0) ⟨#[], wargs, []⟩).memory :=
  laidMet_of_run' 8 (by kernel_rfl) (by kernel_rfl)
theorem reads (os : Os) {H : Type} (enc : TypeId × Value → H) : ∃ places, DataW.whole enc Tryz.prog ((laidWorld os).forCall (fun _ _ => 0) ⟨#[], wargs, []⟩).memory Tryz.f3.params.toList Rows.brainHoldSpec.vars false wargs.toList 8 = some ([.lit (.int .u8 0), .lit (.int .u8 0), .lit (.int .u8 0), .nil, .nil], [], places) :=
  ⟨[], by kernel_rfl⟩
theorem lifted (os : Os) (started : os.Started) (H : Type) (enc : TypeId × Value → H) (F : Stop.Interp) :
    ReturnsInHanded {} Tryz.checked os 3 .any ((OpenSpec.ofChange Rows.brainHoldSpec).preRow enc Tryz.prog Tryz.f3 Rows.brainHoldRow.domain false Rows.brainHoldRow.laid) (((OpenSpec.ofChange Rows.brainHoldSpec).at F).post enc Tryz.prog Tryz.f3 false true false false) := by
  obtain ⟨places, hx⟩ := reads os enc
  refine returnsInHanded_of_row (C := Tryz.checked) (s := OpenSpec.ofChange Rows.brainHoldSpec) own started (by kernel_rfl) Tryz.func3
    (witness_row_at (enc := enc) (C := Tryz.checked) false (laidWorld os) wargs rfl (by kernel_rfl) (by kernel_rfl) (by kernel_rfl)
      (OpenSpec.preRow_of_cond 8 hx (by kernel_rfl) (fun k hk => by cases hk) (by kernel_rfl) (laid_met os))) ?_
  intro W base args ds gs before hval hW _ _ _ hL _ _
  exact contract H enc W base args ds gs before hval hW hL
theorem said : Rows.BrainHoldSaid :=
  OpenClaim.holds_of_cond 3 Tryz.f3 rfl rfl rfl rfl rfl rfl rfl ⟨rfl, rfl, rfl, rfl, rfl⟩ rfl rfl rfl rfl rfl (by kernel_rfl) Tryz.func3 (by kernel_rfl)
    (of_decide_eq_true (by kernel_rfl)) (by unfold Func.isWrapper; first | (rw [if_pos (by decide +kernel)]; kernel_rfl) | (rw [if_neg (by decide +kernel)]; exact ⟨rfl, rfl⟩))
    (fun os started H enc _ F => by rw [OpenClaim.pre_eq_preRow]; exact lifted os started H enc F)
theorem plain (f : FuncId) (fn : Func) (hf : Tryz.pinned.checked.prog.funcNamed "quadrille/quadrillelaw19.BrainHold" = some f) (hfn : Tryz.pinned.checked.prog.funcs[f]? = some fn) :
    true = Tryz.pinned.checked.prog.looks [] ∧ ∀ (j : Nat) t, fn.params[j]? = some t → Tryz.pinned.checked.prog.wantsStandIn t = false := by
  obtain rfl : f = 3 := Option.some.inj ((show Tryz.prog.funcNamed "quadrille/quadrillelaw19.BrainHold" = some 3 by kernel_rfl).symm.trans hf) |>.symm
  obtain rfl : fn = Tryz.f3 := (Option.some.inj (Tryz.func3.symm.trans hfn)).symm
  refine ⟨by kernel_rfl, fun j t ht => ?_⟩
  rw [Tryz.params3] at ht
  have h5 : t = 5 ∨ t = 22 := by
    have := Array.mem_of_getElem? ht
    simpa using this
  rcases h5 with rfl | rfl
  · exact (show Tryz.prog.wantsStandIn 5 = false by kernel_rfl)
  · exact (show Tryz.prog.wantsStandIn 22 = false by kernel_rfl)
/-- whatever comes, nothing is ordered up to the tick to which a brain holds: the tied card -/
theorem holds : Rows.BrainHoldCardSaid :=
  Claim7.holds_tied_plain_at .later [] _ _ _ _ said (fun _ h => by cases h) (by kernel_rfl) (fun _ h => by cases h) brainHold_row_tie rfl ⟨rfl, rfl⟩ (by kernel_rfl) rfl plain (by kernel_rfl)
#print axioms holds
end Go.Proofs.YtflfaeedkkiaeaaGreatDoor
