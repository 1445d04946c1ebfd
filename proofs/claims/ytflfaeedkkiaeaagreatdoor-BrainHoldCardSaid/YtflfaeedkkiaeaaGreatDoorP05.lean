/- A part of the proof of the given statement BrainHold: the layer over the kit in which the walks are written, and contracts of the program's functions (a Go function answers as its plain model does). -/
import Derived.Test.YtflfaeedkkiaeaaGreatDoorP04
namespace Go.SL
open Go Go.Proofs
set_option maxRecDepth 10000
structure PIt where
  id : Int
  tier : Int
  since : Int
  deriving Inhabited
def itemV (x : PIt) : List Value := [.int .u32 x.id, .int .u8 x.tier, .int .u32 x.since]
theorem itemV_len (x : PIt) : (itemV x).length = 3 := rfl
theorem itemV_one (x : PIt) : (itemV x).all oneC = true := rfl
def itemLt (a b : PIt) : Bool := decide (b.tier < a.tier) || (decide (a.tier = b.tier) && (decide (a.since < b.since) || (decide (a.since = b.since) && decide (a.id < b.id))))
def intV (x : Int) : Value := .int .i64 x
structure HpA where
  list : List PIt
  am : List (Int × Int)
  blk : Nat
  ab : Nat
  sl : Sl
def HpA.ptr (h : HpA) : Value := .pointer (some ⟨h.blk, 0, none⟩)
def HpA.kb (h : HpA) : KB := (h.blk, Cells [h.sl.val, .map (some h.ab)] 219) :: (h.ab, MapI .u32 (mapV intV h.am)) :: h.sl.kb (flat itemV h.list) 3 183
theorem HpA.kb_eq (h : HpA) : h.kb = (h.blk, Cells [h.sl.val, .map (some h.ab)] 219) :: (h.ab, MapI .u32 (mapV intV h.am)) :: h.sl.kb (flat itemV h.list) 3 183 := rfl
structure HpA.Ok (h : HpA) : Prop where
  sl : h.sl.Ok (flat itemV h.list) 3
  len : h.list.length ≤ 12
  keys : ∀ k v, Qd.lookA h.am k = some v → ∃ x ∈ h.list, x.id = k
theorem order3 (a b c : Int) : (([a, b, c].find? (fun x => x != 0)).getD 0 < 0) ↔ (a < 0 ∨ (a = 0 ∧ (b < 0 ∨ (b = 0 ∧ c < 0)))) := by
  by_cases ha : a = 0
  · subst ha
    by_cases hb : b = 0
    · subst hb
      by_cases hc : c = 0
      · subst hc; simp
      · simp [hc]
    · simp [hb]
  · simp [ha]
theorem lk_int (m : List (Int × Int)) (k : Int) : (lookI (mapV intV m) k).getD (.int .i64 0) = .int .i64 ((Qd.lookA m k).getD 0) := by rw [lookI_mapV]; cases Qd.lookA m k <;> rfl
theorem lk_intb (m : List (Int × Int)) (k : Int) : (lookI (mapV intV m) k).isSome = (Qd.lookA m k).isSome := by rw [lookI_mapV]; simp
theorem swoItem : Sort.SWO itemLt := ⟨by intro a; simp [itemLt], by intro a b c; simp only [itemLt, Bool.or_eq_true, Bool.and_eq_true, decide_eq_true_eq]; omega, by intro a b c; simp only [itemLt, Bool.or_eq_false_iff, Bool.and_eq_false_iff, decide_eq_false_iff_not]; omega⟩
theorem ag_184 : aggB Tryz.prog 184 = some false := by kernel_rfl
theorem ag_44 : aggB Tryz.prog 44 = some false := by kernel_rfl
theorem fb_183_0 : fieldB Tryz.prog 183 0 = some 0 := by kernel_rfl
theorem fb_183_1 : fieldB Tryz.prog 183 1 = some 1 := by kernel_rfl
theorem fb_183_2 : fieldB Tryz.prog 183 2 = some 2 := by kernel_rfl
theorem fb_217_0 : fieldB Tryz.prog 217 0 = some 0 := by kernel_rfl
theorem fb_217_1 : fieldB Tryz.prog 217 1 = some 1 := by kernel_rfl
theorem fb_219_0 : fieldB Tryz.prog 219 0 = some 0 := by kernel_rfl
theorem if_183_Pr1 : isIface Tryz.prog 183 = false := by kernel_rfl
theorem if_221_Pr1 : isIface Tryz.prog 221 = false := by kernel_rfl
theorem inf_183 : infoB Tryz.prog 183 = some (some (Go.Value.agg #[Go.Value.int (Go.IntKind.u32) 0, Go.Value.int (Go.IntKind.u8) 0, Go.Value.int (Go.IntKind.u32) 0]), 3, 12) := by kernel_rfl
theorem pf_139 : plainFn Tryz.prog 139 = true := by kernel_rfl
theorem pf_140 : plainFn Tryz.prog 140 = true := by kernel_rfl
theorem pf_141 : plainFn Tryz.prog 141 = true := by kernel_rfl
theorem pf_142 : plainFn Tryz.prog 142 = true := by kernel_rfl
theorem pf_143 : plainFn Tryz.prog 143 = true := by kernel_rfl
theorem pf_167 : plainFn Tryz.prog 167 = true := by kernel_rfl
theorem pf_168 : plainFn Tryz.prog 168 = true := by kernel_rfl
theorem pf_170 : plainFn Tryz.prog 170 = true := by kernel_rfl
theorem pf_171 : plainFn Tryz.prog 171 = true := by kernel_rfl
theorem ps_217 : placesB Tryz.prog 217 = some #[(0, 1), (1, 1)] := by kernel_rfl
theorem ps_219 : placesB Tryz.prog 219 = some #[(0, 2)] := by kernel_rfl
theorem sz_184 : sizeB Tryz.prog 184 = some 1 := by kernel_rfl
theorem zf_183 : zeroB Tryz.prog 183 = some (Go.Value.agg #[Go.Value.int (Go.IntKind.u32) 0, Go.Value.int (Go.IntKind.u8) 0, Go.Value.int (Go.IntKind.u32) 0]) := by kernel_rfl
theorem zf_217 : zeroB Tryz.prog 217 = some (Go.Value.agg #[Go.Value.slice none 0 0, Go.Value.map none]) := by kernel_rfl
theorem zf_219 : zeroB Tryz.prog 219 = some (Go.Value.agg #[Go.Value.slice none 0 0, Go.Value.map none]) := by kernel_rfl
theorem m_Push (v x : Value) (w : World) : (callMethod (.iface 221 v) "Push" [x].toArray).run Tryz.prog w = .ok (.enter 270 [v, x].toArray) w := by kernel_rfl
theorem m_Len (v : Value) (w : World) : (callMethod (.iface 221 v) "Len" [].toArray).run Tryz.prog w = .ok (.enter 268 [v].toArray) w := by kernel_rfl
set_option maxHeartbeats 2000000 in
theorem s_pnew [Bs] : Spec Tryz.prog 108 [] ([]) (fun v K' => ∃ h : HpA, v = h.ptr ∧ h.list = [] ∧ h.am = [] ∧ h.Ok ∧ K' = h.kb) := by
 refine spec_body Tryz.func108 rfl rfl fun F R hR => ?_
 try simp only [NL]
 refine C_seq ?_
 refine C_region ?_
 refine wa (i := 0) rfl rfl rfl rfl ?_
 refine W_nil ?_
 refine N_seq ?_
 refine C_seq ?_
 refine C_region ?_
 refine W_e (i := 0) rfl rfl rfl (e_makeMap .u32) ?_
 intro b1
 refine W_q (i := 1) rfl rfl rfl (q_build (vs := [(1, .map (some b1))]) (cs := #[.slice none 0 0, .map (some b1)]) ps_217 zf_217 rfl (by simp [Instr.fill, Value.cells])) ?_
 refine W_q (i := 2) rfl rfl rfl (q_build (vs := [(0, .agg #[.slice none 0 0, .map (some b1)])]) (cs := #[.slice none 0 0, .map (some b1)]) ps_219 zf_219 rfl (by simp [Instr.fill, Value.cells])) ?_
 refine W_e (i := 3) rfl rfl rfl (e_box rfl) ?_
 intro b4
 refine wa (i := 4) rfl rfl rfl rfl ?_
 refine W_nil ?_
 refine N_seq ?_
 refine C_ret fun a w ha hk => ?_
 exact R_val (e := .ret) (.inl rfl) ha.defers (res1 ha rfl rfl) (hR _ _ _ ⟨⟨[], [], b4, b1, Sl.nilS⟩, rfl, rfl, rfl, ⟨Sl.nil_ok 3, Nat.zero_le _, by intro k v h; cases h⟩, rfl⟩ (hk.take (by (try simp only [HpA.kb_eq, nilS_kb, mapV_nil]); exact aT)))
set_option maxHeartbeats 2000000 in
theorem s_pwhere [Bs] (h : HpA) (k : Int) : Spec Tryz.prog 167 [h.ptr, .int .u32 k] (h.kb) (fun v K' => v = .tuple #[.int .i64 ((Qd.lookA h.am k).getD 0), .bool (Qd.lookA h.am k).isSome] ∧ K' = h.kb) := by
 refine spec_body Tryz.func167 rfl rfl fun F R hR => ?_
 try simp only [NL]
 refine C_seq ?_
 refine C_region ?_
 refine wa (i := 0) rfl rfl rfl rfl ?_
 refine wa (i := 1) rfl rfl rfl rfl ?_
 refine W_nil ?_
 refine N_seq ?_
 refine C_seq ?_
 refine C_seq ?_
 refine C_region ?_
 refine wm (i := 0) rfl rfl rfl rfl ?_
 refine W_q (i := 1) rfl rfl rfl (q_eqPtrNil Tryz.underlying179 rfl rfl) ?_
 refine W_nil ?_
 refine N_seq ?_
 refine C_condF rfl ?_
 refine C_skip ?_
 refine N_seq ?_
 refine C_seq ?_
 refine C_region ?_
 refine wm (i := 0) rfl rfl rfl rfl ?_
 refine wc (i := 1) rfl rfl rfl rfl ?_
 refine W_q (i := 2) rfl rfl rfl (q_fieldAddr fb_219_0 rfl rfl) ?_
 refine W_q (i := 3) rfl rfl rfl (q_fieldAddr fb_217_1 rfl rfl) ?_
 refine W_q (i := 4) rfl rfl rfl (q_load ag_44 rfl aP rfl) ?_
 refine wm (i := 5) rfl rfl rfl rfl ?_
 refine W_q (i := 6) rfl rfl rfl (q_lookup2 Tryz.underlying44 Tryz.underlying31 zf_3 rfl rfl (MapAt.of aP) (lk_int _ _) (lk_intb _ _)) ?_
 refine wm (i := 7) rfl rfl rfl rfl ?_
 refine W_q (i := 8) rfl rfl rfl (q_extract rfl rfl) ?_
 refine W_q (i := 9) rfl rfl rfl (q_extract rfl rfl) ?_
 refine wa (i := 10) rfl rfl rfl rfl ?_
 refine wa (i := 11) rfl rfl rfl rfl ?_
 refine W_nil ?_
 refine N_seq ?_
 refine C_seq ?_
 refine C_region ?_
 refine wm (i := 0) rfl rfl rfl rfl ?_
 refine wm (i := 1) rfl rfl rfl rfl ?_
 refine wa (i := 2) rfl rfl rfl rfl ?_
 refine wa (i := 3) rfl rfl rfl rfl ?_
 refine W_nil ?_
 refine N_seq ?_
 refine C_ret fun a w ha hk => ?_
 exact R_val (e := .ret) (.inl rfl) ha.defers (res2 ha rfl rfl rfl) (hR _ _ _ ⟨rfl, rfl⟩ (aK hk))
set_option maxHeartbeats 2000000 in
theorem s_phas [Bs] (h : HpA) (k : Int) : Spec Tryz.prog 139 [h.ptr, .int .u32 k] (h.kb) (fun v K' => v = .bool (Qd.lookA h.am k).isSome ∧ K' = h.kb) := by
 refine spec_body Tryz.func139 rfl rfl fun F R hR => ?_
 try simp only [NL]
 refine C_seq ?_
 refine C_region ?_
 refine wa (i := 0) rfl rfl rfl rfl ?_
 refine W_nil ?_
 refine N_seq ?_
 refine C_seq ?_
 refine C_region ?_
 refine wm (i := 0) rfl rfl rfl rfl ?_
 refine wm (i := 1) rfl rfl rfl rfl ?_
 refine W_call (i := 2) rfl rfl rfl rfl rfl rfl pf_167 (s_pwhere h _) aC ?_
 rintro _ _ ⟨rfl, rfl⟩
 refine wm (i := 3) rfl rfl rfl rfl ?_
 refine W_q (i := 4) rfl rfl rfl (q_extract rfl rfl) ?_
 refine W_q (i := 5) rfl rfl rfl (q_extract rfl rfl) ?_
 refine wa (i := 6) rfl rfl rfl rfl ?_
 refine wa (i := 7) rfl rfl rfl rfl ?_
 refine W_nil ?_
 refine N_seq ?_
 refine C_seq ?_
 refine C_region ?_
 refine wm (i := 0) rfl rfl rfl rfl ?_
 refine wa (i := 1) rfl rfl rfl rfl ?_
 refine W_nil ?_
 refine N_seq ?_
 refine C_ret fun a w ha hk => ?_
 exact R_val (e := .ret) (.inl rfl) ha.defers (res1 ha rfl rfl) (hR _ _ _ ⟨rfl, rfl⟩ (aK hk))
set_option maxHeartbeats 2000000 in
theorem s_ipush [Bs] (h : HpA) (ho : h.Ok) (x : PIt) (hb : h.list.length < 12) : Spec Tryz.prog 270 [h.ptr, .iface 183 (.agg (itemV x).toArray)] (h.kb) (fun v K' => v = .tuple #[] ∧ ∃ h' : HpA, h'.list = h.list ++ [x] ∧ h'.blk = h.blk ∧ h'.Ok ∧ K' = h'.kb) := by
 have hsl : h.sl.len = h.list.length := by have := ho.sl.vlen; rw [flat_len itemV_len] at this; omega
 refine spec_body Tryz.func270 rfl rfl fun F R hR => ?_
 try simp only [NL]
 rw [HpA.kb_eq]
 try simp only [NL]
 refine C_seq ?_
 refine C_region ?_
 refine wm (i := 0) rfl rfl rfl rfl ?_
 refine W_q (i := 1) rfl rfl rfl (q_typeAssert2 if_183_Pr1 rfl) ?_
 refine wm (i := 2) rfl rfl rfl rfl ?_
 refine W_q (i := 3) rfl rfl rfl (q_extract rfl rfl) ?_
 refine W_q (i := 4) rfl rfl rfl (q_extract rfl rfl) ?_
 refine W_e (i := 5) rfl rfl rfl (e_alloc zf_183) ?_
 intro b4
 refine W_e (i := 6) rfl rfl rfl (e_storeAgg (us := itemV x) sz_183 rfl rfl rfl rfl (by exact Upd.here) (by first | exact Nat.le_refl _ | (simp [Value.cells]; done) | (simp [Value.cells]; exact Nat.le_refl _))) ?_
 intro _
 refine wa (i := 7) rfl rfl rfl rfl ?_
 refine W_nil ?_
 refine N_seq ?_
 refine C_seq ?_
 refine C_region ?_
 refine wm (i := 0) rfl rfl rfl rfl ?_
 refine W_nil ?_
 refine N_seq ?_
 refine C_condT rfl ?_
 refine C_seq ?_
 refine C_draw (.cons 0 .pure (.cons 1 .pure (.cons 2 .pure (.cons 3 .read (.cons 4 .pure (.cons 5 .read (.cons 6 .pure (.cons 7 .pure (.cons 8 .pure (.cons 9 .read (.cons 10 .read (.cons 11 .eff .nil)))))))))))) (fun w => Knows w _) 11 mo (by kernel_rfl) (fun _ h => h) ?_
 refine D_p rfl rfl rfl (q_move rfl) ?_
 refine D_p rfl rfl rfl (q_nilCheck rfl) ?_
 refine D_p rfl rfl rfl (q_fieldAddr fb_217_1 rfl rfl) ?_
 refine D_r rfl rfl rfl (q_load ag_44 rfl aP rfl) ?_
 refine D_p rfl rfl rfl (q_fieldAddr fb_183_0 rfl rfl) ?_
 refine D_r rfl rfl rfl (q_load (v := .int .u32 x.id) ag_31 rfl aP rfl) ?_
 refine D_p rfl rfl rfl (q_move rfl) ?_
 refine D_p rfl rfl rfl (q_nilCheck rfl) ?_
 refine D_p rfl rfl rfl (q_fieldAddr fb_217_0 rfl rfl) ?_
 refine D_r rfl rfl rfl (q_load ag_184 rfl aP rfl) ?_
 refine D_r rfl rfl rfl (q_lenSl Tryz.underlying184 rfl rfl) ?_
 refine D_e rfl rfl rfl (e_mapUpdate Tryz.underlying44 Tryz.underlying31 rfl rfl (v := intV h.list.length) (by rw [← hsl]; rfl) (putI_mapV intV h.am x.id h.list.length) aU) (.inl rfl) ?_
 intro _
 refine D_nil ?_
 refine N_seq ?_
 refine C_draw (.cons 0 .pure (.cons 1 .pure (.cons 2 .pure (.cons 3 .pure (.cons 4 .read (.cons 5 .read (.cons 6 .eff (.cons 7 .eff (.cons 8 .pure (.cons 9 .pure (.cons 10 .eff .nil))))))))))) (fun w => Knows w _) 7 mo (by kernel_rfl) (fun _ h => h) ?_
 refine D_p rfl rfl rfl (q_move rfl) ?_
 refine D_p rfl rfl rfl (q_move rfl) ?_
 refine D_p rfl rfl rfl (q_nilCheck rfl) ?_
 refine D_p rfl rfl rfl (q_fieldAddr fb_217_0 rfl rfl) ?_
 refine D_r rfl rfl rfl (q_load ag_184 rfl aP rfl) ?_
 refine D_r rfl rfl rfl (q_loadAgg (us := itemV x) ag_183 sz_183 rfl aP (by exact Nat.le_of_ble_eq_true rfl) rfl) ?_
 refine D_e rfl rfl rfl (e_lit1 Tryz.underlying184 sz_183 zf_183 (by decide) rfl rfl) (.inr (fun _ _ h => h.take aT)) ?_
 intro b29
 refine D_e rfl rfl rfl (e_app1 (us := itemV x) (vs' := flat itemV (h.list ++ [x])) Tryz.underlying184 inf_183 rfl rfl rfl rfl aP aC ho.sl (by omega) (by omega) rfl rfl (flat_snoc _ _).symm) (.inl rfl) ?_
 rintro ⟨sl', hsl', hok'⟩
 refine D_p rfl rfl rfl (q_nilCheck rfl) ?_
 refine D_p rfl rfl rfl (q_fieldAddr fb_217_0 rfl rfl) ?_
 refine D_e rfl rfl rfl (e_store sz_184 rfl rfl rfl aU (by first | decide | exact Nat.le_of_ble_eq_true rfl | simp [splice, Value.cells])) (.inl rfl) ?_
 intro _
 refine D_nil ?_
 intro a w ha hk
 exact R_val (e := .normal) (.inr rfl) ha.defers (res0 rfl) (hR _ _ _ ⟨rfl, (HpA.mk (h.list ++ [x]) (Qd.putA h.am x.id h.list.length) h.blk h.ab sl'), rfl, rfl, ⟨hok', by simp; omega, by intro k v hk2; rw [Qd.lookA_put] at hk2; split at hk2; (rename_i he; exact ⟨x, by simp, he.symm⟩); (obtain ⟨z, hz, hzk⟩ := ho.keys k v hk2; exact ⟨z, by simp [hz], hzk⟩)⟩, rfl⟩ (hk.take (by (try simp only [HpA.kb_eq]); exact aT)))
set_option maxHeartbeats 2000000 in
theorem s_ilen [Bs] (h : HpA) (ho : h.Ok) : Spec Tryz.prog 268 [h.ptr] (h.kb) (fun v K' => v = .int .i64 h.list.length ∧ K' = h.kb) := by
 have hsl : h.sl.len = h.list.length := by have := ho.sl.vlen; rw [flat_len itemV_len] at this; omega
 refine spec_body Tryz.func268 rfl rfl fun F R hR => ?_
 try simp only [NL]
 refine C_seq ?_
 refine C_region ?_
 refine wa (i := 0) rfl rfl rfl rfl ?_
 refine W_nil ?_
 refine N_seq ?_
 refine C_seq ?_
 refine C_region ?_
 refine wm (i := 0) rfl rfl rfl rfl ?_
 refine wc (i := 1) rfl rfl rfl rfl ?_
 refine W_q (i := 2) rfl rfl rfl (q_fieldAddr fb_217_0 rfl rfl) ?_
 refine W_q (i := 3) rfl rfl rfl (q_load ag_184 rfl aP rfl) ?_
 refine W_q (i := 4) rfl rfl rfl (q_lenSl Tryz.underlying184 rfl rfl) ?_
 refine wa (i := 5) rfl rfl rfl rfl ?_
 refine W_nil ?_
 refine N_seq ?_
 refine C_ret fun a w ha hk => ?_
 exact R_val (e := .ret) (.inl rfl) ha.defers (res1 ha rfl rfl) (hR _ _ _ ⟨by rw [hsl], rfl⟩ (aK hk))
set_option maxHeartbeats 2000000 in
theorem s_up0 [Bs] (v : Value) : Spec Tryz.prog 168 [v, .int .i64 0] ([]) (fun v K' => v = .tuple #[] ∧ K' = []) := by
 refine spec_body Tryz.func168 rfl rfl fun F R hR => ?_
 try simp only [NL]
 refine C_block ?_
 refine C_loop (ι := Unit) (fun _ => [(0, v), (1, .int .i64 0)]) (fun _ => F) (fun _ => 0) () aS (.refl _) ?_
 rintro ⟨⟩
 refine C_block ?_
 refine C_seq ?_
 refine C_region ?_
 refine wm (i := 0) rfl rfl rfl rfl ?_
 refine W_q (i := 1) rfl rfl rfl (q_sub rfl rfl (r := -1) (by decide)) ?_
 refine W_q (i := 2) rfl rfl rfl (q_quo rfl rfl (by decide)) ?_
 refine wa (i := 3) rfl rfl rfl rfl ?_
 refine W_nil ?_
 refine N_seq ?_
 refine C_seq ?_
 refine C_seq ?_
 refine C_region ?_
 refine wm (i := 0) rfl rfl rfl rfl ?_
 refine wm (i := 1) rfl rfl rfl rfl ?_
 refine W_q (i := 2) rfl rfl rfl (q_int rfl rfl rfl) ?_
 refine wm (i := 3) rfl rfl rfl rfl ?_
 refine W_skip (i := 4) rfl rfl rfl ?_
 refine W_skip (i := 5) rfl rfl rfl ?_
 refine W_skip (i := 6) rfl rfl rfl ?_
 refine W_skip (i := 7) rfl rfl rfl ?_
 refine W_skip (i := 8) rfl rfl rfl ?_
 refine W_q (i := 9) rfl rfl rfl (q_pickT rfl rfl) ?_
 refine W_nil ?_
 refine N_seq ?_
 refine C_condT rfl ?_
 refine C_exit ?_
 intro a w ha hk
 exact R_val (e := .normal) (.inr rfl) ha.defers (res0 rfl) (hR _ _ _ ⟨rfl, rfl⟩ (aK hk))
set_option maxHeartbeats 2000000 in
theorem s_hpush0 [Bs] (h : HpA) (ho : h.Ok) (x : PIt) (hl : h.list = []) : Spec Tryz.prog 140 [(.iface 221 h.ptr), (.iface 183 (.agg (itemV x).toArray))] (h.kb) (fun v K' => v = .tuple #[] ∧ ∃ h' : HpA, h'.list = [x] ∧ h'.blk = h.blk ∧ h'.Ok ∧ K' = h'.kb) := by
 refine spec_body Tryz.func140 rfl rfl fun F R hR => ?_
 try simp only [NL]
 refine C_seq ?_
 refine C_region ?_
 refine wm (i := 0) rfl rfl rfl rfl ?_
 refine wm (i := 1) rfl rfl rfl rfl ?_
 refine W_callM (i := 2) rfl rfl rfl rfl rfl (m_Push _ _) (s_ipush h ho x (by rw [hl]; decide)) aC ?_
 rintro _ _ ⟨rfl, h', hl', hb', ho', rfl⟩
 rw [hl, List.nil_append] at hl'
 refine W_nil ?_
 refine N_seq ?_
 refine C_region ?_
 refine wm (i := 0) rfl rfl rfl rfl ?_
 refine wm (i := 1) rfl rfl rfl rfl ?_
 refine W_callM (i := 2) rfl rfl rfl rfl rfl (m_Len _) ((show Spec Tryz.prog 268 [h.ptr] h'.kb (fun v K' => v = .int .i64 1 ∧ K' = h'.kb) from by have h9 := s_ilen h' ho'; rw [hl'] at h9; rw [show h.ptr = h'.ptr from by simp only [HpA.ptr, hb']]; exact h9)) aC ?_
 rintro _ _ ⟨rfl, rfl⟩
 refine W_q (i := 3) rfl rfl rfl (q_sub rfl rfl (r := 0) (by decide)) ?_
 refine W_call (i := 4) rfl rfl rfl rfl rfl rfl pf_168 (s_up0 _) tk_nil ?_
 rintro _ _ ⟨rfl, rfl⟩
 refine W_nil ?_
 intro a w ha hk
 exact R_val (e := .normal) (.inr rfl) ha.defers (res0 rfl) (hR _ _ _ ⟨rfl, h', hl', hb', ho', rfl⟩ (hk.take aT))
set_option maxHeartbeats 2000000 in
theorem s_ppush0 [Bs] (h : HpA) (ho : h.Ok) (x : PIt) (hl : h.list = []) : Spec Tryz.prog 109 [h.ptr, .agg (itemV x).toArray] (h.kb) (fun v K' => v = .int .i64 0 ∧ ∃ h' : HpA, h'.list = [x] ∧ h'.blk = h.blk ∧ h'.Ok ∧ K' = h'.kb) := by
  refine spec_body Tryz.func109 rfl rfl fun F R hR => ?_
  try simp only [NL]
  refine C_seq ?_
  refine C_region ?_
  refine W_e (i := 0) rfl rfl rfl (e_box rfl) ?_
  intro b3
  refine wa (i := 1) rfl rfl rfl rfl ?_
  refine W_nil ?_
  refine N_seq ?_
  refine C_seq ?_
  refine C_block ?_
  refine C_seq ?_
  refine C_region ?_
  refine wm (i := 0) rfl rfl rfl rfl ?_
  refine W_q (i := 1) rfl rfl rfl (q_eqPtrNil Tryz.underlying179 rfl rfl) ?_
  refine wa (i := 2) rfl rfl rfl rfl ?_
  refine W_nil ?_
  refine N_seq ?_
  refine C_condF rfl ?_
  refine C_seq ?_
  refine C_region ?_
  refine wm (i := 0) rfl rfl rfl rfl ?_
  refine W_q (i := 1) rfl rfl rfl (q_fieldAddr fb_183_0 rfl rfl) ?_
  refine W_q (i := 2) rfl rfl rfl (q_load (v := .int .u32 x.id) ag_31 rfl aP rfl) ?_
  refine W_call (i := 3) rfl rfl rfl rfl rfl rfl pf_139 (s_phas h _) aC ?_
  rintro _ _ ⟨rfl, rfl⟩
  refine wa (i := 4) rfl rfl rfl rfl ?_
  refine W_nil ?_
  refine N_seq ?_
  refine C_cond rfl (fun ht8 => ?_) (fun ht8 => ?_)
  · exact absurd ht8 (by have hno : Qd.lookA h.am x.id = none := (by cases h9 : Qd.lookA h.am x.id with | none => rfl | some v => obtain ⟨z, hz, _⟩ := ho.keys _ _ h9; rw [hl] at hz; cases hz); rw [hno]; decide)
  refine C_skip ?_
  refine N_seq ?_
  refine C_seq ?_
  refine C_draw (.cons 0 .pure (.cons 1 .pure (.cons 2 .pure (.cons 3 .pure (.cons 4 .read (.cons 5 .pure (.cons 6 .eff .nil))))))) (fun w => Knows w _) 6 mo (by kernel_rfl) (fun _ h => h) ?_
  refine D_p rfl rfl rfl (q_move rfl) ?_
  refine D_p rfl rfl rfl (q_nilCheck rfl) ?_
  refine D_p rfl rfl rfl (q_fieldAddr fb_219_0 rfl rfl) ?_
  refine D_p rfl rfl rfl (q_makeIface if_221_Pr1 rfl) ?_
  refine D_r rfl rfl rfl (q_loadAgg (us := itemV x) ag_183 sz_183 rfl aP (by exact Nat.le_of_ble_eq_true rfl) rfl) ?_
  refine D_p rfl rfl rfl (q_makeIface if_183_Pr1 rfl) ?_
  refine D_call rfl rfl rfl rfl rfl rfl pf_140 (s_hpush0 h ho x hl) aC (.inl rfl) ?_
  rintro _ _ ⟨rfl, h', hl', hb', ho', rfl⟩
  refine D_nil ?_
  refine N_seq ?_
  refine C_seq ?_
  refine C_region ?_
  refine wa (i := 0) rfl rfl rfl rfl ?_
  refine W_nil ?_
  refine N_seq ?_
  refine C_ret fun a w ha hk => ?_
  exact R_val (e := .ret) (.inl rfl) ha.defers (res1 ha rfl rfl) (hR _ _ _ ⟨rfl, h', hl', hb', ho', rfl⟩ (hk.take aT))
set_option maxHeartbeats 2000000 in
theorem s_porder [Bs] (p q : PIt) : Spec Tryz.prog 143 [.agg (itemV p).toArray, .agg (itemV q).toArray] ([]) (fun v K' => ∃ c : Int, v = .int .i64 c ∧ (c < 0 ↔ itemLt p q = true) ∧ K' = []) := by
 refine spec_body Tryz.func143 rfl rfl fun F R hR => ?_
 try simp only [NL]
 refine C_seq ?_
 refine C_region ?_
 refine W_e (i := 0) rfl rfl rfl (e_box rfl) ?_
 intro b2
 refine W_e (i := 1) rfl rfl rfl (e_box rfl) ?_
 intro b3
 refine wa (i := 2) rfl rfl rfl rfl ?_
 refine W_nil ?_
 refine N_seq ?_
 refine C_seq ?_
 refine C_draw (.cons 0 .pure (.cons 1 .read (.cons 2 .pure (.cons 3 .read (.cons 5 .pure (.cons 6 .read (.cons 7 .pure (.cons 8 .read (.cons 10 .pure (.cons 11 .read (.cons 12 .pure (.cons 13 .read (.cons 4 .eff (.cons 9 .eff (.cons 14 .eff (.cons 15 .eff (.cons 16 .eff (.cons 17 .pure .nil)))))))))))))))))) (fun w => Knows w _) 14 mo (by kernel_rfl) (fun _ h => h) ?_
 refine D_p rfl rfl rfl (q_fieldAddr fb_183_1 rfl rfl) ?_
 refine D_r rfl rfl rfl (q_load (v := .int .u8 q.tier) ag_5 rfl aP rfl) ?_
 refine D_p rfl rfl rfl (q_fieldAddr fb_183_1 rfl rfl) ?_
 refine D_r rfl rfl rfl (q_load (v := .int .u8 p.tier) ag_5 rfl aP rfl) ?_
 refine D_p rfl rfl rfl (q_fieldAddr fb_183_2 rfl rfl) ?_
 refine D_r rfl rfl rfl (q_load (v := .int .u32 p.since) ag_31 rfl aP rfl) ?_
 refine D_p rfl rfl rfl (q_fieldAddr fb_183_2 rfl rfl) ?_
 refine D_r rfl rfl rfl (q_load (v := .int .u32 q.since) ag_31 rfl aP rfl) ?_
 refine D_p rfl rfl rfl (q_fieldAddr fb_183_0 rfl rfl) ?_
 refine D_r rfl rfl rfl (q_load (v := .int .u32 p.id) ag_31 rfl aP rfl) ?_
 refine D_p rfl rfl rfl (q_fieldAddr fb_183_0 rfl rfl) ?_
 refine D_r rfl rfl rfl (q_load (v := .int .u32 q.id) ag_31 rfl aP rfl) ?_
 refine D_call rfl rfl rfl rfl rfl rfl pf_170 (s_cmp_u8 _ _) tk_nil (.inr (by rintro _ _ _ ⟨rfl, rfl⟩ h; exact h.take aT)) ?_
 rintro _ _ ⟨rfl, rfl⟩
 refine D_call rfl rfl rfl rfl rfl rfl pf_171 (s_cmp_u32 _ _) tk_nil (.inr (by rintro _ _ _ ⟨rfl, rfl⟩ h; exact h.take aT)) ?_
 rintro _ _ ⟨rfl, rfl⟩
 refine D_call rfl rfl rfl rfl rfl rfl pf_171 (s_cmp_u32 _ _) tk_nil (.inl rfl) ?_
 rintro _ _ ⟨rfl, rfl⟩
 refine D_e rfl rfl rfl (e_lit3 Tryz.underlying66 sz_3 zf_3 rfl rfl rfl) (.inl rfl) ?_
 intro b20
 refine D_lit (l := 3) (sz := 1) .here rfl ?_
 refine D_call rfl rfl rfl rfl rfl rfl pf_121 (s_or ⟨some (b20, 0), 3, 3⟩ [cmpI q.tier p.tier, cmpI p.since q.since, cmpI p.id q.id] (Sl.ok_lit rfl) (by exact Nat.le_of_ble_eq_true rfl)) aC (.inl rfl) ?_
 rintro _ _ ⟨rfl, rfl⟩
 refine D_p rfl rfl rfl (q_assign rfl) ?_
 refine D_nil ?_
 refine N_seq ?_
 refine C_ret fun a w ha hk => ?_
 exact R_val (e := .ret) (.inl rfl) ha.defers (res1 ha rfl rfl) (hR _ _ _ ⟨_, rfl, by rw [order3, (cmpI_lt _ _).1, (cmpI_lt _ _).2, (cmpI_lt _ _).1, (cmpI_lt _ _).2, (cmpI_lt _ _).1]; simp only [itemLt, Bool.or_eq_true, Bool.and_eq_true, decide_eq_true_eq]; omega, rfl⟩ (hk.take aT))
set_option maxHeartbeats 2000000 in
theorem s_cloneItem [Bs] (s : Sl) (vs : List Value) (hok : s.Ok vs 3) (hb : s.len ≤ 1000000) (h1 : vs.all oneC = true) : Spec Tryz.prog 141 [s.val] (s.kb vs 3 183) (fun v K' => ∃ s' : Sl, v = s'.val ∧ s'.Ok vs 3 ∧ s'.len = s.len ∧ K' = s.kb vs 3 183 ++ s'.kb vs 3 183) := by
 refine spec_body Tryz.func141 rfl rfl fun F R hR => ?_
 try simp only [NL]
 refine C_seq ?_
 refine C_region ?_
 refine wa (i := 0) rfl rfl rfl rfl ?_
 refine W_nil ?_
 refine N_seq ?_
 refine C_seq ?_
 refine C_seq ?_
 refine C_region ?_
 refine wm (i := 0) rfl rfl rfl rfl ?_
 refine W_q (i := 1) rfl rfl rfl (q_eqSliceNil Tryz.underlying184 rfl rfl) ?_
 refine W_nil ?_
 refine N_seq ?_
 refine C_cond rfl (fun ht4 => ?_) (fun ht4 => ?_)
 ·
  try simp only [CL] at ht4
  have hn : s.a = none := by simpa using ht4
  have hc := hok.nil hn
  have hcap := hok.cap
  have hl0 : s.len = 0 := by omega
  have hv0 : vs = [] := List.eq_nil_of_length_eq_zero (by have := hok.vlen; rw [hl0] at this; simpa using this)
  refine C_seq ?_
  refine C_region ?_
  refine wa (i := 0) rfl rfl rfl rfl ?_
  refine W_nil ?_
  refine N_seq ?_
  refine C_ret fun a w ha hk => ?_
  exact R_val (e := .ret) (.inl rfl) ha.defers (res1 ha rfl rfl) (hR _ _ _ ⟨Sl.nilS, rfl, by rw [hv0]; exact Sl.nil_ok _, by rw [hl0]; rfl, rfl⟩ (hk.take (by (try simp only [nilS_kb]); exact aT)))
 ·
  try simp only [CL] at ht4
  have hn : s.a.isSome = true := by simpa using ht4
  refine C_skip ?_
  refine N_seq ?_
  refine C_seq ?_
  refine C_region ?_
  refine W_e (i := 0) rfl rfl rfl (e_lit0 Tryz.underlying184 sz_183) ?_
  intro b5
  refine wm (i := 1) rfl rfl rfl rfl ?_
  refine W_e (i := 2) rfl rfl rfl (e_clone Tryz.underlying184 inf_183 rfl rfl rfl rfl (by exact Pick.here) aC hn hok (by omega) (by omega) h1) ?_
  rintro ⟨s', hl', hok'⟩
  refine wa (i := 3) rfl rfl rfl rfl ?_
  refine W_nil ?_
  refine N_seq ?_
  refine C_ret fun a w ha hk => ?_
  exact R_val (e := .ret) (.inl rfl) ha.defers (res1 ha rfl rfl) (hR _ _ _ ⟨s', rfl, hok', hl', rfl⟩ (hk.take aT))
set_option maxHeartbeats 2000000 in
theorem s_plist [Bs] (h : HpA) (ho : h.Ok) (ht : Qd.Total itemLt h.list) : Spec Tryz.prog 110 [h.ptr] (h.kb) (fun v K' => ∃ sl : Sl, v = sl.val ∧ sl.Ok (flat itemV (Qd.sortBy itemLt h.list)) 3 ∧ K' = h.kb ++ sl.kb (flat itemV (Qd.sortBy itemLt h.list)) 3 183) := by
 have hsl : h.sl.len = h.list.length := by have := ho.sl.vlen; rw [flat_len itemV_len] at this; omega
 have h12 := ho.len
 refine spec_body Tryz.func110 rfl rfl fun F R hR => ?_
 try simp only [NL]
 rw [HpA.kb_eq]
 try simp only [NL]
 refine C_seq ?_
 refine C_region ?_
 refine wa (i := 0) rfl rfl rfl rfl ?_
 refine W_nil ?_
 refine N_seq ?_
 refine C_seq ?_
 refine C_seq ?_
 refine C_region ?_
 refine wm (i := 0) rfl rfl rfl rfl ?_
 refine W_q (i := 1) rfl rfl rfl (q_eqPtrNil Tryz.underlying179 rfl rfl) ?_
 refine W_nil ?_
 refine N_seq ?_
 refine C_condF rfl ?_
 refine C_skip ?_
 refine N_seq ?_
 refine C_seq ?_
 refine C_region ?_
 refine wm (i := 0) rfl rfl rfl rfl ?_
 refine wc (i := 1) rfl rfl rfl rfl ?_
 refine W_q (i := 2) rfl rfl rfl (q_fieldAddr fb_219_0 rfl rfl) ?_
 refine W_q (i := 3) rfl rfl rfl (q_fieldAddr fb_217_0 rfl rfl) ?_
 refine W_q (i := 4) rfl rfl rfl (q_load ag_184 rfl aP rfl) ?_
 refine W_call (i := 5) rfl rfl rfl rfl rfl rfl pf_141 (s_cloneItem h.sl (flat itemV h.list) ho.sl (by omega) (flat_all itemV_one _)) aC ?_
 rintro _ _ ⟨s', rfl, hs', hsl', rfl⟩
 try simp only [NL]
 refine wa (i := 6) rfl rfl rfl rfl ?_
 refine W_nil ?_
 refine N_seq ?_
 refine C_seq ?_
 refine C_region ?_
 refine wm (i := 0) rfl rfl rfl rfl ?_
 refine W_call (i := 1) rfl rfl rfl rfl rfl rfl pf_142 (s_sortF_item (E := itemV) itemV_len itemV_one (lt := itemLt) (Pe := fun _ => True) (gf := 143) (lb := []) (Kc := []) pf_143 (fun a b _ _ => s_porder a b) s' h.list hs' (fun _ _ => trivial) h12 swoItem ht) (by simp only [List.append_nil]; repeat (first | exact tk_here | exact tk_all | apply tk_app | apply tk_cons)) ?_
 rintro _ _ ⟨rfl, rfl⟩
 rw [List.append_nil]
 refine W_nil ?_
 refine N_seq ?_
 refine C_seq ?_
 refine C_region ?_
 refine wm (i := 0) rfl rfl rfl rfl ?_
 refine wa (i := 1) rfl rfl rfl rfl ?_
 refine W_nil ?_
 refine N_seq ?_
 refine C_ret fun a w ha hk => ?_
 exact R_val (e := .ret) (.inl rfl) ha.defers (res1 ha rfl rfl) (hR _ _ _ ⟨s', rfl, hs'.of (by rw [flat_len itemV_len, flat_len itemV_len, (Qd.sortBy_perm _ _).length_eq]), rfl⟩ (hk.take (by (try simp only [HpA.kb_eq]); exact aT)))
end Go.SL
namespace Go.SL
open Go Go.Proofs
set_option maxRecDepth 10000
def itemOf (j : Qd.ApiJob) : PIt := ⟨j.id, j.tier, 0⟩
def wsel (x : Qd.Job) : Bool := x.j.state == 0 && x.drops.isNone
/-- who waits, of some -/
def wlist (y : BrA) (ids : List Int) : List PIt := (((ids.filterMap fun id => y.b.job id).filter wsel).map (·.j)).map itemOf
theorem wlist_snoc {y : BrA} {ids : List Int} {i : Nat} {id : Int} {j : JobA} (h : ids[i]? = some id) (hl : Qd.lookA y.jobs id = some j) : wlist y (ids.take (i + 1)) = if wsel j.x then wlist y (ids.take i) ++ [itemOf j.x.j] else wlist y (ids.take i) := by
  unfold wlist
  rw [List.take_add_one, h, List.filterMap_append, List.filter_append]
  have : (Option.some id).toList.filterMap (fun id => y.b.job id) = [j.x] := by simp [job_b, hl]
  rw [this]
  by_cases hw : wsel j.x = true <;> simp [hw]
theorem totItem (l : List PIt) : Qd.Total itemLt l := by
  intro x _ y _ h1 h2
  obtain ⟨a, b, c⟩ := x
  obtain ⟨a', b', c'⟩ := y
  simp only [itemLt, Bool.or_eq_false_iff, Bool.and_eq_false_iff, decide_eq_false_iff_not] at h1 h2
  have e1 : b = b' := by omega
  have e2 : c = c' := by omega
  have e3 : a = a' := by omega
  rw [e1, e2, e3]
theorem itemLt_eq (a b : Qd.ApiJob) : itemLt (itemOf a) (itemOf b) = Qd.Brain.prioLt a b := by
  have : itemLt (itemOf a) (itemOf b) = (decide (b.tier < a.tier) || (decide (a.tier = b.tier) && (decide ((0 : Int) < 0) || (decide ((0 : Int) = 0) && decide (a.id < b.id))))) := rfl
  rw [this]; simp [Qd.Brain.prioLt]
theorem wait_eq (y : BrA) : (Qd.sortBy itemLt (wlist y y.b.ids)).map (·.id) = y.b.waiting := by
  unfold wlist Qd.Brain.waiting
  rw [Qd.sortBy_map itemOf Qd.Brain.prioLt itemLt _ (fun a _ b _ => itemLt_eq a b)]
  rw [List.map_map]
  rfl
theorem wlist_look {y : BrA} (hy : y.Ok) {ids : List Int} {x : PIt} (h : x ∈ wlist y ids) : ∃ j, Qd.lookA y.jobs x.id = some j := by
  unfold wlist at h
  simp only [List.mem_map, List.mem_filter, List.mem_filterMap] at h
  obtain ⟨aj, ⟨xx, ⟨⟨id, _, hid⟩, _⟩, rfl⟩, rfl⟩ := h
  rw [job_b] at hid
  cases hl : Qd.lookA y.jobs id with
  | none => rw [hl] at hid; cases hid
  | some j =>
    rw [hl] at hid
    cases hid
    have := (hy.at hl).2.1
    exact ⟨j, by simp only [itemOf]; rw [this]; exact hl⟩
theorem wlist_len (y : BrA) (ids : List Int) : (wlist y ids).length ≤ ids.length := by
  unfold wlist
  simp only [List.length_map]
  exact Nat.le_trans (List.length_filter_le _ _) (List.length_filterMap_le _ _)
/-- a cell of the profile -/
def pcell (b : Qd.Brain) (r n : Nat) : Int := if !b.m.isUp n then Qd.top else match b.job (b.m.at_ r n) with
      | some x => Qd.imax 1 (b.length x)
      | none => 0
def prow (b : Qd.Brain) (r : Nat) : List Int := (List.range b.c.nodes.toNat).map fun (n : Nat) => pcell b r n
theorem profile_eq (b : Qd.Brain) : b.profile = (List.range b.c.rows.toNat).map fun (r : Nat) => prow b r := rfl
theorem partV_nil {qs : List (Sl × List Int)} {n : Nat} (h : qs.length < n) (l : List Int) : partV (qs ++ [(Sl.nilS, l)]) n = partV qs n := by
  unfold partV
  obtain ⟨m, hm⟩ : ∃ m, n - qs.length = m + 1 := ⟨n - qs.length - 1, by omega⟩
  simp only [List.map_append, List.map_cons, List.map_nil, List.length_append, List.length_cons, List.length_nil, List.append_assoc]
  rw [hm, show n - (qs.length + (0 + 1)) = m from by omega]
  rfl
theorem partV_at {qs : List (Sl × List Int)} {n : Nat} (_h : qs.length < n) (r : Sl × List Int) : (partV (qs ++ [r]) n)[qs.length]? = some r.1.val := by
  unfold partV
  simp
theorem partV_own (qs : List (Sl × List Int)) (a : Sl) (l : List Int) (n : Nat) : partV (qs ++ [(a, l)]) n = partV (qs ++ [(a, [])]) n := by simp [partV]
theorem rowsKb_nil (s t : Nat) : rowsKb [] s t = [] := rfl
theorem partV_put {qs : List (Sl × List Int)} {n : Nat} (_h : qs.length < n) (r r' : Sl × List Int) : (partV (qs ++ [r]) n).set qs.length r'.1.val = partV (qs ++ [r']) n := by
  unfold partV
  simp
theorem partV_len {qs : List (Sl × List Int)} {n : Nat} (h : qs.length ≤ n) : (partV qs n).length = n := by simp [partV]; omega
theorem range_snoc {α : Type} (f : Nat → α) (n : Nat) : (List.range (n + 1)).map f = (List.range n).map f ++ [f n] := by rw [List.range_succ, List.map_append]; rfl
theorem pf_108 : plainFn Tryz.prog 108 = true := by kernel_rfl
theorem pf_109 : plainFn Tryz.prog 109 = true := by kernel_rfl
theorem pf_110 : plainFn Tryz.prog 110 = true := by kernel_rfl
theorem pf_111 : plainFn Tryz.prog 111 = true := by kernel_rfl
theorem pf_112 : plainFn Tryz.prog 112 = true := by kernel_rfl
theorem pf_115 : plainFn Tryz.prog 115 = true := by kernel_rfl
theorem pf_76 : plainFn Tryz.prog 76 = true := by kernel_rfl
theorem ps_183 : placesB Tryz.prog 183 = some #[(0, 1), (1, 1), (2, 1)] := by kernel_rfl
set_option maxHeartbeats 2000000 in
theorem s_waiting [Bs] (y : BrA) (hy0 : y.Ok) (h1 : y.jobs.length ≤ 1) : Spec Tryz.prog 75 [y.ptr] (y.kb) (fun v K' => ∃ sl : Sl, v = sl.val ∧ sl.Ok (ptrsV y.jobs y.b.waiting) 1 ∧ K' = y.kb ++ sl.kb (ptrsV y.jobs y.b.waiting) 1 86) := by
 have h12 : y.jobs.length ≤ 12 := by omega
 refine spec_body Tryz.func75 rfl rfl fun F R hR => ?_
 try simp only [NL]
 rw [BrA.kb_eq]
 try simp only [NL]
 refine C_seq ?_
 refine C_region ?_
 refine wa (i := 0) rfl rfl rfl rfl ?_
 refine W_nil ?_
 refine N_seq ?_
 refine C_seq ?_
 refine C_region ?_
 refine W_call (i := 0) rfl rfl rfl rfl rfl rfl pf_108 (s_pnew) tk_nil ?_
 rintro _ _ ⟨h0, rfl, h0l, h0a, h0o, rfl⟩
 refine wa (i := 1) rfl rfl rfl rfl ?_
 refine W_nil ?_
 refine N_seq ?_
 refine C_seq ?_
 refine C_seq ?_
 refine C_region ?_
 refine wm (i := 0) rfl rfl rfl rfl ?_
 refine W_call (i := 1) rfl rfl rfl rfl rfl rfl pf_50 (s_all y h12) (tk_cons1 (by repeat (first | exact tk_one | apply tk_app | apply tk_cons)) (by repeat (first | exact tk_one | apply tk_app | apply tk_cons))) ?_
 rintro _ _ ⟨sl, rfl, hsok, rfl⟩
 obtain ⟨ids0, hids⟩ : ∃ ids, y.b.ids = ids := ⟨_, rfl⟩
 rw [hids] at hsok ⊢
 have hnd := ids_nodup hy0
 rw [hids] at hnd
 have hidl : ids0.length = y.jobs.length := by rw [← hids]; exact ids_len _
 have hid12 : ids0.length ≤ 12 := by rw [hidl]; exact h12
 have hsl : sl.len = ids0.length := by have := hsok.vlen; simp [ptrsV] at this; omega
 try simp only [NL]
 refine W_q (i := 2) rfl rfl rfl (q_lenSl Tryz.underlying99 rfl rfl) ?_
 refine wm (i := 3) rfl rfl rfl rfl ?_
 refine W_nil ?_
 refine N_seq ?_
 refine C_block ?_
 refine C_loopT (ι := { q : Nat × HpA // q.1 ≤ ids0.length ∧ q.2.Ok ∧ q.2.list = wlist y (ids0.take q.1) ∧ q.2.blk = h0.blk }) (fun q => [(0, y.ptr), (3, h0.ptr), (11, sl.val), (12, .int .i64 (sl.len : Int)), (13, .int .i64 (q.1.1 : Int))]) (fun q => (y.blk, Cells y.cells 84) :: (y.up, SetB y.ups) :: (y.jb, MapI .u32 (mapV JobA.ptr y.jobs)) :: (y.mx.kb ++ (y.osK ++ (y.isK ++ (y.dsK ++ (y.msK ++ (stKb y.st ++ (y.jsK ++ (q.1.2.kb ++ (sl.kb (ptrsV y.jobs ids0) 1 86 ++ F)))))))))) (fun q => ids0.length - q.1.1) ⟨(0, h0), Nat.zero_le _, h0o, h0l, rfl⟩ aS aT ?_
 rintro ⟨⟨i, hp⟩, hi, hpo, hpl, hpb⟩
 dsimp only at hi hpo hpl hpb ⊢
 refine C_seq ?_
 refine C_region ?_
 refine W_q (i := 0) rfl rfl rfl (q_int rfl rfl rfl) ?_
 refine W_nil ?_
 refine N_seq ?_
 refine C_seq ?_
 refine C_cond rfl (fun ht14 => ?_) (fun ht14 => ?_)
 ·
  try simp only [CL] at ht14
  have hil : i < ids0.length := by omega
  obtain ⟨id, hid⟩ : ∃ id, ids0[i]? = some id := ⟨_, List.getElem?_eq_getElem hil⟩
  obtain ⟨j, hji⟩ := ids_look y (id := id) (by rw [hids]; exact List.mem_of_getElem? hid)
  have hjd := (hy0.at hji).1.dr
  refine C_skip ?_
  refine N_seq ?_
  refine C_seq ?_
  refine C_block ?_
  refine C_seq ?_
  refine C_region ?_
  refine W_q (i := 0) rfl rfl rfl (q_idxSl Tryz.underlying99 sz_86 hsok rfl rfl (Int.natCast_nonneg _) (by omega) rfl) ?_
  refine W_q (i := 1) rfl rfl rfl (q_loadSl (i := i) (v := j.ptr) ag_86 rfl hsok aC (by simp) ((ptrsV_at hid).trans (by rw [ptrV_some hji]))) ?_
  refine wa (i := 2) rfl rfl rfl rfl ?_
  refine W_nil ?_
  refine N_seq ?_
  refine C_seq ?_
  refine C_region ?_
  refine wm (i := 0) rfl rfl rfl rfl ?_
  refine wc (i := 1) rfl rfl rfl rfl ?_
  refine W_q (i := 2) rfl rfl rfl (q_fieldAddr fb_90_0 rfl rfl) ?_
  refine W_q (i := 3) rfl rfl rfl (q_fieldAddr fb_35_4 rfl rfl) ?_
  refine W_q (i := 4) rfl rfl rfl (q_loadM ag_5 rfl (mem_of_perm (A := y.jsK) aC (BrA.m_js hji)) rfl) ?_
  refine W_q (i := 5) rfl rfl rfl (q_int rfl rfl rfl) ?_
  refine wm (i := 6) rfl rfl rfl rfl ?_
  refine W_bool 23 _ rfl (fun ht23 => ?_) (fun ht23 => ?_)
  ·
   try simp only [CL] at ht23
   refine wm (i := 7) rfl rfl rfl rfl ?_
   refine wc (i := 8) rfl rfl rfl rfl ?_
   refine W_q (i := 9) rfl rfl rfl (q_fieldAddr fb_90_8 rfl rfl) ?_
   refine W_q (i := 10) rfl rfl rfl (q_loadM ag_81 rfl (mem_of_perm (A := y.jsK) aC (BrA.m_js hji)) rfl) ?_
   refine W_q (i := 11) rfl rfl rfl (q_eqMapNil Tryz.underlying81 rfl rfl) ?_
   refine W_q (i := 12) rfl rfl rfl (q_pickT rfl rfl) ?_
   refine W_nil ?_
   refine N_seq ?_
   refine C_cond rfl (fun ht29 => ?_) (fun ht29 => ?_)
   ·
    try simp only [CL] at ht29
    have hws : wsel j.x = true := by have h7 : j.dr = none := (by simpa using ht29); have h8 : j.x.drops.isNone = true := (by rw [h7] at hjd; cases h9 : j.x.drops <;> simp_all); simp [wsel, ht23, h8]
    have hpe : hp.list = [] := by rw [hpl, show i = 0 from by omega]; rfl
    refine C_draw (.cons 0 .pure (.cons 1 .pure (.cons 2 .pure (.cons 3 .pure (.cons 4 .pure (.cons 5 .read (.cons 6 .pure (.cons 7 .pure (.cons 8 .pure (.cons 9 .pure (.cons 10 .read (.cons 11 .pure (.cons 12 .eff .nil))))))))))))) (fun w => Knows w _) 12 mo (by kernel_rfl) (fun _ h => h) ?_
    refine D_p rfl rfl rfl (q_move rfl) ?_
    refine D_p rfl rfl rfl (q_move rfl) ?_
    refine D_p rfl rfl rfl (q_nilCheck rfl) ?_
    refine D_p rfl rfl rfl (q_fieldAddr fb_90_0 rfl rfl) ?_
    refine D_p rfl rfl rfl (q_fieldAddr fb_35_0 rfl rfl) ?_
    refine D_r rfl rfl rfl (q_loadM ag_31 rfl (mem_of_perm (A := y.jsK) aC (BrA.m_js hji)) rfl) ?_
    refine D_p rfl rfl rfl (q_move rfl) ?_
    refine D_p rfl rfl rfl (q_nilCheck rfl) ?_
    refine D_p rfl rfl rfl (q_fieldAddr fb_90_0 rfl rfl) ?_
    refine D_p rfl rfl rfl (q_fieldAddr fb_35_1 rfl rfl) ?_
    refine D_r rfl rfl rfl (q_loadM ag_5 rfl (mem_of_perm (A := y.jsK) aC (BrA.m_js hji)) rfl) ?_
    refine D_p rfl rfl rfl (q_build (vs := [(0, .int .u32 j.x.j.id), (1, .int .u8 j.x.j.tier)]) (cs := (itemV (itemOf j.x.j)).toArray) ps_183 zf_183 rfl (by simp [Instr.fill, Value.cells, itemV, itemOf])) ?_
    refine D_call rfl rfl rfl rfl rfl rfl pf_109 ((show Spec Tryz.prog 109 [h0.ptr, .agg (itemV (itemOf j.x.j)).toArray] hp.kb (fun v K' => v = .int .i64 0 ∧ ∃ h' : HpA, h'.list = [itemOf j.x.j] ∧ h'.blk = hp.blk ∧ h'.Ok ∧ K' = h'.kb) from by rw [show h0.ptr = hp.ptr from by simp only [HpA.ptr, hpb]]; exact s_ppush0 hp hpo (itemOf j.x.j) hpe)) aC (.inl rfl) ?_
    rintro _ _ ⟨rfl, h', hl', hb', ho', rfl⟩
    refine D_nil ?_
    refine N_seq ?_
    refine C_region ?_
    refine W_q (i := 0) rfl rfl rfl (q_add rfl rfl (succ64 (by omega))) ?_
    refine wm (i := 1) rfl rfl rfl rfl ?_
    refine W_nil ?_
    exact fun a w ha hk => ⟨⟨(i + 1, h'), by dsimp only; omega, ho', by dsimp only; rw [wlist_snoc hid hji, if_pos hws, hl', ← hpl, hpe]; rfl, hb'.trans hpb⟩, by dsimp only; omega, ha.sub aS, hk.take aT⟩
   ·
    try simp only [CL] at ht29
    have hws : ¬ wsel j.x = true := by have h8 : j.x.drops.isNone = false := (by cases h9 : j.x.drops <;> simp_all); simp [wsel, h8]
    refine C_skip ?_
    refine N_seq ?_
    refine C_region ?_
    refine W_q (i := 0) rfl rfl rfl (q_add rfl rfl (succ64 (by omega))) ?_
    refine wm (i := 1) rfl rfl rfl rfl ?_
    refine W_nil ?_
    exact fun a w ha hk => ⟨⟨(i + 1, hp), by dsimp only; omega, hpo, by dsimp only; rw [wlist_snoc hid hji, if_neg hws]; exact hpl, hpb⟩, by dsimp only; omega, ha.sub aS, hk.take aT⟩
  ·
   try simp only [CL] at ht23
   have hws : ¬ wsel j.x = true := by simp [wsel, ht23]
   refine W_skip (i := 7) rfl rfl rfl ?_
   refine W_skip (i := 8) rfl rfl rfl ?_
   refine W_skip (i := 9) rfl rfl rfl ?_
   refine W_skip (i := 10) rfl rfl rfl ?_
   refine W_skip (i := 11) rfl rfl rfl ?_
   refine W_q (i := 12) rfl rfl rfl (q_pickF rfl rfl) ?_
   refine W_nil ?_
   refine N_seq ?_
   refine C_condF rfl ?_
   refine C_skip ?_
   refine N_seq ?_
   refine C_region ?_
   refine W_q (i := 0) rfl rfl rfl (q_add rfl rfl (succ64 (by omega))) ?_
   refine wm (i := 1) rfl rfl rfl rfl ?_
   refine W_nil ?_
   exact fun a w ha hk => ⟨⟨(i + 1, hp), by dsimp only; omega, hpo, by dsimp only; rw [wlist_snoc hid hji, if_neg hws]; exact hpl, hpb⟩, by dsimp only; omega, ha.sub aS, hk.take aT⟩
 ·
  try simp only [CL] at ht14
  have hil : i = ids0.length := by omega
  subst hil
  rw [List.take_length] at hpl
  refine C_exit ?_
  refine N_seq ?_
  refine C_seq ?_
  refine C_region ?_
  refine wa (i := 0) rfl rfl rfl rfl ?_
  refine W_nil ?_
  refine N_seq ?_
  refine C_seq ?_
  refine C_seq ?_
  refine C_region ?_
  refine wm (i := 0) rfl rfl rfl rfl ?_
  refine W_call (i := 1) rfl rfl rfl rfl rfl rfl pf_110 ((show Spec Tryz.prog 110 [h0.ptr] hp.kb (fun v K' => ∃ sl : Sl, v = sl.val ∧ sl.Ok (flat itemV (Qd.sortBy itemLt hp.list)) 3 ∧ K' = hp.kb ++ sl.kb (flat itemV (Qd.sortBy itemLt hp.list)) 3 183) from by rw [show h0.ptr = hp.ptr from by simp only [HpA.ptr, hpb]]; exact s_plist hp hpo (totItem _))) aC ?_
  rintro _ _ ⟨isl, rfl, hiok, rfl⟩
  try simp only [NL]
  obtain ⟨Ss, hSs⟩ : ∃ S, Qd.sortBy itemLt hp.list = S := ⟨_, rfl⟩
  rw [hSs] at hiok ⊢
  have hisl : isl.len = Ss.length := by have := hiok.vlen; rw [flat_len itemV_len] at this; omega
  have hSl : Ss.length ≤ 12 := by rw [← hSs, (Qd.sortBy_perm _ _).length_eq]; exact hpo.len
  have hSw : Ss.map (·.id) = y.b.waiting := by rw [← hSs, hpl, ← hids]; exact wait_eq y
  have hSk : ∀ x ∈ Ss, ∃ j, Qd.lookA y.jobs x.id = some j := by intro x hx; rw [← hSs, (Qd.sortBy_perm _ _).mem_iff, hpl] at hx; exact wlist_look hy0 hx
  refine W_q (i := 2) rfl rfl rfl (q_lenSl Tryz.underlying184 rfl rfl) ?_
  refine wm (i := 3) rfl rfl rfl rfl ?_
  refine W_nil ?_
  refine N_seq ?_
  refine C_block ?_
  refine C_loopT (ι := { q : Nat × Sl // q.1 ≤ Ss.length ∧ q.2.Ok (ptrsV y.jobs ((Ss.take q.1).map (·.id))) 1 }) (fun q => [(0, y.ptr), (6, q.1.2.val), (45, isl.val), (46, .int .i64 (isl.len : Int)), (47, .int .i64 (q.1.1 : Int))]) (fun q => (y.blk, Cells y.cells 84) :: (y.up, SetB y.ups) :: (y.jb, MapI .u32 (mapV JobA.ptr y.jobs)) :: (y.mx.kb ++ (y.osK ++ (y.isK ++ (y.dsK ++ (y.msK ++ (stKb y.st ++ (y.jsK ++ (q.1.2.kb (ptrsV y.jobs ((Ss.take q.1.1).map (·.id))) 1 86 ++ (isl.kb (flat itemV Ss) 3 183 ++ F)))))))))) (fun q => Ss.length - q.1.1) ⟨(0, Sl.nilS), Nat.zero_le _, Sl.nil_ok 1⟩ aS (by (try simp only [nilS_kb, List.take_zero, List.map_nil]); exact aT) ?_
  rintro ⟨⟨i, osl⟩, hi, hoo⟩
  dsimp only at hi hoo ⊢
  have hol : osl.len = i := by have := hoo.vlen; simp [ptrsV] at this; omega
  refine C_seq ?_
  refine C_region ?_
  refine W_q (i := 0) rfl rfl rfl (q_int rfl rfl rfl) ?_
  refine W_nil ?_
  refine N_seq ?_
  refine C_seq ?_
  refine C_cond rfl (fun ht48 => ?_) (fun ht48 => ?_)
  ·
   try simp only [CL] at ht48
   have hil : i < Ss.length := by omega
   obtain ⟨x, hx⟩ : ∃ x, Ss[i]? = some x := ⟨_, List.getElem?_eq_getElem hil⟩
   obtain ⟨j, hjx⟩ := hSk x (List.mem_of_getElem? hx)
   refine C_skip ?_
   refine N_seq ?_
   refine C_seq ?_
   refine C_block ?_
   refine C_seq ?_
   refine C_region ?_
   refine W_q (i := 0) rfl rfl rfl (q_idxSl Tryz.underlying184 sz_183 hiok rfl rfl (Int.natCast_nonneg _) (by omega) rfl) ?_
   refine W_q (i := 1) rfl rfl rfl (q_loadAggSl (i := i * 3) (us := itemV x) ag_183 sz_183 rfl hiok aC (by simp) (by rw [flat_len itemV_len]; omega) (by omega) (flat_at itemV_len _ _ _ hx)) ?_
   refine W_e (i := 2) rfl rfl rfl (e_alloc zf_183) ?_
   intro b8
   refine W_e (i := 3) rfl rfl rfl (e_storeAgg (us := itemV x) sz_183 rfl rfl rfl rfl (by exact Upd.here) (by first | exact Nat.le_refl _ | (simp [Value.cells]; done) | (simp [Value.cells]; exact Nat.le_refl _))) ?_
   intro _
   refine W_nil ?_
   refine N_seq ?_
   refine C_draw (.cons 0 .pure (.cons 1 .pure (.cons 2 .pure (.cons 3 .pure (.cons 4 .read (.cons 5 .pure (.cons 6 .read (.cons 7 .read (.cons 8 .eff (.cons 9 .eff (.cons 10 .pure .nil))))))))))) (fun w => Knows w _) 8 mo (by kernel_rfl) (fun _ h => h) ?_
   refine D_p rfl rfl rfl (q_move rfl) ?_
   refine D_p rfl rfl rfl (q_move rfl) ?_
   refine D_p rfl rfl rfl (q_nilCheck rfl) ?_
   refine D_p rfl rfl rfl (q_fieldAddr fb_84_4 rfl rfl) ?_
   refine D_r rfl rfl rfl (q_load ag_82 rfl aP rfl) ?_
   refine D_p rfl rfl rfl (q_fieldAddr fb_183_0 rfl rfl) ?_
   refine D_r rfl rfl rfl (q_load (v := .int .u32 x.id) ag_31 rfl aP rfl) ?_
   refine D_r rfl rfl rfl (q_lookup Tryz.underlying82 Tryz.underlying31 zf_86 rfl rfl (MapAt.of aP) ((look_ptr _ _).trans (ptrV_some hjx))) ?_
   refine D_e rfl rfl rfl (e_lit1 Tryz.underlying99 sz_86 zf_86 (by decide) rfl rfl) (.inl rfl) ?_
   intro b59
   refine D_e rfl rfl rfl (e_app1 (us := [j.ptr]) (vs' := ptrsV y.jobs ((Ss.take (i + 1)).map (·.id))) Tryz.underlying99 inf_86 rfl rfl rfl rfl aP aC hoo (by omega) (by omega) rfl rfl (by rw [List.take_add_one, hx]; simp [ptrsV, ptrV_some hjx])) (.inl rfl) ?_
   rintro ⟨sl', hsl', hok'⟩
   refine D_p rfl rfl rfl (q_assign rfl) ?_
   refine D_nil ?_
   refine N_seq ?_
   refine C_region ?_
   refine W_q (i := 0) rfl rfl rfl (q_add rfl rfl (succ64 (by omega))) ?_
   refine wm (i := 1) rfl rfl rfl rfl ?_
   refine W_nil ?_
   exact fun a w ha hk => ⟨⟨(i + 1, sl'), by dsimp only; omega, hok'⟩, by dsimp only; omega, ha.sub aS, hk.take aT⟩
  ·
   try simp only [CL] at ht48
   have hil : i = Ss.length := by omega
   subst hil
   rw [List.take_length, hSw] at hoo ⊢
   refine C_exit ?_
   refine N_seq ?_
   refine C_seq ?_
   refine C_region ?_
   refine wm (i := 0) rfl rfl rfl rfl ?_
   refine wa (i := 1) rfl rfl rfl rfl ?_
   refine W_nil ?_
   refine N_seq ?_
   refine C_ret fun a w ha hk => ?_
   exact R_val (e := .ret) (.inl rfl) ha.defers (res1 ha rfl rfl) (hR _ _ _ ⟨osl, rfl, hoo, rfl⟩ (hk.take (by (try simp only [BrA.kb_eq]); exact aT)))
set_option maxHeartbeats 2000000 in
theorem s_length [Bs] (y : BrA) (j : JobA) (Kc : KB) (h1 : (y.blk, Cells y.cells 84) ∈ Kc) (h2 : (j.blk, Cells j.cells 90) ∈ Kc) : Spec Tryz.prog 76 [y.ptr, j.ptr] (Kc) (fun v K' => v = .int .i64 (y.b.length j.x) ∧ K' = Kc) := by
 refine spec_body Tryz.func76 rfl rfl fun F R hR => ?_
 try simp only [NL]
 refine C_seq ?_
 refine C_region ?_
 refine wa (i := 0) rfl rfl rfl rfl ?_
 refine W_nil ?_
 refine N_seq ?_
 refine C_seq ?_
 refine C_draw (.cons 0 .pure (.cons 1 .pure (.cons 2 .pure (.cons 3 .pure (.cons 4 .read (.cons 5 .pure (.cons 6 .pure (.cons 7 .pure (.cons 8 .pure (.cons 9 .read (.cons 11 .pure (.cons 12 .pure (.cons 13 .pure (.cons 14 .pure (.cons 15 .read (.cons 10 .eff (.cons 16 .eff (.cons 17 .pure .nil)))))))))))))))))) (fun w => Knows w _) 16 mo (by kernel_rfl) (fun _ h => h) ?_
 refine D_p rfl rfl rfl (q_move rfl) ?_
 refine D_p rfl rfl rfl (q_nilCheck rfl) ?_
 refine D_p rfl rfl rfl (q_fieldAddr fb_90_0 rfl rfl) ?_
 refine D_p rfl rfl rfl (q_fieldAddr fb_35_3 rfl rfl) ?_
 refine D_r rfl rfl rfl (q_loadM ag_3 rfl (List.mem_append_left _ h2) rfl) ?_
 refine D_p rfl rfl rfl (q_move rfl) ?_
 refine D_p rfl rfl rfl (q_nilCheck rfl) ?_
 refine D_p rfl rfl rfl (q_fieldAddr fb_90_0 rfl rfl) ?_
 refine D_p rfl rfl rfl (q_fieldAddr fb_35_5 rfl rfl) ?_
 refine D_r rfl rfl rfl (q_loadM ag_3 rfl (List.mem_append_left _ h2) rfl) ?_
 refine D_p rfl rfl rfl (q_move rfl) ?_
 refine D_p rfl rfl rfl (q_nilCheck rfl) ?_
 refine D_p rfl rfl rfl (q_fieldAddr fb_84_0 rfl rfl) ?_
 refine D_p rfl rfl rfl (q_fieldAddr fb_25_1 rfl rfl) ?_
 refine D_r rfl rfl rfl (q_loadM ag_3 rfl (List.mem_append_left _ h1) rfl) ?_
 refine D_call rfl rfl rfl rfl rfl rfl pf_112 (s_capLeft _ _) tk_nil (.inr (by rintro _ _ _ ⟨rfl, rfl⟩ h; exact h.take aT)) ?_
 rintro _ _ ⟨rfl, rfl⟩
 refine D_call rfl rfl rfl rfl rfl rfl pf_111 (s_capMul _ _) tk_nil (.inl rfl) ?_
 rintro _ _ ⟨rfl, rfl⟩
 refine D_p rfl rfl rfl (q_assign rfl) ?_
 refine D_nil ?_
 refine N_seq ?_
 refine C_ret fun a w ha hk => ?_
 exact R_val (e := .ret) (.inl rfl) ha.defers (res1 ha rfl rfl) (hR _ _ _ ⟨rfl, rfl⟩ (aK hk))
set_option maxHeartbeats 2000000 in
theorem s_profile [Bs] (y : BrA) (hy : y.Ok) (hn12 : y.c.nodes ≤ 12) : Spec Tryz.prog 78 [y.ptr] (y.kb) (fun v K' => ∃ p : ProfA, v = p.sl.val ∧ p.Ok ∧ p.m = y.b.profile ∧ K' = y.kb ++ p.kb) := by
 have hc := okc hy
 obtain ⟨Rn, hRn⟩ : ∃ R, y.c.rows.toNat = R := ⟨_, rfl⟩
 refine spec_body Tryz.func78 rfl rfl fun F R hR => ?_
 try simp only [NL]
 rw [BrA.kb_eq]
 try simp only [NL]
 refine C_seq ?_
 refine C_region ?_
 refine wa (i := 0) rfl rfl rfl rfl ?_
 refine W_nil ?_
 refine N_seq ?_
 refine C_seq ?_
 refine C_region ?_
 refine wm (i := 0) rfl rfl rfl rfl ?_
 refine wc (i := 1) rfl rfl rfl rfl ?_
 refine W_q (i := 2) rfl rfl rfl (q_fieldAddr fb_84_0 rfl rfl) ?_
 refine W_q (i := 3) rfl rfl rfl (q_fieldAddr fb_25_1 rfl rfl) ?_
 refine W_q (i := 4) rfl rfl rfl (q_load ag_3 rfl aP rfl) ?_
 refine W_e (i := 5) rfl rfl rfl (e_mkSl1 Tryz.underlying143 inf_66 rfl rfl rfl (by omega) (by omega) (by omega)) ?_
 intro b13
 refine W_lit (l := y.c.rows.toNat) (sz := 1) .here (by simp) ?_
 rw [show List.replicate y.c.rows.toNat (Value.slice none 0 0) = partV [] y.c.rows.toNat from by simp [partV]]
 refine wa (i := 6) rfl rfl rfl rfl ?_
 refine W_nil ?_
 refine N_seq ?_
 refine C_seq ?_
 refine C_seq ?_
 refine C_region ?_
 refine wm (i := 0) rfl rfl rfl rfl ?_
 refine W_q (i := 1) rfl rfl rfl (q_lenSlice Tryz.underlying143 rfl rfl) ?_
 refine wm (i := 2) rfl rfl rfl rfl ?_
 refine W_nil ?_
 refine N_seq ?_
 refine C_block ?_
 refine C_loopT (ι := { qs : List (Sl × List Int) // qs.length ≤ y.c.rows.toNat ∧ qs.map (·.2) = (List.range qs.length).map (prow y.b) ∧ ∀ r ∈ qs, r.1.Ok (encI r.2) 1 ∧ r.2.length ≤ 12 }) (fun q => [(0, y.ptr), (3, (⟨some (b13, 0), y.c.rows.toNat, y.c.rows.toNat⟩ : Sl).val), (15, .int .i64 ((y.c.rows.toNat : Nat) : Int)), (16, .int .i64 (q.1.length : Int))]) (fun q => (⟨some (b13, 0), y.c.rows.toNat, y.c.rows.toNat⟩ : Sl).kb (partV q.1 y.c.rows.toNat) 1 66 ++ ((y.blk, Cells y.cells 84) :: (y.up, SetB y.ups) :: (y.jb, MapI .u32 (mapV JobA.ptr y.jobs)) :: (y.mx.kb ++ (y.osK ++ (y.isK ++ (y.dsK ++ (y.msK ++ (stKb y.st ++ (y.jsK ++ (rowsKb ((q.1).map fun r => (r.1, encI r.2)) 1 3 ++ F)))))))))) (fun q => y.c.rows.toNat - q.1.length) ⟨[], Nat.zero_le _, rfl, by simp⟩ aS (by (try simp only [List.map_nil, rowsKb, List.flatMap_nil]); exact aT) ?_
 rintro ⟨qs, hq, hqm, hqo⟩
 dsimp only
 refine C_seq ?_
 refine C_region ?_
 refine W_q (i := 0) rfl rfl rfl (q_int rfl rfl rfl) ?_
 refine W_nil ?_
 refine N_seq ?_
 refine C_seq ?_
 refine C_cond rfl (fun ht17 => ?_) (fun ht17 => ?_)
 ·
  try simp only [CL] at ht17
  have hil : qs.length < y.c.rows.toNat := by omega
  rw [← partV_nil hil []]
  refine C_skip ?_
  refine N_seq ?_
  refine C_seq ?_
  refine C_block ?_
  refine C_seq ?_
  refine C_region ?_
  refine wm (i := 0) rfl rfl rfl rfl ?_
  refine wa (i := 1) rfl rfl rfl rfl ?_
  refine W_nil ?_
  refine N_seq ?_
  refine C_seq ?_
  refine C_region ?_
  refine wm (i := 0) rfl rfl rfl rfl ?_
  refine wc (i := 1) rfl rfl rfl rfl ?_
  refine W_q (i := 2) rfl rfl rfl (q_fieldAddr fb_84_0 rfl rfl) ?_
  refine W_q (i := 3) rfl rfl rfl (q_fieldAddr fb_25_0 rfl rfl) ?_
  refine W_q (i := 4) rfl rfl rfl (q_load ag_3 rfl aP rfl) ?_
  refine wm (i := 5) rfl rfl rfl rfl ?_
  refine W_nil ?_
  refine N_seq ?_
  refine C_block ?_
  refine C_loopT (ι := { q : Nat × Sl // q.1 ≤ y.c.nodes.toNat ∧ q.2.Ok (encI ((List.range q.1).map fun (n : Nat) => pcell y.b qs.length n)) 1 }) (fun q => [(0, y.ptr), (3, (⟨some (b13, 0), y.c.rows.toNat, y.c.rows.toNat⟩ : Sl).val), (4, .int .i64 (qs.length : Int)), (15, .int .i64 ((y.c.rows.toNat : Nat) : Int)), (16, .int .i64 (qs.length : Int)), (23, .int .i64 y.c.nodes), (24, .int .i64 (q.1.1 : Int))]) (fun q => (⟨some (b13, 0), y.c.rows.toNat, y.c.rows.toNat⟩ : Sl).kb (partV (qs ++ [(q.1.2, [])]) y.c.rows.toNat) 1 66 ++ ((y.blk, Cells y.cells 84) :: (y.up, SetB y.ups) :: (y.jb, MapI .u32 (mapV JobA.ptr y.jobs)) :: (y.mx.kb ++ (y.osK ++ (y.isK ++ (y.dsK ++ (y.msK ++ (stKb y.st ++ (y.jsK ++ (q.1.2.kb (encI ((List.range q.1.1).map fun (n : Nat) => pcell y.b qs.length n)) 1 3 ++ (rowsKb ((qs).map fun r => (r.1, encI r.2)) 1 3 ++ F))))))))))) (fun q => y.c.nodes.toNat - q.1.1) ⟨(0, Sl.nilS), Nat.zero_le _, Sl.nil_ok 1⟩ aS (by (try simp only [nilS_kb, List.range_zero, List.map_nil]); exact aT) ?_
  rintro ⟨⟨n, csl⟩, hn, hcok⟩
  dsimp only at hn hcok ⊢
  have hcl : csl.len = n := by have := hcok.vlen; simp [encI] at this; omega
  have hosk : (⟨some (b13, 0), y.c.rows.toNat, y.c.rows.toNat⟩ : Sl).Ok (partV (qs ++ [(csl, [])]) y.c.rows.toNat) 1 := ⟨by rw [partV_len (by simp; omega)]; simp, Nat.le_refl _, by simp⟩
  refine C_seq ?_
  refine C_region ?_
  refine W_q (i := 0) rfl rfl rfl (q_int rfl rfl rfl) ?_
  refine W_nil ?_
  refine N_seq ?_
  refine C_seq ?_
  refine C_cond rfl (fun ht25 => ?_) (fun ht25 => ?_)
  ·
   try simp only [CL] at ht25
   have hnl : n < y.c.nodes.toNat := by omega
   refine C_skip ?_
   refine N_seq ?_
   refine C_seq ?_
   refine C_block ?_
   refine C_seq ?_
   refine C_region ?_
   refine wm (i := 0) rfl rfl rfl rfl ?_
   refine wa (i := 1) rfl rfl rfl rfl ?_
   refine W_nil ?_
   refine N_seq ?_
   refine C_seq ?_
   refine C_region ?_
   refine wa (i := 0) rfl rfl rfl rfl ?_
   refine W_nil ?_
   refine N_seq ?_
   refine C_cut (ι := { fr : Int // fr = match y.b.job (y.b.m.at_ qs.length n) with | some x => Qd.imax 1 (y.b.length x) | none => 0 }) (fun fr => [(0, y.ptr), (3, (⟨some (b13, 0), y.c.rows.toNat, y.c.rows.toNat⟩ : Sl).val), (4, .int .i64 (qs.length : Int)), (5, .int .i64 (n : Int)), (6, .int .i64 fr.1), (15, .int .i64 ((y.c.rows.toNat : Nat) : Int)), (16, .int .i64 (qs.length : Int)), (23, .int .i64 y.c.nodes), (24, .int .i64 (n : Int))]) (fun _ => (⟨some (b13, 0), y.c.rows.toNat, y.c.rows.toNat⟩ : Sl).kb (partV (qs ++ [(csl, [])]) y.c.rows.toNat) 1 66 ++ ((y.blk, Cells y.cells 84) :: (y.up, SetB y.ups) :: (y.jb, MapI .u32 (mapV JobA.ptr y.jobs)) :: (y.mx.kb ++ (y.osK ++ (y.isK ++ (y.dsK ++ (y.msK ++ (stKb y.st ++ (y.jsK ++ (csl.kb (encI ((List.range n).map fun (n : Nat) => pcell y.b qs.length n)) 1 3 ++ (rowsKb ((qs).map fun r => (r.1, encI r.2)) 1 3 ++ F))))))))))) ?_ ?_
   ·
    refine C_seq ?_
    refine C_draw (.cons 0 .pure (.cons 1 .pure (.cons 2 .pure (.cons 3 .read (.cons 4 .pure (.cons 5 .pure (.cons 6 .pure (.cons 7 .read (.cons 8 .pure (.cons 9 .pure (.cons 10 .eff (.cons 11 .read (.cons 12 .pure .nil))))))))))))) (fun w => Knows w _) 13 mo (by kernel_rfl) (fun _ h => h) ?_
    refine D_p rfl rfl rfl (q_move rfl) ?_
    refine D_p rfl rfl rfl (q_nilCheck rfl) ?_
    refine D_p rfl rfl rfl (q_fieldAddr fb_84_4 rfl rfl) ?_
    refine D_r rfl rfl rfl (q_load ag_82 rfl aP rfl) ?_
    refine D_p rfl rfl rfl (q_move rfl) ?_
    refine D_p rfl rfl rfl (q_nilCheck rfl) ?_
    refine D_p rfl rfl rfl (q_fieldAddr fb_84_5 rfl rfl) ?_
    refine D_r rfl rfl rfl (q_load ag_63 rfl aP rfl) ?_
    refine D_p rfl rfl rfl (q_move rfl) ?_
    refine D_p rfl rfl rfl (q_move rfl) ?_
    refine D_call rfl rfl rfl rfl rfl rfl pf_115 (s_mat y.mx hy.mx qs.length n) aC (.inr (by rintro _ _ _ ⟨rfl, rfl⟩ h; exact h.take aT)) ?_
    rintro _ _ ⟨rfl, rfl⟩
    refine D_r rfl rfl rfl (q_lookup Tryz.underlying82 Tryz.underlying31 zf_86 rfl rfl (MapAt.of aP) (look_ptr _ _)) ?_
    refine D_p rfl rfl rfl (q_assign rfl) ?_
    refine D_nil ?_
    refine N_seq ?_
    refine C_seq ?_
    refine C_region ?_
    refine wm (i := 0) rfl rfl rfl rfl ?_
    refine W_q (i := 1) rfl rfl rfl (q_nePtrV Tryz.underlying86 rfl rfl) ?_
    refine W_nil ?_
    refine N_seq ?_
    refine C_cond rfl (fun ht40 => ?_) (fun ht40 => ?_)
    ·
     try simp only [CL] at ht40
     obtain ⟨j, hlk⟩ : ∃ j, Qd.lookA y.jobs (y.mx.m.at_ qs.length n) = some j := Option.isSome_iff_exists.1 ht40
     rw [ptrV_some hlk]
     refine C_region ?_
     refine wm (i := 0) rfl rfl rfl rfl ?_
     refine wm (i := 1) rfl rfl rfl rfl ?_
     refine W_call (i := 2) rfl rfl rfl rfl rfl rfl pf_76 (s_length y j ((y.blk, Cells y.cells 84) :: y.jsK) (.head _) (.tail _ (BrA.m_js hlk))) (tk_cons1 (by repeat (first | exact tk_one | apply tk_app | apply tk_cons)) aC) ?_
     rintro _ _ ⟨rfl, rfl⟩
     refine W_q (i := 3) rfl rfl rfl (q_max2 rfl rfl) ?_
     refine wa (i := 4) rfl rfl rfl rfl ?_
     refine W_nil ?_
     exact fun a w ha hk => ⟨⟨Qd.imax 1 (y.b.length j.x), by rw [job_b]; rw [show y.b.m = y.mx.m from rfl, hlk]; rfl⟩, ha.sub aS, hk.take aT⟩
    ·
     try simp only [CL] at ht40
     have hno : Qd.lookA y.jobs (y.mx.m.at_ qs.length n) = none := by simpa using ht40
     refine C_skip ?_
     exact fun a w ha hk => ⟨⟨0, by rw [job_b]; rw [show y.b.m = y.mx.m from rfl, hno]; rfl⟩, ha.sub aS, hk.take aT⟩
   ·
    rintro ⟨fr, hfr⟩
    dsimp only
    refine C_cut (ι := { fr : Int // fr = pcell y.b qs.length n }) (fun fr => [(0, y.ptr), (3, (⟨some (b13, 0), y.c.rows.toNat, y.c.rows.toNat⟩ : Sl).val), (4, .int .i64 (qs.length : Int)), (6, .int .i64 fr.1), (15, .int .i64 ((y.c.rows.toNat : Nat) : Int)), (16, .int .i64 (qs.length : Int)), (23, .int .i64 y.c.nodes), (24, .int .i64 (n : Int))]) (fun _ => (⟨some (b13, 0), y.c.rows.toNat, y.c.rows.toNat⟩ : Sl).kb (partV (qs ++ [(csl, [])]) y.c.rows.toNat) 1 66 ++ ((y.blk, Cells y.cells 84) :: (y.up, SetB y.ups) :: (y.jb, MapI .u32 (mapV JobA.ptr y.jobs)) :: (y.mx.kb ++ (y.osK ++ (y.isK ++ (y.dsK ++ (y.msK ++ (stKb y.st ++ (y.jsK ++ (csl.kb (encI ((List.range n).map fun (n : Nat) => pcell y.b qs.length n)) 1 3 ++ (rowsKb ((qs).map fun r => (r.1, encI r.2)) 1 3 ++ F))))))))))) ?_ ?_
    ·
     refine C_seq ?_
     refine C_region ?_
     refine wm (i := 0) rfl rfl rfl rfl ?_
     refine wc (i := 1) rfl rfl rfl rfl ?_
     refine W_q (i := 2) rfl rfl rfl (q_fieldAddr fb_84_5 rfl rfl) ?_
     refine W_q (i := 3) rfl rfl rfl (q_load ag_63 rfl aP rfl) ?_
     refine wm (i := 4) rfl rfl rfl rfl ?_
     refine W_call (i := 5) rfl rfl rfl rfl rfl rfl pf_70 (s_misup y.mx hy.mx n) aC ?_
     rintro _ _ ⟨rfl, rfl⟩
     refine W_q (i := 6) rfl rfl rfl (q_not rfl) ?_
     refine W_nil ?_
     refine N_seq ?_
     refine C_cond rfl (fun ht51 => ?_) (fun ht51 => ?_)
     ·
      try simp only [CL] at ht51
      refine C_region ?_
      refine wa (i := 0) rfl rfl rfl rfl ?_
      refine W_nil ?_
      exact fun a w ha hk => ⟨⟨Qd.top, by rw [pcell, if_pos (by simpa [BrA.b] using ht51)]⟩, ha.sub aS, hk.take aT⟩
     ·
      try simp only [CL] at ht51
      refine C_skip ?_
      exact fun a w ha hk => ⟨⟨fr, by rw [pcell, if_neg (by simpa [BrA.b] using ht51)]; exact hfr⟩, ha.sub aS, hk.take aT⟩
    ·
     rintro ⟨fr, hfr⟩
     dsimp only
     subst hfr
     refine C_region ?_
     refine wm (i := 0) rfl rfl rfl rfl ?_
     refine wm (i := 1) rfl rfl rfl rfl ?_
     refine wm (i := 2) rfl rfl rfl rfl ?_
     refine wm (i := 3) rfl rfl rfl rfl ?_
     refine W_q (i := 4) rfl rfl rfl (q_idxSl Tryz.underlying143 sz_66 hosk rfl rfl (Int.natCast_nonneg _) (show (qs.length : Int) < (y.c.rows.toNat : Nat) from by omega) rfl) ?_
     refine W_q (i := 5) rfl rfl rfl (q_loadSl (i := qs.length) (v := csl.val) ag_66 rfl hosk aC (by simp) (partV_at hil _)) ?_
     refine wm (i := 6) rfl rfl rfl rfl ?_
     refine W_e (i := 7) rfl rfl rfl (e_lit1 Tryz.underlying66 sz_3 zf_3 (by decide) rfl rfl) ?_
     intro b59
     refine W_e (i := 8) rfl rfl rfl (e_app1 (us := [.int .i64 (pcell y.b qs.length n)]) (vs' := encI (((List.range n).map fun (n : Nat) => pcell y.b qs.length n) ++ [pcell y.b qs.length n])) Tryz.underlying66 inf_3 rfl rfl rfl rfl aP aC hcok (by omega) (by omega) rfl rfl (by simp [encI])) ?_
     rintro ⟨sl', hsl', hok'⟩
     refine W_q (i := 9) rfl rfl rfl (q_idxSl Tryz.underlying143 sz_66 hosk rfl rfl (Int.natCast_nonneg _) (show (qs.length : Int) < (y.c.rows.toNat : Nat) from by omega) rfl) ?_
     refine W_e (i := 10) rfl rfl rfl (e_storeSl (i := qs.length) sz_66 rfl rfl hosk aC (by simp) rfl (by rw [partV_len (by simp; omega)]; exact hil) (partV_put hil (csl, []) (sl', []))) ?_
     intro _
     refine W_nil ?_
     refine N_seq ?_
     refine C_region ?_
     refine W_q (i := 0) rfl rfl rfl (q_add rfl rfl (succ64 (by omega))) ?_
     refine wm (i := 1) rfl rfl rfl rfl ?_
     refine W_nil ?_
     exact fun a w ha hk => ⟨⟨(n + 1, sl'), by dsimp only; omega, by dsimp only; rw [range_snoc]; exact hok'⟩, by dsimp only; omega, ha.sub aS, by dsimp only; rw [range_snoc]; exact hk.take aT⟩
  ·
   try simp only [CL] at ht25
   have hnl : n = y.c.nodes.toNat := by omega
   subst hnl
   have hpr : ((List.range y.c.nodes.toNat).map fun (n : Nat) => pcell y.b qs.length n) = prow y.b qs.length := rfl
   rw [hpr] at hcok ⊢
   refine C_exit ?_
   refine N_seq ?_
   refine C_region ?_
   refine W_q (i := 0) rfl rfl rfl (q_add rfl rfl (r := (((qs ++ [(csl, prow y.b qs.length)]).length : Nat) : Int)) (by rw [List.length_append]; exact succ64 (by omega))) ?_
   refine wm (i := 1) rfl rfl rfl rfl ?_
   refine W_nil ?_
   exact fun a w ha hk => ⟨⟨qs ++ [(csl, prow y.b qs.length)], by simp; omega, by rw [List.map_append, hqm, List.length_append]; exact (range_snoc (prow y.b) qs.length).symm, by intro r hr9; rcases List.mem_append.1 hr9 with h | h; exact hqo r h; (simp at h; subst h; exact ⟨hcok, by simp [prow]; have : y.b.c.nodes = y.c.nodes := rfl; omega⟩)⟩, by simp; omega, ha.sub aS, by rw [partV_own qs csl (prow y.b qs.length)]; exact hk.take (by (try simp only [rowsKb_nil, rowsKb_app, rowsKb_cons, List.map_append, List.map_cons, List.map_nil]); exact aT)⟩
 ·
  try simp only [CL] at ht17
  have hil : qs.length = y.c.rows.toNat := by omega
  refine C_exit ?_
  refine N_seq ?_
  refine C_seq ?_
  refine C_region ?_
  refine wm (i := 0) rfl rfl rfl rfl ?_
  refine wa (i := 1) rfl rfl rfl rfl ?_
  refine W_nil ?_
  refine N_seq ?_
  refine C_ret fun a w ha hk => ?_
  exact R_val (e := .ret) (.inl rfl) ha.defers (res1 ha rfl rfl) (hR _ _ _ ⟨⟨(⟨some (b13, 0), y.c.rows.toNat, y.c.rows.toNat⟩ : Sl), qs⟩, rfl, ⟨⟨by simp [ProfA.vals]; omega, Nat.le_refl _, by simp⟩, hqo, by dsimp only; omega⟩, by rw [profile_eq]; simp only [ProfA.m]; rw [hqm, hil]; rfl, rfl⟩ (by rw [show partV qs y.c.rows.toNat = qs.map (fun r => r.1.val) from by rw [← hil, partV_full]] at hk; exact hk.take (by (try simp only [BrA.kb_eq, ProfA.kb, ProfA.vals, ProfA.own]); exact aT)))
end Go.SL
namespace Go.SL
open Go Go.Proofs
set_option maxRecDepth 10000
def loadOs (x : Qd.Job) (l : List (Int × Nat)) : List Qd.Order := l.map fun p => ⟨p.1, { kind := 3, job := x.j.id, ver := x.ver, rank := p.2, credit := x.j.credit }⟩
theorem loadGo_eq (x : Qd.Job) : ∀ (l : List (Int × Nat)) (b : Qd.Brain), Qd.Brain.loadGo x l b = { b with orders := b.orders ++ loadOs x l }
  | [], b => by simp [Qd.Brain.loadGo, loadOs]
  | (n, r) :: l, b => by
    rw [Qd.Brain.loadGo, loadGo_eq x l]
    simp [Qd.Brain.order, loadOs]
theorem loadOs_0 (x : Qd.Job) (l : List (Int × Nat)) : loadOs x (l.take 0) = [] := rfl
theorem loadOs_snoc (x : Qd.Job) {l : List Int} {i : Nat} {n : Int} (h : l[i]? = some n) : loadOs x (l.zipIdx.take (i + 1)) = loadOs x (l.zipIdx.take i) ++ [⟨n, { kind := 3, job := x.j.id, ver := x.ver, rank := i, credit := x.j.credit }⟩] := by
  have h2 : l.zipIdx[i]? = some (n, i) := by rw [List.getElem?_zipIdx, h]; simp
  rw [List.take_add_one, h2]; simp [loadOs]
def loadJob (j : JobA) (s : Qd.Start) (sl : Sl) (ld : Nat) : JobA := { j with x := { j.x with at_ := s.nodes, loaded := [], j := { j.x.j with state := 1 } }, at_ := sl, ld := some ld }
theorem loadJob_ok {j : JobA} (h : j.Ok) {s : Qd.Start} {sl : Sl} (ld : Nat) (hs : sl.Ok (encI s.nodes) 1) (hn : s.nodes.Nodup) (h16 : s.nodes.length ≤ 16) (hsv : j.sv = none) (hrn : j.x.ran = none) : (loadJob j s sl ld).Ok :=
  ⟨hs, h16, hn, fun h => (by simp [loadJob] at h), fun _ => rfl, h.sv, fun s h => (by simp only [loadJob, hsv] at h; cases h), h.dr, h.rn, h.r32, h.rle, h.idr, h.kr, h.rnk, fun p hp => (by simp only [loadJob, hrn] at hp; cases hp)⟩
def BrA.mxp (y : BrA) (m : Qd.Mx) : BrA := { y with mx := putMx y.mx m }
theorem try_ok {m : Qd.Mx} (h : m.Ok) {job row : Int} {ns : List Int} (hj : 0 < job ∧ job < 4294967296) (hg : GoodPut m job row ns) : (m.tryPut job row ns).2.Ok ∧ (m.tryPut job row ns).2.rows = m.rows ∧ (m.tryPut job row ns).2.nodes = m.nodes ∧ (m.tryPut job row ns).2.taken.length = m.taken.length := by
  rw [hg.try]
  split
  · exact ⟨h, rfl, rfl, rfl⟩
  · rename_i h1
    split
    · exact ⟨h, rfl, rfl, rfl⟩
    · rename_i h2
      have hr := Qd.Mx.isRow_lt h hg.row
      refine ⟨Qd.Mx.put_ok h hj (by dsimp only; omega) ⟨Qd.maskOf_pos h hg.ne hg.all, Qd.maskOf_lt16 h hg.all⟩ (by simpa using h1) (by simpa using h2), rfl, rfl, ?_⟩
      simp [Qd.Mx.put]
theorem load_no {b : Qd.Brain} {id : Int} {x : Qd.Job} {s : Qd.Start} {e : Int} {M : Qd.Mx} (h : b.m.tryPut x.j.id s.row s.nodes = (e, M)) (he : e ≠ 0) : b.load id x s = { b with m := M } := by
  rw [Qd.Brain.load, h]; exact if_pos he
theorem load_yes {b : Qd.Brain} {id : Int} {x : Qd.Job} {s : Qd.Start} {M : Qd.Mx} (h : b.m.tryPut x.j.id s.row s.nodes = (0, M)) :
    b.load id x s = { (({ b with m := M } : Qd.Brain).setJob id { x with at_ := s.nodes, loaded := [], j := { x.j with state := 1 } }) with orders := b.orders ++ loadOs x s.nodes.zipIdx } := by
  rw [Qd.Brain.load, h]
  dsimp only
  rw [if_neg (by simp), loadGo_eq]
  rfl
theorem wrapu8 {x : Int} (h0 : 0 ≤ x) (h1 : x < 256) : IntKind.u8.wrap x = x := by rw [wrap_u8]; omega
theorem pf_116 : plainFn Tryz.prog 116 = true := by kernel_rfl
set_option maxHeartbeats 2000000 in
theorem s_load [Bs] (y : BrA) (hy : y.Ok) (id : Int) (j : JobA) (hlk : Qd.lookA y.jobs id = some j) (s : Qd.Start) (sl : Sl) (hsl : sl.Ok (encI s.nodes) 1) (hg : GoodPut y.mx.m j.x.j.id s.row s.nodes) (h16 : s.nodes.length ≤ 16) (hsv : j.sv = none) (hrn : j.x.ran = none) (hsz0 : y.sz + 16 ≤ BIG) : Spec Tryz.prog 79 [y.ptr, j.ptr, .agg (startV s sl).toArray] (y.kb ++ sl.kb (encI s.nodes) 1 3) (fun v K' => v = .tuple #[] ∧ ∃ y', BTo y y' id (y.b.load id j.x s) 16 ∧ K' = y'.kb ++ sl.kb (encI s.nodes) 1 3) := by
 obtain ⟨hjo, hji, hjk⟩ := hy.at hlk
 have hsz : y.sz + 16 ≤ BIG := hsz0
 unfold BrA.sz BIG at hsz
 have hll : sl.len = s.nodes.length := by have := hsl.vlen; simp [encI] at this; omega
 have hnd : s.nodes.Nodup := hg.inc.imp (fun h => Int.ne_of_lt h)
 have htry := try_ok hy.mx.m hjo.idr hg
 obtain ⟨e, M, hre⟩ : ∃ e M, y.mx.m.tryPut j.x.j.id s.row s.nodes = (e, M) := ⟨_, _, rfl⟩
 rw [hre] at htry
 have hym : (y.mxp M).Ok := hy.mxs htry.1 htry.2.1 htry.2.2.1 htry.2.2.2
 refine spec_body Tryz.func79 rfl rfl fun F R hR => ?_
 try simp only [NL]
 refine C_perm _ ?_ ((BrA.open_ hlk).append_right (sl.kb (encI s.nodes) 1 3 ++ F))
 rw [opn_eq]
 try simp only [NL]
 refine C_seq ?_
 refine C_region ?_
 refine W_e (i := 0) rfl rfl rfl (e_box rfl) ?_
 intro b5
 refine W_nil ?_
 refine N_seq ?_
 refine C_seq ?_
 refine C_seq ?_
 refine C_draw (.cons 0 .pure (.cons 1 .pure (.cons 2 .pure (.cons 3 .read (.cons 4 .pure (.cons 5 .pure (.cons 6 .pure (.cons 7 .pure (.cons 8 .read (.cons 9 .pure (.cons 10 .read (.cons 11 .pure (.cons 12 .read (.cons 13 .eff (.cons 14 .pure .nil))))))))))))))) (fun w => Knows w _) 13 mo (by kernel_rfl) (fun _ h => h) ?_
 refine D_p rfl rfl rfl (q_move rfl) ?_
 refine D_p rfl rfl rfl (q_nilCheck rfl) ?_
 refine D_p rfl rfl rfl (q_fieldAddr fb_84_5 rfl rfl) ?_
 refine D_r rfl rfl rfl (q_load ag_63 rfl aP rfl) ?_
 refine D_p rfl rfl rfl (q_move rfl) ?_
 refine D_p rfl rfl rfl (q_nilCheck rfl) ?_
 refine D_p rfl rfl rfl (q_fieldAddr fb_90_0 rfl rfl) ?_
 refine D_p rfl rfl rfl (q_fieldAddr fb_35_0 rfl rfl) ?_
 refine D_r rfl rfl rfl (q_load ag_31 rfl aP rfl) ?_
 refine D_p rfl rfl rfl (q_fieldAddr fb_146_1 rfl rfl) ?_
 refine D_r rfl rfl rfl (q_load ag_3 rfl aP rfl) ?_
 refine D_p rfl rfl rfl (q_fieldAddr fb_146_2 rfl rfl) ?_
 refine D_r rfl rfl rfl (q_load ag_66 rfl aP rfl) ?_
 refine D_call rfl rfl rfl rfl rfl rfl pf_116 (s_mtryput y.mx hy.mx j.x.j.id s.row s.nodes sl hsl hg h16) (tk_both aC aC) (.inl rfl) ?_
 rintro _ _ ⟨rfl, rfl⟩
 rw [hre]
 dsimp only
 try simp only [NL]
 refine D_p rfl rfl rfl (q_int rfl rfl rfl) ?_
 refine D_nil ?_
 refine N_seq ?_
 refine C_cond rfl (fun ht22 => ?_) (fun ht22 => ?_)
 ·
  try simp only [CL] at ht22
  refine C_ret fun a w ha hk => ?_
  exact R_val (e := .ret) (.inl rfl) ha.defers (res0 rfl) (hR _ _ _ ⟨rfl, (y.mxp M), ⟨hym, (load_no (b := y.b) hre (by simpa using ht22)).symm, rfl, by simp only [BrA.sz, BrA.mxp]; omega, Nat.le_refl _, fun _ _ => rfl⟩, rfl⟩ (by simp only [List.append_assoc]; exact (hk.take (T := opn (y.mxp M) j (mapV JobA.ptr y.jobs) (mapKb JobA.kb (Qd.delA y.jobs id)) ++ (sl.kb (encI s.nodes) 1 3 ++ F)) (by (try simp only [opn_eq, BrA.mxp, BrA.osK, BrA.isK, BrA.dsK, BrA.msK]); exact aT)).perm ((BrA.open_ (y := (y.mxp M)) hlk).symm.append_right (sl.kb (encI s.nodes) 1 3 ++ F))))
 ·
  try simp only [CL] at ht22
  refine C_skip ?_
  refine N_seq ?_
  refine C_seq ?_
  refine C_region ?_
  refine wm (i := 0) rfl rfl rfl rfl ?_
  refine wm (i := 1) rfl rfl rfl rfl ?_
  refine wm (i := 2) rfl rfl rfl rfl ?_
  refine W_q (i := 3) rfl rfl rfl (q_fieldAddr fb_146_2 rfl rfl) ?_
  refine W_q (i := 4) rfl rfl rfl (q_load ag_66 rfl aP rfl) ?_
  refine W_call (i := 5) rfl rfl rfl rfl rfl rfl pf_117 (s_cloneInt sl (encI s.nodes) hsl (by omega) (encI_one _)) aC ?_
  rintro _ _ ⟨sl', rfl, hsl', hlen', rfl⟩
  refine W_e (i := 6) rfl rfl rfl (e_makeMap .i64) ?_
  intro b29
  refine wc (i := 7) rfl rfl rfl rfl ?_
  refine W_q (i := 8) rfl rfl rfl (q_fieldAddr fb_90_1 rfl rfl) ?_
  refine W_e (i := 9) rfl rfl rfl (e_store sz_66 rfl rfl rfl aU (by first | decide | exact Nat.le_of_ble_eq_true rfl | simp [splice, Value.cells])) ?_
  intro _
  refine wc (i := 10) rfl rfl rfl rfl ?_
  refine W_q (i := 11) rfl rfl rfl (q_fieldAddr fb_90_2 rfl rfl) ?_
  refine W_e (i := 12) rfl rfl rfl (e_store sz_81 rfl rfl rfl aU (by first | decide | exact Nat.le_of_ble_eq_true rfl | simp [splice, Value.cells])) ?_
  intro _
  refine wc (i := 13) rfl rfl rfl rfl ?_
  refine W_q (i := 14) rfl rfl rfl (q_fieldAddr fb_90_0 rfl rfl) ?_
  refine W_q (i := 15) rfl rfl rfl (q_fieldAddr fb_35_4 rfl rfl) ?_
  refine W_e (i := 16) rfl rfl rfl (e_store sz_5 rfl rfl rfl aU (by first | decide | exact Nat.le_of_ble_eq_true rfl | simp [splice, Value.cells])) ?_
  intro _
  refine W_nil ?_
  refine N_seq ?_
  refine C_seq ?_
  refine C_region ?_
  refine wm (i := 0) rfl rfl rfl rfl ?_
  refine wc (i := 1) rfl rfl rfl rfl ?_
  refine W_q (i := 2) rfl rfl rfl (q_fieldAddr fb_90_1 rfl rfl) ?_
  refine W_q (i := 3) rfl rfl rfl (q_load ag_66 rfl aP rfl) ?_
  refine W_q (i := 4) rfl rfl rfl (q_lenSl Tryz.underlying66 rfl rfl) ?_
  refine wm (i := 5) rfl rfl rfl rfl ?_
  refine W_nil ?_
  refine N_seq ?_
  refine C_block ?_
  refine C_loopT (ι := { q : Nat × Sl // q.1 ≤ s.nodes.length ∧ q.2.Ok (flat orderV (y.os ++ loadOs j.x (s.nodes.zipIdx.take q.1))) 14 }) (fun q => [(0, y.ptr), (1, j.ptr), (40, sl'.val), (41, .int .i64 (sl'.len : Int)), (42, .int .i64 (q.1.1 : Int))]) (fun q => opn ((y.mxp M).osa (y.os ++ loadOs j.x (s.nodes.zipIdx.take q.1.1)) q.1.2) (loadJob j s sl' b29) (mapV JobA.ptr y.jobs) (mapKb JobA.kb (Qd.delA y.jobs id)) ++ (sl.kb (encI s.nodes) 1 3 ++ F)) (fun q => s.nodes.length - q.1.1) ⟨(0, y.osl), Nat.zero_le _, by simpa [loadOs] using hy.osl⟩ aS (by (try simp only [opn_eq, BrA.osa, BrA.mxp, loadJob, loadOs_0, List.append_nil, BrA.osK, BrA.isK, BrA.dsK, BrA.msK, setKb_some]); exact aT) ?_
  rintro ⟨⟨i, osl⟩, hi, hoo⟩
  dsimp only at hi hoo ⊢
  obtain ⟨os, hos⟩ : ∃ os, y.os ++ loadOs j.x (s.nodes.zipIdx.take i) = os := ⟨_, rfl⟩
  rw [hos] at hoo ⊢
  have hol : os.length = y.os.length + i := by rw [← hos]; simp [loadOs]; omega
  refine C_to ((y.blk, Cells ((y.mxp M).osa os osl).cells 84) :: (j.blk, Cells (loadJob j s sl' b29).cells 90) :: (sl'.kb (encI s.nodes) 1 3 ++ (osl.kb (flat orderV os) 14 97 ++ ((y.up, SetB y.ups) :: (y.jb, MapI .u32 (mapV JobA.ptr y.jobs)) :: ((b29, SetB []) :: (svKb j.sv ++ (setKb j.dr (j.x.drops.getD []) ++ (ranKb j.rn (j.x.ran.getD []) ++ ((putMx y.mx M).kb ++ (y.isK ++ (y.dsK ++ (y.msK ++ (stKb y.st ++ ((mapKb JobA.kb (Qd.delA y.jobs id)) ++ (sl.kb (encI s.nodes) 1 3 ++ F))))))))))))))) (by (try simp only [opn_eq, BrA.osa, BrA.mxp, loadJob, BrA.osK, BrA.isK, BrA.dsK, BrA.msK, setKb_some]); exact aT) ?_
  refine C_seq ?_
  refine C_region ?_
  refine W_q (i := 0) rfl rfl rfl (q_int rfl rfl rfl) ?_
  refine W_nil ?_
  refine N_seq ?_
  refine C_seq ?_
  refine C_cond rfl (fun ht43 => ?_) (fun ht43 => ?_)
  ·
   try simp only [CL] at ht43
   have hil : i < s.nodes.length := by omega
   obtain ⟨n, hn⟩ : ∃ n, s.nodes[i]? = some n := ⟨_, List.getElem?_eq_getElem hil⟩
   refine C_skip ?_
   refine N_seq ?_
   refine C_seq ?_
   refine C_block ?_
   refine C_seq ?_
   refine C_region ?_
   refine wm (i := 0) rfl rfl rfl rfl ?_
   refine W_q (i := 1) rfl rfl rfl (q_idxSl Tryz.underlying66 sz_3 hsl' rfl rfl (Int.natCast_nonneg _) (by omega) rfl) ?_
   refine W_q (i := 2) rfl rfl rfl (q_loadSl (i := i) (v := .int .i64 n) ag_3 rfl hsl' aC (by simp) (by simp [encI, hn])) ?_
   refine wa (i := 3) rfl rfl rfl rfl ?_
   refine wa (i := 4) rfl rfl rfl rfl ?_
   refine W_nil ?_
   refine N_seq ?_
   refine C_draw (.cons 0 .pure (.cons 1 .pure (.cons 2 .pure (.cons 3 .pure (.cons 4 .pure (.cons 5 .pure (.cons 6 .read (.cons 7 .pure (.cons 8 .pure (.cons 9 .pure (.cons 10 .read (.cons 11 .pure (.cons 12 .pure (.cons 13 .pure (.cons 14 .pure (.cons 15 .pure (.cons 16 .pure (.cons 17 .read (.cons 18 .pure (.cons 19 .eff .nil)))))))))))))))))))) (fun w => Knows w _) 19 mo (by kernel_rfl) (fun _ h => h) ?_
   refine D_p rfl rfl rfl (q_move rfl) ?_
   refine D_p rfl rfl rfl (q_move rfl) ?_
   refine D_p rfl rfl rfl (q_move rfl) ?_
   refine D_p rfl rfl rfl (q_nilCheck rfl) ?_
   refine D_p rfl rfl rfl (q_fieldAddr fb_90_0 rfl rfl) ?_
   refine D_p rfl rfl rfl (q_fieldAddr fb_35_0 rfl rfl) ?_
   refine D_r rfl rfl rfl (q_load ag_31 rfl aP rfl) ?_
   refine D_p rfl rfl rfl (q_move rfl) ?_
   refine D_p rfl rfl rfl (q_nilCheck rfl) ?_
   refine D_p rfl rfl rfl (q_fieldAddr fb_90_4 rfl rfl) ?_
   refine D_r rfl rfl rfl (q_load ag_31 rfl aP rfl) ?_
   refine D_p rfl rfl rfl (q_move rfl) ?_
   refine D_p rfl rfl rfl (q_conv Tryz.underlying3 Tryz.underlying5 rfl (r := (i : Int)) (wrapu8 (by omega) (by omega))) ?_
   refine D_p rfl rfl rfl (q_move rfl) ?_
   refine D_p rfl rfl rfl (q_nilCheck rfl) ?_
   refine D_p rfl rfl rfl (q_fieldAddr fb_90_0 rfl rfl) ?_
   refine D_p rfl rfl rfl (q_fieldAddr fb_35_5 rfl rfl) ?_
   refine D_r rfl rfl rfl (q_load ag_3 rfl aP rfl) ?_
   refine D_p rfl rfl rfl (q_build (vs := [(0, .int .u8 3), (6, .int .u32 j.x.j.id), (7, .int .u32 j.x.ver), (8, .int .u8 (i : Int)), (9, .int .i64 j.x.j.credit)]) (cs := (noteO { kind := 3, job := j.x.j.id, ver := j.x.ver, rank := i, credit := j.x.j.credit }).toArray) ps_72 zf_72 rfl (by simp [Instr.fill, Value.cells, noteO, noteV])) ?_
   refine D_call rfl rfl rfl rfl rfl rfl pf_74 (s_order y.blk ((y.mxp M).osa os osl).cells osl os hoo rfl (by omega) n { kind := 3, job := j.x.j.id, ver := j.x.ver, rank := i, credit := j.x.j.credit }) (tk_cons1 (by repeat (first | exact tk_one | apply tk_app | apply tk_cons)) aC) (.inl rfl) ?_
   rintro _ _ ⟨rfl, osl', hoo', rfl⟩
   try simp only [NL]
   refine D_nil ?_
   refine N_seq ?_
   refine C_region ?_
   refine W_q (i := 0) rfl rfl rfl (q_add rfl rfl (succ64 (by omega))) ?_
   refine wm (i := 1) rfl rfl rfl rfl ?_
   refine W_nil ?_
   exact fun a w ha hk => ⟨⟨(i + 1, osl'), by dsimp only; omega, by dsimp only; rw [loadOs_snoc _ hn, ← List.append_assoc y.os, hos]; exact hoo'⟩, by dsimp only; omega, ha.sub aS, by dsimp only; rw [loadOs_snoc _ hn, ← List.append_assoc y.os, hos]; exact hk.take (by (try simp only [opn_eq, BrA.osa, BrA.mxp, loadJob, BrA.osK, BrA.isK, BrA.dsK, BrA.msK, setKb_some]); exact aT)⟩
  ·
   try simp only [CL] at ht43
   have hil : i = s.nodes.length := by omega
   subst hil
   have hzl : s.nodes.zipIdx.length = s.nodes.length := by simp
   rw [← hzl, List.take_length] at hos
   refine C_exit ?_
   intro a w ha hk
   exact R_val (e := .normal) (.inr rfl) ha.defers (res0 rfl) (hR _ _ _ ⟨rfl, ((y.mxp M).osa os osl).set id (loadJob j s sl' b29), ⟨(hym.osa hoo).set (y := (y.mxp M).osa os osl) hlk (loadJob_ok hjo b29 hsl' hnd h16 hsv hrn) hji rfl, by have he : e = 0 := (by simpa using ht22); subst he; rw [load_yes (b := y.b) hre, BrA.set_b, show y.b.orders = y.os from rfl, hos]; rfl, rfl, by simp only [BrA.sz, BrA.set, BrA.osa, BrA.mxp]; omega, len_set (y := (y.mxp M).osa os osl) hlk, oth_set (y := (y.mxp M).osa os osl)⟩, rfl⟩ (by simp only [List.append_assoc]; exact ((hk.take (T := opn (((y.mxp M).osa os osl).set id (loadJob j s sl' b29)) (loadJob j s sl' b29) (mapV JobA.ptr y.jobs) (mapKb JobA.kb (Qd.delA y.jobs id)) ++ (sl.kb (encI s.nodes) 1 3 ++ F)) (by (try simp only [opn_eq, BrA.set, BrA.osK, BrA.isK, BrA.dsK, BrA.msK, setKb_some, BrA.osa, BrA.mxp, loadJob]); exact aT)).perm ((BrA.close_ (y := ((y.mxp M).osa os osl).set id (loadJob j s sl' b29)) (id := id) (a := (loadJob j s sl' b29)) BrA.set_look (BrA.set_pm (y := ((y.mxp M).osa os osl)) (a' := (loadJob j s sl' b29)) hlk rfl) (BrA.set_js (y := ((y.mxp M).osa os osl)) (a' := (loadJob j s sl' b29)) hlk)).append_right (sl.kb (encI s.nodes) 1 3 ++ F)))))
end Go.SL
namespace Qd
open Go.Sort
theorem sortI_inc {l : List Int} (h : l.Nodup) : (sortI l).Pairwise (· < ·) := by
  have h1 := sortBy_sorted swoI l
  have h2 : (sortI l).Nodup := (sortBy_perm _ l).nodup_iff.2 h
  have h3 : (sortI l).Pairwise (fun a b => (decide (b < a)) = false ∧ a ≠ b) := List.Pairwise.and h1 h2
  exact h3.imp (fun {a b} h => by have := h.1; have := h.2; simp at *; omega)
structure GoodStart (s : Start) (rows n : Nat) : Prop where
  r0 : 0 ≤ s.row
  r1 : s.row < rows
  ne : s.nodes ≠ []
  all : ∀ x ∈ s.nodes, 0 ≤ x ∧ x < n
  inc : s.nodes.Pairwise (· < ·)
structure GoodBest (s : Start) (rows n : Nat) : Prop where
  r0 : 0 ≤ s.row
  r1 : s.row < rows
  ne : s.nodes ≠ []
  all : ∀ x ∈ s.nodes, 0 ≤ x ∧ x < n
  nd : s.nodes.Nodup
theorem soonest_good {row : List Int} {k : Int} {l : List (Int × Int)} (h : soonest row k = some l) (hk : 1 ≤ k) : l.map (fun p => p.1) ≠ [] ∧ (∀ x ∈ l.map (fun p : Int × Int => p.1), 0 ≤ x ∧ x < (row.length : Int)) ∧ (l.map (fun p => p.1)).Nodup := by
  unfold soonest at h
  dsimp only at h
  split at h
  · cases h
  · rename_i hl
    cases h
    have hp := sortBy_perm cellLt ((row.zipIdx).map fun p => ((p.2 : Int), capIn p.1))
    have hm : ((row.zipIdx).map fun p => ((p.2 : Int), capIn p.1)).map (·.1) = (List.range row.length).map fun (i : Nat) => (i : Int) := by
      rw [List.map_map, List.range_eq_range', ← List.zipIdx_map_snd 0 row, List.map_map]; rfl
    have hp2 := hp.map (·.1)
    rw [hm] at hp2
    have hsub : ((sortBy cellLt ((row.zipIdx).map fun p => ((p.2 : Int), capIn p.1))).take k.toNat).map (·.1) |>.Sublist ((sortBy cellLt ((row.zipIdx).map fun p => ((p.2 : Int), capIn p.1))).map (·.1)) := (List.take_sublist _ _).map _
    refine ⟨?_, ?_, ?_⟩
    · intro he
      have := congrArg List.length he
      simp only [List.length_map, List.length_take, hp.length_eq, List.length_zipIdx, List.length_nil] at this
      simp only [List.length_map, List.length_zipIdx] at hl
      omega
    · intro x hx
      have := hp2.mem_iff.1 (hsub.subset hx)
      simp only [List.mem_map, List.mem_range] at this
      obtain ⟨i, hi, rfl⟩ := this
      omega
    · refine List.Nodup.sublist hsub (hp2.nodup_iff.2 ?_)
      refine List.Pairwise.map _ (fun a b h => ?_) List.nodup_range
      intro he; exact h (by omega)
theorem firstGo_good {a : Ask} (hk : 1 ≤ a.k) {rows n : Nat} : ∀ (l : List (List Int × Nat)) (best : Start), (∀ p ∈ l, p.1.length = n ∧ p.2 < rows) → (best.ok = true → GoodBest best rows n) → (firstGo a l best).ok = true → GoodBest (firstGo a l best) rows n
  | [], best, _, hb, ho => hb ho
  | (row, i) :: p, best, hl, hb, ho => by
    have h0 := hl _ (.head _)
    have h1 : ∀ q ∈ p, q.1.length = n ∧ q.2 < rows := fun q hq => hl q (.tail _ hq)
    rw [firstGo] at ho ⊢
    cases hs : soonest row a.k with
    | none => rw [hs] at ho; exact firstGo_good hk p best h1 hb ho
    | some l =>
      rw [hs] at ho
      dsimp only at ho ⊢
      have hg := soonest_good hs hk
      rw [h0.1] at hg
      split
      · rename_i hc; rw [if_pos hc] at ho; exact firstGo_good hk p best h1 hb ho
      · rename_i hc
        rw [if_neg hc] at ho
        have h2 := h0.2
        dsimp only at h2
        exact firstGo_good hk p _ h1 (fun _ => ⟨by dsimp only; omega, by dsimp only; omega, hg.1, hg.2.1, hg.2.2⟩) ho
theorem first_good {p : Profile} {a : Ask} (hk : 1 ≤ a.k) {n : Nat} (hp : ∀ row ∈ p, row.length = n) (ho : (first p a).ok = true) : GoodStart (first p a) p.length n := by
  unfold first at ho ⊢
  rw [if_neg (by omega)] at ho ⊢
  dsimp only at ho ⊢
  have h := firstGo_good hk (rows := p.length) (n := n) p.zipIdx start0 (fun q hq => by
    have := List.mem_zipIdx hq
    refine ⟨hp _ ?_, by omega⟩
    rw [this.2.2]; exact List.getElem_mem _) (fun h => by cases h) ho
  have hperm := sortBy_perm (fun x y : Int => decide (x < y)) (firstGo a p.zipIdx start0).nodes
  refine ⟨h.r0, h.r1, ?_, ?_, sortI_inc h.nd⟩
  · intro he
    have := hperm.length_eq
    rw [show sortBy (fun x y : Int => decide (x < y)) (firstGo a p.zipIdx start0).nodes = [] from he] at this
    exact h.ne (List.eq_nil_of_length_eq_zero this.symm)
  · intro x hx
    exact h.all x (hperm.mem_iff.1 hx)
theorem reserve_dims {p : Profile} {s : Start} {len : Int} {n : Nat} (hp : ∀ row ∈ p, row.length = n) : (reserve p s len).length = p.length ∧ ∀ row ∈ reserve p s len, row.length = n := by
  unfold reserve
  split
  · exact ⟨rfl, hp⟩
  · refine ⟨by simp, ?_⟩
    intro row hr
    have hf : ∀ (ns : List Int) (r : List Int), (ns.foldl (fun (row : List Int) (n : Int) => if 0 ≤ n ∧ n < row.length then row.set n.toNat (capAdd s.at_ (imax len 1)) else row) r).length = r.length := by
      intro ns
      induction ns with
      | nil => intro r; rfl
      | cons a l ih => intro r; rw [List.foldl_cons, ih]; split <;> simp
    obtain ⟨i, hi⟩ := List.mem_iff_getElem?.1 hr
    rw [List.getElem?_modify] at hi
    cases hx : p[i]? with
    | none => rw [hx] at hi; cases hi
    | some x =>
      rw [hx] at hi
      have hxl := hp x (List.mem_of_getElem? hx)
      have hi := Option.some.inj hi
      subst hi
      split
      · rw [hf]; exact hxl
      · exact hxl
theorem planGo_good {n : Nat} : ∀ (l : List Ask) (p : Profile), (∀ a ∈ l, 1 ≤ a.k) → (∀ row ∈ p, row.length = n) → ∀ s ∈ planGo p l, s.ok = true → GoodStart s p.length n
  | [], p, _, _, s, hs, _ => by cases hs
  | a :: l, p, hk, hp, s, hs, ho => by
    simp only [planGo, List.mem_cons] at hs
    rcases hs with rfl | hs
    · exact first_good (hk a (.head _)) hp ho
    · have hr := reserve_dims (s := first p a) (len := a.len) hp
      have := planGo_good l _ (fun a ha => hk a (.tail _ ha)) hr.2 s hs ho
      rwa [hr.1] at this
theorem planGo_len : ∀ (l : List Ask) (p : Profile), (planGo p l).length = l.length
  | [], p => rfl
  | a :: l, p => by simp [planGo, planGo_len l]
end Qd
namespace Go.SL
open Go Go.Proofs
set_option maxRecDepth 10000
def askOf (b : Qd.Brain) (id : Int) : Qd.Ask := match b.job id with | some x => ⟨x.j.k, b.length x⟩ | none => ⟨0, 0⟩
def plStep (b : Qd.Brain) (p : Qd.Start × Int) : Qd.Brain := if p.1.ok && decide (p.1.at_ = 0) then (match b.job p.2 with | some x => Qd.Brain.load b p.2 x p.1 | none => b) else b
theorem place_eq (b : Qd.Brain) : b.place = ((Qd.planGo b.profile (b.waiting.map (askOf b))).zip b.waiting).foldl plStep b := rfl
structure PlInv (y yi : BrA) (Z : List (Qd.Start × Int)) (W : List Int) (i : Nat) : Prop where
  ok : yi.Ok
  b : yi.b = (Z.take i).foldl plStep y.b
  blk : yi.blk = y.blk
  sz : yi.sz ≤ y.sz + 16 * i
  len : yi.jobs.length ≤ y.jobs.length
  c : yi.c = y.c
  rest : ∀ k id, i ≤ k → W[k]? = some id → Qd.lookA yi.jobs id = Qd.lookA y.jobs id
theorem load_c (b : Qd.Brain) (id : Int) (x : Qd.Job) (s : Qd.Start) : (b.load id x s).c = b.c := by
  unfold Qd.Brain.load
  dsimp only
  split
  · rfl
  · rw [loadGo_eq]; rfl
theorem PlInv.stay {y yi : BrA} {Z : List (Qd.Start × Int)} {W : List Int} {i : Nat} (h : PlInv y yi Z W i) {p : Qd.Start × Int} (hz : Z[i]? = some p) (hp : (p.1.ok && decide (p.1.at_ = 0)) = false) : PlInv y yi Z W (i + 1) :=
  ⟨h.ok, by rw [List.take_add_one, hz, List.foldl_append, ← h.b]; simp [plStep, hp], h.blk, by have := h.sz; omega, h.len, h.c, fun k id hk => h.rest k id (by omega)⟩
theorem PlInv.step {y yi y' : BrA} {Z : List (Qd.Start × Int)} {W : List Int} {i : Nat} (h : PlInv y yi Z W i) (hn : W.Nodup) {s : Qd.Start} {id : Int} {j : JobA} (hz : Z[i]? = some (s, id)) (hw : W[i]? = some id) (hp : (s.ok && decide (s.at_ = 0)) = true) (hl : Qd.lookA yi.jobs id = some j) (ht : BTo yi y' id (yi.b.load id j.x s) 16) : PlInv y y' Z W (i + 1) := by
  refine ⟨ht.ok, ?_, ht.blk.trans h.blk, ?_, Nat.le_trans ht.len h.len, ?_, ?_⟩
  · rw [List.take_add_one, hz, List.foldl_append, ← h.b]
    show y'.b = plStep yi.b (s, id)
    rw [plStep, if_pos hp]
    dsimp only
    rw [job_b, hl]
    exact ht.b
  · have h1 := ht.sz; have h2 := h.sz; omega
  · have h1 := congrArg Qd.Brain.c ht.b
    rw [load_c] at h1
    exact h1.trans h.c
  · intro k id' hk hid'
    rw [ht.oth id' ?_]
    · exact h.rest k id' (by omega) hid'
    · rintro rfl
      obtain ⟨a1, a2⟩ := List.getElem?_eq_some_iff.1 hw
      obtain ⟨b1, b2⟩ := List.getElem?_eq_some_iff.1 hid'
      have := (List.getElem_inj hn).1 (a2.trans b2.symm)
      omega
/-- who waits, waits -/
theorem waiting_look {y : BrA} (hy : y.Ok) {id : Int} (h : id ∈ y.b.waiting) : ∃ j, Qd.lookA y.jobs id = some j ∧ j.x.j.state = 0 ∧ j.x.drops = none := by
  unfold Qd.Brain.waiting at h
  obtain ⟨aj, h1, rfl⟩ := List.mem_map.1 h
  rw [(Qd.sortBy_perm _ _).mem_iff] at h1
  obtain ⟨x, h2, rfl⟩ := List.mem_map.1 h1
  obtain ⟨h3, h4⟩ := List.mem_filter.1 h2
  obtain ⟨id, _, hid⟩ := List.mem_filterMap.1 h3
  rw [job_b] at hid
  cases hl : Qd.lookA y.jobs id with
  | none => rw [hl] at hid; cases hid
  | some j =>
    rw [hl] at hid
    cases hid
    have := (hy.at hl).2.1
    refine ⟨j, by rw [this]; exact hl, ?_⟩
    simp only [Bool.and_eq_true, beq_iff_eq, Option.isNone_iff_eq_none] at h4
    exact h4
theorem waiting_nodup {y : BrA} (hy : y.Ok) : y.b.waiting.Nodup := by
  unfold Qd.Brain.waiting
  rw [((Qd.sortBy_perm _ _).map _).nodup_iff, List.map_map]
  have key : ∀ (l : List Int), l.Nodup → (((l.filterMap fun id => y.b.job id).filter (fun x => x.j.state == 0 && x.drops.isNone)).map (fun x : Qd.Job => x.j.id)).Nodup ∧ ∀ z ∈ (((l.filterMap fun id => y.b.job id).filter (fun x => x.j.state == 0 && x.drops.isNone)).map (fun x : Qd.Job => x.j.id)), z ∈ l := by
    intro l
    induction l with
    | nil => intro _; simp
    | cons a l ih =>
      intro hn
      obtain ⟨ha, hn⟩ := List.nodup_cons.1 hn
      obtain ⟨i1, i2⟩ := ih hn
      rw [List.filterMap_cons, job_b]
      cases hl : Qd.lookA y.jobs a with
      | none => exact ⟨i1, fun z hz => .tail _ (i2 z hz)⟩
      | some j =>
        have hid := (hy.at hl).2.1
        dsimp only [Option.map_some]
        rw [List.filter_cons]
        split
        · rw [List.map_cons, List.nodup_cons]
          exact ⟨⟨fun h => ha (hid ▸ i2 _ h), i1⟩, fun z hz => (List.mem_cons.1 hz).elim (fun h => by subst h; simp [hid]) (fun h => .tail _ (i2 z h))⟩
        · exact ⟨i1, fun z hz => .tail _ (i2 z hz)⟩
  exact (key _ (ids_nodup hy)).1
theorem waiting_len (y : BrA) : y.b.waiting.length ≤ y.jobs.length := by
  rw [← wait_eq, List.length_map, (Qd.sortBy_perm _ _).length_eq, ← ids_len]
  exact wlist_len _ _
theorem stsKb_cons (p : Qd.Start × Sl) (ss : List (Qd.Start × Sl)) : stsKb (p :: ss) = p.2.kb (encI p.1.nodes) 1 3 ++ stsKb ss := by simp [stsKb, rowsKb_cons]
theorem profile_dims (b : Qd.Brain) : b.profile.length = b.c.rows.toNat ∧ ∀ row ∈ b.profile, row.length = b.c.nodes.toNat := by
  rw [profile_eq]
  refine ⟨by simp, ?_⟩
  intro row h
  obtain ⟨r, _, rfl⟩ := List.mem_map.1 h
  simp [prow]
theorem goodPut_of {y yi : BrA} (hyi : yi.Ok) (hc : yi.c = y.c) {s : Qd.Start} {id : Int} (hid : id ≠ 0) (h : Qd.GoodStart s y.c.rows.toNat y.c.nodes.toNat) : GoodPut yi.mx.m id s.row s.nodes := by
  have h1 := hyi.mr; have h2 := hyi.mn
  rw [hc] at h1 h2
  have h3 := h.r0; have h4 := h.r1
  refine ⟨hid, ?_, h.ne, ?_, h.inc⟩
  · simp [Qd.Mx.isRow, h1]; omega
  · intro n hn
    have := h.all n hn
    simp [Qd.Mx.isNode, h2]; omega
theorem inc_len (n : Int) : ∀ (l : List Int) (a : Int), a ≤ n → l.Pairwise (· < ·) → (∀ x ∈ l, a ≤ x ∧ x < n) → (l.length : Int) ≤ n - a
  | [], a, ha, _, _ => by simp; omega
  | x :: l, a, _, h, hb => by
    obtain ⟨h1, h2⟩ := List.pairwise_cons.1 h
    have h3 := hb x (.head _)
    have := inc_len n l (x + 1) (by omega) h2 (fun z hz => ⟨by have := h1 z hz; omega, (hb z (.tail _ hz)).2⟩)
    rw [List.length_cons]; omega
theorem start_len {s : Qd.Start} {r n : Nat} (h : Qd.GoodStart s r n) : s.nodes.length ≤ n := by
  have := inc_len n s.nodes 0 (by omega) h.inc h.all
  omega
theorem inf_139 : infoB Tryz.prog 139 = some (some (Go.Value.agg #[Go.Value.int (Go.IntKind.i64) 0, Go.Value.int (Go.IntKind.i64) 0]), 2, 16) := by kernel_rfl
theorem pf_75 : plainFn Tryz.prog 75 = true := by kernel_rfl
theorem pf_77 : plainFn Tryz.prog 77 = true := by kernel_rfl
theorem pf_78 : plainFn Tryz.prog 78 = true := by kernel_rfl
theorem pf_79 : plainFn Tryz.prog 79 = true := by kernel_rfl
theorem ps_139 : placesB Tryz.prog 139 = some #[(0, 1), (1, 1)] := by kernel_rfl
set_option maxHeartbeats 2000000 in
theorem s_place [Bs] (y : BrA) (hy : y.Ok) (h1 : y.jobs.length ≤ 1) (hn12 : y.c.nodes ≤ 12) (hfr : ∀ id j, Qd.lookA y.jobs id = some j → j.x.j.state = 0 → j.x.drops = none → j.sv = none ∧ j.x.ran = none) (hsz0 : y.sz + 192 ≤ BIG) : Spec Tryz.prog 43 [y.ptr] (y.kb) (fun v K' => v = .tuple #[] ∧ ∃ y', BTop y y' y.b.place 192 ∧ y'.jobs.length ≤ y.jobs.length ∧ y'.c = y.c ∧ K' = y'.kb) := by
 have hc := okc hy
 have hwl0 := waiting_len y
 have hwn := waiting_nodup hy
 have hwk : ∀ id ∈ y.b.waiting, _ := fun id h => waiting_look hy h
 have hpl := place_eq y.b
 obtain ⟨W, hWe⟩ : ∃ W, y.b.waiting = W := ⟨_, rfl⟩
 rw [hWe] at hwn hwk hwl0 hpl
 have hbig := hsz0
 refine spec_body Tryz.func43 rfl rfl fun F R hR => ?_
 try simp only [NL]
 refine C_seq ?_
 refine C_region ?_
 refine wm (i := 0) rfl rfl rfl rfl ?_
 refine W_call (i := 1) rfl rfl rfl rfl rfl rfl pf_75 (s_waiting y hy h1) aC ?_
 rintro _ _ ⟨wsl, rfl, hwok, rfl⟩
 rw [hWe] at hwok ⊢
 have hwl : wsl.len = W.length := by have := hwok.vlen; simp [ptrsV] at this; omega
 try simp only [NL]
 refine wa (i := 2) rfl rfl rfl rfl ?_
 refine W_nil ?_
 refine N_seq ?_
 refine C_seq ?_
 refine C_region ?_
 refine wa (i := 0) rfl rfl rfl rfl ?_
 refine W_nil ?_
 refine N_seq ?_
 refine C_seq ?_
 refine C_seq ?_
 refine C_region ?_
 refine wm (i := 0) rfl rfl rfl rfl ?_
 refine W_q (i := 1) rfl rfl rfl (q_lenSl Tryz.underlying99 rfl rfl) ?_
 refine wm (i := 2) rfl rfl rfl rfl ?_
 refine W_nil ?_
 refine N_seq ?_
 refine C_block ?_
 refine C_loopT (ι := { q : Nat × Sl // q.1 ≤ W.length ∧ q.2.Ok (flat askV ((W.take q.1).map (askOf y.b))) 2 }) (fun q => [(0, y.ptr), (2, wsl.val), (3, q.1.2.val), (10, wsl.val), (11, .int .i64 (wsl.len : Int)), (12, .int .i64 (q.1.1 : Int))]) (fun q => y.kb ++ (wsl.kb (ptrsV y.jobs W) 1 86 ++ (q.1.2.kb (flat askV ((W.take q.1.1).map (askOf y.b))) 2 139 ++ F))) (fun q => W.length - q.1.1) ⟨(0, Sl.nilS), Nat.zero_le _, Sl.nil_ok 2⟩ aS (by (try simp only [nilS_kb, List.take_zero, List.map_nil]); exact aT) ?_
 rintro ⟨⟨i, asl⟩, hi, hao⟩
 dsimp only at hi hao ⊢
 have hal : asl.len = i := by have := hao.vlen; rw [flat_len askV_len] at this; simp at this; omega
 refine C_seq ?_
 refine C_region ?_
 refine W_q (i := 0) rfl rfl rfl (q_int rfl rfl rfl) ?_
 refine W_nil ?_
 refine N_seq ?_
 refine C_seq ?_
 refine C_cond rfl (fun ht13 => ?_) (fun ht13 => ?_)
 ·
  try simp only [CL] at ht13
  have hil : i < W.length := by omega
  obtain ⟨id, hid⟩ : ∃ id, W[i]? = some id := ⟨_, List.getElem?_eq_getElem hil⟩
  obtain ⟨j, hjw, hjs, hjd⟩ := hwk id (List.mem_of_getElem? hid)
  refine C_skip ?_
  refine N_seq ?_
  refine C_seq ?_
  refine C_block ?_
  refine C_seq ?_
  refine C_region ?_
  refine W_q (i := 0) rfl rfl rfl (q_idxSl Tryz.underlying99 sz_86 hwok rfl rfl (Int.natCast_nonneg _) (by omega) rfl) ?_
  refine W_q (i := 1) rfl rfl rfl (q_loadSl (i := i) (v := j.ptr) ag_86 rfl hwok aC (by simp) ((ptrsV_at hid).trans (by rw [ptrV_some hjw]))) ?_
  refine wa (i := 2) rfl rfl rfl rfl ?_
  refine W_nil ?_
  refine N_seq ?_
  refine C_draw (.cons 0 .pure (.cons 1 .pure (.cons 2 .pure (.cons 3 .pure (.cons 4 .pure (.cons 5 .read (.cons 6 .pure (.cons 7 .pure (.cons 8 .eff (.cons 9 .pure (.cons 10 .eff (.cons 11 .eff (.cons 12 .pure .nil))))))))))))) (fun w => Knows w _) 10 mo (by kernel_rfl) (fun _ h => h) ?_
  refine D_p rfl rfl rfl (q_move rfl) ?_
  refine D_p rfl rfl rfl (q_move rfl) ?_
  refine D_p rfl rfl rfl (q_nilCheck rfl) ?_
  refine D_p rfl rfl rfl (q_fieldAddr fb_90_0 rfl rfl) ?_
  refine D_p rfl rfl rfl (q_fieldAddr fb_35_2 rfl rfl) ?_
  refine D_r rfl rfl rfl (q_loadM ag_3 rfl (mem_of_perm (A := y.kb) aC (BrA.m_job hjw)) rfl) ?_
  refine D_p rfl rfl rfl (q_move rfl) ?_
  refine D_p rfl rfl rfl (q_move rfl) ?_
  refine D_call rfl rfl rfl rfl rfl rfl pf_76 (s_length y j y.kb (BrA.m_y y) (BrA.m_job hjw)) aC (.inr (by rintro _ _ _ ⟨rfl, rfl⟩ h; exact h.take aT)) ?_
  rintro _ _ ⟨rfl, rfl⟩
  refine D_p rfl rfl rfl (q_build (vs := [(0, .int .i64 j.x.j.k), (1, .int .i64 (y.b.length j.x))]) (cs := (askV ⟨j.x.j.k, y.b.length j.x⟩).toArray) ps_139 zf_139 rfl (by simp [Instr.fill, Value.cells, askV])) ?_
  refine D_e rfl rfl rfl (e_lit1 Tryz.underlying136 sz_139 zf_139 (by decide) rfl rfl) (.inl rfl) ?_
  intro b26
  refine D_e rfl rfl rfl (e_app1 (us := askV ⟨j.x.j.k, y.b.length j.x⟩) (vs' := flat askV ((W.take (i + 1)).map (askOf y.b))) Tryz.underlying136 inf_139 rfl rfl rfl rfl aP aC hao (by omega) (by omega) rfl rfl (by rw [List.take_add_one, hid]; simp [askOf, job_b, hjw, flat])) (.inl rfl) ?_
  rintro ⟨sl', hsl', hok'⟩
  refine D_p rfl rfl rfl (q_assign rfl) ?_
  refine D_nil ?_
  refine N_seq ?_
  refine C_region ?_
  refine W_q (i := 0) rfl rfl rfl (q_add rfl rfl (succ64 (by omega))) ?_
  refine wm (i := 1) rfl rfl rfl rfl ?_
  refine W_nil ?_
  exact fun a w ha hk => ⟨⟨(i + 1, sl'), by dsimp only; omega, hok'⟩, by dsimp only; omega, ha.sub aS, hk.take aT⟩
 ·
  try simp only [CL] at ht13
  have hil : i = W.length := by omega
  subst hil
  rw [List.take_length] at hao ⊢
  refine C_exit ?_
  refine N_seq ?_
  refine C_seq ?_
  refine C_region ?_
  refine wm (i := 0) rfl rfl rfl rfl ?_
  refine W_call (i := 1) rfl rfl rfl rfl rfl rfl pf_78 (s_profile y hy hn12) aC ?_
  rintro _ _ ⟨p, rfl, hpo, hpm, rfl⟩
  try simp only [NL]
  have hAl : (W.map (askOf y.b)).length = W.length := by simp
  refine wm (i := 2) rfl rfl rfl rfl ?_
  refine W_call (i := 3) rfl rfl rfl rfl rfl rfl pf_77 (s_plan p hpo (W.map (askOf y.b)) asl hao (fun a ha => by obtain ⟨id, hid, rfl⟩ := List.mem_map.1 ha; obtain ⟨j, hjw, _, _⟩ := hwk id hid; have h3 := (hy.at hjw).1.kr; have h4 := (hy.at hjw).2.2; simp [askOf, job_b, hjw]; omega) (by omega)) (tk_both aC aC) ?_
  rintro _ _ ⟨psl, ss, rfl, hss, hpok, hsso, rfl⟩
  rw [hpm] at hss
  try simp only [NL]
  have hsl : ss.length = W.length := by have := congrArg List.length hss; simp [Qd.planGo_len] at this; omega
  have hpsl : psl.len = ss.length := by have := hpok.vlen; rw [flat_len stV_len] at this; omega
  have hgs := Qd.planGo_good (n := y.c.nodes.toNat) (W.map (askOf y.b)) y.b.profile (fun a ha => by obtain ⟨id, hid, rfl⟩ := List.mem_map.1 ha; obtain ⟨j, hjw, _, _⟩ := hwk id hid; have h3 := (hy.at hjw).1.kr; simp [askOf, job_b, hjw]; omega) (profile_dims y.b).2
  rw [(profile_dims y.b).1] at hgs
  obtain ⟨Z, hZ⟩ : ∃ Z, (Qd.planGo y.b.profile (W.map (askOf y.b))).zip W = Z := ⟨_, rfl⟩
  rw [hZ] at hpl
  have hZl : Z.length = W.length := by rw [← hZ, List.length_zip, Qd.planGo_len, hAl]; omega
  refine W_q (i := 4) rfl rfl rfl (q_lenSl Tryz.underlying140 rfl rfl) ?_
  refine wm (i := 5) rfl rfl rfl rfl ?_
  refine W_nil ?_
  refine N_seq ?_
  refine C_block ?_
  refine C_loopT (ι := { q : Nat × BrA // q.1 ≤ W.length ∧ PlInv y q.2 Z W q.1 }) (fun q => [(0, y.ptr), (2, wsl.val), (32, psl.val), (33, .int .i64 (psl.len : Int)), (34, .int .i64 (q.1.1 : Int))]) (fun q => q.1.2.kb ++ (wsl.kb (ptrsV y.jobs W) 1 86 ++ (psl.kb (flat stV ss) 4 146 ++ (stsKb (ss.drop q.1.1) ++ F)))) (fun q => W.length - q.1.1) ⟨(0, y), Nat.zero_le _, ⟨hy, rfl, rfl, Nat.le_refl _, Nat.le_refl _, rfl, fun _ _ _ _ => rfl⟩⟩ aS (by (try simp only [List.drop_zero]); exact aT) ?_
  rintro ⟨⟨i, yi⟩, hi, hE⟩
  dsimp only at hi hE ⊢
  have hEs := hE.sz
  refine C_seq ?_
  refine C_region ?_
  refine W_q (i := 0) rfl rfl rfl (q_int rfl rfl rfl) ?_
  refine W_nil ?_
  refine N_seq ?_
  refine C_seq ?_
  refine C_cond rfl (fun ht35 => ?_) (fun ht35 => ?_)
  ·
   try simp only [CL] at ht35
   have hil : i < W.length := by omega
   obtain ⟨id, hid⟩ : ∃ id, W[i]? = some id := ⟨_, List.getElem?_eq_getElem hil⟩
   obtain ⟨j, hjw, hjs, hjd⟩ := hwk id (List.mem_of_getElem? hid)
   have hji : Qd.lookA yi.jobs id = some j := by rw [hE.rest i id (Nat.le_refl _) hid]; exact hjw
   obtain ⟨⟨s, nsl⟩, hsi⟩ : ∃ s, ss[i]? = some s := ⟨_, List.getElem?_eq_getElem (by omega)⟩
   have hpi : (Qd.planGo y.b.profile (W.map (askOf y.b)))[i]? = some s := by rw [← hss, List.getElem?_map, hsi]; rfl
   have hZi : Z[i]? = some (s, id) := by rw [← hZ, List.getElem?_zip_eq_some]; exact ⟨hpi, hid⟩
   have hnok := hsso _ (List.mem_of_getElem? hsi)
   dsimp only at hnok
   rw [drop_get hsi, stsKb_cons]
   try simp only [NL]
   refine C_skip ?_
   refine N_seq ?_
   refine C_seq ?_
   refine C_block ?_
   refine C_seq ?_
   refine C_region ?_
   refine wm (i := 0) rfl rfl rfl rfl ?_
   refine W_q (i := 1) rfl rfl rfl (q_idxSl Tryz.underlying140 sz_146 hpok rfl rfl (Int.natCast_nonneg _) (by omega) rfl) ?_
   refine W_q (i := 2) rfl rfl rfl (q_loadAggSl (i := i * 4) (us := startV s nsl) ag_146 sz_146 rfl hpok aC (by simp) (by rw [flat_len stV_len]; omega) (by omega) (flat_at stV_len _ _ _ hsi)) ?_
   refine W_e (i := 3) rfl rfl rfl (e_alloc zf_146) ?_
   intro b7
   refine wa (i := 4) rfl rfl rfl rfl ?_
   refine W_e (i := 5) rfl rfl rfl (e_storeAgg (us := startV s nsl) sz_146 rfl rfl rfl rfl (by exact Upd.here) (by first | exact Nat.le_refl _ | (simp [Value.cells]; done) | (simp [Value.cells]; exact Nat.le_refl _))) ?_
   intro _
   refine W_nil ?_
   refine N_seq ?_
   refine C_seq ?_
   refine C_region ?_
   refine W_q (i := 0) rfl rfl rfl (q_fieldAddr fb_146_3 rfl rfl) ?_
   refine W_q (i := 1) rfl rfl rfl (q_load ag_4 rfl aP rfl) ?_
   refine wm (i := 2) rfl rfl rfl rfl ?_
   refine W_bool 41 _ rfl (fun ht41 => ?_) (fun ht41 => ?_)
   ·
    try simp only [CL] at ht41
    refine W_q (i := 3) rfl rfl rfl (q_fieldAddr fb_146_0 rfl rfl) ?_
    refine W_q (i := 4) rfl rfl rfl (q_load ag_3 rfl aP rfl) ?_
    refine W_q (i := 5) rfl rfl rfl (q_int rfl rfl rfl) ?_
    refine W_q (i := 6) rfl rfl rfl (q_pickT rfl rfl) ?_
    refine W_nil ?_
    refine N_seq ?_
    refine C_cond rfl (fun ht45 => ?_) (fun ht45 => ?_)
    ·
     try simp only [CL] at ht45
     refine C_draw (.cons 0 .pure (.cons 1 .pure (.cons 2 .pure (.cons 3 .pure (.cons 4 .read (.cons 5 .read (.cons 6 .eff .nil))))))) (fun w => Knows w _) 6 mo (by kernel_rfl) (fun _ h => h) ?_
     refine D_p rfl rfl rfl (q_move rfl) ?_
     refine D_p rfl rfl rfl (q_move rfl) ?_
     refine D_p rfl rfl rfl (q_move rfl) ?_
     refine D_p rfl rfl rfl (q_idxSl Tryz.underlying99 sz_86 hwok rfl rfl (Int.natCast_nonneg _) (by omega) rfl) ?_
     refine D_r rfl rfl rfl (q_loadSl (i := i) (v := j.ptr) ag_86 rfl hwok aC (by simp) ((ptrsV_at hid).trans (by rw [ptrV_some hjw]))) ?_
     refine D_r rfl rfl rfl (q_loadAgg (us := startV s nsl) ag_146 sz_146 rfl aP (by simp [startV, splice, Value.cells]) rfl) ?_
     refine D_call rfl rfl rfl rfl rfl rfl pf_79 ((show Spec Tryz.prog 79 [y.ptr, j.ptr, .agg (startV s nsl).toArray] (yi.kb ++ nsl.kb (encI s.nodes) 1 3) (fun v K' => v = .tuple #[] ∧ ∃ y', BTo yi y' id (yi.b.load id j.x s) 16 ∧ K' = y'.kb ++ nsl.kb (encI s.nodes) 1 3) from by rw [show y.ptr = yi.ptr from by simp only [BrA.ptr, hE.blk]]; exact s_load yi hE.ok id j hji s nsl hnok (goodPut_of hE.ok hE.c (by have := (hy.at hjw).1.idr; omega) (hgs s (List.mem_of_getElem? hpi) ht41)) (Nat.le_trans (start_len (hgs s (List.mem_of_getElem? hpi) ht41)) (by omega)) (hfr id j hjw hjs hjd).1 (hfr id j hjw hjs hjd).2 (by omega))) (tk_both aC aC) (.inl rfl) ?_
     rintro _ _ ⟨rfl, y', hto, rfl⟩
     try simp only [NL]
     refine D_nil ?_
     refine N_seq ?_
     refine C_region ?_
     refine W_q (i := 0) rfl rfl rfl (q_add rfl rfl (succ64 (by omega))) ?_
     refine wm (i := 1) rfl rfl rfl rfl ?_
     refine W_nil ?_
     exact fun a w ha hk => ⟨⟨(i + 1, y'), by dsimp only; omega, hE.step hwn hZi hid (by simp [ht41, ht45]) hji hto⟩, by dsimp only; omega, ha.sub aS, hk.take aT⟩
    ·
     try simp only [CL] at ht45
     refine C_skip ?_
     refine N_seq ?_
     refine C_region ?_
     refine W_q (i := 0) rfl rfl rfl (q_add rfl rfl (succ64 (by omega))) ?_
     refine wm (i := 1) rfl rfl rfl rfl ?_
     refine W_nil ?_
     exact fun a w ha hk => ⟨⟨(i + 1, yi), by dsimp only; omega, hE.stay hZi (by simp [ht45])⟩, by dsimp only; omega, ha.sub aS, hk.take aT⟩
   ·
    try simp only [CL] at ht41
    refine W_skip (i := 3) rfl rfl rfl ?_
    refine W_skip (i := 4) rfl rfl rfl ?_
    refine W_skip (i := 5) rfl rfl rfl ?_
    refine W_q (i := 6) rfl rfl rfl (q_pickF rfl rfl) ?_
    refine W_nil ?_
    refine N_seq ?_
    refine C_condF rfl ?_
    refine C_skip ?_
    refine N_seq ?_
    refine C_region ?_
    refine W_q (i := 0) rfl rfl rfl (q_add rfl rfl (succ64 (by omega))) ?_
    refine wm (i := 1) rfl rfl rfl rfl ?_
    refine W_nil ?_
    exact fun a w ha hk => ⟨⟨(i + 1, yi), by dsimp only; omega, hE.stay hZi (by simp [ht41])⟩, by dsimp only; omega, ha.sub aS, hk.take aT⟩
  ·
   try simp only [CL] at ht35
   have hil : i = W.length := by omega
   subst hil
   refine C_exit ?_
   intro a w ha hk
   exact R_val (e := .normal) (.inr rfl) ha.defers (res0 rfl) (hR _ _ _ ⟨rfl, yi, ⟨hE.ok, by rw [hE.b, ← hZl, List.take_length]; exact hpl.symm, hE.blk, by omega⟩, hE.len, hE.c, rfl⟩ (hk.take aT))
end Go.SL
namespace Go.SL
open Go Go.Proofs
set_option maxRecDepth 10000
def rdy (b : Qd.Brain) (id : Int) : Bool := match b.job id with | some x => x.j.state == 2 && x.drops.isNone && decide (x.work < x.j.w) | none => false
theorem ready_eq (b : Qd.Brain) (l : List Int) : b.ready l = l.filter (rdy b) := rfl
theorem rdy_snoc {b : Qd.Brain} {l : List Int} {i : Nat} {id : Int} (h : l[i]? = some id) : (l.take (i + 1)).filter (rdy b) = if rdy b id then (l.take i).filter (rdy b) ++ [id] else (l.take i).filter (rdy b) := by
  rw [List.take_add_one, h, List.filter_append]
  by_cases h : rdy b id = true <;> simp [h]
set_option maxHeartbeats 2000000 in
theorem s_ready [Bs] (y : BrA) (hy : y.Ok) (l : List Int) (lsl : Sl) (hlok : lsl.Ok (encU l) 1) (hl24 : l.length ≤ 24) : Spec Tryz.prog 89 [y.ptr, lsl.val] (y.kb ++ lsl.kb (encU l) 1 31) (fun v K' => ∃ sl : Sl, v = sl.val ∧ sl.Ok (encU (y.b.ready l)) 1 ∧ sl.len = (y.b.ready l).length ∧ K' = y.kb ++ (lsl.kb (encU l) 1 31 ++ sl.kb (encU (y.b.ready l)) 1 31)) := by
 have hll : lsl.len = l.length := by have := hlok.vlen; simp [encU] at this; omega
 rw [ready_eq]
 refine spec_body Tryz.func89 rfl rfl fun F R hR => ?_
 try simp only [NL]
 refine C_seq ?_
 refine C_region ?_
 refine wa (i := 0) rfl rfl rfl rfl ?_
 refine W_nil ?_
 refine N_seq ?_
 refine C_seq ?_
 refine C_region ?_
 refine wa (i := 0) rfl rfl rfl rfl ?_
 refine W_nil ?_
 refine N_seq ?_
 refine C_seq ?_
 refine C_seq ?_
 refine C_region ?_
 refine wm (i := 0) rfl rfl rfl rfl ?_
 refine W_q (i := 1) rfl rfl rfl (q_lenSl Tryz.underlying53 rfl rfl) ?_
 refine wm (i := 2) rfl rfl rfl rfl ?_
 refine W_nil ?_
 refine N_seq ?_
 refine C_block ?_
 refine C_loopT (ι := { q : Nat × Sl // q.1 ≤ l.length ∧ q.2.Ok (encU ((l.take q.1).filter (rdy y.b))) 1 }) (fun q => [(0, y.ptr), (5, q.1.2.val), (9, lsl.val), (10, .int .i64 (lsl.len : Int)), (11, .int .i64 (q.1.1 : Int))]) (fun q => y.kb ++ (lsl.kb (encU l) 1 31 ++ (q.1.2.kb (encU ((l.take q.1.1).filter (rdy y.b))) 1 31 ++ F))) (fun q => l.length - q.1.1) ⟨(0, Sl.nilS), Nat.zero_le _, Sl.nil_ok 1⟩ aS (by (try simp only [nilS_kb, List.take_zero]); exact aT) ?_
 rintro ⟨⟨i, osl⟩, hi, hoo⟩
 dsimp only at hi hoo ⊢
 have hol : osl.len = ((l.take i).filter (rdy y.b)).length := by have := hoo.vlen; simp [encU] at this; omega
 have hol2 := List.length_filter_le (rdy y.b) (l.take i)
 have hol3 : (l.take i).length ≤ i := by simp; omega
 refine C_seq ?_
 refine C_region ?_
 refine W_q (i := 0) rfl rfl rfl (q_int rfl rfl rfl) ?_
 refine W_nil ?_
 refine N_seq ?_
 refine C_seq ?_
 refine C_cond rfl (fun ht12 => ?_) (fun ht12 => ?_)
 ·
  try simp only [CL] at ht12
  have hil : i < l.length := by omega
  obtain ⟨id, hid⟩ : ∃ id, l[i]? = some id := ⟨_, List.getElem?_eq_getElem hil⟩
  refine C_skip ?_
  refine N_seq ?_
  refine C_seq ?_
  refine C_block ?_
  refine C_seq ?_
  refine C_region ?_
  refine W_q (i := 0) rfl rfl rfl (q_idxSl Tryz.underlying53 sz_31 hlok rfl rfl (Int.natCast_nonneg _) (by omega) rfl) ?_
  refine W_q (i := 1) rfl rfl rfl (q_loadSl (i := i) (v := .int .u32 id) ag_31 rfl hlok aC (by simp) (by simp [encU, hid])) ?_
  refine wa (i := 2) rfl rfl rfl rfl ?_
  refine W_nil ?_
  refine N_seq ?_
  refine C_seq ?_
  refine C_region ?_
  refine wm (i := 0) rfl rfl rfl rfl ?_
  refine wc (i := 1) rfl rfl rfl rfl ?_
  refine W_q (i := 2) rfl rfl rfl (q_fieldAddr fb_84_4 rfl rfl) ?_
  refine W_q (i := 3) rfl rfl rfl (q_loadM ag_82 rfl (mem_of_perm (A := y.kb) aC (BrA.m_y y)) rfl) ?_
  refine wm (i := 4) rfl rfl rfl rfl ?_
  refine W_q (i := 5) rfl rfl rfl (q_lookup Tryz.underlying82 Tryz.underlying31 zf_86 rfl rfl (MapAt.mem (mem_of_perm (A := y.kb) aC (BrA.m_jb y))) (look_ptr _ _)) ?_
  refine wa (i := 6) rfl rfl rfl rfl ?_
  refine W_nil ?_
  refine N_seq ?_
  refine C_seq ?_
  refine C_draw (.cons 0 .pure (.cons 1 .pure (.cons 2 .pure (.cons 3 .pure (.cons 4 .pure (.cons 5 .pure (.cons 6 .pure (.cons 7 .read (.cons 8 .pure (.cons 9 .pure (.cons 10 .pure (.cons 11 .pure (.cons 12 .pure (.cons 13 .pure (.cons 14 .read (.cons 15 .pure (.cons 16 .pure (.cons 17 .pure (.cons 18 .pure (.cons 19 .pure (.cons 20 .pure (.cons 21 .read (.cons 22 .pure (.cons 23 .pure (.cons 24 .pure (.cons 25 .pure (.cons 26 .read (.cons 27 .pure (.cons 28 .pure .nil))))))))))))))))))))))))))))) (fun w => Knows w _) 29 mo (by kernel_rfl) (fun _ h => h) ?_
  refine D_p rfl rfl rfl (q_move rfl) ?_
  refine D_p rfl rfl rfl (q_nePtrV Tryz.underlying86 rfl rfl) ?_
  refine D_p rfl rfl rfl (q_move rfl) ?_
  refine D_bool 23 _ rfl (fun ht23 => ?_) (fun ht23 => ?_)
  ·
   try simp only [CL] at ht23
   obtain ⟨j, hjw⟩ : ∃ j, Qd.lookA y.jobs id = some j := Option.isSome_iff_exists.1 ht23
   rw [ptrV_some hjw]
   have hjd := (hy.at hjw).1.dr
   refine D_p rfl rfl rfl (q_move rfl) ?_
   refine D_p rfl rfl rfl (q_nilCheck rfl) ?_
   refine D_p rfl rfl rfl (q_fieldAddr fb_90_0 rfl rfl) ?_
   refine D_p rfl rfl rfl (q_fieldAddr fb_35_4 rfl rfl) ?_
   refine D_r rfl rfl rfl (q_loadM ag_5 rfl (mem_of_perm (A := y.kb) aC (BrA.m_job hjw)) rfl) ?_
   refine D_p rfl rfl rfl (q_int rfl rfl rfl) ?_
   refine D_p rfl rfl rfl (q_pickT rfl rfl) ?_
   refine D_p rfl rfl rfl (q_move rfl) ?_
   refine D_bool 31 _ rfl (fun ht31 => ?_) (fun ht31 => ?_)
   ·
    try simp only [CL] at ht31
    refine D_p rfl rfl rfl (q_move rfl) ?_
    refine D_p rfl rfl rfl (q_nilCheck rfl) ?_
    refine D_p rfl rfl rfl (q_fieldAddr fb_90_8 rfl rfl) ?_
    refine D_r rfl rfl rfl (q_loadM ag_81 rfl (mem_of_perm (A := y.kb) aC (BrA.m_job hjw)) rfl) ?_
    refine D_p rfl rfl rfl (q_eqMapNil Tryz.underlying81 rfl rfl) ?_
    refine D_p rfl rfl rfl (q_pickT rfl rfl) ?_
    refine D_p rfl rfl rfl (q_move rfl) ?_
    refine D_bool 38 _ rfl (fun ht38 => ?_) (fun ht38 => ?_)
    ·
     try simp only [CL] at ht38
     have hdn : j.x.drops.isNone = true := by have h7 : j.dr = none := (by simpa using ht38); rw [h7] at hjd; cases h9 : j.x.drops <;> simp_all
     refine D_p rfl rfl rfl (q_move rfl) ?_
     refine D_p rfl rfl rfl (q_nilCheck rfl) ?_
     refine D_p rfl rfl rfl (q_fieldAddr fb_90_3 rfl rfl) ?_
     refine D_r rfl rfl rfl (q_loadM ag_3 rfl (mem_of_perm (A := y.kb) aC (BrA.m_job hjw)) rfl) ?_
     refine D_p rfl rfl rfl (q_move rfl) ?_
     refine D_p rfl rfl rfl (q_nilCheck rfl) ?_
     refine D_p rfl rfl rfl (q_fieldAddr fb_90_0 rfl rfl) ?_
     refine D_p rfl rfl rfl (q_fieldAddr fb_35_3 rfl rfl) ?_
     refine D_r rfl rfl rfl (q_loadM ag_3 rfl (mem_of_perm (A := y.kb) aC (BrA.m_job hjw)) rfl) ?_
     refine D_p rfl rfl rfl (q_int rfl rfl rfl) ?_
     refine D_p rfl rfl rfl (q_pickT rfl rfl) ?_
     refine D_nil ?_
     refine N_seq ?_
     refine C_cond rfl (fun ht49 => ?_) (fun ht49 => ?_)
     ·
      try simp only [CL] at ht49
      have hws : rdy y.b id = true := by simp [rdy, job_b, hjw, hdn, ht31, ht49]
      refine C_region ?_
      refine wm (i := 0) rfl rfl rfl rfl ?_
      refine wm (i := 1) rfl rfl rfl rfl ?_
      refine W_e (i := 2) rfl rfl rfl (e_lit1 Tryz.underlying53 sz_31 zf_31 (by decide) rfl rfl) ?_
      intro b52
      refine W_e (i := 3) rfl rfl rfl (e_app1 (us := [.int .u32 id]) (vs' := encU ((l.take i).filter (rdy y.b) ++ [id])) Tryz.underlying53 inf_31 rfl rfl rfl rfl aP aC hoo (by omega) (by omega) rfl rfl (encU_snoc _ _)) ?_
      rintro ⟨sl', hsl', hok'⟩
      refine wa (i := 4) rfl rfl rfl rfl ?_
      refine W_nil ?_
      refine N_seq ?_
      refine C_region ?_
      refine W_q (i := 0) rfl rfl rfl (q_add rfl rfl (succ64 (by omega))) ?_
      refine wm (i := 1) rfl rfl rfl rfl ?_
      refine W_nil ?_
      exact fun a w ha hk => ⟨⟨(i + 1, sl'), by dsimp only; omega, by dsimp only; rw [rdy_snoc hid, if_pos hws]; exact hok'⟩, by dsimp only; omega, ha.sub aS, by dsimp only; rw [rdy_snoc hid, if_pos hws]; exact hk.take aT⟩
     ·
      try simp only [CL] at ht49
      have hws : ¬ rdy y.b id = true := by simp [rdy, job_b, hjw, hdn, ht31, ht49]
      refine C_skip ?_
      refine N_seq ?_
      refine C_region ?_
      refine W_q (i := 0) rfl rfl rfl (q_add rfl rfl (succ64 (by omega))) ?_
      refine wm (i := 1) rfl rfl rfl rfl ?_
      refine W_nil ?_
      exact fun a w ha hk => ⟨⟨(i + 1, osl), by dsimp only; omega, by dsimp only; rw [rdy_snoc hid, if_neg hws]; exact hoo⟩, by dsimp only; omega, ha.sub aS, by dsimp only; rw [rdy_snoc hid, if_neg hws]; exact hk.take aT⟩
    ·
     try simp only [CL] at ht38
     have hdn : j.x.drops.isNone = false := by cases h9 : j.x.drops <;> simp_all
     have hws : ¬ rdy y.b id = true := by simp [rdy, job_b, hjw, hdn]
     refine D_pskip rfl rfl rfl ?_
     refine D_pskip rfl rfl rfl ?_
     refine D_pskip rfl rfl rfl ?_
     refine D_rskip rfl rfl rfl ?_
     refine D_pskip rfl rfl rfl ?_
     refine D_pskip rfl rfl rfl ?_
     refine D_pskip rfl rfl rfl ?_
     refine D_pskip rfl rfl rfl ?_
     refine D_rskip rfl rfl rfl ?_
     refine D_pskip rfl rfl rfl ?_
     refine D_p rfl rfl rfl (q_pickF rfl rfl) ?_
     refine D_nil ?_
     refine N_seq ?_
     refine C_condF rfl ?_
     refine C_skip ?_
     refine N_seq ?_
     refine C_region ?_
     refine W_q (i := 0) rfl rfl rfl (q_add rfl rfl (succ64 (by omega))) ?_
     refine wm (i := 1) rfl rfl rfl rfl ?_
     refine W_nil ?_
     exact fun a w ha hk => ⟨⟨(i + 1, osl), by dsimp only; omega, by dsimp only; rw [rdy_snoc hid, if_neg hws]; exact hoo⟩, by dsimp only; omega, ha.sub aS, by dsimp only; rw [rdy_snoc hid, if_neg hws]; exact hk.take aT⟩
   ·
    try simp only [CL] at ht31
    have hws : ¬ rdy y.b id = true := by simp [rdy, job_b, hjw, ht31]
    refine D_pskip rfl rfl rfl ?_
    refine D_pskip rfl rfl rfl ?_
    refine D_pskip rfl rfl rfl ?_
    refine D_rskip rfl rfl rfl ?_
    refine D_pskip rfl rfl rfl ?_
    refine D_p rfl rfl rfl (q_pickF rfl rfl) ?_
    refine D_p rfl rfl rfl (q_move rfl) ?_
    refine D_pskip rfl rfl rfl ?_
    refine D_pskip rfl rfl rfl ?_
    refine D_pskip rfl rfl rfl ?_
    refine D_rskip rfl rfl rfl ?_
    refine D_pskip rfl rfl rfl ?_
    refine D_pskip rfl rfl rfl ?_
    refine D_pskip rfl rfl rfl ?_
    refine D_pskip rfl rfl rfl ?_
    refine D_rskip rfl rfl rfl ?_
    refine D_pskip rfl rfl rfl ?_
    refine D_p rfl rfl rfl (q_pickF rfl rfl) ?_
    refine D_nil ?_
    refine N_seq ?_
    refine C_condF rfl ?_
    refine C_skip ?_
    refine N_seq ?_
    refine C_region ?_
    refine W_q (i := 0) rfl rfl rfl (q_add rfl rfl (succ64 (by omega))) ?_
    refine wm (i := 1) rfl rfl rfl rfl ?_
    refine W_nil ?_
    exact fun a w ha hk => ⟨⟨(i + 1, osl), by dsimp only; omega, by dsimp only; rw [rdy_snoc hid, if_neg hws]; exact hoo⟩, by dsimp only; omega, ha.sub aS, by dsimp only; rw [rdy_snoc hid, if_neg hws]; exact hk.take aT⟩
  ·
   try simp only [CL] at ht23
   have hjn : Qd.lookA y.jobs id = none := by simpa using ht23
   have hws : ¬ rdy y.b id = true := by simp [rdy, job_b, hjn]
   refine D_pskip rfl rfl rfl ?_
   refine D_pskip rfl rfl rfl ?_
   refine D_pskip rfl rfl rfl ?_
   refine D_pskip rfl rfl rfl ?_
   refine D_rskip rfl rfl rfl ?_
   refine D_pskip rfl rfl rfl ?_
   refine D_p rfl rfl rfl (q_pickF rfl rfl) ?_
   refine D_p rfl rfl rfl (q_move rfl) ?_
   refine D_pskip rfl rfl rfl ?_
   refine D_pskip rfl rfl rfl ?_
   refine D_pskip rfl rfl rfl ?_
   refine D_rskip rfl rfl rfl ?_
   refine D_pskip rfl rfl rfl ?_
   refine D_p rfl rfl rfl (q_pickF rfl rfl) ?_
   refine D_p rfl rfl rfl (q_move rfl) ?_
   refine D_pskip rfl rfl rfl ?_
   refine D_pskip rfl rfl rfl ?_
   refine D_pskip rfl rfl rfl ?_
   refine D_rskip rfl rfl rfl ?_
   refine D_pskip rfl rfl rfl ?_
   refine D_pskip rfl rfl rfl ?_
   refine D_pskip rfl rfl rfl ?_
   refine D_pskip rfl rfl rfl ?_
   refine D_rskip rfl rfl rfl ?_
   refine D_pskip rfl rfl rfl ?_
   refine D_p rfl rfl rfl (q_pickF rfl rfl) ?_
   refine D_nil ?_
   refine N_seq ?_
   refine C_condF rfl ?_
   refine C_skip ?_
   refine N_seq ?_
   refine C_region ?_
   refine W_q (i := 0) rfl rfl rfl (q_add rfl rfl (succ64 (by omega))) ?_
   refine wm (i := 1) rfl rfl rfl rfl ?_
   refine W_nil ?_
   exact fun a w ha hk => ⟨⟨(i + 1, osl), by dsimp only; omega, by dsimp only; rw [rdy_snoc hid, if_neg hws]; exact hoo⟩, by dsimp only; omega, ha.sub aS, by dsimp only; rw [rdy_snoc hid, if_neg hws]; exact hk.take aT⟩
 ·
  try simp only [CL] at ht12
  have hil : i = l.length := by omega
  subst hil
  rw [List.take_length] at hoo ⊢
  refine C_exit ?_
  refine N_seq ?_
  refine C_seq ?_
  refine C_region ?_
  refine wm (i := 0) rfl rfl rfl rfl ?_
  refine wa (i := 1) rfl rfl rfl rfl ?_
  refine W_nil ?_
  refine N_seq ?_
  refine C_ret fun a w ha hk => ?_
  exact R_val (e := .ret) (.inl rfl) ha.defers (res1 ha rfl rfl) (hR _ _ _ ⟨osl, rfl, hoo, by have := hoo.vlen; simp [encU] at this; omega, rfl⟩ (hk.take aT))
end Go.SL
namespace Go.SL
open Go Go.Proofs
set_option maxRecDepth 10000
def rstep (gen id : Int) (b : Qd.Brain) (n : Int) : Qd.Brain := Qd.Brain.order { b with stops := some (Qd.addS (b.stops.getD []) n) } n { kind := 5, gen, job := id }
def runStep (gen : Int) (b : Qd.Brain) (id : Int) : Qd.Brain := match b.job id with
  | none => b
  | some x => x.at_.foldl (rstep gen id) (b.setJob id { x with ran := some [] })
theorem run_eq (b : Qd.Brain) (l : List Int) : b.run l = (Qd.sortI l).foldl (runStep ((b.gen + 1) % 4294967296)) { b with gen := (b.gen + 1) % 4294967296, members := Qd.sortI l, end_ := Qd.later b.now b.c.quantum, stops := some [] } := rfl
def goJob (j : JobA) (rb : Nat) : JobA := { j with x := { j.x with ran := some [] }, rn := some rb }
theorem goJob_ok {j : JobA} (h : j.Ok) (rb : Nat) : (goJob j rb).Ok := ⟨h.at_, h.a16, h.atn, h.ld, h.ld1, h.sv, h.svo, h.dr, rfl, by simp [goJob], by simp [goJob], h.idr, h.kr, by simp [goJob], by simp [goJob]⟩
def BrA.runS (y : BrA) (gen : Int) (l : List Int) (lsl : Sl) (end_ : Int) (sb : Nat) : BrA := { y with gen, mem := l, msl := lsl, end_, st := some (sb, []) }
theorem BrA.Ok.runS {y : BrA} (hy : y.Ok) (gen : Int) {l : List Int} {lsl : Sl} (h : lsl.Ok (encU l) 1) (end_ : Int) (sb : Nat) : (y.runS gen l lsl end_ sb).Ok := { hy with msl := h }
structure RunInv (y yi : BrA) (l : List Int) (lsl : Sl) (gen : Int) (sb : Nat) (ds : List Int) (i : Nat) : Prop where
  ok : yi.Ok
  b : yi.b = (l.take i).foldl (runStep gen) y.b
  blk : yi.blk = y.blk
  sz : yi.sz ≤ y.sz + 16 * i
  len : yi.jobs.length ≤ y.jobs.length
  st : yi.st = some (sb, ds)
  msl : yi.msl = lsl
  mem : yi.mem = l
  gen : yi.gen = gen
  look : ∀ id ∈ l, ∃ j, Qd.lookA yi.jobs id = some j
theorem RunInv.step {y yi : BrA} {l : List Int} {lsl : Sl} {gen : Int} {sb : Nat} {ds ds' : List Int} {i : Nat} {id : Int} {j : JobA} {rb : Nat} {os : List Qd.Order} {osl : Sl} (h : RunInv y yi l lsl gen sb ds i) (hid : l[i]? = some id) (hl : Qd.lookA yi.jobs id = some j) (hj : j.x.j.id = id)
    (ho : osl.Ok (flat orderV os) 14) (hn : os.length ≤ yi.os.length + 16)
    (hb : ({ (yi.set id (goJob j rb)).b with stops := some ds', orders := os } : Qd.Brain) = j.x.at_.foldl (rstep gen id) (yi.set id (goJob j rb)).b) :
    RunInv y (((yi.sta (some (sb, ds')) yi.stopped).osa os osl).set id (goJob j rb)) l lsl gen sb ds' (i + 1) := by
  have hjo := (h.ok.at hl).1
  refine ⟨((h.ok.sta _ _).osa ho).set (y := (yi.sta (some (sb, ds')) yi.stopped).osa os osl) hl (goJob_ok hjo rb) hj rfl, ?_, h.blk, ?_, Nat.le_trans (len_set (y := (yi.sta (some (sb, ds')) yi.stopped).osa os osl) hl) h.len, rfl, h.msl, h.mem, h.gen, ?_⟩
  · rw [List.take_add_one, hid, List.foldl_append, ← h.b]
    show _ = runStep gen yi.b id
    rw [runStep, job_b, hl]
    refine Eq.trans ?_ (hb.trans ?_)
    · rfl
    · rw [BrA.set_b]; rfl
  · have := h.sz
    simp only [BrA.sz, BrA.set, BrA.osa, BrA.sta] at this ⊢
    omega
  · intro id' hm
    by_cases e : id' = id
    · exact ⟨_, by rw [e]; exact BrA.set_look⟩
    · obtain ⟨j', h'⟩ := h.look id' hm
      exact ⟨j', by rw [oth_set (y := (yi.sta (some (sb, ds')) yi.stopped).osa os osl) id' e]; exact h'⟩
theorem BrA.p_ms (y : BrA) : ∃ R, y.kb.Perm (y.msl.kb (encU y.mem) 1 31 ++ R) := by
  exact ⟨_, by rw [BrA.kb_eq, BrA.msK]; repeat (first | exact tk_here | exact tk_all | apply tk_app | apply tk_cons)⟩
theorem okU_len {s : Sl} {xs ys : List Int} (h : s.Ok (encU xs) 1) (hl : ys.length = xs.length) : s.Ok (encU ys) 1 := ⟨by have := h.vlen; simp [encU] at this ⊢; omega, h.cap, h.nil⟩
theorem fb_84_12 : fieldB Tryz.prog 84 12 = some 15 := by kernel_rfl
theorem pf_83 : plainFn Tryz.prog 83 = true := by kernel_rfl
set_option maxHeartbeats 2000000 in
theorem s_run [Bs] (y : BrA) (hy : y.Ok) (l0 : List Int) (lsl : Sl) (hlok0 : lsl.Ok (encU l0) 1) (h12 : l0.length ≤ 12) (hlk0 : ∀ id ∈ l0, ∃ j, Qd.lookA y.jobs id = some j) (hsz0 : y.sz + 192 ≤ BIG) : Spec Tryz.prog 90 [y.ptr, lsl.val] (y.kb ++ lsl.kb (encU l0) 1 31) (fun v K' => v = .tuple #[] ∧ ∃ y', BTop y y' (y.b.run l0) 192 ∧ y'.jobs.length ≤ y.jobs.length ∧ K' = y'.kb) := by
 obtain ⟨l, hle⟩ : ∃ l, Qd.sortI l0 = l := ⟨_, rfl⟩
 have hsp : l.Perm l0 := by rw [← hle]; exact Qd.sortBy_perm _ _
 have hlok : lsl.Ok (encU l) 1 := okU_len hlok0 hsp.length_eq
 have hll : lsl.len = l.length := by have := hlok.vlen; simp [encU] at this; omega
 have hl12 : l.length ≤ 12 := by rw [hsp.length_eq]; exact h12
 obtain ⟨gen, hgen⟩ : ∃ gen, (y.gen + 1) % 4294967296 = gen := ⟨_, rfl⟩
 have hrun := run_eq y.b l0
 rw [hle, show (y.b.gen + 1) % 4294967296 = gen from hgen] at hrun
 have hbig := hsz0
 refine spec_body Tryz.func90 rfl rfl fun F R hR => ?_
 try simp only [NL]
 rw [BrA.kb_eq]
 try simp only [NL]
 refine C_seq ?_
 refine C_region ?_
 refine wm (i := 0) rfl rfl rfl rfl ?_
 refine W_call (i := 1) rfl rfl rfl rfl rfl rfl pf_101 (s_sortU lsl l0 hlok0 h12) aC ?_
 rintro _ _ ⟨rfl, rfl⟩
 rw [hle]
 try simp only [NL]
 refine W_nil ?_
 refine N_seq ?_
 refine C_seq ?_
 refine C_region ?_
 refine wm (i := 0) rfl rfl rfl rfl ?_
 refine wc (i := 1) rfl rfl rfl rfl ?_
 refine W_q (i := 2) rfl rfl rfl (q_fieldAddr fb_84_9 rfl rfl) ?_
 refine W_q (i := 3) rfl rfl rfl (q_load ag_31 rfl aP rfl) ?_
 refine W_q (i := 4) rfl rfl rfl (q_add rfl rfl (wrapu32 hgen)) ?_
 refine wc (i := 5) rfl rfl rfl rfl ?_
 refine W_q (i := 6) rfl rfl rfl (q_fieldAddr fb_84_9 rfl rfl) ?_
 refine W_e (i := 7) rfl rfl rfl (e_store sz_31 rfl rfl rfl aU (by first | decide | exact Nat.le_of_ble_eq_true rfl | simp [splice, Value.cells])) ?_
 intro _
 refine W_nil ?_
 refine N_seq ?_
 refine C_seq ?_
 refine C_region ?_
 refine wm (i := 0) rfl rfl rfl rfl ?_
 refine wm (i := 1) rfl rfl rfl rfl ?_
 refine wc (i := 2) rfl rfl rfl rfl ?_
 refine W_q (i := 3) rfl rfl rfl (q_fieldAddr fb_84_11 rfl rfl) ?_
 refine W_e (i := 4) rfl rfl rfl (e_store sz_53 rfl rfl rfl aU (by first | decide | exact Nat.le_of_ble_eq_true rfl | simp [splice, Value.cells])) ?_
 intro _
 refine W_nil ?_
 refine N_seq ?_
 refine C_seq ?_
 refine C_draw (.cons 0 .pure (.cons 1 .pure (.cons 2 .pure (.cons 3 .pure (.cons 4 .read (.cons 5 .pure (.cons 6 .pure (.cons 7 .pure (.cons 8 .pure (.cons 9 .read (.cons 10 .eff (.cons 11 .pure (.cons 12 .pure (.cons 13 .eff .nil)))))))))))))) (fun w => Knows w _) 10 mo (by kernel_rfl) (fun _ h => h) ?_
 refine D_p rfl rfl rfl (q_move rfl) ?_
 refine D_p rfl rfl rfl (q_move rfl) ?_
 refine D_p rfl rfl rfl (q_nilCheck rfl) ?_
 refine D_p rfl rfl rfl (q_fieldAddr fb_84_2 rfl rfl) ?_
 refine D_r rfl rfl rfl (q_load ag_31 rfl aP rfl) ?_
 refine D_p rfl rfl rfl (q_move rfl) ?_
 refine D_p rfl rfl rfl (q_nilCheck rfl) ?_
 refine D_p rfl rfl rfl (q_fieldAddr fb_84_0 rfl rfl) ?_
 refine D_p rfl rfl rfl (q_fieldAddr fb_25_2 rfl rfl) ?_
 refine D_r rfl rfl rfl (q_load ag_3 rfl aP rfl) ?_
 refine D_call rfl rfl rfl rfl rfl rfl pf_83 (s_capLater y.now y.c.quantum hy.n32.1 hy.n32.2) tk_nil (.inl rfl) ?_
 rintro _ _ ⟨rfl, rfl⟩
 refine D_p rfl rfl rfl (q_nilCheck rfl) ?_
 refine D_p rfl rfl rfl (q_fieldAddr fb_84_12 rfl rfl) ?_
 refine D_e rfl rfl rfl (e_store sz_31 rfl rfl rfl aU (by first | decide | exact Nat.le_of_ble_eq_true rfl | simp [splice, Value.cells])) (.inl rfl) ?_
 intro _
 refine D_nil ?_
 refine N_seq ?_
 refine C_seq ?_
 refine C_region ?_
 refine wm (i := 0) rfl rfl rfl rfl ?_
 refine W_e (i := 1) rfl rfl rfl (e_makeMap .i64) ?_
 intro b36
 refine wc (i := 2) rfl rfl rfl rfl ?_
 refine W_q (i := 3) rfl rfl rfl (q_fieldAddr fb_84_13 rfl rfl) ?_
 refine W_e (i := 4) rfl rfl rfl (e_store sz_81 rfl rfl rfl aU (by first | decide | exact Nat.le_of_ble_eq_true rfl | simp [splice, Value.cells])) ?_
 intro _
 refine W_nil ?_
 refine N_seq ?_
 refine C_seq ?_
 refine C_to ((y.runS gen l lsl (Qd.later y.now y.c.quantum) b36).kb ++ F) (by (try simp only [BrA.kb_eq, BrA.runS, stKb_some, BrA.msK, BrA.osK, BrA.isK, BrA.dsK, BrA.jsK]); exact aT) ?_
 have hy1 : (y.runS gen l lsl (Qd.later y.now y.c.quantum) b36).Ok := hy.runS gen hlok _ b36
 refine C_region ?_
 refine wm (i := 0) rfl rfl rfl rfl ?_
 refine W_q (i := 1) rfl rfl rfl (q_lenSl Tryz.underlying53 rfl rfl) ?_
 refine wm (i := 2) rfl rfl rfl rfl ?_
 refine W_nil ?_
 refine N_seq ?_
 refine C_block ?_
 refine C_loopT (ι := { q : Nat × BrA × List Int // q.1 ≤ l.length ∧ RunInv (y.runS gen l lsl (Qd.later y.now y.c.quantum) b36) q.2.1 l lsl gen b36 q.2.2 q.1 }) (fun q => [(0, y.ptr), (39, lsl.val), (40, .int .i64 (lsl.len : Int)), (41, .int .i64 (q.1.1 : Int))]) (fun q => q.1.2.1.kb ++ F) (fun q => l.length - q.1.1) ⟨(0, (y.runS gen l lsl (Qd.later y.now y.c.quantum) b36), []), Nat.zero_le _, ⟨hy1, rfl, rfl, Nat.le_refl _, Nat.le_refl _, rfl, rfl, rfl, rfl, fun id hm => hlk0 id (hsp.mem_iff.1 hm)⟩⟩ aS aT ?_
 rintro ⟨⟨i, yi, ds0⟩, hi, hE⟩
 dsimp only at hi hE ⊢
 have hEs := hE.sz
 have hEs1 : (y.runS gen l lsl (Qd.later y.now y.c.quantum) b36).sz = y.sz := rfl
 rw [show y.ptr = yi.ptr from by simp only [BrA.ptr, hE.blk]; rfl]
 refine C_seq ?_
 refine C_region ?_
 refine W_q (i := 0) rfl rfl rfl (q_int rfl rfl rfl) ?_
 refine W_nil ?_
 refine N_seq ?_
 refine C_seq ?_
 refine C_cond rfl (fun ht42 => ?_) (fun ht42 => ?_)
 ·
  try simp only [CL] at ht42
  have hil : i < l.length := by omega
  obtain ⟨id, hid⟩ : ∃ id, l[i]? = some id := ⟨_, List.getElem?_eq_getElem hil⟩
  obtain ⟨j, hlk⟩ := hE.look id (List.mem_of_getElem? hid)
  obtain ⟨hjo, hji, hjk⟩ := hE.ok.at hlk
  have h16 := hjo.a16
  have hal : j.at_.len = j.x.at_.length := by have := hjo.at_.vlen; simp [encI] at this; omega
  refine C_skip ?_
  refine N_seq ?_
  refine C_seq ?_
  refine C_block ?_
  refine C_seq ?_
  refine C_region ?_
  refine W_q (i := 0) rfl rfl rfl (q_idxSl Tryz.underlying53 sz_31 hlok rfl rfl (Int.natCast_nonneg _) (by omega) rfl) ?_
  refine W_q (i := 1) rfl rfl rfl (q_loadSlM (i := i) (v := .int .u32 id) ag_31 rfl hlok (perm_in (A := yi.kb) aC (by have := BrA.p_ms yi; rw [hE.msl, hE.mem] at this; exact this)) (by simp) (by simp [encU, hid])) ?_
  refine wa (i := 2) rfl rfl rfl rfl ?_
  refine W_nil ?_
  refine N_seq ?_
  refine C_seq ?_
  refine C_region ?_
  refine wm (i := 0) rfl rfl rfl rfl ?_
  refine wc (i := 1) rfl rfl rfl rfl ?_
  refine W_q (i := 2) rfl rfl rfl (q_fieldAddr fb_84_4 rfl rfl) ?_
  refine W_q (i := 3) rfl rfl rfl (q_loadM ag_82 rfl (mem_of_perm (A := yi.kb) aC (BrA.m_y yi)) rfl) ?_
  refine wm (i := 4) rfl rfl rfl rfl ?_
  refine W_q (i := 5) rfl rfl rfl (q_lookup Tryz.underlying82 Tryz.underlying31 zf_86 rfl rfl (MapAt.mem (mem_of_perm (A := yi.kb) aC (BrA.m_jb yi))) ((look_ptr _ _).trans (ptrV_some hlk))) ?_
  refine wa (i := 6) rfl rfl rfl rfl ?_
  refine W_nil ?_
  refine N_seq ?_
  refine C_seq ?_
  refine C_perm _ ?_ ((BrA.open_ hlk).append_right F)
  rw [opn_eq]
  try simp only [NL]
  have hcy : yi.cells = (yi.sta (some (b36, ds0)) yi.stopped).cells := by simp only [BrA.cells, BrA.sta, hE.st]
  rw [hcy, hE.st]
  simp only [stKb_some, List.cons_append, List.nil_append]
  refine C_region ?_
  refine wm (i := 0) rfl rfl rfl rfl ?_
  refine W_e (i := 1) rfl rfl rfl (e_makeMap .i64) ?_
  intro b52
  refine wc (i := 2) rfl rfl rfl rfl ?_
  refine W_q (i := 3) rfl rfl rfl (q_fieldAddr fb_90_11 rfl rfl) ?_
  refine W_e (i := 4) rfl rfl rfl (e_store sz_88 rfl rfl rfl aU (by first | decide | exact Nat.le_of_ble_eq_true rfl | simp [splice, Value.cells])) ?_
  intro _
  refine W_nil ?_
  refine N_seq ?_
  refine C_seq ?_
  refine C_region ?_
  refine wm (i := 0) rfl rfl rfl rfl ?_
  refine wc (i := 1) rfl rfl rfl rfl ?_
  refine W_q (i := 2) rfl rfl rfl (q_fieldAddr fb_90_1 rfl rfl) ?_
  refine W_q (i := 3) rfl rfl rfl (q_load ag_66 rfl aP rfl) ?_
  refine W_q (i := 4) rfl rfl rfl (q_lenSl Tryz.underlying66 rfl rfl) ?_
  refine wm (i := 5) rfl rfl rfl rfl ?_
  refine W_nil ?_
  refine N_seq ?_
  refine C_block ?_
  refine C_loopT (ι := { q : Nat × List Int × List Qd.Order × Sl // q.1 ≤ j.x.at_.length ∧ (j.x.at_.drop q.1).foldl (rstep gen id) { (yi.set id (goJob j b52)).b with stops := some q.2.1, orders := q.2.2.1 } = j.x.at_.foldl (rstep gen id) (yi.set id (goJob j b52)).b ∧ q.2.2.2.Ok (flat orderV q.2.2.1) 14 ∧ q.2.2.1.length ≤ yi.os.length + q.1 }) (fun q => [(0, yi.ptr), (5, .int .u32 id), (6, j.ptr), (39, lsl.val), (40, .int .i64 (lsl.len : Int)), (41, .int .i64 (i : Int)), (58, j.at_.val), (59, .int .i64 (j.at_.len : Int)), (60, .int .i64 (q.1.1 : Int))]) (fun q => opn ((yi.sta (some (b36, q.1.2.1)) yi.stopped).osa q.1.2.2.1 q.1.2.2.2) (goJob j b52) (mapV JobA.ptr yi.jobs) (mapKb JobA.kb (Qd.delA yi.jobs id)) ++ F) (fun q => j.x.at_.length - q.1.1) ⟨(0, ds0, yi.os, yi.osl), Nat.zero_le _, by dsimp only; rw [List.drop_zero]; congr 1; simp [BrA.b, BrA.set, hE.st], hE.ok.osl, Nat.le_refl _⟩ aS (by (try simp only [opn_eq, BrA.osa, BrA.sta, goJob, stKb_some, mapV_nil, BrA.osK, BrA.isK, BrA.dsK, BrA.msK, ranKb_some, Option.getD_some]); exact aT) ?_
  rintro ⟨⟨k, ds, os, osl⟩, hk0, hgo, hoo, hol⟩
  dsimp only at hk0 hgo hoo hol ⊢
  refine C_to ((yi.blk, Cells ((yi.sta (some (b36, ds)) yi.stopped).osa os osl).cells 84) :: (j.blk, Cells (goJob j b52).cells 90) :: (b36, SetB ds) :: (osl.kb (flat orderV os) 14 97 ++ (j.at_.kb (encI j.x.at_) 1 3 ++ ((yi.up, SetB yi.ups) :: (yi.jb, MapI .u32 (mapV JobA.ptr yi.jobs)) :: (setKb j.ld j.x.loaded ++ (svKb j.sv ++ (setKb j.dr (j.x.drops.getD []) ++ ((b52, MapI .i64 []) :: (yi.mx.kb ++ (yi.isK ++ (yi.dsK ++ (yi.msK ++ ((mapKb JobA.kb (Qd.delA yi.jobs id)) ++ F))))))))))))) (by (try simp only [opn_eq, BrA.osa, BrA.sta, goJob, stKb_some, mapV_nil, BrA.osK, BrA.isK, BrA.dsK, BrA.msK, ranKb_some, Option.getD_some]); exact aT) ?_
  refine C_seq ?_
  refine C_region ?_
  refine W_q (i := 0) rfl rfl rfl (q_int rfl rfl rfl) ?_
  refine W_nil ?_
  refine N_seq ?_
  refine C_seq ?_
  refine C_cond rfl (fun ht61 => ?_) (fun ht61 => ?_)
  ·
   try simp only [CL] at ht61
   have hkl : k < j.x.at_.length := by omega
   obtain ⟨n, hn⟩ : ∃ n, j.x.at_[k]? = some n := ⟨_, List.getElem?_eq_getElem hkl⟩
   rw [drop_get hn, List.foldl_cons] at hgo
   refine C_skip ?_
   refine N_seq ?_
   refine C_seq ?_
   refine C_block ?_
   refine C_seq ?_
   refine C_region ?_
   refine W_q (i := 0) rfl rfl rfl (q_idxSl Tryz.underlying66 sz_3 hjo.at_ rfl rfl (Int.natCast_nonneg _) (by omega) rfl) ?_
   refine W_q (i := 1) rfl rfl rfl (q_loadSl (i := k) (v := .int .i64 n) ag_3 rfl hjo.at_ aC (by simp) (by simp [encI, hn])) ?_
   refine wa (i := 2) rfl rfl rfl rfl ?_
   refine W_nil ?_
   refine N_seq ?_
   refine C_seq ?_
   refine C_region ?_
   refine wm (i := 0) rfl rfl rfl rfl ?_
   refine wc (i := 1) rfl rfl rfl rfl ?_
   refine W_q (i := 2) rfl rfl rfl (q_fieldAddr fb_84_13 rfl rfl) ?_
   refine W_q (i := 3) rfl rfl rfl (q_load ag_81 rfl aP rfl) ?_
   refine wm (i := 4) rfl rfl rfl rfl ?_
   refine W_call (i := 5) rfl rfl rfl rfl rfl rfl pf_38 (s_add b36 ds n) (by repeat (first | exact tk_one | apply tk_app | apply tk_cons)) ?_
   rintro _ _ ⟨rfl, rfl⟩
   try simp only [NL]
   refine W_nil ?_
   refine N_seq ?_
   refine C_region ?_
   refine wm (i := 0) rfl rfl rfl rfl ?_
   refine wm (i := 1) rfl rfl rfl rfl ?_
   refine wm (i := 2) rfl rfl rfl rfl ?_
   refine wc (i := 3) rfl rfl rfl rfl ?_
   refine W_q (i := 4) rfl rfl rfl (q_fieldAddr fb_84_9 rfl rfl) ?_
   refine W_q (i := 5) rfl rfl rfl (q_load (v := .int .u32 gen) ag_31 rfl aP (by rw [← hE.gen]; rfl)) ?_
   refine wm (i := 6) rfl rfl rfl rfl ?_
   refine W_q (i := 7) rfl rfl rfl (q_build (vs := [(0, .int .u8 5), (5, .int .u32 gen), (6, .int .u32 id)]) (cs := (noteO { kind := 5, gen, job := id }).toArray) ps_72 zf_72 rfl (by simp [Instr.fill, Value.cells, noteO, noteV])) ?_
   refine W_call (i := 8) rfl rfl rfl rfl rfl rfl pf_74 (s_order yi.blk ((yi.sta (some (b36, ds)) yi.stopped).osa os osl).cells osl os hoo rfl (by unfold BrA.sz BIG at *; omega) n { kind := 5, gen, job := id }) (tk_cons1 (by repeat (first | exact tk_one | apply tk_app | apply tk_cons)) aC) ?_
   rintro _ _ ⟨rfl, osl', hoo', rfl⟩
   try simp only [NL]
   refine W_nil ?_
   refine N_seq ?_
   refine C_region ?_
   refine W_q (i := 0) rfl rfl rfl (q_add rfl rfl (succ64 (by omega))) ?_
   refine wm (i := 1) rfl rfl rfl rfl ?_
   refine W_nil ?_
   exact fun a w ha hk => ⟨⟨(k + 1, Qd.addS ds n, os ++ [(⟨n, { kind := 5, gen, job := id }⟩ : Qd.Order)], osl'), by dsimp only; omega, hgo, hoo', by simp; omega⟩, by dsimp only; omega, ha.sub aS, hk.take (by (try simp only [opn_eq, BrA.osa, BrA.sta, goJob, stKb_some, mapV_nil, BrA.osK, BrA.isK, BrA.dsK, BrA.msK, ranKb_some, Option.getD_some]); exact aT)⟩
  ·
   try simp only [CL] at ht61
   have hkl : k = j.x.at_.length := by omega
   subst hkl
   rw [List.drop_length, List.foldl_nil] at hgo
   refine C_to (opn (((yi.sta (some (b36, ds)) yi.stopped).osa os osl).set id (goJob j b52)) (goJob j b52) (mapV JobA.ptr yi.jobs) (mapKb JobA.kb (Qd.delA yi.jobs id)) ++ F) (by (try simp only [opn_eq, BrA.set, BrA.osK, BrA.isK, BrA.dsK, BrA.msK, ranKb_some, Option.getD_some, BrA.osa, BrA.sta, goJob, stKb_some, mapV_nil]); exact aT) ?_
   refine C_perm _ ?_ ((BrA.close_ (y := ((yi.sta (some (b36, ds)) yi.stopped).osa os osl).set id (goJob j b52)) (id := id) (a := (goJob j b52)) BrA.set_look (BrA.set_pm (y := ((yi.sta (some (b36, ds)) yi.stopped).osa os osl)) (a' := (goJob j b52)) hlk rfl) (BrA.set_js (y := ((yi.sta (some (b36, ds)) yi.stopped).osa os osl)) (a' := (goJob j b52)) hlk)).append_right F)
   refine C_exit ?_
   refine N_seq ?_
   refine C_region ?_
   refine W_q (i := 0) rfl rfl rfl (q_add rfl rfl (succ64 (by omega))) ?_
   refine wm (i := 1) rfl rfl rfl rfl ?_
   refine W_nil ?_
   exact fun a w ha hk => ⟨⟨(i + 1, ((yi.sta (some (b36, ds)) yi.stopped).osa os osl).set id (goJob j b52), ds), by dsimp only; omega, hE.step hid hlk hji hoo (by omega) hgo⟩, by dsimp only; omega, ha.sub aS, hk⟩
 ·
  try simp only [CL] at ht42
  have hil : i = l.length := by omega
  subst hil
  refine C_exit ?_
  intro a w ha hk
  exact R_val (e := .normal) (.inr rfl) ha.defers (res0 rfl) (hR _ _ _ ⟨rfl, yi, ⟨hE.ok, by rw [hE.b, List.take_length]; exact hrun.symm, hE.blk, by omega⟩, hE.len, rfl⟩ (hk.take aT))
end Go.SL
namespace Go.SL
open Go
section
variable {P : Program} {n : Nat} {L : Env} {K : KB}
/-- x = append(s, q...) -/
theorem e_appSl [Bs] {d : Option Nat} {x y : Operand} {T e : TypeId} {z : Value} {s q : Sl} {vs us : List Value} {sz by_ : Nat} {U : TypeId} {R : KB} {ats : Array TypeId} {ty pos aft gd} (hT : P.underlying T = some (.slice e)) (hi : infoB P e = some (some z, sz, by_))
    (hzs : z.cells.size = sz) (hat : ats = #[T, T]) (hx : ev L x = some s.val) (hy : ev L y = some q.val) (hok : s.Ok vs sz) (hq : q.Ok us sz) (hK : K.Perm (s.kb vs sz e ++ (q.kb us sz U ++ R)))
    (hb : (s.len + q.len) * by_ ≤ 140737488355328) (h63 : s.len + q.len ≤ 140737488355328) (h1 : us.all oneC = true) {vs' : List Value} (hvs : vs ++ us = vs') :
    ERun (β := { s' : Sl // s'.len = s.len + q.len ∧ s'.Ok vs' sz }) P n ⟨d, .call ⟨.builtin .append, #[x, y], ats⟩, ty, pos, aft, gd⟩ L K (fun s' => s'.1.val) (fun s' => s'.1.kb vs' sz e ++ (q.kb us sz U ++ R)) := by
  obtain ⟨i, h2, h3⟩ := Option.map_eq_some_iff.1 hi
  simp only [Prod.mk.injEq] at h3
  obtain ⟨hz, hsz, h6⟩ := h3
  subst h6
  subst hvs
  subst hat
  intro a w ha hkn
  have hk := hkn.perm hK
  have hl := hq.vlen
  obtain ⟨qa, ql, qc⟩ := q
  cases qa with
  | none =>
    have hc := hq.nil rfl
    have hc2 := hq.cap
    dsimp only at hc hc2 hl hb h63 hy hk ⊢
    have h0 : ql = 0 := by omega
    subst h0
    obtain ⟨s', w', hr, h2, h3, h4⟩ := run_append (P := P) (cx := ty) (us := us) (m := 0) (x := .slice none 0 qc) hT h2 hz hsz hzs hok hl h1 hb h63
      (fun w' hw' => by have : us = [] := List.eq_nil_of_length_eq_zero (by simpa using hl); subst this; simp [Builtin.firstCells]) (fun w' => by simp [Builtin.lenOf]) hk
    refine .inl ⟨⟨s', h2, h3⟩, w', .inl ?_, h4⟩
    simp only [Sl.val, Option.map_none] at hy
    simp [execOp, resolve, invoke, builtin, ev_eval ha hx, ev_eval ha hy, hr]
  | some p =>
    obtain ⟨bx, off⟩ := p
    dsimp only at hl hb h63
    obtain ⟨s', w', hr, h2, h3, h4⟩ := run_append (P := P) (cx := ty) (us := us) (m := ql) (x := .slice (some ⟨bx, off, none⟩) ql qc) hT h2 hz hsz hzs hok hl h1 hb h63
      (fun w' hw' => firstCells_row (cap := qc * sz) (T := U) (by rw [hw']; exact hk.right.has (bx, Row off us (qc * sz) U) (.head _)) hl) (fun w' => by simp [Builtin.lenOf]) hk
    refine .inl ⟨⟨s', h2, h3⟩, w', .inl ?_, h4⟩
    simp only [Sl.val, Option.map_some] at hy
    simp [execOp, resolve, invoke, builtin, ev_eval ha hx, ev_eval ha hy, hr]
end
/-- a contract over a part of what is known -/
theorem Spec.sub [Bs] {P : Program} {f : FuncId} {args : List Value} {K A : KB} {ψ : Value → Prop} (hp : ∃ R, K.Perm (A ++ R)) (h : Spec P f args A (fun v K' => ψ v ∧ K' = A)) : Spec P f args K (fun v K' => ψ v ∧ K' = K) := by
  obtain ⟨R, hp⟩ := hp
  intro F w hk
  refine (h (R ++ F) w (by have := hk.perm (hp.append_right F); rwa [List.append_assoc] at this)).mono fun e w' he => ?_
  cases e with
  | returned v =>
    obtain ⟨K', ⟨h1, rfl⟩, h2⟩ := he
    exact ⟨K, ⟨h1, rfl⟩, by rw [← List.append_assoc] at h2; exact h2.perm (hp.symm.append_right F)⟩
  | panicked c => exact he
  | outgrown => exact he
theorem Spec.subT [Bs] {P : Program} {f : FuncId} {args : List Value} {K A B : KB} {ψ : Value → Sl → Prop} {X : Sl → KB} (hp : ∃ R, K.Perm (A ++ R)) (h : Spec P f args (A ++ B) (fun v K' => ∃ sl, ψ v sl ∧ K' = A ++ (B ++ X sl))) : Spec P f args (K ++ B) (fun v K' => ∃ sl, ψ v sl ∧ K' = K ++ (B ++ X sl)) := by
  obtain ⟨R, hp⟩ := hp
  intro F w hk
  have e1 : ∀ Y : KB, (K ++ Y).Perm (A ++ Y ++ R) := fun Y => (hp.append_right Y).trans (by rw [List.append_assoc, List.append_assoc]; exact List.Perm.append_left A List.perm_append_comm)
  refine (h (R ++ F) w (by have := hk.perm ((e1 B).append_right F); rwa [List.append_assoc (A ++ B)] at this)).mono fun e w' he => ?_
  cases e with
  | returned v =>
    obtain ⟨K', ⟨sl, h1, rfl⟩, h2⟩ := he
    refine ⟨_, ⟨sl, h1, rfl⟩, ?_⟩
    rw [← List.append_assoc] at h2
    exact h2.perm ((e1 (B ++ X sl)).symm.append_right F)
  | panicked c => exact he
  | outgrown => exact he
end Go.SL
namespace Go.SL
open Go Go.Proofs
set_option maxRecDepth 10000
theorem BrA.p_mx (y : BrA) : ∃ R, y.kb.Perm (y.mx.kb ++ R) := ⟨_, by rw [BrA.kb_eq]; repeat (first | exact tk_here | exact tk_all | apply tk_app | apply tk_cons)⟩
theorem s_bnext [Bs] (y : BrA) (hy : y.Ok) (row : Int) : Spec Tryz.prog 88 [y.mx.ptr, .int .i64 row] y.kb (fun v K' => v = nextV (y.mx.m.next row) ∧ K' = y.kb) := (s_mnext y.mx hy.mx row).sub y.p_mx
def RowQ (l : List Int) (v : Value) (sl : Sl) : Prop := v = sl.val ∧ sl.Ok (encU l) 1 ∧ sl.len = l.length
theorem s_brow [Bs] (y : BrA) (hy : y.Ok) (r : Int) (h12 : y.mx.m.jobs.length ≤ 12) : Spec Tryz.prog 85 [y.mx.ptr, .int .i64 r] (y.kb ++ TZ) (fun v K' => ∃ sl : Sl, RowQ (y.mx.m.row r) v sl ∧ K' = y.kb ++ (TZ ++ sl.kb (encU (y.mx.m.row r)) 1 31)) :=
  Spec.subT y.p_mx ((s_mrow2 y.mx hy.mx r h12).mono fun _v _K' ⟨sl, h1, h2, h3, h4⟩ => ⟨sl, ⟨h1, h2, h3⟩, h4⟩)
theorem s_bfill [Bs] (y : BrA) (hy : y.Ok) (r : Int) (h12 : y.mx.m.jobs.length ≤ 12) : Spec Tryz.prog 91 [y.mx.ptr, .int .i64 r] (y.kb ++ TZ) (fun v K' => ∃ sl : Sl, RowQ (y.mx.m.fill r) v sl ∧ K' = y.kb ++ (TZ ++ sl.kb (encU (y.mx.m.fill r)) 1 31)) :=
  Spec.subT y.p_mx ((s_mfill y.mx hy.mx r h12).mono fun _v _K' ⟨sl, h1, h2, h3, h4⟩ => ⟨sl, ⟨h1, h2, h3⟩, h4⟩)
theorem nextV_eq (o : Option Int) : nextV o = .tuple #[.int .i64 (o.getD 0), .bool o.isSome] := by cases o <;> rfl
def BrA.rowS (y : BrA) (row : Int) : BrA := { y with row }
theorem BrA.Ok.rowS {y : BrA} (hy : y.Ok) (row : Int) : (y.rowS row).Ok := { hy with }
theorem startGo_none {b : Qd.Brain} {n : Nat} {row : Int} (h : b.m.next row = none) : b.startGo n row = b := by
  cases n with
  | zero => rfl
  | succ n => rw [Qd.Brain.startGo, h]
theorem startGo_run {b : Qd.Brain} {n : Nat} {row r : Int} (h : b.m.next row = some r) (hr : b.ready (b.m.row r) ≠ []) : b.startGo (n + 1) row = Qd.Brain.run { b with row := r } (b.ready (b.m.row r ++ b.m.fill r)) := by
  rw [Qd.Brain.startGo, h]; exact if_pos hr
theorem startGo_next {b : Qd.Brain} {n : Nat} {row r : Int} (h : b.m.next row = some r) (hr : b.ready (b.m.row r) = []) : b.startGo (n + 1) row = b.startGo n r := by
  rw [Qd.Brain.startGo, h]; exact if_neg (by simp [hr])
theorem ready_look {y : BrA} {l : List Int} : ∀ id ∈ y.b.ready l, ∃ j, Qd.lookA y.jobs id = some j := by
  intro id h
  rw [ready_eq] at h
  have h2 := (List.mem_filter.1 h).2
  unfold rdy at h2
  rw [job_b] at h2
  cases hl : Qd.lookA y.jobs id with
  | none => rw [hl] at h2; cases h2
  | some j => exact ⟨j, rfl⟩
theorem encU_app (a b : List Int) : encU a ++ encU b = encU (a ++ b) := by simp [encU]
theorem fb_84_10 : fieldB Tryz.prog 84 10 = some 13 := by kernel_rfl
theorem pf_88 : plainFn Tryz.prog 88 = true := by kernel_rfl
theorem pf_89 : plainFn Tryz.prog 89 = true := by kernel_rfl
theorem pf_90 : plainFn Tryz.prog 90 = true := by kernel_rfl
theorem pf_91 : plainFn Tryz.prog 91 = true := by kernel_rfl
set_option maxHeartbeats 2000000 in
theorem s_start [Bs] (y : BrA) (hy : y.Ok) (hmj : y.mx.m.jobs.length ≤ 12) (hfl : ∀ r, (y.mx.m.fill r).length ≤ 12) (hrl : ∀ r, (y.b.ready (y.mx.m.row r ++ y.mx.m.fill r)).length ≤ 12) (hsz0 : y.sz + 192 ≤ BIG) : Spec Tryz.prog 47 [y.ptr] (y.kb ++ TZ) (fun v K' => v = .tuple #[] ∧ ∃ y', BTop y y' y.b.start 192 ∧ y'.jobs.length ≤ y.jobs.length ∧ K' = y'.kb ++ TZ) := by
 have hc := okc hy
 have hbig := hsz0
 refine spec_body Tryz.func47 rfl rfl fun F R hR => ?_
 try simp only [NL]
 refine C_seq ?_
 refine C_region ?_
 refine wm (i := 0) rfl rfl rfl rfl ?_
 refine wc (i := 1) rfl rfl rfl rfl ?_
 refine W_q (i := 2) rfl rfl rfl (q_fieldAddr fb_84_10 rfl rfl) ?_
 refine W_q (i := 3) rfl rfl rfl (q_loadM ag_3 rfl (mem_of_perm (A := y.kb) aC (BrA.m_y y)) rfl) ?_
 refine wa (i := 4) rfl rfl rfl rfl ?_
 refine W_nil ?_
 refine N_seq ?_
 refine C_seq ?_
 refine C_region ?_
 refine wm (i := 0) rfl rfl rfl rfl ?_
 refine wc (i := 1) rfl rfl rfl rfl ?_
 refine W_q (i := 2) rfl rfl rfl (q_fieldAddr fb_84_0 rfl rfl) ?_
 refine W_q (i := 3) rfl rfl rfl (q_fieldAddr fb_25_1 rfl rfl) ?_
 refine W_q (i := 4) rfl rfl rfl (q_loadM ag_3 rfl (mem_of_perm (A := y.kb) aC (BrA.m_y y)) rfl) ?_
 refine wm (i := 5) rfl rfl rfl rfl ?_
 refine W_nil ?_
 refine N_seq ?_
 refine C_block ?_
 refine C_loopT (ι := { q : Nat × Int // q.1 ≤ y.c.rows.toNat ∧ y.b.startGo (y.c.rows.toNat - q.1) q.2 = y.b.start }) (fun q => [(0, y.ptr), (2, .int .i64 q.1.2), (13, .int .i64 y.c.rows), (14, .int .i64 (q.1.1 : Int))]) (fun _ => y.kb ++ (TZ ++ F)) (fun q => y.c.rows.toNat - q.1.1) ⟨(0, y.row), Nat.zero_le _, rfl⟩ aS aT ?_
 rintro ⟨⟨i, row⟩, hi, hgo⟩
 dsimp only at hi hgo ⊢
 refine C_seq ?_
 refine C_region ?_
 refine W_q (i := 0) rfl rfl rfl (q_int rfl rfl rfl) ?_
 refine W_nil ?_
 refine N_seq ?_
 refine C_seq ?_
 refine C_cond rfl (fun ht15 => ?_) (fun ht15 => ?_)
 ·
  try simp only [CL] at ht15
  have hil : i < y.c.rows.toNat := by omega
  refine C_skip ?_
  refine N_seq ?_
  refine C_seq ?_
  refine C_block ?_
  refine C_seq ?_
  refine C_region ?_
  refine wm (i := 0) rfl rfl rfl rfl ?_
  refine wc (i := 1) rfl rfl rfl rfl ?_
  refine W_q (i := 2) rfl rfl rfl (q_fieldAddr fb_84_5 rfl rfl) ?_
  refine W_q (i := 3) rfl rfl rfl (q_loadM ag_63 rfl (mem_of_perm (A := y.kb) aC (BrA.m_y y)) rfl) ?_
  refine wm (i := 4) rfl rfl rfl rfl ?_
  refine W_call (i := 5) rfl rfl rfl rfl rfl rfl pf_88 (s_bnext y hy row) aC ?_
  rintro _ _ ⟨rfl, rfl⟩
  obtain ⟨o, ho⟩ : ∃ o, y.mx.m.next row = o := ⟨_, rfl⟩
  rw [ho, nextV_eq]
  refine wm (i := 6) rfl rfl rfl rfl ?_
  refine W_q (i := 7) rfl rfl rfl (q_extract rfl rfl) ?_
  refine W_q (i := 8) rfl rfl rfl (q_extract rfl rfl) ?_
  refine wa (i := 9) rfl rfl rfl rfl ?_
  refine wa (i := 10) rfl rfl rfl rfl ?_
  refine W_nil ?_
  refine N_seq ?_
  refine C_seq ?_
  refine C_seq ?_
  refine C_region ?_
  refine wm (i := 0) rfl rfl rfl rfl ?_
  refine W_q (i := 1) rfl rfl rfl (q_not rfl) ?_
  refine W_nil ?_
  refine N_seq ?_
  refine C_cond rfl (fun ht26 => ?_) (fun ht26 => ?_)
  ·
   try simp only [CL] at ht26
   have ho0 : o = none := by simpa using ht26
   subst ho0
   refine C_ret fun a w ha hk => ?_
   exact R_val (e := .ret) (.inl rfl) ha.defers (res0 rfl) (hR _ _ _ ⟨rfl, y, ⟨hy, by rw [← hgo]; exact (startGo_none (b := y.b) ho).symm, rfl, Nat.le_add_right _ _⟩, Nat.le_refl _, rfl⟩ (hk.take aT))
  ·
   try simp only [CL] at ht26
   obtain ⟨r, rfl⟩ : ∃ r, o = some r := Option.isSome_iff_exists.1 (by simpa using ht26)
   have hr0 : y.b.m.next row = some r := ho
   simp only [Option.getD_some]
   refine C_skip ?_
   refine N_seq ?_
   refine C_seq ?_
   refine C_region ?_
   refine wm (i := 0) rfl rfl rfl rfl ?_
   refine wa (i := 1) rfl rfl rfl rfl ?_
   refine W_nil ?_
   refine N_seq ?_
   refine C_seq ?_
   refine C_region ?_
   refine wm (i := 0) rfl rfl rfl rfl ?_
   refine wm (i := 1) rfl rfl rfl rfl ?_
   refine wc (i := 2) rfl rfl rfl rfl ?_
   refine W_q (i := 3) rfl rfl rfl (q_fieldAddr fb_84_5 rfl rfl) ?_
   refine W_q (i := 4) rfl rfl rfl (q_loadM ag_63 rfl (mem_of_perm (A := y.kb) aC (BrA.m_y y)) rfl) ?_
   refine wm (i := 5) rfl rfl rfl rfl ?_
   refine W_call (i := 6) rfl rfl rfl rfl rfl rfl pf_85 (s_brow y hy r hmj) (tk_both aC aC) ?_
   rintro _ _ ⟨rsl, ⟨rfl, hrok, hrl1⟩, rfl⟩
   try simp only [NL]
   have hrl2 := row_len y.mx.m r
   refine W_call (i := 7) rfl rfl rfl rfl rfl rfl pf_89 (s_ready y hy (y.mx.m.row r) rsl hrok (by omega)) (tk_both aC aC) ?_
   rintro _ _ ⟨qsl, rfl, hqok, hql, rfl⟩
   try simp only [NL]
   refine W_q (i := 8) rfl rfl rfl (q_lenSl Tryz.underlying53 rfl rfl) ?_
   refine W_q (i := 9) rfl rfl rfl (q_int rfl rfl rfl) ?_
   refine W_nil ?_
   refine N_seq ?_
   refine C_cond rfl (fun ht37 => ?_) (fun ht37 => ?_)
   ·
    try simp only [CL] at ht37
    have hrn : y.b.ready (y.b.m.row r) ≠ [] := by intro h; have h3 : qsl.len = (y.b.ready (y.b.m.row r)).length := hql; rw [h] at h3; simp at h3; omega
    refine C_seq ?_
    rw [BrA.kb_eq]
    try simp only [NL]
    refine C_region ?_
    refine wm (i := 0) rfl rfl rfl rfl ?_
    refine wm (i := 1) rfl rfl rfl rfl ?_
    refine wc (i := 2) rfl rfl rfl rfl ?_
    refine W_q (i := 3) rfl rfl rfl (q_fieldAddr fb_84_10 rfl rfl) ?_
    refine W_e (i := 4) rfl rfl rfl (e_store sz_3 rfl rfl rfl aU (by first | decide | exact Nat.le_of_ble_eq_true rfl | simp [splice, Value.cells])) ?_
    intro _
    refine W_nil ?_
    refine N_seq ?_
    refine C_seq ?_
    refine C_to ((y.rowS r).kb ++ (TZ ++ F)) (by (try simp only [BrA.kb_eq, BrA.rowS, BrA.osK, BrA.isK, BrA.dsK, BrA.msK, BrA.jsK]); exact aT) ?_
    have hyr : (y.rowS r).Ok := hy.rowS r
    refine C_draw (.cons 0 .pure (.cons 1 .pure (.cons 2 .pure (.cons 3 .pure (.cons 4 .pure (.cons 5 .read (.cons 6 .pure (.cons 8 .pure (.cons 9 .pure (.cons 10 .pure (.cons 11 .read (.cons 12 .pure (.cons 7 .eff (.cons 13 .eff (.cons 14 .eff (.cons 15 .eff (.cons 16 .eff .nil))))))))))))))))) (fun w => Knows w _) 13 mo (by kernel_rfl) (fun _ h => h) ?_
    refine D_p rfl rfl rfl (q_move rfl) ?_
    refine D_p rfl rfl rfl (q_move rfl) ?_
    refine D_p rfl rfl rfl (q_move rfl) ?_
    refine D_p rfl rfl rfl (q_nilCheck rfl) ?_
    refine D_p rfl rfl rfl (q_fieldAddr fb_84_5 rfl rfl) ?_
    refine D_r rfl rfl rfl (q_loadM ag_63 rfl (mem_of_perm (A := (y.rowS r).kb) aC (BrA.m_y (y.rowS r))) rfl) ?_
    refine D_p rfl rfl rfl (q_move rfl) ?_
    refine D_p rfl rfl rfl (q_move rfl) ?_
    refine D_p rfl rfl rfl (q_nilCheck rfl) ?_
    refine D_p rfl rfl rfl (q_fieldAddr fb_84_5 rfl rfl) ?_
    refine D_r rfl rfl rfl (q_loadM ag_63 rfl (mem_of_perm (A := (y.rowS r).kb) aC (BrA.m_y (y.rowS r))) rfl) ?_
    refine D_p rfl rfl rfl (q_move rfl) ?_
    refine D_call rfl rfl rfl rfl rfl rfl pf_85 (s_brow (y.rowS r) hyr r hmj) (tk_both aC aC) (.inr (by rintro _ _ _ ⟨rsl2, ⟨rfl, hrok2, hrl3⟩, rfl⟩ h; exact h.take aT)) ?_
    rintro _ _ ⟨rsl2, ⟨rfl, hrok2, hrl3⟩, rfl⟩
    try simp only [NL]
    refine D_call rfl rfl rfl rfl rfl rfl pf_91 (s_bfill (y.rowS r) hyr r hmj) (tk_both aC aC) (.inl rfl) ?_
    rintro _ _ ⟨fsl, ⟨rfl, hfok, hfl1⟩, rfl⟩
    try simp only [NL]
    have hfl2 := hfl r
    have hfl3 : fsl.len = (y.mx.m.fill r).length := hfl1
    have hrl4 : rsl2.len = (y.mx.m.row r).length := hrl3
    refine D_e rfl rfl rfl (e_appSl (U := 31) Tryz.underlying53 inf_31 rfl rfl rfl rfl hrok2 hfok (List.Perm.trans aC (List.Perm.append_left _ aC)) (by omega) (by omega) (encU_one _) (encU_app _ _)) (.inl rfl) ?_
    rintro ⟨asl, hasl, haok⟩
    refine D_call rfl rfl rfl rfl rfl rfl pf_89 (s_ready (y.rowS r) hyr (y.mx.m.row r ++ y.mx.m.fill r) asl haok (by rw [List.length_append]; omega)) (tk_both aC aC) (.inl rfl) ?_
    rintro _ _ ⟨zsl, rfl, hzok, hzl, rfl⟩
    try simp only [NL]
    refine D_call rfl rfl rfl rfl rfl rfl pf_90 (s_run (y.rowS r) hyr ((y.rowS r).b.ready (y.mx.m.row r ++ y.mx.m.fill r)) zsl hzok (hrl r) ready_look hsz0) (tk_both aC aC) (.inl rfl) ?_
    rintro _ _ ⟨rfl, y', hto, hle, rfl⟩
    refine D_nil ?_
    refine N_seq ?_
    refine C_ret fun a w ha hk => ?_
    exact R_val (e := .ret) (.inl rfl) ha.defers (res0 rfl) (hR _ _ _ ⟨rfl, y', ⟨hto.ok, by rw [hto.b, ← hgo, show y.c.rows.toNat - i = (y.c.rows.toNat - i - 1) + 1 from by omega, startGo_run (b := y.b) hr0 hrn]; rfl, hto.blk, hto.sz⟩, hle, rfl⟩ (hk.take aT))
   ·
    try simp only [CL] at ht37
    have hrn : y.b.ready (y.b.m.row r) = [] := by apply List.eq_nil_of_length_eq_zero; have h3 : qsl.len = (y.b.ready (y.b.m.row r)).length := hql; omega
    refine C_skip ?_
    refine N_seq ?_
    refine C_region ?_
    refine W_q (i := 0) rfl rfl rfl (q_add rfl rfl (succ64 (by omega))) ?_
    refine wm (i := 1) rfl rfl rfl rfl ?_
    refine W_nil ?_
    exact fun a w ha hk => ⟨⟨(i + 1, r), by dsimp only; omega, by dsimp only; rw [show y.c.rows.toNat - (i + 1) = y.c.rows.toNat - i - 1 from by omega]; rw [← hgo, show y.c.rows.toNat - i = (y.c.rows.toNat - i - 1) + 1 from by omega, startGo_next (b := y.b) hr0 hrn]; rfl⟩, by dsimp only; omega, ha.sub aS, hk.take aT⟩
 ·
  try simp only [CL] at ht15
  have hil : i = y.c.rows.toNat := by omega
  subst hil
  rw [Nat.sub_self] at hgo
  refine C_exit ?_
  intro a w ha hk
  exact R_val (e := .normal) (.inr rfl) ha.defers (res0 rfl) (hR _ _ _ ⟨rfl, y, ⟨hy, by rw [← hgo]; rfl, rfl, Nat.le_add_right _ _⟩, Nat.le_refl _, rfl⟩ (hk.take aT))
end Go.SL
namespace Go.SL
open Go Go.Proofs
set_option maxRecDepth 10000
theorem repack_one {m : Qd.Mx} (h : m.rows = 1) : Qd.repack m = m := by unfold Qd.repack; rw [h]; rfl
theorem fill_one {m : Qd.Mx} (h : m.rows = 1) (r : Int) : m.fill r = [] := by
  unfold Qd.Mx.fill
  split
  · rename_i hr
    simp only [Qd.Mx.isRow, Bool.and_eq_true, decide_eq_true_eq] at hr
    have h0 : r = 0 := by omega
    rw [h, h0]
    rfl
  · rfl
def freshJ (x : Qd.Job) : Bool := !(x.j.state == 0 && x.drops.isNone) || (x.saving.isNone && x.ran.isNone)
/-- what a tick of a small brain asks for -/
def tpre (b : Qd.Brain) (now : Int) : Bool :=
  decide (b.members.length ≤ 12) && (decide (now ≤ b.now) || decide (now ≤ b.hold) || b.stops.isSome ||
    (let b1 := Qd.Brain.each Qd.Brain.leaveOne ({ b with now } : Qd.Brain).ids { b with now }
     let b2 := b1.place
     let b4 := { b2 with m := Qd.repack b2.m }
     let b5 := Qd.Brain.each Qd.Brain.save b4.ids b4
     decide (b.jobs.length ≤ 12) && decide (b1.jobs.length ≤ 1) && decide (b1.c.nodes ≤ 12) && b1.jobs.all (fun p => freshJ p.2) && decide (b2.jobs.length ≤ 1) && b2.waiting.isEmpty && decide (b2.m.rows = 1) && decide (b5.m.rows = 1) && decide (b5.m.jobs.length ≤ 12)))
def TickCost : Nat := 2000
theorem mj_len (y : BrA) : y.b.jobs.length = y.jobs.length := by simp [BrA.b, BrA.mj]
theorem fresh_of {y : BrA} (hy : y.Ok) (h : y.b.jobs.all (fun p => freshJ p.2) = true) : ∀ id j, Qd.lookA y.jobs id = some j → j.x.j.state = 0 → j.x.drops = none → j.sv = none ∧ j.x.ran = none := by
  intro id j hl hs hd
  have h1 := Qd.lookA_mem hl
  have h2 : (id, j.x) ∈ y.b.jobs := List.mem_map.2 ⟨(id, j), h1, rfl⟩
  have h3 := List.all_eq_true.1 h _ h2
  have h4 := (hy.at hl).1.sv
  simp only [freshJ, hs, hd, Option.isNone_none, beq_self_eq_true, Bool.and_self, Bool.not_true, Bool.false_or, Bool.and_eq_true, Option.isNone_iff_eq_none] at h3
  refine ⟨?_, h3.2⟩
  rw [h3.1] at h4
  cases h5 : j.sv with
  | none => rfl
  | some s => rw [h5] at h4; cases h4
def BrA.nowS (y : BrA) (now : Int) : BrA := { y with now }
theorem BrA.Ok.nowS {y : BrA} (hy : y.Ok) {now : Int} (h : 0 ≤ now ∧ now ≤ 4294967295) : (y.nowS now).Ok := { hy with n32 := h }
def BrA.mxN (y : BrA) (mx : MxA) : BrA := { y with mx }
theorem BrA.Ok.mxN {y : BrA} (hy : y.Ok) {x : MxA} (hx : x.Ok) (hm : x.m = y.mx.m) : (y.mxN x).Ok := { hy with mx := hx, mr := by show x.m.rows = y.c.rows; rw [hm]; exact hy.mr, mn := by show x.m.nodes = y.c.nodes; rw [hm]; exact hy.mn }
theorem preempt_none {b : Qd.Brain} (h : b.waiting = []) : b.preempt = b := by unfold Qd.Brain.preempt; rw [h]
theorem tick_stale {b : Qd.Brain} {now : Int} (h : now ≤ b.now) : b.tick now = (12, b) := by unfold Qd.Brain.tick; rw [if_pos h]
theorem tick_hold {b : Qd.Brain} {now : Int} (h : ¬ now ≤ b.now) (h2 : now ≤ b.hold) : b.tick now = (0, { b with now }) := by unfold Qd.Brain.tick; rw [if_neg h]; exact if_pos h2
theorem tick_stops {b : Qd.Brain} {now : Int} (h : ¬ now ≤ b.now) (h2 : ¬ now ≤ b.hold) (h3 : b.stops.isSome = true) : b.tick now = (0, if !b.stopped && (decide (now ≥ b.end_) || ({ b with now } : Qd.Brain).idle) then ({ b with now } : Qd.Brain).stop else { b with now }) := by
  unfold Qd.Brain.tick; rw [if_neg h]; dsimp only; rw [if_neg h2, if_pos h3]
theorem tick_go {b b1 b2 b5 : Qd.Brain} {now : Int} (h : ¬ now ≤ b.now) (h2 : ¬ now ≤ b.hold) (h3 : b.stops.isSome = false) (e1 : b1 = Qd.Brain.each Qd.Brain.leaveOne ({ b with now } : Qd.Brain).ids { b with now }) (e2 : b2 = b1.place) (hw : b2.waiting = [])
    (e5 : b5 = Qd.Brain.each Qd.Brain.save ({ b2 with m := Qd.repack b2.m } : Qd.Brain).ids { b2 with m := Qd.repack b2.m }) : b.tick now = (0, b5.start) := by
  unfold Qd.Brain.tick; rw [if_neg h]; dsimp only; rw [if_neg h2, if_neg (by simp [h3])]
  rw [← e1, ← e2, preempt_none hw, ← e5]
theorem fb_84_1 : fieldB Tryz.prog 84 1 = some 4 := by kernel_rfl
theorem pf_119 : plainFn Tryz.prog 119 = true := by kernel_rfl
theorem pf_40 : plainFn Tryz.prog 40 = true := by kernel_rfl
theorem pf_41 : plainFn Tryz.prog 41 = true := by kernel_rfl
theorem pf_42 : plainFn Tryz.prog 42 = true := by kernel_rfl
theorem pf_43 : plainFn Tryz.prog 43 = true := by kernel_rfl
theorem pf_44 : plainFn Tryz.prog 44 = true := by kernel_rfl
theorem pf_45 : plainFn Tryz.prog 45 = true := by kernel_rfl
theorem pf_46 : plainFn Tryz.prog 46 = true := by kernel_rfl
theorem pf_47 : plainFn Tryz.prog 47 = true := by kernel_rfl
theorem pf_84 : plainFn Tryz.prog 84 = true := by kernel_rfl
theorem sz_63 : sizeB Tryz.prog 63 = some 1 := by kernel_rfl
set_option maxHeartbeats 2000000 in
theorem s_preempt0 [Bs] (y : BrA) (hy : y.Ok) (h1 : y.jobs.length ≤ 1) (hw : y.b.waiting = []) : Spec Tryz.prog 44 [y.ptr] (y.kb) (fun v K' => v = .tuple #[] ∧ K' = y.kb) := by
 refine spec_body Tryz.func44 rfl rfl fun F R hR => ?_
 try simp only [NL]
 refine C_seq ?_
 refine C_region ?_
 refine wm (i := 0) rfl rfl rfl rfl ?_
 refine W_call (i := 1) rfl rfl rfl rfl rfl rfl pf_75 (s_waiting y hy h1) aC ?_
 rintro _ _ ⟨wsl, rfl, hwok, rfl⟩
 rw [hw] at hwok ⊢
 have hwl : wsl.len = 0 := by have := hwok.vlen; simpa [ptrsV] using this.symm
 try simp only [NL]
 refine wa (i := 2) rfl rfl rfl rfl ?_
 refine W_nil ?_
 refine N_seq ?_
 refine C_seq ?_
 refine C_seq ?_
 refine C_region ?_
 refine wm (i := 0) rfl rfl rfl rfl ?_
 refine W_q (i := 1) rfl rfl rfl (q_lenSl Tryz.underlying99 rfl rfl) ?_
 refine W_q (i := 2) rfl rfl rfl (q_int rfl rfl (v := .bool true) (by rw [hwl]; rfl)) ?_
 refine wm (i := 3) rfl rfl rfl rfl ?_
 refine W_skip (i := 4) rfl rfl rfl ?_
 refine W_skip (i := 5) rfl rfl rfl ?_
 refine W_skip (i := 6) rfl rfl rfl ?_
 refine W_q (i := 7) rfl rfl rfl (q_pickT rfl rfl) ?_
 refine W_nil ?_
 refine N_seq ?_
 refine C_condT rfl ?_
 refine C_ret fun a w ha hk => ?_
 exact R_val (e := .ret) (.inl rfl) ha.defers (res0 rfl) (hR _ _ _ ⟨rfl, rfl⟩ (hk.take aT))
set_option maxHeartbeats 2000000 in
theorem s_scount [Bs] (x : MxA) : Spec Tryz.prog 84 [x.ptr] (x.kb) (fun v K' => v = .int .i64 x.m.rows ∧ K' = x.kb) := by
 refine spec_body Tryz.func84 rfl rfl fun F R hR => ?_
 try simp only [NL]
 refine C_seq ?_
 refine C_region ?_
 refine wa (i := 0) rfl rfl rfl rfl ?_
 refine W_nil ?_
 refine N_seq ?_
 refine C_seq ?_
 refine C_region ?_
 refine wm (i := 0) rfl rfl rfl rfl ?_
 refine W_call (i := 1) rfl rfl rfl rfl rfl rfl pf_119 (s_msize x) aC ?_
 rintro _ _ ⟨rfl, rfl⟩
 refine wm (i := 2) rfl rfl rfl rfl ?_
 refine W_q (i := 3) rfl rfl rfl (q_extract rfl rfl) ?_
 refine W_q (i := 4) rfl rfl rfl (q_extract rfl rfl) ?_
 refine wa (i := 5) rfl rfl rfl rfl ?_
 refine wa (i := 6) rfl rfl rfl rfl ?_
 refine W_nil ?_
 refine N_seq ?_
 refine C_seq ?_
 refine C_region ?_
 refine wm (i := 0) rfl rfl rfl rfl ?_
 refine wa (i := 1) rfl rfl rfl rfl ?_
 refine W_nil ?_
 refine N_seq ?_
 refine C_ret fun a w ha hk => ?_
 exact R_val (e := .ret) (.inl rfl) ha.defers (res1 ha rfl rfl) (hR _ _ _ ⟨rfl, rfl⟩ (hk.take aT))
set_option maxHeartbeats 2000000 in
theorem s_repack1 [Bs] (x : MxA) (hx : x.Ok) (hr : x.m.rows = 1) : Spec Tryz.prog 45 [x.ptr] (x.kb) (fun v K' => ∃ z : MxA, v = .tuple #[z.ptr, .slice none 0 0] ∧ z.m = x.m ∧ z.Ok ∧ K' = x.kb ++ z.kb) := by
 refine spec_body Tryz.func45 rfl rfl fun F R hR => ?_
 try simp only [NL]
 refine C_seq ?_
 refine C_region ?_
 refine wa (i := 0) rfl rfl rfl rfl ?_
 refine wa (i := 1) rfl rfl rfl rfl ?_
 refine W_nil ?_
 refine N_seq ?_
 refine C_seq ?_
 refine C_region ?_
 refine wm (i := 0) rfl rfl rfl rfl ?_
 refine W_call (i := 1) rfl rfl rfl rfl rfl rfl pf_60 (s_mcopy x hx) aC ?_
 rintro _ _ ⟨z, rfl, hzm, hz, rfl⟩
 try simp only [NL]
 have hzr : z.m.rows = 1 := by rw [hzm]; exact hr
 refine wa (i := 2) rfl rfl rfl rfl ?_
 refine W_nil ?_
 refine N_seq ?_
 refine C_seq ?_
 refine C_region ?_
 refine wa (i := 0) rfl rfl rfl rfl ?_
 refine W_nil ?_
 refine N_seq ?_
 refine C_seq ?_
 refine C_seq ?_
 refine C_region ?_
 refine wa (i := 0) rfl rfl rfl rfl ?_
 refine W_nil ?_
 refine N_seq ?_
 refine C_block ?_
 refine C_loopT (ι := Unit) (fun _ => [(0, x.ptr), (4, z.ptr), (5, .slice none 0 0), (6, .int .i64 1)]) (fun _ => x.kb ++ (z.kb ++ F)) (fun _ => 0) () aS aT ?_
 rintro _
 refine C_seq ?_
 refine C_seq ?_
 refine C_region ?_
 refine wm (i := 0) rfl rfl rfl rfl ?_
 refine wm (i := 1) rfl rfl rfl rfl ?_
 refine W_call (i := 2) rfl rfl rfl rfl rfl rfl pf_84 (s_scount z) aC ?_
 rintro _ _ ⟨rfl, rfl⟩
 refine W_q (i := 3) rfl rfl rfl (q_int rfl rfl (v := .bool false) (by rw [hzr]; rfl)) ?_
 refine W_nil ?_
 refine N_seq ?_
 refine C_condF rfl ?_
 refine C_exit ?_
 refine N_seq ?_
 refine C_seq ?_
 refine C_region ?_
 refine wm (i := 0) rfl rfl rfl rfl ?_
 refine wm (i := 1) rfl rfl rfl rfl ?_
 refine wa (i := 2) rfl rfl rfl rfl ?_
 refine wa (i := 3) rfl rfl rfl rfl ?_
 refine W_nil ?_
 refine N_seq ?_
 refine C_ret fun a w ha hk => ?_
 exact R_val (e := .ret) (.inl rfl) ha.defers (res2 ha rfl rfl rfl) (hR _ _ _ ⟨z, rfl, hzm, hz, rfl⟩ (hk.take aT))
set_option maxHeartbeats 2000000 in
theorem s_tick [Bs] (y : BrA) (hy : y.Ok) (now : Int) (hnow : 0 ≤ now ∧ now ≤ 4294967295) (hpre : tpre y.b now = true) (hsz0 : y.sz + TickCost ≤ BIG) : Spec Tryz.prog 14 [y.ptr, .int .u32 now] (y.kb ++ TZ) (fun v K' => ∃ y', v = .int .i64 (y.b.tick now).1 ∧ BTop y y' (y.b.tick now).2 TickCost ∧ K' = y'.kb ++ TZ) := by
 unfold TickCost at hsz0
 unfold tpre at hpre
 rw [Bool.and_eq_true, decide_eq_true_eq] at hpre
 obtain ⟨hmem, hpre⟩ := hpre
 refine spec_body Tryz.func14 rfl rfl fun F R hR => ?_
 try simp only [NL]
 refine C_seq ?_
 refine C_region ?_
 refine wa (i := 0) rfl rfl rfl rfl ?_
 refine W_nil ?_
 refine N_seq ?_
 refine C_seq ?_
 refine C_block ?_
 refine C_seq ?_
 refine C_region ?_
 refine wm (i := 0) rfl rfl rfl rfl ?_
 refine W_q (i := 1) rfl rfl rfl (q_eqPtrNil Tryz.underlying27 rfl rfl) ?_
 refine wa (i := 2) rfl rfl rfl rfl ?_
 refine W_nil ?_
 refine N_seq ?_
 refine C_condF rfl ?_
 refine C_seq ?_
 refine C_region ?_
 refine wm (i := 0) rfl rfl rfl rfl ?_
 refine wm (i := 1) rfl rfl rfl rfl ?_
 refine wc (i := 2) rfl rfl rfl rfl ?_
 refine W_q (i := 3) rfl rfl rfl (q_fieldAddr fb_84_2 rfl rfl) ?_
 refine W_q (i := 4) rfl rfl rfl (q_loadM ag_31 rfl (mem_of_perm (A := y.kb) aC (BrA.m_y y)) rfl) ?_
 refine W_q (i := 5) rfl rfl rfl (q_int rfl rfl rfl) ?_
 refine wa (i := 6) rfl rfl rfl rfl ?_
 refine W_nil ?_
 refine N_seq ?_
 refine C_cond rfl (fun ht8 => ?_) (fun ht8 => ?_)
 ·
  try simp only [CL] at ht8
  have hg := tick_stale (b := y.b) ht8
  refine C_seq ?_
  refine C_region ?_
  refine wa (i := 0) rfl rfl rfl rfl ?_
  refine W_nil ?_
  refine N_seq ?_
  refine C_ret fun a w ha hk => ?_
  exact R_val (e := .ret) (.inl rfl) ha.defers (res1 ha rfl rfl) (hR _ _ _ ⟨y, by rw [hg], ⟨hy, by rw [hg], rfl, Nat.le_add_right _ _⟩, rfl⟩ (hk.take aT))
 ·
  try simp only [CL] at ht8
  have hn1 : ¬ now ≤ y.b.now := by show ¬ now ≤ y.now; omega
  refine C_skip ?_
  refine N_seq ?_
  refine C_seq ?_
  rw [BrA.kb_eq]
  try simp only [NL]
  refine C_region ?_
  refine wm (i := 0) rfl rfl rfl rfl ?_
  refine wm (i := 1) rfl rfl rfl rfl ?_
  refine wc (i := 2) rfl rfl rfl rfl ?_
  refine W_q (i := 3) rfl rfl rfl (q_fieldAddr fb_84_2 rfl rfl) ?_
  refine W_e (i := 4) rfl rfl rfl (e_store sz_31 rfl rfl rfl aU (by first | decide | exact Nat.le_of_ble_eq_true rfl | simp [splice, Value.cells])) ?_
  intro _
  refine W_nil ?_
  refine N_seq ?_
  refine C_seq ?_
  refine C_seq ?_
  refine C_to ((y.nowS now).kb ++ (TZ ++ F)) (by (try simp only [BrA.kb_eq, BrA.nowS, BrA.osK, BrA.isK, BrA.dsK, BrA.msK, BrA.jsK]); exact aT) ?_
  have hyn : (y.nowS now).Ok := hy.nowS hnow
  have hyb : (y.nowS now).b = { y.b with now } := rfl
  have hsn : (y.nowS now).sz = y.sz := rfl
  refine C_region ?_
  refine wm (i := 0) rfl rfl rfl rfl ?_
  refine wm (i := 1) rfl rfl rfl rfl ?_
  refine wc (i := 2) rfl rfl rfl rfl ?_
  refine W_q (i := 3) rfl rfl rfl (q_fieldAddr fb_84_1 rfl rfl) ?_
  refine W_q (i := 4) rfl rfl rfl (q_loadM ag_31 rfl (mem_of_perm (A := (y.nowS now).kb) aC (BrA.m_y (y.nowS now))) rfl) ?_
  refine W_q (i := 5) rfl rfl rfl (q_int rfl rfl rfl) ?_
  refine W_nil ?_
  refine N_seq ?_
  refine C_cond rfl (fun ht24 => ?_) (fun ht24 => ?_)
  ·
   try simp only [CL] at ht24
   have hg := tick_hold (b := y.b) hn1 (show now ≤ y.b.hold from ht24)
   refine C_seq ?_
   refine C_region ?_
   refine wa (i := 0) rfl rfl rfl rfl ?_
   refine W_nil ?_
   refine N_seq ?_
   refine C_ret fun a w ha hk => ?_
   exact R_val (e := .ret) (.inl rfl) ha.defers (res1 ha rfl rfl) (hR _ _ _ ⟨(y.nowS now), by rw [hg], ⟨hyn, by rw [hg]; rfl, rfl, Nat.le_add_right _ _⟩, rfl⟩ (hk.take aT))
  ·
   try simp only [CL] at ht24
   have hn2 : ¬ now ≤ y.b.hold := ht24
   refine C_skip ?_
   refine N_seq ?_
   refine C_seq ?_
   refine C_seq ?_
   refine C_region ?_
   refine wm (i := 0) rfl rfl rfl rfl ?_
   refine wc (i := 1) rfl rfl rfl rfl ?_
   refine W_q (i := 2) rfl rfl rfl (q_fieldAddr fb_84_13 rfl rfl) ?_
   refine W_q (i := 3) rfl rfl rfl (q_loadM (v := .map (stMap y.st)) ag_81 rfl (mem_of_perm (A := (y.nowS now).kb) aC (BrA.m_y (y.nowS now))) rfl) ?_
   refine W_q (i := 4) rfl rfl rfl (q_neMapNil Tryz.underlying81 rfl rfl) ?_
   refine W_nil ?_
   refine N_seq ?_
   refine C_cond rfl (fun ht29 => ?_) (fun ht29 => ?_)
   ·
    try simp only [CL] at ht29
    have hst : y.b.stops.isSome = true := by cases h : y.st with | none => rw [h] at ht29; simp [stMap] at ht29 | some p => simp [BrA.b, h]
    have hg := tick_stops (b := y.b) hn1 hn2 hst
    refine C_seq ?_
    refine C_seq ?_
    refine C_region ?_
    refine wm (i := 0) rfl rfl rfl rfl ?_
    refine wc (i := 1) rfl rfl rfl rfl ?_
    refine W_q (i := 2) rfl rfl rfl (q_fieldAddr fb_84_14 rfl rfl) ?_
    refine W_q (i := 3) rfl rfl rfl (q_loadM (v := .bool y.stopped) ag_4 rfl (mem_of_perm (A := (y.nowS now).kb) aC (BrA.m_y (y.nowS now))) rfl) ?_
    refine W_q (i := 4) rfl rfl rfl (q_not rfl) ?_
    refine wm (i := 5) rfl rfl rfl rfl ?_
    refine W_bool 35 _ rfl (fun ht35 => ?_) (fun ht35 => ?_)
    ·
     try simp only [CL] at ht35
     refine wm (i := 6) rfl rfl rfl rfl ?_
     refine wm (i := 7) rfl rfl rfl rfl ?_
     refine wc (i := 8) rfl rfl rfl rfl ?_
     refine W_q (i := 9) rfl rfl rfl (q_fieldAddr fb_84_12 rfl rfl) ?_
     refine W_q (i := 10) rfl rfl rfl (q_loadM (v := .int .u32 y.end_) ag_31 rfl (mem_of_perm (A := (y.nowS now).kb) aC (BrA.m_y (y.nowS now))) rfl) ?_
     refine W_q (i := 11) rfl rfl rfl (q_int rfl rfl rfl) ?_
     refine wm (i := 12) rfl rfl rfl rfl ?_
     refine W_bool 42 _ rfl (fun ht42 => ?_) (fun ht42 => ?_)
     ·
      try simp only [CL] at ht42
      refine W_skip (i := 13) rfl rfl rfl ?_
      refine W_skip (i := 14) rfl rfl rfl ?_
      refine W_q (i := 15) rfl rfl rfl (q_pickT rfl rfl) ?_
      refine W_q (i := 16) rfl rfl rfl (q_pickT rfl rfl) ?_
      refine W_nil ?_
      refine N_seq ?_
      refine C_condT rfl ?_
      refine C_region ?_
      refine wm (i := 0) rfl rfl rfl rfl ?_
      refine W_call (i := 1) rfl rfl rfl rfl rfl rfl pf_41 (s_stop (y.nowS now) hyn (by omega)) aC ?_
      rintro _ _ ⟨rfl, y', hto, _, rfl⟩
      refine W_nil ?_
      refine N_seq ?_
      refine C_seq ?_
      refine C_region ?_
      refine wa (i := 0) rfl rfl rfl rfl ?_
      refine W_nil ?_
      refine N_seq ?_
      refine C_ret fun a w ha hk => ?_
      exact R_val (e := .ret) (.inl rfl) ha.defers (res1 ha rfl rfl) (hR _ _ _ (by have hgo : (!y.stopped && (decide (now ≥ y.end_) || ((y.nowS now)).b.idle)) = true := (by simp [ht35, ht42]); rw [if_pos (show (!y.b.stopped && (decide (now ≥ y.b.end_) || Qd.Brain.idle { y.b with now })) = true from hgo)] at hg; exact ⟨y', by rw [hg], ⟨hto.ok, by rw [hg, hto.b]; rfl, hto.blk, by have := hto.sz; unfold TickCost; omega⟩, rfl⟩) (hk.take aT))
     ·
      try simp only [CL] at ht42
      refine wm (i := 13) rfl rfl rfl rfl ?_
      refine W_call (i := 14) rfl rfl rfl rfl rfl rfl pf_40 (s_idle (y.nowS now) hyn (Nat.le_trans hmem (by omega))) aC ?_
      rintro _ _ ⟨rfl, rfl⟩
      refine W_q (i := 15) rfl rfl rfl (q_pickF rfl rfl) ?_
      refine W_q (i := 16) rfl rfl rfl (q_pickT rfl rfl) ?_
      refine W_nil ?_
      refine N_seq ?_
      refine C_cond rfl (fun ht46 => ?_) (fun ht46 => ?_)
      ·
       try simp only [CL] at ht46
       refine C_region ?_
       refine wm (i := 0) rfl rfl rfl rfl ?_
       refine W_call (i := 1) rfl rfl rfl rfl rfl rfl pf_41 (s_stop (y.nowS now) hyn (by omega)) aC ?_
       rintro _ _ ⟨rfl, y', hto, _, rfl⟩
       refine W_nil ?_
       refine N_seq ?_
       refine C_seq ?_
       refine C_region ?_
       refine wa (i := 0) rfl rfl rfl rfl ?_
       refine W_nil ?_
       refine N_seq ?_
       refine C_ret fun a w ha hk => ?_
       exact R_val (e := .ret) (.inl rfl) ha.defers (res1 ha rfl rfl) (hR _ _ _ (by have hgo : (!y.stopped && (decide (now ≥ y.end_) || ((y.nowS now)).b.idle)) = true := (by simp [ht35, ht46]); rw [if_pos (show (!y.b.stopped && (decide (now ≥ y.b.end_) || Qd.Brain.idle { y.b with now })) = true from hgo)] at hg; exact ⟨y', by rw [hg], ⟨hto.ok, by rw [hg, hto.b]; rfl, hto.blk, by have := hto.sz; unfold TickCost; omega⟩, rfl⟩) (hk.take aT))
      ·
       try simp only [CL] at ht46
       refine C_skip ?_
       refine N_seq ?_
       refine C_seq ?_
       refine C_region ?_
       refine wa (i := 0) rfl rfl rfl rfl ?_
       refine W_nil ?_
       refine N_seq ?_
       refine C_ret fun a w ha hk => ?_
       exact R_val (e := .ret) (.inl rfl) ha.defers (res1 ha rfl rfl) (hR _ _ _ (by have hgo : (!y.stopped && (decide (now ≥ y.end_) || ((y.nowS now)).b.idle)) = false := (by simp [ht35, ht46]; omega); rw [if_neg (show ¬ (!y.b.stopped && (decide (now ≥ y.b.end_) || Qd.Brain.idle { y.b with now })) = true from by rw [show (!y.b.stopped && (decide (now ≥ y.b.end_) || Qd.Brain.idle { y.b with now })) = false from hgo]; simp)] at hg; exact ⟨(y.nowS now), by rw [hg], ⟨hyn, by rw [hg]; rfl, rfl, Nat.le_add_right _ _⟩, rfl⟩) (hk.take aT))
    ·
     try simp only [CL] at ht35
     refine W_skip (i := 6) rfl rfl rfl ?_
     refine W_skip (i := 7) rfl rfl rfl ?_
     refine W_skip (i := 8) rfl rfl rfl ?_
     refine W_skip (i := 9) rfl rfl rfl ?_
     refine W_skip (i := 10) rfl rfl rfl ?_
     refine W_skip (i := 11) rfl rfl rfl ?_
     refine W_skip (i := 12) rfl rfl rfl ?_
     refine W_skip (i := 13) rfl rfl rfl ?_
     refine W_skip (i := 14) rfl rfl rfl ?_
     refine W_skip (i := 15) rfl rfl rfl ?_
     refine W_q (i := 16) rfl rfl rfl (q_pickF rfl rfl) ?_
     refine W_nil ?_
     refine N_seq ?_
     refine C_condF rfl ?_
     refine C_skip ?_
     refine N_seq ?_
     refine C_seq ?_
     refine C_region ?_
     refine wa (i := 0) rfl rfl rfl rfl ?_
     refine W_nil ?_
     refine N_seq ?_
     refine C_ret fun a w ha hk => ?_
     exact R_val (e := .ret) (.inl rfl) ha.defers (res1 ha rfl rfl) (hR _ _ _ (by have hgo : (!y.stopped && (decide (now ≥ y.end_) || ((y.nowS now)).b.idle)) = false := (by simp [ht35]); rw [if_neg (show ¬ (!y.b.stopped && (decide (now ≥ y.b.end_) || Qd.Brain.idle { y.b with now })) = true from by rw [show (!y.b.stopped && (decide (now ≥ y.b.end_) || Qd.Brain.idle { y.b with now })) = false from hgo]; simp)] at hg; exact ⟨(y.nowS now), by rw [hg], ⟨hyn, by rw [hg]; rfl, rfl, Nat.le_add_right _ _⟩, rfl⟩) (hk.take aT))
   ·
    try simp only [CL] at ht29
    have hst : y.b.stops.isSome = false := by cases h : y.st with | none => simp [BrA.b, h] | some p => rw [h] at ht29; simp [stMap] at ht29
    rw [hst, decide_eq_false hn1, decide_eq_false hn2] at hpre
    simp only [Bool.false_or, Bool.and_eq_true, decide_eq_true_eq] at hpre
    obtain ⟨⟨⟨⟨⟨⟨⟨⟨p1, p2⟩, p3⟩, p4⟩, p5⟩, p6⟩, p7⟩, p8⟩, p9⟩ := hpre
    rw [mj_len] at p1
    obtain ⟨b1, hb1⟩ : ∃ b1, Qd.Brain.each Qd.Brain.leaveOne (Qd.Brain.ids { y.b with now }) { y.b with now } = b1 := ⟨_, rfl⟩
    rw [hb1] at p2 p3 p4 p5 p6 p7 p8 p9
    obtain ⟨b2, hb2⟩ : ∃ b2, b1.place = b2 := ⟨_, rfl⟩
    rw [hb2] at p5 p6 p7 p8 p9
    obtain ⟨b5, hb5⟩ : ∃ b5, Qd.Brain.each Qd.Brain.save (Qd.Brain.ids { b2 with m := Qd.repack b2.m }) { b2 with m := Qd.repack b2.m } = b5 := ⟨_, rfl⟩
    rw [hb5] at p8 p9
    have hw2 : b2.waiting = [] := by simpa using p6
    have hg := tick_go (b := y.b) hn1 hn2 hst hb1.symm hb2.symm hw2 hb5.symm
    refine C_skip ?_
    refine N_seq ?_
    refine C_seq ?_
    refine C_region ?_
    refine wm (i := 0) rfl rfl rfl rfl ?_
    refine W_call (i := 1) rfl rfl rfl rfl rfl rfl pf_42 (s_leave (y.nowS now) hyn p1 (by omega)) aC ?_
    rintro _ _ ⟨rfl, y1, ht1, hl1, rfl⟩
    have hy1b : y1.b = b1 := ht1.b.trans hb1
    have hs1 := ht1.sz
    rw [show y.ptr = y1.ptr from by simp only [BrA.ptr, ht1.blk]; rfl]
    refine W_nil ?_
    refine N_seq ?_
    refine C_seq ?_
    refine C_region ?_
    refine wm (i := 0) rfl rfl rfl rfl ?_
    refine W_call (i := 1) rfl rfl rfl rfl rfl rfl pf_43 (s_place y1 ht1.ok (by rw [← mj_len, hy1b]; exact p2) (by have : y1.b.c.nodes = y1.c.nodes := rfl; rw [← this, hy1b]; exact p3) (fresh_of ht1.ok (by rw [hy1b]; exact p4)) (by omega)) aC ?_
    rintro _ _ ⟨rfl, y2, ht2, hl2, hc2, rfl⟩
    have hy2b : y2.b = b2 := ht2.b.trans (by rw [hy1b]; exact hb2)
    have hs2 := ht2.sz
    rw [show y1.ptr = y2.ptr from by simp only [BrA.ptr, ht2.blk]]
    have hr2 : y2.mx.m.rows = 1 := by have : y2.b.m.rows = y2.mx.m.rows := rfl; rw [← this, hy2b]; exact p7
    refine W_nil ?_
    refine N_seq ?_
    refine C_seq ?_
    refine C_region ?_
    refine wm (i := 0) rfl rfl rfl rfl ?_
    refine W_call (i := 1) rfl rfl rfl rfl rfl rfl pf_44 (s_preempt0 y2 ht2.ok (by rw [← mj_len, hy2b]; exact p5) (by rw [hy2b]; exact hw2)) aC ?_
    rintro _ _ ⟨rfl, rfl⟩
    refine W_nil ?_
    refine N_seq ?_
    refine C_seq ?_
    rw [BrA.kb_eq]
    try simp only [NL]
    refine C_region ?_
    refine wm (i := 0) rfl rfl rfl rfl ?_
    refine wm (i := 1) rfl rfl rfl rfl ?_
    refine wc (i := 2) rfl rfl rfl rfl ?_
    refine W_q (i := 3) rfl rfl rfl (q_fieldAddr fb_84_5 rfl rfl) ?_
    refine W_q (i := 4) rfl rfl rfl (q_load ag_63 rfl aP rfl) ?_
    refine W_call (i := 5) rfl rfl rfl rfl rfl rfl pf_45 (s_repack1 y2.mx ht2.ok.mx hr2) aC ?_
    rintro _ _ ⟨z, rfl, hzm, hz, rfl⟩
    try simp only [NL]
    refine wm (i := 6) rfl rfl rfl rfl ?_
    refine W_q (i := 7) rfl rfl rfl (q_extract rfl rfl) ?_
    refine W_q (i := 8) rfl rfl rfl (q_extract rfl rfl) ?_
    refine wc (i := 9) rfl rfl rfl rfl ?_
    refine W_q (i := 10) rfl rfl rfl (q_fieldAddr fb_84_5 rfl rfl) ?_
    refine W_e (i := 11) rfl rfl rfl (e_store sz_63 rfl rfl rfl aU (by first | decide | exact Nat.le_of_ble_eq_true rfl | simp [splice, Value.cells])) ?_
    intro _
    refine W_nil ?_
    refine N_seq ?_
    refine C_seq ?_
    refine C_to ((y2.mxN z).kb ++ (TZ ++ F)) (by (try simp only [BrA.kb_eq, BrA.mxN, BrA.osK, BrA.isK, BrA.dsK, BrA.msK, BrA.jsK]); exact aT) ?_
    have hym : (y2.mxN z).Ok := ht2.ok.mxN hz hzm
    have hymb : (y2.mxN z).b = { b2 with m := Qd.repack b2.m } := by rw [← hy2b, repack_one (m := y2.b.m) hr2]; simp [BrA.b, BrA.mxN, hzm, BrA.mj]
    have hsm : (y2.mxN z).sz = y2.sz := rfl
    refine C_region ?_
    refine wm (i := 0) rfl rfl rfl rfl ?_
    refine W_call (i := 1) rfl rfl rfl rfl rfl rfl pf_46 (s_save1 (y2.mxN z) hym (Nat.le_trans (show y2.jobs.length ≤ 1 from by rw [← mj_len, hy2b]; exact p5) (by omega)) (by omega)) aC ?_
    rintro _ _ ⟨rfl, y5, ht5, hl5, rfl⟩
    have hy5b : y5.b = b5 := ht5.b.trans (by rw [hymb]; exact hb5)
    have hs5 := ht5.sz
    rw [show y2.ptr = y5.ptr from by simp only [BrA.ptr, ht5.blk]; rfl]
    have hr5 : y5.mx.m.rows = 1 := by have : y5.b.m.rows = y5.mx.m.rows := rfl; rw [← this, hy5b]; exact p8
    have hj5 : y5.mx.m.jobs.length ≤ 12 := by have : y5.b.m.jobs.length = y5.mx.m.jobs.length := rfl; rw [← this, hy5b]; exact p9
    refine W_nil ?_
    refine N_seq ?_
    refine C_seq ?_
    refine C_region ?_
    refine wm (i := 0) rfl rfl rfl rfl ?_
    refine W_call (i := 1) rfl rfl rfl rfl rfl rfl pf_47 (s_start y5 ht5.ok hj5 (fun r => by rw [fill_one hr5]; exact Nat.zero_le _) (fun r => by rw [fill_one hr5, List.append_nil, ready_eq]; exact Nat.le_trans (List.length_filter_le _ _) (Nat.le_trans (row_len _ _) hj5)) (by omega)) (tk_both aC aC) ?_
    rintro _ _ ⟨rfl, y6, ht6, hl6, rfl⟩
    refine W_nil ?_
    refine N_seq ?_
    refine C_seq ?_
    refine C_region ?_
    refine wa (i := 0) rfl rfl rfl rfl ?_
    refine W_nil ?_
    refine N_seq ?_
    refine C_ret fun a w ha hk => ?_
    exact R_val (e := .ret) (.inl rfl) ha.defers (res1 ha rfl rfl) (hR _ _ _ ⟨y6, by rw [hg], ⟨ht6.ok, by rw [hg, ht6.b, hy5b], by rw [ht6.blk, ht5.blk]; show y2.blk = _; rw [ht2.blk, ht1.blk]; rfl, by have := ht6.sz; unfold TickCost; omega⟩, rfl⟩ (hk.take aT))
end Go.SL
namespace Go.SL
open Go Go.Proofs
set_option maxRecDepth 10000
theorem each_same {g : Qd.Brain → Int → Qd.Job → Qd.Brain} {b : Qd.Brain} (h : ∀ id x, b.job id = some x → g b id x = b) : ∀ l, Qd.Brain.each g l b = b
  | [] => rfl
  | id :: l => by
    rw [each_cons]
    cases hj : b.job id with
    | none => exact each_same h l
    | some x => dsimp only; rw [h id x hj]; exact each_same h l
theorem lost_err {b : Qd.Brain} {n : Int} (h : b.nodeErr n true ≠ 0) : b.lost n = (b.nodeErr n true, b) := by unfold Qd.Brain.lost; exact if_pos h
theorem lost_none {b : Qd.Brain} {n : Int} (h : b.nodeErr n true = 0) (ho : b.orders = []) (ha : ∀ id x, b.job id = some x → x.at_ = []) : b.lost n = (0, Qd.Brain.stopHeard { b with up := b.up.erase n, m := b.m.setUp n false } n) := by
  unfold Qd.Brain.lost
  rw [if_neg (by simpa using h)]
  dsimp only
  rw [each_same (fun id x hx => ?_)]
  · have : b.orders.filter (fun o => o.to != n) = b.orders := by rw [ho]; rfl
    rw [this]
  · unfold Qd.Brain.lostOne
    rw [if_pos (by rw [ha id x hx]; simp)]
def BrA.lostS (y : BrA) (n : Int) : BrA := { ({ y with ups := y.ups.erase n } : BrA) with mx := putMx y.mx (y.mx.m.setUp n false) }
theorem pf_48 : plainFn Tryz.prog 48 = true := by kernel_rfl
theorem pf_49 : plainFn Tryz.prog 49 = true := by kernel_rfl
theorem pf_92 : plainFn Tryz.prog 92 = true := by kernel_rfl
set_option maxHeartbeats 2000000 in
theorem s_del0 [Bs] (sl : Sl) {gf : FuncId} {lb : List Value} (hp : plainFn Tryz.prog gf = true) (hok : sl.Ok (flat orderV []) 14) : Spec Tryz.prog 48 [sl.val, .func (.func gf) #[] lb.toArray] (sl.kb (flat orderV []) 14 97) (fun v K' => v = sl.val ∧ K' = sl.kb (flat orderV []) 14 97) := by
 refine spec_body Tryz.func48 rfl rfl fun F R hR => ?_
 try simp only [NL]
 rw [← List.append_nil (sl.kb (flat orderV []) 14 97)]
 refine C_seq ?_
 refine C_region ?_
 refine wa (i := 0) rfl rfl rfl rfl ?_
 refine W_nil ?_
 refine N_seq ?_
 refine C_seq ?_
 refine C_region ?_
 refine wm (i := 0) rfl rfl rfl rfl ?_
 refine wm (i := 1) rfl rfl rfl rfl ?_
 refine W_call (i := 2) rfl rfl rfl rfl rfl rfl pf_92 (s_ixfO orderV orderV_len [] (fun _ => true) sl (lb := lb) (Kc := []) hp hok (by simp) (fun x hx => (by cases hx))) (List.Perm.refl _) ?_
 rintro _ _ ⟨r, rfl, hr, rfl⟩
 have hr1 : r = -1 := by simpa using hr
 refine wa (i := 3) rfl rfl rfl rfl ?_
 refine W_nil ?_
 refine N_seq ?_
 refine C_seq ?_
 refine C_seq ?_
 refine C_region ?_
 refine wm (i := 0) rfl rfl rfl rfl ?_
 refine W_q (i := 1) rfl rfl rfl (q_int rfl rfl (v := .bool true) (by rw [hr1]; rfl)) ?_
 refine W_nil ?_
 refine N_seq ?_
 refine C_condT rfl ?_
 refine C_seq ?_
 refine C_region ?_
 refine wm (i := 0) rfl rfl rfl rfl ?_
 refine wa (i := 1) rfl rfl rfl rfl ?_
 refine W_nil ?_
 refine N_seq ?_
 refine C_ret fun a w ha hk => ?_
 exact R_val (e := .ret) (.inl rfl) ha.defers (res1 ha rfl rfl) (hR _ _ _ ⟨rfl, rfl⟩ (by simpa only [List.append_nil] using hk))
set_option maxHeartbeats 2000000 in
theorem s_lost0 [Bs] (y : BrA) (hyo : y.Ok) (n : Int) (h12 : y.jobs.length ≤ 12) (hos : y.os = []) (hat : ∀ id j, Qd.lookA y.jobs id = some j → j.x.at_ = []) (hsz0 : y.sz + 200 ≤ BIG) : Spec Tryz.prog 15 [y.ptr, .int .i64 n] (y.kb) (fun v K' => v = .int .i64 (y.b.lost n).1 ∧ ∃ y', BTop y y' (y.b.lost n).2 200 ∧ K' = y'.kb) := by
 refine spec_body Tryz.func15 rfl rfl fun F R hR => ?_
 try simp only [NL]
 rw [BrA.kb_eq]
 try simp only [NL]
 refine C_seq ?_
 refine C_region ?_
 refine W_e (i := 0) rfl rfl rfl (e_box rfl) ?_
 intro b3
 refine wa (i := 1) rfl rfl rfl rfl ?_
 refine W_nil ?_
 refine N_seq ?_
 refine C_seq ?_
 refine C_seq ?_
 refine C_region ?_
 refine wm (i := 0) rfl rfl rfl rfl ?_
 refine W_q (i := 1) rfl rfl rfl (q_load ag_3 rfl aP rfl) ?_
 refine W_call (i := 2) rfl rfl rfl rfl rfl rfl pf_37 (s_node y hyo n true) (tk_cons1 (by repeat (first | exact tk_one | apply tk_app | apply tk_cons)) aC) ?_
 rintro _ _ ⟨rfl, rfl⟩
 try simp only [NL]
 refine wa (i := 3) rfl rfl rfl rfl ?_
 refine W_nil ?_
 refine N_seq ?_
 refine C_seq ?_
 refine C_region ?_
 refine wm (i := 0) rfl rfl rfl rfl ?_
 refine W_q (i := 1) rfl rfl rfl (q_int rfl rfl rfl) ?_
 refine W_nil ?_
 refine N_seq ?_
 refine C_cond rfl (fun ht12 => ?_) (fun ht12 => ?_)
 ·
  try simp only [CL] at ht12
  have he := lost_err (b := y.b) ht12
  refine C_seq ?_
  refine C_region ?_
  refine wm (i := 0) rfl rfl rfl rfl ?_
  refine wa (i := 1) rfl rfl rfl rfl ?_
  refine W_nil ?_
  refine N_seq ?_
  refine C_ret fun a w ha hk => ?_
  exact R_val (e := .ret) (.inl rfl) ha.defers (res1 ha rfl rfl) (hR _ _ _ ⟨by rw [he], y, ⟨hyo, by rw [he], rfl, Nat.le_add_right _ _⟩, rfl⟩ (hk.take (by (try simp only [BrA.kb_eq]); exact aT)))
 ·
  try simp only [CL] at ht12
  have hz : y.b.nodeErr n true = 0 := by simpa using ht12
  obtain ⟨h0, h1, hin, hup⟩ := nodeErr_zero hyo hz
  have he := lost_none (b := y.b) hz hos (fun id x hx => by rw [job_b] at hx; cases hl : Qd.lookA y.jobs id with | none => rw [hl] at hx; cases hx | some j => rw [hl] at hx; cases hx; exact hat id j hl)
  have hy0 : ((y.lostS n)).Ok := (hyo.su n false hin).ups (y.ups.erase n)
  have hys : ((y.lostS n)).sz = y.sz := rfl
  refine C_skip ?_
  refine N_seq ?_
  refine C_seq ?_
  refine C_draw (.cons 0 .pure (.cons 1 .pure (.cons 2 .pure (.cons 3 .read (.cons 4 .read (.cons 5 .eff .nil)))))) (fun w => Knows w _) 5 mo (by kernel_rfl) (fun _ h => h) ?_
  refine D_p rfl rfl rfl (q_move rfl) ?_
  refine D_p rfl rfl rfl (q_nilCheck rfl) ?_
  refine D_p rfl rfl rfl (q_fieldAddr fb_84_3 rfl rfl) ?_
  refine D_r rfl rfl rfl (q_load ag_81 rfl aP rfl) ?_
  refine D_r rfl rfl rfl (q_load ag_3 rfl aP rfl) ?_
  refine D_e rfl rfl rfl (e_delete Tryz.underlying81 Tryz.underlying3 rfl rfl rfl (del_set y.ups n) aU) (.inl rfl) ?_
  intro _
  refine D_nil ?_
  refine N_seq ?_
  refine C_seq ?_
  refine C_draw (.cons 0 .pure (.cons 1 .pure (.cons 2 .pure (.cons 3 .read (.cons 4 .read (.cons 5 .eff .nil)))))) (fun w => Knows w _) 5 mo (by kernel_rfl) (fun _ h => h) ?_
  refine D_p rfl rfl rfl (q_move rfl) ?_
  refine D_p rfl rfl rfl (q_nilCheck rfl) ?_
  refine D_p rfl rfl rfl (q_fieldAddr fb_84_5 rfl rfl) ?_
  refine D_r rfl rfl rfl (q_load ag_63 rfl aP rfl) ?_
  refine D_r rfl rfl rfl (q_load ag_3 rfl aP rfl) ?_
  refine D_call rfl rfl rfl rfl rfl rfl pf_36 (s_mup y.mx hyo.mx n false) aC (.inl rfl) ?_
  rintro _ _ ⟨rfl, rfl⟩
  rw [if_pos hin, if_pos hin]
  refine D_nil ?_
  refine N_seq ?_
  refine C_seq ?_
  simp only [BrA.osK]
  have hosl := hyo.osl
  rw [hos] at hosl ⊢
  refine C_region ?_
  refine wm (i := 0) rfl rfl rfl rfl ?_
  refine wm (i := 1) rfl rfl rfl rfl ?_
  refine wc (i := 2) rfl rfl rfl rfl ?_
  refine W_q (i := 3) rfl rfl rfl (q_fieldAddr fb_84_6 rfl rfl) ?_
  refine W_q (i := 4) rfl rfl rfl (q_load ag_37 rfl aP rfl) ?_
  refine W_q (i := 5) rfl rfl rfl (q_makeFunc (us := #[]) (vs := #[.pointer (some ⟨b3, 0, none⟩)]) (by simp) (by simp; rfl)) ?_
  refine W_call (i := 6) rfl rfl rfl rfl rfl rfl pf_48 (s_del0 y.osl (lb := [.pointer (some ⟨b3, 0, none⟩)]) pf_49 hosl) aC ?_
  rintro _ _ ⟨rfl, rfl⟩
  refine wc (i := 7) rfl rfl rfl rfl ?_
  refine W_q (i := 8) rfl rfl rfl (q_fieldAddr fb_84_6 rfl rfl) ?_
  refine W_e (i := 9) rfl rfl rfl (e_store sz_37 rfl rfl rfl aU (by first | decide | exact Nat.le_of_ble_eq_true rfl | simp [splice, Value.cells])) ?_
  intro _
  refine W_nil ?_
  refine N_seq ?_
  refine C_seq ?_
  refine C_seq ?_
  refine C_to (((y.lostS n)).kb ++ ((b3, Cells [.int .i64 n] 3) :: F)) (by rw [BrA.kb_eq, BrA.osK, show ((y.lostS n)).os = [] from hos]; (try simp only [BrA.lostS, BrA.isK, BrA.dsK, BrA.msK, BrA.jsK]); (try simp only [NL]); repeat (first | exact takes_nil | with_reducible exact takes_refl | ((with_reducible apply takes_app); focus ((repeat (first | exact tk_here | exact tk_all | apply tk_app | apply tk_cons)); done)) | ((with_reducible apply takes_cons); focus ((repeat (first | exact tk_one | apply tk_app | apply tk_cons)); done)) | exact takes_last (by focus ((repeat (first | exact tk_here | exact tk_all | apply tk_app | apply tk_cons)); done)) | exact takes_refl)) ?_
  rw [BrA.kb_eq]
  try simp only [NL]
  refine C_region ?_
  refine wm (i := 0) rfl rfl rfl rfl ?_
  refine W_call (i := 1) rfl rfl rfl rfl rfl rfl pf_50 (s_all ((y.lostS n)) h12) (tk_cons1 (by repeat (first | exact tk_one | apply tk_app | apply tk_cons)) (by repeat (first | exact tk_one | apply tk_app | apply tk_cons))) ?_
  rintro _ _ ⟨sl, rfl, hsok, rfl⟩
  obtain ⟨ids0, hids⟩ : ∃ ids, ((y.lostS n)).b.ids = ids := ⟨_, rfl⟩
  rw [hids] at hsok ⊢
  have hnd := ids_nodup hy0
  rw [hids] at hnd
  have hidl : ids0.length = ((y.lostS n)).jobs.length := by rw [← hids]; exact ids_len _
  have hid12 : ids0.length ≤ 12 := by rw [hidl]; exact h12
  have hsl : sl.len = ids0.length := by have := hsok.vlen; simp [ptrsV] at this; omega
  try simp only [NL]
  refine W_q (i := 2) rfl rfl rfl (q_lenSl Tryz.underlying99 rfl rfl) ?_
  refine wm (i := 3) rfl rfl rfl rfl ?_
  refine W_nil ?_
  refine N_seq ?_
  refine C_block ?_
  refine C_loopT (ι := { i : Nat // i ≤ ids0.length }) (fun q => [(0, ((y.lostS n)).ptr), (3, .pointer (some ⟨b3, 0, none⟩)), (35, sl.val), (36, .int .i64 (sl.len : Int)), (37, .int .i64 (q.1 : Int))]) (fun _ => ((y.lostS n)).kb ++ (sl.kb (ptrsV y.jobs ids0) 1 86 ++ ((b3, Cells [.int .i64 n] 3) :: F))) (fun q => ids0.length - q.1) ⟨0, Nat.zero_le _⟩ aS (by (try simp only [BrA.kb_eq]); exact aT) ?_
  rintro ⟨i, hi⟩
  dsimp only at hi ⊢
  refine C_seq ?_
  refine C_region ?_
  refine W_q (i := 0) rfl rfl rfl (q_int rfl rfl rfl) ?_
  refine W_nil ?_
  refine N_seq ?_
  refine C_seq ?_
  refine C_cond rfl (fun ht38 => ?_) (fun ht38 => ?_)
  ·
   try simp only [CL] at ht38
   have hil : i < ids0.length := by omega
   obtain ⟨id, hid⟩ : ∃ id, ids0[i]? = some id := ⟨_, List.getElem?_eq_getElem hil⟩
   obtain ⟨j, hji⟩ := ids_look ((y.lostS n)) (id := id) (by rw [hids]; exact List.mem_of_getElem? hid)
   have hjo := (hy0.at hji).1
   have hja := hat id j hji
   have h16 := hjo.a16
   refine C_skip ?_
   refine N_seq ?_
   refine C_seq ?_
   refine C_block ?_
   refine C_seq ?_
   refine C_region ?_
   refine W_q (i := 0) rfl rfl rfl (q_idxSl Tryz.underlying99 sz_86 hsok rfl rfl (Int.natCast_nonneg _) (by omega) rfl) ?_
   refine W_q (i := 1) rfl rfl rfl (q_loadSl (i := i) (v := j.ptr) ag_86 rfl hsok aC (by simp) ((ptrsV_at hid).trans (by rw [ptrV_some hji]))) ?_
   refine wa (i := 2) rfl rfl rfl rfl ?_
   refine W_nil ?_
   refine N_seq ?_
   refine C_seq ?_
   refine C_seq ?_
   refine C_draw (.cons 0 .pure (.cons 1 .pure (.cons 2 .pure (.cons 3 .read (.cons 4 .read (.cons 5 .eff (.cons 6 .pure .nil))))))) (fun w => Knows w _) 5 mo (by kernel_rfl) (fun _ h => h) ?_
   refine D_p rfl rfl rfl (q_move rfl) ?_
   refine D_p rfl rfl rfl (q_nilCheck rfl) ?_
   refine D_p rfl rfl rfl (q_fieldAddr fb_90_1 rfl rfl) ?_
   refine D_r rfl rfl rfl (q_loadM ag_66 rfl (mem_of_perm (A := ((y.lostS n)).kb) aC (BrA.m_job hji)) rfl) ?_
   refine D_r rfl rfl rfl (q_load ag_3 rfl aP rfl) ?_
   refine D_call rfl rfl rfl rfl rfl rfl pf_51 (Spec.sub (K := ((y.lostS n)).kb) (BrA.p_at hji) (s_contains j.at_ j.x.at_ n hjo.at_ (by omega))) aC (.inl rfl) ?_
   rintro _ _ ⟨rfl, rfl⟩
   rw [show decide (n ∈ j.x.at_) = false from by rw [hja]; simp]
   refine D_p rfl rfl rfl (q_not rfl) ?_
   refine D_nil ?_
   refine N_seq ?_
   refine C_condT rfl ?_
   refine C_exit ?_
   refine N_seq ?_
   refine C_region ?_
   refine W_q (i := 0) rfl rfl rfl (q_add rfl rfl (succ64 (by omega))) ?_
   refine wm (i := 1) rfl rfl rfl rfl ?_
   refine W_nil ?_
   exact fun a w ha hk => ⟨⟨i + 1, by omega⟩, by dsimp only; omega, ha.sub aS, hk.take aT⟩
  ·
   try simp only [CL] at ht38
   have hil : i = ids0.length := by omega
   subst hil
   refine C_exit ?_
   refine N_seq ?_
   refine C_seq ?_
   refine C_region ?_
   refine wm (i := 0) rfl rfl rfl rfl ?_
   refine W_q (i := 1) rfl rfl rfl (q_load ag_3 rfl aP rfl) ?_
   refine W_call (i := 2) rfl rfl rfl rfl rfl rfl pf_54 (s_stopHeard ((y.lostS n)) hy0 n h12 (by omega)) aC ?_
   rintro _ _ ⟨rfl, y', hto, hle, rfl⟩
   refine W_nil ?_
   refine N_seq ?_
   refine C_seq ?_
   refine C_region ?_
   refine wa (i := 0) rfl rfl rfl rfl ?_
   refine W_nil ?_
   refine N_seq ?_
   refine C_ret fun a w ha hk => ?_
   exact R_val (e := .ret) (.inl rfl) ha.defers (res1 ha rfl rfl) (hR _ _ _ ⟨by rw [he], y', ⟨hto.ok, by rw [he, hto.b]; rfl, hto.blk, hto.sz⟩, rfl⟩ (hk.take aT))
end Go.SL
