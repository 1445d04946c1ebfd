/- A part of the proof of the given statement BrainHold: the layer over the kit in which the walks are written, and contracts of the program's functions (a Go function answers as its plain model does). -/
import Derived.Test.YtflfaeedkkiaeaaGreatDoorP02
namespace Go.SL
open Go Go.Proofs
set_option maxRecDepth 10000
/-! ## what stands in memory for a brain -/
/-- a note; bl: its blob's slice -/
def noteV (n : Qd.Note) (bl : Value) : List Value := [.int .u8 n.kind, .int .u8 n.node, .int .u32 n.epoch, .int .u32 n.life, .int .u32 n.tick, .int .u32 n.gen, .int .u32 n.job, .int .u32 n.ver, .int .u8 n.rank, .int .i64 n.credit, .int .u32 n.frm, .int .u32 n.to, bl]
def noteO (n : Qd.Note) : List Value := noteV n (.slice none 0 0)
theorem noteO_len (n : Qd.Note) : (noteO n).length = 13 := rfl
def orderV (o : Qd.Order) : List Value := .int .i64 o.to :: noteO o.note
theorem orderV_len (o : Qd.Order) : (orderV o).length = 14 := rfl
def jobV (j : Qd.ApiJob) : List Value := [.int .u32 j.id, .int .u8 j.tier, .int .i64 j.k, .int .i64 j.w, .int .u8 j.state, .int .i64 j.credit]
def encB (xs : List Int) : List Value := xs.map fun x => .int .u8 x
/-- blobs -/
def blobKb (bs : List (Sl × List Int)) : KB := rowsKb (bs.map fun r => (r.1, encB r.2)) 1 5
def blobVals (bs : List (Sl × List Int)) : List Value := bs.map fun r => r.1.val
/-- an image -/
structure ImA where
  i : Qd.Image
  bl : Sl
  bs : List (Sl × List Int)
def ImA.cells (x : ImA) : List Value := [.int .u32 x.i.job, .int .u32 x.i.ver, .int .i64 x.i.credit, x.bl.val]
theorem ImA.cells_len (x : ImA) : x.cells.length = 4 := rfl
theorem ImA.cells_one (x : ImA) : x.cells.all oneC = true := rfl
def ImA.own (x : ImA) : KB := x.bl.kb (blobVals x.bs) 1 22 ++ blobKb x.bs
structure ImA.Ok (x : ImA) : Prop where
  bl : x.bl.Ok (blobVals x.bs) 1
  bs : ∀ r ∈ x.bs, r.1.Ok (encB r.2) 1
  eq : x.i.blobs = x.bs.map (·.2)
def imsKb (xs : List ImA) : KB := xs.flatMap ImA.own
/-- an image that comes together -/
structure SavA where
  s : Qd.Saving
  blk : Nat
  bl : Sl
  bs : List (Sl × List Int)
  hv : Nat
def SavA.cells (x : SavA) : List Value := [.int .u32 x.s.img.job, .int .u32 x.s.img.ver, .int .i64 x.s.img.credit, x.bl.val, .map (some x.hv), .bool x.s.told]
def SavA.ptr (x : SavA) : Value := .pointer (some ⟨x.blk, 0, none⟩)
def SavA.im (x : SavA) : ImA := ⟨x.s.img, x.bl, x.bs⟩
def SavA.kb (x : SavA) : KB := (x.blk, Cells x.cells 131) :: (x.hv, SetB x.s.have_) :: (if x.s.told then [] else x.im.own)
def SavA.Ok (x : SavA) : Prop := x.s.told = false → x.im.Ok
/-- what may not be -/
def svVal : Option SavA → Value
  | none => .pointer none
  | some s => s.ptr
def svKb : Option SavA → KB
  | none => []
  | some s => s.kb
def setKb : Option Nat → List Int → KB
  | none, _ => []
  | some r, xs => [(r, SetB xs)]
def ranV (p : Int × Int) : Value := .agg #[.int .u32 p.1, .int .u32 p.2]
def ranKb : Option Nat → List (Int × (Int × Int)) → KB
  | none, _ => []
  | some r, m => [(r, MapI .i64 (mapV ranV m))]
/-- a job -/
structure JobA where
  x : Qd.Job
  blk : Nat
  at_ : Sl
  ld : Option Nat
  sv : Option SavA
  dr : Option Nat
  rn : Option Nat
def JobA.cells (a : JobA) : List Value := [.int .u32 a.x.j.id, .int .u8 a.x.j.tier, .int .i64 a.x.j.k, .int .i64 a.x.j.w, .int .u8 a.x.j.state, .int .i64 a.x.j.credit,
  a.at_.val, .map a.ld, .int .i64 a.x.work, .int .u32 a.x.ver, svVal a.sv, .bool a.x.warned, .int .u32 a.x.until_, .map a.dr, .bool a.x.again, .bool a.x.done, .map a.rn]
def JobA.ptr (a : JobA) : Value := .pointer (some ⟨a.blk, 0, none⟩)
def JobA.rest (a : JobA) : KB := a.at_.kb (encI a.x.at_) 1 3 ++ (setKb a.ld a.x.loaded ++ (svKb a.sv ++ (setKb a.dr (a.x.drops.getD []) ++ ranKb a.rn (a.x.ran.getD []))))
def JobA.kb (a : JobA) : KB := (a.blk, Cells a.cells 90) :: a.rest
structure JobA.Ok (a : JobA) : Prop where
  at_ : a.at_.Ok (encI a.x.at_) 1
  a16 : a.x.at_.length ≤ 16
  atn : a.x.at_.Nodup
  ld : a.ld = none → a.x.loaded = []
  ld1 : a.x.j.state = 1 → a.ld.isSome
  sv : a.x.saving = a.sv.map (·.s)
  svo : ∀ s, a.sv = some s → s.Ok ∧ s.s.img.job = a.x.j.id ∧ (s.s.told = false → s.s.img.blobs.length = a.x.at_.length)
  dr : a.x.drops.isSome = a.dr.isSome
  rn : a.x.ran.isSome = a.rn.isSome
  r32 : ∀ p ∈ a.x.ran.getD [], In32 p.2
  rle : (a.x.ran.getD []).length ≤ 16
  idr : 0 < a.x.j.id ∧ a.x.j.id < 4294967296
  kr : 1 ≤ a.x.j.k
  rnk : ((a.x.ran.getD []).map (·.1)).Nodup
  rat : ∀ p ∈ a.x.ran.getD [], p.1 ∈ a.x.at_
/-- a brain -/
structure BrA where
  c : Qd.Config
  hold : Int
  now : Int
  ups : List Int
  jobs : List (Int × JobA)
  mx : MxA
  os : List Qd.Order
  ims : List ImA
  dn : List Int
  gen : Int
  row : Int
  mem : List Int
  end_ : Int
  st : Option (Nat × List Int)
  stopped : Bool
  blk : Nat
  up : Nat
  jb : Nat
  osl : Sl
  isl : Sl
  dsl : Sl
  msl : Sl
def BrA.mj (y : BrA) : List (Int × Qd.Job) := y.jobs.map fun p => (p.1, p.2.x)
def BrA.b (y : BrA) : Qd.Brain := { c := y.c, hold := y.hold, now := y.now, up := y.ups, jobs := y.mj, m := y.mx.m, orders := y.os, images := y.ims.map (·.i), done := y.dn, gen := y.gen, row := y.row, members := y.mem, end_ := y.end_, stops := y.st.map (·.2), stopped := y.stopped }
def stMap : Option (Nat × List Int) → Option Nat
  | none => none
  | some p => some p.1
def stKb : Option (Nat × List Int) → KB
  | none => []
  | some p => [(p.1, SetB p.2)]
def BrA.cells (y : BrA) : List Value := [.int .i64 y.c.nodes, .int .i64 y.c.rows, .int .i64 y.c.quantum, .int .i64 y.c.grace, .int .u32 y.hold, .int .u32 y.now, .map (some y.up), .map (some y.jb), y.mx.ptr, y.osl.val, y.isl.val, y.dsl.val, .int .u32 y.gen, .int .i64 y.row, y.msl.val, .int .u32 y.end_, .map (stMap y.st), .bool y.stopped]
def BrA.ptr (y : BrA) : Value := .pointer (some ⟨y.blk, 0, none⟩)
def BrA.osK (y : BrA) : KB := y.osl.kb (flat orderV y.os) 14 97
def BrA.isK (y : BrA) : KB := y.isl.kb (flat ImA.cells y.ims) 4 60 ++ imsKb y.ims
def BrA.dsK (y : BrA) : KB := y.dsl.kb (encU y.dn) 1 31
def BrA.msK (y : BrA) : KB := y.msl.kb (encU y.mem) 1 31
def BrA.jsK (y : BrA) : KB := mapKb JobA.kb y.jobs
def BrA.kb (y : BrA) : KB := (y.blk, Cells y.cells 84) :: (y.up, SetB y.ups) :: (y.jb, MapI .u32 (mapV JobA.ptr y.jobs)) :: (y.mx.kb ++ (y.osK ++ (y.isK ++ (y.dsK ++ (y.msK ++ (stKb y.st ++ y.jsK))))))
theorem BrA.kb_eq (y : BrA) : y.kb = (y.blk, Cells y.cells 84) :: (y.up, SetB y.ups) :: (y.jb, MapI .u32 (mapV JobA.ptr y.jobs)) :: (y.mx.kb ++ (y.osK ++ (y.isK ++ (y.dsK ++ (y.msK ++ (stKb y.st ++ y.jsK)))))) := rfl
structure BrA.Ok (y : BrA) : Prop where
  c : Qd.Brain.okConfig y.c = true
  mx : y.mx.Ok
  mr : y.mx.m.rows = y.c.rows
  mn : y.mx.m.nodes = y.c.nodes
  n32 : 0 ≤ y.now ∧ y.now ≤ 4294967295
  osl : y.osl.Ok (flat orderV y.os) 14
  isl : y.isl.Ok (flat ImA.cells y.ims) 4
  ims : ∀ x ∈ y.ims, x.Ok
  dsl : y.dsl.Ok (encU y.dn) 1
  msl : y.msl.Ok (encU y.mem) 1
  keys : (y.jobs.map (·.1)).Nodup
  job : ∀ p ∈ y.jobs, p.2.Ok ∧ p.2.x.j.id = p.1 ∧ p.2.x.j.k ≤ y.c.nodes
def BrA.sz (y : BrA) : Nat := y.os.length + y.ims.length + y.dn.length
/-- the room that is left -/
def BIG : Nat := 1000000
theorem putA_id {α : Type} {m : List (Int × α)} {k : Int} {v : α} (h : Qd.lookA m k = some v) : Qd.putA m k v = m := by
  induction m with
  | nil => cases h
  | cons p m ih =>
    obtain ⟨a, u⟩ := p
    simp only [Qd.lookA] at h
    simp only [Qd.putA]
    split at h
    · rename_i e; cases h; simp [e]
    · rename_i e; simp [e, ih h]
theorem putA_put {α : Type} (m : List (Int × α)) (k : Int) (v v' : α) : Qd.putA (Qd.putA m k v) k v' = Qd.putA m k v' := by
  induction m with
  | nil => simp [Qd.putA]
  | cons p m ih =>
    obtain ⟨a, u⟩ := p
    simp only [Qd.putA]
    split
    · simp [Qd.putA]
    · rename_i e; simp [Qd.putA, e, ih]
theorem delA_put {α : Type} {m : List (Int × α)} {k : Int} {v v' : α} (h : Qd.lookA m k = some v) : Qd.delA (Qd.putA m k v') k = Qd.delA m k := by
  induction m with
  | nil => cases h
  | cons p m ih =>
    obtain ⟨a, u⟩ := p
    simp only [Qd.lookA] at h
    simp only [Qd.putA, Qd.delA]
    split at h
    · rename_i e; simp [e, Qd.delA]
    · rename_i e; simp [e, Qd.delA, ih h]
/-- a brain, one of its jobs beside it -/
def opn (y : BrA) (a : JobA) (pm : List (Int × Value)) (js : KB) : KB := (y.blk, Cells y.cells 84) :: (a.blk, Cells a.cells 90) :: (y.up, SetB y.ups) :: (y.jb, MapI .u32 pm) ::
  (a.at_.kb (encI a.x.at_) 1 3 ++ (setKb a.ld a.x.loaded ++ (svKb a.sv ++ (setKb a.dr (a.x.drops.getD []) ++ (ranKb a.rn (a.x.ran.getD []) ++ (y.mx.kb ++ (y.osK ++ (y.isK ++ (y.dsK ++ (y.msK ++ (stKb y.st ++ js)))))))))))
theorem opn_eq (y : BrA) (a : JobA) (pm : List (Int × Value)) (js : KB) : opn y a pm js = (y.blk, Cells y.cells 84) :: (a.blk, Cells a.cells 90) :: (y.up, SetB y.ups) :: (y.jb, MapI .u32 pm) ::
  (a.at_.kb (encI a.x.at_) 1 3 ++ (setKb a.ld a.x.loaded ++ (svKb a.sv ++ (setKb a.dr (a.x.drops.getD []) ++ (ranKb a.rn (a.x.ran.getD []) ++ (y.mx.kb ++ (y.osK ++ (y.isK ++ (y.dsK ++ (y.msK ++ (stKb y.st ++ js))))))))))) := rfl
theorem BrA.open_ {y : BrA} {id : Int} {a : JobA} (h : Qd.lookA y.jobs id = some a) : y.kb.Perm (opn y a (mapV JobA.ptr y.jobs) (mapKb JobA.kb (Qd.delA y.jobs id))) := by
  have h1 := mapKb_at JobA.kb h
  have h2 : y.jsK.Perm ((a.blk, Cells a.cells 90) :: (a.at_.kb (encI a.x.at_) 1 3 ++ (setKb a.ld a.x.loaded ++ (svKb a.sv ++ (setKb a.dr (a.x.drops.getD []) ++ (ranKb a.rn (a.x.ran.getD []) ++ mapKb JobA.kb (Qd.delA y.jobs id)))))) ) := by
    have h3 := h1
    simp only [JobA.kb, JobA.rest, List.cons_append, List.append_assoc] at h3
    exact h3
  rw [BrA.kb_eq]
  refine List.Perm.trans (((((((h2.append_left _).append_left _).append_left _).append_left _).append_left _).append_left _).cons _ |>.cons _ |>.cons _) ?_
  unfold opn
  exact aQ
theorem BrA.close_ {y : BrA} {id : Int} {a : JobA} {pm : List (Int × Value)} {js : KB} (h : Qd.lookA y.jobs id = some a) (hp : pm = mapV JobA.ptr y.jobs) (hj : js = mapKb JobA.kb (Qd.delA y.jobs id)) : (opn y a pm js).Perm y.kb := by
  subst hp hj
  exact (BrA.open_ h).symm
/-- the same brain, another job in a job's place -/
def BrA.set (y : BrA) (id : Int) (a : JobA) : BrA := { y with jobs := Qd.putA y.jobs id a }
theorem BrA.set_look {y : BrA} {id : Int} {a : JobA} : Qd.lookA (y.set id a).jobs id = some a := by simp [BrA.set, Qd.lookA_put]
theorem BrA.set_pm {y : BrA} {id : Int} {a a' : JobA} (h : Qd.lookA y.jobs id = some a) (hb : a'.blk = a.blk) : mapV JobA.ptr y.jobs = mapV JobA.ptr (y.set id a').jobs := by
  have := Qd.putA_same JobA.ptr h (v' := a') (by simp [JobA.ptr, hb])
  simpa [mapV, BrA.set] using this.symm
theorem BrA.set_js {y : BrA} {id : Int} {a a' : JobA} (h : Qd.lookA y.jobs id = some a) : mapKb JobA.kb (Qd.delA y.jobs id) = mapKb JobA.kb (Qd.delA (y.set id a').jobs id) := by
  simp [BrA.set, delA_put h]
theorem BrA.set_mj {y : BrA} {id : Int} {a : JobA} : (y.set id a).mj = Qd.putA y.mj id a.x := by
  simp [BrA.mj, BrA.set, Qd.putA_map (fun a : JobA => a.x)]
theorem BrA.look_mj {y : BrA} {id : Int} {a : JobA} (h : Qd.lookA y.jobs id = some a) : Qd.lookA y.mj id = some a.x := by
  rw [BrA.mj, Qd.lookA_map (fun a : JobA => a.x), h]; rfl
theorem BrA.set_b {y : BrA} {id : Int} {a : JobA} : (y.set id a).b = y.b.setJob id a.x := by
  simp only [BrA.b, BrA.set_mj, Qd.Brain.setJob]; rfl
theorem BrA.Ok.set {y : BrA} {id : Int} {a a' : JobA} (hy : y.Ok) (h : Qd.lookA y.jobs id = some a) (ha : a'.Ok) (hi : a'.x.j.id = id) (hkn : a'.x.j.k = a.x.j.k) : (y.set id a').Ok where
  c := hy.c
  mx := hy.mx
  mr := hy.mr
  mn := hy.mn
  n32 := hy.n32
  osl := hy.osl
  isl := hy.isl
  ims := hy.ims
  dsl := hy.dsl
  msl := hy.msl
  keys := by simp only [BrA.set]; rw [Qd.keys_put h]; exact hy.keys
  job := by
    intro p hp
    rcases Qd.mem_put hp with rfl | hp
    · exact ⟨ha, hi, by dsimp only; rw [hkn]; exact (hy.job _ (Qd.lookA_mem h)).2.2⟩
    · exact hy.job p hp
theorem BrA.Ok.at {y : BrA} {id : Int} {a : JobA} (hy : y.Ok) (h : Qd.lookA y.jobs id = some a) : a.Ok ∧ a.x.j.id = id ∧ a.x.j.k ≤ y.c.nodes := hy.job _ (Qd.lookA_mem h)
/-- what a step on one job comes to -/
structure BTo (y y' : BrA) (id : Int) (b' : Qd.Brain) (cost : Nat) : Prop where
  ok : y'.Ok
  b : y'.b = b'
  blk : y'.blk = y.blk
  sz : y'.sz ≤ y.sz + cost
  len : y'.jobs.length ≤ y.jobs.length
  oth : ∀ i, i ≠ id → Qd.lookA y'.jobs i = Qd.lookA y.jobs i
end Go.SL
namespace Go.SL
open Go Go.Proofs
set_option maxRecDepth 10000
theorem encU_map (xs : List Int) : encU xs = xs.map fun x => .int .u32 x := rfl
theorem svVal_eq (o : Option SavA) : svVal o = .pointer (o.map fun s => ⟨s.blk, 0, none⟩) := by cases o <;> rfl
theorem q_neSv {P : Program} {n : Nat} {L : Env} {K : KB} {d : Option Nat} {x y : Operand} {T U : TypeId} {e : TypeId} {o : Option SavA} {ty pos aft gd} (hT : P.underlying T = some (.pointer e)) (hx : ev L x = some (svVal o)) (hy : ev L y = some (.pointer none)) :
    QRun P n ⟨d, .binOp .neq T x y U, ty, pos, aft, gd⟩ L K (.bool !o.isNone) := by
  rw [svVal_eq] at hx
  have := q_nePtrNil (P := P) (n := n) (L := L) (K := K) (d := d) (U := U) (ty := ty) (pos := pos) (aft := aft) (gd := gd) hT hx hy
  rwa [Option.isNone_map] at this
theorem q_eqSv {P : Program} {n : Nat} {L : Env} {K : KB} {d : Option Nat} {x y : Operand} {T U : TypeId} {e : TypeId} {o : Option SavA} {ty pos aft gd} (hT : P.underlying T = some (.pointer e)) (hx : ev L x = some (svVal o)) (hy : ev L y = some (.pointer none)) :
    QRun P n ⟨d, .binOp .eql T x y U, ty, pos, aft, gd⟩ L K (.bool o.isNone) := by
  rw [svVal_eq] at hx
  have := q_eqPtrNil (P := P) (n := n) (L := L) (K := K) (d := d) (U := U) (ty := ty) (pos := pos) (aft := aft) (gd := gd) hT hx hy
  rwa [Option.isNone_map] at this
/-- the pointers of jobs -/
def ptrV (jobs : List (Int × JobA)) (id : Int) : Value := match Qd.lookA jobs id with
  | some a => a.ptr
  | none => .pointer none
def ptrsV (jobs : List (Int × JobA)) (ids : List Int) : List Value := ids.map (ptrV jobs)
theorem ptrsV_at {jobs : List (Int × JobA)} {ids : List Int} {i : Nat} {id : Int} (h : ids[i]? = some id) : (ptrsV jobs ids)[i]? = some (ptrV jobs id) := by simp [ptrsV, h]
theorem look_ptr (jobs : List (Int × JobA)) (id : Int) : (lookI (mapV JobA.ptr jobs) id).getD (.pointer none) = ptrV jobs id := by
  rw [lookI_mapV]; unfold ptrV; cases Qd.lookA jobs id <;> rfl
theorem ptrV_some {jobs : List (Int × JobA)} {id : Int} {a : JobA} (h : Qd.lookA jobs id = some a) : ptrV jobs id = a.ptr := by simp [ptrV, h]
theorem ids_eq (y : BrA) : y.b.ids = Qd.sortI (y.jobs.map (·.1)) := by simp [BrA.b, BrA.mj, Qd.Brain.ids, Function.comp_def]
theorem ids_look (y : BrA) {id : Int} (h : id ∈ y.b.ids) : ∃ j, Qd.lookA y.jobs id = some j := by
  rw [ids_eq, Qd.sortI, (Qd.sortBy_perm _ _).mem_iff] at h
  cases hl : Qd.lookA y.jobs id with
  | some j => exact ⟨j, rfl⟩
  | none =>
    exfalso
    obtain ⟨p, hp, rfl⟩ := List.mem_map.1 h
    have key : ∀ m : List (Int × JobA), p ∈ m → Qd.lookA m p.1 ≠ none := by
      intro m
      induction m with
      | nil => intro h; cases h
      | cons q m ih =>
        intro h
        obtain ⟨a, u⟩ := q
        simp only [Qd.lookA]
        split
        · simp
        · rcases List.mem_cons.1 h with rfl | h
          · rename_i hne; exact absurd rfl hne
          · exact ih h
    exact key _ hp hl
theorem ag_37 : aggB Tryz.prog 37 = some false := by kernel_rfl
theorem ag_72 : aggB Tryz.prog 72 = some true := by kernel_rfl
theorem fb_25_0 : fieldB Tryz.prog 25 0 = some 0 := by kernel_rfl
theorem fb_84_0 : fieldB Tryz.prog 84 0 = some 0 := by kernel_rfl
theorem fb_84_5 : fieldB Tryz.prog 84 5 = some 8 := by kernel_rfl
theorem fb_84_6 : fieldB Tryz.prog 84 6 = some 9 := by kernel_rfl
theorem inf_97 : infoB Tryz.prog 97 = some (some (Go.Value.agg #[Go.Value.int (Go.IntKind.i64) 0, Go.Value.int (Go.IntKind.u8) 0, Go.Value.int (Go.IntKind.u8) 0, Go.Value.int (Go.IntKind.u32) 0, Go.Value.int (Go.IntKind.u32) 0, Go.Value.int (Go.IntKind.u32) 0, Go.Value.int (Go.IntKind.u32) 0, Go.Value.int (Go.IntKind.u32) 0, Go.Value.int (Go.IntKind.u32) 0, Go.Value.int (Go.IntKind.u8) 0, Go.Value.int (Go.IntKind.i64) 0, Go.Value.int (Go.IntKind.u32) 0, Go.Value.int (Go.IntKind.u32) 0, Go.Value.slice none 0 0]), 14, 80) := by kernel_rfl
theorem pf_70 : plainFn Tryz.prog 70 = true := by kernel_rfl
theorem ps_97 : placesB Tryz.prog 97 = some #[(0, 1), (1, 13)] := by kernel_rfl
theorem sz_37 : sizeB Tryz.prog 37 = some 1 := by kernel_rfl
theorem sz_72 : sizeB Tryz.prog 72 = some 13 := by kernel_rfl
theorem sz_97 : sizeB Tryz.prog 97 = some 14 := by kernel_rfl
theorem zf_97 : zeroB Tryz.prog 97 = some (Go.Value.agg #[Go.Value.int (Go.IntKind.i64) 0, Go.Value.int (Go.IntKind.u8) 0, Go.Value.int (Go.IntKind.u8) 0, Go.Value.int (Go.IntKind.u32) 0, Go.Value.int (Go.IntKind.u32) 0, Go.Value.int (Go.IntKind.u32) 0, Go.Value.int (Go.IntKind.u32) 0, Go.Value.int (Go.IntKind.u32) 0, Go.Value.int (Go.IntKind.u32) 0, Go.Value.int (Go.IntKind.u8) 0, Go.Value.int (Go.IntKind.i64) 0, Go.Value.int (Go.IntKind.u32) 0, Go.Value.int (Go.IntKind.u32) 0, Go.Value.slice none 0 0]) := by kernel_rfl
set_option maxHeartbeats 2000000 in
theorem s_order [Bs] (blk : Nat) (cs : List Value) (osl : Sl) (os : List Qd.Order) (hok : osl.Ok (flat orderV os) 14) (hcs : cs[9]? = some osl.val) (hb : os.length ≤ 2000000) (to : Int) (n : Qd.Note) : Spec Tryz.prog 74 [.pointer (some ⟨blk, 0, none⟩), .int .i64 to, .agg (noteO n).toArray] ((blk, Cells cs 84) :: osl.kb (flat orderV os) 14 97) (fun v K' => v = .tuple #[] ∧ ∃ osl' : Sl, osl'.Ok (flat orderV (os ++ [⟨to, n⟩])) 14 ∧ K' = (blk, Cells (cs.set 9 osl'.val) 84) :: osl'.kb (flat orderV (os ++ [⟨to, n⟩])) 14 97) := by
 have hol : osl.len = os.length := by have := hok.vlen; rw [flat_len orderV_len] at this; omega
 have hcl := (List.getElem?_eq_some_iff.1 hcs).1
 refine spec_body Tryz.func74 rfl rfl fun F R hR => ?_
 try simp only [NL]
 refine C_seq ?_
 refine C_region ?_
 refine W_e (i := 0) rfl rfl rfl (e_box rfl) ?_
 intro b5
 refine W_nil ?_
 refine N_seq ?_
 refine C_draw (.cons 0 .pure (.cons 1 .pure (.cons 2 .pure (.cons 3 .pure (.cons 4 .read (.cons 5 .pure (.cons 6 .read (.cons 7 .pure (.cons 8 .eff (.cons 9 .eff (.cons 10 .pure (.cons 11 .pure (.cons 12 .eff .nil))))))))))))) (fun w => Knows w _) 9 mo (by kernel_rfl) (fun _ h => h) ?_
 refine D_p rfl rfl rfl (q_move rfl) ?_
 refine D_p rfl rfl rfl (q_move rfl) ?_
 refine D_p rfl rfl rfl (q_nilCheck rfl) ?_
 refine D_p rfl rfl rfl (q_fieldAddr fb_84_6 rfl rfl) ?_
 refine D_r rfl rfl rfl (q_load (v := osl.val) ag_37 rfl aP hcs) ?_
 refine D_p rfl rfl rfl (q_move rfl) ?_
 refine D_r rfl rfl rfl (q_loadAgg (us := noteO n) ag_72 sz_72 rfl aP (by simp [noteO_len, Value.cells]) rfl) ?_
 refine D_p rfl rfl rfl (q_build (vs := [(0, .int .i64 to), (1, .agg (noteO n).toArray)]) (cs := (orderV ⟨to, n⟩).toArray) ps_97 zf_97 rfl (by simp [Instr.fill, Value.cells, orderV, noteO, noteV])) ?_
 refine D_e rfl rfl rfl (e_lit1 Tryz.underlying37 sz_97 zf_97 (by decide) rfl rfl) (.inr (fun _ _ h => h.take aT)) ?_
 intro b14
 refine D_e rfl rfl rfl (e_app1 (us := orderV ⟨to, n⟩) (vs' := flat orderV (os ++ [⟨to, n⟩])) Tryz.underlying37 inf_97 rfl rfl rfl rfl aP aC hok (by omega) (by omega) rfl rfl (flat_snoc os ⟨to, n⟩).symm) (.inl rfl) ?_
 rintro ⟨sl', hsl', hok'⟩
 refine D_p rfl rfl rfl (q_nilCheck rfl) ?_
 refine D_p rfl rfl rfl (q_fieldAddr fb_84_6 rfl rfl) ?_
 refine D_e rfl rfl rfl (e_store sz_37 rfl rfl rfl aU (by simpa using hcl)) (.inl rfl) ?_
 intro _
 refine D_nil ?_
 intro a w ha hk
 exact R_val (e := .normal) (.inr rfl) ha.defers (res0 rfl) (hR _ _ _ ⟨rfl, sl', hok', rfl⟩ (hk.take aT))
set_option maxHeartbeats 2000000 in
theorem s_node [Bs] (y : BrA) (hy : y.Ok) (n : Int) (up : Bool) : Spec Tryz.prog 37 [y.ptr, .int .i64 n, .bool up] ((y.blk, Cells y.cells 84) :: y.mx.kb) (fun v K' => v = .int .i64 (y.b.nodeErr n up) ∧ K' = (y.blk, Cells y.cells 84) :: y.mx.kb) := by
 refine spec_body Tryz.func37 rfl rfl fun F R hR => ?_
 try simp only [NL]
 refine C_seq ?_
 refine C_region ?_
 refine wa (i := 0) rfl rfl rfl rfl ?_
 refine W_nil ?_
 refine N_seq ?_
 refine C_seq ?_
 refine C_block ?_
 refine C_seq ?_
 refine C_region ?_
 refine wm (i := 0) rfl rfl rfl rfl ?_
 refine W_q (i := 1) rfl rfl rfl (q_eqPtrNil Tryz.underlying27 rfl rfl) ?_
 refine wa (i := 2) rfl rfl rfl rfl ?_
 refine W_nil ?_
 refine N_seq ?_
 refine C_condF rfl ?_
 refine C_seq ?_
 refine C_region ?_
 refine wm (i := 0) rfl rfl rfl rfl ?_
 refine W_q (i := 1) rfl rfl rfl (q_int rfl rfl rfl) ?_
 refine wm (i := 2) rfl rfl rfl rfl ?_
 refine W_bool 13 _ rfl (fun ht13 => ?_) (fun ht13 => ?_)
 ·
  try simp only [CL] at ht13
  have he : y.b.nodeErr n up = 1 := by rw [Qd.Brain.nodeErr, if_pos (.inl ht13)]
  refine W_skip (i := 3) rfl rfl rfl ?_
  refine W_skip (i := 4) rfl rfl rfl ?_
  refine W_skip (i := 5) rfl rfl rfl ?_
  refine W_skip (i := 6) rfl rfl rfl ?_
  refine W_skip (i := 7) rfl rfl rfl ?_
  refine W_skip (i := 8) rfl rfl rfl ?_
  refine W_skip (i := 9) rfl rfl rfl ?_
  refine W_q (i := 10) rfl rfl rfl (q_pickT rfl rfl) ?_
  refine wa (i := 11) rfl rfl rfl rfl ?_
  refine W_nil ?_
  refine N_seq ?_
  refine C_condT rfl ?_
  refine C_seq ?_
  refine C_region ?_
  refine wa (i := 0) rfl rfl rfl rfl ?_
  refine W_nil ?_
  refine N_seq ?_
  refine C_ret fun a w ha hk => ?_
  exact R_val (e := .ret) (.inl rfl) ha.defers (res1 ha rfl rfl) (hR _ _ _ ⟨by rw [he], rfl⟩ (hk.take aT))
 ·
  try simp only [CL] at ht13
  refine wm (i := 3) rfl rfl rfl rfl ?_
  refine wm (i := 4) rfl rfl rfl rfl ?_
  refine wc (i := 5) rfl rfl rfl rfl ?_
  refine W_q (i := 6) rfl rfl rfl (q_fieldAddr fb_84_0 rfl rfl) ?_
  refine W_q (i := 7) rfl rfl rfl (q_fieldAddr fb_25_0 rfl rfl) ?_
  refine W_q (i := 8) rfl rfl rfl (q_load ag_3 rfl aP rfl) ?_
  refine W_q (i := 9) rfl rfl rfl (q_int rfl rfl rfl) ?_
  refine W_q (i := 10) rfl rfl rfl (q_pickF rfl rfl) ?_
  refine wa (i := 11) rfl rfl rfl rfl ?_
  refine W_nil ?_
  refine N_seq ?_
  refine C_cond rfl (fun ht10 => ?_) (fun ht10 => ?_)
  ·
   try simp only [CL] at ht10
   have he : y.b.nodeErr n up = 1 := by rw [Qd.Brain.nodeErr, if_pos (.inr ht10)]
   refine C_seq ?_
   refine C_region ?_
   refine wa (i := 0) rfl rfl rfl rfl ?_
   refine W_nil ?_
   refine N_seq ?_
   refine C_ret fun a w ha hk => ?_
   exact R_val (e := .ret) (.inl rfl) ha.defers (res1 ha rfl rfl) (hR _ _ _ ⟨by rw [he], rfl⟩ (hk.take aT))
  ·
   try simp only [CL] at ht10
   have hn : ¬ (n < 0 ∨ n ≥ y.b.c.nodes) := by intro h; rcases h with h | h; exact ht13 h; exact ht10 h
   refine C_seq ?_
   refine C_region ?_
   refine wm (i := 0) rfl rfl rfl rfl ?_
   refine wc (i := 1) rfl rfl rfl rfl ?_
   refine W_q (i := 2) rfl rfl rfl (q_fieldAddr fb_84_5 rfl rfl) ?_
   refine W_q (i := 3) rfl rfl rfl (q_load ag_63 rfl aP rfl) ?_
   refine wm (i := 4) rfl rfl rfl rfl ?_
   refine W_call (i := 5) rfl rfl rfl rfl rfl rfl pf_70 (s_misup y.mx hy.mx n) aC ?_
   rintro _ _ ⟨rfl, rfl⟩
   refine wm (i := 6) rfl rfl rfl rfl ?_
   refine W_q (i := 7) rfl rfl rfl (q_neBool Tryz.underlying4 rfl rfl) ?_
   refine wa (i := 8) rfl rfl rfl rfl ?_
   refine W_nil ?_
   refine N_seq ?_
   refine C_cond rfl (fun ht22 => ?_) (fun ht22 => ?_)
   ·
    try simp only [CL] at ht22
    have he : y.b.nodeErr n up = 14 := by rw [Qd.Brain.nodeErr, if_neg hn, if_pos (by exact ht22)]
    refine C_seq ?_
    refine C_region ?_
    refine wa (i := 0) rfl rfl rfl rfl ?_
    refine W_nil ?_
    refine N_seq ?_
    refine C_ret fun a w ha hk => ?_
    exact R_val (e := .ret) (.inl rfl) ha.defers (res1 ha rfl rfl) (hR _ _ _ ⟨by rw [he], rfl⟩ (hk.take aT))
   ·
    try simp only [CL] at ht22
    have he : y.b.nodeErr n up = 0 := by rw [Qd.Brain.nodeErr, if_neg hn, if_neg (by intro h; exact h ht22)]
    refine C_skip ?_
    refine N_seq ?_
    refine C_seq ?_
    refine C_region ?_
    refine wa (i := 0) rfl rfl rfl rfl ?_
    refine W_nil ?_
    refine N_seq ?_
    refine C_ret fun a w ha hk => ?_
    exact R_val (e := .ret) (.inl rfl) ha.defers (res1 ha rfl rfl) (hR _ _ _ ⟨by rw [he], rfl⟩ (hk.take aT))
end Go.SL
namespace Go.SL
open Go Go.Proofs
set_option maxRecDepth 10000
theorem nilS_kb (vs : List Value) (sz : Nat) (T : TypeId) : Sl.nilS.kb vs sz T = [] := rfl
theorem setKb_none (xs : List Int) : setKb none xs = [] := rfl
theorem setKb_some (r : Nat) (xs : List Int) : setKb (some r) xs = [(r, SetB xs)] := rfl
theorem svKb_none : svKb none = [] := rfl
theorem ranKb_none (m : List (Int × (Int × Int))) : ranKb none m = [] := rfl
theorem ranKb_some (r : Nat) (m : List (Int × (Int × Int))) : ranKb (some r) m = [(r, MapI .i64 (mapV ranV m))] := rfl
theorem BrA.Ok.mxs {y : BrA} (hy : y.Ok) {m : Qd.Mx} (hm : m.Ok) (hr : m.rows = y.mx.m.rows) (hn : m.nodes = y.mx.m.nodes) (ht : m.taken.length = y.mx.m.taken.length) : ({ y with mx := putMx y.mx m } : BrA).Ok :=
  { hy with mx := ⟨hm, hy.mx.tk.of (by simpa [takenV, putMx] using ht)⟩, mr := hr.trans hy.mr, mn := hn.trans hy.mn }
theorem remove_rows (m : Qd.Mx) (job : Int) : (m.remove job).rows = m.rows ∧ (m.remove job).nodes = m.nodes ∧ (m.remove job).taken.length = m.taken.length := by
  unfold Qd.Mx.remove; split <;> simp
theorem BrA.Ok.rem {y : BrA} (hy : y.Ok) (job : Int) : ({ y with mx := putMx y.mx (y.mx.m.remove job) } : BrA).Ok :=
  hy.mxs (Qd.Mx.remove_ok hy.mx.m job) (remove_rows _ _).1 (remove_rows _ _).2.1 (remove_rows _ _).2.2
theorem BrA.Ok.del {y : BrA} (hy : y.Ok) (id : Int) : ({ y with jobs := Qd.delA y.jobs id } : BrA).Ok :=
  { hy with keys := hy.keys.sublist (Qd.keys_del _ _), job := fun p hp => hy.job p (Qd.mem_del hp) }
theorem setJob_same {y : BrA} {id : Int} {j : JobA} (h : Qd.lookA y.jobs id = some j) : y.b.setJob id j.x = y.b := by
  have := putA_id (BrA.look_mj h)
  simp only [Qd.Brain.setJob, BrA.b, this]
theorem BTo.same {y : BrA} (hy : y.Ok) {id : Int} {b' : Qd.Brain} (c : Nat) (hb : y.b = b') : BTo y y id b' c := ⟨hy, hb, rfl, Nat.le_add_right _ _, Nat.le_refl _, fun _ _ => rfl⟩
theorem oth_set {y : BrA} {id : Int} {j' : JobA} (i : Int) (h : i ≠ id) : Qd.lookA (y.set id j').jobs i = Qd.lookA y.jobs i := by simp [BrA.set, Qd.lookA_put, h]
theorem oth_del {y : BrA} (hy : y.Ok) {id : Int} (i : Int) (h : i ≠ id) : Qd.lookA (Qd.delA y.jobs id) i = Qd.lookA y.jobs i := by rw [Qd.lookA_del hy.keys]; simp [h]
theorem len_set {y : BrA} {id : Int} {j j' : JobA} (h : Qd.lookA y.jobs id = some j) : (y.set id j').jobs.length ≤ y.jobs.length := by
  simp only [BrA.set]; rw [Qd.len_put h]; exact Nat.le_refl _
/-- a job anew -/
def newJob (j : JobA) : JobA := ⟨{ j := { j.x.j with state := 0 }, work := j.x.j.credit, ver := j.x.ver }, j.blk, Sl.nilS, none, none, none, none⟩
theorem newJob_ok {j : JobA} (h : j.Ok) : (newJob j).Ok := ⟨Sl.nil_ok 1, Nat.zero_le _, List.nodup_nil, fun _ => rfl, fun h => (by simp [newJob] at h), rfl, fun s h => (by simp [newJob] at h), rfl, rfl, by simp [newJob], by simp [newJob], h.idr, h.kr, by simp [newJob], by simp [newJob]⟩
theorem ag_35 : aggB Tryz.prog 35 = some true := by kernel_rfl
theorem ag_81 : aggB Tryz.prog 81 = some false := by kernel_rfl
theorem fb_35_0 : fieldB Tryz.prog 35 0 = some 0 := by kernel_rfl
theorem fb_35_4 : fieldB Tryz.prog 35 4 = some 4 := by kernel_rfl
theorem fb_35_5 : fieldB Tryz.prog 35 5 = some 5 := by kernel_rfl
theorem fb_84_4 : fieldB Tryz.prog 84 4 = some 7 := by kernel_rfl
theorem fb_90_0 : fieldB Tryz.prog 90 0 = some 0 := by kernel_rfl
theorem fb_90_4 : fieldB Tryz.prog 90 4 = some 9 := by kernel_rfl
theorem fb_90_8 : fieldB Tryz.prog 90 8 = some 13 := by kernel_rfl
theorem fb_90_9 : fieldB Tryz.prog 90 9 = some 14 := by kernel_rfl
theorem inf_86 : infoB Tryz.prog 86 = some (some (Go.Value.pointer none), 1, 8) := by kernel_rfl
theorem pf_104 : plainFn Tryz.prog 104 = true := by kernel_rfl
theorem pf_65 : plainFn Tryz.prog 65 = true := by kernel_rfl
theorem pf_94 : plainFn Tryz.prog 94 = true := by kernel_rfl
theorem ps_90 : placesB Tryz.prog 90 = some #[(0, 6), (6, 1), (7, 1), (8, 1), (9, 1), (10, 1), (11, 1), (12, 1), (13, 1), (14, 1), (15, 1), (16, 1)] := by kernel_rfl
theorem sz_35 : sizeB Tryz.prog 35 = some 6 := by kernel_rfl
theorem sz_86 : sizeB Tryz.prog 86 = some 1 := by kernel_rfl
theorem sz_90 : sizeB Tryz.prog 90 = some 17 := by kernel_rfl
theorem zf_86 : zeroB Tryz.prog 86 = some (Go.Value.pointer none) := by kernel_rfl
theorem zf_90 : zeroB Tryz.prog 90 = some (Go.Value.agg #[Go.Value.int (Go.IntKind.u32) 0, Go.Value.int (Go.IntKind.u8) 0, Go.Value.int (Go.IntKind.i64) 0, Go.Value.int (Go.IntKind.i64) 0, Go.Value.int (Go.IntKind.u8) 0, Go.Value.int (Go.IntKind.i64) 0, Go.Value.slice none 0 0, Go.Value.map none, Go.Value.int (Go.IntKind.i64) 0, Go.Value.int (Go.IntKind.u32) 0, Go.Value.pointer none, Go.Value.bool false, Go.Value.int (Go.IntKind.u32) 0, Go.Value.map none, Go.Value.bool false, Go.Value.bool false, Go.Value.map none]) := by kernel_rfl
set_option maxHeartbeats 2000000 in
theorem s_all [Bs] (y : BrA) (h12 : y.jobs.length ≤ 12) : Spec Tryz.prog 50 [y.ptr] ((y.blk, Cells y.cells 84) :: [(y.jb, MapI .u32 (mapV JobA.ptr y.jobs))]) (fun v K' => ∃ sl : Sl, v = sl.val ∧ sl.Ok (ptrsV y.jobs y.b.ids) 1 ∧ K' = (y.blk, Cells y.cells 84) :: [(y.jb, MapI .u32 (mapV JobA.ptr y.jobs))] ++ sl.kb (ptrsV y.jobs y.b.ids) 1 86) := by
 generalize hids0 : y.b.ids = ids0
 have hidl : ids0.length ≤ 12 := by rw [← hids0, ids_eq, Qd.sortI, (Qd.sortBy_perm _ _).length_eq]; simpa using h12
 refine spec_body Tryz.func50 rfl rfl fun F R hR => ?_
 try simp only [NL]
 refine C_seq ?_
 refine C_region ?_
 refine wa (i := 0) rfl rfl rfl rfl ?_
 refine W_nil ?_
 refine N_seq ?_
 refine C_seq ?_
 refine C_region ?_
 refine wa (i := 0) rfl rfl rfl rfl ?_
 refine W_nil ?_
 refine N_seq ?_
 refine C_seq ?_
 refine C_seq ?_
 refine C_region ?_
 refine wm (i := 0) rfl rfl rfl rfl ?_
 refine wc (i := 1) rfl rfl rfl rfl ?_
 refine W_q (i := 2) rfl rfl rfl (q_fieldAddr fb_84_4 rfl rfl) ?_
 refine W_q (i := 3) rfl rfl rfl (q_load ag_82 rfl aP rfl) ?_
 refine W_call (i := 4) rfl rfl rfl rfl rfl rfl pf_65 (s_keysB y.jb) tk_nil ?_
 rintro _ _ ⟨bx, rfl, rfl⟩
 try simp only [NL]
 refine W_call (i := 5) rfl rfl rfl rfl rfl rfl pf_61 (s_sortedK (it_keysB (mapV JobA.ptr y.jobs) bx y.jb) pf_104 (fun y hy => by obtain ⟨p, _, rfl⟩ := hy; exact ⟨_, rfl⟩) (by simp [mapV]; omega) (fun xs hxs => by obtain ⟨ids, h1, h2⟩ := encK_ids hxs; exact ⟨ids, h1, by have := h2.length_eq; simp [mapV] at this; omega⟩)) (tk_cons1 (by repeat (first | exact tk_one | apply tk_app | apply tk_cons)) (by repeat (first | exact tk_one | apply tk_app | apply tk_cons))) ?_
 rintro _ _ ⟨ids, sl, hS, rfl, hok, hsl, hnil, rfl⟩
 have hids : Qd.sortI ids = ids0 := by rw [← hids0, ids_eq]; obtain ⟨ids', h1, h2⟩ := encK_ids hS; rw [encU_inj h1]; exact Qd.sortBy_of_perm Qd.swoI (Qd.totI _) (by simpa [mapV, List.map_map, Function.comp_def] using h2)
 rw [hids] at hok hsl ⊢
 refine W_q (i := 6) rfl rfl rfl (q_lenSl Tryz.underlying53 rfl rfl) ?_
 refine wm (i := 7) rfl rfl rfl rfl ?_
 refine W_nil ?_
 refine N_seq ?_
 refine C_block ?_
 refine C_loopT (ι := { q : Nat × Sl // q.1 ≤ ids0.length ∧ q.2.Ok (ptrsV y.jobs (ids0.take q.1)) 1 }) (fun q => [(0, y.ptr), (3, q.1.2.val), (11, sl.val), (12, .int .i64 (sl.len : Int)), (13, .int .i64 (q.1.1 : Int))]) (fun q => (y.blk, Cells y.cells 84) :: (y.jb, MapI .u32 (mapV JobA.ptr y.jobs)) :: (sl.kb (encU ids0) 1 31 ++ (q.1.2.kb (ptrsV y.jobs (ids0.take q.1.1)) 1 86 ++ F))) (fun q => ids0.length - q.1.1) ⟨(0, Sl.nilS), Nat.zero_le _, Sl.nil_ok 1⟩ aS (by (try simp only [nilS_kb]); exact aT) ?_
 rintro ⟨⟨i, osl⟩, hi, hoo⟩
 dsimp only at hi hoo ⊢
 have hol : osl.len = i := by have := hoo.vlen; simp [ptrsV] at this; omega
 refine C_seq ?_
 refine C_region ?_
 refine W_q (i := 0) rfl rfl rfl (q_int rfl rfl rfl) ?_
 refine W_nil ?_
 refine N_seq ?_
 refine C_seq ?_
 refine C_cond rfl (fun ht14 => ?_) (fun ht14 => ?_)
 ·
  try simp only [CL] at ht14
  have hil : i < ids0.length := by omega
  obtain ⟨id, hid⟩ : ∃ id, ids0[i]? = some id := ⟨_, List.getElem?_eq_getElem hil⟩
  obtain ⟨jj, hjj⟩ := ids_look y (id := id) (by rw [hids0]; exact List.mem_of_getElem? hid)
  refine C_skip ?_
  refine N_seq ?_
  refine C_seq ?_
  refine C_block ?_
  refine C_seq ?_
  refine C_region ?_
  refine W_q (i := 0) rfl rfl rfl (q_idxSl Tryz.underlying53 sz_31 hok rfl rfl (Int.natCast_nonneg _) (by omega) rfl) ?_
  refine W_q (i := 1) rfl rfl rfl (q_loadSl (i := i) (v := .int .u32 id) ag_31 rfl hok aC (by simp) (by simp [encU, hid])) ?_
  refine wa (i := 2) rfl rfl rfl rfl ?_
  refine W_nil ?_
  refine N_seq ?_
  refine C_region ?_
  refine wm (i := 0) rfl rfl rfl rfl ?_
  refine wm (i := 1) rfl rfl rfl rfl ?_
  refine wc (i := 2) rfl rfl rfl rfl ?_
  refine W_q (i := 3) rfl rfl rfl (q_fieldAddr fb_84_4 rfl rfl) ?_
  refine W_q (i := 4) rfl rfl rfl (q_load ag_82 rfl aP rfl) ?_
  refine wm (i := 5) rfl rfl rfl rfl ?_
  refine W_q (i := 6) rfl rfl rfl (q_lookup Tryz.underlying82 Tryz.underlying31 zf_86 rfl rfl (MapAt.of aP) ((look_ptr _ _).trans (ptrV_some hjj))) ?_
  refine W_e (i := 7) rfl rfl rfl (e_lit1 Tryz.underlying99 sz_86 zf_86 (by decide) rfl rfl) ?_
  intro b24
  refine W_e (i := 8) rfl rfl rfl (e_app1 (us := [jj.ptr]) (vs' := ptrsV y.jobs (ids0.take (i + 1))) Tryz.underlying99 inf_86 rfl rfl rfl rfl aP aC hoo (by omega) (by omega) rfl rfl (by rw [List.take_add_one, hid]; simp [ptrsV, ptrV_some hjj])) ?_
  rintro ⟨sl', hsl', hok'⟩
  refine wa (i := 9) rfl rfl rfl rfl ?_
  refine W_nil ?_
  refine N_seq ?_
  refine C_region ?_
  refine W_q (i := 0) rfl rfl rfl (q_add rfl rfl (by first | exact wrap64_id (by omega) (by omega) | rfl)) ?_
  refine wm (i := 1) rfl rfl rfl rfl ?_
  refine W_nil ?_
  exact fun a w ha hk => ⟨⟨(i + 1, sl'), by dsimp only; omega, hok'⟩, by dsimp only; omega, ha.sub aS, hk.take aT⟩
 ·
  try simp only [CL] at ht14
  have hil : i = ids0.length := by omega
  subst hil
  rw [List.take_length] at hoo ⊢
  refine C_exit ?_
  refine N_seq ?_
  refine C_seq ?_
  refine C_region ?_
  refine wm (i := 0) rfl rfl rfl rfl ?_
  refine wa (i := 1) rfl rfl rfl rfl ?_
  refine W_nil ?_
  refine N_seq ?_
  refine C_ret fun a w ha hk => ?_
  exact R_val (e := .ret) (.inl rfl) ha.defers (res1 ha rfl rfl) (hR _ _ _ ⟨osl, rfl, hoo, rfl⟩ (hk.take aT))
set_option maxHeartbeats 2000000 in
theorem s_gone [Bs] (y : BrA) (hy : y.Ok) (id : Int) (j : JobA) (hlk : Qd.lookA y.jobs id = some j) : Spec Tryz.prog 53 [y.ptr, j.ptr] (y.kb) (fun v K' => v = .tuple #[] ∧ ∃ y', BTo y y' id (y.b.gone id j.x) 0 ∧ K' = y'.kb) := by
 obtain ⟨hjo, hji, hjk⟩ := hy.at hlk
 have hjd := hjo.dr
 generalize hdd : j.x.drops = dd at hjd
 refine spec_body Tryz.func53 rfl rfl fun F R hR => ?_
 try simp only [NL]
 refine C_perm _ ?_ ((BrA.open_ hlk).append_right F)
 rw [opn_eq]
 try simp only [NL]
 refine C_seq ?_
 refine C_seq ?_
 refine C_region ?_
 refine wm (i := 0) rfl rfl rfl rfl ?_
 refine wc (i := 1) rfl rfl rfl rfl ?_
 refine W_q (i := 2) rfl rfl rfl (q_fieldAddr fb_90_8 rfl rfl) ?_
 refine W_q (i := 3) rfl rfl rfl (q_load ag_81 rfl aP rfl) ?_
 refine W_q (i := 4) rfl rfl rfl (q_eqMapNil Tryz.underlying81 rfl rfl) ?_
 refine wm (i := 5) rfl rfl rfl rfl ?_
 refine W_bool 9 _ rfl (fun ht9 => ?_) (fun ht9 => ?_)
 ·
  try simp only [CL] at ht9
  rw [ht9] at hjd
  have hd0 : dd = none := by simpa using hjd
  subst hd0
  have hg : y.b = y.b.gone id j.x := by rw [Qd.Brain.gone, hdd]; exact (setJob_same hlk).symm
  refine W_skip (i := 6) rfl rfl rfl ?_
  refine W_skip (i := 7) rfl rfl rfl ?_
  refine W_skip (i := 8) rfl rfl rfl ?_
  refine W_skip (i := 9) rfl rfl rfl ?_
  refine W_skip (i := 10) rfl rfl rfl ?_
  refine W_skip (i := 11) rfl rfl rfl ?_
  refine W_q (i := 12) rfl rfl rfl (q_pickT rfl rfl) ?_
  refine W_nil ?_
  refine N_seq ?_
  refine C_condT rfl ?_
  refine C_ret fun a w ha hk => ?_
  exact R_val (e := .ret) (.inl rfl) ha.defers (res0 rfl) (hR _ _ _ ⟨rfl, y, BTo.same hy 0 hg, rfl⟩ ((hk.take (T := opn y j (mapV JobA.ptr y.jobs) (mapKb JobA.kb (Qd.delA y.jobs id)) ++ F) (by (try simp only [opn_eq]); exact aT)).perm ((BrA.open_ hlk).symm.append_right F)))
 ·
  try simp only [CL] at ht9
  obtain ⟨r, hdr⟩ : ∃ r, j.dr = some r := Option.isSome_iff_exists.1 ht9
  rw [hdr] at hjd
  obtain ⟨ds, rfl⟩ : ∃ ds, dd = some ds := Option.isSome_iff_exists.1 (by simpa using hjd)
  rw [hdr, hdd, setKb_some]
  simp only [Option.getD_some, List.cons_append, List.nil_append]
  refine wm (i := 6) rfl rfl rfl rfl ?_
  refine wc (i := 7) rfl rfl rfl rfl ?_
  refine W_q (i := 8) rfl rfl rfl (q_fieldAddr fb_90_8 rfl rfl) ?_
  refine W_q (i := 9) rfl rfl rfl (q_load ag_81 rfl aP rfl) ?_
  rw [hdr]
  refine W_q (i := 10) rfl rfl rfl (q_lenMap Tryz.underlying81 rfl rfl (MapAt.of aP)) ?_
  refine W_q (i := 11) rfl rfl rfl (q_int rfl rfl rfl) ?_
  refine W_q (i := 12) rfl rfl rfl (q_pickF rfl rfl) ?_
  refine W_nil ?_
  refine N_seq ?_
  refine C_cond rfl (fun ht16 => ?_) (fun ht16 => ?_)
  ·
   try simp only [CL] at ht16
   have hg : y.b = y.b.gone id j.x := by rw [Qd.Brain.gone, hdd]; cases ds with | nil => simp [setM] at ht16 | cons d ds => exact (setJob_same hlk).symm
   refine C_ret fun a w ha hk => ?_
   exact R_val (e := .ret) (.inl rfl) ha.defers (res0 rfl) (hR _ _ _ ⟨rfl, y, BTo.same hy 0 hg, rfl⟩ ((hk.take (T := opn y j (mapV JobA.ptr y.jobs) (mapKb JobA.kb (Qd.delA y.jobs id)) ++ F) (by rw [opn_eq, hdr, hdd, setKb_some]; (try simp only [Option.getD_some]); (try simp only [NL]); repeat (first | exact takes_nil | with_reducible exact takes_refl | ((with_reducible apply takes_app); focus ((repeat (first | exact tk_here | exact tk_all | apply tk_app | apply tk_cons)); done)) | ((with_reducible apply takes_cons); focus ((repeat (first | exact tk_one | apply tk_app | apply tk_cons)); done)) | exact takes_last (by focus ((repeat (first | exact tk_here | exact tk_all | apply tk_app | apply tk_cons)); done)) | exact takes_refl))).perm ((BrA.open_ hlk).symm.append_right F)))
  ·
   try simp only [CL] at ht16
   have hds : ds = [] := by cases ds with | nil => rfl | cons d ds => exfalso; simp [setM] at ht16
   subst hds
   have hg : y.b.gone id j.x = if !j.x.again then { ({ y.b with m := y.b.m.remove j.x.j.id } : Qd.Brain) with jobs := Qd.delA y.b.jobs id } else ({ y.b with m := y.b.m.remove j.x.j.id } : Qd.Brain).setJob id { j := { j.x.j with state := 0 }, work := j.x.j.credit, ver := j.x.ver } := by simp only [Qd.Brain.gone, hdd, hji]
   refine C_skip ?_
   refine N_seq ?_
   refine C_seq ?_
   refine C_draw (.cons 0 .pure (.cons 1 .pure (.cons 2 .pure (.cons 3 .read (.cons 4 .pure (.cons 5 .pure (.cons 6 .pure (.cons 7 .pure (.cons 8 .read (.cons 9 .eff .nil)))))))))) (fun w => Knows w _) 9 mo (by kernel_rfl) (fun _ h => h) ?_
   refine D_p rfl rfl rfl (q_move rfl) ?_
   refine D_p rfl rfl rfl (q_nilCheck rfl) ?_
   refine D_p rfl rfl rfl (q_fieldAddr fb_84_5 rfl rfl) ?_
   refine D_r rfl rfl rfl (q_load ag_63 rfl aP rfl) ?_
   refine D_p rfl rfl rfl (q_move rfl) ?_
   refine D_p rfl rfl rfl (q_nilCheck rfl) ?_
   refine D_p rfl rfl rfl (q_fieldAddr fb_90_0 rfl rfl) ?_
   refine D_p rfl rfl rfl (q_fieldAddr fb_35_0 rfl rfl) ?_
   refine D_r rfl rfl rfl (q_load ag_31 rfl aP rfl) ?_
   refine D_call rfl rfl rfl rfl rfl rfl pf_94 (s_mremove y.mx hy.mx j.x.j.id) aC (.inl rfl) ?_
   rintro _ _ ⟨rfl, rfl⟩
   refine D_nil ?_
   refine N_seq ?_
   refine C_seq ?_
   refine C_seq ?_
   refine C_region ?_
   refine wm (i := 0) rfl rfl rfl rfl ?_
   refine wc (i := 1) rfl rfl rfl rfl ?_
   refine W_q (i := 2) rfl rfl rfl (q_fieldAddr fb_90_9 rfl rfl) ?_
   refine W_q (i := 3) rfl rfl rfl (q_load ag_4 rfl aP rfl) ?_
   refine W_q (i := 4) rfl rfl rfl (q_not rfl) ?_
   refine W_nil ?_
   refine N_seq ?_
   refine C_cond rfl (fun ht31 => ?_) (fun ht31 => ?_)
   ·
    try simp only [CL] at ht31
    refine C_seq ?_
    refine C_draw (.cons 0 .pure (.cons 1 .pure (.cons 2 .pure (.cons 3 .read (.cons 4 .pure (.cons 5 .pure (.cons 6 .pure (.cons 7 .pure (.cons 8 .read (.cons 9 .eff .nil)))))))))) (fun w => Knows w _) 9 mo (by kernel_rfl) (fun _ h => h) ?_
    refine D_p rfl rfl rfl (q_move rfl) ?_
    refine D_p rfl rfl rfl (q_nilCheck rfl) ?_
    refine D_p rfl rfl rfl (q_fieldAddr fb_84_4 rfl rfl) ?_
    refine D_r rfl rfl rfl (q_load ag_82 rfl aP rfl) ?_
    refine D_p rfl rfl rfl (q_move rfl) ?_
    refine D_p rfl rfl rfl (q_nilCheck rfl) ?_
    refine D_p rfl rfl rfl (q_fieldAddr fb_90_0 rfl rfl) ?_
    refine D_p rfl rfl rfl (q_fieldAddr fb_35_0 rfl rfl) ?_
    refine D_r rfl rfl rfl (q_load ag_31 rfl aP rfl) ?_
    refine D_e rfl rfl rfl (e_delete Tryz.underlying82 Tryz.underlying31 rfl rfl rfl (show delI (mapV JobA.ptr y.jobs) j.x.j.id = mapV JobA.ptr (Qd.delA y.jobs id) from by rw [hji]; exact delI_mapV _ _ _) aU) (.inl rfl) ?_
    intro _
    refine D_nil ?_
    refine N_seq ?_
    refine C_ret fun a w ha hk => ?_
    exact R_val (e := .ret) (.inl rfl) ha.defers (res0 rfl) (hR _ _ _ ⟨rfl, ({ ({ y with mx := putMx y.mx (y.mx.m.remove j.x.j.id) } : BrA) with jobs := Qd.delA y.jobs id } : BrA), ⟨(hy.rem _).del id, by rw [hg, if_pos (by simpa using ht31)]; simp [BrA.b, BrA.mj, Qd.delA_map (fun a : JobA => a.x), putMx], rfl, Nat.le_refl _, Qd.len_del _ _, oth_del hy⟩, rfl⟩ (hk.take (by rw [BrA.kb_eq]; (try simp only [BrA.jsK, BrA.osK, BrA.isK, BrA.dsK, BrA.msK]); (try simp only [NL]); repeat (first | exact takes_nil | with_reducible exact takes_refl | ((with_reducible apply takes_app); focus ((repeat (first | exact tk_here | exact tk_all | apply tk_app | apply tk_cons)); done)) | ((with_reducible apply takes_cons); focus ((repeat (first | exact tk_one | apply tk_app | apply tk_cons)); done)) | exact takes_last (by focus ((repeat (first | exact tk_here | exact tk_all | apply tk_app | apply tk_cons)); done)) | exact takes_refl))))
   ·
    try simp only [CL] at ht31
    refine C_skip ?_
    refine N_seq ?_
    refine C_seq ?_
    refine C_draw (.cons 0 .pure (.cons 1 .pure (.cons 2 .pure (.cons 3 .pure (.cons 4 .read (.cons 5 .pure (.cons 6 .pure (.cons 7 .pure (.cons 8 .pure (.cons 9 .read (.cons 10 .pure (.cons 11 .pure (.cons 12 .pure (.cons 13 .read (.cons 14 .pure (.cons 15 .pure (.cons 16 .eff .nil))))))))))))))))) (fun w => Knows w _) 16 mo (by kernel_rfl) (fun _ h => h) ?_
    refine D_p rfl rfl rfl (q_move rfl) ?_
    refine D_p rfl rfl rfl (q_move rfl) ?_
    refine D_p rfl rfl rfl (q_nilCheck rfl) ?_
    refine D_p rfl rfl rfl (q_fieldAddr fb_90_0 rfl rfl) ?_
    refine D_r rfl rfl rfl (q_loadAgg (us := jobV j.x.j) ag_35 sz_35 rfl aP (by simp [JobA.cells]) rfl) ?_
    refine D_p rfl rfl rfl (q_move rfl) ?_
    refine D_p rfl rfl rfl (q_nilCheck rfl) ?_
    refine D_p rfl rfl rfl (q_fieldAddr fb_90_0 rfl rfl) ?_
    refine D_p rfl rfl rfl (q_fieldAddr fb_35_5 rfl rfl) ?_
    refine D_r rfl rfl rfl (q_load ag_3 rfl aP rfl) ?_
    refine D_p rfl rfl rfl (q_move rfl) ?_
    refine D_p rfl rfl rfl (q_nilCheck rfl) ?_
    refine D_p rfl rfl rfl (q_fieldAddr fb_90_4 rfl rfl) ?_
    refine D_r rfl rfl rfl (q_load ag_31 rfl aP rfl) ?_
    refine D_p rfl rfl rfl (q_build (vs := [(0, .agg (jobV j.x.j).toArray), (3, .int .i64 j.x.j.credit), (4, .int .u32 j.x.ver)]) (cs := #[.int .u32 j.x.j.id, .int .u8 j.x.j.tier, .int .i64 j.x.j.k, .int .i64 j.x.j.w, .int .u8 j.x.j.state, .int .i64 j.x.j.credit, .slice none 0 0, .map none, .int .i64 j.x.j.credit, .int .u32 j.x.ver, .pointer none, .bool false, .int .u32 0, .map none, .bool false, .bool false, .map none]) ps_90 zf_90 rfl (by simp [Instr.fill, Value.cells, jobV])) ?_
    refine D_p rfl rfl rfl (q_nilCheck rfl) ?_
    refine D_e rfl rfl rfl (e_storeAgg (us := [.int .u32 j.x.j.id, .int .u8 j.x.j.tier, .int .i64 j.x.j.k, .int .i64 j.x.j.w, .int .u8 j.x.j.state, .int .i64 j.x.j.credit, .slice none 0 0, .map none, .int .i64 j.x.j.credit, .int .u32 j.x.ver, .pointer none, .bool false, .int .u32 0, .map none, .bool false, .bool false, .map none]) sz_90 rfl rfl rfl rfl aU (by simp [JobA.cells])) (.inl rfl) ?_
    intro _
    refine D_nil ?_
    refine N_seq ?_
    refine C_region ?_
    refine wm (i := 0) rfl rfl rfl rfl ?_
    refine wc (i := 1) rfl rfl rfl rfl ?_
    refine W_q (i := 2) rfl rfl rfl (q_fieldAddr fb_90_0 rfl rfl) ?_
    refine W_q (i := 3) rfl rfl rfl (q_fieldAddr fb_35_4 rfl rfl) ?_
    refine W_e (i := 4) rfl rfl rfl (e_store sz_5 rfl rfl rfl aU (by first | decide | exact Nat.le_of_ble_eq_true rfl | simp [splice, Value.cells])) ?_
    intro _
    refine W_nil ?_
    intro a w ha hk
    exact R_val (e := .normal) (.inr rfl) ha.defers (res0 rfl) (hR _ _ _ ⟨rfl, ({ y with mx := putMx y.mx (y.mx.m.remove j.x.j.id) } : BrA).set id (newJob j), ⟨(hy.rem _).set (y := ({ y with mx := putMx y.mx (y.mx.m.remove j.x.j.id) } : BrA)) hlk (newJob_ok hjo) hji rfl, by rw [hg, if_neg (by simpa using ht31), BrA.set_b]; rfl, rfl, Nat.le_refl _, len_set (y := ({ y with mx := putMx y.mx (y.mx.m.remove j.x.j.id) } : BrA)) hlk, oth_set (y := ({ y with mx := putMx y.mx (y.mx.m.remove j.x.j.id) } : BrA))⟩, rfl⟩ ((hk.take (T := opn (({ y with mx := putMx y.mx (y.mx.m.remove j.x.j.id) } : BrA).set id (newJob j)) (newJob j) (mapV JobA.ptr y.jobs) (mapKb JobA.kb (Qd.delA y.jobs id)) ++ F) (by (try simp only [opn_eq, BrA.set, BrA.osK, BrA.isK, BrA.dsK, BrA.msK, nilS_kb, setKb_none, svKb_none, ranKb_none, newJob]); exact aT)).perm ((BrA.close_ (id := id) BrA.set_look (BrA.set_pm (y := ({ y with mx := putMx y.mx (y.mx.m.remove j.x.j.id) } : BrA)) (a' := (newJob j)) hlk rfl) (BrA.set_js (y := ({ y with mx := putMx y.mx (y.mx.m.remove j.x.j.id) } : BrA)) (a' := (newJob j)) hlk)).append_right F)))
end Go.SL
namespace Go.SL
open Go Go.Proofs
set_option maxRecDepth 10000
theorem gone_set {b : Qd.Brain} {id : Int} {x x0 : Qd.Job} (h : Qd.lookA b.jobs id = some x0) (hi : x.j.id = id) : (b.setJob id x).gone id x = b.gone id x := by
  unfold Qd.Brain.gone
  cases x.drops with
  | none => simp [Qd.Brain.setJob, putA_put]
  | some ds =>
    cases ds with
    | cons d ds => simp [Qd.Brain.setJob, putA_put]
    | nil => simp [Qd.Brain.setJob, putA_put, hi, delA_put h]
theorem dropGo_cons (x : Qd.Job) (n : Int) (l : List Int) (b : Qd.Brain) (ds : List Int) : Qd.Brain.dropGo x (n :: l) b ds = if n ∈ b.up then Qd.Brain.dropGo x l (b.order n { kind := 10, job := x.j.id }) (Qd.addS ds n) else Qd.Brain.dropGo x l b ds := rfl
/-- a job that goes -/
def dropJob (j : JobA) (again : Bool) (dr : Option Nat) (ds : Option (List Int)) (state : Int) : JobA :=
  { j with x := { j.x with again := again && !j.x.done, saving := none, work := j.x.j.credit, drops := ds, j := { j.x.j with state } }, sv := none, dr }
theorem dropJob_ok {j : JobA} (h : j.Ok) (again : Bool) {dr : Option Nat} {ds : Option (List Int)} (hd : ds.isSome = dr.isSome) : (dropJob j again dr ds 3).Ok :=
  ⟨h.at_, h.a16, h.atn, h.ld, fun h => absurd h (by simp [dropJob]), rfl, fun s h => (by simp [dropJob] at h), hd, h.rn, h.r32, h.rle, h.idr, h.kr, h.rnk, h.rat⟩
def BrA.osa (y : BrA) (os : List Qd.Order) (osl : Sl) : BrA := { y with os, osl }
theorem BrA.Ok.osa {y : BrA} (hy : y.Ok) {os : List Qd.Order} {osl : Sl} (h : osl.Ok (flat orderV os) 14) : (y.osa os osl).Ok := { hy with osl := h }
theorem drop_none {b b1 : Qd.Brain} {id : Int} {x : Qd.Job} {ag : Bool} {ds : List Int} (h : x.drops = none) (hg : Qd.Brain.dropGo { x with again := ag && !x.done, saving := none, work := x.j.credit } x.at_ b [] = (b1, ds)) :
    b.drop id x ag = b1.gone id { x with again := ag && !x.done, saving := none, work := x.j.credit, drops := some ds, j := { x.j with state := 3 } } := by
  simp only [Qd.Brain.drop, h] at hg ⊢
  rw [hg]
theorem drop_some {b : Qd.Brain} {id : Int} {x : Qd.Job} {ag : Bool} {ds : List Int} (h : x.drops = some ds) :
    b.drop id x ag = b.gone id { x with again := ag && !x.done, saving := none, work := x.j.credit, drops := x.drops, j := { x.j with state := 3 } } := by
  simp only [Qd.Brain.drop, h]
theorem fb_84_3 : fieldB Tryz.prog 84 3 = some 6 := by kernel_rfl
theorem fb_90_10 : fieldB Tryz.prog 90 10 = some 15 := by kernel_rfl
theorem fb_90_1 : fieldB Tryz.prog 90 1 = some 6 := by kernel_rfl
theorem fb_90_3 : fieldB Tryz.prog 90 3 = some 8 := by kernel_rfl
theorem fb_90_5 : fieldB Tryz.prog 90 5 = some 10 := by kernel_rfl
theorem pf_38 : plainFn Tryz.prog 38 = true := by kernel_rfl
theorem pf_53 : plainFn Tryz.prog 53 = true := by kernel_rfl
theorem pf_73 : plainFn Tryz.prog 73 = true := by kernel_rfl
theorem pf_74 : plainFn Tryz.prog 74 = true := by kernel_rfl
theorem ps_72 : placesB Tryz.prog 72 = some #[(0, 1), (1, 1), (2, 1), (3, 1), (4, 1), (5, 1), (6, 1), (7, 1), (8, 1), (9, 1), (10, 1), (11, 1), (12, 1)] := by kernel_rfl
theorem sz_4 : sizeB Tryz.prog 4 = some 1 := by kernel_rfl
theorem sz_81 : sizeB Tryz.prog 81 = some 1 := by kernel_rfl
theorem sz_87 : sizeB Tryz.prog 87 = some 1 := by kernel_rfl
theorem zf_72 : zeroB Tryz.prog 72 = some (Go.Value.agg #[Go.Value.int (Go.IntKind.u8) 0, Go.Value.int (Go.IntKind.u8) 0, Go.Value.int (Go.IntKind.u32) 0, Go.Value.int (Go.IntKind.u32) 0, Go.Value.int (Go.IntKind.u32) 0, Go.Value.int (Go.IntKind.u32) 0, Go.Value.int (Go.IntKind.u32) 0, Go.Value.int (Go.IntKind.u32) 0, Go.Value.int (Go.IntKind.u8) 0, Go.Value.int (Go.IntKind.i64) 0, Go.Value.int (Go.IntKind.u32) 0, Go.Value.int (Go.IntKind.u32) 0, Go.Value.slice none 0 0]) := by kernel_rfl
set_option maxHeartbeats 2000000 in
theorem s_drop [Bs] (y : BrA) (hy : y.Ok) (id : Int) (j : JobA) (hlk : Qd.lookA y.jobs id = some j) (again : Bool) (hsz0 : y.sz + 16 ≤ BIG) : Spec Tryz.prog 52 [y.ptr, j.ptr, .bool again] (y.kb) (fun v K' => v = .tuple #[] ∧ ∃ y', BTo y y' id (y.b.drop id j.x again) 16 ∧ K' = y'.kb) := by
 obtain ⟨hjo, hji, hjk⟩ := hy.at hlk
 have hjd := hjo.dr
 have hsz : y.sz + 16 ≤ BIG := hsz0
 unfold BrA.sz BIG at hsz
 have h16 := hjo.a16
 have hal : j.at_.len = j.x.at_.length := by have := hjo.at_.vlen; simp [encI] at this; omega
 refine spec_body Tryz.func52 rfl rfl fun F R hR => ?_
 try simp only [NL]
 refine C_perm _ ?_ ((BrA.open_ hlk).append_right F)
 rw [opn_eq]
 try simp only [NL]
 refine C_seq ?_
 refine C_region ?_
 refine wm (i := 0) rfl rfl rfl rfl ?_
 refine wm (i := 1) rfl rfl rfl rfl ?_
 refine wm (i := 2) rfl rfl rfl rfl ?_
 refine W_bool 10 _ rfl (fun ht10 => ?_) (fun ht10 => ?_)
 ·
  try simp only [CL] at ht10
  subst ht10
  let ag : Bool := true
  refine wm (i := 3) rfl rfl rfl rfl ?_
  refine wc (i := 4) rfl rfl rfl rfl ?_
  refine W_q (i := 5) rfl rfl rfl (q_fieldAddr fb_90_10 rfl rfl) ?_
  refine W_q (i := 6) rfl rfl rfl (q_load ag_4 rfl aP rfl) ?_
  refine W_q (i := 7) rfl rfl rfl (q_not rfl) ?_
  refine W_q (i := 8) rfl rfl rfl (q_pickT rfl rfl) ?_
  refine wc (i := 9) rfl rfl rfl rfl ?_
  refine W_q (i := 10) rfl rfl rfl (q_fieldAddr fb_90_9 rfl rfl) ?_
  refine W_e (i := 11) rfl rfl rfl (e_store sz_4 rfl rfl rfl aU (by first | decide | exact Nat.le_of_ble_eq_true rfl | simp [splice, Value.cells])) ?_
  intro _
  refine W_nil ?_
  refine N_seq ?_
  refine C_seq ?_
  refine C_region ?_
  refine wm (i := 0) rfl rfl rfl rfl ?_
  refine wc (i := 1) rfl rfl rfl rfl ?_
  refine W_q (i := 2) rfl rfl rfl (q_fieldAddr fb_90_5 rfl rfl) ?_
  refine W_e (i := 3) rfl rfl rfl (e_store sz_87 rfl rfl rfl aU (by first | decide | exact Nat.le_of_ble_eq_true rfl | simp [splice, Value.cells])) ?_
  intro _
  refine W_nil ?_
  refine N_seq ?_
  refine C_seq ?_
  refine C_region ?_
  refine wm (i := 0) rfl rfl rfl rfl ?_
  refine wm (i := 1) rfl rfl rfl rfl ?_
  refine wc (i := 2) rfl rfl rfl rfl ?_
  refine W_q (i := 3) rfl rfl rfl (q_fieldAddr fb_90_0 rfl rfl) ?_
  refine W_q (i := 4) rfl rfl rfl (q_fieldAddr fb_35_5 rfl rfl) ?_
  refine W_q (i := 5) rfl rfl rfl (q_load ag_3 rfl aP rfl) ?_
  refine wc (i := 6) rfl rfl rfl rfl ?_
  refine W_q (i := 7) rfl rfl rfl (q_fieldAddr fb_90_3 rfl rfl) ?_
  refine W_e (i := 8) rfl rfl rfl (e_store sz_3 rfl rfl rfl aU (by first | decide | exact Nat.le_of_ble_eq_true rfl | simp [splice, Value.cells])) ?_
  intro _
  refine W_nil ?_
  refine N_seq ?_
  refine C_seq ?_
  refine C_seq ?_
  refine C_region ?_
  refine wm (i := 0) rfl rfl rfl rfl ?_
  refine wc (i := 1) rfl rfl rfl rfl ?_
  refine W_q (i := 2) rfl rfl rfl (q_fieldAddr fb_90_8 rfl rfl) ?_
  refine W_q (i := 3) rfl rfl rfl (q_load ag_81 rfl aP rfl) ?_
  refine W_q (i := 4) rfl rfl rfl (q_eqMapNil Tryz.underlying81 rfl rfl) ?_
  refine W_nil ?_
  refine N_seq ?_
  refine C_cond rfl (fun ht34 => ?_) (fun ht34 => ?_)
  ·
   try simp only [CL] at ht34
   have hd0 : j.x.drops = none := by rw [ht34] at hjd; simpa using hjd
   refine C_seq ?_
   refine C_region ?_
   refine wm (i := 0) rfl rfl rfl rfl ?_
   refine W_e (i := 1) rfl rfl rfl (e_makeMap .i64) ?_
   intro b36
   refine wc (i := 2) rfl rfl rfl rfl ?_
   refine W_q (i := 3) rfl rfl rfl (q_fieldAddr fb_90_8 rfl rfl) ?_
   refine W_e (i := 4) rfl rfl rfl (e_store sz_81 rfl rfl rfl aU (by first | decide | exact Nat.le_of_ble_eq_true rfl | simp [splice, Value.cells])) ?_
   intro _
   refine W_nil ?_
   refine N_seq ?_
   refine C_seq ?_
   refine C_region ?_
   refine wm (i := 0) rfl rfl rfl rfl ?_
   refine wc (i := 1) rfl rfl rfl rfl ?_
   refine W_q (i := 2) rfl rfl rfl (q_fieldAddr fb_90_1 rfl rfl) ?_
   refine W_q (i := 3) rfl rfl rfl (q_load ag_66 rfl aP rfl) ?_
   refine W_q (i := 4) rfl rfl rfl (q_lenSl Tryz.underlying66 rfl rfl) ?_
   refine wm (i := 5) rfl rfl rfl rfl ?_
   refine W_nil ?_
   refine N_seq ?_
   refine C_block ?_
   refine C_loopT (ι := { q : Nat × List Int × List Qd.Order × Sl // q.1 ≤ j.x.at_.length ∧ Qd.Brain.dropGo ({ j.x with again := ag && !j.x.done, saving := none, work := j.x.j.credit }) (j.x.at_.drop q.1) { y.b with orders := q.2.2.1 } q.2.1 = Qd.Brain.dropGo ({ j.x with again := ag && !j.x.done, saving := none, work := j.x.j.credit }) j.x.at_ y.b [] ∧ q.2.2.2.Ok (flat orderV q.2.2.1) 14 ∧ q.2.2.1.length ≤ y.os.length + q.1 }) (fun q => [(0, y.ptr), (1, j.ptr), (42, j.at_.val), (43, .int .i64 (j.at_.len : Int)), (44, .int .i64 (q.1.1 : Int))]) (fun q => opn (y.osa q.1.2.2.1 q.1.2.2.2) (dropJob j ag (some b36) (some q.1.2.1) (j.x.j.state)) (mapV JobA.ptr y.jobs) (mapKb JobA.kb (Qd.delA y.jobs id)) ++ F) (fun q => j.x.at_.length - q.1.1) ⟨(0, [], y.os, y.osl), Nat.zero_le _, rfl, hy.osl, Nat.le_refl _⟩ aS (by (try simp only [opn_eq, BrA.osa, dropJob, BrA.osK, BrA.isK, BrA.dsK, BrA.msK, setKb_some, svKb_none, Option.getD_some]); exact aT) ?_
   rintro ⟨⟨i, ds, os, osl⟩, hi, hgo, hoo, hol⟩
   dsimp only at hi hgo hoo hol ⊢
   refine C_to ((y.blk, Cells (y.osa os osl).cells 84) :: (j.blk, Cells (dropJob j ag (some b36) (some ds) (j.x.j.state)).cells 90) :: (y.up, SetB y.ups) :: (y.jb, MapI .u32 (mapV JobA.ptr y.jobs)) :: (b36, SetB ds) :: (j.at_.kb (encI j.x.at_) 1 3 ++ (osl.kb (flat orderV os) 14 97 ++ (setKb j.ld j.x.loaded ++ (ranKb j.rn (j.x.ran.getD []) ++ (y.mx.kb ++ (y.isK ++ (y.dsK ++ (y.msK ++ (stKb y.st ++ (mapKb JobA.kb (Qd.delA y.jobs id) ++ F))))))))))) (by (try simp only [opn_eq, BrA.osa, dropJob, BrA.osK, BrA.isK, BrA.dsK, BrA.msK, setKb_some, svKb_none, Option.getD_some]); exact aT) ?_
   refine C_seq ?_
   refine C_region ?_
   refine W_q (i := 0) rfl rfl rfl (q_int rfl rfl rfl) ?_
   refine W_nil ?_
   refine N_seq ?_
   refine C_seq ?_
   refine C_cond rfl (fun ht45 => ?_) (fun ht45 => ?_)
   ·
    try simp only [CL] at ht45
    have hil : i < j.x.at_.length := by omega
    obtain ⟨n, hn⟩ : ∃ n, j.x.at_[i]? = some n := ⟨_, List.getElem?_eq_getElem hil⟩
    rw [drop_get hn, dropGo_cons] at hgo
    refine C_skip ?_
    refine N_seq ?_
    refine C_seq ?_
    refine C_block ?_
    refine C_seq ?_
    refine C_region ?_
    refine W_q (i := 0) rfl rfl rfl (q_idxSl Tryz.underlying66 sz_3 hjo.at_ rfl rfl (Int.natCast_nonneg _) (by omega) rfl) ?_
    refine W_q (i := 1) rfl rfl rfl (q_loadSl (i := i) (v := .int .i64 n) ag_3 rfl hjo.at_ aC (by simp) (by simp [encI, hn])) ?_
    refine wa (i := 2) rfl rfl rfl rfl ?_
    refine W_nil ?_
    refine N_seq ?_
    refine C_seq ?_
    refine C_region ?_
    refine wm (i := 0) rfl rfl rfl rfl ?_
    refine wc (i := 1) rfl rfl rfl rfl ?_
    refine W_q (i := 2) rfl rfl rfl (q_fieldAddr fb_84_3 rfl rfl) ?_
    refine W_q (i := 3) rfl rfl rfl (q_load ag_81 rfl aP rfl) ?_
    refine wm (i := 4) rfl rfl rfl rfl ?_
    refine W_call (i := 5) rfl rfl rfl rfl rfl rfl pf_73 (s_has (some y.up) y.ups n [(y.up, SetB y.ups)] ⟨_, Pick.here⟩) (by repeat (first | exact tk_one | apply tk_app | apply tk_cons)) ?_
    rintro _ _ ⟨rfl, rfl⟩
    try simp only [NL]
    refine W_nil ?_
    refine N_seq ?_
    refine C_cond rfl (fun ht53 => ?_) (fun ht53 => ?_)
    ·
     try simp only [CL] at ht53
     rw [if_pos (show n ∈ y.b.up from ht53)] at hgo
     refine C_seq ?_
     refine C_region ?_
     refine wm (i := 0) rfl rfl rfl rfl ?_
     refine wc (i := 1) rfl rfl rfl rfl ?_
     refine W_q (i := 2) rfl rfl rfl (q_fieldAddr fb_90_8 rfl rfl) ?_
     refine W_q (i := 3) rfl rfl rfl (q_load ag_81 rfl aP rfl) ?_
     refine wm (i := 4) rfl rfl rfl rfl ?_
     refine W_call (i := 5) rfl rfl rfl rfl rfl rfl pf_38 (s_add b36 ds n) (by repeat (first | exact tk_one | apply tk_app | apply tk_cons)) ?_
     rintro _ _ ⟨rfl, rfl⟩
     try simp only [NL]
     refine W_nil ?_
     refine N_seq ?_
     refine C_region ?_
     refine wm (i := 0) rfl rfl rfl rfl ?_
     refine wm (i := 1) rfl rfl rfl rfl ?_
     refine wm (i := 2) rfl rfl rfl rfl ?_
     refine wc (i := 3) rfl rfl rfl rfl ?_
     refine W_q (i := 4) rfl rfl rfl (q_fieldAddr fb_90_0 rfl rfl) ?_
     refine W_q (i := 5) rfl rfl rfl (q_fieldAddr fb_35_0 rfl rfl) ?_
     refine W_q (i := 6) rfl rfl rfl (q_load ag_31 rfl aP rfl) ?_
     refine W_q (i := 7) rfl rfl rfl (q_build (vs := [(0, .int .u8 10), (6, .int .u32 j.x.j.id)]) (cs := (noteO { kind := 10, job := j.x.j.id }).toArray) ps_72 zf_72 rfl (by simp [Instr.fill, Value.cells, noteO, noteV])) ?_
     refine W_call (i := 8) rfl rfl rfl rfl rfl rfl pf_74 (s_order y.blk (y.osa os osl).cells osl os hoo rfl (by omega) n { kind := 10, job := j.x.j.id }) (tk_cons1 (by repeat (first | exact tk_one | apply tk_app | apply tk_cons)) aC) ?_
     rintro _ _ ⟨rfl, osl', hoo', rfl⟩
     try simp only [NL]
     refine W_nil ?_
     refine N_seq ?_
     refine C_region ?_
     refine W_q (i := 0) rfl rfl rfl (q_add rfl rfl (succ64 (by omega))) ?_
     refine wm (i := 1) rfl rfl rfl rfl ?_
     refine W_nil ?_
     exact fun a w ha hk => ⟨⟨(i + 1, (Qd.addS ds n), (os ++ [(⟨n, { kind := 10, job := j.x.j.id }⟩ : Qd.Order)]), osl'), by dsimp only; omega, hgo, hoo', by simp; omega⟩, by dsimp only; omega, ha.sub aS, hk.take (by (try simp only [opn_eq, BrA.osa, dropJob, BrA.osK, BrA.isK, BrA.dsK, BrA.msK, setKb_some, svKb_none, Option.getD_some]); exact aT)⟩
    ·
     try simp only [CL] at ht53
     rw [if_neg (show n ∉ y.b.up from ht53)] at hgo
     refine C_skip ?_
     refine N_seq ?_
     refine C_region ?_
     refine W_q (i := 0) rfl rfl rfl (q_add rfl rfl (succ64 (by omega))) ?_
     refine wm (i := 1) rfl rfl rfl rfl ?_
     refine W_nil ?_
     exact fun a w ha hk => ⟨⟨(i + 1, ds, os, osl), by dsimp only; omega, hgo, hoo, by dsimp only; omega⟩, by dsimp only; omega, ha.sub aS, hk.take (by (try simp only [opn_eq, BrA.osa, dropJob, BrA.osK, BrA.isK, BrA.dsK, BrA.msK, setKb_some, svKb_none, Option.getD_some]); exact aT)⟩
   ·
    try simp only [CL] at ht45
    have hil : i = j.x.at_.length := by omega
    subst hil
    rw [List.drop_length] at hgo
    refine C_exit ?_
    refine N_seq ?_
    refine C_seq ?_
    refine C_region ?_
    refine wm (i := 0) rfl rfl rfl rfl ?_
    refine wc (i := 1) rfl rfl rfl rfl ?_
    refine W_q (i := 2) rfl rfl rfl (q_fieldAddr fb_90_0 rfl rfl) ?_
    refine W_q (i := 3) rfl rfl rfl (q_fieldAddr fb_35_4 rfl rfl) ?_
    refine W_e (i := 4) rfl rfl rfl (e_store sz_5 rfl rfl rfl aU (by first | decide | exact Nat.le_of_ble_eq_true rfl | simp [splice, Value.cells])) ?_
    intro _
    refine W_nil ?_
    refine N_seq ?_
    refine C_to (opn ((y.osa os osl).set id (dropJob j ag (some b36) (some ds) 3)) (dropJob j ag (some b36) (some ds) 3) (mapV JobA.ptr y.jobs) (mapKb JobA.kb (Qd.delA y.jobs id)) ++ F) (by (try simp only [opn_eq, BrA.set, BrA.osK, BrA.isK, BrA.dsK, BrA.msK, setKb_some, svKb_none, Option.getD_some, dropJob, BrA.osa]); exact aT) ?_
    refine C_perm _ ?_ ((BrA.close_ (y := (y.osa os osl).set id (dropJob j ag (some b36) (some ds) 3)) (id := id) (a := (dropJob j ag (some b36) (some ds) 3)) BrA.set_look (BrA.set_pm (y := (y.osa os osl)) (a' := (dropJob j ag (some b36) (some ds) 3)) hlk rfl) (BrA.set_js (y := (y.osa os osl)) (a' := (dropJob j ag (some b36) (some ds) 3)) hlk)).append_right F)
    refine C_region ?_
    refine wm (i := 0) rfl rfl rfl rfl ?_
    refine wm (i := 1) rfl rfl rfl rfl ?_
    refine W_call (i := 2) rfl rfl rfl rfl rfl rfl pf_53 (s_gone ((y.osa os osl).set id (dropJob j ag (some b36) (some ds) 3)) ((hy.osa hoo).set (y := y.osa os osl) hlk (dropJob_ok hjo _ rfl) hji rfl) id (dropJob j ag (some b36) (some ds) 3) BrA.set_look) aC ?_
    rintro _ _ ⟨rfl, y', hto, rfl⟩
    refine W_nil ?_
    intro a w ha hk
    exact R_val (e := .normal) (.inr rfl) ha.defers (res0 rfl) (hR _ _ _ ⟨rfl, y', ⟨hto.ok, by rw [hto.b, BrA.set_b, gone_set (x := (dropJob j ag (some b36) (some ds) 3).x) (BrA.look_mj (y := y.osa os osl) hlk) hji]; exact (drop_none hd0 hgo.symm).symm, hto.blk, by have h5 := hto.sz; simp only [BrA.sz, BrA.set, BrA.osa] at h5 ⊢; omega, Nat.le_trans hto.len (len_set (y := y.osa os osl) hlk), fun i hi => (hto.oth i hi).trans (oth_set (y := y.osa os osl) i hi)⟩, rfl⟩ hk)
  ·
   try simp only [CL] at ht34
   obtain ⟨r, hdr⟩ : ∃ r, j.dr = some r := Option.isSome_iff_exists.1 ht34
   obtain ⟨ds, hds⟩ : ∃ ds, j.x.drops = some ds := Option.isSome_iff_exists.1 (by rw [hjd]; exact ht34)
   refine C_skip ?_
   refine N_seq ?_
   refine C_seq ?_
   refine C_region ?_
   refine wm (i := 0) rfl rfl rfl rfl ?_
   refine wc (i := 1) rfl rfl rfl rfl ?_
   refine W_q (i := 2) rfl rfl rfl (q_fieldAddr fb_90_0 rfl rfl) ?_
   refine W_q (i := 3) rfl rfl rfl (q_fieldAddr fb_35_4 rfl rfl) ?_
   refine W_e (i := 4) rfl rfl rfl (e_store sz_5 rfl rfl rfl aU (by first | decide | exact Nat.le_of_ble_eq_true rfl | simp [splice, Value.cells])) ?_
   intro _
   refine W_nil ?_
   refine N_seq ?_
   refine C_to (opn (y.set id (dropJob j ag j.dr j.x.drops 3)) (dropJob j ag j.dr j.x.drops 3) (mapV JobA.ptr y.jobs) (mapKb JobA.kb (Qd.delA y.jobs id)) ++ F) (by (try simp only [opn_eq, BrA.set, BrA.osK, BrA.isK, BrA.dsK, BrA.msK, svKb_none, dropJob]); exact aT) ?_
   refine C_perm _ ?_ ((BrA.close_ (y := y.set id (dropJob j ag j.dr j.x.drops 3)) (id := id) (a := (dropJob j ag j.dr j.x.drops 3)) BrA.set_look (BrA.set_pm (y := y) (a' := (dropJob j ag j.dr j.x.drops 3)) hlk rfl) (BrA.set_js (y := y) (a' := (dropJob j ag j.dr j.x.drops 3)) hlk)).append_right F)
   refine C_region ?_
   refine wm (i := 0) rfl rfl rfl rfl ?_
   refine wm (i := 1) rfl rfl rfl rfl ?_
   refine W_call (i := 2) rfl rfl rfl rfl rfl rfl pf_53 (s_gone (y.set id (dropJob j ag j.dr j.x.drops 3)) (hy.set hlk (dropJob_ok hjo _ hjd) hji rfl) id (dropJob j ag j.dr j.x.drops 3) BrA.set_look) aC ?_
   rintro _ _ ⟨rfl, y', hto, rfl⟩
   refine W_nil ?_
   intro a w ha hk
   exact R_val (e := .normal) (.inr rfl) ha.defers (res0 rfl) (hR _ _ _ ⟨rfl, y', ⟨hto.ok, by rw [hto.b, BrA.set_b, gone_set (x := (dropJob j ag j.dr j.x.drops 3).x) (BrA.look_mj hlk) hji]; exact (drop_some hds).symm, hto.blk, by have h5 := hto.sz; simp only [BrA.sz, BrA.set] at h5 ⊢; omega, Nat.le_trans hto.len (len_set hlk), fun i hi => (hto.oth i hi).trans (oth_set i hi)⟩, rfl⟩ hk)
 ·
  try simp only [CL] at ht10
  subst ht10
  let ag : Bool := false
  refine W_skip (i := 3) rfl rfl rfl ?_
  refine W_skip (i := 4) rfl rfl rfl ?_
  refine W_skip (i := 5) rfl rfl rfl ?_
  refine W_skip (i := 6) rfl rfl rfl ?_
  refine W_skip (i := 7) rfl rfl rfl ?_
  refine W_q (i := 8) rfl rfl rfl (q_pickF rfl rfl) ?_
  refine wc (i := 9) rfl rfl rfl rfl ?_
  refine W_q (i := 10) rfl rfl rfl (q_fieldAddr fb_90_9 rfl rfl) ?_
  refine W_e (i := 11) rfl rfl rfl (e_store sz_4 rfl rfl rfl aU (by first | decide | exact Nat.le_of_ble_eq_true rfl | simp [splice, Value.cells])) ?_
  intro _
  refine W_nil ?_
  refine N_seq ?_
  refine C_seq ?_
  refine C_region ?_
  refine wm (i := 0) rfl rfl rfl rfl ?_
  refine wc (i := 1) rfl rfl rfl rfl ?_
  refine W_q (i := 2) rfl rfl rfl (q_fieldAddr fb_90_5 rfl rfl) ?_
  refine W_e (i := 3) rfl rfl rfl (e_store sz_87 rfl rfl rfl aU (by first | decide | exact Nat.le_of_ble_eq_true rfl | simp [splice, Value.cells])) ?_
  intro _
  refine W_nil ?_
  refine N_seq ?_
  refine C_seq ?_
  refine C_region ?_
  refine wm (i := 0) rfl rfl rfl rfl ?_
  refine wm (i := 1) rfl rfl rfl rfl ?_
  refine wc (i := 2) rfl rfl rfl rfl ?_
  refine W_q (i := 3) rfl rfl rfl (q_fieldAddr fb_90_0 rfl rfl) ?_
  refine W_q (i := 4) rfl rfl rfl (q_fieldAddr fb_35_5 rfl rfl) ?_
  refine W_q (i := 5) rfl rfl rfl (q_load ag_3 rfl aP rfl) ?_
  refine wc (i := 6) rfl rfl rfl rfl ?_
  refine W_q (i := 7) rfl rfl rfl (q_fieldAddr fb_90_3 rfl rfl) ?_
  refine W_e (i := 8) rfl rfl rfl (e_store sz_3 rfl rfl rfl aU (by first | decide | exact Nat.le_of_ble_eq_true rfl | simp [splice, Value.cells])) ?_
  intro _
  refine W_nil ?_
  refine N_seq ?_
  refine C_seq ?_
  refine C_seq ?_
  refine C_region ?_
  refine wm (i := 0) rfl rfl rfl rfl ?_
  refine wc (i := 1) rfl rfl rfl rfl ?_
  refine W_q (i := 2) rfl rfl rfl (q_fieldAddr fb_90_8 rfl rfl) ?_
  refine W_q (i := 3) rfl rfl rfl (q_load ag_81 rfl aP rfl) ?_
  refine W_q (i := 4) rfl rfl rfl (q_eqMapNil Tryz.underlying81 rfl rfl) ?_
  refine W_nil ?_
  refine N_seq ?_
  refine C_cond rfl (fun ht34 => ?_) (fun ht34 => ?_)
  ·
   try simp only [CL] at ht34
   have hd0 : j.x.drops = none := by rw [ht34] at hjd; simpa using hjd
   refine C_seq ?_
   refine C_region ?_
   refine wm (i := 0) rfl rfl rfl rfl ?_
   refine W_e (i := 1) rfl rfl rfl (e_makeMap .i64) ?_
   intro b36
   refine wc (i := 2) rfl rfl rfl rfl ?_
   refine W_q (i := 3) rfl rfl rfl (q_fieldAddr fb_90_8 rfl rfl) ?_
   refine W_e (i := 4) rfl rfl rfl (e_store sz_81 rfl rfl rfl aU (by first | decide | exact Nat.le_of_ble_eq_true rfl | simp [splice, Value.cells])) ?_
   intro _
   refine W_nil ?_
   refine N_seq ?_
   refine C_seq ?_
   refine C_region ?_
   refine wm (i := 0) rfl rfl rfl rfl ?_
   refine wc (i := 1) rfl rfl rfl rfl ?_
   refine W_q (i := 2) rfl rfl rfl (q_fieldAddr fb_90_1 rfl rfl) ?_
   refine W_q (i := 3) rfl rfl rfl (q_load ag_66 rfl aP rfl) ?_
   refine W_q (i := 4) rfl rfl rfl (q_lenSl Tryz.underlying66 rfl rfl) ?_
   refine wm (i := 5) rfl rfl rfl rfl ?_
   refine W_nil ?_
   refine N_seq ?_
   refine C_block ?_
   refine C_loopT (ι := { q : Nat × List Int × List Qd.Order × Sl // q.1 ≤ j.x.at_.length ∧ Qd.Brain.dropGo ({ j.x with again := ag && !j.x.done, saving := none, work := j.x.j.credit }) (j.x.at_.drop q.1) { y.b with orders := q.2.2.1 } q.2.1 = Qd.Brain.dropGo ({ j.x with again := ag && !j.x.done, saving := none, work := j.x.j.credit }) j.x.at_ y.b [] ∧ q.2.2.2.Ok (flat orderV q.2.2.1) 14 ∧ q.2.2.1.length ≤ y.os.length + q.1 }) (fun q => [(0, y.ptr), (1, j.ptr), (42, j.at_.val), (43, .int .i64 (j.at_.len : Int)), (44, .int .i64 (q.1.1 : Int))]) (fun q => opn (y.osa q.1.2.2.1 q.1.2.2.2) (dropJob j ag (some b36) (some q.1.2.1) (j.x.j.state)) (mapV JobA.ptr y.jobs) (mapKb JobA.kb (Qd.delA y.jobs id)) ++ F) (fun q => j.x.at_.length - q.1.1) ⟨(0, [], y.os, y.osl), Nat.zero_le _, rfl, hy.osl, Nat.le_refl _⟩ aS (by (try simp only [opn_eq, BrA.osa, dropJob, BrA.osK, BrA.isK, BrA.dsK, BrA.msK, setKb_some, svKb_none, Option.getD_some]); exact aT) ?_
   rintro ⟨⟨i, ds, os, osl⟩, hi, hgo, hoo, hol⟩
   dsimp only at hi hgo hoo hol ⊢
   refine C_to ((y.blk, Cells (y.osa os osl).cells 84) :: (j.blk, Cells (dropJob j ag (some b36) (some ds) (j.x.j.state)).cells 90) :: (y.up, SetB y.ups) :: (y.jb, MapI .u32 (mapV JobA.ptr y.jobs)) :: (b36, SetB ds) :: (j.at_.kb (encI j.x.at_) 1 3 ++ (osl.kb (flat orderV os) 14 97 ++ (setKb j.ld j.x.loaded ++ (ranKb j.rn (j.x.ran.getD []) ++ (y.mx.kb ++ (y.isK ++ (y.dsK ++ (y.msK ++ (stKb y.st ++ (mapKb JobA.kb (Qd.delA y.jobs id) ++ F))))))))))) (by (try simp only [opn_eq, BrA.osa, dropJob, BrA.osK, BrA.isK, BrA.dsK, BrA.msK, setKb_some, svKb_none, Option.getD_some]); exact aT) ?_
   refine C_seq ?_
   refine C_region ?_
   refine W_q (i := 0) rfl rfl rfl (q_int rfl rfl rfl) ?_
   refine W_nil ?_
   refine N_seq ?_
   refine C_seq ?_
   refine C_cond rfl (fun ht45 => ?_) (fun ht45 => ?_)
   ·
    try simp only [CL] at ht45
    have hil : i < j.x.at_.length := by omega
    obtain ⟨n, hn⟩ : ∃ n, j.x.at_[i]? = some n := ⟨_, List.getElem?_eq_getElem hil⟩
    rw [drop_get hn, dropGo_cons] at hgo
    refine C_skip ?_
    refine N_seq ?_
    refine C_seq ?_
    refine C_block ?_
    refine C_seq ?_
    refine C_region ?_
    refine W_q (i := 0) rfl rfl rfl (q_idxSl Tryz.underlying66 sz_3 hjo.at_ rfl rfl (Int.natCast_nonneg _) (by omega) rfl) ?_
    refine W_q (i := 1) rfl rfl rfl (q_loadSl (i := i) (v := .int .i64 n) ag_3 rfl hjo.at_ aC (by simp) (by simp [encI, hn])) ?_
    refine wa (i := 2) rfl rfl rfl rfl ?_
    refine W_nil ?_
    refine N_seq ?_
    refine C_seq ?_
    refine C_region ?_
    refine wm (i := 0) rfl rfl rfl rfl ?_
    refine wc (i := 1) rfl rfl rfl rfl ?_
    refine W_q (i := 2) rfl rfl rfl (q_fieldAddr fb_84_3 rfl rfl) ?_
    refine W_q (i := 3) rfl rfl rfl (q_load ag_81 rfl aP rfl) ?_
    refine wm (i := 4) rfl rfl rfl rfl ?_
    refine W_call (i := 5) rfl rfl rfl rfl rfl rfl pf_73 (s_has (some y.up) y.ups n [(y.up, SetB y.ups)] ⟨_, Pick.here⟩) (by repeat (first | exact tk_one | apply tk_app | apply tk_cons)) ?_
    rintro _ _ ⟨rfl, rfl⟩
    try simp only [NL]
    refine W_nil ?_
    refine N_seq ?_
    refine C_cond rfl (fun ht53 => ?_) (fun ht53 => ?_)
    ·
     try simp only [CL] at ht53
     rw [if_pos (show n ∈ y.b.up from ht53)] at hgo
     refine C_seq ?_
     refine C_region ?_
     refine wm (i := 0) rfl rfl rfl rfl ?_
     refine wc (i := 1) rfl rfl rfl rfl ?_
     refine W_q (i := 2) rfl rfl rfl (q_fieldAddr fb_90_8 rfl rfl) ?_
     refine W_q (i := 3) rfl rfl rfl (q_load ag_81 rfl aP rfl) ?_
     refine wm (i := 4) rfl rfl rfl rfl ?_
     refine W_call (i := 5) rfl rfl rfl rfl rfl rfl pf_38 (s_add b36 ds n) (by repeat (first | exact tk_one | apply tk_app | apply tk_cons)) ?_
     rintro _ _ ⟨rfl, rfl⟩
     try simp only [NL]
     refine W_nil ?_
     refine N_seq ?_
     refine C_region ?_
     refine wm (i := 0) rfl rfl rfl rfl ?_
     refine wm (i := 1) rfl rfl rfl rfl ?_
     refine wm (i := 2) rfl rfl rfl rfl ?_
     refine wc (i := 3) rfl rfl rfl rfl ?_
     refine W_q (i := 4) rfl rfl rfl (q_fieldAddr fb_90_0 rfl rfl) ?_
     refine W_q (i := 5) rfl rfl rfl (q_fieldAddr fb_35_0 rfl rfl) ?_
     refine W_q (i := 6) rfl rfl rfl (q_load ag_31 rfl aP rfl) ?_
     refine W_q (i := 7) rfl rfl rfl (q_build (vs := [(0, .int .u8 10), (6, .int .u32 j.x.j.id)]) (cs := (noteO { kind := 10, job := j.x.j.id }).toArray) ps_72 zf_72 rfl (by simp [Instr.fill, Value.cells, noteO, noteV])) ?_
     refine W_call (i := 8) rfl rfl rfl rfl rfl rfl pf_74 (s_order y.blk (y.osa os osl).cells osl os hoo rfl (by omega) n { kind := 10, job := j.x.j.id }) (tk_cons1 (by repeat (first | exact tk_one | apply tk_app | apply tk_cons)) aC) ?_
     rintro _ _ ⟨rfl, osl', hoo', rfl⟩
     try simp only [NL]
     refine W_nil ?_
     refine N_seq ?_
     refine C_region ?_
     refine W_q (i := 0) rfl rfl rfl (q_add rfl rfl (succ64 (by omega))) ?_
     refine wm (i := 1) rfl rfl rfl rfl ?_
     refine W_nil ?_
     exact fun a w ha hk => ⟨⟨(i + 1, (Qd.addS ds n), (os ++ [(⟨n, { kind := 10, job := j.x.j.id }⟩ : Qd.Order)]), osl'), by dsimp only; omega, hgo, hoo', by simp; omega⟩, by dsimp only; omega, ha.sub aS, hk.take (by (try simp only [opn_eq, BrA.osa, dropJob, BrA.osK, BrA.isK, BrA.dsK, BrA.msK, setKb_some, svKb_none, Option.getD_some]); exact aT)⟩
    ·
     try simp only [CL] at ht53
     rw [if_neg (show n ∉ y.b.up from ht53)] at hgo
     refine C_skip ?_
     refine N_seq ?_
     refine C_region ?_
     refine W_q (i := 0) rfl rfl rfl (q_add rfl rfl (succ64 (by omega))) ?_
     refine wm (i := 1) rfl rfl rfl rfl ?_
     refine W_nil ?_
     exact fun a w ha hk => ⟨⟨(i + 1, ds, os, osl), by dsimp only; omega, hgo, hoo, by dsimp only; omega⟩, by dsimp only; omega, ha.sub aS, hk.take (by (try simp only [opn_eq, BrA.osa, dropJob, BrA.osK, BrA.isK, BrA.dsK, BrA.msK, setKb_some, svKb_none, Option.getD_some]); exact aT)⟩
   ·
    try simp only [CL] at ht45
    have hil : i = j.x.at_.length := by omega
    subst hil
    rw [List.drop_length] at hgo
    refine C_exit ?_
    refine N_seq ?_
    refine C_seq ?_
    refine C_region ?_
    refine wm (i := 0) rfl rfl rfl rfl ?_
    refine wc (i := 1) rfl rfl rfl rfl ?_
    refine W_q (i := 2) rfl rfl rfl (q_fieldAddr fb_90_0 rfl rfl) ?_
    refine W_q (i := 3) rfl rfl rfl (q_fieldAddr fb_35_4 rfl rfl) ?_
    refine W_e (i := 4) rfl rfl rfl (e_store sz_5 rfl rfl rfl aU (by first | decide | exact Nat.le_of_ble_eq_true rfl | simp [splice, Value.cells])) ?_
    intro _
    refine W_nil ?_
    refine N_seq ?_
    refine C_to (opn ((y.osa os osl).set id (dropJob j ag (some b36) (some ds) 3)) (dropJob j ag (some b36) (some ds) 3) (mapV JobA.ptr y.jobs) (mapKb JobA.kb (Qd.delA y.jobs id)) ++ F) (by (try simp only [opn_eq, BrA.set, BrA.osK, BrA.isK, BrA.dsK, BrA.msK, setKb_some, svKb_none, Option.getD_some, dropJob, BrA.osa]); exact aT) ?_
    refine C_perm _ ?_ ((BrA.close_ (y := (y.osa os osl).set id (dropJob j ag (some b36) (some ds) 3)) (id := id) (a := (dropJob j ag (some b36) (some ds) 3)) BrA.set_look (BrA.set_pm (y := (y.osa os osl)) (a' := (dropJob j ag (some b36) (some ds) 3)) hlk rfl) (BrA.set_js (y := (y.osa os osl)) (a' := (dropJob j ag (some b36) (some ds) 3)) hlk)).append_right F)
    refine C_region ?_
    refine wm (i := 0) rfl rfl rfl rfl ?_
    refine wm (i := 1) rfl rfl rfl rfl ?_
    refine W_call (i := 2) rfl rfl rfl rfl rfl rfl pf_53 (s_gone ((y.osa os osl).set id (dropJob j ag (some b36) (some ds) 3)) ((hy.osa hoo).set (y := y.osa os osl) hlk (dropJob_ok hjo _ rfl) hji rfl) id (dropJob j ag (some b36) (some ds) 3) BrA.set_look) aC ?_
    rintro _ _ ⟨rfl, y', hto, rfl⟩
    refine W_nil ?_
    intro a w ha hk
    exact R_val (e := .normal) (.inr rfl) ha.defers (res0 rfl) (hR _ _ _ ⟨rfl, y', ⟨hto.ok, by rw [hto.b, BrA.set_b, gone_set (x := (dropJob j ag (some b36) (some ds) 3).x) (BrA.look_mj (y := y.osa os osl) hlk) hji]; exact (drop_none hd0 hgo.symm).symm, hto.blk, by have h5 := hto.sz; simp only [BrA.sz, BrA.set, BrA.osa] at h5 ⊢; omega, Nat.le_trans hto.len (len_set (y := y.osa os osl) hlk), fun i hi => (hto.oth i hi).trans (oth_set (y := y.osa os osl) i hi)⟩, rfl⟩ hk)
  ·
   try simp only [CL] at ht34
   obtain ⟨r, hdr⟩ : ∃ r, j.dr = some r := Option.isSome_iff_exists.1 ht34
   obtain ⟨ds, hds⟩ : ∃ ds, j.x.drops = some ds := Option.isSome_iff_exists.1 (by rw [hjd]; exact ht34)
   refine C_skip ?_
   refine N_seq ?_
   refine C_seq ?_
   refine C_region ?_
   refine wm (i := 0) rfl rfl rfl rfl ?_
   refine wc (i := 1) rfl rfl rfl rfl ?_
   refine W_q (i := 2) rfl rfl rfl (q_fieldAddr fb_90_0 rfl rfl) ?_
   refine W_q (i := 3) rfl rfl rfl (q_fieldAddr fb_35_4 rfl rfl) ?_
   refine W_e (i := 4) rfl rfl rfl (e_store sz_5 rfl rfl rfl aU (by first | decide | exact Nat.le_of_ble_eq_true rfl | simp [splice, Value.cells])) ?_
   intro _
   refine W_nil ?_
   refine N_seq ?_
   refine C_to (opn (y.set id (dropJob j ag j.dr j.x.drops 3)) (dropJob j ag j.dr j.x.drops 3) (mapV JobA.ptr y.jobs) (mapKb JobA.kb (Qd.delA y.jobs id)) ++ F) (by (try simp only [opn_eq, BrA.set, BrA.osK, BrA.isK, BrA.dsK, BrA.msK, svKb_none, dropJob]); exact aT) ?_
   refine C_perm _ ?_ ((BrA.close_ (y := y.set id (dropJob j ag j.dr j.x.drops 3)) (id := id) (a := (dropJob j ag j.dr j.x.drops 3)) BrA.set_look (BrA.set_pm (y := y) (a' := (dropJob j ag j.dr j.x.drops 3)) hlk rfl) (BrA.set_js (y := y) (a' := (dropJob j ag j.dr j.x.drops 3)) hlk)).append_right F)
   refine C_region ?_
   refine wm (i := 0) rfl rfl rfl rfl ?_
   refine wm (i := 1) rfl rfl rfl rfl ?_
   refine W_call (i := 2) rfl rfl rfl rfl rfl rfl pf_53 (s_gone (y.set id (dropJob j ag j.dr j.x.drops 3)) (hy.set hlk (dropJob_ok hjo _ hjd) hji rfl) id (dropJob j ag j.dr j.x.drops 3) BrA.set_look) aC ?_
   rintro _ _ ⟨rfl, y', hto, rfl⟩
   refine W_nil ?_
   intro a w ha hk
   exact R_val (e := .normal) (.inr rfl) ha.defers (res0 rfl) (hR _ _ _ ⟨rfl, y', ⟨hto.ok, by rw [hto.b, BrA.set_b, gone_set (x := (dropJob j ag j.dr j.x.drops 3).x) (BrA.look_mj hlk) hji]; exact (drop_some hds).symm, hto.blk, by have h5 := hto.sz; simp only [BrA.sz, BrA.set] at h5 ⊢; omega, Nat.le_trans hto.len (len_set hlk), fun i hi => (hto.oth i hi).trans (oth_set i hi)⟩, rfl⟩ hk)
end Go.SL
namespace Go.SL
open Go Go.Proofs
set_option maxRecDepth 10000
theorem gone_set' {b : Qd.Brain} {id : Int} {x x' x0 : Qd.Job} (h : Qd.lookA b.jobs id = some x0) (hi : x.j.id = id) : (b.setJob id x').gone id x = b.gone id x := by
  unfold Qd.Brain.gone
  cases x.drops with
  | none => simp [Qd.Brain.setJob, putA_put]
  | some ds =>
    cases ds with
    | cons d ds => simp [Qd.Brain.setJob, putA_put]
    | nil => simp [Qd.Brain.setJob, putA_put, hi, delA_put h]
theorem dropGo_set (x : Qd.Job) (id : Int) (x' : Qd.Job) : ∀ (l : List Int) (b : Qd.Brain) (ds : List Int), Qd.Brain.dropGo x l (b.setJob id x') ds = ((Qd.Brain.dropGo x l b ds).1.setJob id x', (Qd.Brain.dropGo x l b ds).2)
  | [], b, ds => rfl
  | n :: l, b, ds => by
    rw [dropGo_cons, dropGo_cons]
    split
    · rename_i h
      rw [if_pos (show n ∈ b.up from h)]
      exact dropGo_set x id x' l (b.order n { kind := 10, job := x.j.id }) _
    · rename_i h
      rw [if_neg (show n ∉ b.up from h)]
      exact dropGo_set x id x' l b ds
theorem dropGo_jobs (x : Qd.Job) : ∀ (l : List Int) (b : Qd.Brain) (ds : List Int), (Qd.Brain.dropGo x l b ds).1.jobs = b.jobs
  | [], b, ds => rfl
  | n :: l, b, ds => by
    rw [dropGo_cons]
    split
    · exact dropGo_jobs x l _ _
    · exact dropGo_jobs x l _ _
theorem drop_set {b : Qd.Brain} {id : Int} {x x' x0 : Qd.Job} {ag : Bool} (h : Qd.lookA b.jobs id = some x0) (hi : x.j.id = id) : (b.setJob id x').drop id x ag = b.drop id x ag := by
  cases hd : x.drops with
  | some ds => rw [drop_some hd, drop_some hd, gone_set' h (by exact hi)]
  | none =>
    rw [drop_none hd (dropGo_set _ id x' x.at_ b []), drop_none hd rfl, gone_set' (x0 := x0) (by rw [dropGo_jobs]; exact h) (by exact hi)]
/-- a job's step, and another job's blocks -/
theorem BTo.of_set {y1 y' : BrA} {id : Int} {b' : Qd.Brain} {c : Nat} {j j' : JobA} (h : BTo (y1.set id j') y' id b' c) {y : BrA} {b2 : Qd.Brain} {c2 : Nat} (hlk : Qd.lookA y1.jobs id = some j) (hb : b' = b2) (hblk : y1.blk = y.blk) (hsz : y1.sz + c ≤ y.sz + c2) (hjb : y1.jobs = y.jobs) : BTo y y' id b2 c2 :=
  ⟨h.ok, h.b.trans hb, h.blk.trans hblk, Nat.le_trans h.sz hsz, Nat.le_trans h.len (by rw [← hjb]; exact len_set hlk), fun i hi => (h.oth i hi).trans ((oth_set i hi).trans (by rw [hjb]))⟩
/-- done -/
def doneJob (j : JobA) : JobA := { j with x := { j.x with done := true } }
theorem doneJob_ok {j : JobA} (h : j.Ok) : (doneJob j).Ok := ⟨h.at_, h.a16, h.atn, h.ld, h.ld1, h.sv, h.svo, h.dr, h.rn, h.r32, h.rle, h.idr, h.kr, h.rnk, h.rat⟩
def BrA.dna (y : BrA) (dn : List Int) (dsl : Sl) : BrA := { y with dn, dsl }
theorem BrA.Ok.dna {y : BrA} (hy : y.Ok) {dn : List Int} {dsl : Sl} (h : dsl.Ok (encU dn) 1) : (y.dna dn dsl).Ok := { hy with dsl := h }
/-- saving -/
def saveJob (j : JobA) (ver : Int) (sv : SavA) : JobA := { j with x := { j.x with ver, saving := some sv.s }, sv := some sv }
theorem saveJob_ok {j : JobA} (h : j.Ok) {ver : Int} {sv : SavA} (h1 : sv.Ok) (h2 : sv.s.img.job = j.x.j.id) (h3 : sv.s.told = false → sv.s.img.blobs.length = j.x.at_.length) : (saveJob j ver sv).Ok :=
  ⟨h.at_, h.a16, h.atn, h.ld, h.ld1, rfl, fun s hs => by cases hs; exact ⟨h1, h2, h3⟩, h.dr, h.rn, h.r32, h.rle, h.idr, h.kr, h.rnk, h.rat⟩
def saveOs (x : Qd.Job) (ver : Int) (l : List Int) : List Qd.Order := l.map fun n => ⟨n, { kind := 8, job := x.j.id, ver, credit := x.work }⟩
theorem save_eq {b : Qd.Brain} {id : Int} {x : Qd.Job} (h : ¬ (x.work = x.j.credit ∨ x.saving.isSome ∨ x.drops.isSome ∨ x.j.state ≠ 2)) {ver : Int} (hv : (x.ver + 1) % 4294967296 = ver) : b.save id x =
    { b.setJob id { x with ver, saving := some ⟨⟨x.j.id, ver, x.work, List.replicate x.at_.length []⟩, [], false⟩ } with orders := b.orders ++ saveOs x ver x.at_ } := by
  rw [Qd.Brain.save, if_neg h, hv]
  dsimp only
  have key : ∀ (l : List Int) (c : Qd.Brain), l.foldl (fun b n => b.order n { kind := 8, job := x.j.id, ver, credit := x.work }) c = { c with orders := c.orders ++ saveOs x ver l } := by
    intro l
    induction l with
    | nil => intro c; simp [saveOs]
    | cons n l ih =>
      intro c
      rw [List.foldl_cons, ih]
      simp [Qd.Brain.order, saveOs]
  rw [key]
  rfl
theorem saveOs_0 (x : Qd.Job) (ver : Int) (l : List Int) : saveOs x ver (l.take 0) = [] := rfl
theorem saveOs_snoc (x : Qd.Job) (ver : Int) {l : List Int} {i : Nat} {n : Int} (h : l[i]? = some n) : saveOs x ver (l.take (i + 1)) = saveOs x ver (l.take i) ++ [⟨n, { kind := 8, job := x.j.id, ver, credit := x.work }⟩] := by
  rw [List.take_add_one, h]; simp [saveOs]
theorem wrapu32 {x y : Int} (h : (x + 1) % 4294967296 = y) : IntKind.u32.wrap (x + 1) = y := by rw [wrap_u32]; exact h
theorem blobs_nil (n : Nat) : blobKb (List.replicate n (Sl.nilS, [])) = [] := by
  induction n with
  | zero => rfl
  | succ n ih => rw [List.replicate_succ]; simp only [blobKb, List.map_cons, rowsKb_cons] at ih ⊢; rw [ih]; rfl
theorem blobVals_nil (n : Nat) : blobVals (List.replicate n (Sl.nilS, [])) = List.replicate n (.slice none 0 0) := by simp [blobVals, Sl.nilS, Sl.val]
theorem ag_87 : aggB Tryz.prog 87 = some false := by kernel_rfl
theorem fb_35_3 : fieldB Tryz.prog 35 3 = some 3 := by kernel_rfl
theorem fb_84_8 : fieldB Tryz.prog 84 8 = some 11 := by kernel_rfl
theorem inf_22 : infoB Tryz.prog 22 = some (some (Go.Value.slice none 0 0), 1, 24) := by kernel_rfl
theorem pf_52 : plainFn Tryz.prog 52 = true := by kernel_rfl
theorem ps_131 : placesB Tryz.prog 131 = some #[(0, 4), (4, 1), (5, 1)] := by kernel_rfl
theorem ps_60 : placesB Tryz.prog 60 = some #[(0, 1), (1, 1), (2, 1), (3, 1)] := by kernel_rfl
theorem zf_131 : zeroB Tryz.prog 131 = some (Go.Value.agg #[Go.Value.int (Go.IntKind.u32) 0, Go.Value.int (Go.IntKind.u32) 0, Go.Value.int (Go.IntKind.i64) 0, Go.Value.slice none 0 0, Go.Value.map none, Go.Value.bool false]) := by kernel_rfl
theorem zf_60 : zeroB Tryz.prog 60 = some (Go.Value.agg #[Go.Value.int (Go.IntKind.u32) 0, Go.Value.int (Go.IntKind.u32) 0, Go.Value.int (Go.IntKind.i64) 0, Go.Value.slice none 0 0]) := by kernel_rfl
set_option maxHeartbeats 2000000 in
theorem s_finish [Bs] (y : BrA) (hy : y.Ok) (id : Int) (j : JobA) (hlk : Qd.lookA y.jobs id = some j) (hsz0 : y.sz + 17 ≤ BIG) : Spec Tryz.prog 39 [y.ptr, j.ptr] (y.kb) (fun v K' => v = .tuple #[] ∧ ∃ y', BTo y y' id (y.b.finish id j.x) 17 ∧ K' = y'.kb) := by
 obtain ⟨hjo, hji, hjk⟩ := hy.at hlk
 have hsz : y.sz + 17 ≤ BIG := hsz0
 unfold BrA.sz BIG at hsz
 have hdl : y.dsl.len = y.dn.length := by have := hy.dsl.vlen; simp [encU] at this; omega
 refine spec_body Tryz.func39 rfl rfl fun F R hR => ?_
 try simp only [NL]
 refine C_perm _ ?_ ((BrA.open_ hlk).append_right F)
 rw [opn_eq]
 try simp only [NL]
 refine C_seq ?_
 refine C_seq ?_
 refine C_draw (.cons 0 .pure (.cons 1 .pure (.cons 2 .pure (.cons 3 .pure (.cons 4 .read (.cons 5 .pure (.cons 6 .pure (.cons 7 .pure (.cons 8 .pure (.cons 9 .read (.cons 10 .pure (.cons 11 .pure (.cons 12 .pure (.cons 13 .pure (.cons 14 .pure (.cons 15 .read (.cons 16 .pure .nil))))))))))))))))) (fun w => Knows w _) 17 mo (by kernel_rfl) (fun _ h => h) ?_
 refine D_p rfl rfl rfl (q_move rfl) ?_
 refine D_p rfl rfl rfl (q_nilCheck rfl) ?_
 refine D_p rfl rfl rfl (q_fieldAddr fb_90_0 rfl rfl) ?_
 refine D_p rfl rfl rfl (q_fieldAddr fb_35_5 rfl rfl) ?_
 refine D_r rfl rfl rfl (q_load ag_3 rfl aP rfl) ?_
 refine D_p rfl rfl rfl (q_move rfl) ?_
 refine D_p rfl rfl rfl (q_nilCheck rfl) ?_
 refine D_p rfl rfl rfl (q_fieldAddr fb_90_0 rfl rfl) ?_
 refine D_p rfl rfl rfl (q_fieldAddr fb_35_3 rfl rfl) ?_
 refine D_r rfl rfl rfl (q_load ag_3 rfl aP rfl) ?_
 refine D_p rfl rfl rfl (q_int rfl rfl rfl) ?_
 refine D_p rfl rfl rfl (q_move rfl) ?_
 refine D_bool 15 _ rfl (fun ht15 => ?_) (fun ht15 => ?_)
 ·
  try simp only [CL] at ht15
  have hg : y.b = y.b.finish id j.x := by rw [Qd.Brain.finish, if_pos (.inl ht15)]; exact (setJob_same hlk).symm
  refine D_pskip rfl rfl rfl ?_
  refine D_pskip rfl rfl rfl ?_
  refine D_pskip rfl rfl rfl ?_
  refine D_rskip rfl rfl rfl ?_
  refine D_p rfl rfl rfl (q_pickT rfl rfl) ?_
  refine D_nil ?_
  refine N_seq ?_
  refine C_condT rfl ?_
  refine C_ret fun a w ha hk => ?_
  exact R_val (e := .ret) (.inl rfl) ha.defers (res0 rfl) (hR _ _ _ ⟨rfl, y, BTo.same hy 17 hg, rfl⟩ ((hk.take (T := opn y j (mapV JobA.ptr y.jobs) (mapKb JobA.kb (Qd.delA y.jobs id)) ++ F) (by (try simp only [opn_eq]); exact aT)).perm ((BrA.open_ hlk).symm.append_right F)))
 ·
  try simp only [CL] at ht15
  refine D_p rfl rfl rfl (q_move rfl) ?_
  refine D_p rfl rfl rfl (q_nilCheck rfl) ?_
  refine D_p rfl rfl rfl (q_fieldAddr fb_90_10 rfl rfl) ?_
  refine D_r rfl rfl rfl (q_load ag_4 rfl aP rfl) ?_
  refine D_p rfl rfl rfl (q_pickF rfl rfl) ?_
  refine D_nil ?_
  refine N_seq ?_
  refine C_cond rfl (fun ht20 => ?_) (fun ht20 => ?_)
  ·
   try simp only [CL] at ht20
   have hg : y.b = y.b.finish id j.x := by rw [Qd.Brain.finish, if_pos (.inr ht20)]; exact (setJob_same hlk).symm
   refine C_ret fun a w ha hk => ?_
   exact R_val (e := .ret) (.inl rfl) ha.defers (res0 rfl) (hR _ _ _ ⟨rfl, y, BTo.same hy 17 hg, rfl⟩ ((hk.take (T := opn y j (mapV JobA.ptr y.jobs) (mapKb JobA.kb (Qd.delA y.jobs id)) ++ F) (by (try simp only [opn_eq]); exact aT)).perm ((BrA.open_ hlk).symm.append_right F)))
  ·
   try simp only [CL] at ht20
   have hg : y.b.finish id j.x = Qd.Brain.drop { y.b with done := y.b.done ++ [j.x.j.id] } id { j.x with done := true } false := by rw [Qd.Brain.finish, if_neg (by simp [ht15, ht20])]
   refine C_skip ?_
   refine N_seq ?_
   refine C_seq ?_
   refine C_region ?_
   refine wm (i := 0) rfl rfl rfl rfl ?_
   refine wc (i := 1) rfl rfl rfl rfl ?_
   refine W_q (i := 2) rfl rfl rfl (q_fieldAddr fb_90_10 rfl rfl) ?_
   refine W_e (i := 3) rfl rfl rfl (e_store sz_4 rfl rfl rfl aU (by first | decide | exact Nat.le_of_ble_eq_true rfl | simp [splice, Value.cells])) ?_
   intro _
   refine W_nil ?_
   refine N_seq ?_
   refine C_seq ?_
   simp only [BrA.dsK]
   refine C_draw (.cons 0 .pure (.cons 1 .pure (.cons 2 .pure (.cons 3 .pure (.cons 4 .read (.cons 5 .pure (.cons 6 .pure (.cons 7 .pure (.cons 8 .pure (.cons 9 .read (.cons 10 .eff (.cons 11 .eff (.cons 12 .pure (.cons 13 .pure (.cons 14 .eff .nil))))))))))))))) (fun w => Knows w _) 11 mo (by kernel_rfl) (fun _ h => h) ?_
   refine D_p rfl rfl rfl (q_move rfl) ?_
   refine D_p rfl rfl rfl (q_move rfl) ?_
   refine D_p rfl rfl rfl (q_nilCheck rfl) ?_
   refine D_p rfl rfl rfl (q_fieldAddr fb_84_8 rfl rfl) ?_
   refine D_r rfl rfl rfl (q_load ag_53 rfl aP rfl) ?_
   refine D_p rfl rfl rfl (q_move rfl) ?_
   refine D_p rfl rfl rfl (q_nilCheck rfl) ?_
   refine D_p rfl rfl rfl (q_fieldAddr fb_90_0 rfl rfl) ?_
   refine D_p rfl rfl rfl (q_fieldAddr fb_35_0 rfl rfl) ?_
   refine D_r rfl rfl rfl (q_load ag_31 rfl aP rfl) ?_
   refine D_e rfl rfl rfl (e_lit1 Tryz.underlying53 sz_31 zf_31 (by decide) rfl rfl) (.inr (fun _ _ h => h.take aT)) ?_
   intro b34
   refine D_e rfl rfl rfl (e_app1 (us := [.int .u32 j.x.j.id]) (vs' := encU (y.dn ++ [j.x.j.id])) Tryz.underlying53 inf_31 rfl rfl rfl rfl aP aC hy.dsl (by omega) (by omega) rfl rfl (encU_snoc _ _)) (.inl rfl) ?_
   rintro ⟨sl', hsl', hok'⟩
   refine D_p rfl rfl rfl (q_nilCheck rfl) ?_
   refine D_p rfl rfl rfl (q_fieldAddr fb_84_8 rfl rfl) ?_
   refine D_e rfl rfl rfl (e_store sz_53 rfl rfl rfl aU (by first | decide | exact Nat.le_of_ble_eq_true rfl | simp [splice, Value.cells])) (.inl rfl) ?_
   intro _
   refine D_nil ?_
   refine N_seq ?_
   refine C_to (opn ((y.dna (y.dn ++ [j.x.j.id]) sl').set id (doneJob j)) (doneJob j) (mapV JobA.ptr y.jobs) (mapKb JobA.kb (Qd.delA y.jobs id)) ++ F) (by (try simp only [opn_eq, BrA.set, BrA.osK, BrA.isK, BrA.dsK, BrA.msK, BrA.dna, doneJob]); exact aT) ?_
   refine C_perm _ ?_ ((BrA.close_ (y := (y.dna (y.dn ++ [j.x.j.id]) sl').set id (doneJob j)) (id := id) (a := (doneJob j)) BrA.set_look (BrA.set_pm (y := (y.dna (y.dn ++ [j.x.j.id]) sl')) (a' := (doneJob j)) hlk rfl) (BrA.set_js (y := (y.dna (y.dn ++ [j.x.j.id]) sl')) (a' := (doneJob j)) hlk)).append_right F)
   refine C_region ?_
   refine wm (i := 0) rfl rfl rfl rfl ?_
   refine wm (i := 1) rfl rfl rfl rfl ?_
   refine W_call (i := 2) rfl rfl rfl rfl rfl rfl pf_52 (s_drop ((y.dna (y.dn ++ [j.x.j.id]) sl').set id (doneJob j)) ((hy.dna hok').set (y := y.dna (y.dn ++ [j.x.j.id]) sl') hlk (doneJob_ok hjo) hji rfl) id (doneJob j) BrA.set_look false (by simp [BrA.sz, BrA.set, BrA.dna, BIG]; omega)) aC ?_
   rintro _ _ ⟨rfl, y', hto, rfl⟩
   refine W_nil ?_
   intro a w ha hk
   exact R_val (e := .normal) (.inr rfl) ha.defers (res0 rfl) (hR _ _ _ ⟨rfl, y', hto.of_set (y1 := y.dna (y.dn ++ [j.x.j.id]) sl') hlk (by rw [hg, BrA.set_b]; exact drop_set (x := (doneJob j).x) (BrA.look_mj (y := y.dna (y.dn ++ [j.x.j.id]) sl') hlk) hji) rfl (by simp [BrA.sz, BrA.dna]; omega) rfl, rfl⟩ hk)
set_option maxHeartbeats 2000000 in
theorem s_save [Bs] (y : BrA) (hy : y.Ok) (id : Int) (j : JobA) (hlk : Qd.lookA y.jobs id = some j) (hsz0 : y.sz + 16 ≤ BIG) : Spec Tryz.prog 87 [y.ptr, j.ptr] (y.kb) (fun v K' => v = .tuple #[] ∧ ∃ y', BTo y y' id (y.b.save id j.x) 16 ∧ K' = y'.kb) := by
 obtain ⟨hjo, hji, hjk⟩ := hy.at hlk
 have hsz : y.sz + 16 ≤ BIG := hsz0
 unfold BrA.sz BIG at hsz
 have h16 := hjo.a16
 have hal : j.at_.len = j.x.at_.length := by have := hjo.at_.vlen; simp [encI] at this; omega
 have hjs := hjo.sv
 have hjd := hjo.dr
 obtain ⟨ver, hver⟩ : ∃ ver, (j.x.ver + 1) % 4294967296 = ver := ⟨_, rfl⟩
 refine spec_body Tryz.func87 rfl rfl fun F R hR => ?_
 try simp only [NL]
 refine C_perm _ ?_ ((BrA.open_ hlk).append_right F)
 rw [opn_eq]
 try simp only [NL]
 refine C_seq ?_
 refine C_seq ?_
 refine C_draw (.cons 0 .pure (.cons 1 .pure (.cons 2 .pure (.cons 3 .read (.cons 4 .pure (.cons 5 .pure (.cons 6 .pure (.cons 7 .pure (.cons 8 .read (.cons 9 .pure (.cons 10 .pure (.cons 11 .pure (.cons 12 .pure (.cons 13 .pure (.cons 14 .read (.cons 15 .pure (.cons 16 .pure (.cons 17 .pure (.cons 18 .pure (.cons 19 .pure (.cons 20 .pure (.cons 21 .read (.cons 22 .pure (.cons 23 .pure (.cons 24 .pure (.cons 25 .pure (.cons 26 .pure (.cons 27 .pure (.cons 28 .pure (.cons 29 .read (.cons 30 .pure (.cons 31 .pure .nil)))))))))))))))))))))))))))))))) (fun w => Knows w _) 32 mo (by kernel_rfl) (fun _ h => h) ?_
 refine D_p rfl rfl rfl (q_move rfl) ?_
 refine D_p rfl rfl rfl (q_nilCheck rfl) ?_
 refine D_p rfl rfl rfl (q_fieldAddr fb_90_3 rfl rfl) ?_
 refine D_r rfl rfl rfl (q_load ag_3 rfl aP rfl) ?_
 refine D_p rfl rfl rfl (q_move rfl) ?_
 refine D_p rfl rfl rfl (q_nilCheck rfl) ?_
 refine D_p rfl rfl rfl (q_fieldAddr fb_90_0 rfl rfl) ?_
 refine D_p rfl rfl rfl (q_fieldAddr fb_35_5 rfl rfl) ?_
 refine D_r rfl rfl rfl (q_load ag_3 rfl aP rfl) ?_
 refine D_p rfl rfl rfl (q_int rfl rfl rfl) ?_
 refine D_p rfl rfl rfl (q_move rfl) ?_
 refine D_bool 16 _ rfl (fun ht16 => ?_) (fun ht16 => ?_)
 ·
  try simp only [CL] at ht16
  have hg : y.b = y.b.save id j.x := by rw [Qd.Brain.save, if_pos (by exact .inl ht16)]; exact (setJob_same hlk).symm
  refine D_pskip rfl rfl rfl ?_
  refine D_pskip rfl rfl rfl ?_
  refine D_pskip rfl rfl rfl ?_
  refine D_rskip rfl rfl rfl ?_
  refine D_pskip rfl rfl rfl ?_
  refine D_p rfl rfl rfl (q_pickT rfl rfl) ?_
  refine D_p rfl rfl rfl (q_move rfl) ?_
  refine D_pskip rfl rfl rfl ?_
  refine D_pskip rfl rfl rfl ?_
  refine D_pskip rfl rfl rfl ?_
  refine D_rskip rfl rfl rfl ?_
  refine D_pskip rfl rfl rfl ?_
  refine D_p rfl rfl rfl (q_pickT rfl rfl) ?_
  refine D_p rfl rfl rfl (q_move rfl) ?_
  refine D_pskip rfl rfl rfl ?_
  refine D_pskip rfl rfl rfl ?_
  refine D_pskip rfl rfl rfl ?_
  refine D_pskip rfl rfl rfl ?_
  refine D_rskip rfl rfl rfl ?_
  refine D_pskip rfl rfl rfl ?_
  refine D_p rfl rfl rfl (q_pickT rfl rfl) ?_
  refine D_nil ?_
  refine N_seq ?_
  refine C_condT rfl ?_
  refine C_ret fun a w ha hk => ?_
  exact R_val (e := .ret) (.inl rfl) ha.defers (res0 rfl) (hR _ _ _ ⟨rfl, y, BTo.same hy 16 hg, rfl⟩ ((hk.take (T := opn y j (mapV JobA.ptr y.jobs) (mapKb JobA.kb (Qd.delA y.jobs id)) ++ F) (by (try simp only [opn_eq]); exact aT)).perm ((BrA.open_ hlk).symm.append_right F)))
 ·
  try simp only [CL] at ht16
  refine D_p rfl rfl rfl (q_move rfl) ?_
  refine D_p rfl rfl rfl (q_nilCheck rfl) ?_
  refine D_p rfl rfl rfl (q_fieldAddr fb_90_5 rfl rfl) ?_
  refine D_r rfl rfl rfl (q_load ag_87 rfl aP rfl) ?_
  refine D_p rfl rfl rfl (q_neSv Tryz.underlying87 rfl rfl) ?_
  refine D_p rfl rfl rfl (q_pickF rfl rfl) ?_
  refine D_p rfl rfl rfl (q_move rfl) ?_
  refine D_bool 23 _ rfl (fun ht23 => ?_) (fun ht23 => ?_)
  ·
   try simp only [CL] at ht23
   have hg : y.b = y.b.save id j.x := by rw [Qd.Brain.save, if_pos (by rw [hjs]; exact .inr (.inl (by simpa using ht23)))]; exact (setJob_same hlk).symm
   refine D_pskip rfl rfl rfl ?_
   refine D_pskip rfl rfl rfl ?_
   refine D_pskip rfl rfl rfl ?_
   refine D_rskip rfl rfl rfl ?_
   refine D_pskip rfl rfl rfl ?_
   refine D_p rfl rfl rfl (q_pickT rfl rfl) ?_
   refine D_p rfl rfl rfl (q_move rfl) ?_
   refine D_pskip rfl rfl rfl ?_
   refine D_pskip rfl rfl rfl ?_
   refine D_pskip rfl rfl rfl ?_
   refine D_pskip rfl rfl rfl ?_
   refine D_rskip rfl rfl rfl ?_
   refine D_pskip rfl rfl rfl ?_
   refine D_p rfl rfl rfl (q_pickT rfl rfl) ?_
   refine D_nil ?_
   refine N_seq ?_
   refine C_condT rfl ?_
   refine C_ret fun a w ha hk => ?_
   exact R_val (e := .ret) (.inl rfl) ha.defers (res0 rfl) (hR _ _ _ ⟨rfl, y, BTo.same hy 16 hg, rfl⟩ ((hk.take (T := opn y j (mapV JobA.ptr y.jobs) (mapKb JobA.kb (Qd.delA y.jobs id)) ++ F) (by (try simp only [opn_eq]); exact aT)).perm ((BrA.open_ hlk).symm.append_right F)))
  ·
   try simp only [CL] at ht23
   have hsn : j.sv = none := by simpa using ht23
   refine D_p rfl rfl rfl (q_move rfl) ?_
   refine D_p rfl rfl rfl (q_nilCheck rfl) ?_
   refine D_p rfl rfl rfl (q_fieldAddr fb_90_8 rfl rfl) ?_
   refine D_r rfl rfl rfl (q_load ag_81 rfl aP rfl) ?_
   refine D_p rfl rfl rfl (q_neMapNil Tryz.underlying81 rfl rfl) ?_
   refine D_p rfl rfl rfl (q_pickF rfl rfl) ?_
   refine D_p rfl rfl rfl (q_move rfl) ?_
   refine D_bool 30 _ rfl (fun ht30 => ?_) (fun ht30 => ?_)
   ·
    try simp only [CL] at ht30
    have hg : y.b = y.b.save id j.x := by rw [Qd.Brain.save, if_pos (by exact .inr (.inr (.inl (by rw [hjd]; simpa using ht30))))]; exact (setJob_same hlk).symm
    refine D_pskip rfl rfl rfl ?_
    refine D_pskip rfl rfl rfl ?_
    refine D_pskip rfl rfl rfl ?_
    refine D_pskip rfl rfl rfl ?_
    refine D_rskip rfl rfl rfl ?_
    refine D_pskip rfl rfl rfl ?_
    refine D_p rfl rfl rfl (q_pickT rfl rfl) ?_
    refine D_nil ?_
    refine N_seq ?_
    refine C_condT rfl ?_
    refine C_ret fun a w ha hk => ?_
    exact R_val (e := .ret) (.inl rfl) ha.defers (res0 rfl) (hR _ _ _ ⟨rfl, y, BTo.same hy 16 hg, rfl⟩ ((hk.take (T := opn y j (mapV JobA.ptr y.jobs) (mapKb JobA.kb (Qd.delA y.jobs id)) ++ F) (by (try simp only [opn_eq]); exact aT)).perm ((BrA.open_ hlk).symm.append_right F)))
   ·
    try simp only [CL] at ht30
    have hdn : j.dr = none := by simpa using ht30
    have hdd : j.x.drops = none := by rw [hdn] at hjd; simpa using hjd
    refine D_p rfl rfl rfl (q_move rfl) ?_
    refine D_p rfl rfl rfl (q_nilCheck rfl) ?_
    refine D_p rfl rfl rfl (q_fieldAddr fb_90_0 rfl rfl) ?_
    refine D_p rfl rfl rfl (q_fieldAddr fb_35_4 rfl rfl) ?_
    refine D_r rfl rfl rfl (q_load ag_5 rfl aP rfl) ?_
    refine D_p rfl rfl rfl (q_int rfl rfl rfl) ?_
    refine D_p rfl rfl rfl (q_pickF rfl rfl) ?_
    refine D_nil ?_
    refine N_seq ?_
    refine C_cond rfl (fun ht37 => ?_) (fun ht37 => ?_)
    ·
     try simp only [CL] at ht37
     have hg : y.b = y.b.save id j.x := by rw [Qd.Brain.save, if_pos (by exact .inr (.inr (.inr ht37)))]; exact (setJob_same hlk).symm
     refine C_ret fun a w ha hk => ?_
     exact R_val (e := .ret) (.inl rfl) ha.defers (res0 rfl) (hR _ _ _ ⟨rfl, y, BTo.same hy 16 hg, rfl⟩ ((hk.take (T := opn y j (mapV JobA.ptr y.jobs) (mapKb JobA.kb (Qd.delA y.jobs id)) ++ F) (by (try simp only [opn_eq]); exact aT)).perm ((BrA.open_ hlk).symm.append_right F)))
    ·
     try simp only [CL] at ht37
     have hg := save_eq (b := y.b) (id := id) (x := j.x) (by rw [hjs, hsn, hdd]; simp [ht16, ht37]) hver
     rw [hsn]
     simp only [svKb_none, List.nil_append]
     refine C_skip ?_
     refine N_seq ?_
     refine C_seq ?_
     refine C_region ?_
     refine wm (i := 0) rfl rfl rfl rfl ?_
     refine wc (i := 1) rfl rfl rfl rfl ?_
     refine W_q (i := 2) rfl rfl rfl (q_fieldAddr fb_90_4 rfl rfl) ?_
     refine W_q (i := 3) rfl rfl rfl (q_load ag_31 rfl aP rfl) ?_
     refine W_q (i := 4) rfl rfl rfl (q_add rfl rfl (wrapu32 hver)) ?_
     refine wc (i := 5) rfl rfl rfl rfl ?_
     refine W_q (i := 6) rfl rfl rfl (q_fieldAddr fb_90_4 rfl rfl) ?_
     refine W_e (i := 7) rfl rfl rfl (e_store sz_31 rfl rfl rfl aU (by first | decide | exact Nat.le_of_ble_eq_true rfl | simp [splice, Value.cells])) ?_
     intro _
     refine W_nil ?_
     refine N_seq ?_
     refine C_seq ?_
     refine C_draw (.cons 0 .pure (.cons 1 .pure (.cons 2 .pure (.cons 3 .pure (.cons 4 .pure (.cons 5 .read (.cons 6 .pure (.cons 7 .pure (.cons 8 .pure (.cons 9 .read (.cons 10 .pure (.cons 11 .pure (.cons 12 .pure (.cons 13 .read (.cons 14 .pure (.cons 15 .pure (.cons 16 .pure (.cons 17 .read (.cons 18 .read (.fork 19 21 (.cons 20 .pure (.cons 21 .eff (.cons 22 .pure (.cons 23 .eff (.cons 24 .pure (.cons 25 .pure (.cons 26 .eff .nil))))))) (.cons 19 .eff (.cons 20 .pure (.cons 22 .pure (.cons 23 .eff (.cons 24 .pure (.cons 25 .pure (.cons 26 .eff .nil))))))))))))))))))))))))))) (fun w => Knows w _) 23 mo (by kernel_rfl) (fun _ h => h) ?_
     refine D_p rfl rfl rfl (q_move rfl) ?_
     refine D_p rfl rfl rfl (q_move rfl) ?_
     refine D_p rfl rfl rfl (q_nilCheck rfl) ?_
     refine D_p rfl rfl rfl (q_fieldAddr fb_90_0 rfl rfl) ?_
     refine D_p rfl rfl rfl (q_fieldAddr fb_35_0 rfl rfl) ?_
     refine D_r rfl rfl rfl (q_load ag_31 rfl aP rfl) ?_
     refine D_p rfl rfl rfl (q_move rfl) ?_
     refine D_p rfl rfl rfl (q_nilCheck rfl) ?_
     refine D_p rfl rfl rfl (q_fieldAddr fb_90_4 rfl rfl) ?_
     refine D_r rfl rfl rfl (q_load ag_31 rfl aP rfl) ?_
     refine D_p rfl rfl rfl (q_move rfl) ?_
     refine D_p rfl rfl rfl (q_nilCheck rfl) ?_
     refine D_p rfl rfl rfl (q_fieldAddr fb_90_3 rfl rfl) ?_
     refine D_r rfl rfl rfl (q_load ag_3 rfl aP rfl) ?_
     refine D_p rfl rfl rfl (q_move rfl) ?_
     refine D_p rfl rfl rfl (q_nilCheck rfl) ?_
     refine D_p rfl rfl rfl (q_fieldAddr fb_90_1 rfl rfl) ?_
     refine D_r rfl rfl rfl (q_load ag_66 rfl aP rfl) ?_
     refine D_r rfl rfl rfl (q_lenSl Tryz.underlying66 rfl rfl) ?_
     refine D_fork ?_ ?_
     ·
      refine D_e rfl rfl rfl (e_mkSl1 Tryz.underlying58 inf_22 rfl rfl rfl (by omega) (by omega) (by omega)) (.inr (fun _ _ h => h.take aT)) ?_
      intro b64
      rw [Int.toNat_natCast, hal]
      refine D_lit (l := j.x.at_.length) (sz := 1) .here (by simp) ?_
      refine D_p rfl rfl rfl (q_build (vs := [(0, .int .u32 j.x.j.id), (1, .int .u32 ver), (2, .int .i64 j.x.work), (3, .slice (some ⟨b64, 0, none⟩) j.x.at_.length j.x.at_.length)]) (cs := #[.int .u32 j.x.j.id, .int .u32 ver, .int .i64 j.x.work, .slice (some ⟨b64, 0, none⟩) j.x.at_.length j.x.at_.length]) ps_60 zf_60 rfl (by simp [Instr.fill, Value.cells])) ?_
      refine D_e rfl rfl rfl (e_makeMap .i64) (.inr (fun _ _ h => h.take aT)) ?_
      intro b66
      refine D_p rfl rfl rfl (q_build (vs := [(0, .agg #[.int .u32 j.x.j.id, .int .u32 ver, .int .i64 j.x.work, .slice (some ⟨b64, 0, none⟩) j.x.at_.length j.x.at_.length]), (1, .map (some b66))]) (cs := #[.int .u32 j.x.j.id, .int .u32 ver, .int .i64 j.x.work, .slice (some ⟨b64, 0, none⟩) j.x.at_.length j.x.at_.length, .map (some b66), .bool false]) ps_131 zf_131 rfl (by simp [Instr.fill, Value.cells])) ?_
      refine D_e rfl rfl rfl (e_box rfl) (.inl rfl) ?_
      intro b68
      refine D_p rfl rfl rfl (q_nilCheck rfl) ?_
      refine D_p rfl rfl rfl (q_fieldAddr fb_90_5 rfl rfl) ?_
      refine D_e rfl rfl rfl (e_store sz_87 rfl rfl rfl aU (by first | decide | exact Nat.le_of_ble_eq_true rfl | simp [splice, Value.cells])) (.inl rfl) ?_
      intro _
      refine D_nil ?_
      refine N_seq ?_
      refine C_seq ?_
      refine C_region ?_
      refine wm (i := 0) rfl rfl rfl rfl ?_
      refine wc (i := 1) rfl rfl rfl rfl ?_
      refine W_q (i := 2) rfl rfl rfl (q_fieldAddr fb_90_1 rfl rfl) ?_
      refine W_q (i := 3) rfl rfl rfl (q_load ag_66 rfl aP rfl) ?_
      refine W_q (i := 4) rfl rfl rfl (q_lenSl Tryz.underlying66 rfl rfl) ?_
      refine wm (i := 5) rfl rfl rfl rfl ?_
      refine W_nil ?_
      refine N_seq ?_
      refine C_block ?_
      refine C_loopT (ι := { q : Nat × Sl // q.1 ≤ j.x.at_.length ∧ q.2.Ok (flat orderV (y.os ++ saveOs j.x ver (j.x.at_.take q.1))) 14 }) (fun q => [(0, y.ptr), (1, j.ptr), (74, j.at_.val), (75, .int .i64 (j.at_.len : Int)), (76, .int .i64 (q.1.1 : Int))]) (fun q => opn (y.osa (y.os ++ saveOs j.x ver (j.x.at_.take q.1.1)) q.1.2) (saveJob j ver (SavA.mk ⟨⟨j.x.j.id, ver, j.x.work, List.replicate j.x.at_.length []⟩, [], false⟩ b68 ⟨some (b64, 0), j.x.at_.length, j.x.at_.length⟩ (List.replicate j.x.at_.length (Sl.nilS, [])) b66)) (mapV JobA.ptr y.jobs) (mapKb JobA.kb (Qd.delA y.jobs id)) ++ F) (fun q => j.x.at_.length - q.1.1) ⟨(0, y.osl), Nat.zero_le _, by simpa [saveOs] using hy.osl⟩ aS (by (try simp only [opn_eq, BrA.osa, saveJob, svKb, SavA.kb, SavA.im, ImA.own, blobs_nil, blobVals_nil, saveOs_0, Bool.false_eq_true, if_false, BrA.osK, BrA.isK, BrA.dsK, BrA.msK]); exact aT) ?_
      rintro ⟨⟨i, osl⟩, hi, hoo⟩
      dsimp only at hi hoo ⊢
      obtain ⟨os, hos⟩ : ∃ os, y.os ++ saveOs j.x ver (j.x.at_.take i) = os := ⟨_, rfl⟩
      rw [hos] at hoo ⊢
      have hol : os.length = y.os.length + i := by rw [← hos]; simp [saveOs]; omega
      refine C_to ((y.blk, Cells (y.osa os osl).cells 84) :: (j.blk, Cells (saveJob j ver (SavA.mk ⟨⟨j.x.j.id, ver, j.x.work, List.replicate j.x.at_.length []⟩, [], false⟩ b68 ⟨some (b64, 0), j.x.at_.length, j.x.at_.length⟩ (List.replicate j.x.at_.length (Sl.nilS, [])) b66)).cells 90) :: (j.at_.kb (encI j.x.at_) 1 3 ++ (osl.kb (flat orderV os) 14 97 ++ ((y.up, SetB y.ups) :: (y.jb, MapI .u32 (mapV JobA.ptr y.jobs)) :: (setKb j.ld j.x.loaded ++ ((SavA.mk ⟨⟨j.x.j.id, ver, j.x.work, List.replicate j.x.at_.length []⟩, [], false⟩ b68 ⟨some (b64, 0), j.x.at_.length, j.x.at_.length⟩ (List.replicate j.x.at_.length (Sl.nilS, [])) b66).kb ++ (setKb j.dr (j.x.drops.getD []) ++ (ranKb j.rn (j.x.ran.getD []) ++ (y.mx.kb ++ (y.isK ++ (y.dsK ++ (y.msK ++ (stKb y.st ++ ((mapKb JobA.kb (Qd.delA y.jobs id)) ++ F)))))))))))))) (by (try simp only [opn_eq, BrA.osa, saveJob, svKb, BrA.osK, BrA.isK, BrA.dsK, BrA.msK]); exact aT) ?_
      refine C_seq ?_
      refine C_region ?_
      refine W_q (i := 0) rfl rfl rfl (q_int rfl rfl rfl) ?_
      refine W_nil ?_
      refine N_seq ?_
      refine C_seq ?_
      refine C_cond rfl (fun ht77 => ?_) (fun ht77 => ?_)
      ·
       try simp only [CL] at ht77
       have hil : i < j.x.at_.length := by omega
       obtain ⟨n, hn⟩ : ∃ n, j.x.at_[i]? = some n := ⟨_, List.getElem?_eq_getElem hil⟩
       refine C_skip ?_
       refine N_seq ?_
       refine C_seq ?_
       refine C_block ?_
       refine C_seq ?_
       refine C_region ?_
       refine W_q (i := 0) rfl rfl rfl (q_idxSl Tryz.underlying66 sz_3 hjo.at_ rfl rfl (Int.natCast_nonneg _) (by omega) rfl) ?_
       refine W_q (i := 1) rfl rfl rfl (q_loadSl (i := i) (v := .int .i64 n) ag_3 rfl hjo.at_ aC (by simp) (by simp [encI, hn])) ?_
       refine wa (i := 2) rfl rfl rfl rfl ?_
       refine W_nil ?_
       refine N_seq ?_
       refine C_draw (.cons 0 .pure (.cons 1 .pure (.cons 2 .pure (.cons 3 .pure (.cons 4 .pure (.cons 5 .pure (.cons 6 .read (.cons 7 .pure (.cons 8 .pure (.cons 9 .pure (.cons 10 .read (.cons 11 .pure (.cons 12 .pure (.cons 13 .pure (.cons 14 .read (.cons 15 .pure (.cons 16 .eff .nil))))))))))))))))) (fun w => Knows w _) 16 mo (by kernel_rfl) (fun _ h => h) ?_
       refine D_p rfl rfl rfl (q_move rfl) ?_
       refine D_p rfl rfl rfl (q_move rfl) ?_
       refine D_p rfl rfl rfl (q_move rfl) ?_
       refine D_p rfl rfl rfl (q_nilCheck rfl) ?_
       refine D_p rfl rfl rfl (q_fieldAddr fb_90_0 rfl rfl) ?_
       refine D_p rfl rfl rfl (q_fieldAddr fb_35_0 rfl rfl) ?_
       refine D_r rfl rfl rfl (q_load ag_31 rfl aP rfl) ?_
       refine D_p rfl rfl rfl (q_move rfl) ?_
       refine D_p rfl rfl rfl (q_nilCheck rfl) ?_
       refine D_p rfl rfl rfl (q_fieldAddr fb_90_4 rfl rfl) ?_
       refine D_r rfl rfl rfl (q_load ag_31 rfl aP rfl) ?_
       refine D_p rfl rfl rfl (q_move rfl) ?_
       refine D_p rfl rfl rfl (q_nilCheck rfl) ?_
       refine D_p rfl rfl rfl (q_fieldAddr fb_90_3 rfl rfl) ?_
       refine D_r rfl rfl rfl (q_load ag_3 rfl aP rfl) ?_
       refine D_p rfl rfl rfl (q_build (vs := [(0, .int .u8 8), (6, .int .u32 j.x.j.id), (7, .int .u32 ver), (9, .int .i64 j.x.work)]) (cs := (noteO { kind := 8, job := j.x.j.id, ver, credit := j.x.work }).toArray) ps_72 zf_72 rfl (by simp [Instr.fill, Value.cells, noteO, noteV])) ?_
       refine D_call rfl rfl rfl rfl rfl rfl pf_74 (s_order y.blk (y.osa os osl).cells osl os hoo rfl (by omega) n { kind := 8, job := j.x.j.id, ver, credit := j.x.work }) (tk_cons1 (by repeat (first | exact tk_one | apply tk_app | apply tk_cons)) aC) (.inl rfl) ?_
       rintro _ _ ⟨rfl, osl', hoo', rfl⟩
       try simp only [NL]
       refine D_nil ?_
       refine N_seq ?_
       refine C_region ?_
       refine W_q (i := 0) rfl rfl rfl (q_add rfl rfl (succ64 (by omega))) ?_
       refine wm (i := 1) rfl rfl rfl rfl ?_
       refine W_nil ?_
       exact fun a w ha hk => ⟨⟨(i + 1, osl'), by dsimp only; omega, by dsimp only; rw [saveOs_snoc _ _ hn, ← List.append_assoc, hos]; exact hoo'⟩, by dsimp only; omega, ha.sub aS, by dsimp only; rw [saveOs_snoc _ _ hn, ← List.append_assoc, hos]; exact hk.take (by (try simp only [opn_eq, BrA.osa, saveJob, svKb, BrA.osK, BrA.isK, BrA.dsK, BrA.msK]); exact aT)⟩
      ·
       try simp only [CL] at ht77
       have hil : i = j.x.at_.length := by omega
       subst hil
       rw [List.take_length] at hos
       refine C_exit ?_
       intro a w ha hk
       exact R_val (e := .normal) (.inr rfl) ha.defers (res0 rfl) (hR _ _ _ ⟨rfl, (y.osa os osl).set id (saveJob j ver (SavA.mk ⟨⟨j.x.j.id, ver, j.x.work, List.replicate j.x.at_.length []⟩, [], false⟩ b68 ⟨some (b64, 0), j.x.at_.length, j.x.at_.length⟩ (List.replicate j.x.at_.length (Sl.nilS, [])) b66)), ⟨(hy.osa hoo).set (y := y.osa os osl) hlk (saveJob_ok hjo (fun _ => ⟨by simp [SavA.im, blobVals_nil, Sl.ok_lit], by intro r hr; simp [SavA.im] at hr; rw [hr.2]; exact Sl.nil_ok 1, by simp [SavA.im]⟩) rfl (fun _ => by simp)) hji rfl, by rw [hg, BrA.set_b, ← hos]; rfl, rfl, by simp only [BrA.sz, BrA.set, BrA.osa]; omega, len_set (y := y.osa os osl) hlk, oth_set (y := y.osa os osl)⟩, rfl⟩ ((hk.take (T := opn ((y.osa os osl).set id (saveJob j ver (SavA.mk ⟨⟨j.x.j.id, ver, j.x.work, List.replicate j.x.at_.length []⟩, [], false⟩ b68 ⟨some (b64, 0), j.x.at_.length, j.x.at_.length⟩ (List.replicate j.x.at_.length (Sl.nilS, [])) b66))) (saveJob j ver (SavA.mk ⟨⟨j.x.j.id, ver, j.x.work, List.replicate j.x.at_.length []⟩, [], false⟩ b68 ⟨some (b64, 0), j.x.at_.length, j.x.at_.length⟩ (List.replicate j.x.at_.length (Sl.nilS, [])) b66)) (mapV JobA.ptr y.jobs) (mapKb JobA.kb (Qd.delA y.jobs id)) ++ F) (by (try simp only [opn_eq, BrA.set, BrA.osK, BrA.isK, BrA.dsK, BrA.msK, BrA.osa, saveJob, svKb]); exact aT)).perm ((BrA.close_ (y := (y.osa os osl).set id (saveJob j ver (SavA.mk ⟨⟨j.x.j.id, ver, j.x.work, List.replicate j.x.at_.length []⟩, [], false⟩ b68 ⟨some (b64, 0), j.x.at_.length, j.x.at_.length⟩ (List.replicate j.x.at_.length (Sl.nilS, [])) b66))) (id := id) (a := (saveJob j ver (SavA.mk ⟨⟨j.x.j.id, ver, j.x.work, List.replicate j.x.at_.length []⟩, [], false⟩ b68 ⟨some (b64, 0), j.x.at_.length, j.x.at_.length⟩ (List.replicate j.x.at_.length (Sl.nilS, [])) b66))) BrA.set_look (BrA.set_pm (y := (y.osa os osl)) (a' := (saveJob j ver (SavA.mk ⟨⟨j.x.j.id, ver, j.x.work, List.replicate j.x.at_.length []⟩, [], false⟩ b68 ⟨some (b64, 0), j.x.at_.length, j.x.at_.length⟩ (List.replicate j.x.at_.length (Sl.nilS, [])) b66))) hlk rfl) (BrA.set_js (y := (y.osa os osl)) (a' := (saveJob j ver (SavA.mk ⟨⟨j.x.j.id, ver, j.x.work, List.replicate j.x.at_.length []⟩, [], false⟩ b68 ⟨some (b64, 0), j.x.at_.length, j.x.at_.length⟩ (List.replicate j.x.at_.length (Sl.nilS, [])) b66))) hlk)).append_right F)))
     ·
      refine D_e rfl rfl rfl (e_makeMap .i64) (.inr (fun _ _ h => h.take aT)) ?_
      intro b66
      refine D_e rfl rfl rfl (e_mkSl1 Tryz.underlying58 inf_22 rfl rfl rfl (by omega) (by omega) (by omega)) (.inr (fun _ _ h => h.take aT)) ?_
      intro b64
      rw [Int.toNat_natCast, hal]
      refine D_lit (l := j.x.at_.length) (sz := 1) .here (by simp) ?_
      refine D_p rfl rfl rfl (q_build (vs := [(0, .int .u32 j.x.j.id), (1, .int .u32 ver), (2, .int .i64 j.x.work), (3, .slice (some ⟨b64, 0, none⟩) j.x.at_.length j.x.at_.length)]) (cs := #[.int .u32 j.x.j.id, .int .u32 ver, .int .i64 j.x.work, .slice (some ⟨b64, 0, none⟩) j.x.at_.length j.x.at_.length]) ps_60 zf_60 rfl (by simp [Instr.fill, Value.cells])) ?_
      refine D_p rfl rfl rfl (q_build (vs := [(0, .agg #[.int .u32 j.x.j.id, .int .u32 ver, .int .i64 j.x.work, .slice (some ⟨b64, 0, none⟩) j.x.at_.length j.x.at_.length]), (1, .map (some b66))]) (cs := #[.int .u32 j.x.j.id, .int .u32 ver, .int .i64 j.x.work, .slice (some ⟨b64, 0, none⟩) j.x.at_.length j.x.at_.length, .map (some b66), .bool false]) ps_131 zf_131 rfl (by simp [Instr.fill, Value.cells])) ?_
      refine D_e rfl rfl rfl (e_box rfl) (.inl rfl) ?_
      intro b68
      refine D_p rfl rfl rfl (q_nilCheck rfl) ?_
      refine D_p rfl rfl rfl (q_fieldAddr fb_90_5 rfl rfl) ?_
      refine D_e rfl rfl rfl (e_store sz_87 rfl rfl rfl aU (by first | decide | exact Nat.le_of_ble_eq_true rfl | simp [splice, Value.cells])) (.inl rfl) ?_
      intro _
      refine D_nil ?_
      refine N_seq ?_
      refine C_seq ?_
      refine C_region ?_
      refine wm (i := 0) rfl rfl rfl rfl ?_
      refine wc (i := 1) rfl rfl rfl rfl ?_
      refine W_q (i := 2) rfl rfl rfl (q_fieldAddr fb_90_1 rfl rfl) ?_
      refine W_q (i := 3) rfl rfl rfl (q_load ag_66 rfl aP rfl) ?_
      refine W_q (i := 4) rfl rfl rfl (q_lenSl Tryz.underlying66 rfl rfl) ?_
      refine wm (i := 5) rfl rfl rfl rfl ?_
      refine W_nil ?_
      refine N_seq ?_
      refine C_block ?_
      refine C_loopT (ι := { q : Nat × Sl // q.1 ≤ j.x.at_.length ∧ q.2.Ok (flat orderV (y.os ++ saveOs j.x ver (j.x.at_.take q.1))) 14 }) (fun q => [(0, y.ptr), (1, j.ptr), (74, j.at_.val), (75, .int .i64 (j.at_.len : Int)), (76, .int .i64 (q.1.1 : Int))]) (fun q => opn (y.osa (y.os ++ saveOs j.x ver (j.x.at_.take q.1.1)) q.1.2) (saveJob j ver (SavA.mk ⟨⟨j.x.j.id, ver, j.x.work, List.replicate j.x.at_.length []⟩, [], false⟩ b68 ⟨some (b64, 0), j.x.at_.length, j.x.at_.length⟩ (List.replicate j.x.at_.length (Sl.nilS, [])) b66)) (mapV JobA.ptr y.jobs) (mapKb JobA.kb (Qd.delA y.jobs id)) ++ F) (fun q => j.x.at_.length - q.1.1) ⟨(0, y.osl), Nat.zero_le _, by simpa [saveOs] using hy.osl⟩ aS (by (try simp only [opn_eq, BrA.osa, saveJob, svKb, SavA.kb, SavA.im, ImA.own, blobs_nil, blobVals_nil, saveOs_0, Bool.false_eq_true, if_false, BrA.osK, BrA.isK, BrA.dsK, BrA.msK]); exact aT) ?_
      rintro ⟨⟨i, osl⟩, hi, hoo⟩
      dsimp only at hi hoo ⊢
      obtain ⟨os, hos⟩ : ∃ os, y.os ++ saveOs j.x ver (j.x.at_.take i) = os := ⟨_, rfl⟩
      rw [hos] at hoo ⊢
      have hol : os.length = y.os.length + i := by rw [← hos]; simp [saveOs]; omega
      refine C_to ((y.blk, Cells (y.osa os osl).cells 84) :: (j.blk, Cells (saveJob j ver (SavA.mk ⟨⟨j.x.j.id, ver, j.x.work, List.replicate j.x.at_.length []⟩, [], false⟩ b68 ⟨some (b64, 0), j.x.at_.length, j.x.at_.length⟩ (List.replicate j.x.at_.length (Sl.nilS, [])) b66)).cells 90) :: (j.at_.kb (encI j.x.at_) 1 3 ++ (osl.kb (flat orderV os) 14 97 ++ ((y.up, SetB y.ups) :: (y.jb, MapI .u32 (mapV JobA.ptr y.jobs)) :: (setKb j.ld j.x.loaded ++ ((SavA.mk ⟨⟨j.x.j.id, ver, j.x.work, List.replicate j.x.at_.length []⟩, [], false⟩ b68 ⟨some (b64, 0), j.x.at_.length, j.x.at_.length⟩ (List.replicate j.x.at_.length (Sl.nilS, [])) b66).kb ++ (setKb j.dr (j.x.drops.getD []) ++ (ranKb j.rn (j.x.ran.getD []) ++ (y.mx.kb ++ (y.isK ++ (y.dsK ++ (y.msK ++ (stKb y.st ++ ((mapKb JobA.kb (Qd.delA y.jobs id)) ++ F)))))))))))))) (by (try simp only [opn_eq, BrA.osa, saveJob, svKb, BrA.osK, BrA.isK, BrA.dsK, BrA.msK]); exact aT) ?_
      refine C_seq ?_
      refine C_region ?_
      refine W_q (i := 0) rfl rfl rfl (q_int rfl rfl rfl) ?_
      refine W_nil ?_
      refine N_seq ?_
      refine C_seq ?_
      refine C_cond rfl (fun ht77 => ?_) (fun ht77 => ?_)
      ·
       try simp only [CL] at ht77
       have hil : i < j.x.at_.length := by omega
       obtain ⟨n, hn⟩ : ∃ n, j.x.at_[i]? = some n := ⟨_, List.getElem?_eq_getElem hil⟩
       refine C_skip ?_
       refine N_seq ?_
       refine C_seq ?_
       refine C_block ?_
       refine C_seq ?_
       refine C_region ?_
       refine W_q (i := 0) rfl rfl rfl (q_idxSl Tryz.underlying66 sz_3 hjo.at_ rfl rfl (Int.natCast_nonneg _) (by omega) rfl) ?_
       refine W_q (i := 1) rfl rfl rfl (q_loadSl (i := i) (v := .int .i64 n) ag_3 rfl hjo.at_ aC (by simp) (by simp [encI, hn])) ?_
       refine wa (i := 2) rfl rfl rfl rfl ?_
       refine W_nil ?_
       refine N_seq ?_
       refine C_draw (.cons 0 .pure (.cons 1 .pure (.cons 2 .pure (.cons 3 .pure (.cons 4 .pure (.cons 5 .pure (.cons 6 .read (.cons 7 .pure (.cons 8 .pure (.cons 9 .pure (.cons 10 .read (.cons 11 .pure (.cons 12 .pure (.cons 13 .pure (.cons 14 .read (.cons 15 .pure (.cons 16 .eff .nil))))))))))))))))) (fun w => Knows w _) 16 mo (by kernel_rfl) (fun _ h => h) ?_
       refine D_p rfl rfl rfl (q_move rfl) ?_
       refine D_p rfl rfl rfl (q_move rfl) ?_
       refine D_p rfl rfl rfl (q_move rfl) ?_
       refine D_p rfl rfl rfl (q_nilCheck rfl) ?_
       refine D_p rfl rfl rfl (q_fieldAddr fb_90_0 rfl rfl) ?_
       refine D_p rfl rfl rfl (q_fieldAddr fb_35_0 rfl rfl) ?_
       refine D_r rfl rfl rfl (q_load ag_31 rfl aP rfl) ?_
       refine D_p rfl rfl rfl (q_move rfl) ?_
       refine D_p rfl rfl rfl (q_nilCheck rfl) ?_
       refine D_p rfl rfl rfl (q_fieldAddr fb_90_4 rfl rfl) ?_
       refine D_r rfl rfl rfl (q_load ag_31 rfl aP rfl) ?_
       refine D_p rfl rfl rfl (q_move rfl) ?_
       refine D_p rfl rfl rfl (q_nilCheck rfl) ?_
       refine D_p rfl rfl rfl (q_fieldAddr fb_90_3 rfl rfl) ?_
       refine D_r rfl rfl rfl (q_load ag_3 rfl aP rfl) ?_
       refine D_p rfl rfl rfl (q_build (vs := [(0, .int .u8 8), (6, .int .u32 j.x.j.id), (7, .int .u32 ver), (9, .int .i64 j.x.work)]) (cs := (noteO { kind := 8, job := j.x.j.id, ver, credit := j.x.work }).toArray) ps_72 zf_72 rfl (by simp [Instr.fill, Value.cells, noteO, noteV])) ?_
       refine D_call rfl rfl rfl rfl rfl rfl pf_74 (s_order y.blk (y.osa os osl).cells osl os hoo rfl (by omega) n { kind := 8, job := j.x.j.id, ver, credit := j.x.work }) (tk_cons1 (by repeat (first | exact tk_one | apply tk_app | apply tk_cons)) aC) (.inl rfl) ?_
       rintro _ _ ⟨rfl, osl', hoo', rfl⟩
       try simp only [NL]
       refine D_nil ?_
       refine N_seq ?_
       refine C_region ?_
       refine W_q (i := 0) rfl rfl rfl (q_add rfl rfl (succ64 (by omega))) ?_
       refine wm (i := 1) rfl rfl rfl rfl ?_
       refine W_nil ?_
       exact fun a w ha hk => ⟨⟨(i + 1, osl'), by dsimp only; omega, by dsimp only; rw [saveOs_snoc _ _ hn, ← List.append_assoc, hos]; exact hoo'⟩, by dsimp only; omega, ha.sub aS, by dsimp only; rw [saveOs_snoc _ _ hn, ← List.append_assoc, hos]; exact hk.take (by (try simp only [opn_eq, BrA.osa, saveJob, svKb, BrA.osK, BrA.isK, BrA.dsK, BrA.msK]); exact aT)⟩
      ·
       try simp only [CL] at ht77
       have hil : i = j.x.at_.length := by omega
       subst hil
       rw [List.take_length] at hos
       refine C_exit ?_
       intro a w ha hk
       exact R_val (e := .normal) (.inr rfl) ha.defers (res0 rfl) (hR _ _ _ ⟨rfl, (y.osa os osl).set id (saveJob j ver (SavA.mk ⟨⟨j.x.j.id, ver, j.x.work, List.replicate j.x.at_.length []⟩, [], false⟩ b68 ⟨some (b64, 0), j.x.at_.length, j.x.at_.length⟩ (List.replicate j.x.at_.length (Sl.nilS, [])) b66)), ⟨(hy.osa hoo).set (y := y.osa os osl) hlk (saveJob_ok hjo (fun _ => ⟨by simp [SavA.im, blobVals_nil, Sl.ok_lit], by intro r hr; simp [SavA.im] at hr; rw [hr.2]; exact Sl.nil_ok 1, by simp [SavA.im]⟩) rfl (fun _ => by simp)) hji rfl, by rw [hg, BrA.set_b, ← hos]; rfl, rfl, by simp only [BrA.sz, BrA.set, BrA.osa]; omega, len_set (y := y.osa os osl) hlk, oth_set (y := y.osa os osl)⟩, rfl⟩ ((hk.take (T := opn ((y.osa os osl).set id (saveJob j ver (SavA.mk ⟨⟨j.x.j.id, ver, j.x.work, List.replicate j.x.at_.length []⟩, [], false⟩ b68 ⟨some (b64, 0), j.x.at_.length, j.x.at_.length⟩ (List.replicate j.x.at_.length (Sl.nilS, [])) b66))) (saveJob j ver (SavA.mk ⟨⟨j.x.j.id, ver, j.x.work, List.replicate j.x.at_.length []⟩, [], false⟩ b68 ⟨some (b64, 0), j.x.at_.length, j.x.at_.length⟩ (List.replicate j.x.at_.length (Sl.nilS, [])) b66)) (mapV JobA.ptr y.jobs) (mapKb JobA.kb (Qd.delA y.jobs id)) ++ F) (by (try simp only [opn_eq, BrA.set, BrA.osK, BrA.isK, BrA.dsK, BrA.msK, BrA.osa, saveJob, svKb]); exact aT)).perm ((BrA.close_ (y := (y.osa os osl).set id (saveJob j ver (SavA.mk ⟨⟨j.x.j.id, ver, j.x.work, List.replicate j.x.at_.length []⟩, [], false⟩ b68 ⟨some (b64, 0), j.x.at_.length, j.x.at_.length⟩ (List.replicate j.x.at_.length (Sl.nilS, [])) b66))) (id := id) (a := (saveJob j ver (SavA.mk ⟨⟨j.x.j.id, ver, j.x.work, List.replicate j.x.at_.length []⟩, [], false⟩ b68 ⟨some (b64, 0), j.x.at_.length, j.x.at_.length⟩ (List.replicate j.x.at_.length (Sl.nilS, [])) b66))) BrA.set_look (BrA.set_pm (y := (y.osa os osl)) (a' := (saveJob j ver (SavA.mk ⟨⟨j.x.j.id, ver, j.x.work, List.replicate j.x.at_.length []⟩, [], false⟩ b68 ⟨some (b64, 0), j.x.at_.length, j.x.at_.length⟩ (List.replicate j.x.at_.length (Sl.nilS, [])) b66))) hlk rfl) (BrA.set_js (y := (y.osa os osl)) (a' := (saveJob j ver (SavA.mk ⟨⟨j.x.j.id, ver, j.x.work, List.replicate j.x.at_.length []⟩, [], false⟩ b68 ⟨some (b64, 0), j.x.at_.length, j.x.at_.length⟩ (List.replicate j.x.at_.length (Sl.nilS, [])) b66))) hlk)).append_right F)))
end Go.SL
namespace Go.SL
open Go Go.Proofs
set_option maxRecDepth 10000
theorem encU_one (xs : List Int) : (encU xs).all oneC = true := by
  simp only [encU, List.all_map, List.all_eq_true]; intro x _; rfl
theorem stMap_isNone (o : Option (Nat × List Int)) : (stMap o).isNone = (o.map (·.2)).isNone := by cases o <;> rfl
theorem BrA.Ok.osn {y : BrA} (hy : y.Ok) : (y.osa [] Sl.nilS).Ok := hy.osa (Sl.nil_ok 14)
def upDown (n : Nat) (m : Qd.Mx) : Qd.Mx := (List.range n).foldl (fun m (n : Nat) => m.setUp n false) m
theorem upDown_succ (n : Nat) (m : Qd.Mx) : upDown (n + 1) m = (upDown n m).setUp n false := by simp [upDown, List.range_succ, List.foldl_append]
theorem upDown_same (n : Nat) (m : Qd.Mx) : (upDown n m).rows = m.rows ∧ (upDown n m).nodes = m.nodes ∧ (upDown n m).taken = m.taken ∧ (upDown n m).jobs = m.jobs := by
  induction n with
  | zero => exact ⟨rfl, rfl, rfl, rfl⟩
  | succ n ih => rw [upDown_succ]; exact ih
def newBrA (c : Qd.Config) (hold : Int) (x : MxA) (blk up jb : Nat) : BrA := { c, hold, now := 0, ups := [], jobs := [], mx := x, os := [], ims := [], dn := [], gen := 0, row := -1, mem := [], end_ := 0, st := none, stopped := false, blk, up, jb, osl := Sl.nilS, isl := Sl.nilS, dsl := Sl.nilS, msl := Sl.nilS }
def cfgV (c : Qd.Config) : List Value := [.int .i64 c.nodes, .int .i64 c.rows, .int .i64 c.quantum, .int .i64 c.grace]
theorem SetB_nil : SetB [] = MapI .i64 [] := rfl
theorem mapV_nil {α : Type} (f : α → Value) : mapV f [] = [] := rfl
theorem mapKb_nil {α : Type} (o : α → KB) : mapKb o [] = [] := rfl
theorem imsKb_nil : imsKb [] = [] := rfl
theorem stKb_none : stKb none = [] := rfl
theorem ag_25 : aggB Tryz.prog 25 = some true := by kernel_rfl
theorem fb_25_1 : fieldB Tryz.prog 25 1 = some 1 := by kernel_rfl
theorem fb_25_2 : fieldB Tryz.prog 25 2 = some 2 := by kernel_rfl
theorem fb_25_3 : fieldB Tryz.prog 25 3 = some 3 := by kernel_rfl
theorem fb_84_11 : fieldB Tryz.prog 84 11 = some 14 := by kernel_rfl
theorem fb_84_13 : fieldB Tryz.prog 84 13 = some 16 := by kernel_rfl
theorem fb_84_9 : fieldB Tryz.prog 84 9 = some 12 := by kernel_rfl
theorem pf_35 : plainFn Tryz.prog 35 = true := by kernel_rfl
theorem pf_36 : plainFn Tryz.prog 36 = true := by kernel_rfl
theorem pf_60 : plainFn Tryz.prog 60 = true := by kernel_rfl
theorem ps_84 : placesB Tryz.prog 84 = some #[(0, 4), (4, 1), (5, 1), (6, 1), (7, 1), (8, 1), (9, 1), (10, 1), (11, 1), (12, 1), (13, 1), (14, 1), (15, 1), (16, 1), (17, 1)] := by kernel_rfl
theorem sz_25 : sizeB Tryz.prog 25 = some 4 := by kernel_rfl
theorem zf_84 : zeroB Tryz.prog 84 = some (Go.Value.agg #[Go.Value.int (Go.IntKind.i64) 0, Go.Value.int (Go.IntKind.i64) 0, Go.Value.int (Go.IntKind.i64) 0, Go.Value.int (Go.IntKind.i64) 0, Go.Value.int (Go.IntKind.u32) 0, Go.Value.int (Go.IntKind.u32) 0, Go.Value.map none, Go.Value.map none, Go.Value.pointer none, Go.Value.slice none 0 0, Go.Value.slice none 0 0, Go.Value.slice none 0 0, Go.Value.int (Go.IntKind.u32) 0, Go.Value.int (Go.IntKind.i64) 0, Go.Value.slice none 0 0, Go.Value.int (Go.IntKind.u32) 0, Go.Value.map none, Go.Value.bool false]) := by kernel_rfl
set_option maxHeartbeats 2000000 in
theorem s_btake [Bs] (y : BrA) : Spec Tryz.prog 16 [y.ptr] (y.kb) (fun v K' => v = y.osl.val ∧ K' = (y.osa [] Sl.nilS).kb ++ y.osl.kb (flat orderV y.os) 14 97) := by
 refine spec_body Tryz.func16 rfl rfl fun F R hR => ?_
 try simp only [NL]
 rw [BrA.kb_eq]
 try simp only [NL]
 refine C_seq ?_
 refine C_region ?_
 refine wa (i := 0) rfl rfl rfl rfl ?_
 refine W_nil ?_
 refine N_seq ?_
 refine C_seq ?_
 refine C_seq ?_
 refine C_region ?_
 refine wm (i := 0) rfl rfl rfl rfl ?_
 refine W_q (i := 1) rfl rfl rfl (q_eqPtrNil Tryz.underlying27 rfl rfl) ?_
 refine W_nil ?_
 refine N_seq ?_
 refine C_condF rfl ?_
 refine C_skip ?_
 refine N_seq ?_
 refine C_seq ?_
 refine C_region ?_
 refine wm (i := 0) rfl rfl rfl rfl ?_
 refine wc (i := 1) rfl rfl rfl rfl ?_
 refine W_q (i := 2) rfl rfl rfl (q_fieldAddr fb_84_6 rfl rfl) ?_
 refine W_q (i := 3) rfl rfl rfl (q_load ag_37 rfl aP rfl) ?_
 refine wa (i := 4) rfl rfl rfl rfl ?_
 refine W_nil ?_
 refine N_seq ?_
 refine C_seq ?_
 refine C_region ?_
 refine wm (i := 0) rfl rfl rfl rfl ?_
 refine wc (i := 1) rfl rfl rfl rfl ?_
 refine W_q (i := 2) rfl rfl rfl (q_fieldAddr fb_84_6 rfl rfl) ?_
 refine W_e (i := 3) rfl rfl rfl (e_store sz_37 rfl rfl rfl aU (by first | decide | exact Nat.le_of_ble_eq_true rfl | simp [splice, Value.cells])) ?_
 intro _
 refine W_nil ?_
 refine N_seq ?_
 refine C_seq ?_
 refine C_region ?_
 refine wm (i := 0) rfl rfl rfl rfl ?_
 refine wa (i := 1) rfl rfl rfl rfl ?_
 refine W_nil ?_
 refine N_seq ?_
 refine C_ret fun a w ha hk => ?_
 exact R_val (e := .ret) (.inl rfl) ha.defers (res1 ha rfl rfl) (hR _ _ _ ⟨rfl, rfl⟩ (hk.take (by (try simp only [BrA.kb_eq, BrA.osa, BrA.jsK, BrA.osK, BrA.isK, BrA.dsK, BrA.msK, nilS_kb]); exact aT)))
set_option maxHeartbeats 2000000 in
theorem s_bdone [Bs] (y : BrA) : Spec Tryz.prog 33 [y.ptr] (y.kb) (fun v K' => v = y.dsl.val ∧ K' = (y.dna [] Sl.nilS).kb ++ y.dsl.kb (encU y.dn) 1 31) := by
 refine spec_body Tryz.func33 rfl rfl fun F R hR => ?_
 try simp only [NL]
 rw [BrA.kb_eq]
 try simp only [NL]
 refine C_seq ?_
 refine C_region ?_
 refine wa (i := 0) rfl rfl rfl rfl ?_
 refine W_nil ?_
 refine N_seq ?_
 refine C_seq ?_
 refine C_seq ?_
 refine C_region ?_
 refine wm (i := 0) rfl rfl rfl rfl ?_
 refine W_q (i := 1) rfl rfl rfl (q_eqPtrNil Tryz.underlying27 rfl rfl) ?_
 refine W_nil ?_
 refine N_seq ?_
 refine C_condF rfl ?_
 refine C_skip ?_
 refine N_seq ?_
 refine C_seq ?_
 refine C_region ?_
 refine wm (i := 0) rfl rfl rfl rfl ?_
 refine wc (i := 1) rfl rfl rfl rfl ?_
 refine W_q (i := 2) rfl rfl rfl (q_fieldAddr fb_84_8 rfl rfl) ?_
 refine W_q (i := 3) rfl rfl rfl (q_load ag_53 rfl aP rfl) ?_
 refine wa (i := 4) rfl rfl rfl rfl ?_
 refine W_nil ?_
 refine N_seq ?_
 refine C_seq ?_
 refine C_region ?_
 refine wm (i := 0) rfl rfl rfl rfl ?_
 refine wc (i := 1) rfl rfl rfl rfl ?_
 refine W_q (i := 2) rfl rfl rfl (q_fieldAddr fb_84_8 rfl rfl) ?_
 refine W_e (i := 3) rfl rfl rfl (e_store sz_53 rfl rfl rfl aU (by first | decide | exact Nat.le_of_ble_eq_true rfl | simp [splice, Value.cells])) ?_
 intro _
 refine W_nil ?_
 refine N_seq ?_
 refine C_seq ?_
 refine C_region ?_
 refine wm (i := 0) rfl rfl rfl rfl ?_
 refine wa (i := 1) rfl rfl rfl rfl ?_
 refine W_nil ?_
 refine N_seq ?_
 refine C_ret fun a w ha hk => ?_
 exact R_val (e := .ret) (.inl rfl) ha.defers (res1 ha rfl rfl) (hR _ _ _ ⟨rfl, rfl⟩ (hk.take (by (try simp only [BrA.kb_eq, BrA.dna, BrA.jsK, BrA.osK, BrA.isK, BrA.dsK, BrA.msK, nilS_kb]); exact aT)))
set_option maxHeartbeats 2000000 in
theorem s_resting [Bs] (y : BrA) : Spec Tryz.prog 17 [y.ptr] (y.kb) (fun v K' => v = .bool y.b.stops.isNone ∧ K' = y.kb) := by
 refine spec_body Tryz.func17 rfl rfl fun F R hR => ?_
 try simp only [NL]
 rw [BrA.kb_eq]
 try simp only [NL]
 refine C_seq ?_
 refine C_region ?_
 refine wa (i := 0) rfl rfl rfl rfl ?_
 refine W_nil ?_
 refine N_seq ?_
 refine C_seq ?_
 refine C_region ?_
 refine wm (i := 0) rfl rfl rfl rfl ?_
 refine W_q (i := 1) rfl rfl rfl (q_nePtrNil Tryz.underlying27 rfl rfl) ?_
 refine wm (i := 2) rfl rfl rfl rfl ?_
 refine wm (i := 3) rfl rfl rfl rfl ?_
 refine wc (i := 4) rfl rfl rfl rfl ?_
 refine W_q (i := 5) rfl rfl rfl (q_fieldAddr fb_84_13 rfl rfl) ?_
 refine W_q (i := 6) rfl rfl rfl (q_load ag_81 rfl aP rfl) ?_
 refine W_q (i := 7) rfl rfl rfl (q_eqMapNil Tryz.underlying81 rfl rfl) ?_
 refine W_q (i := 8) rfl rfl rfl (q_pickT rfl rfl) ?_
 refine wa (i := 9) rfl rfl rfl rfl ?_
 refine W_nil ?_
 refine N_seq ?_
 refine C_ret fun a w ha hk => ?_
 exact R_val (e := .ret) (.inl rfl) ha.defers (res1 ha rfl rfl) (hR _ _ _ ⟨congrArg Value.bool (stMap_isNone y.st), rfl⟩ (hk.take (by (try simp only [BrA.kb_eq]); exact aT)))
set_option maxHeartbeats 2000000 in
theorem s_gen [Bs] (y : BrA) : Spec Tryz.prog 18 [y.ptr] (y.kb) (fun v K' => v = .int .u32 y.gen ∧ K' = y.kb) := by
 refine spec_body Tryz.func18 rfl rfl fun F R hR => ?_
 try simp only [NL]
 rw [BrA.kb_eq]
 try simp only [NL]
 refine C_seq ?_
 refine C_region ?_
 refine wa (i := 0) rfl rfl rfl rfl ?_
 refine W_nil ?_
 refine N_seq ?_
 refine C_seq ?_
 refine C_seq ?_
 refine C_region ?_
 refine wm (i := 0) rfl rfl rfl rfl ?_
 refine W_q (i := 1) rfl rfl rfl (q_eqPtrNil Tryz.underlying27 rfl rfl) ?_
 refine W_nil ?_
 refine N_seq ?_
 refine C_condF rfl ?_
 refine C_skip ?_
 refine N_seq ?_
 refine C_seq ?_
 refine C_region ?_
 refine wm (i := 0) rfl rfl rfl rfl ?_
 refine wc (i := 1) rfl rfl rfl rfl ?_
 refine W_q (i := 2) rfl rfl rfl (q_fieldAddr fb_84_9 rfl rfl) ?_
 refine W_q (i := 3) rfl rfl rfl (q_load ag_31 rfl aP rfl) ?_
 refine wa (i := 4) rfl rfl rfl rfl ?_
 refine W_nil ?_
 refine N_seq ?_
 refine C_ret fun a w ha hk => ?_
 exact R_val (e := .ret) (.inl rfl) ha.defers (res1 ha rfl rfl) (hR _ _ _ ⟨rfl, rfl⟩ (hk.take (by (try simp only [BrA.kb_eq]); exact aT)))
set_option maxHeartbeats 2000000 in
theorem s_bjobs [Bs] (y : BrA) (h12 : y.jobs.length ≤ 12) : Spec Tryz.prog 27 [y.ptr] (y.kb) (fun v K' => ∃ sl : Sl, v = sl.val ∧ sl.Ok (encU y.b.ids) 1 ∧ K' = y.kb ++ sl.kb (encU y.b.ids) 1 31) := by
 refine spec_body Tryz.func27 rfl rfl fun F R hR => ?_
 try simp only [NL]
 rw [BrA.kb_eq]
 try simp only [NL]
 refine C_seq ?_
 refine C_region ?_
 refine wa (i := 0) rfl rfl rfl rfl ?_
 refine W_nil ?_
 refine N_seq ?_
 refine C_seq ?_
 refine C_seq ?_
 refine C_region ?_
 refine wm (i := 0) rfl rfl rfl rfl ?_
 refine W_q (i := 1) rfl rfl rfl (q_eqPtrNil Tryz.underlying27 rfl rfl) ?_
 refine W_nil ?_
 refine N_seq ?_
 refine C_condF rfl ?_
 refine C_skip ?_
 refine N_seq ?_
 refine C_seq ?_
 refine C_region ?_
 refine wm (i := 0) rfl rfl rfl rfl ?_
 refine wc (i := 1) rfl rfl rfl rfl ?_
 refine W_q (i := 2) rfl rfl rfl (q_fieldAddr fb_84_4 rfl rfl) ?_
 refine W_q (i := 3) rfl rfl rfl (q_load ag_82 rfl aP rfl) ?_
 refine W_call (i := 4) rfl rfl rfl rfl rfl rfl pf_65 (s_keysB y.jb) tk_nil ?_
 rintro _ _ ⟨bx, rfl, rfl⟩
 try simp only [NL]
 refine W_call (i := 5) rfl rfl rfl rfl rfl rfl pf_61 (s_sortedK (it_keysB (mapV JobA.ptr y.jobs) bx y.jb) pf_104 (fun y hy => by obtain ⟨p, _, rfl⟩ := hy; exact ⟨_, rfl⟩) (by simp [mapV]; omega) (fun xs hxs => by obtain ⟨ids, h1, h2⟩ := encK_ids hxs; exact ⟨ids, h1, by have := h2.length_eq; simp [mapV] at this; omega⟩)) (tk_cons1 (by repeat (first | exact tk_one | apply tk_app | apply tk_cons)) (by repeat (first | exact tk_one | apply tk_app | apply tk_cons))) ?_
 rintro _ _ ⟨ids, sl, hS, rfl, hok, hsl, hnil, rfl⟩
 have hids : Qd.sortI ids = y.b.ids := by rw [ids_eq]; obtain ⟨ids', h1, h2⟩ := encK_ids hS; rw [encU_inj h1]; exact Qd.sortBy_of_perm Qd.swoI (Qd.totI _) (by simpa [mapV, List.map_map, Function.comp_def] using h2)
 rw [hids] at hok hsl ⊢
 refine wa (i := 6) rfl rfl rfl rfl ?_
 refine W_nil ?_
 refine N_seq ?_
 refine C_ret fun a w ha hk => ?_
 exact R_val (e := .ret) (.inl rfl) ha.defers (res1 ha rfl rfl) (hR _ _ _ ⟨sl, rfl, hok, rfl⟩ (hk.take (by (try simp only [BrA.kb_eq]); exact aT)))
theorem s_mnew2 [Bs] (r n : Int) : Spec Tryz.prog 35 [.int .i64 r, .int .i64 n] [] (fun v K' => ∃ (p : Value) (e : Int), v = .tuple #[p, .int .i64 e] ∧ ((e = 0 ∧ (1 ≤ r ∧ r ≤ 8 ∧ 1 ≤ n ∧ n ≤ 16) ∧ ∃ x : MxA, p = x.ptr ∧ x.m = Qd.Mx.new r n ∧ x.Ok ∧ K' = x.kb) ∨ (e = 1 ∧ ¬(1 ≤ r ∧ r ≤ 8 ∧ 1 ≤ n ∧ n ≤ 16)))) :=
  (s_mnew r n).mono fun v K' h => by
    rcases h with ⟨h1, x, rfl, h2, h3, h4⟩ | ⟨h1, rfl, h2⟩
    · exact ⟨_, _, rfl, .inl ⟨rfl, h1, x, rfl, h2, h3, h4⟩⟩
    · exact ⟨_, _, rfl, .inr ⟨rfl, h1⟩⟩
theorem okC_of {c : Qd.Config} (h : 1 ≤ c.rows ∧ c.rows ≤ 8 ∧ 1 ≤ c.nodes ∧ c.nodes ≤ 16) (h1 : ¬ c.quantum < 1) (h2 : ¬ 1000 < c.quantum) (h3 : ¬ c.grace < 1) (h4 : ¬ 1000 < c.grace) : Qd.Brain.okConfig c = true := by
  unfold Qd.Brain.okConfig; simp only [Bool.and_eq_true, decide_eq_true_eq]; omega
theorem okC_not {c : Qd.Config} (h : ¬ (1 ≤ c.rows ∧ c.rows ≤ 8 ∧ 1 ≤ c.nodes ∧ c.nodes ≤ 16) ∨ c.quantum < 1 ∨ 1000 < c.quantum ∨ c.grace < 1 ∨ 1000 < c.grace) : Qd.Brain.okConfig c = false := by
  unfold Qd.Brain.okConfig; simp only [Bool.and_eq_false_iff, decide_eq_false_iff_not]; omega
set_option maxHeartbeats 2000000 in
theorem s_new [Bs] (c : Qd.Config) (hold : Int) : Spec Tryz.prog 11 [.agg (cfgV c).toArray, .int .u32 hold] ([]) (fun v K' => (Qd.Brain.okConfig c = true ∧ ∃ y : BrA, v = .tuple #[y.ptr, .int .i64 0] ∧ y.hold = hold ∧ y.Ok ∧ y.b = Qd.Brain.new c hold ∧ K' = y.kb) ∨ (Qd.Brain.okConfig c = false ∧ v = .tuple #[.pointer none, .int .i64 1] ∧ K' = [])) := by
 refine spec_body Tryz.func11 rfl rfl fun F R hR => ?_
 try simp only [NL]
 refine C_seq ?_
 refine C_region ?_
 refine W_e (i := 0) rfl rfl rfl (e_box rfl) ?_
 intro b2
 refine wa (i := 1) rfl rfl rfl rfl ?_
 refine wa (i := 2) rfl rfl rfl rfl ?_
 refine W_nil ?_
 refine N_seq ?_
 refine C_seq ?_
 refine C_region ?_
 refine W_q (i := 0) rfl rfl rfl (q_fieldAddr fb_25_1 rfl rfl) ?_
 refine W_q (i := 1) rfl rfl rfl (q_load (v := .int .i64 c.rows) ag_3 rfl aP rfl) ?_
 refine W_q (i := 2) rfl rfl rfl (q_fieldAddr fb_25_0 rfl rfl) ?_
 refine W_q (i := 3) rfl rfl rfl (q_load (v := .int .i64 c.nodes) ag_3 rfl aP rfl) ?_
 refine W_call (i := 4) rfl rfl rfl rfl rfl rfl pf_35 (s_mnew2 c.rows c.nodes) tk_nil ?_
 rintro _ Kn ⟨p, e, rfl, hcase⟩
 refine wm (i := 5) rfl rfl rfl rfl ?_
 refine W_q (i := 6) rfl rfl rfl (q_extract rfl rfl) ?_
 refine W_q (i := 7) rfl rfl rfl (q_extract rfl rfl) ?_
 refine wa (i := 8) rfl rfl rfl rfl ?_
 refine wa (i := 9) rfl rfl rfl rfl ?_
 refine W_nil ?_
 refine N_seq ?_
 refine C_seq ?_
 refine C_seq ?_
 refine C_region ?_
 refine wm (i := 0) rfl rfl rfl rfl ?_
 refine W_q (i := 1) rfl rfl rfl (q_int rfl rfl rfl) ?_
 refine wm (i := 2) rfl rfl rfl rfl ?_
 refine W_bool 19 _ rfl (fun ht19 => ?_) (fun ht19 => ?_)
 ·
  try simp only [CL] at ht19
  have hbad : ¬(1 ≤ c.rows ∧ c.rows ≤ 8 ∧ 1 ≤ c.nodes ∧ c.nodes ≤ 16) := by rcases hcase with h | h; exact absurd h.1 ht19; exact h.2
  refine W_skip (i := 3) rfl rfl rfl ?_
  refine W_skip (i := 4) rfl rfl rfl ?_
  refine W_skip (i := 5) rfl rfl rfl ?_
  refine W_q (i := 6) rfl rfl rfl (q_pickT rfl rfl) ?_
  refine wm (i := 7) rfl rfl rfl rfl ?_
  refine W_skip (i := 8) rfl rfl rfl ?_
  refine W_skip (i := 9) rfl rfl rfl ?_
  refine W_skip (i := 10) rfl rfl rfl ?_
  refine W_q (i := 11) rfl rfl rfl (q_pickT rfl rfl) ?_
  refine wm (i := 12) rfl rfl rfl rfl ?_
  refine W_skip (i := 13) rfl rfl rfl ?_
  refine W_skip (i := 14) rfl rfl rfl ?_
  refine W_skip (i := 15) rfl rfl rfl ?_
  refine W_q (i := 16) rfl rfl rfl (q_pickT rfl rfl) ?_
  refine wm (i := 17) rfl rfl rfl rfl ?_
  refine W_skip (i := 18) rfl rfl rfl ?_
  refine W_skip (i := 19) rfl rfl rfl ?_
  refine W_skip (i := 20) rfl rfl rfl ?_
  refine W_q (i := 21) rfl rfl rfl (q_pickT rfl rfl) ?_
  refine W_nil ?_
  refine N_seq ?_
  refine C_condT rfl ?_
  refine C_seq ?_
  refine C_region ?_
  refine wa (i := 0) rfl rfl rfl rfl ?_
  refine wa (i := 1) rfl rfl rfl rfl ?_
  refine W_nil ?_
  refine N_seq ?_
  refine C_ret fun a w ha hk => ?_
  exact R_val (e := .ret) (by simp) ha.defers (res2 ha rfl rfl rfl) (hR _ _ _ (.inr ⟨okC_not (.inl hbad), rfl, rfl⟩) (hk.take aT))
 ·
  try simp only [CL] at ht19
  obtain ⟨hrn, x, rfl, hxm0, hxo0, rfl⟩ : (1 ≤ c.rows ∧ c.rows ≤ 8 ∧ 1 ≤ c.nodes ∧ c.nodes ≤ 16) ∧ ∃ x : MxA, p = x.ptr ∧ x.m = Qd.Mx.new c.rows c.nodes ∧ x.Ok ∧ Kn = x.kb := by rcases hcase with h | h; exact h.2; (rw [h.1] at ht19; exact absurd ht19 (by decide))
  refine W_q (i := 3) rfl rfl rfl (q_fieldAddr fb_25_2 rfl rfl) ?_
  refine W_q (i := 4) rfl rfl rfl (q_load ag_3 rfl aP rfl) ?_
  refine W_q (i := 5) rfl rfl rfl (q_int rfl rfl rfl) ?_
  refine W_q (i := 6) rfl rfl rfl (q_pickF rfl rfl) ?_
  refine wm (i := 7) rfl rfl rfl rfl ?_
  refine W_bool 24 _ rfl (fun ht24 => ?_) (fun ht24 => ?_)
  ·
   try simp only [CL] at ht24
   refine W_skip (i := 8) rfl rfl rfl ?_
   refine W_skip (i := 9) rfl rfl rfl ?_
   refine W_skip (i := 10) rfl rfl rfl ?_
   refine W_q (i := 11) rfl rfl rfl (q_pickT rfl rfl) ?_
   refine wm (i := 12) rfl rfl rfl rfl ?_
   refine W_skip (i := 13) rfl rfl rfl ?_
   refine W_skip (i := 14) rfl rfl rfl ?_
   refine W_skip (i := 15) rfl rfl rfl ?_
   refine W_q (i := 16) rfl rfl rfl (q_pickT rfl rfl) ?_
   refine wm (i := 17) rfl rfl rfl rfl ?_
   refine W_skip (i := 18) rfl rfl rfl ?_
   refine W_skip (i := 19) rfl rfl rfl ?_
   refine W_skip (i := 20) rfl rfl rfl ?_
   refine W_q (i := 21) rfl rfl rfl (q_pickT rfl rfl) ?_
   refine W_nil ?_
   refine N_seq ?_
   refine C_condT rfl ?_
   refine C_seq ?_
   refine C_region ?_
   refine wa (i := 0) rfl rfl rfl rfl ?_
   refine wa (i := 1) rfl rfl rfl rfl ?_
   refine W_nil ?_
   refine N_seq ?_
   refine C_ret fun a w ha hk => ?_
   exact R_val (e := .ret) (by simp) ha.defers (res2 ha rfl rfl rfl) (hR _ _ _ (.inr ⟨okC_not (.inr (.inl ht24)), rfl, rfl⟩) (hk.take aT))
  ·
   try simp only [CL] at ht24
   refine W_q (i := 8) rfl rfl rfl (q_fieldAddr fb_25_2 rfl rfl) ?_
   refine W_q (i := 9) rfl rfl rfl (q_load ag_3 rfl aP rfl) ?_
   refine W_q (i := 10) rfl rfl rfl (q_int rfl rfl rfl) ?_
   refine W_q (i := 11) rfl rfl rfl (q_pickF rfl rfl) ?_
   refine wm (i := 12) rfl rfl rfl rfl ?_
   refine W_bool 29 _ rfl (fun ht29 => ?_) (fun ht29 => ?_)
   ·
    try simp only [CL] at ht29
    refine W_skip (i := 13) rfl rfl rfl ?_
    refine W_skip (i := 14) rfl rfl rfl ?_
    refine W_skip (i := 15) rfl rfl rfl ?_
    refine W_q (i := 16) rfl rfl rfl (q_pickT rfl rfl) ?_
    refine wm (i := 17) rfl rfl rfl rfl ?_
    refine W_skip (i := 18) rfl rfl rfl ?_
    refine W_skip (i := 19) rfl rfl rfl ?_
    refine W_skip (i := 20) rfl rfl rfl ?_
    refine W_q (i := 21) rfl rfl rfl (q_pickT rfl rfl) ?_
    refine W_nil ?_
    refine N_seq ?_
    refine C_condT rfl ?_
    refine C_seq ?_
    refine C_region ?_
    refine wa (i := 0) rfl rfl rfl rfl ?_
    refine wa (i := 1) rfl rfl rfl rfl ?_
    refine W_nil ?_
    refine N_seq ?_
    refine C_ret fun a w ha hk => ?_
    exact R_val (e := .ret) (by simp) ha.defers (res2 ha rfl rfl rfl) (hR _ _ _ (.inr ⟨okC_not (.inr (.inr (.inl ht29))), rfl, rfl⟩) (hk.take aT))
   ·
    try simp only [CL] at ht29
    refine W_q (i := 13) rfl rfl rfl (q_fieldAddr fb_25_3 rfl rfl) ?_
    refine W_q (i := 14) rfl rfl rfl (q_load ag_3 rfl aP rfl) ?_
    refine W_q (i := 15) rfl rfl rfl (q_int rfl rfl rfl) ?_
    refine W_q (i := 16) rfl rfl rfl (q_pickF rfl rfl) ?_
    refine wm (i := 17) rfl rfl rfl rfl ?_
    refine W_bool 34 _ rfl (fun ht34 => ?_) (fun ht34 => ?_)
    ·
     try simp only [CL] at ht34
     refine W_skip (i := 18) rfl rfl rfl ?_
     refine W_skip (i := 19) rfl rfl rfl ?_
     refine W_skip (i := 20) rfl rfl rfl ?_
     refine W_q (i := 21) rfl rfl rfl (q_pickT rfl rfl) ?_
     refine W_nil ?_
     refine N_seq ?_
     refine C_condT rfl ?_
     refine C_seq ?_
     refine C_region ?_
     refine wa (i := 0) rfl rfl rfl rfl ?_
     refine wa (i := 1) rfl rfl rfl rfl ?_
     refine W_nil ?_
     refine N_seq ?_
     refine C_ret fun a w ha hk => ?_
     exact R_val (e := .ret) (by simp) ha.defers (res2 ha rfl rfl rfl) (hR _ _ _ (.inr ⟨okC_not (.inr (.inr (.inr (.inl ht34)))), rfl, rfl⟩) (hk.take aT))
    ·
     try simp only [CL] at ht34
     refine W_q (i := 18) rfl rfl rfl (q_fieldAddr fb_25_3 rfl rfl) ?_
     refine W_q (i := 19) rfl rfl rfl (q_load ag_3 rfl aP rfl) ?_
     refine W_q (i := 20) rfl rfl rfl (q_int rfl rfl rfl) ?_
     refine W_q (i := 21) rfl rfl rfl (q_pickF rfl rfl) ?_
     refine W_nil ?_
     refine N_seq ?_
     refine C_cond rfl (fun ht38 => ?_) (fun ht38 => ?_)
     ·
      try simp only [CL] at ht38
      refine C_seq ?_
      refine C_region ?_
      refine wa (i := 0) rfl rfl rfl rfl ?_
      refine wa (i := 1) rfl rfl rfl rfl ?_
      refine W_nil ?_
      refine N_seq ?_
      refine C_ret fun a w ha hk => ?_
      exact R_val (e := .ret) (by simp) ha.defers (res2 ha rfl rfl rfl) (hR _ _ _ (.inr ⟨okC_not (.inr (.inr (.inr (.inr ht38)))), rfl, rfl⟩) (hk.take aT))
     ·
      try simp only [CL] at ht38
      have hokc := okC_of hrn ht24 ht29 ht34 ht38
      have hnn : x.m.nodes = c.nodes := by rw [hxm0]; rfl
      refine C_skip ?_
      refine N_seq ?_
      refine C_seq ?_
      refine C_seq ?_
      refine C_region ?_
      refine W_q (i := 0) rfl rfl rfl (q_fieldAddr fb_25_0 rfl rfl) ?_
      refine W_q (i := 1) rfl rfl rfl (q_load (v := .int .i64 c.nodes) ag_3 rfl aP rfl) ?_
      refine wm (i := 2) rfl rfl rfl rfl ?_
      refine W_nil ?_
      refine N_seq ?_
      refine C_block ?_
      refine C_loopT (ι := { i : Nat // (i : Int) ≤ c.nodes ∧ (upDown i x.m).Ok }) (fun i => [(1, .int .u32 hold), (2, .pointer (some ⟨b2, 0, none⟩)), (6, x.ptr), (40, .int .i64 c.nodes), (41, .int .i64 (i.1 : Int))]) (fun i => (putMx x (upDown i.1 x.m)).kb ++ ((b2, Cells (cfgV c) 25) :: F)) (fun i => c.nodes.toNat - i.1) ⟨0, by omega, hxo0.m⟩ aS (show Takes _ (x.kb ++ ((b2, Cells (cfgV c) 25) :: F)) from aT) ?_
      rintro ⟨i, hi, hmo⟩
      dsimp only at hi hmo ⊢
      refine C_seq ?_
      refine C_region ?_
      refine W_q (i := 0) rfl rfl rfl (q_int rfl rfl rfl) ?_
      refine W_nil ?_
      refine N_seq ?_
      refine C_seq ?_
      refine C_cond rfl (fun ht42 => ?_) (fun ht42 => ?_)
      ·
       try simp only [CL] at ht42
       have hil : (i : Int) < c.nodes := by omega
       have hin : (upDown i x.m).isNode i = true := by rw [Qd.Mx.isNode, (upDown_same i x.m).2.1, hnn]; simp; omega
       refine C_skip ?_
       refine N_seq ?_
       refine C_seq ?_
       refine C_block ?_
       refine C_seq ?_
       refine C_region ?_
       refine wm (i := 0) rfl rfl rfl rfl ?_
       refine wa (i := 1) rfl rfl rfl rfl ?_
       refine W_nil ?_
       refine N_seq ?_
       refine C_region ?_
       refine wm (i := 0) rfl rfl rfl rfl ?_
       refine wm (i := 1) rfl rfl rfl rfl ?_
       refine W_call (i := 2) rfl rfl rfl rfl rfl rfl pf_36 (s_mup (putMx x (upDown i x.m)) ⟨hmo, hxo0.tk.of (by simp [takenV, putMx, (upDown_same i x.m).2.2.1])⟩ i false) aC ?_
       rintro _ _ ⟨rfl, rfl⟩
       rw [if_pos (show (putMx x (upDown i x.m)).m.isNode i = true from hin), if_pos (show (putMx x (upDown i x.m)).m.isNode i = true from hin)]
       have hput : putMx (putMx x (upDown i x.m)) ((putMx x (upDown i x.m)).m.setUp i false) = putMx x ((upDown i x.m).setUp i false) := rfl
       rw [hput]
       refine W_nil ?_
       refine N_seq ?_
       refine C_region ?_
       refine W_q (i := 0) rfl rfl rfl (q_add rfl rfl (succ64 (by have := hrn.2.2.2; omega))) ?_
       refine wm (i := 1) rfl rfl rfl rfl ?_
       refine W_nil ?_
       exact fun a w ha hk => ⟨⟨i + 1, by omega, by rw [upDown_succ]; exact Qd.Mx.setUp_ok hmo false hin⟩, by dsimp only; omega, ha.sub aS, by dsimp only; rw [upDown_succ]; exact hk⟩
      ·
       try simp only [CL] at ht42
       have hil : c.nodes.toNat = i := by omega
       refine C_exit ?_
       refine N_seq ?_
       refine C_seq ?_
       refine C_region ?_
       refine W_q (i := 0) rfl rfl rfl (q_loadAgg (us := cfgV c) ag_25 sz_25 rfl aP (by simp [cfgV]) rfl) ?_
       refine wm (i := 1) rfl rfl rfl rfl ?_
       refine W_e (i := 2) rfl rfl rfl (e_makeMap .i64) ?_
       intro b50
       refine W_e (i := 3) rfl rfl rfl (e_makeMap .u32) ?_
       intro b51
       refine wm (i := 4) rfl rfl rfl rfl ?_
       refine W_q (i := 5) rfl rfl rfl (q_build (vs := [(0, .agg (cfgV c).toArray), (1, .int .u32 hold), (3, .map (some b50)), (4, .map (some b51)), (5, x.ptr), (10, .int .i64 (-1))]) (cs := (newBrA c hold (putMx x (upDown i x.m)) 0 b50 b51).cells.toArray) ps_84 zf_84 rfl (by simp [Instr.fill, Value.cells, cfgV, newBrA, BrA.cells, MxA.ptr, putMx, Sl.val, Sl.nilS, stMap])) ?_
       refine W_e (i := 6) rfl rfl rfl (e_box rfl) ?_
       intro b54
       refine wa (i := 7) rfl rfl rfl rfl ?_
       refine wa (i := 8) rfl rfl rfl rfl ?_
       refine W_nil ?_
       refine N_seq ?_
       refine C_ret fun a w ha hk => ?_
       exact R_val (e := .ret) (by simp) ha.defers (res2 ha rfl rfl rfl) (hR _ _ _ (.inl ⟨hokc, newBrA c hold (putMx x (upDown i x.m)) b54 b50 b51, rfl, rfl, ⟨hokc, ⟨hmo, hxo0.tk.of (by simp [newBrA, takenV, putMx, (upDown_same i x.m).2.2.1])⟩, by simp [newBrA, putMx, upDown_same, hxm0, Qd.Mx.new], by simp [newBrA, putMx, upDown_same, hxm0, Qd.Mx.new], ⟨Int.le_refl 0, (by decide : (0:Int) ≤ 4294967295)⟩, Sl.nil_ok 14, Sl.nil_ok 4, by simp [newBrA], Sl.nil_ok 1, Sl.nil_ok 1, by simp [newBrA], by simp [newBrA]⟩, by subst hil; simp only [newBrA, BrA.b, putMx, BrA.mj, hxm0]; rfl, rfl⟩) (hk.take (by (try simp only [BrA.kb_eq, newBrA, BrA.jsK, SetB_nil, mapV_nil, mapKb_nil, imsKb_nil, stKb_none, BrA.osK, BrA.isK, BrA.dsK, BrA.msK, nilS_kb]); exact aT)))
end Go.SL
namespace Go.SL
open Go Go.Proofs
set_option maxRecDepth 10000
/-- what a call on a brain comes to -/
structure BTop (y y' : BrA) (b' : Qd.Brain) (cost : Nat) : Prop where
  ok : y'.Ok
  b : y'.b = b'
  blk : y'.blk = y.blk
  sz : y'.sz ≤ y.sz + cost
theorem BTo.top {y y' : BrA} {id : Int} {b' : Qd.Brain} {c : Nat} (h : BTo y y' id b' c) : BTop y y' b' c := ⟨h.ok, h.b, h.blk, h.sz⟩
theorem nodeErr_zero {y : BrA} (hy : y.Ok) {n : Int} {up : Bool} (h : y.b.nodeErr n up = 0) : 0 ≤ n ∧ n < y.c.nodes ∧ y.mx.m.isNode n = true ∧ y.mx.m.isUp n = up := by
  unfold Qd.Brain.nodeErr at h
  split at h
  · cases h
  · rename_i h1
    split at h
    · cases h
    · rename_i h2
      have h3 : 0 ≤ n ∧ n < y.c.nodes := by
        have e : y.b.c.nodes = y.c.nodes := rfl
        rw [e] at h1; omega
      refine ⟨h3.1, h3.2, ?_, by simpa [BrA.b] using h2⟩
      rw [Qd.Mx.isNode, hy.mn]; simp [h3]
theorem setUp_rows (m : Qd.Mx) (n : Int) (up : Bool) : (m.setUp n up).rows = m.rows ∧ (m.setUp n up).nodes = m.nodes ∧ (m.setUp n up).taken.length = m.taken.length := by
  unfold Qd.Mx.setUp; split <;> simp
theorem BrA.Ok.su {y : BrA} (hy : y.Ok) (n : Int) (up : Bool) (hn : y.mx.m.isNode n = true) : ({ y with mx := putMx y.mx (y.mx.m.setUp n up) } : BrA).Ok :=
  hy.mxs (Qd.Mx.setUp_ok hy.mx.m up hn) (setUp_rows _ _ _).1 (setUp_rows _ _ _).2.1 (setUp_rows _ _ _).2.2
theorem BrA.Ok.ups {y : BrA} (hy : y.Ok) (ups : List Int) : ({ y with ups } : BrA).Ok := { hy with }
/-- a job that comes -/
def freshJob (ja : Qd.ApiJob) (ver : Int) (blk : Nat) : JobA := ⟨{ j := { ja with state := 0 }, work := ja.credit, ver }, blk, Sl.nilS, none, none, none, none⟩
theorem freshJob_ok {ja : Qd.ApiJob} {ver : Int} {blk : Nat} (h1 : 0 < ja.id ∧ ja.id < 4294967296) (h2 : 1 ≤ ja.k) : (freshJob ja ver blk).Ok := ⟨Sl.nil_ok 1, Nat.zero_le _, List.nodup_nil, fun _ => rfl, fun h => (by simp [freshJob] at h), rfl, fun s h => (by simp [freshJob] at h), rfl, rfl, by simp [freshJob], by simp [freshJob], h1, h2, by simp [freshJob], by simp [freshJob]⟩
theorem BrA.Ok.add {y : BrA} (hy : y.Ok) {id : Int} {j : JobA} (hn : Qd.lookA y.jobs id = none) (hj : j.Ok) (hi : j.x.j.id = id) (hk : j.x.j.k ≤ y.c.nodes) : (y.set id j).Ok where
  c := hy.c
  mx := hy.mx
  mr := hy.mr
  mn := hy.mn
  n32 := hy.n32
  osl := hy.osl
  isl := hy.isl
  ims := hy.ims
  dsl := hy.dsl
  msl := hy.msl
  keys := by
    simp only [BrA.set]
    rw [Qd.keys_new hn, List.map_append, List.nodup_append]
    refine ⟨hy.keys, by simp, ?_⟩
    intro a ha b hb
    simp only [List.map_cons, List.map_nil, List.mem_singleton] at hb
    subst hb
    obtain ⟨p, hp, rfl⟩ := List.mem_map.1 ha
    intro he
    have := Qd.lookA_of_mem hy.keys (k := p.1) (v := p.2) hp
    rw [he, hn] at this; cases this
  job := by
    intro p hp
    rcases Qd.mem_put hp with rfl | hp
    · exact ⟨hj, hi, hk⟩
    · exact hy.job p hp
theorem look_mj (y : BrA) (id : Int) : Qd.lookA y.mj id = (Qd.lookA y.jobs id).map (·.x) := by rw [BrA.mj, Qd.lookA_map (fun a : JobA => a.x)]
theorem job_b (y : BrA) (id : Int) : y.b.job id = (Qd.lookA y.jobs id).map (·.x) := look_mj y id
theorem ptrV_nil {jobs : List (Int × JobA)} {id : Int} : ptrV jobs id = .pointer ((Qd.lookA jobs id).map fun j => ⟨j.blk, 0, none⟩) := by
  unfold ptrV; cases Qd.lookA jobs id <;> rfl
theorem q_nePtrV {P : Program} {n : Nat} {L : Env} {K : KB} {d : Option Nat} {x y : Operand} {T U : TypeId} {e : TypeId} {jobs : List (Int × JobA)} {id : Int} {ty pos aft gd} (hT : P.underlying T = some (.pointer e)) (hx : ev L x = some (ptrV jobs id)) (hy : ev L y = some (.pointer none)) :
    QRun P n ⟨d, .binOp .neq T x y U, ty, pos, aft, gd⟩ L K (.bool (Qd.lookA jobs id).isSome) := by
  rw [ptrV_nil] at hx
  have := q_nePtrNil (P := P) (n := n) (L := L) (K := K) (d := d) (U := U) (ty := ty) (pos := pos) (aft := aft) (gd := gd) hT hx hy
  rw [Option.isNone_map] at this
  rwa [show (!(Qd.lookA jobs id).isNone) = (Qd.lookA jobs id).isSome from by cases Qd.lookA jobs id <;> rfl] at this
theorem q_eqPtrV {P : Program} {n : Nat} {L : Env} {K : KB} {d : Option Nat} {x y : Operand} {T U : TypeId} {e : TypeId} {jobs : List (Int × JobA)} {id : Int} {ty pos aft gd} (hT : P.underlying T = some (.pointer e)) (hx : ev L x = some (ptrV jobs id)) (hy : ev L y = some (.pointer none)) :
    QRun P n ⟨d, .binOp .eql T x y U, ty, pos, aft, gd⟩ L K (.bool (Qd.lookA jobs id).isNone) := by
  rw [ptrV_nil] at hx
  have := q_eqPtrNil (P := P) (n := n) (L := L) (K := K) (d := d) (U := U) (ty := ty) (pos := pos) (aft := aft) (gd := gd) hT hx hy
  rwa [Option.isNone_map] at this
theorem fb_35_1 : fieldB Tryz.prog 35 1 = some 1 := by kernel_rfl
theorem fb_35_2 : fieldB Tryz.prog 35 2 = some 2 := by kernel_rfl
theorem pf_37 : plainFn Tryz.prog 37 = true := by kernel_rfl
theorem pf_39 : plainFn Tryz.prog 39 = true := by kernel_rfl
set_option maxHeartbeats 2000000 in
theorem s_bup [Bs] (y : BrA) (hy : y.Ok) (n : Int) : Spec Tryz.prog 12 [y.ptr, .int .i64 n] (y.kb) (fun v K' => v = .int .i64 (y.b.setUp n).1 ∧ ∃ y', BTop y y' (y.b.setUp n).2 0 ∧ K' = y'.kb) := by
 refine spec_body Tryz.func12 rfl rfl fun F R hR => ?_
 try simp only [NL]
 rw [BrA.kb_eq]
 try simp only [NL]
 refine C_seq ?_
 refine C_region ?_
 refine wa (i := 0) rfl rfl rfl rfl ?_
 refine W_nil ?_
 refine N_seq ?_
 refine C_seq ?_
 refine C_seq ?_
 refine C_region ?_
 refine wm (i := 0) rfl rfl rfl rfl ?_
 refine wm (i := 1) rfl rfl rfl rfl ?_
 refine W_call (i := 2) rfl rfl rfl rfl rfl rfl pf_37 (s_node y hy n false) (tk_cons1 (by repeat (first | exact tk_one | apply tk_app | apply tk_cons)) aC) ?_
 rintro _ _ ⟨rfl, rfl⟩
 try simp only [NL]
 refine wa (i := 3) rfl rfl rfl rfl ?_
 refine W_nil ?_
 refine N_seq ?_
 refine C_seq ?_
 refine C_region ?_
 refine wm (i := 0) rfl rfl rfl rfl ?_
 refine W_q (i := 1) rfl rfl rfl (q_int rfl rfl rfl) ?_
 refine W_nil ?_
 refine N_seq ?_
 refine C_cond rfl (fun ht10 => ?_) (fun ht10 => ?_)
 ·
  try simp only [CL] at ht10
  have he : y.b.setUp n = (y.b.nodeErr n false, y.b) := by rw [Qd.Brain.setUp, if_pos ht10]
  refine C_seq ?_
  refine C_region ?_
  refine wm (i := 0) rfl rfl rfl rfl ?_
  refine wa (i := 1) rfl rfl rfl rfl ?_
  refine W_nil ?_
  refine N_seq ?_
  refine C_ret fun a w ha hk => ?_
  exact R_val (e := .ret) (.inl rfl) ha.defers (res1 ha rfl rfl) (hR _ _ _ ⟨by rw [he], y, ⟨hy, by rw [he], rfl, Nat.le_refl _⟩, rfl⟩ (hk.take (by (try simp only [BrA.kb_eq]); exact aT)))
 ·
  try simp only [CL] at ht10
  have hz : y.b.nodeErr n false = 0 := by simpa using ht10
  obtain ⟨h0, h1, hin, hup⟩ := nodeErr_zero hy hz
  have he : y.b.setUp n = (0, { y.b with up := Qd.addS y.b.up n, m := y.b.m.setUp n true }) := by rw [Qd.Brain.setUp, if_neg (by simpa using hz)]
  refine C_skip ?_
  refine N_seq ?_
  refine C_seq ?_
  refine C_region ?_
  refine wm (i := 0) rfl rfl rfl rfl ?_
  refine wc (i := 1) rfl rfl rfl rfl ?_
  refine W_q (i := 2) rfl rfl rfl (q_fieldAddr fb_84_3 rfl rfl) ?_
  refine W_q (i := 3) rfl rfl rfl (q_load ag_81 rfl aP rfl) ?_
  refine wm (i := 4) rfl rfl rfl rfl ?_
  refine W_call (i := 5) rfl rfl rfl rfl rfl rfl pf_38 (s_add y.up y.ups n) (by repeat (first | exact tk_one | apply tk_app | apply tk_cons)) ?_
  rintro _ _ ⟨rfl, rfl⟩
  try simp only [NL]
  refine W_nil ?_
  refine N_seq ?_
  refine C_seq ?_
  refine C_region ?_
  refine wm (i := 0) rfl rfl rfl rfl ?_
  refine wc (i := 1) rfl rfl rfl rfl ?_
  refine W_q (i := 2) rfl rfl rfl (q_fieldAddr fb_84_5 rfl rfl) ?_
  refine W_q (i := 3) rfl rfl rfl (q_load ag_63 rfl aP rfl) ?_
  refine wm (i := 4) rfl rfl rfl rfl ?_
  refine W_call (i := 5) rfl rfl rfl rfl rfl rfl pf_36 (s_mup y.mx hy.mx n true) aC ?_
  rintro _ _ ⟨rfl, rfl⟩
  rw [if_pos hin, if_pos hin]
  refine wa (i := 6) rfl rfl rfl rfl ?_
  refine W_nil ?_
  refine N_seq ?_
  refine C_ret fun a w ha hk => ?_
  exact R_val (e := .ret) (.inl rfl) ha.defers (res1 ha rfl rfl) (hR _ _ _ ⟨by rw [he], ({ ({ y with ups := addS y.ups n } : BrA) with mx := putMx y.mx (y.mx.m.setUp n true) } : BrA), ⟨(hy.su n true hin).ups (addS y.ups n), by rw [he]; rfl, rfl, Nat.le_refl _⟩, rfl⟩ (hk.take (by (try simp only [BrA.kb_eq, BrA.jsK, BrA.osK, BrA.isK, BrA.dsK, BrA.msK]); exact aT)))
set_option maxHeartbeats 2000000 in
theorem s_badd [Bs] (y : BrA) (hy : y.Ok) (ja : Qd.ApiJob) (ver : Int) (hid : 0 ≤ ja.id ∧ ja.id < 4294967296) (hsz0 : y.sz + 17 ≤ BIG) : Spec Tryz.prog 13 [y.ptr, .agg (jobV ja).toArray, .int .u32 ver] (y.kb) (fun v K' => v = .int .i64 (y.b.add ja ver).1 ∧ ∃ y', BTop y y' (y.b.add ja ver).2 17 ∧ K' = y'.kb) := by
 refine spec_body Tryz.func13 rfl rfl fun F R hR => ?_
 try simp only [NL]
 rw [BrA.kb_eq]
 try simp only [NL]
 refine C_seq ?_
 refine C_region ?_
 refine W_e (i := 0) rfl rfl rfl (e_box rfl) ?_
 intro b4
 refine wa (i := 1) rfl rfl rfl rfl ?_
 refine W_nil ?_
 refine N_seq ?_
 refine C_seq ?_
 refine C_block ?_
 refine C_seq ?_
 refine C_region ?_
 refine wm (i := 0) rfl rfl rfl rfl ?_
 refine W_q (i := 1) rfl rfl rfl (q_eqPtrNil Tryz.underlying27 rfl rfl) ?_
 refine wa (i := 2) rfl rfl rfl rfl ?_
 refine W_nil ?_
 refine N_seq ?_
 refine C_condF rfl ?_
 refine C_seq ?_
 refine C_draw (.cons 0 .pure (.cons 1 .read (.cons 2 .pure (.cons 3 .pure (.cons 4 .pure (.cons 5 .read (.cons 6 .pure (.cons 7 .pure (.cons 8 .pure (.cons 9 .pure (.cons 10 .read (.cons 11 .pure (.cons 12 .pure (.cons 13 .pure (.cons 14 .pure (.cons 15 .read (.cons 16 .pure (.cons 17 .pure (.cons 18 .pure (.cons 19 .pure (.cons 20 .read (.cons 21 .pure (.cons 22 .pure (.cons 23 .pure (.cons 24 .pure (.cons 25 .read (.cons 26 .pure (.cons 27 .pure (.cons 28 .pure (.cons 29 .pure (.cons 30 .read (.cons 31 .pure (.cons 32 .pure (.cons 33 .pure (.cons 34 .pure (.cons 35 .read (.cons 36 .pure (.cons 37 .read (.cons 38 .pure (.cons 39 .pure (.cons 40 .pure (.cons 41 .pure (.cons 42 .read (.cons 43 .pure (.cons 44 .pure (.cons 45 .pure .nil)))))))))))))))))))))))))))))))))))))))))))))) (fun w => Knows w _) 46 mo (by kernel_rfl) (fun _ h => h) ?_
 refine D_p rfl rfl rfl (q_fieldAddr fb_35_0 rfl rfl) ?_
 refine D_r rfl rfl rfl (q_load ag_31 rfl aP rfl) ?_
 refine D_p rfl rfl rfl (q_int rfl rfl rfl) ?_
 refine D_p rfl rfl rfl (q_move rfl) ?_
 refine D_bool 15 _ rfl (fun ht15 => ?_) (fun ht15 => ?_)
 ·
  try simp only [CL] at ht15
  have hae : y.b.addErr ja = 1 := by rw [Qd.Brain.addErr, if_pos (by exact .inl ht15)]
  have he : y.b.add ja ver = (1, y.b) := by rw [Qd.Brain.add, if_pos (by rw [hae]; decide), hae]
  refine D_pskip rfl rfl rfl ?_
  refine D_rskip rfl rfl rfl ?_
  refine D_pskip rfl rfl rfl ?_
  refine D_p rfl rfl rfl (q_pickT rfl rfl) ?_
  refine D_p rfl rfl rfl (q_move rfl) ?_
  refine D_pskip rfl rfl rfl ?_
  refine D_rskip rfl rfl rfl ?_
  refine D_pskip rfl rfl rfl ?_
  refine D_pskip rfl rfl rfl ?_
  refine D_pskip rfl rfl rfl ?_
  refine D_pskip rfl rfl rfl ?_
  refine D_rskip rfl rfl rfl ?_
  refine D_pskip rfl rfl rfl ?_
  refine D_p rfl rfl rfl (q_pickT rfl rfl) ?_
  refine D_p rfl rfl rfl (q_move rfl) ?_
  refine D_pskip rfl rfl rfl ?_
  refine D_rskip rfl rfl rfl ?_
  refine D_pskip rfl rfl rfl ?_
  refine D_p rfl rfl rfl (q_pickT rfl rfl) ?_
  refine D_p rfl rfl rfl (q_move rfl) ?_
  refine D_pskip rfl rfl rfl ?_
  refine D_rskip rfl rfl rfl ?_
  refine D_pskip rfl rfl rfl ?_
  refine D_p rfl rfl rfl (q_pickT rfl rfl) ?_
  refine D_p rfl rfl rfl (q_move rfl) ?_
  refine D_pskip rfl rfl rfl ?_
  refine D_rskip rfl rfl rfl ?_
  refine D_pskip rfl rfl rfl ?_
  refine D_p rfl rfl rfl (q_pickT rfl rfl) ?_
  refine D_p rfl rfl rfl (q_move rfl) ?_
  refine D_pskip rfl rfl rfl ?_
  refine D_rskip rfl rfl rfl ?_
  refine D_pskip rfl rfl rfl ?_
  refine D_rskip rfl rfl rfl ?_
  refine D_pskip rfl rfl rfl ?_
  refine D_p rfl rfl rfl (q_pickT rfl rfl) ?_
  refine D_p rfl rfl rfl (q_move rfl) ?_
  refine D_pskip rfl rfl rfl ?_
  refine D_rskip rfl rfl rfl ?_
  refine D_pskip rfl rfl rfl ?_
  refine D_p rfl rfl rfl (q_pickT rfl rfl) ?_
  refine D_p rfl rfl rfl (q_assign rfl) ?_
  refine D_nil ?_
  refine N_seq ?_
  refine C_condT rfl ?_
  refine C_seq ?_
  refine C_region ?_
  refine wa (i := 0) rfl rfl rfl rfl ?_
  refine W_nil ?_
  refine N_seq ?_
  refine C_ret fun a w ha hk => ?_
  exact R_val (e := .ret) (.inl rfl) ha.defers (res1 ha rfl rfl) (hR _ _ _ ⟨by rw [he], y, ⟨hy, by rw [he], rfl, Nat.le_add_right _ _⟩, rfl⟩ (hk.take (by (try simp only [BrA.kb_eq]); exact aT)))
 ·
  try simp only [CL] at ht15
  refine D_p rfl rfl rfl (q_fieldAddr fb_35_2 rfl rfl) ?_
  refine D_r rfl rfl rfl (q_load ag_3 rfl aP rfl) ?_
  refine D_p rfl rfl rfl (q_int rfl rfl rfl) ?_
  refine D_p rfl rfl rfl (q_pickF rfl rfl) ?_
  refine D_p rfl rfl rfl (q_move rfl) ?_
  refine D_bool 20 _ rfl (fun ht20 => ?_) (fun ht20 => ?_)
  ·
   try simp only [CL] at ht20
   have hae : y.b.addErr ja = 1 := by rw [Qd.Brain.addErr, if_pos (by exact .inr (.inl ht20))]
   have he : y.b.add ja ver = (1, y.b) := by rw [Qd.Brain.add, if_pos (by rw [hae]; decide), hae]
   refine D_pskip rfl rfl rfl ?_
   refine D_rskip rfl rfl rfl ?_
   refine D_pskip rfl rfl rfl ?_
   refine D_pskip rfl rfl rfl ?_
   refine D_pskip rfl rfl rfl ?_
   refine D_pskip rfl rfl rfl ?_
   refine D_rskip rfl rfl rfl ?_
   refine D_pskip rfl rfl rfl ?_
   refine D_p rfl rfl rfl (q_pickT rfl rfl) ?_
   refine D_p rfl rfl rfl (q_move rfl) ?_
   refine D_pskip rfl rfl rfl ?_
   refine D_rskip rfl rfl rfl ?_
   refine D_pskip rfl rfl rfl ?_
   refine D_p rfl rfl rfl (q_pickT rfl rfl) ?_
   refine D_p rfl rfl rfl (q_move rfl) ?_
   refine D_pskip rfl rfl rfl ?_
   refine D_rskip rfl rfl rfl ?_
   refine D_pskip rfl rfl rfl ?_
   refine D_p rfl rfl rfl (q_pickT rfl rfl) ?_
   refine D_p rfl rfl rfl (q_move rfl) ?_
   refine D_pskip rfl rfl rfl ?_
   refine D_rskip rfl rfl rfl ?_
   refine D_pskip rfl rfl rfl ?_
   refine D_p rfl rfl rfl (q_pickT rfl rfl) ?_
   refine D_p rfl rfl rfl (q_move rfl) ?_
   refine D_pskip rfl rfl rfl ?_
   refine D_rskip rfl rfl rfl ?_
   refine D_pskip rfl rfl rfl ?_
   refine D_rskip rfl rfl rfl ?_
   refine D_pskip rfl rfl rfl ?_
   refine D_p rfl rfl rfl (q_pickT rfl rfl) ?_
   refine D_p rfl rfl rfl (q_move rfl) ?_
   refine D_pskip rfl rfl rfl ?_
   refine D_rskip rfl rfl rfl ?_
   refine D_pskip rfl rfl rfl ?_
   refine D_p rfl rfl rfl (q_pickT rfl rfl) ?_
   refine D_p rfl rfl rfl (q_assign rfl) ?_
   refine D_nil ?_
   refine N_seq ?_
   refine C_condT rfl ?_
   refine C_seq ?_
   refine C_region ?_
   refine wa (i := 0) rfl rfl rfl rfl ?_
   refine W_nil ?_
   refine N_seq ?_
   refine C_ret fun a w ha hk => ?_
   exact R_val (e := .ret) (.inl rfl) ha.defers (res1 ha rfl rfl) (hR _ _ _ ⟨by rw [he], y, ⟨hy, by rw [he], rfl, Nat.le_add_right _ _⟩, rfl⟩ (hk.take (by (try simp only [BrA.kb_eq]); exact aT)))
  ·
   try simp only [CL] at ht20
   refine D_p rfl rfl rfl (q_fieldAddr fb_35_2 rfl rfl) ?_
   refine D_r rfl rfl rfl (q_load ag_3 rfl aP rfl) ?_
   refine D_p rfl rfl rfl (q_move rfl) ?_
   refine D_p rfl rfl rfl (q_nilCheck rfl) ?_
   refine D_p rfl rfl rfl (q_fieldAddr fb_84_0 rfl rfl) ?_
   refine D_p rfl rfl rfl (q_fieldAddr fb_25_0 rfl rfl) ?_
   refine D_r rfl rfl rfl (q_load ag_3 rfl aP rfl) ?_
   refine D_p rfl rfl rfl (q_int rfl rfl rfl) ?_
   refine D_p rfl rfl rfl (q_pickF rfl rfl) ?_
   refine D_p rfl rfl rfl (q_move rfl) ?_
   refine D_bool 30 _ rfl (fun ht30 => ?_) (fun ht30 => ?_)
   ·
    try simp only [CL] at ht30
    have hae : y.b.addErr ja = 1 := by rw [Qd.Brain.addErr, if_pos (by exact .inr (.inr (.inl ht30)))]
    have he : y.b.add ja ver = (1, y.b) := by rw [Qd.Brain.add, if_pos (by rw [hae]; decide), hae]
    refine D_pskip rfl rfl rfl ?_
    refine D_rskip rfl rfl rfl ?_
    refine D_pskip rfl rfl rfl ?_
    refine D_p rfl rfl rfl (q_pickT rfl rfl) ?_
    refine D_p rfl rfl rfl (q_move rfl) ?_
    refine D_pskip rfl rfl rfl ?_
    refine D_rskip rfl rfl rfl ?_
    refine D_pskip rfl rfl rfl ?_
    refine D_p rfl rfl rfl (q_pickT rfl rfl) ?_
    refine D_p rfl rfl rfl (q_move rfl) ?_
    refine D_pskip rfl rfl rfl ?_
    refine D_rskip rfl rfl rfl ?_
    refine D_pskip rfl rfl rfl ?_
    refine D_p rfl rfl rfl (q_pickT rfl rfl) ?_
    refine D_p rfl rfl rfl (q_move rfl) ?_
    refine D_pskip rfl rfl rfl ?_
    refine D_rskip rfl rfl rfl ?_
    refine D_pskip rfl rfl rfl ?_
    refine D_rskip rfl rfl rfl ?_
    refine D_pskip rfl rfl rfl ?_
    refine D_p rfl rfl rfl (q_pickT rfl rfl) ?_
    refine D_p rfl rfl rfl (q_move rfl) ?_
    refine D_pskip rfl rfl rfl ?_
    refine D_rskip rfl rfl rfl ?_
    refine D_pskip rfl rfl rfl ?_
    refine D_p rfl rfl rfl (q_pickT rfl rfl) ?_
    refine D_p rfl rfl rfl (q_assign rfl) ?_
    refine D_nil ?_
    refine N_seq ?_
    refine C_condT rfl ?_
    refine C_seq ?_
    refine C_region ?_
    refine wa (i := 0) rfl rfl rfl rfl ?_
    refine W_nil ?_
    refine N_seq ?_
    refine C_ret fun a w ha hk => ?_
    exact R_val (e := .ret) (.inl rfl) ha.defers (res1 ha rfl rfl) (hR _ _ _ ⟨by rw [he], y, ⟨hy, by rw [he], rfl, Nat.le_add_right _ _⟩, rfl⟩ (hk.take (by (try simp only [BrA.kb_eq]); exact aT)))
   ·
    try simp only [CL] at ht30
    refine D_p rfl rfl rfl (q_fieldAddr fb_35_3 rfl rfl) ?_
    refine D_r rfl rfl rfl (q_load ag_3 rfl aP rfl) ?_
    refine D_p rfl rfl rfl (q_int rfl rfl rfl) ?_
    refine D_p rfl rfl rfl (q_pickF rfl rfl) ?_
    refine D_p rfl rfl rfl (q_move rfl) ?_
    refine D_bool 35 _ rfl (fun ht35 => ?_) (fun ht35 => ?_)
    ·
     try simp only [CL] at ht35
     have hae : y.b.addErr ja = 1 := by rw [Qd.Brain.addErr, if_pos (by exact .inr (.inr (.inr (.inl ht35))))]
     have he : y.b.add ja ver = (1, y.b) := by rw [Qd.Brain.add, if_pos (by rw [hae]; decide), hae]
     refine D_pskip rfl rfl rfl ?_
     refine D_rskip rfl rfl rfl ?_
     refine D_pskip rfl rfl rfl ?_
     refine D_p rfl rfl rfl (q_pickT rfl rfl) ?_
     refine D_p rfl rfl rfl (q_move rfl) ?_
     refine D_pskip rfl rfl rfl ?_
     refine D_rskip rfl rfl rfl ?_
     refine D_pskip rfl rfl rfl ?_
     refine D_p rfl rfl rfl (q_pickT rfl rfl) ?_
     refine D_p rfl rfl rfl (q_move rfl) ?_
     refine D_pskip rfl rfl rfl ?_
     refine D_rskip rfl rfl rfl ?_
     refine D_pskip rfl rfl rfl ?_
     refine D_rskip rfl rfl rfl ?_
     refine D_pskip rfl rfl rfl ?_
     refine D_p rfl rfl rfl (q_pickT rfl rfl) ?_
     refine D_p rfl rfl rfl (q_move rfl) ?_
     refine D_pskip rfl rfl rfl ?_
     refine D_rskip rfl rfl rfl ?_
     refine D_pskip rfl rfl rfl ?_
     refine D_p rfl rfl rfl (q_pickT rfl rfl) ?_
     refine D_p rfl rfl rfl (q_assign rfl) ?_
     refine D_nil ?_
     refine N_seq ?_
     refine C_condT rfl ?_
     refine C_seq ?_
     refine C_region ?_
     refine wa (i := 0) rfl rfl rfl rfl ?_
     refine W_nil ?_
     refine N_seq ?_
     refine C_ret fun a w ha hk => ?_
     exact R_val (e := .ret) (.inl rfl) ha.defers (res1 ha rfl rfl) (hR _ _ _ ⟨by rw [he], y, ⟨hy, by rw [he], rfl, Nat.le_add_right _ _⟩, rfl⟩ (hk.take (by (try simp only [BrA.kb_eq]); exact aT)))
    ·
     try simp only [CL] at ht35
     refine D_p rfl rfl rfl (q_fieldAddr fb_35_3 rfl rfl) ?_
     refine D_r rfl rfl rfl (q_load ag_3 rfl aP rfl) ?_
     refine D_p rfl rfl rfl (q_int rfl rfl rfl) ?_
     refine D_p rfl rfl rfl (q_pickF rfl rfl) ?_
     refine D_p rfl rfl rfl (q_move rfl) ?_
     refine D_bool 40 _ rfl (fun ht40 => ?_) (fun ht40 => ?_)
     ·
      try simp only [CL] at ht40
      have hae : y.b.addErr ja = 1 := by rw [Qd.Brain.addErr, if_pos (by exact .inr (.inr (.inr (.inr (.inl ht40)))))]
      have he : y.b.add ja ver = (1, y.b) := by rw [Qd.Brain.add, if_pos (by rw [hae]; decide), hae]
      refine D_pskip rfl rfl rfl ?_
      refine D_rskip rfl rfl rfl ?_
      refine D_pskip rfl rfl rfl ?_
      refine D_p rfl rfl rfl (q_pickT rfl rfl) ?_
      refine D_p rfl rfl rfl (q_move rfl) ?_
      refine D_pskip rfl rfl rfl ?_
      refine D_rskip rfl rfl rfl ?_
      refine D_pskip rfl rfl rfl ?_
      refine D_rskip rfl rfl rfl ?_
      refine D_pskip rfl rfl rfl ?_
      refine D_p rfl rfl rfl (q_pickT rfl rfl) ?_
      refine D_p rfl rfl rfl (q_move rfl) ?_
      refine D_pskip rfl rfl rfl ?_
      refine D_rskip rfl rfl rfl ?_
      refine D_pskip rfl rfl rfl ?_
      refine D_p rfl rfl rfl (q_pickT rfl rfl) ?_
      refine D_p rfl rfl rfl (q_assign rfl) ?_
      refine D_nil ?_
      refine N_seq ?_
      refine C_condT rfl ?_
      refine C_seq ?_
      refine C_region ?_
      refine wa (i := 0) rfl rfl rfl rfl ?_
      refine W_nil ?_
      refine N_seq ?_
      refine C_ret fun a w ha hk => ?_
      exact R_val (e := .ret) (.inl rfl) ha.defers (res1 ha rfl rfl) (hR _ _ _ ⟨by rw [he], y, ⟨hy, by rw [he], rfl, Nat.le_add_right _ _⟩, rfl⟩ (hk.take (by (try simp only [BrA.kb_eq]); exact aT)))
     ·
      try simp only [CL] at ht40
      refine D_p rfl rfl rfl (q_fieldAddr fb_35_5 rfl rfl) ?_
      refine D_r rfl rfl rfl (q_load ag_3 rfl aP rfl) ?_
      refine D_p rfl rfl rfl (q_int rfl rfl rfl) ?_
      refine D_p rfl rfl rfl (q_pickF rfl rfl) ?_
      refine D_p rfl rfl rfl (q_move rfl) ?_
      refine D_bool 45 _ rfl (fun ht45 => ?_) (fun ht45 => ?_)
      ·
       try simp only [CL] at ht45
       have hae : y.b.addErr ja = 1 := by rw [Qd.Brain.addErr, if_pos (by exact .inr (.inr (.inr (.inr (.inr (.inl ht45))))))]
       have he : y.b.add ja ver = (1, y.b) := by rw [Qd.Brain.add, if_pos (by rw [hae]; decide), hae]
       refine D_pskip rfl rfl rfl ?_
       refine D_rskip rfl rfl rfl ?_
       refine D_pskip rfl rfl rfl ?_
       refine D_rskip rfl rfl rfl ?_
       refine D_pskip rfl rfl rfl ?_
       refine D_p rfl rfl rfl (q_pickT rfl rfl) ?_
       refine D_p rfl rfl rfl (q_move rfl) ?_
       refine D_pskip rfl rfl rfl ?_
       refine D_rskip rfl rfl rfl ?_
       refine D_pskip rfl rfl rfl ?_
       refine D_p rfl rfl rfl (q_pickT rfl rfl) ?_
       refine D_p rfl rfl rfl (q_assign rfl) ?_
       refine D_nil ?_
       refine N_seq ?_
       refine C_condT rfl ?_
       refine C_seq ?_
       refine C_region ?_
       refine wa (i := 0) rfl rfl rfl rfl ?_
       refine W_nil ?_
       refine N_seq ?_
       refine C_ret fun a w ha hk => ?_
       exact R_val (e := .ret) (.inl rfl) ha.defers (res1 ha rfl rfl) (hR _ _ _ ⟨by rw [he], y, ⟨hy, by rw [he], rfl, Nat.le_add_right _ _⟩, rfl⟩ (hk.take (by (try simp only [BrA.kb_eq]); exact aT)))
      ·
       try simp only [CL] at ht45
       refine D_p rfl rfl rfl (q_fieldAddr fb_35_5 rfl rfl) ?_
       refine D_r rfl rfl rfl (q_load ag_3 rfl aP rfl) ?_
       refine D_p rfl rfl rfl (q_fieldAddr fb_35_3 rfl rfl) ?_
       refine D_r rfl rfl rfl (q_load ag_3 rfl aP rfl) ?_
       refine D_p rfl rfl rfl (q_int rfl rfl rfl) ?_
       refine D_p rfl rfl rfl (q_pickF rfl rfl) ?_
       refine D_p rfl rfl rfl (q_move rfl) ?_
       refine D_bool 52 _ rfl (fun ht52 => ?_) (fun ht52 => ?_)
       ·
        try simp only [CL] at ht52
        have hae : y.b.addErr ja = 1 := by rw [Qd.Brain.addErr, if_pos (by exact .inr (.inr (.inr (.inr (.inr (.inr (.inl ht52)))))))]
        have he : y.b.add ja ver = (1, y.b) := by rw [Qd.Brain.add, if_pos (by rw [hae]; decide), hae]
        refine D_pskip rfl rfl rfl ?_
        refine D_rskip rfl rfl rfl ?_
        refine D_pskip rfl rfl rfl ?_
        refine D_p rfl rfl rfl (q_pickT rfl rfl) ?_
        refine D_p rfl rfl rfl (q_assign rfl) ?_
        refine D_nil ?_
        refine N_seq ?_
        refine C_condT rfl ?_
        refine C_seq ?_
        refine C_region ?_
        refine wa (i := 0) rfl rfl rfl rfl ?_
        refine W_nil ?_
        refine N_seq ?_
        refine C_ret fun a w ha hk => ?_
        exact R_val (e := .ret) (.inl rfl) ha.defers (res1 ha rfl rfl) (hR _ _ _ ⟨by rw [he], y, ⟨hy, by rw [he], rfl, Nat.le_add_right _ _⟩, rfl⟩ (hk.take (by (try simp only [BrA.kb_eq]); exact aT)))
       ·
        try simp only [CL] at ht52
        refine D_p rfl rfl rfl (q_fieldAddr fb_35_1 rfl rfl) ?_
        refine D_r rfl rfl rfl (q_load ag_5 rfl aP rfl) ?_
        refine D_p rfl rfl rfl (q_int rfl rfl rfl) ?_
        refine D_p rfl rfl rfl (q_pickF rfl rfl) ?_
        refine D_p rfl rfl rfl (q_assign rfl) ?_
        refine D_nil ?_
        refine N_seq ?_
        refine C_cond rfl (fun ht11 => ?_) (fun ht11 => ?_)
        ·
         try simp only [CL] at ht11
         have hae : y.b.addErr ja = 1 := by rw [Qd.Brain.addErr, if_pos (by exact .inr (.inr (.inr (.inr (.inr (.inr (.inr (ht11))))))))]
         have he : y.b.add ja ver = (1, y.b) := by rw [Qd.Brain.add, if_pos (by rw [hae]; decide), hae]
         refine C_seq ?_
         refine C_region ?_
         refine wa (i := 0) rfl rfl rfl rfl ?_
         refine W_nil ?_
         refine N_seq ?_
         refine C_ret fun a w ha hk => ?_
         exact R_val (e := .ret) (.inl rfl) ha.defers (res1 ha rfl rfl) (hR _ _ _ ⟨by rw [he], y, ⟨hy, by rw [he], rfl, Nat.le_add_right _ _⟩, rfl⟩ (hk.take (by (try simp only [BrA.kb_eq]); exact aT)))
        ·
         try simp only [CL] at ht11
         have hgood : ¬ (ja.id = 0 ∨ ja.k < 1 ∨ ja.k > y.b.c.nodes ∨ ja.w < 1 ∨ ja.w > 10000 ∨ ja.credit < 0 ∨ ja.credit > ja.w ∨ ja.tier > 3) := by have e : y.b.c.nodes = y.c.nodes := rfl; rw [e]; omega
         refine C_seq ?_
         refine C_draw (.cons 0 .pure (.cons 1 .pure (.cons 2 .pure (.cons 3 .read (.cons 4 .pure (.cons 5 .read (.cons 6 .read (.cons 7 .pure (.cons 8 .pure .nil))))))))) (fun w => Knows w _) 9 mo (by kernel_rfl) (fun _ h => h) ?_
         refine D_p rfl rfl rfl (q_move rfl) ?_
         refine D_p rfl rfl rfl (q_nilCheck rfl) ?_
         refine D_p rfl rfl rfl (q_fieldAddr fb_84_4 rfl rfl) ?_
         refine D_r rfl rfl rfl (q_load ag_82 rfl aP rfl) ?_
         refine D_p rfl rfl rfl (q_fieldAddr fb_35_0 rfl rfl) ?_
         refine D_r rfl rfl rfl (q_load ag_31 rfl aP rfl) ?_
         refine D_r rfl rfl rfl (q_lookup Tryz.underlying82 Tryz.underlying31 zf_86 rfl rfl (MapAt.of aP) (look_ptr _ _)) ?_
         refine D_p rfl rfl rfl (q_nePtrV Tryz.underlying86 rfl rfl) ?_
         refine D_p rfl rfl rfl (q_assign rfl) ?_
         refine D_nil ?_
         refine N_seq ?_
         refine C_cond rfl (fun ht57 => ?_) (fun ht57 => ?_)
         ·
          try simp only [CL] at ht57
          have hae : y.b.addErr ja = 7 := by rw [Qd.Brain.addErr, if_neg hgood, if_pos (by rw [job_b]; simpa using ht57)]
          have he : y.b.add ja ver = (7, y.b) := by rw [Qd.Brain.add, if_pos (by rw [hae]; decide), hae]
          refine C_seq ?_
          refine C_region ?_
          refine wa (i := 0) rfl rfl rfl rfl ?_
          refine W_nil ?_
          refine N_seq ?_
          refine C_ret fun a w ha hk => ?_
          exact R_val (e := .ret) (.inl rfl) ha.defers (res1 ha rfl rfl) (hR _ _ _ ⟨by rw [he], y, ⟨hy, by rw [he], rfl, Nat.le_add_right _ _⟩, rfl⟩ (hk.take (by (try simp only [BrA.kb_eq]); exact aT)))
         ·
          try simp only [CL] at ht57
          have hno : Qd.lookA y.jobs ja.id = none := by simpa using ht57
          have hae : y.b.addErr ja = 0 := by rw [Qd.Brain.addErr, if_neg hgood, if_neg (by rw [job_b, hno]; simp)]
          have he : y.b.add ja ver = (0, Qd.Brain.finish (y.b.setJob ja.id { j := { ja with state := 0 }, work := ja.credit, ver }) ja.id { j := { ja with state := 0 }, work := ja.credit, ver }) := by rw [Qd.Brain.add, if_neg (by rw [hae]; decide)]
          have hkn : ja.k ≤ y.c.nodes := by have e : y.b.c.nodes = y.c.nodes := rfl; rw [e] at hgood; omega
          refine C_skip ?_
          refine N_seq ?_
          refine C_seq ?_
          refine C_region ?_
          refine W_q (i := 0) rfl rfl rfl (q_fieldAddr fb_35_4 rfl rfl) ?_
          refine W_e (i := 1) rfl rfl rfl (e_store sz_5 rfl rfl rfl aU (by first | decide | exact Nat.le_of_ble_eq_true rfl | simp [splice, Value.cells])) ?_
          intro _
          refine W_nil ?_
          refine N_seq ?_
          refine C_seq ?_
          refine C_region ?_
          refine W_q (i := 0) rfl rfl rfl (q_loadAgg (us := (jobV { ja with state := 0 })) ag_35 sz_35 rfl aP (by simp [jobV, Value.cells]) rfl) ?_
          refine W_q (i := 1) rfl rfl rfl (q_fieldAddr fb_35_5 rfl rfl) ?_
          refine W_q (i := 2) rfl rfl rfl (q_load ag_3 rfl aP rfl) ?_
          refine wm (i := 3) rfl rfl rfl rfl ?_
          refine W_q (i := 4) rfl rfl rfl (q_build (vs := [(0, .agg (jobV { ja with state := 0 }).toArray), (3, .int .i64 ja.credit), (4, .int .u32 ver)]) (cs := (freshJob ja ver 0).cells.toArray) ps_90 zf_90 rfl (by simp [Instr.fill, Value.cells, jobV, freshJob, JobA.cells, Sl.val, Sl.nilS, svVal])) ?_
          refine W_e (i := 5) rfl rfl rfl (e_box rfl) ?_
          intro b72
          refine wa (i := 6) rfl rfl rfl rfl ?_
          refine W_nil ?_
          refine N_seq ?_
          refine C_seq ?_
          refine C_draw (.cons 0 .pure (.cons 1 .pure (.cons 2 .pure (.cons 3 .read (.cons 4 .pure (.cons 5 .read (.cons 6 .pure (.cons 7 .eff .nil)))))))) (fun w => Knows w _) 7 mo (by kernel_rfl) (fun _ h => h) ?_
          refine D_p rfl rfl rfl (q_move rfl) ?_
          refine D_p rfl rfl rfl (q_nilCheck rfl) ?_
          refine D_p rfl rfl rfl (q_fieldAddr fb_84_4 rfl rfl) ?_
          refine D_r rfl rfl rfl (q_load ag_82 rfl aP rfl) ?_
          refine D_p rfl rfl rfl (q_fieldAddr fb_35_0 rfl rfl) ?_
          refine D_r rfl rfl rfl (q_load ag_31 rfl aP rfl) ?_
          refine D_p rfl rfl rfl (q_move rfl) ?_
          refine D_e rfl rfl rfl (e_mapUpdate Tryz.underlying82 Tryz.underlying31 rfl rfl (v := (freshJob ja ver b72).ptr) rfl (putI_mapV JobA.ptr y.jobs ja.id (freshJob ja ver b72)) aU) (.inl rfl) ?_
          intro _
          refine D_nil ?_
          refine N_seq ?_
          refine C_seq ?_
          refine C_to ((((y.set ja.id (freshJob ja ver b72))).blk, Cells ((y.set ja.id (freshJob ja ver b72))).cells 84) :: (((y.set ja.id (freshJob ja ver b72))).up, SetB ((y.set ja.id (freshJob ja ver b72))).ups) :: (((y.set ja.id (freshJob ja ver b72))).jb, MapI .u32 (mapV JobA.ptr ((y.set ja.id (freshJob ja ver b72))).jobs)) :: (((y.set ja.id (freshJob ja ver b72))).mx.kb ++ (((y.set ja.id (freshJob ja ver b72))).osK ++ (((y.set ja.id (freshJob ja ver b72))).isK ++ (((y.set ja.id (freshJob ja ver b72))).dsK ++ (((y.set ja.id (freshJob ja ver b72))).msK ++ (stKb ((y.set ja.id (freshJob ja ver b72))).st ++ ((freshJob ja ver b72).kb ++ (mapKb JobA.kb y.jobs ++ F))))))))) (by (try simp only [BrA.set, JobA.kb, JobA.rest, freshJob, BrA.jsK, BrA.osK, BrA.isK, BrA.dsK, BrA.msK, nilS_kb, setKb_none, svKb_none, ranKb_none, Option.getD_none]); exact aT) ?_
          refine C_perm (((y.set ja.id (freshJob ja ver b72))).kb ++ F) ?_ (by rw [BrA.kb_eq]; simp only [List.cons_append, List.append_assoc]; exact ((((((((List.Perm.append_left _ (by rw [← List.append_assoc]; exact (mapKb_new JobA.kb hno).append_right F)).append_left _).append_left _).append_left _).append_left _).append_left _).cons _).cons _).cons _)
          refine C_region ?_
          refine wm (i := 0) rfl rfl rfl rfl ?_
          refine wm (i := 1) rfl rfl rfl rfl ?_
          refine W_call (i := 2) rfl rfl rfl rfl rfl rfl pf_39 (s_finish (y.set ja.id (freshJob ja ver b72)) (hy.add hno (freshJob_ok ⟨by omega, hid.2⟩ (by omega)) rfl hkn) ja.id (freshJob ja ver b72) BrA.set_look (by simpa [BrA.sz, BrA.set] using hsz0)) aC ?_
          rintro _ _ ⟨rfl, y', hto, rfl⟩
          refine W_nil ?_
          refine N_seq ?_
          refine C_seq ?_
          refine C_region ?_
          refine wa (i := 0) rfl rfl rfl rfl ?_
          refine W_nil ?_
          refine N_seq ?_
          refine C_ret fun a w ha hk => ?_
          exact R_val (e := .ret) (.inl rfl) ha.defers (res1 ha rfl rfl) (hR _ _ _ ⟨by rw [he], y', ⟨hto.ok, by rw [hto.b, he, BrA.set_b]; rfl, hto.blk, by have := hto.sz; simpa [BrA.sz, BrA.set] using this⟩, rfl⟩ hk)
end Go.SL
