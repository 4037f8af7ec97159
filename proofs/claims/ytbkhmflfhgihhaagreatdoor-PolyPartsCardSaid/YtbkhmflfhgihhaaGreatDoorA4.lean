/- Symbolic steps of the machine's code: what each piece does, as equations. -/
import Derived.Test.YtbkhmflfhgihhaaGreatDoorA3
import Derived.WalkKit
import Derived.ProofKit
import Derived.OpenShut
import Derived.ShutString
import Derived.ChangeOld
import Derived.Below
import Derived.SizedLaws
import Derived.ChangeArms
import Derived.ChangeShapes
import Derived.LaidMore
import Derived.Carry
set_option linter.all false

set_option linter.unusedSimpArgs false
set_option linter.unusedVariables false
namespace Go.AM
universe u

variable {X : Cx} {k : K} {st : St} {e : Env} {S : Store} {D : List (Nat × List AV)}

def onO {α : Type} (o : Option α) (f : α → Prop) : Prop := match o with | some v => f v | none => False
def onV (o : Option (AV × Store)) (f : AV → Store → Prop) : Prop := match o with | some (v, S) => f v S | none => False
@[go_sem] theorem onO_some {α : Type} (v : α) (f : α → Prop) : onO (some v) f = f v := rfl
@[go_sem] theorem onO_none {α : Type} (f : α → Prop) : onO none f = False := rfl
@[go_sem] theorem onO_map {α γ : Type} (o : Option α) (g : α → γ) (f : γ → Prop) : onO (o.map g) f = onO o fun v => f (g v) := by cases o <;> rfl
@[go_sem] theorem onV_some (v : AV) (S : Store) (f : AV → Store → Prop) : onV (some (v, S)) f = f v S := rfl
@[go_sem] theorem onV_none (f : AV → Store → Prop) : onV none f = False := rfl
@[go_sem] theorem onV_map {α : Type} (o : Option α) (g : α → AV × Store) (f : AV → Store → Prop) : onV (o.map g) f = onO o fun v => f (g v).1 (g v).2 := by cases o <;> rfl
@[go_sem] theorem onO_ite {α : Type} (c : Prop) [Decidable c] (a b : Option α) (f : α → Prop) : onO (if c then a else b) f = if c then onO a f else onO b f := by split <;> rfl
@[go_sem] theorem onV_ite (c : Prop) [Decidable c] (a b : Option (AV × Store)) (f : AV → Store → Prop) : onV (if c then a else b) f = if c then onV a f else onV b f := by split <;> rfl
def onB (v : AV) (f : Bool → Prop) : Prop := match v with | .bool b => f b | _ => False
def onI (v : AV) (f : IntKind → Int → Prop) : Prop := match v with | .int k n => f k n | _ => False
def onNat (v : AV) (f : Nat → Prop) : Prop := match v with | .int _ n => 0 ≤ n ∧ f n.toNat | _ => False
def onAgg (v : AV) (f : List AV → Prop) : Prop := match v with | .agg l => f l | _ => False
def onTup (v : AV) (f : List AV → Prop) : Prop := match v with | .tup l => f l | _ => False
def onStr (v : AV) (f : List UInt8 → Prop) : Prop := match v with | .str l => f l | _ => False
def onPtr (v : AV) (f : Nat → Nat → Nat → Prop) : Prop := match v with | .ptr b g o => f b g o | _ => False
def onIf (v : AV) (f : Nat → AV → Prop) : Prop := match v with | .iface t x => f t x | _ => False
def onFn (v : AV) (f : Nat → List AV → List AV → Prop) : Prop := match v with | .fn n a b => f n a b | _ => False
@[go_sem] theorem onB_mk (b : Bool) (f : Bool → Prop) : onB (.bool b) f = f b := rfl
@[go_sem] theorem onI_mk (k : IntKind) (n : Int) (f : IntKind → Int → Prop) : onI (.int k n) f = f k n := rfl
@[go_sem] theorem onNat_mk (k : IntKind) (n : Nat) (f : Nat → Prop) : onNat (.int k (n : Int)) f = f n := by simp [onNat]
@[go_sem] theorem onNat_lit (k : IntKind) (n : Nat) (f : Nat → Prop) : onNat (.int k (OfNat.ofNat n : Int)) f = f n := by
  show (0 ≤ ((n : Nat) : Int) ∧ f ((n : Nat) : Int).toNat) = f n
  simp
@[go_sem] theorem onAgg_mk (l : List AV) (f : List AV → Prop) : onAgg (.agg l) f = f l := rfl
@[go_sem] theorem onTup_mk (l : List AV) (f : List AV → Prop) : onTup (.tup l) f = f l := rfl
@[go_sem] theorem onStr_mk (l : List UInt8) (f : List UInt8 → Prop) : onStr (.str l) f = f l := rfl
@[go_sem] theorem onPtr_mk (b g o : Nat) (f : Nat → Nat → Nat → Prop) : onPtr (.ptr b g o) f = f b g o := rfl
@[go_sem] theorem onIf_mk (t : Nat) (x : AV) (f : Nat → AV → Prop) : onIf (.iface t x) f = f t x := rfl
@[go_sem] theorem onFn_mk (n : Nat) (a b : List AV) (f : Nat → List AV → List AV → Prop) : onFn (.fn n a b) f = f n a b := rfl

@[congr] theorem onO_congr {α : Type} {o o' : Option α} {f : α → Prop} (h : o = o') : onO o f = onO o' f := by rw [h]
@[congr] theorem onV_congr {o o' : Option (AV × Store)} {f : AV → Store → Prop} (h : o = o') : onV o f = onV o' f := by rw [h]
@[congr] theorem onB_congr {o o' : AV} {f : Bool → Prop} (h : o = o') : onB o f = onB o' f := by rw [h]
@[congr] theorem onI_congr {o o' : AV} {f : IntKind → Int → Prop} (h : o = o') : onI o f = onI o' f := by rw [h]
@[congr] theorem onNat_congr {o o' : AV} {f : Nat → Prop} (h : o = o') : onNat o f = onNat o' f := by rw [h]
@[congr] theorem onAgg_congr {o o' : AV} {f : List AV → Prop} (h : o = o') : onAgg o f = onAgg o' f := by rw [h]
@[congr] theorem onTup_congr {o o' : AV} {f : List AV → Prop} (h : o = o') : onTup o f = onTup o' f := by rw [h]
@[congr] theorem onStr_congr {o o' : AV} {f : List UInt8 → Prop} (h : o = o') : onStr o f = onStr o' f := by rw [h]
@[congr] theorem onPtr_congr {o o' : AV} {f : Nat → Nat → Nat → Prop} (h : o = o') : onPtr o f = onPtr o' f := by rw [h]
@[congr] theorem onIf_congr {o o' : AV} {f : Nat → AV → Prop} (h : o = o') : onIf o f = onIf o' f := by rw [h]
@[congr] theorem onFn_congr {o o' : AV} {f : Nat → List AV → List AV → Prop} (h : o = o') : onFn o f = onFn o' f := by rw [h]

/-- A choice: its branches are looked at when it is made. -/
def sel {α : Sort u} (c : Bool) (a b : α) : α := match c with | true => a | false => b
@[congr] theorem sel_congr {α : Sort u} {c c' : Bool} {a b : α} (h : c = c') : sel c a b = sel c' a b := by rw [h]
@[go_sem] theorem sel_true {α : Sort u} (a b : α) : sel true a b = a := rfl
@[go_sem] theorem sel_false {α : Sort u} (a b : α) : sel false a b = b := rfl
theorem sel_dec (p : Prop) [Decidable p] (a b : Prop) : sel (decide p) a b = if p then a else b := by by_cases h : p <;> simp [h, sel]

/- code -/
@[go_sem ↓] theorem cw_skip : CC.wp X .skip k st = k .normal st := rfl
@[go_sem ↓] theorem cw_reg (t : RT) (l : List Nat) (gc : Bool) : CC.wp X (.reg t l gc) k st = RT.wp X (k.pruned l gc) t st := rfl
@[go_sem ↓] theorem cw_seq (a b : CC) : CC.wp X (.seq a b) k st = CC.wp X a (k.andThen (CC.wp X b k)) st := rfl
@[go_sem ↓] theorem cw_block (i : Nat) (b : CC) : CC.wp X (.block i b) k st = CC.wp X b (k.inBlock i) st := rfl
@[go_sem ↓] theorem cw_exit (i : Nat) : CC.wp X (.exit i) k st = k (.exit i) st := rfl
@[go_sem ↓] theorem cw_ret : CC.wp X .ret k st = k .ret st := rfl
@[go_sem ↓] theorem cw_scope (b : CC) : CC.wp X (.scope b) k st = CC.wp X b k st := rfl
@[go_sem ↓] theorem cw_label (i : Nat) : CC.wp X (.label i) k st = k .normal st := rfl

def condP (v : AV) (a b : Prop) : Prop := ∃ t, v = .bool t ∧ (t = true → a) ∧ (t = false → b)
@[go_sem ↓] theorem cw_cond (x : Opd) (a b : CC) : CC.wp X (.cond x a b) k st = condP (x.ev X.G st.env) (CC.wp X a k st) (CC.wp X b k st) := rfl
@[congr] theorem condP_congr {v v' : AV} {a b : Prop} (h : v = v') : condP v a b = condP v' a b := by rw [h]
@[go_sem] theorem condP_true (a b : Prop) : condP (.bool true) a b = a := by simp [condP]
@[go_sem] theorem condP_false (a b : Prop) : condP (.bool false) a b = b := by simp [condP]
@[go_sem] theorem condP_dec (p : Prop) [Decidable p] (a b : Prop) : condP (.bool (decide p)) a b = if p then a else b := by
  by_cases h : p <;> simp [condP, h]
@[go_sem] theorem condP_not (t : Bool) (a b : Prop) : condP (.bool (!t)) a b = condP (.bool t) b a := by cases t <;> simp [condP]
@[go_sem] theorem condP_beq {α : Type} [DecidableEq α] (x y : α) (a b : Prop) : condP (.bool (x == y)) a b = if x = y then a else b := by
  by_cases h : x = y <;> simp [condP, h]
@[go_sem] theorem condP_bne {α : Type} [DecidableEq α] (x y : α) (a b : Prop) : condP (.bool (x != y)) a b = if x = y then b else a := by
  by_cases h : x = y <;> simp [condP, h]
@[go_sem] theorem condP_ite (p : Prop) [Decidable p] (t u : Bool) (a b : Prop) : condP (.bool (if p then t else u)) a b = if p then condP (.bool t) a b else condP (.bool u) a b := by
  split <;> rfl
theorem condP_bool (t : Bool) (a b : Prop) : condP (.bool t) a b = if t then a else b := by cases t <;> simp [condP]

/- ends -/
@[go_sem ↓] theorem andThen_normal (n : St → Prop) : k.andThen n .normal st = n st := rfl
@[go_sem ↓] theorem andThen_exit (n : St → Prop) (i : Nat) : k.andThen n (.exit i) st = k (.exit i) st := rfl
@[go_sem ↓] theorem andThen_ret (n : St → Prop) : k.andThen n .ret st = k .ret st := rfl
@[go_sem ↓] theorem andThen_panic (n : St → Prop) (v : AV) : k.andThen n (.panic v) st = k (.panic v) st := rfl
@[go_sem ↓] theorem inBlock_exit (i j : Nat) : k.inBlock i (.exit j) st = sel (j == i) (k .normal st) (k (.exit j) st) := by
  show (if j = i then k .normal st else k (.exit j) st) = _
  by_cases h : j = i
  · subst h; simp [sel]
  · have : (j == i) = false := by simpa using h
    rw [if_neg h, this]; rfl
@[go_sem ↓] theorem inBlock_normal (i : Nat) : k.inBlock i .normal st = k .normal st := rfl
@[go_sem ↓] theorem inBlock_ret (i : Nat) : k.inBlock i .ret st = k .ret st := rfl
@[go_sem ↓] theorem inBlock_panic (i : Nat) (v : AV) : k.inBlock i (.panic v) st = k (.panic v) st := rfl
@[go_sem ↓] theorem pruned_normal (l : List Nat) : k.pruned l false .normal ⟨e, S, D⟩ = k .normal ⟨e.prune l, S, D⟩ := rfl
@[go_sem ↓] theorem pruned_panic (l : List Nat) (g : Bool) (v : AV) : k.pruned l g (.panic v) st = k (.panic v) st := rfl
@[go_sem ↓] theorem retK_normal (res : List RV) (R : FK) : retK res R .normal st = (st.D = [] ∧ ∃ vs, retVs st.S st.env res = some vs ∧ R (.ret (retOf vs)) st.S) := rfl
@[go_sem ↓] theorem retK_ret (res : List RV) (R : FK) : retK res R .ret st = (st.D = [] ∧ ∃ vs, retVs st.S st.env res = some vs ∧ R (.ret (retOf vs)) st.S) := rfl
@[go_sem ↓] theorem retK_panic (res : List RV) (R : FK) (v : AV) : retK res R (.panic v) st = (st.D = [] ∧ R (.panic v) st.S) := rfl

/-- What comes behind an operation. -/
def nxR (X : Cx) (k : K) (r : RT) (d : Nat) (e : Env) (v : AV) (S : Store) (D : List (Nat × List AV)) : Prop := RT.wp X k r ⟨(d, v) :: e, S, D⟩
def nx0 (X : Cx) (k : K) (r : RT) (e : Env) (v : AV) (S : Store) (D : List (Nat × List AV)) : Prop := RT.wp X k r ⟨e, S, D⟩
def pnR (k : K) (D : List (Nat × List AV)) (v : AV) (S : Store) : Prop := k (.panic v) ⟨[], S, D⟩
def at2 (nx : AV → Store → List (Nat × List AV) → Prop) (S : Store) (D : List (Nat × List AV)) (v : AV) : Prop := nx v S D
def atV (nx : AV → Store → List (Nat × List AV) → Prop) (D : List (Nat × List AV)) (v : AV) (S : Store) : Prop := nx v S D
def atS (nx : AV → Store → List (Nat × List AV) → Prop) (v : AV) (D : List (Nat × List AV)) (S : Store) : Prop := nx v S D
def at1 (pn : AV → Store → Prop) (S : Store) (v : AV) : Prop := pn v S
def feK (nx : AV → Store → List (Nat × List AV) → Prop) (pn : AV → Store → Prop) (D : List (Nat × List AV)) : FK
  | .ret v, S => nx v S D
  | .panic v, S => pn v S
@[go_sem ↓] theorem nxR_app (r : RT) (d : Nat) (v : AV) : nxR X k r d e v S D = RT.wp X k r ⟨(d, v) :: e, S, D⟩ := rfl
@[go_sem ↓] theorem nx0_app (r : RT) (v : AV) : nx0 X k r e v S D = RT.wp X k r ⟨e, S, D⟩ := rfl
@[go_sem ↓] theorem pnR_app (v : AV) : pnR k D v S = k (.panic v) ⟨[], S, D⟩ := rfl
@[go_sem ↓] theorem at2_app (nx : AV → Store → List (Nat × List AV) → Prop) (v : AV) : at2 nx S D v = nx v S D := rfl
@[go_sem ↓] theorem atV_app (nx : AV → Store → List (Nat × List AV) → Prop) (v : AV) : atV nx D v S = nx v S D := rfl
@[go_sem ↓] theorem atS_app (nx : AV → Store → List (Nat × List AV) → Prop) (v : AV) : atS nx v D S = nx v S D := rfl
@[go_sem ↓] theorem at1_app (pn : AV → Store → Prop) (v : AV) : at1 pn S v = pn v S := rfl
@[go_sem ↓] theorem feK_ret (nx : AV → Store → List (Nat × List AV) → Prop) (pn : AV → Store → Prop) (v : AV) : feK nx pn D (.ret v) S = nx v S D := rfl
@[go_sem ↓] theorem feK_pan (nx : AV → Store → List (Nat × List AV) → Prop) (pn : AV → Store → Prop) (v : AV) : feK nx pn D (.panic v) S = pn v S := rfl

/- regions -/
@[go_sem ↓] theorem rt_done : RT.wp X k .done st = k .normal st := rfl
@[go_sem ↓] theorem rt_alt (a b : RT) : RT.wp X k (.alt a b) st = (RT.wp X k a st ∧ RT.wp X k b st) := rfl
@[go_sem ↓] theorem rt_op (d : Nat) (o : COp) (r : RT) : RT.wp X k (.op ⟨some d, o, none⟩ r) ⟨e, S, D⟩ =
    o.beh X e S D (nxR X k r d e) (pnR k D) := rfl
@[go_sem ↓] theorem rt_op0 (o : COp) (r : RT) : RT.wp X k (.op ⟨none, o, none⟩ r) ⟨e, S, D⟩ =
    o.beh X e S D (nx0 X k r e) (pnR k D) := rfl
def onG (v : AV) (want : Bool) (a b : Prop) : Prop := match v with
  | .bool c => if c = want then a else b
  | .tup [] => b
  | _ => False
theorem rt_opg' (d : Option Nat) (o : COp) (i : Nat) (want : Bool) (r : RT) : RT.wp X k (.op ⟨d, o, some (i, want)⟩ r) ⟨e, S, D⟩ =
    onG (e.get i) want (o.beh X e S D (fun v S' D' => RT.wp X k r ⟨e.set d v, S', D'⟩) fun v S' => k (.panic v) ⟨[], S', D⟩)
      (RT.wp X k r ⟨e.set d (.tup []), S, D⟩) := by
  show CI.step X k ⟨d, o, some (i, want)⟩ (RT.wp X k r) ⟨e, S, D⟩ = _
  unfold CI.step CI.on onG
  simp only []
  cases e.get i with
  | bool b => cases b <;> cases want <;> rfl
  | tup l => cases l <;> rfl
  | _ => rfl
@[go_sem ↓] theorem rt_opg (d : Nat) (o : COp) (i : Nat) (want : Bool) (r : RT) : RT.wp X k (.op ⟨some d, o, some (i, want)⟩ r) ⟨e, S, D⟩ =
    onG (e.get i) want (o.beh X e S D (nxR X k r d e) (pnR k D))
      (RT.wp X k r ⟨(d, .tup []) :: e, S, D⟩) := rt_opg' _ _ _ _ _
@[go_sem ↓] theorem rt_opg0 (o : COp) (i : Nat) (want : Bool) (r : RT) : RT.wp X k (.op ⟨none, o, some (i, want)⟩ r) ⟨e, S, D⟩ =
    onG (e.get i) want (o.beh X e S D (nx0 X k r e) (pnR k D))
      (RT.wp X k r ⟨e, S, D⟩) := rt_opg' _ _ _ _ _
@[congr] theorem onG_congr {v v' : AV} {w : Bool} {a b : Prop} (h : v = v') : onG v w a b = onG v' w a b := by rw [h]
@[go_sem] theorem onG_t (c : Bool) (a b : Prop) : onG (.bool c) true a b = sel c a b := by cases c <;> simp [onG, sel]
@[go_sem] theorem onG_f (c : Bool) (a b : Prop) : onG (.bool c) false a b = sel c b a := by cases c <;> simp [onG, sel]
@[go_sem] theorem onG_tup (want : Bool) (a b : Prop) : onG (.tup []) want a b = b := rfl

/- the frame -/
@[go_sem ↓] theorem get_cons (j : Nat) (v : AV) (r : Env) (i : Nat) : Env.get ((j, v) :: r) i = sel (i == j) v (Env.get r i) := by
  show (if i = j then v else Env.get r i) = _
  by_cases h : i = j
  · subst h; simp [sel]
  · have : (i == j) = false := by simpa using h
    rw [if_neg h, this]; rfl
@[go_sem] theorem set_some (d : Nat) (v : AV) : Env.set e (some d) v = (d, v) :: e := rfl
@[go_sem] theorem set_none (v : AV) : Env.set e none v = e := rfl
@[go_sem] theorem prune_nil : Env.prune e [] = [] := rfl
@[go_sem ↓] theorem prune_cons (i : Nat) (r : List Nat) : Env.prune e (i :: r) = (i, e.get i) :: Env.prune e r := rfl
@[go_sem] theorem ofArgs_nil (n : Nat) : Env.ofArgs n [] = [] := rfl
@[go_sem ↓] theorem ofArgs_cons (n : Nat) (v : AV) (r : List AV) : Env.ofArgs n (v :: r) = (n, v) :: Env.ofArgs (n + 1) r := rfl
@[go_sem ↓] theorem ev_t (G : Globs) (i : Nat) : Opd.ev G e (.t i) = e.get i := rfl
@[go_sem ↓] theorem ev_c (G : Globs) (v : AV) : Opd.ev G e (.c v) = v := rfl
@[go_sem] theorem retVs_nil : retVs S e [] = some [] := rfl
@[go_sem] theorem retVs_t (i : Nat) (r : List RV) : retVs S e (.t i :: r) = (retVs S e r).map (e.get i :: ·) := rfl
@[go_sem] theorem retVs_cell (i n : Nat) (agg : Bool) (r : List RV) : retVs S e (.cell i n agg :: r) = (loadV S n agg (e.get i)).bind fun v => (retVs S e r).map (v :: ·) := by
  show (match loadV S n agg (e.get i), retVs S e r with | some v, some vs => some (v :: vs) | _, _ => none) = _
  cases loadV S n agg (e.get i) <;> cases retVs S e r <;> rfl
@[go_sem] theorem retOf_one (v : AV) : retOf [v] = v := rfl
@[go_sem] theorem retOf_nil : retOf [] = .tup [] := rfl
@[go_sem] theorem retOf_two (v u : AV) (r : List AV) : retOf (v :: u :: r) = .tup (v :: u :: r) := rfl


/- operations -/
section
variable {nx : AV → Store → List (Nat × List AV) → Prop} {pn : AV → Store → Prop} {x y i v : Opd}
theorem nat_on (v : AV) (f : Nat → Prop) : onNat v f = onO (natOf v) f := by
  cases v <;> simp only [onNat, natOf, onO]
  split
  · rename_i h; split at h
    · simp_all
    · cases h
  · rename_i h; split at h
    · cases h
    · rename_i h'; exact eq_false fun hh => h' hh.1
@[go_sem ↓] theorem beh_mov : (COp.mov x).beh X e S D nx pn = nx (x.ev X.G e) S D := rfl
@[go_sem ↓] theorem beh_same : (COp.same x).beh X e S D nx pn = nx (x.ev X.G e) S D := rfl
@[go_sem ↓] theorem beh_pick : (COp.pick i x y).beh X e S D nx pn = onB (i.ev X.G e) fun t => nx (sel t (x.ev X.G e) (y.ev X.G e)) S D := by
  show (match (COp.pick i x y).ev X.G e S with | some (v, S') => nx v S' D | none => False) = _
  simp only [COp.ev]; cases i.ev X.G e <;> (try rfl)
  rename_i t; cases t <;> rfl
@[go_sem ↓] theorem beh_bin (op : BinOp) : (COp.bin op x y).beh X e S D nx pn = onO (binV op (x.ev X.G e) (y.ev X.G e)) (at2 nx S D) := by
  show (match (binV op (x.ev X.G e) (y.ev X.G e)).map (·, S) with | some (v, S') => nx v S' D | none => False) = _
  cases binV op (x.ev X.G e) (y.ev X.G e) <;> rfl
@[go_sem ↓] theorem beh_un (op : UnOp) : (COp.un op x).beh X e S D nx pn = onO (unV op (x.ev X.G e)) (at2 nx S D) := by
  show (match (unV op (x.ev X.G e)).map (·, S) with | some (v, S') => nx v S' D | none => False) = _
  cases unV op (x.ev X.G e) <;> rfl
@[go_sem ↓] theorem beh_beq (neg : Bool) : (COp.beq neg x y).beh X e S D nx pn = onB (x.ev X.G e) fun a => onB (y.ev X.G e) fun b => nx (.bool (if neg then !(a == b) else a == b)) S D := by
  show (match (COp.beq neg x y).ev X.G e S with | some (v, S') => nx v S' D | none => False) = _
  simp only [COp.ev]; cases x.ev X.G e <;> (try rfl) <;> cases y.ev X.G e <;> rfl
@[go_sem ↓] theorem beh_nilq (neg : Bool) (k : Nat) : (COp.nilq neg k x).beh X e S D nx pn = onO (isNil k (x.ev X.G e)) fun b => nx (.bool (if neg then !b else b)) S D := by
  show (match (COp.nilq neg k x).ev X.G e S with | some (v, S') => nx v S' D | none => False) = _
  simp only [COp.ev]; cases isNil k (x.ev X.G e) <;> rfl
@[go_sem ↓] theorem beh_peq (neg : Bool) : (COp.peq neg x y).beh X e S D nx pn = onV ((COp.peq neg x y).ev X.G e S) (atV nx D) := rfl
@[go_sem ↓] theorem beh_conv (k : IntKind) : (COp.conv k x).beh X e S D nx pn = onI (x.ev X.G e) fun _ n => nx (.int k (k.wrap n)) S D := by
  show (match (COp.conv k x).ev X.G e S with | some (v, S') => nx v S' D | none => False) = _
  simp only [COp.ev]; cases x.ev X.G e <;> rfl
@[go_sem ↓] theorem beh_cvs : (COp.cvs x).beh X e S D nx pn = onStr (x.ev X.G e) fun s => nx (.str s) S D := by
  show (match (COp.cvs x).ev X.G e S with | some (v, S') => nx v S' D | none => False) = _
  simp only [COp.ev]; cases x.ev X.G e <;> rfl
@[go_sem ↓] theorem beh_s2b (ty : Nat) : (COp.s2b ty x).beh X e S D nx pn = onStr (x.ev X.G e) fun s => nx (.sl S.length 0 0 1 s.length none) (S ++ [.cells (u8s s) ty 0 true]) D := by
  show (match (COp.s2b ty x).ev X.G e S with | some (v, S') => nx v S' D | none => False) = _
  simp only [COp.ev]; cases x.ev X.G e <;> rfl
@[go_sem ↓] theorem beh_b2s : (COp.b2s x).beh X e S D nx pn = onV ((COp.b2s x).ev X.G e S) (atV nx D) := rfl
@[go_sem ↓] theorem beh_field (off n : Nat) (agg : Bool) : (COp.field off n agg x).beh X e S D nx pn = onAgg (x.ev X.G e) fun cs => onO (cut cs off n agg) (at2 nx S D) := by
  show (match (COp.field off n agg x).ev X.G e S with | some (v, S') => nx v S' D | none => False) = _
  simp only [COp.ev]; cases x.ev X.G e <;> (try rfl)
  rename_i cs; show (match (cut cs off n agg).map (·, S) with | some (v, S') => nx v S' D | none => False) = onO (cut cs off n agg) _; cases cut cs off n agg <;> rfl
@[go_sem ↓] theorem beh_idxA (ln sz : Nat) (agg : Bool) : (COp.idxA ln sz agg x i).beh X e S D nx pn = onAgg (x.ev X.G e) fun cs => onNat (i.ev X.G e) fun i => if i < ln then onO (cut cs (i * sz) sz agg) (at2 nx S D) else False := by
  show (match (COp.idxA ln sz agg x i).ev X.G e S with | some (v, S') => nx v S' D | none => False) = _
  simp only [COp.ev, nat_on]; cases x.ev X.G e <;> (try rfl)
  rename_i cs; show _ = onO _ _; cases natOf (i.ev X.G e) <;> (try rfl)
  rename_i i; show (match if i < ln then (cut cs (i * sz) sz agg).map (·, S) else none with | some (v, S') => nx v S' D | none => False) = _
  show _ = if i < ln then onO (cut cs (i * sz) sz agg) _ else False
  by_cases h : i < ln
  · simp only [h, if_true]; cases cut cs (i * sz) sz agg <;> rfl
  · simp only [h, if_false]
@[go_sem ↓] theorem beh_idxS : (COp.idxS x i).beh X e S D nx pn = onStr (x.ev X.G e) fun s => onNat (i.ev X.G e) fun i => onO s[i]? fun c => nx (.int .u8 c.toNat) S D := by
  show (match (COp.idxS x i).ev X.G e S with | some (v, S') => nx v S' D | none => False) = _
  simp only [COp.ev, nat_on]; cases x.ev X.G e <;> (try rfl)
  rename_i cs; show _ = onO _ _; cases natOf (i.ev X.G e) <;> (try rfl)
  rename_i i; show (match (match cs[i]? with | some c => some (AV.int .u8 c.toNat, S) | none => none) with | some (v, S') => nx v S' D | none => False) = onO cs[i]? _
  cases cs[i]? <;> rfl
@[go_sem ↓] theorem beh_extr (j : Nat) : (COp.extr x j).beh X e S D nx pn = onTup (x.ev X.G e) fun vs => onO vs[j]? (at2 nx S D) := by
  show (match (COp.extr x j).ev X.G e S with | some (v, S') => nx v S' D | none => False) = _
  simp only [COp.ev]; cases x.ev X.G e <;> (try rfl)
  rename_i vs; show (match (vs[j]?).map (·, S) with | some (v, S') => nx v S' D | none => False) = onO vs[j]? _; cases vs[j]? <;> rfl
@[go_sem ↓] theorem beh_build (z : List AV) (ps : List (Nat × Nat × Opd)) : (COp.build z ps).beh X e S D nx pn = onO (fillP z (ps.map fun p => (p.1, p.2.1, p.2.2.ev X.G e))) fun cs => nx (.agg cs) S D := by
  show (match (COp.build z ps).ev X.G e S with | some (v, S') => nx v S' D | none => False) = _
  simp only [COp.ev]; cases fillP z (ps.map fun p => (p.1, p.2.1, p.2.2.ev X.G e)) <;> rfl
def nilckV : AV → Option AV
  | .ptr b g off => some (.ptr b g off)
  | .fptr cells => some (.fptr cells)
  | .fn f a b => some (.fn f a b)
  | _ => none
@[go_sem] theorem nilck_ptr (b g o : Nat) : nilckV (.ptr b g o) = some (.ptr b g o) := rfl
@[go_sem] theorem nilck_fptr (l : List AV) : nilckV (.fptr l) = some (.fptr l) := rfl
@[go_sem] theorem nilck_fn (f : Nat) (a b : List AV) : nilckV (.fn f a b) = some (.fn f a b) := rfl
@[go_sem ↓] theorem beh_nilck : (COp.nilck x).beh X e S D nx pn = onO (nilckV (x.ev X.G e)) (at2 nx S D) := by
  show (match (COp.nilck x).ev X.G e S with | some (v, S') => nx v S' D | none => False) = _
  simp only [COp.ev]; cases x.ev X.G e <;> rfl
@[go_sem ↓] theorem beh_mkif (t : Nat) : (COp.mkif t x).beh X e S D nx pn = nx (.iface t (x.ev X.G e)) S D := rfl
@[go_sem ↓] theorem beh_mkfn (f : Nat) (a b : List Opd) : (COp.mkfn f a b).beh X e S D nx pn = nx (.fn f (a.map (·.ev X.G e)) (b.map (·.ev X.G e))) S D := rfl
@[go_sem ↓] theorem beh_tass (t : Nat) (z : AV) (ok : Bool) : (COp.tass t z ok x).beh X e S D nx pn = onV ((COp.tass t z ok x).ev X.G e S) (atV nx D) := rfl
@[go_sem ↓] theorem beh_faddr (off : Nat) : (COp.faddr off x).beh X e S D nx pn = onO (faddrV off (x.ev X.G e)) (at2 nx S D) := by
  show (match (COp.faddr off x).ev X.G e S with | some (v, S') => nx v S' D | none => False) = _
  simp only [COp.ev]; cases faddrV off (x.ev X.G e) <;> rfl
@[go_sem ↓] theorem beh_iaddr (sz : Nat) : (COp.iaddr sz x i).beh X e S D nx pn = onNat (i.ev X.G e) fun i => onO (iaddrV sz i (x.ev X.G e)) (at2 nx S D) := by
  show (match (COp.iaddr sz x i).ev X.G e S with | some (v, S') => nx v S' D | none => False) = _
  simp only [COp.ev, nat_on]; cases natOf (i.ev X.G e) <;> (try rfl)
  rename_i i; show (match (iaddrV sz i (x.ev X.G e)).map (·, S) with | some (v, S') => nx v S' D | none => False) = onO (iaddrV sz i (x.ev X.G e)) _
  cases iaddrV sz i (x.ev X.G e) <;> rfl
@[go_sem ↓] theorem beh_iaddrA (ln sz : Nat) : (COp.iaddrA ln sz x i).beh X e S D nx pn = onNat (i.ev X.G e) fun i => onO (iaddrAV ln sz i (x.ev X.G e)) (at2 nx S D) := by
  show (match (COp.iaddrA ln sz x i).ev X.G e S with | some (v, S') => nx v S' D | none => False) = _
  simp only [COp.ev, nat_on]; cases natOf (i.ev X.G e) <;> (try rfl)
  rename_i i; show (match (iaddrAV ln sz i (x.ev X.G e)).map (·, S) with | some (v, S') => nx v S' D | none => False) = onO (iaddrAV ln sz i (x.ev X.G e)) _
  cases iaddrAV ln sz i (x.ev X.G e) <;> rfl
@[go_sem ↓] theorem beh_alloc (ty : Nat) (z : List AV) : (COp.alloc ty z).beh X e S D nx pn = nx (.ptr S.length 0 0) (S ++ [.cells z ty 0 false]) D := rfl
@[go_sem ↓] theorem beh_box (ty : Nat) : (COp.box ty x).beh X e S D nx pn = ((x.ev X.G e).solid = true ∧ nx (.ptr S.length 0 0) (S ++ [.cells (x.ev X.G e).parts ty 0 false]) D) := by
  show (match (COp.box ty x).ev X.G e S with | some (v, S') => nx v S' D | none => False) = _
  simp only [COp.ev]; split <;> simp_all
@[go_sem ↓] theorem beh_bslice (ty sz ln : Nat) (z : List AV) (ps : List (Nat × Opd)) : (COp.bslice ty sz ln z ps).beh X e S D nx pn = onV ((COp.bslice ty sz ln z ps).ev X.G e S) (atV nx D) := rfl
@[go_sem ↓] theorem beh_mslice (ty sz bytes : Nat) (z : List AV) : (COp.mslice ty sz bytes z x y).beh X e S D nx pn = onNat (x.ev X.G e) fun l => onNat (y.ev X.G e) fun c => (l ≤ c ∧ c * bytes ≤ big ∧ c ≤ big) ∧
    nx (.sl S.length 0 0 sz l (some c)) (S ++ [.cells ((List.replicate c z).flatten) ty 0 false]) D := by
  show (match (COp.mslice ty sz bytes z x y).ev X.G e S with | some (v, S') => nx v S' D | none => False) = _
  simp only [COp.ev, nat_on]; cases natOf (x.ev X.G e) <;> (try rfl)
  show _ = onO _ _; cases natOf (y.ev X.G e) <;> (try rfl)
  rename_i l c
  show _ = ((l ≤ c ∧ c * bytes ≤ big ∧ c ≤ big) ∧ _)
  by_cases h : l ≤ c ∧ c * bytes ≤ big ∧ c ≤ big <;> simp [h]
@[go_sem ↓] theorem beh_mmap : COp.mmap.beh X e S D nx pn = nx (.map S.length 0) (S ++ [.map [] 0 0]) D := rfl
@[go_sem ↓] theorem beh_load (n : Nat) (agg : Bool) : (COp.load n agg x).beh X e S D nx pn = onO (loadV S n agg (x.ev X.G e)) (at2 nx S D) := by
  show (match (COp.load n agg x).ev X.G e S with | some (v, S') => nx v S' D | none => False) = _
  simp only [COp.ev]; cases loadV S n agg (x.ev X.G e) <;> rfl
@[go_sem ↓] theorem beh_store (n : Nat) : (COp.store n x v).beh X e S D nx pn = onPtr (x.ev X.G e) fun b g off => ((v.ev X.G e).solid = true ∧ (v.ev X.G e).parts.length = n) ∧ onO (boxWr S b g off (v.ev X.G e).parts) (atS nx (.tup []) D) := by
  show (match (COp.store n x v).ev X.G e S with | some (v, S') => nx v S' D | none => False) = _
  simp only [COp.ev]; cases x.ev X.G e <;> (try rfl)
  rename_i b g off
  show _ = (((v.ev X.G e).solid = true ∧ (v.ev X.G e).parts.length = n) ∧ onO (boxWr S b g off (v.ev X.G e).parts) fun S' => nx (.tup []) S' D)
  by_cases h : (v.ev X.G e).solid = true ∧ (v.ev X.G e).parts.length = n
  · simp only [h, and_self, if_true, true_and]; cases boxWr S b g off (v.ev X.G e).parts <;> rfl
  · simp only [h, if_false, false_and]
@[go_sem ↓] theorem beh_slS (sz : Nat) (lo hi mx : Option Opd) : (COp.slS sz x lo hi mx).beh X e S D nx pn = onO (slV sz (x.ev X.G e) (lo.map (·.ev X.G e)) (hi.map (·.ev X.G e)) (mx.map (·.ev X.G e))) (at2 nx S D) := by
  show (match (COp.slS sz x lo hi mx).ev X.G e S with | some (v, S') => nx v S' D | none => False) = _
  simp only [COp.ev]; cases slV sz (x.ev X.G e) (lo.map (·.ev X.G e)) (hi.map (·.ev X.G e)) (mx.map (·.ev X.G e)) <;> rfl
@[go_sem ↓] theorem beh_slStr (lo hi : Option Opd) : (COp.slStr x lo hi).beh X e S D nx pn = onO (slStrV (x.ev X.G e) (lo.map (·.ev X.G e)) (hi.map (·.ev X.G e))) (at2 nx S D) := by
  show (match (COp.slStr x lo hi).ev X.G e S with | some (v, S') => nx v S' D | none => False) = _
  simp only [COp.ev]; cases slStrV (x.ev X.G e) (lo.map (·.ev X.G e)) (hi.map (·.ev X.G e)) <;> rfl
@[go_sem ↓] theorem beh_slP (al sz : Nat) (lo hi : Option Opd) : (COp.slP al sz x lo hi).beh X e S D nx pn = onO (slPV al sz (x.ev X.G e) (lo.map (·.ev X.G e)) (hi.map (·.ev X.G e))) (at2 nx S D) := by
  show (match (COp.slP al sz x lo hi).ev X.G e S with | some (v, S') => nx v S' D | none => False) = _
  simp only [COp.ev]; cases slPV al sz (x.ev X.G e) (lo.map (·.ev X.G e)) (hi.map (·.ev X.G e)) <;> rfl
@[go_sem ↓] theorem beh_look (kk : KK) (z : AV) (ok : Bool) : (COp.look kk z ok x y).beh X e S D nx pn = onO (lookV S kk z ok (x.ev X.G e) (y.ev X.G e)) (at2 nx S D) := by
  show (match (COp.look kk z ok x y).ev X.G e S with | some (v, S') => nx v S' D | none => False) = _
  simp only [COp.ev]; cases lookV S kk z ok (x.ev X.G e) (y.ev X.G e) <;> rfl
@[go_sem ↓] theorem beh_mupd (kk : KK) : (COp.mupd kk x y v).beh X e S D nx pn = onO (mupdV S kk (x.ev X.G e) (y.ev X.G e) (v.ev X.G e)) (atS nx (.tup []) D) := by
  show (match (COp.mupd kk x y v).ev X.G e S with | some (v, S') => nx v S' D | none => False) = _
  simp only [COp.ev]; cases mupdV S kk (x.ev X.G e) (y.ev X.G e) (v.ev X.G e) <;> rfl
@[go_sem ↓] theorem beh_del (kk : KK) : (COp.del kk x y).beh X e S D nx pn = onO (delV S kk (x.ev X.G e) (y.ev X.G e)) (atS nx (.tup []) D) := by
  show (match (COp.del kk x y).ev X.G e S with | some (v, S') => nx v S' D | none => False) = _
  simp only [COp.ev]; cases delV S kk (x.ev X.G e) (y.ev X.G e) <;> rfl
@[go_sem ↓] theorem beh_rng (b : Bool) : (COp.rng b x).beh X e S D nx pn = onV ((COp.rng b x).ev X.G e S) (atV nx D) := rfl
@[go_sem ↓] theorem beh_nxtS : (COp.nxt true x).beh X e S D nx pn = onV ((COp.nxt true x).ev X.G e S) (atV nx D) := rfl
@[go_sem ↓] theorem beh_nxtM : (COp.nxt false x).beh X e S D nx pn = onO (nextMap S (x.ev X.G e)) fun l => ∀ p ∈ l, nx p.1 p.2 D := by
  show (match nextMap S (x.ev X.G e) with | some l => ∀ p ∈ l, nx p.1 p.2 D | none => False) = _
  cases nextMap S (x.ev X.G e) <;> rfl
@[go_sem ↓] theorem beh_entry : (COp.entry x).beh X e S D nx pn = onV ((COp.entry x).ev X.G e S) (atV nx D) := rfl
@[go_sem ↓] theorem beh_len0 : (COp.len 0 x).beh X e S D nx pn = onStr (x.ev X.G e) fun s => nx (.int .i64 s.length) S D := by
  show (match (COp.len 0 x).ev X.G e S with | some (v, S') => nx v S' D | none => False) = _
  simp only [COp.ev]; cases x.ev X.G e <;> rfl
@[go_sem ↓] theorem beh_len1 : (COp.len 1 x).beh X e S D nx pn = onO (slLen (x.ev X.G e)) fun n => nx (.int .i64 n) S D := by
  show (match (COp.len 1 x).ev X.G e S with | some (v, S') => nx v S' D | none => False) = _
  simp only [COp.ev]; cases slLen (x.ev X.G e) <;> rfl
@[go_sem ↓] theorem beh_len2 : (COp.len 2 x).beh X e S D nx pn = onV ((COp.len 2 x).ev X.G e S) (atV nx D) := rfl
@[go_sem ↓] theorem beh_alen (n : Nat) : (COp.alen n).beh X e S D nx pn = nx (.int .i64 n) S D := rfl
@[go_sem ↓] theorem beh_cap : (COp.cap x).beh X e S D nx pn = onV ((COp.cap x).ev X.G e S) (atV nx D) := rfl
@[go_sem ↓] theorem beh_app (ty sz bytes : Nat) (z : List AV) (st : Bool) : (COp.app ty sz bytes z st x y).beh X e S D nx pn = onO (srcOf S sz st (y.ev X.G e)) fun p => onV (appV S ty sz bytes p.1 p.2 (x.ev X.G e)) (atV nx D) := by
  show (match (COp.app ty sz bytes z st x y).ev X.G e S with | some (v, S') => nx v S' D | none => False) = _
  simp only [COp.ev]; cases srcOf S sz st (y.ev X.G e) <;> rfl
@[go_sem ↓] theorem beh_copy (sz : Nat) (st : Bool) : (COp.copy sz st x y).beh X e S D nx pn = onV (copyV S sz st (x.ev X.G e) (y.ev X.G e)) (atV nx D) := rfl
@[go_sem ↓] theorem beh_max2 : (COp.max2 x y).beh X e S D nx pn = onI (x.ev X.G e) fun k a => onI (y.ev X.G e) fun _ b => nx (.int k (if b > a then b else a)) S D := by
  show (match (COp.max2 x y).ev X.G e S with | some (v, S') => nx v S' D | none => False) = _
  simp only [COp.ev]; cases x.ev X.G e <;> (try rfl) <;> cases y.ev X.G e <;> rfl
@[go_sem ↓] theorem beh_min2 : (COp.min2 x y).beh X e S D nx pn = onI (x.ev X.G e) fun k a => onI (y.ev X.G e) fun _ b => nx (.int k (if b < a then b else a)) S D := by
  show (match (COp.min2 x y).ev X.G e S with | some (v, S') => nx v S' D | none => False) = _
  simp only [COp.ev]; cases x.ev X.G e <;> (try rfl) <;> cases y.ev X.G e <;> rfl
@[go_sem ↓] theorem beh_call (f : Nat) (as : List Opd) : (COp.call f as).beh X e S D nx pn = X.Fn f (as.map (·.ev X.G e)) S (feK nx pn D) := by
  rfl

/-- A call that leaves the store alone. -/
def callP (X : Cx) (f : Nat) (as : List AV) (S : Store) (n : AV → Prop) (p : AV → Prop) : Prop :=
  ∃ fe, ((pureL as = true ∧ X.PF f as fe ∧ fe.pure = true) ∨ (X.PF f (as.map (frz yes 40 S)) fe ∧ fe.flat = true)) ∧ match fe with
    | .ret v => n v
    | .panic v => p v
@[go_sem ↓] theorem beh_pcall (f : Nat) (as : List Opd) : (COp.pcall f as).beh X e S D nx pn = callP X f (as.map (·.ev X.G e)) S (at2 nx S D) (at1 pn S) := by
  show (∃ fe, _) = _
  simp only [callP, List.map_map]; rfl
theorem callP_ret {f : Nat} {as : List AV} {v : AV} {n p : AV → Prop} (h1 : X.PF f as (.ret v)) (h2 : pureL as = true) (h3 : v.pure = true) (h : n v) : callP X f as S n p :=
  ⟨.ret v, .inl ⟨h2, h1, h3⟩, h⟩
theorem callP_pan {f : Nat} {as : List AV} {v : AV} {n p : AV → Prop} (h1 : X.PF f as (.panic v)) (h2 : pureL as = true) (h3 : v.pure = true) (h : p v) : callP X f as S n p :=
  ⟨.panic v, .inl ⟨h2, h1, h3⟩, h⟩
theorem callP_frz {f : Nat} {as as' : List AV} {v : AV} {n p : AV → Prop} (h0 : as.map (frz yes 40 S) = as') (h1 : X.PF f as' (.ret v)) (h3 : v.flat = true) (h : n v) : callP X f as S n p :=
  ⟨.ret v, .inr ⟨h0 ▸ h1, h3⟩, h⟩

/-- A call whose arguments are frozen for good. -/
def callK (X : Cx) (f : Nat) (as : List AV) (S : Store) (n : AV → Store → Prop) (p : AV → Store → Prop) : Prop :=
  ∃ fe, X.PF f (as.map (frz (reach S 1000 (refsL as) []).contains 40 S)) fe ∧ fe.pure = true ∧ match fe with
    | .ret v => n v (killed (reach S 1000 (refsL as) []) 0 S)
    | .panic v => p v (killed (reach S 1000 (refsL as) []) 0 S)
@[go_sem ↓] theorem beh_kcall (f : Nat) (as : List Opd) : (COp.kcall f as).beh X e S D nx pn = callK X f (as.map (·.ev X.G e)) S (atV nx D) pn := by
  simp only [COp.beh, callK, List.map_map]; rfl
@[go_sem ↓] theorem beh_callV (as : List Opd) : (COp.callV x as).beh X e S D nx pn = onFn (x.ev X.G e) fun f a c => X.Fn f (a ++ as.map (·.ev X.G e) ++ c) S (feK nx pn D) := by
  simp only [COp.beh]; cases x.ev X.G e <;> rfl
@[go_sem ↓] theorem beh_pan : (COp.pan x).beh X e S D nx pn = onIf (x.ev X.G e) fun t v => pn (.iface t v) S := by
  simp only [COp.beh]; cases x.ev X.G e <;> rfl
@[go_sem ↓] theorem beh_defer (as : List Opd) : (COp.defer x as).beh X e S D nx pn = onFn (x.ev X.G e) fun f a c => nx (.tup []) S ((f, a ++ as.map (·.ev X.G e) ++ c) :: D) := by
  simp only [COp.beh]; cases x.ev X.G e <;> rfl
@[go_sem] theorem SX_G (P : Program) (G : Globs) : (SX P G).G = G := rfl
@[go_sem] theorem SX_PF (P : Program) (G : Globs) : (SX P G).PF = SPF P G := rfl
@[go_sem] theorem SX_Fn (P : Program) (G : Globs) : (SX P G).Fn = WpF P G := rfl
end

/- values -/
@[go_sem] theorem binV_int (op : BinOp) (k j : IntKind) (a b : Int) : binV op (.int k a) (.int j b) = match op with
    | .shl => if b < 0 then none else some (.int k (k.wrap (a * 2 ^ (min b.toNat k.bits))))
    | .shr => if b < 0 then none else some (.int k (a.fdiv (2 ^ (min b.toNat k.bits))))
    | op => if k = j then binInt op k a b else none := by cases op <;> rfl
@[go_sem] theorem binV_str (op : BinOp) (a b : List UInt8) : binV op (.str a) (.str b) = binStr op a b := rfl
@[go_sem] theorem bin_add (k : IntKind) (a b : Int) : binInt .add k a b = some (.int k (k.wrap (a + b))) := rfl
@[go_sem] theorem bin_sub (k : IntKind) (a b : Int) : binInt .sub k a b = some (.int k (k.wrap (a - b))) := rfl
@[go_sem] theorem bin_mul (k : IntKind) (a b : Int) : binInt .mul k a b = some (.int k (k.wrap (a * b))) := rfl
@[go_sem] theorem bin_quo (k : IntKind) (a b : Int) : binInt .quo k a b = if b = 0 then none else some (.int k (k.wrap (a.tdiv b))) := rfl
@[go_sem] theorem bin_rem (k : IntKind) (a b : Int) : binInt .rem k a b = if b = 0 then none else some (.int k (a.tmod b)) := rfl
@[go_sem] theorem bin_eql (k : IntKind) (a b : Int) : binInt .eql k a b = some (.bool (a == b)) := rfl
@[go_sem] theorem bin_neq (k : IntKind) (a b : Int) : binInt .neq k a b = some (.bool (a != b)) := rfl
@[go_sem] theorem bin_lss (k : IntKind) (a b : Int) : binInt .lss k a b = some (.bool (decide (a < b))) := rfl
@[go_sem] theorem bin_leq (k : IntKind) (a b : Int) : binInt .leq k a b = some (.bool (decide (a ≤ b))) := rfl
@[go_sem] theorem bin_gtr (k : IntKind) (a b : Int) : binInt .gtr k a b = some (.bool (decide (b < a))) := rfl
@[go_sem] theorem bin_geq (k : IntKind) (a b : Int) : binInt .geq k a b = some (.bool (decide (b ≤ a))) := rfl
def bAnd (k : IntKind) (a b : Int) : Int := k.wrap ((BitVec.ofInt k.bits a &&& BitVec.ofInt k.bits b).toNat)
def bOr (k : IntKind) (a b : Int) : Int := k.wrap ((BitVec.ofInt k.bits a ||| BitVec.ofInt k.bits b).toNat)
def bXor (k : IntKind) (a b : Int) : Int := k.wrap ((BitVec.ofInt k.bits a ^^^ BitVec.ofInt k.bits b).toNat)
def bAndNot (k : IntKind) (a b : Int) : Int := k.wrap ((BitVec.ofInt k.bits a &&& ~~~BitVec.ofInt k.bits b).toNat)
@[go_sem] theorem bin_and (k : IntKind) (a b : Int) : binInt .and k a b = some (.int k (bAnd k a b)) := rfl
@[go_sem] theorem bin_or (k : IntKind) (a b : Int) : binInt .or k a b = some (.int k (bOr k a b)) := rfl
@[go_sem] theorem bin_xor (k : IntKind) (a b : Int) : binInt .xor k a b = some (.int k (bXor k a b)) := rfl
@[go_sem] theorem bin_andNot (k : IntKind) (a b : Int) : binInt .andNot k a b = some (.int k (bAndNot k a b)) := rfl
@[go_sem] theorem str_eql (a b : List UInt8) : binStr .eql a b = some (.bool (a == b)) := rfl
@[go_sem] theorem str_neq (a b : List UInt8) : binStr .neq a b = some (.bool (!(a == b))) := rfl
@[go_sem] theorem str_add (a b : List UInt8) : binStr .add a b = if a.length + b.length < 1099511627776 then some (.str (a ++ b)) else none := rfl
@[go_sem] theorem un_neg (k : IntKind) (n : Int) : unV .neg (.int k n) = some (.int k (k.wrap (0 - n))) := rfl
@[go_sem] theorem un_not (b : Bool) : unV .not (.bool b) = some (.bool (!b)) := rfl
@[go_sem] theorem nil_np : isNil 0 .np = some true := rfl
@[go_sem] theorem nil_ptr (b g o : Nat) : isNil 0 (.ptr b g o) = some false := rfl
@[go_sem] theorem nil_fptr (l : List AV) : isNil 0 (.fptr l) = some false := rfl
@[go_sem] theorem nil_nsl : isNil 1 .nsl = some true := rfl
@[go_sem] theorem nil_sl (b g o s l : Nat) (c : Option Nat) : isNil 1 (.sl b g o s l c) = some false := rfl
@[go_sem] theorem nil_nif : isNil 4 .nif = some true := rfl
@[go_sem] theorem nil_if (t : Nat) (v : AV) : isNil 4 (.iface t v) = some false := rfl
@[go_sem] theorem cut_one (cs : List AV) (off n : Nat) : cut cs off n false = cs[off]? := rfl
@[go_sem] theorem cut_agg (cs : List AV) (off n : Nat) : cut cs off n true = if off + n ≤ cs.length then some (.agg ((cs.drop off).take n)) else none := rfl
@[go_sem] theorem faddr_ptr (off b g o : Nat) : faddrV off (.ptr b g o) = some (.ptr b g (o + off)) := rfl
@[go_sem] theorem faddr_fptr (off : Nat) (l : List AV) : faddrV off (.fptr l) = if off ≤ l.length then some (.fptr (l.drop off)) else none := rfl
@[go_sem] theorem iaddr_sl (sz i b g off s ln : Nat) (c : Option Nat) : iaddrV sz i (.sl b g off s ln c) = if i < ln then some (.ptr b g (off + i * sz)) else none := rfl
@[go_sem] theorem iaddr_fsl (sz i ln : Nat) (l : List AV) : iaddrV sz i (.fsl l ln) = if i < ln ∧ i * sz < l.length then some (.fptr (l.drop (i * sz))) else none := rfl
@[go_sem] theorem iaddrA_ptr (sz i b g off ln : Nat) : iaddrAV ln sz i (.ptr b g off) = if i < ln then some (.ptr b g (off + i * sz)) else none := rfl
@[go_sem] theorem load_ptr (n : Nat) (agg : Bool) (b g off : Nat) : loadV S n agg (.ptr b g off) = (boxRd S b g).bind fun cs => cut cs off n agg := by
  simp only [loadV]; cases boxRd S b g <;> rfl
@[go_sem] theorem load_fptr (n : Nat) (agg : Bool) (l : List AV) : loadV S n agg (.fptr l) = cut l 0 n agg := rfl
@[go_sem] theorem len_nsl : slLen .nsl = some 0 := rfl
@[go_sem] theorem len_esl : slLen .esl = some 0 := rfl
@[go_sem] theorem len_fsl (l : List AV) (n : Nat) : slLen (.fsl l n) = some n := rfl
@[go_sem] theorem len_sl (b g o s l : Nat) (c : Option Nat) : slLen (.sl b g o s l c) = some l := rfl
@[go_sem] theorem parts_int (k : IntKind) (n : Int) : (AV.int k n).parts = [.int k n] := rfl
@[go_sem] theorem parts_bool (b : Bool) : (AV.bool b).parts = [.bool b] := rfl
@[go_sem] theorem parts_agg (l : List AV) : (AV.agg l).parts = l := rfl
@[go_sem] theorem parts_fsl (l : List AV) (n : Nat) : (AV.fsl l n).parts = [.fsl l n] := rfl
@[go_sem] theorem parts_sl (b g o s l : Nat) (c : Option Nat) : (AV.sl b g o s l c).parts = [.sl b g o s l c] := rfl
@[go_sem] theorem parts_nsl : AV.nsl.parts = [.nsl] := rfl
@[go_sem] theorem parts_esl : AV.esl.parts = [.esl] := rfl
@[go_sem] theorem parts_ptr (b g o : Nat) : (AV.ptr b g o).parts = [.ptr b g o] := rfl
@[go_sem] theorem parts_str (s : List UInt8) : (AV.str s).parts = [.str s] := rfl
@[go_sem] theorem solid_int (k : IntKind) (n : Int) : (AV.int k n).solid = true := rfl
@[go_sem] theorem solid_bool (b : Bool) : (AV.bool b).solid = true := rfl
@[go_sem] theorem solid_agg (l : List AV) : (AV.agg l).solid = true := rfl
@[go_sem] theorem solid_fsl (l : List AV) (n : Nat) : (AV.fsl l n).solid = true := rfl
@[go_sem] theorem solid_sl (b g o s l : Nat) (c : Option Nat) : (AV.sl b g o s l c).solid = true := rfl
@[go_sem] theorem solid_nsl : AV.nsl.solid = true := rfl
@[go_sem] theorem solid_esl : AV.esl.solid = true := rfl
@[go_sem] theorem solid_ptr (b g o : Nat) : (AV.ptr b g o).solid = true := rfl
@[go_sem] theorem solid_str (s : List UInt8) : (AV.str s).solid = true := rfl
@[go_sem] theorem rd_cells (b g : Nat) : boxRd S b g = match S[b]? with | some (.cells cs _ gen _) => if g = gen then some cs else none | _ => none := rfl
@[go_sem ↓] theorem ev_tass (t t' : Nat) (z v : AV) (ok : Bool) (x : Opd) (h : x.ev X.G e = .iface t' v) : (COp.tass t z ok x).ev X.G e S = if t' = t then some (if ok then .tup [v, .bool true] else v, S) else if ok then some (.tup [z, .bool false], S) else none := by
  simp only [COp.ev, h]
attribute [go_sem] List.getElem?_cons_zero List.getElem?_cons_succ List.map_cons List.map_nil List.length_cons List.length_nil List.cons_append List.nil_append List.append_nil
attribute [go_sem] Nat.reduceBEq Nat.reduceEqDiff reduceIte Nat.reduceAdd Nat.reduceMul Nat.reduceLT Nat.reduceLeDiff if_true if_false Bool.not_true Bool.not_false Option.map_some Option.bind_some Bool.true_eq_false Bool.false_eq_true and_true true_and
attribute [go_sem ↓] onO_some onO_none onV_some onV_none onB_mk onI_mk onNat_mk onNat_lit onAgg_mk onTup_mk onStr_mk onPtr_mk onIf_mk onFn_mk sel_true sel_false condP_true condP_false condP_dec condP_not condP_beq condP_bne condP_ite onG_t onG_f onG_tup
end Go.AM

set_option linter.unusedSimpArgs false
set_option linter.unusedVariables false
namespace Go.AM

variable {P : Program} {pu : Nat → Nat} {G : Globs} {k : K} {D : List (Nat × List AV)} {ops : Array Oper}
variable {β β' β0 : Beta} {F F' F0 : Fz} {w w' w0 : World} {S S' : Store} {nt : Nat}

/-- The machine's state when a function begins. -/
theorem srel_init {args : List AV} {vals : Array Value} (n : Nat) (hS : StoreRel β F w S) (hG : GlobOK G F w) (hA : RepL β F w args vals.toList) :
    SRel G n β F ⟨Env.ofArgs 0 args, S, []⟩ { tmps := vals ++ Array.replicate (n - vals.size) undef, defers := [] } w := by
  refine ⟨fun i => ?_, hS, rfl, hG, by simp; omega⟩
  have := ofArgs_rel args vals.toList 0 hA i
  rw [if_pos (Nat.zero_le _), Nat.sub_zero] at this
  have e : (vals ++ Array.replicate (n - vals.size) undef).getD i undef = vals.toList.getD i undef := by
    rw [Array.getD_eq_getD_getElem?, List.getD_eq_getElem?_getD, Array.getElem?_append]
    split
    · simp
    · rename_i hlt
      rw [Array.getElem?_replicate]
      have : vals.toList[i]? = none := by simp; omega
      rw [this]
      split <;> rfl
  simp only [e]
  exact this

/-- What catches: the code behind its call of recover. -/
def catchTail (thr : Nat) : CC :=
  .seq (.reg (.op ⟨some 5, .mov (.t 1), none⟩ (.op ⟨some 6, .nilq true 4 (.t 5), none⟩ .done)) [0, 1, 6] false)
    (.cond (.t 6) (.seq (.reg (.op ⟨some 8, .mov (.t 1), none⟩ (.op ⟨some 9, .tass thr (.int .i64 0) true (.t 8), none⟩ (.op ⟨some 7, .mov (.t 9), none⟩
      (.op ⟨some 10, .extr (.t 7) 0, none⟩ (.op ⟨some 11, .extr (.t 7) 1, none⟩ (.op ⟨some 2, .mov (.t 10), none⟩ (.op ⟨some 3, .mov (.t 11), none⟩ .done))))))) [0, 1, 2, 3] false)
      (.seq (.seq (.reg (.op ⟨some 12, .mov (.t 3), none⟩ (.op ⟨some 13, .un .not (.t 12), none⟩ .done)) [0, 1, 2, 13] false)
        (.cond (.t 13) (.reg (.op ⟨some 14, .mov (.t 1), none⟩ (.op ⟨none, .pan (.t 14), none⟩ .done)) [0, 2] false) .skip))
        (.reg (.op ⟨some 15, .mov (.t 2), none⟩ (.op ⟨none, .store 1 (.t 0) (.t 15), none⟩ .done)) [] false))) .skip)

/-- The shape of what recovers (f), and of what it defers (d). -/
structure TryCode (P : Program) (pu : Nat → Nat) (f d cty thr : Nat) : Prop where
  cd : callable P d = true
  main : ∃ fn kt i0 o0 i1 o1 i2 x y i3 o3 c, P.funcs[f]? = some fn ∧ fn.name ≠ "runtime.NumGoroutine" ∧ fn.ntmps = 6 ∧ cRes P fn.results.toList = some [.cell 2 1 false] ∧
    fn.body = some (.seq (.region i0 o0 false) (.seq (.region i1 o1 false) (.seq (.region i2 #[x, y] false) (.seq (.region i3 o3 false) .ret)))) ∧
    cCode P pu 6 kt (.region i0 o0 false) = some (.reg (.op ⟨some 2, .alloc cty [.int .i64 0], none⟩ .done) [0, 2] false) ∧
    cCode P pu 6 kt (.region i1 o1 false) = some (.reg (.op ⟨some 3, .mkfn d [] [.t 2], none⟩ (.op ⟨none, .defer (.t 3) [], none⟩ .done)) [0, 2] false) ∧
    x.op = .move (.tmp 0) ∧ x.dst = some 4 ∧ x.guard = none ∧ y.op = .call c ∧ c.callee = .value (.tmp 4) ∧ c.args = #[] ∧ y.dst = some 5 ∧ y.guard = none ∧
    cCode P pu 6 kt (.seq (.region i3 o3 false) .ret) = some (.seq (.reg (.op ⟨none, .store 1 (.t 2) (.c (.int .i64 0)), none⟩ .done) [2] false) .ret)
  catch_ : ∃ fn kt i0 x y c tail, P.funcs[d]? = some fn ∧ fn.ntmps = 16 ∧ fn.results = #[] ∧ fn.body = some (.seq (.region i0 #[x, y] false) tail) ∧
    x.op = .call c ∧ c.callee = .builtin .recover ∧ c.args = #[] ∧ x.dst = some 4 ∧ x.guard = none ∧ y.op = .assign (.tmp 4) ∧ y.dst = some 1 ∧ y.guard = none ∧
    cCode P pu 16 kt tail = some (catchTail thr)

theorem catch_nil {thr : Nat} {p : AV} {X : Cx} {k : K} (h : k .normal ⟨[(0, p), (1, .nif), (6, .bool false)], S, []⟩) : (catchTail thr).wp X k ⟨[(1, .nif), (0, p)], S, []⟩ := by
  refine ⟨false, rfl, fun h => (by cases h), fun _ => h⟩

theorem catch_thrown {thr b : Nat} {j : IntKind} {n : Int} {X : Cx} {k : K} (hw : boxWr S b 0 0 [.int j n] = some S')
    (h : k .normal ⟨[], S', []⟩) : (catchTail thr).wp X k ⟨[(1, .iface thr (.int j n)), (0, .ptr b 0 0)], S, []⟩ := by
  refine ⟨true, rfl, fun _ => ?_, fun h => (by cases h)⟩
  simp only [go_sem, COp.ev, hw]
  exact h

theorem box_rd_wr {b : Nat} {v : AV} (h : boxWr S b 0 0 [v] = some S') : loadV S' 1 false (.ptr b 0 0) = some v := by
  unfold boxWr at h
  split at h
  · rename_i cs ty gen sk hb
    split at h
    · rename_i hg
      injection h with h; subst h
      obtain ⟨rfl, hl⟩ := hg
      have hlt : b < S.length := by
        rcases Nat.lt_or_ge b S.length with h | h
        · exact h
        · rw [List.getElem?_eq_none h] at hb; cases hb
      simp only [load_ptr, boxRd, List.getElem?_set_self hlt, if_true, Option.bind_some, cut_one, wrl]
      cases cs with
      | nil => simp at hl
      | cons c cs => rfl
    · cases h
  · cases h

/-- What happens behind a function that defers a catch, however it ends. -/
theorem catch_leaves {f d cty thr : Nat} (hm : P.follows .mixedOrders = true) (hT : TryCode P pu f d cty thr) {fn : Func} {tmps : Array Value} {R : Ending → World → Prop} {u : FrameMode} {v : AV} {b : Nat}
    {cap : Array Value} {dargs : Array Value}
    (hS : StoreRel β F w S) (hG : GlobOK G F w) (hA : RepL β F w [.ptr b 0 0] (dargs ++ cap).toList)
    (hu : (u = .returning ∧ v = .nif ∧ S' = S) ∨ ∃ j n y, u = .panicking [{ v := y, recovered := false }] ∧ v = .iface thr (.int j n) ∧ Rep β F w v y ∧ boxWr S b 0 0 [.int j n] = some S')
    (hn : ∀ β' F' w', StoreRel β' F' w' S' → Ext β F w β' F' w' → GlobOK G F' w' → Leaves P fn tmps R [] .returning w') :
    Leaves P fn tmps R [{ target := .fn (.func d) cap, args := dargs }] u w := by
  obtain ⟨hcd, _, fd, kt, i0, x, y, c, tail, hfd, hnt, hres, hbody, hx1, hx2, hx3, hx4, hx5, hy1, hy2, hy3, htail⟩ := hT
  refine leaves_cons (f := d) (args := dargs ++ cap) (by rcases hu with ⟨rfl, _⟩ | ⟨_, _, _, rfl, _⟩ <;> simp) (callFunc_run hcd) ?_
  refine callsD_of_wpS hfd hbody fun c0 cs hc0 => wpS_seq (wpS_region ?_)
  have hR0 := srel_init (G := G) 16 hS hG hA
  rw [hnt]
  generalize hact : ({ tmps := dargs ++ cap ++ Array.replicate (16 - (dargs ++ cap).size) undef, defers := [] } : Act) = a0 at hR0 ⊢
  have hd0 : a0.defers = [] := by rw [← hact]
  -- the value that recover gives, and the caller's frame behind it
  obtain ⟨rv, u', hrec, hrep, hset⟩ : ∃ rv u', (match recoverD (c0 :: cs) with | some (v, cs') => rv = v ∧ cs' = { c0 with mode := u' } :: cs | none => rv = .nilIface ∧ u' = u) ∧ Rep β F w v rv ∧ settle u' = .returning := by
    rcases hu with ⟨rfl, rfl, _⟩ | ⟨j, n, yv, rfl, rfl, hy, _⟩
    · exact ⟨.nilIface, .returning, by simp [recoverD, hc0], rfl, rfl⟩
    · exact ⟨yv, .panicking [{ v := yv, recovered := true }], by simp [recoverD, hc0], hy, rfl⟩
  have hcs : ∀ Q : List Frame → Prop, Q ({ c0 with mode := u' } :: cs) → (∀ v cs', recoverD (c0 :: cs) = some (v, cs') → Q cs') ∧ (recoverD (c0 :: cs) = none → Q (c0 :: cs)) := by
    intro Q hQ
    refine ⟨fun v cs' h => ?_, fun h => ?_⟩
    · rw [h] at hrec; rw [hrec.2]; exact hQ
    · rw [h] at hrec
      have : ({ c0 with mode := u' } : Frame) = c0 := by rw [hrec.2, ← hc0]
      rw [this] at hQ; exact hQ
  have w1 : Region.wanted x (yielded #[x, y] a0.tmps) = true := by simp [Region.wanted, hx5]
  have w2 : ∀ ts, Region.wanted y (yielded #[x, y] ts) = true := by intro ts; simp [Region.wanted, hy3]
  have r1 : (execOp a0.eval x).run P w = .ok .recover w := by
    simp only [execOp, hx1, resolve, hx2, hx3]; rfl
  have r2 : ∀ (a : Act) (w : World), (execOp a.eval y).run P w = .ok (.value (a.eval (.tmp 4))) w := by
    intro a w; simp only [execOp, hy1]; rfl
  -- behind the region
  have key : (Exit.thenS (tail.wpS P (bodyPostS P fd c0 cs fun
        | .returned _, u', w' => Leaves P fn tmps R [] (settle u') w'
        | .panicked chain, u', w' => Leaves P fn tmps R [] (raised u' chain) w'
        | .outgrown, _, w' => R .outgrown w')) (bodyPostS P fd c0 cs fun
        | .returned _, u', w' => Leaves P fn tmps R [] (settle u') w'
        | .panicked chain, u', w' => Leaves P fn tmps R [] (raised u' chain) w'
        | .outgrown, _, w' => R .outgrown w')) .normal ((a0.put (some 4) rv).put (some 1) rv) ({ c0 with mode := u' } :: cs) w := by
    show tail.wpS P _ _ _ _
    refine wpS_of_wp ?_
    have hR1 : SRel G 16 β F ⟨[(1, v), (0, .ptr b 0 0)], S, []⟩ ((a0.put (some 4) rv).put (some 1) rv) w := by
      have h1 := hR0.put (d := some 4) (v := v) (Ext.refl β F w) hS hrep (by intro t ht; cases ht; decide)
      have h2 := h1.put (d := some 1) (v := v) (Ext.refl β F w) hS hrep (by intro t ht; cases ht; decide)
      refine ⟨fun i => ?_, h2.store, h2.defs, h2.glob, h2.size⟩
      have := h2.env i
      simp only [Env.set, Env.get, Env.ofArgs] at this ⊢
      by_cases hi1 : i = 1
      · simp only [hi1, if_true] at this ⊢; exact this
      · by_cases hi0 : i = 0
        · subst hi0; exact this
        · simp only [hi1, hi0, if_false]; trivial
    refine wp_mono (code_sound hm tail (catchTail thr) (fun e st => e = .normal ∧ st.S = S' ∧ st.D = []) _ _ β F w htail ?_ (Ext.refl β F w) hR1) ?_
    · rcases hu with ⟨_, rfl, rfl⟩ | ⟨j, n, yv, _, rfl, _, hbw⟩
      · exact catch_nil ⟨rfl, rfl, rfl⟩
      · exact catch_thrown hbw ⟨rfl, rfl, rfl⟩
    · rintro e a' w' ⟨ex, st, β', F', ⟨rfl, rfl, hD⟩, hE, hR', hex⟩
      have hex : e = .normal := hex
      subst hex
      have hd := hR'.defs
      rw [hD] at hd
      refine ⟨hd, u', rfl, .tuple #[], ?_, ?_⟩
      · simp only [results, hres, Array.mapM_eq_mapM_toList, Sem.run_bind, Sem.run_map]; rfl
      · show Leaves P fn tmps R [] (settle u') w'
        rw [hset]; exact hn β' F' w' hR'.store hE hR'.glob
  -- the region
  have he4 : ∀ v, (a0.put (some 4) v).eval (.tmp 4) = v := by
    intro z
    have : 4 < a0.tmps.size := Nat.lt_of_lt_of_le (by decide) hR0.size
    simp [Act.put, Act.eval, this]
  show wpOpsS P #[x, y] _ [0, 1] a0 (c0 :: cs) w
  simp only [wpOpsS, List.getElem?_toArray, List.getElem?_cons_zero, List.getElem?_cons_succ, w1, w2, if_true, r1, hx4, hy2]
  cases hrd : recoverD (c0 :: cs) with
  | some p =>
    obtain ⟨v1, cs1⟩ := p
    rw [hrd] at hrec
    obtain ⟨rfl, rfl⟩ := hrec
    simp only [r2, Oper.upon_value, hy2, he4]
    exact key
  | none =>
    rw [hrd] at hrec
    obtain ⟨rfl, rfl⟩ := hrec
    simp only [r2, Oper.upon_value, hy2, he4]
    have : ({ c0 with mode := u' } : Frame) = c0 := by rw [← hc0]
    rw [this] at key; exact key

theorem try_ok {f d cty thr : Nat} (hm : P.follows .mixedOrders = true) (hT : TryCode P pu f d cty thr) : TryOK P G f cty thr := by
  intro g first caps S R hW
  obtain ⟨hcg, hW⟩ := hW
  have hT' := hT
  obtain ⟨_, ⟨fn, kt, i0, o0, i1, o1, i2, x, y, i3, o3, c, hfn, hname, hnt, hres, hbody, h0, h1, hx1, hx2, hx3, hy1, hc1, hc2, hy2, hy3, h3⟩, _⟩ := hT
  refine ⟨by simp [callable, hfn, hbody]; exact hname, fun β F w vals hS hG hA => calls_of_wp_defers hfn hbody ?_⟩
  have hR0 := srel_init (G := G) 6 hS hG hA
  rw [hnt]
  generalize ({ tmps := vals ++ Array.replicate (6 - vals.size) undef, defers := [] } : Act) = a0 at hR0 ⊢
  refine wp_seq (wp_mono (code_sound hm (.region i0 o0 false) _ (fun e st => e = .normal ∧ st = ⟨[(0, .fn g first caps), (2, .ptr S.length 0 0)], S ++ [.cells [.int .i64 0] cty 0 false], []⟩) _ _ β F w h0 ⟨rfl, rfl⟩ (Ext.refl β F w) hR0) ?_)
  rintro e a1 w1 ⟨ex, st, β1, F1, ⟨rfl, rfl⟩, hE1, hR1, hex⟩
  have hex : e = .normal := hex
  subst hex
  show (Code.seq _ _).wp P _ a1 w1
  refine wp_seq (wp_mono (code_sound hm (.region i1 o1 false) _ (fun e st => e = .normal ∧ st = ⟨[(0, .fn g first caps), (2, .ptr S.length 0 0)], S ++ [.cells [.int .i64 0] cty 0 false], [(d, [.ptr S.length 0 0])]⟩) _ _ β1 F1 w1 h1 ⟨rfl, rfl⟩ (Ext.refl β1 F1 w1) hR1) ?_)
  rintro e a2 w2 ⟨ex, st, β2, F2, ⟨rfl, rfl⟩, hE2, hR2, hex⟩
  have hex : e = .normal := hex
  subst hex
  show (Code.seq _ _).wp P _ a2 w2
  have hE02 := hE1.trans hE2
  -- the end of it all
  have fin : ∀ (tmps : Array Value) (D : List Deferred) (u : FrameMode) (β3 : Beta) (F3 : Fz) (w3 : World) (S3 S4 : Store) (j : IntKind) (n : Int) (v : AV),
      Ext β F w β3 F3 w3 → StoreRel β3 F3 w3 S3 → GlobOK G F3 w3 → Rep β3 F3 w3 (.ptr S.length 0 0) (tmps.getD 2 undef) → 6 ≤ tmps.size → DefRel β3 F3 w3 [(d, [.ptr S.length 0 0])] D →
      ((u = .returning ∧ v = .nif ∧ S4 = S3) ∨ ∃ j n y, u = .panicking [{ v := y, recovered := false }] ∧ v = .iface thr (.int j n) ∧ Rep β3 F3 w3 v y ∧ boxWr S3 S.length 0 0 [.int j n] = some S4) →
      loadV S4 1 false (.ptr S.length 0 0) = some (.int j n) → R (.ret (.int j n)) S4 → Leaves P fn tmps (FERel β F w R) D u w3 := by
    intro tmps D u β3 F3 w3 S3 S4 j n v hE hS3 hG3 h2 hsz hD hu hld hRR
    obtain ⟨d0, r, cap, rfl, htar, hrep, hr⟩ := hD
    have hr : r = [] := hr
    subst hr
    obtain ⟨tg, dargs⟩ := d0
    simp only at htar hrep
    subst htar
    refine catch_leaves hm hT' hS3 hG3 hrep hu ?_
    intro β5 F5 w5 hS5 hE5 hG5
    have hsr : SRel G 6 β5 F5 ⟨[(2, .ptr S.length 0 0)], S4, []⟩ ⟨tmps, []⟩ w5 := by
      refine ⟨fun i => ?_, hS5, rfl, hG5, hsz⟩
      simp only [Env.get]
      by_cases hi : i = 2
      · subst hi; rw [if_pos rfl]; exact Rep.keep (hE5.keeps hS3) _ _ h2
      · rw [if_neg hi]; trivial
    obtain ⟨vv, hv1, hv2⟩ := results_run (vs := [.int j n]) hsr hres (by simp only [go_sem, hld])
    exact ⟨vv, hv1, β5, F5, _, S4, hRR, hv2, hS5, hE.trans hE5⟩
  refine wp_seq (wp_region ?_)
  show wpOps P #[x, y] _ [0, 1] a2 w2
  have wx : ∀ ts, Region.wanted x (yielded #[x, y] ts) = true := by intro ts; simp [Region.wanted, hx3]
  have wy : ∀ ts, Region.wanted y (yielded #[x, y] ts) = true := by intro ts; simp [Region.wanted, hy3]
  have r1 : (execOp a2.eval x).run P w2 = .ok (.value (a2.eval (.tmp 0))) w2 := by simp only [execOp, hx1]; rfl
  have hs0 : Rep β2 F2 w2 (.fn g first caps) (a2.eval (.tmp 0)) := hR2.env 0
  obtain ⟨fa, ca, hv0, hfa, hca⟩ := hs0
  have hR3 := hR2.put (d := some 4) (v := .fn g first caps) (Ext.refl β2 F2 w2) hR2.store ⟨fa, ca, hv0, hfa, hca⟩ (by intro t ht; cases ht; decide)
  have he4 : (a2.put (some 4) (a2.eval (.tmp 0))).eval (.tmp 4) = .func (.func g) fa ca := by
    have : 4 < a2.tmps.size := Nat.lt_of_lt_of_le (by decide) hR2.size
    rw [← hv0]
    simp [Act.put, Act.eval, this]
  rw [wpOps_cons]
  simp only [wpOp, List.getElem?_toArray, List.getElem?_cons_zero, wx, if_true]
  refine .inl ?_
  show x.upon P a2 _ _ ((execOp a2.eval x).run P w2)
  rw [r1, Oper.upon_value, hx2, wpOps_cons]
  simp only [wpOp, List.getElem?_toArray, List.getElem?_cons_succ, List.getElem?_cons_zero, wy, if_true]
  refine .inl ?_
  generalize ha3 : a2.put (some 4) (a2.eval (.tmp 0)) = a3 at hR3 he4 ⊢
  show y.upon P a3 _ _ ((execOp a3.eval y).run P w2)
  rw [enter_func hy1 hc1 he4 hcg, Oper.upon_enter]
  refine calls_mono (hW β2 F2 w2 _ hR2.store hR2.glob ?_) ?_
  · rw [hc2]
    simpa using RepL.append hfa hca
  intro e w3 he
  cases e with
  | outgrown => exact he.elim
  | returned rv =>
    obtain ⟨β3, F3, av, S3, hr, hrep, hS3, hE3⟩ := he
    obtain ⟨S4, hbw, hRR⟩ : ∃ S4, boxWr S3 S.length 0 0 [.int .i64 0] = some S4 ∧ R (.ret (.int .i64 0)) S4 := by
      simp only [tryR, tryEnd] at hr
      cases hb : boxWr S3 S.length 0 0 [.int .i64 0] with
      | none => simp [hb] at hr
      | some S4 => simp [hb] at hr; exact ⟨S4, rfl, hr⟩
    have hR4 := hR3.put (d := some 5) hE3 hS3 hrep (by intro t ht; cases ht; decide)
    rw [hy2]
    show (Code.seq _ _).wp P _ (a3.put (some 5) rv) w3
    refine wp_mono (code_sound hm _ _ (fun e st => e = .ret ∧ st.S = S4 ∧ st.env = [(2, .ptr S.length 0 0)] ∧ st.D = [(d, [.ptr S.length 0 0])]) _ _ β3 F3 w3 h3 ?_ (Ext.refl β3 F3 w3) hR4) ?_
    · simp only [go_sem, hbw]
    · rintro e a5 w5 ⟨ex, st, β5, F5, ⟨rfl, rfl, hen, hDD⟩, hE5, hR5, hex⟩
      have hex : e = .ret := hex
      subst hex
      have h2 := hR5.env 2
      rw [hen] at h2
      have hd5 := hR5.defs
      rw [hDD] at hd5
      exact fin a5.tmps a5.defers .returning β5 F5 w5 st.S st.S .i64 0 .nif (hE02.trans (hE3.trans hE5)) hR5.store hR5.glob h2 hR5.size hd5 (.inl ⟨rfl, rfl, rfl⟩) (box_rd_wr hbw) hRR
  | panicked ch =>
    obtain ⟨β3, F3, av, S3, rv, rfl, hr, hrep, hS3, hE3⟩ := he
    obtain ⟨j, n, S4, rfl, hbw, hRR⟩ : ∃ j n S4, av = .iface thr (.int j n) ∧ boxWr S3 S.length 0 0 [.int j n] = some S4 ∧ R (.ret (.int j n)) S4 := by
      simp only [tryR] at hr
      split at hr
      · rename_i l hl
        unfold tryEnd at hl
        split at hl
        · rename_i hh; cases hh
        · rename_i t k n hh
          injection hh with hh; subst hh
          split at hl
          · rename_i ht
            subst ht
            cases hb : boxWr S3 S.length 0 0 [.int k n] with
            | none => rw [hb] at hl; cases hl
            | some S4 =>
              rw [hb] at hl
              simp only [Option.map_some, Option.some.injEq] at hl
              subst hl
              exact ⟨k, n, S4, rfl, hb, hr _ List.mem_cons_self⟩
          · cases hl
        · cases hl
      · exact hr.elim
    have hR4 := hR3.put (d := none) hE3 hS3 hrep (by intro t ht; cases ht)
    show Leaves P fn a3.tmps (FERel β F w R) a3.defers (.panicking [{ v := rv, recovered := false }]) w3
    exact fin a3.tmps a3.defers _ β3 F3 w3 S3 S4 j n (.iface thr (.int j n)) (hE02.trans hE3) hR4.store hR4.glob (hR4.env 2) hR4.size hR4.defs (.inr ⟨j, n, rv, rfl, rfl, hrep, hbw⟩) (box_rd_wr hbw) hRR

end Go.AM

set_option linter.unusedVariables false
namespace Go.AM

@[go_sem] abbrev oo (d : Nat) (c : COp) (r : RT) : RT := .op ⟨some d, c, none⟩ r
@[go_sem] abbrev on (c : COp) (r : RT) : RT := .op ⟨none, c, none⟩ r
@[go_sem] abbrev og (d : Nat) (c : COp) (s : Nat) (b : Bool) (r : RT) : RT := .op ⟨some d, c, some (s, b)⟩ r
@[go_sem] abbrev rg (t : RT) (l : List Nat) : CC := .reg t l false
@[go_sem] abbrev sq (a b : CC) : CC := .seq a b
@[go_sem] abbrev dn : RT := .done

/-- A table of functions. -/
inductive FT where
  | nil
  | node (l : FT) (k : Nat) (v : CFn) (r : FT)
def FT.get : FT → Nat → Option CFn
  | .nil, _ => none
  | .node l k v r, i => if i = k then some v else if i < k then l.get i else r.get i
def FT.All (p : Nat → CFn → Prop) : FT → Prop
  | .nil => True
  | .node l k v r => l.All p ∧ p k v ∧ r.All p
theorem FT.get_all {p : Nat → CFn → Prop} : ∀ (t : FT) (i : Nat) (c : CFn), t.All p → t.get i = some c → p i c
  | .nil, i, c, _, h => by cases h
  | .node l k v r, i, c, ⟨h1, h2, h3⟩, h => by
    simp only [FT.get] at h
    split at h
    · rename_i hik; subst hik; injection h with h; subst h; exact h2
    · split at h
      · exact get_all l i c h1 h
      · exact get_all r i c h3 h

/-- An answer that is known: a function, its arguments, how it ends. -/
abbrev Ans := Nat × List AV × FE
def findA : List Ans → Nat → List AV → Option FE
  | [], _, _ => none
  | a :: r, f, as => if a.1 = f then (if eqL a.2.1 as then some a.2.2 else findA r f as) else findA r f as
def Known (P : Program) (G : Globs) (l : List Ans) : Prop := ∀ a ∈ l, SPF P G a.1 a.2.1 a.2.2
theorem Known.nil {P : Program} {G : Globs} : Known P G [] := fun _ h => by cases h
theorem Known.cons {P : Program} {G : Globs} {a : Ans} {l : List Ans} (h : SPF P G a.1 a.2.1 a.2.2) (hl : Known P G l) : Known P G (a :: l) := by
  intro b hb
  rcases List.mem_cons.1 hb with rfl | hb
  · exact h
  · exact hl b hb
theorem findA_spec {P : Program} {G : Globs} : ∀ {l : List Ans} {f : Nat} {as : List AV} {fe : FE}, Known P G l → findA l f as = some fe → SPF P G f as fe
  | [], f, as, fe, _, h => by cases h
  | a :: r, f, as, fe, hk, h => by
    have hr : Known P G r := fun b hb => hk b (List.mem_cons_of_mem _ hb)
    simp only [findA] at h
    split at h
    · rename_i hf
      split at h
      · rename_i he
        injection h with h; subst h
        have := hk a List.mem_cons_self
        rw [hf, eqL_sound _ _ he] at this
        exact this
      · exact findA_spec hr h
    · exact findA_spec hr h

/-- The functions that recover. -/
def trOf : List (Nat × Nat × Nat) → Nat → Option (Nat × Nat)
  | [], _ => none
  | a :: r, f => if a.1 = f then some a.2 else trOf r f

/-- The machine's table. -/
def tbl (G : Globs) (t : FT) (tr : List (Nat × Nat × Nat)) (l : List Ans) : Tb := ⟨G, t.get, findA l, trOf tr⟩

def chk (T : Tb) (f : Nat) (as : List AV) (fe : FE) : Bool :=
  match T.call 100 f as [] with
  | none => false
  | some l => match oneFE 40 l with
    | some x => eqFE x fe
    | none => false

/-- A program that is known. -/
structure Lay (P : Program) (pu : Nat → Nat) (G : Globs) (t : FT) (tr : List (Nat × Nat × Nat)) : Prop where
  orders : P.follows .mixedOrders = true
  fns : t.All (Is P pu)
  trs : ∀ x ∈ tr, TryOK P G x.1 x.2.1 x.2.2

theorem trOf_spec {P : Program} {G : Globs} : ∀ {tr : List (Nat × Nat × Nat)} {f a b : Nat}, (∀ x ∈ tr, TryOK P G x.1 x.2.1 x.2.2) → trOf tr f = some (a, b) → TryOK P G f a b
  | [], f, a, b, _, h => by cases h
  | x :: r, f, a, b, hk, h => by
    simp only [trOf] at h
    split at h
    · rename_i hf
      injection h with h
      have := hk x List.mem_cons_self
      rw [hf, h] at this
      exact this
    · exact trOf_spec (fun y hy => hk y (List.mem_cons_of_mem _ hy)) h

theorem Lay.tb {P : Program} {pu : Nat → Nat} {G : Globs} {t : FT} {tr : List (Nat × Nat × Nat)} {l : List Ans} (h : Lay P pu G t tr) (hl : Known P G l) : TbOK P pu (tbl G t tr l) where
  orders := h.orders
  fn f cf hf := FT.get_all t f cf h.fns hf
  pf f args fe hf := findA_spec hl hf
  tr f cty th hf := trOf_spec h.trs hf

/-- What the machine says of a run is so. -/
theorem Lay.run {P : Program} {pu : Nat → Nat} {G : Globs} {t : FT} {tr : List (Nat × Nat × Nat)} (h : Lay P pu G t tr) (l : List Ans) (hl : Known P G l) {f : Nat} {as : List AV} {fe : FE}
    (hc : chk (tbl G t tr l) f as fe = true) : SPF P G f as fe := by
  unfold chk at hc
  split at hc
  · cases hc
  · rename_i m hm
    split at hc
    · rename_i x hx
      have e := eqFE_sound _ _ hc
      subst e
      exact pf_of_wp (WpF.mono (fun e S' hmem => oneFE_spec hx _ hmem) ((tb_sound (h.tb hl) 100).1 f as [] m hm))
    · cases hc

end Go.AM

set_option linter.unusedSimpArgs false
set_option linter.unusedVariables false
namespace Go.AM
open Go.ChangeShapes Go.WideShapes Go.ChangeAt Go.RowKit

/-- Types of plain data. -/
inductive TD where
  | int (k : IntKind)
  | bool
  | str
  | slice (e : TD)
  | struct (fs : List TD)

mutual
def TD.size : TD → Nat
  | .struct fs => TD.sizeL fs
  | _ => 1
def TD.sizeL : List TD → Nat
  | [] => 0
  | d :: r => d.size + TD.sizeL r
end

mutual
/-- The type is so in the program. -/
def TD.ok (P : Program) : TD → Nat → Bool
  | .int k, t => match P.underlying t with | some (.int j) => decide (j = k) | _ => false
  | .bool, t => match P.underlying t with | some .bool => true | _ => false
  | .str, t => match P.underlying t with | some .string => true | _ => false
  | .slice e, t => match P.underlying t with | some (.slice te) => e.ok P te && P.cellsOf te == e.size && decide (0 < e.size) && decide (0 < P.bytesOf te) | _ => false
  | .struct fs, t => match P.underlying t with | some (.struct F) => P.cellsOf t == TD.sizeL fs && TD.okL P fs F.toList 0 | _ => false
def TD.okL (P : Program) : List TD → List Field → Nat → Bool
  | [], [], _ => true
  | d :: ds, f :: fs, off => f.offset == off && P.cellsOf f.type == d.size && d.ok P f.type && TD.okL P ds fs (off + d.size)
  | _, _, _ => false
end

mutual
/-- Cells that hold such data. -/
def TD.Fits : TD → List AV → Prop
  | .int k, l => ∃ n, l = [.int k n] ∧ (Lit.int k n).wf = true
  | .bool, l => ∃ b, l = [.bool b]
  | .str, l => ∃ s, l = [.str s] ∧ s.length < 140737488355328
  | .slice e, l => l = [.nsl] ∨ ∃ ch : List (List AV), l = [.fsl ch.flatten ch.length] ∧ (∀ c ∈ ch, e.Fits c) ∧ ch.length < 140737488355328
  | .struct fs, l => TD.FitsL fs l
def TD.FitsL : List TD → List AV → Prop
  | [], l => l = []
  | d :: ds, l => ∃ a b, l = a ++ b ∧ d.Fits a ∧ TD.FitsL ds b
end

/-- All that lies in a world. -/
def Wf (W : World) : Fz := fun k => k < W.heap.size

section
variable {H : Type} {enc : TypeId × Value → H} {P : Program} {W : World} {sp : Nat → Bool} {held : Bool}

theorem mapM_length' {α β : Type} {f : α → Option β} : ∀ {l : List α} {r : List β}, l.mapM f = some r → r.length = l.length ∧ ∀ (j : Nat) (x : α), l[j]? = some x → f x = r[j]?
  | [], r, h => by simp at h; subst h; exact ⟨rfl, fun j x hx => by simp at hx⟩
  | a :: l, r, h => by
    rw [List.mapM_cons] at h
    cases ha : f a with
    | none => simp [ha] at h
    | some y =>
      cases hl : l.mapM f with
      | none => simp [ha, hl] at h
      | some ys =>
        simp [ha, hl] at h
        subst h
        obtain ⟨h1, h2⟩ := mapM_length' hl
        refine ⟨by simp [h1], fun j x hx => ?_⟩
        cases j with
        | zero => simp at hx; subst hx; simpa using ha
        | succ j => simpa using h2 j x (by simpa using hx)

theorem add_plain {blk off n : Nat} : (⟨blk, off, none⟩ : Addr).add n = ⟨blk, off + n, none⟩ := by
  unfold Addr.add; split
  · rename_i h; subst h; rfl
  · rfl

/-- Cells that are there. -/
theorem cells_at {a : Addr} {n : Nat} {cs : List Value} (h : W.cells? 0 a n = some cs) : cs.length = n ∧ (0 < n → a.spot = none) ∧ ∀ j v, cs[j]? = some v → W.cell? ⟨a.block, a.off + j, none⟩ = some v := by
  unfold World.cells? at h
  rw [if_pos (Nat.zero_le _)] at h
  obtain ⟨hl0, hg0⟩ := mapM_length' h
  have hl : cs.length = n := by simpa using hl0
  have hg : ∀ j v, cs[j]? = some v → W.cell? (a.add j) = some v := by
    intro j v hv
    have hj : j < n := by rw [← hl]; exact (List.getElem?_eq_some_iff.1 hv).1
    have := hg0 j j (by simp [hj])
    rw [this]; exact hv
  have hs : 0 < n → a.spot = none := by
    intro hn
    obtain ⟨v, hv⟩ : ∃ v, cs[0]? = some v := ⟨cs[0]'(by omega), by simp⟩
    have := hg 0 v hv
    have e : a.add 0 = a := by simp [Addr.add]
    rw [e] at this
    cases hsp : a.spot with
    | none => rfl
    | some s =>
      simp only [World.cell?] at this
      split at this
      · simp [hsp] at this
      · cases this
  refine ⟨hl, hs, fun j v hv => ?_⟩
  have hj : j < n := by rw [← hl]; exact (List.getElem?_eq_some_iff.1 hv).1
  have := hg j v hv
  have hsp := hs (by omega)
  obtain ⟨ab, ao, as⟩ := a
  simp only at hsp
  subst hsp
  rw [add_plain] at this
  exact this


theorem fsz : ∀ {d : TD} {t : Nat}, d.ok P t = true → ∀ {fuel : Nat} {cs : List Value} {x : DataW H × List MemPlace}, DataW.trod enc P W 0 sp held fuel t cs = some x → cs.length = d.size
  | .int k, t, h, fuel, cs, x, hx => by
    simp only [TD.ok] at h
    split at h
    · rename_i j ht
      obtain ⟨n, rfl, _⟩ := DataW.trod_int ht hx
      rfl
    · cases h
  | .bool, t, h, fuel, cs, x, hx => by
    simp only [TD.ok] at h
    split at h
    · rename_i ht
      obtain ⟨n, rfl, _⟩ := DataW.trod_bool ht hx
      rfl
    · cases h
  | .str, t, h, fuel, cs, x, hx => by
    simp only [TD.ok] at h
    split at h
    · rename_i ht
      obtain ⟨n, rfl, _⟩ := DataW.trod_string ht hx
      rfl
    · cases h
  | .slice e, t, h, fuel, cs, x, hx => by
    simp only [TD.ok] at h
    split at h
    · rename_i te ht
      rcases DataW.trod_slice ht hx with ⟨rfl, _⟩ | ⟨a, len, cap, elems, rest, n, _, rfl, _⟩ <;> rfl
    · cases h
  | .struct fs, t, h, fuel, cs, x, hx => by
    simp only [TD.ok] at h
    split at h
    · rename_i F ht
      obtain ⟨xs, n, _, _, hl, _⟩ := DataW.trod_struct ht hx
      simp only [Bool.and_eq_true, beq_iff_eq] at h
      rw [hl, h.1]; rfl
    · cases h

mutual
theorem fits_trod : ∀ {d : TD} {t : Nat}, d.ok P t = true → ∀ {fuel : Nat} {cs : List Value} {x : DataW H × List MemPlace}, DataW.trod enc P W 0 sp held fuel t cs = some x →
    (∀ n ∈ x.1.weights P t, n ≤ reachBytes) → ∃ l, d.Fits l ∧ RepL [] (Wf W) W l cs ∧ ∀ c ∈ cs, c.oneCell' = true
  | .int k, t, h, fuel, cs, x, hx, hw => by
    simp only [TD.ok] at h
    split at h
    · rename_i j ht
      obtain ⟨n, rfl, _, hn⟩ := DataW.trod_int ht hx
      have hj : j = k := of_decide_eq_true h
      subst hj
      exact ⟨[.int j n], ⟨n, rfl, hn⟩, ⟨_, _, rfl, rfl, rfl⟩, by simp [Value.oneCell']⟩
    · cases h
  | .bool, t, h, fuel, cs, x, hx, hw => by
    simp only [TD.ok] at h
    split at h
    · rename_i ht
      obtain ⟨n, rfl, _⟩ := DataW.trod_bool ht hx
      exact ⟨[.bool n], ⟨n, rfl⟩, ⟨_, _, rfl, rfl, rfl⟩, by simp [Value.oneCell']⟩
    · cases h
  | .str, t, h, fuel, cs, x, hx, hw => by
    simp only [TD.ok] at h
    split at h
    · rename_i ht
      obtain ⟨n, rfl, rfl, hn⟩ := DataW.trod_string ht hx
      refine ⟨[.str n.data.toList], ⟨n.data.toList, rfl, ?_⟩, ⟨_, _, rfl, ⟨n, rfl, rfl⟩, rfl⟩, by simp [Value.oneCell']⟩
      have := hw n.data.toList.length (by simp [DataW.weights])
      have h2 : reachBytes < 140737488355328 := by decide
      omega
    · cases h
  | .slice e, t, h, fuel, cs, x, hx, hw => by
    simp only [TD.ok] at h
    split at h
    · rename_i te ht
      simp only [Bool.and_eq_true, beq_iff_eq, decide_eq_true_eq] at h
      obtain ⟨⟨⟨he, hsz⟩, h0⟩, hby⟩ := h
      rcases DataW.trod_slice ht hx with ⟨rfl, _⟩ | ⟨a, len, cap, elems, rest, n, _, rfl, rfl, _, hlc, _, hel, hall, _⟩
      · exact ⟨[.nsl], .inl rfl, ⟨_, _, rfl, rfl, rfl⟩, by simp [Value.oneCell']⟩
      · simp only [DataW.weights, ht] at hw
        have hlen : len < 140737488355328 := by
          have := hw _ List.mem_cons_self
          simp only [List.length_map] at this
          have h2 : reachBytes < 140737488355328 := by decide
          have h3 : elems.length ≤ (elems.length + rest.length) * P.bytesOf te := Nat.le_trans (Nat.le_add_right _ _) (Nat.le_mul_of_pos_right _ hby)
          omega
        have hwe : ∀ (i : Nat) (y : DataW H × List MemPlace), elems[i]? = some y → ∀ m ∈ y.1.weights P te, m ≤ reachBytes := by
          intro i y hy m hm
          refine hw m (List.mem_cons_of_mem _ (List.mem_append_left _ ?_))
          have : ∀ (l : List (DataW H)) (i : Nat) (d : DataW H), l[i]? = some d → ∀ m ∈ d.weights P te, m ∈ DataW.weightsAll P te l := by
            intro l
            induction l with
            | nil => intro i d hd; simp at hd
            | cons c l ih =>
              intro i d hd m hm
              simp only [DataW.weightsAll, List.mem_append]
              cases i with
              | zero => simp at hd; subst hd; exact .inl hm
              | succ i => exact .inr (ih i d (by simpa using hd) m hm)
          exact this _ i y.1 (by rw [List.getElem?_map, hy]; rfl) m hm
        have hone : ∀ i, i < len → ∃ l cs', e.Fits l ∧ RepL [] (Wf W) W l cs' ∧ (∀ c ∈ cs', c.oneCell' = true) ∧ W.cells? 0 (a.add (i * e.size)) e.size = some cs' := by
          intro i hi
          have hb := hall i hi
          rw [hsz] at hb
          obtain ⟨y, hy⟩ : ∃ y, elems[i]? = some y := ⟨elems[i]'(by omega), by simp⟩
          rw [hy] at hb
          obtain ⟨cs', hc1, hc2⟩ := Option.bind_eq_some_iff.1 hb
          obtain ⟨l, hl1, hl2, hl3⟩ := fits_trod he hc2 (hwe i y hy)
          exact ⟨l, cs', hl1, hl2, hl3, hc1⟩
        rcases Nat.eq_zero_or_pos len with hz | hpos
        · subst hz
          exact ⟨[.fsl [] 0], .inr ⟨[], rfl, by simp, by simp⟩, ⟨_, _, rfl, ⟨some a, cap, rfl, hlc, .inl rfl⟩, rfl⟩, by simp [Value.oneCell']⟩
        · obtain ⟨l0, cs0, _, _, _, hc0⟩ := hone 0 hpos
          have hsp : a.spot = none := by
            have := (cells_at hc0).2.1 h0
            simpa [Addr.add] using this
          obtain ⟨blk, off, spot⟩ := a
          simp only at hsp
          subst hsp
          have build : ∀ m, m ≤ len → ∃ ch : List (List AV), ch.length = m ∧ (∀ c ∈ ch, e.Fits c) ∧ ch.flatten.length = m * e.size ∧ RepAt [] (Wf W) W ch.flatten blk off := by
            intro m
            induction m with
            | zero => intro _; exact ⟨[], rfl, by simp, by simp, trivial⟩
            | succ m ih =>
              intro hm
              obtain ⟨ch, h1, h2, h3, h4⟩ := ih (by omega)
              obtain ⟨l, cs', g1, g2, g3, g4⟩ := hone m (by omega)
              rw [add_plain] at g4
              obtain ⟨k1, _, k3⟩ := cells_at g4
              refine ⟨ch ++ [l], by simp [h1], ?_, ?_, ?_⟩
              · intro c hc
                rcases List.mem_append.1 hc with hc | hc
                · exact h2 c hc
                · simp at hc; subst hc; exact g1
              · have : l.length = e.size := by rw [← k1, RepL.length g2]
                simp only [List.flatten_append, List.length_append, h3, List.flatten_cons, List.flatten_nil, List.append_nil, this, Nat.add_mul, Nat.one_mul]
              · simp only [List.flatten_append, List.flatten_cons, List.flatten_nil, List.append_nil]
                refine RepAt.append h4 ?_
                rw [h3]
                exact RepAt.of_list g2 g3 k3
          obtain ⟨ch, h1, h2, h3, h4⟩ := build len (Nat.le_refl _)
          have hblk : blk < W.heap.size := by
            obtain ⟨k1, _, k3⟩ := cells_at hc0
            obtain ⟨v, hv⟩ : ∃ v, cs0[0]? = some v := ⟨cs0[0]'(by omega), by simp⟩
            have := World.block_lt_of_cell? _ _ (k3 0 v hv)
            simpa [Addr.add] using this
          refine ⟨[.fsl ch.flatten ch.length], .inr ⟨ch, rfl, h2, by omega⟩, ⟨_, _, rfl, ⟨_, cap, by rw [h1], by omega, .inr ⟨blk, off, rfl, hblk, h4⟩⟩, rfl⟩, by simp [Value.oneCell']⟩
    · cases h
  | .struct fs, t, h, fuel, cs, x, hx, hw => by
    simp only [TD.ok] at h
    split at h
    · rename_i F ht
      simp only [Bool.and_eq_true, beq_iff_eq] at h
      obtain ⟨xs, n, _, rfl, hl, hxl, hf⟩ := DataW.trod_struct ht hx
      simp only [DataW.weights, ht] at hw
      have := fitsL_trod (fs := fs) (F := F.toList) (off := 0) (xs := xs) (cs := cs) h.2 (by simpa using hxl) (fun i f hi => hf i f (by simpa using hi)) hw (by rw [hl, h.1]; omega)
      simpa [TD.Fits] using this
    · cases h
theorem fitsL_trod : ∀ {fs : List TD} {F : List Field} {off : Nat} {xs : List (DataW H × List MemPlace)} {n : Nat} {cs : List Value}, TD.okL P fs F off = true → xs.length = F.length →
    (∀ (i : Nat) (f : Field), F[i]? = some f → DataW.trod enc P W 0 sp held n f.type ((cs.drop f.offset).take (P.cellsOf f.type)) = xs[i]?) →
    (∀ m ∈ DataW.weightsEach P (F.map (·.type)) (xs.map (·.1)), m ≤ reachBytes) → cs.length = off + TD.sizeL fs →
    ∃ l, TD.FitsL fs l ∧ RepL [] (Wf W) W l (cs.drop off) ∧ ∀ c ∈ cs.drop off, c.oneCell' = true
  | [], [], off, xs, n, cs, h, hxl, hf, hw, hl => by
    have : cs.drop off = [] := by simp [TD.sizeL] at hl; simp [hl]
    rw [this]; exact ⟨[], rfl, rfl, by simp⟩
  | [], _ :: _, off, xs, n, cs, h, hxl, hf, hw, hl => by simp [TD.okL] at h
  | _ :: _, [], off, xs, n, cs, h, hxl, hf, hw, hl => by simp [TD.okL] at h
  | d :: ds, f :: F, off, xs, n, cs, h, hxl, hf, hw, hl => by
    simp only [TD.okL, Bool.and_eq_true, beq_iff_eq] at h
    obtain ⟨⟨⟨ho, hc⟩, hd⟩, hr⟩ := h
    cases xs with
    | nil => simp at hxl
    | cons y ys =>
      simp only [List.map_cons, DataW.weightsEach, List.mem_append] at hw
      have h0 := hf 0 f rfl
      simp only [List.getElem?_cons_zero, ho, hc] at h0
      obtain ⟨l1, a1, a2, a3⟩ := fits_trod hd h0 (fun m hm => hw m (.inl hm))
      simp only [TD.sizeL] at hl
      obtain ⟨l2, b1, b2, b3⟩ := fitsL_trod (xs := ys) (n := n) (cs := cs) hr (by simpa using hxl) (fun i g hg => by simpa using hf (i + 1) g (by simpa using hg)) (fun m hm => hw m (.inr hm)) (by omega)
      have e : cs.drop off = (cs.drop off).take d.size ++ cs.drop (off + d.size) := by
        rw [← List.drop_drop]; exact (List.take_append_drop _ _).symm
      rw [e]
      refine ⟨l1 ++ l2, ⟨l1, l2, rfl, a1, b1⟩, RepL.append a2 b2, fun c hc => ?_⟩
      rcases List.mem_append.1 hc with hc | hc
      · exact a3 c hc
      · exact b3 c hc
end


/-- A value of such data. -/
def TD.Val : TD → AV → Prop
  | .struct fs, v => ∃ l, v = .agg l ∧ TD.FitsL fs l
  | d, v => d.Fits [v]
def TD.ValL : List TD → List AV → Prop
  | [], l => l = []
  | d :: ds, l => ∃ v r, l = v :: r ∧ d.Val v ∧ TD.ValL ds r

theorem val_one {d : TD} (hs : ∀ fs, d ≠ .struct fs) {v : Value} {dd : DataW H} {fuel : Nat} {p : List MemPlace} {t : Nat} (ho : d.ok P t = true) (hc : v.cells.toList = [v]) (h : DataW.trod enc P W 0 sp held fuel t v.cells.toList = some (dd, p))
    (hw : ∀ n ∈ dd.weights P t, n ≤ reachBytes) : ∃ a, d.Val a ∧ Rep [] (Wf W) W a v := by
  obtain ⟨l, h1, h2, _⟩ := fits_trod ho h hw
  rw [hc] at h2
  cases l with
  | nil => simp [RepL] at h2
  | cons a r =>
    obtain ⟨y, r', e, h3, h4⟩ := h2
    injection e with e1 e2
    subst e1; subst e2
    cases r with
    | cons _ _ => obtain ⟨_, _, e, _⟩ := h4; cases e
    | nil =>
      refine ⟨a, ?_, h3⟩
      cases d with
      | struct fs => exact absurd rfl (hs fs)
      | _ => exact h1

theorem val_trod {d : TD} {t : Nat} (ho : d.ok P t = true) {v : Value} {dd : DataW H} {p : List MemPlace} {b0 : Nat} (hval : Value.okWide P W .any b0 t v) (h : DataW.Trod enc P W 0 sp held t v dd p)
    (hw : ∀ n ∈ dd.weights P t, n ≤ reachBytes) : ∃ a, d.Val a ∧ Rep [] (Wf W) W a v := by
  obtain ⟨fuel, h⟩ := h
  cases d with
  | int k =>
    have ho' := ho
    simp only [TD.ok] at ho'
    split at ho'
    · rename_i j ht
      obtain ⟨n, rfl⟩ := okWide_int ht hval
      exact val_one (by intro fs h; cases h) ho rfl h hw
    · cases ho'
  | bool =>
    have ho' := ho
    simp only [TD.ok] at ho'
    split at ho'
    · rename_i ht
      obtain ⟨n, rfl⟩ := okWide_bool ht hval
      exact val_one (by intro fs h; cases h) ho rfl h hw
    · cases ho'
  | str =>
    have ho' := ho
    simp only [TD.ok] at ho'
    split at ho'
    · rename_i ht
      obtain ⟨n, rfl⟩ := okWide_string ht hval
      exact val_one (by intro fs h; cases h) ho rfl h hw
    · cases ho'
  | slice e =>
    have ho' := ho
    simp only [TD.ok] at ho'
    split at ho'
    · rename_i te ht
      obtain ⟨a, n, c, rfl⟩ := okWide_slice ht hval
      exact val_one (by intro fs h; cases h) ho rfl h hw
    · cases ho'
  | struct fs =>
    have ho' := ho
    simp only [TD.ok] at ho'
    split at ho'
    · rename_i F ht
      simp only [Value.okWide, ht] at hval
      obtain ⟨cs, rfl, _, _⟩ := hval
      obtain ⟨l, h1, h2, h3⟩ := fits_trod ho h hw
      exact ⟨.agg l, ⟨l, rfl, h1⟩, cs, rfl, h2, h3⟩
    · cases ho'

theorem args_trod {b0 : Nat} : ∀ {tds : List TD} {ts : List Nat} {vs : List Value} {ds : List (DataW H)} {p : List MemPlace}, (tds.zip ts).all (fun x => x.1.ok P x.2) = true → tds.length = ts.length →
    DataW.TrodAll enc P W 0 sp held ts vs ds p → (∀ (j : Nat) t v, ts[j]? = some t → vs[j]? = some v → Value.okWide P W .any b0 t v) → (∀ n ∈ DataW.weightsEach P ts ds, n ≤ reachBytes) →
    ∃ l, TD.ValL tds l ∧ RepL [] (Wf W) W l vs
  | [], [], vs, ds, p, _, _, h, _, _ => by
    obtain ⟨rfl, _, _⟩ := trodAll_nil h
    exact ⟨[], rfl, rfl⟩
  | [], _ :: _, _, _, _, _, h, _, _, _ => by simp at h
  | _ :: _, [], _, _, _, _, h, _, _, _ => by simp at h
  | d :: tds, t :: ts, vs, ds, p, ho, hl, h, hv, hw => by
    obtain ⟨v, vs', dd, ds', p1, p2, rfl, rfl, rfl, h1, h2⟩ := trodAll_cons h
    simp only [List.zip_cons_cons, List.all_cons, Bool.and_eq_true] at ho
    simp only [DataW.weightsEach, List.mem_append] at hw
    obtain ⟨a, a1, a2⟩ := val_trod ho.1 (hv 0 t v rfl rfl) h1 (fun n hn => hw n (.inl hn))
    obtain ⟨l, l1, l2⟩ := args_trod ho.2 (by simpa using hl) h2 (fun j t v ht hv' => hv (j + 1) t v (by simpa using ht) (by simpa using hv')) (fun n hn => hw n (.inr hn))
    exact ⟨a :: l, ⟨a, l, rfl, a1, l1⟩, v, vs', rfl, a2, l2⟩

theorem trodAll_below {W' : World} (hl : laidOutB P = true) (hb : Below W.heap.size W W') : ∀ {ts : List Nat} {vs : List Value} {ds : List (DataW H)} {p : List MemPlace}, ts.all (fun t => P.readableRec t && decide (t < P.types.size)) = true →
    DataW.TrodAll enc P W 0 (fun _ => true) true ts vs ds p → DataW.TrodAll enc P W' 0 (fun b => decide (b < W.heap.size)) true ts vs ds p
  | [], vs, ds, p, _, h => by
    obtain ⟨rfl, rfl, rfl⟩ := trodAll_nil h
    exact trodAll_mk0
  | t :: ts, vs, ds, p, hr, h => by
    have hlt := h.lt
    obtain ⟨v, vs', dd, ds', p1, p2, rfl, rfl, rfl, h1, h2⟩ := trodAll_cons h
    simp only [List.all_cons, Bool.and_eq_true, decide_eq_true_eq] at hr
    exact trodAll_cons_mk (Below.trod hl hr.1.1 hr.1.2 h1 hb (fun x hx => hlt x (List.mem_append_left _ hx))) (trodAll_below hl hb hr.2 h2)

/-- From the machine's answer to what the row asks of the call. -/
theorem law_close {f : Nat} {fn : Func} {s : ChangeSpec} {args : Array Value} {ds gs : List (DataW H)} {before : List MemPlace} {avs : List AV} {tb : Nat} {G : Globs} {again : Bool} (hag : again = false)
    (hvars : s.vars = []) (hl : laidOutB P = true) (hts : fn.params.toList.all (fun t => P.readableRec t && decide (t < P.types.size)) = true) (hres : fn.resultTypes = #[tb]) (hb : P.underlying tb = some .bool)
    (hW : DataW.Whole enc P fn.params.toList s.vars false W args.toList ds gs before) (hs : s.fn H (ds ++ gs) = ⟨[.lit (.bool true)], ds, []⟩)
    (hG : GlobOK G (Wf W) W) (hrep : RepL [] (Wf W) W avs args.toList) (h : SPF P G f avs (.ret (.bool true))) :
    Calls P f args W fun e W' => ∃ v, e = .returned v ∧ s.post enc P fn false true false again W args v W' := by
  refine calls_mono (h.2 (Wf W) W args (fun k hk => hk) hG hrep) ?_
  intro e W' he
  cases e with
  | returned v =>
    obtain ⟨F', hE, _, av, hav, hr⟩ := he
    injection hav with hav
    subst hav
    have hv : v = .bool true := hr
    subst hv
    have hbel : Below W.heap.size W W' := ⟨hE.os, hE.tape, hE.out, hE.size, fun k hk => hE.frame k hk (.inl hk)⟩
    refine ⟨_, rfl, ?_⟩
    have hW' := hW
    obtain ⟨p, q, hA, hV, rfl, hfz, hnd⟩ := hW
    subst hag
    refine ⟨ds, gs, _, [], p, [], hW', ?_, ?_, ?_, hbel.frame _, fun h => by cases h⟩
    · rw [hs, hres]; exact trodAll_mk1 (shut_bool hb _)
    · rw [hs]; exact trodAll_below hl hbel hts hA
    · rw [hs, hvars]; rfl
  | panicked ch =>
    obtain ⟨F', _, _, av, v, hav, _⟩ := he
    cases hav
  | outgrown => exact he.elim

end
end Go.AM

set_option linter.unusedSimpArgs false
set_option linter.unusedVariables false
namespace Go.AM

/-- A slice of numbers of a kind, frozen. -/
structure IsI (k : IntKind) (l : List Int) (v : AV) : Prop where
  cases : (l = [] ∧ (v = .nsl ∨ v = .esl)) ∨ v = .fsl (l.map (.int k)) l.length

namespace IsI
variable {k : IntKind} {l : List Int} {v : AV}
theorem of_fsl : IsI k l (.fsl (l.map (.int k)) l.length) := ⟨.inr rfl⟩
theorem nsl : IsI k [] .nsl := ⟨.inl ⟨rfl, .inl rfl⟩⟩
theorem esl : IsI k [] .esl := ⟨.inl ⟨rfl, .inr rfl⟩⟩
theorem len (h : IsI k l v) : slLen v = some l.length := by
  rcases h.cases with ⟨rfl, rfl | rfl⟩ | rfl <;> rfl
theorem parts (h : IsI k l v) : v.parts = [v] := by
  rcases h.cases with ⟨rfl, rfl | rfl⟩ | rfl <;> rfl
theorem solid (h : IsI k l v) : v.solid = true := by
  rcases h.cases with ⟨rfl, rfl | rfl⟩ | rfl <;> rfl
theorem pureL_int (k : IntKind) : ∀ l : List Int, pureL (l.map (.int k)) = true
  | [] => rfl
  | a :: r => by simp only [List.map_cons, pureL, AV.pure, Bool.true_and]; exact pureL_int k r
theorem pure (h : IsI k l v) : v.pure = true := by
  rcases h.cases with ⟨rfl, rfl | rfl⟩ | rfl
  · rfl
  · rfl
  · simp only [AV.pure]; exact pureL_int k l
/-- The address of an element. -/
theorem at_ (h : IsI k l v) {i : Nat} (hi : i < l.length) : iaddrV 1 i v = some (.fptr ((l.map (.int k)).drop i)) := by
  rcases h.cases with ⟨rfl, _⟩ | rfl
  · simp at hi
  · simp [iaddrV, hi]
theorem drop_get (k : IntKind) (l : List Int) {i : Nat} (hi : i < l.length) : ((l.map (.int k)).drop i)[0]? = some (AV.int k (l.getD i 0)) := by
  simp [hi]
theorem frz (h : IsI k l v) (ok : Nat → Bool) (n : Nat) (S : Store) : frz ok (n + 2) S v = v := by
  rcases h.cases with ⟨rfl, rfl | rfl⟩ | rfl
  · rfl
  · rfl
  · simp only [AM.frz, List.map_map]
    congr 1
end IsI

theorem onO_eq {α : Type} {o : Option α} {v : α} (h : o = some v) (f : α → Prop) : onO o f = f v := by rw [h]; rfl

theorem wrap_i64 {n : Int} (h1 : -9223372036854775808 ≤ n) (h2 : n < 9223372036854775808) : IntKind.wrap .i64 n = n := by
  simp only [IntKind.wrap, IntKind.signed, IntKind.bits]
  simp only [Bool.true_and, ge_iff_le, decide_eq_true_eq]
  split <;> omega
theorem wrap_u32 {n : Int} (h1 : 0 ≤ n) (h2 : n < 4294967296) : IntKind.wrap .u32 n = n := by
  simp only [IntKind.wrap, IntKind.signed, IntKind.bits, Bool.false_and, Bool.false_eq_true, if_false]
  omega
theorem wrap_u64 {n : Int} (h1 : 0 ≤ n) (h2 : n < 18446744073709551616) : IntKind.wrap .u64 n = n := by
  simp only [IntKind.wrap, IntKind.signed, IntKind.bits, Bool.false_and, Bool.false_eq_true, if_false]
  omega


@[go_sem] theorem ex_some {α : Type} (x : α) (p : α → Prop) : (∃ v, some x = some v ∧ p v) = p x := by simp
@[go_sem] theorem fe_ret (n : Nat) (S : Store) (v : AV) : (FE.ret v).frz n S = .ret (frz yes n S v) := rfl
@[go_sem] theorem fe_pan (n : Nat) (S : Store) (v : AV) : (FE.panic v).frz n S = .panic (frz yes n S v) := rfl
@[go_sem] theorem frz_bool (ok : Nat → Bool) (n : Nat) (S : Store) (b : Bool) : frz ok (n + 1) S (.bool b) = .bool b := rfl
@[go_sem] theorem frz_int (ok : Nat → Bool) (n : Nat) (S : Store) (k : IntKind) (x : Int) : frz ok (n + 1) S (.int k x) = .int k x := rfl
@[go_sem] theorem frz_str (ok : Nat → Bool) (n : Nat) (S : Store) (s : List UInt8) : frz ok (n + 1) S (.str s) = .str s := rfl
@[go_sem] theorem frz_nsl (ok : Nat → Bool) (n : Nat) (S : Store) : frz ok (n + 1) S .nsl = .nsl := rfl
@[go_sem] theorem frz_esl (ok : Nat → Bool) (n : Nat) (S : Store) : frz ok (n + 1) S .esl = .esl := rfl
@[go_sem] theorem frz_agg (ok : Nat → Bool) (n : Nat) (S : Store) (l : List AV) : frz ok (n + 1) S (.agg l) = .agg (l.map (frz ok n S)) := rfl
@[go_sem] theorem frz_tup (ok : Nat → Bool) (n : Nat) (S : Store) (l : List AV) : frz ok (n + 1) S (.tup l) = .tup (l.map (frz ok n S)) := rfl
@[go_sem] theorem frz_fsl (ok : Nat → Bool) (n : Nat) (S : Store) (l : List AV) (m : Nat) : frz ok (n + 1) S (.fsl l m) = .fsl (l.map (frz ok n S)) m := rfl
attribute [go_sem] FE.ret.injEq AV.bool.injEq AV.int.injEq AV.tup.injEq AV.agg.injEq List.cons.injEq

/-- A loop, by an invariant over what is not seen. -/
theorem loop_of {P : Program} {G : Globs} {σ : Type} {b : CC} {k : K} (I : σ → St → Prop) (m : σ → Nat)
    (h : ∀ x st, I x st → CC.wp (SX P G) b (k.andThen fun st' => ∃ y, I y st' ∧ m y < m x) st) {x0 : σ} {st0 : St} (h0 : I x0 st0) : CC.wp (SX P G) (.loop b) k st0 := by
  have key : ∀ n x st, m x < n → I x st → LpN (CC.wp (SX P G) b) k n st := by
    intro n
    induction n with
    | zero => intro x st hn; omega
    | succ n ih =>
      intro x st hn hx
      refine cc_mono SX.mono b (andThen_mono (fun _ _ h => h) ?_) (h x st hx)
      rintro st' ⟨y, hy, hm⟩
      exact ih y st' (by omega) hy
  exact lp_of_n (body := CC.wp (SX P G) b) (fun k k' st hk h => cc_mono SX.mono b hk h) (key (m x0 + 1) x0 st0 (Nat.lt_succ_self _) h0)

theorem sum_take (l : List Int) {i : Nat} (h : i < l.length) : (l.take (i + 1)).sum = (l.take i).sum + l.getD i 0 := by
  rw [List.take_succ_eq_append_getElem h, List.sum_append]; simp [h]
theorem sum_bd {l : List Int} {c : Int} (h : ∀ x ∈ l, 0 ≤ x ∧ x ≤ c) : ∀ i : Nat, i ≤ l.length → 0 ≤ (l.take i).sum ∧ (l.take i).sum ≤ c * i
  | 0, _ => by simp
  | i + 1, hi => by
    obtain ⟨h1, h2⟩ := sum_bd h i (by omega)
    have hm : l.getD i 0 ∈ l := by simp [show i < l.length by omega]
    obtain ⟨h3, h4⟩ := h _ hm
    rw [sum_take l (by omega)]
    constructor
    · omega
    · push_cast; rw [Int.mul_add]; omega

@[congr] theorem callP_congr {X : Cx} {f : Nat} {as as' : List AV} {S : Store} {n p : AV → Prop} (h : as = as') : callP X f as S n p = callP X f as' S n p := by rw [h]
@[congr] theorem callK_congr {X : Cx} {f : Nat} {as as' : List AV} {S : Store} {n p : AV → Store → Prop} (h : as = as') : callK X f as S n p = callK X f as' S n p := by rw [h]
@[congr] theorem WpF_congr {P : Program} {G : Globs} {f : Nat} {as as' : List AV} {S : Store} {R : FK} (h : as = as') : WpF P G f as S R = WpF P G f as' S R := by rw [h]
end Go.AM

set_option linter.unusedSimpArgs false
set_option linter.unusedVariables false
namespace Go.AM

attribute [go_sem] List.drop_zero List.drop_succ_cons List.take_succ_cons List.take_zero List.take_nil Nat.reduceSub Nat.zero_add Nat.add_zero
@[go_sem ↓] theorem cut2 (a b : AV) (l : List AV) : cut (a :: b :: l) 0 2 true = some (.agg [a, b]) := by simp [cut]
@[go_sem ↓] theorem cut3 (a b c : AV) (l : List AV) : cut (a :: b :: c :: l) 0 3 true = some (.agg [a, b, c]) := by simp [cut]
@[go_sem ↓] theorem cut3_2 (a b c : AV) (l : List AV) : cut (a :: b :: c :: l) 0 2 true = some (.agg [a, b]) := by simp [cut]
@[go_sem ↓] theorem faddr0 (l : List AV) : faddrV 0 (.fptr l) = some (.fptr l) := by simp [faddrV]
@[go_sem ↓] theorem faddr1 (a : AV) (l : List AV) : faddrV 1 (.fptr (a :: l)) = some (.fptr l) := by simp [faddrV]
@[go_sem ↓] theorem faddr2 (a b : AV) (l : List AV) : faddrV 2 (.fptr (a :: b :: l)) = some (.fptr l) := by simp [faddrV]

/-- A term: sign, words, exponents. -/
structure Tm where
  neg : Bool
  ws : List Int
  ex : List Int
  deriving Inhabited

def TsCells : List Tm → List AV → Prop
  | [], c => c = []
  | t :: r, c => ∃ w e c', c = .bool t.neg :: w :: e :: c' ∧ IsI .u32 t.ws w ∧ IsI .i64 t.ex e ∧ TsCells r c'

namespace TsCells
theorem length : ∀ {ts : List Tm} {c : List AV}, TsCells ts c → c.length = 3 * ts.length
  | [], c, h => by rw [h]; rfl
  | t :: r, _, ⟨w, e, c', rfl, _, _, h⟩ => by simp [length h]; omega
theorem pure : ∀ {ts : List Tm} {c : List AV}, TsCells ts c → pureL c = true
  | [], c, h => by rw [h]; rfl
  | t :: r, _, ⟨w, e, c', rfl, hw, he, h⟩ => by simp [pureL, AV.pure, hw.pure, he.pure, pure h]
theorem at_ : ∀ {ts : List Tm} {c : List AV}, TsCells ts c → ∀ {i : Nat}, i < ts.length →
    ∃ w e c', c.drop (i * 3) = .bool (ts.getD i default).neg :: w :: e :: c' ∧ IsI .u32 (ts.getD i default).ws w ∧ IsI .i64 (ts.getD i default).ex e
  | [], c, h, i, hi => by simp at hi
  | t :: r, _, ⟨w, e, c', rfl, hw, he, h⟩, i, hi => by
    cases i with
    | zero => exact ⟨w, e, c', rfl, hw, he⟩
    | succ i =>
      obtain ⟨w', e', c'', h1, h2, h3⟩ := at_ h (i := i) (by simpa using hi)
      refine ⟨w', e', c'', ?_, by simpa using h2, by simpa using h3⟩
      rw [show (i + 1) * 3 = i * 3 + 3 by omega]
      simpa using h1
theorem append : ∀ {ts us : List Tm} {c d : List AV}, TsCells ts c → TsCells us d → TsCells (ts ++ us) (c ++ d)
  | [], us, c, d, h, h' => by rw [h]; exact h'
  | t :: r, us, _, d, ⟨w, e, c', rfl, hw, he, h⟩, h' => ⟨w, e, c' ++ d, rfl, hw, he, append h h'⟩
theorem frz {ok : Nat → Bool} {n : Nat} {S : Store} : ∀ {ts : List Tm} {c : List AV}, TsCells ts c → c.map (AM.frz ok (n + 2) S) = c
  | [], c, h => by rw [h]; rfl
  | t :: r, _, ⟨w, e, c', rfl, hw, he, h⟩ => by
    simp only [List.map_cons, hw.frz, he.frz, frz h]; rfl
end TsCells

structure IsTs (ts : List Tm) (s : AV) : Prop where
  cases : (ts = [] ∧ (s = .nsl ∨ s = .esl)) ∨ ∃ c, s = .fsl c ts.length ∧ TsCells ts c

namespace IsTs
variable {ts : List Tm} {s : AV}
theorem nsl : IsTs [] .nsl := ⟨.inl ⟨rfl, .inl rfl⟩⟩
theorem len (h : IsTs ts s) : slLen s = some ts.length := by
  rcases h.cases with ⟨rfl, rfl | rfl⟩ | ⟨c, rfl, _⟩ <;> rfl
theorem parts (h : IsTs ts s) : s.parts = [s] := by
  rcases h.cases with ⟨rfl, rfl | rfl⟩ | ⟨c, rfl, _⟩ <;> rfl
theorem solid (h : IsTs ts s) : s.solid = true := by
  rcases h.cases with ⟨rfl, rfl | rfl⟩ | ⟨c, rfl, _⟩ <;> rfl
theorem pure (h : IsTs ts s) : s.pure = true := by
  rcases h.cases with ⟨rfl, rfl | rfl⟩ | ⟨c, rfl, hc⟩
  · rfl
  · rfl
  · simp [AV.pure, hc.pure]
theorem at_ (h : IsTs ts s) {i : Nat} (hi : i < ts.length) : ∃ w e c', iaddrV 3 i s = some (.fptr (.bool (ts.getD i default).neg :: w :: e :: c')) ∧
    IsI .u32 (ts.getD i default).ws w ∧ IsI .i64 (ts.getD i default).ex e := by
  rcases h.cases with ⟨rfl, _⟩ | ⟨c, rfl, hc⟩
  · simp at hi
  · obtain ⟨w, e, c', h1, h2, h3⟩ := hc.at_ hi
    refine ⟨w, e, c', ?_, h2, h3⟩
    have hl := hc.length
    simp only [iaddrV, h1]
    rw [if_pos ⟨hi, by omega⟩]
theorem frz (h : IsTs ts s) (ok : Nat → Bool) (n : Nat) (S : Store) : AM.frz ok (n + 3) S s = s := by
  rcases h.cases with ⟨rfl, rfl | rfl⟩ | ⟨c, rfl, hc⟩
  · rfl
  · rfl
  · show AM.frz ok ((n + 2) + 1) S _ = _; rw [frz_fsl, hc.frz]
end IsTs

/-- The default of terms. -/
theorem getD_mem {α : Type} [Inhabited α] {l : List α} {i : Nat} (h : i < l.length) : l.getD i default ∈ l := by simp [h]

/- writes -/
attribute [go_sem] List.set_cons_zero List.set_cons_succ List.getElem?_concat_length
@[go_sem] theorem wrl_nil (cs : List AV) (off : Nat) : wrl cs off [] = cs := rfl
@[go_sem] theorem wrl_cons (cs : List AV) (off : Nat) (v : AV) (vs : List AV) : wrl cs off (v :: vs) = wrl (cs.set off v) (off + 1) vs := rfl
@[go_sem] theorem boxWr_last (L : Store) (cs : List AV) (ty g off : Nat) (sk : Bool) (vs : List AV) : boxWr (L ++ [.cells cs ty g sk]) L.length g off vs =
    if off + vs.length ≤ cs.length then some (L ++ [.cells (wrl cs off vs) ty g sk]) else none := by
  simp [boxWr]
@[go_sem] theorem boxWr_zero (S : Store) (cs : List AV) (ty g off : Nat) (sk : Bool) (vs : List AV) : boxWr (.cells cs ty g sk :: S) 0 g off vs =
    if off + vs.length ≤ cs.length then some (.cells (wrl cs off vs) ty g sk :: S) else none := by
  simp [boxWr]
@[go_sem] theorem boxWr_succ (S : Store) (x : Box) (b g off : Nat) (vs : List AV) : boxWr (x :: S) (b + 1) g off vs = (boxWr S b g off vs).map (x :: ·) := by
  simp only [boxWr, List.getElem?_cons_succ]
  cases hx : S[b]? with
  | none => rfl
  | some y =>
    cases y with
    | cells cs ty gen sk => simp only []; split <;> simp
    | _ => rfl
@[go_sem] theorem get_mid {α : Type} (l : List α) (a : α) (m : List α) : ((l ++ [a]) ++ m)[l.length]? = some a := by rw [List.append_assoc]; simp
theorem rd_last (L : Store) (cs : List AV) (ty g : Nat) (sk : Bool) : boxRd (L ++ [.cells cs ty g sk]) L.length g = some cs := by simp [boxRd]
end Go.AM

set_option linter.unusedSimpArgs false
set_option linter.unusedVariables false
namespace Go.AM

@[go_sem] theorem fillP_nil (cells : List AV) : fillP cells [] = some cells := rfl
@[go_sem] theorem fillP_cons (cells : List AV) (off n : Nat) (v : AV) (r : List (Nat × Nat × AV)) : fillP cells ((off, n, v) :: r) =
    if v.solid ∧ v.parts.length = n ∧ off + n ≤ cells.length then fillP (wrl cells off v.parts) r else none := rfl
theorem IsI.src {k : IntKind} {l : List Int} {v : AV} (h : IsI k l v) (S : Store) : srcOf S 1 false v = some (l.length, l.map (.int k)) := by
  rcases h.cases with ⟨rfl, rfl | rfl⟩ | rfl
  · rfl
  · rfl
  · simp [srcOf, slLen, slRd, List.take_of_length_le]
theorem refsL_int (k : IntKind) : ∀ l : List Int, refsL (l.map (.int k)) = []
  | [] => rfl
  | a :: r => by simp only [List.map_cons, refsL, refs, List.nil_append]; exact refsL_int k r
theorem IsI.refs {k : IntKind} {l : List Int} {v : AV} (h : IsI k l v) : AM.refs v = [] := by
  rcases h.cases with ⟨rfl, rfl | rfl⟩ | rfl
  · rfl
  · rfl
  · exact refsL_int k l
@[go_sem] theorem app_nsl (S : Store) (ty sz bytes n : Nat) (new : List AV) : appV S ty sz bytes n new .nsl = if n = 0 then some (.nsl, S) else appNew S ty sz bytes n new := rfl
@[go_sem] theorem app_new (S : Store) (ty sz bytes n : Nat) (new : List AV) : appNew S ty sz bytes n new = if n * bytes ≤ big ∧ n ≤ big then some (.sl S.length 0 0 sz n none, S ++ [.cells new ty 0 true]) else none := rfl
@[go_sem] theorem reach_nil (S : Store) (n : Nat) (seen : List Nat) : reach S (n + 1) [] seen = seen := rfl
@[go_sem] theorem reach_cons (S : Store) (n b : Nat) (todo seen : List Nat) : reach S (n + 1) (b :: todo) seen = sel (seen.contains b) (reach S n todo seen) (reach S n (boxRefs S b ++ todo) (b :: seen)) := by
  simp only [reach]; cases seen.contains b <;> rfl
@[go_sem] theorem refsL_nil : refsL [] = [] := rfl
@[go_sem] theorem refsL_cons (v : AV) (r : List AV) : refsL (v :: r) = refs v ++ refsL r := rfl
@[go_sem] theorem refs_sl (b g o s l : Nat) (c : Option Nat) : refs (.sl b g o s l c) = [b] := rfl
@[go_sem] theorem refs_ptr (b g o : Nat) : refs (.ptr b g o) = [b] := rfl
@[go_sem] theorem refs_int (k : IntKind) (n : Int) : refs (.int k n) = [] := rfl
@[go_sem] theorem refs_bool (b : Bool) : refs (.bool b) = [] := rfl
@[go_sem] theorem refs_nsl : refs .nsl = [] := rfl
@[go_sem] theorem refs_esl : refs .esl = [] := rfl
@[go_sem] theorem refs_agg (l : List AV) : refs (.agg l) = refsL l := rfl
@[go_sem] theorem refs_fsl (l : List AV) (n : Nat) : refs (.fsl l n) = refsL l := rfl
theorem boxRefs_of {S : Store} {b : Nat} {cs : List AV} {ty g : Nat} {sk : Bool} (h : S[b]? = some (.cells cs ty g sk)) : boxRefs S b = refsL cs := by simp only [boxRefs, h]
@[go_sem] theorem boxRefs_zero (cs : List AV) (ty g : Nat) (sk : Bool) (S : Store) : boxRefs (.cells cs ty g sk :: S) 0 = refsL cs := rfl
@[go_sem] theorem boxRefs_succ (x : Box) (S : Store) (b : Nat) : boxRefs (x :: S) (b + 1) = boxRefs S b := rfl
@[go_sem] theorem killed_nil (ks : List Nat) (i : Nat) : killed ks i [] = [] := rfl
@[go_sem] theorem killed_cons (ks : List Nat) (i : Nat) (cs : List AV) (ty g : Nat) (sk : Bool) (r : Store) : killed ks i (.cells cs ty g sk :: r) = sel (ks.contains i) (.dead (killGen g)) (.cells cs ty g sk) :: killed ks (i + 1) r := by
  simp only [killed]; cases ks.contains i <;> rfl
@[go_sem] theorem killed_dead (ks : List Nat) (i g : Nat) (r : Store) : killed ks i (.dead g :: r) = .dead g :: killed ks (i + 1) r := rfl
theorem killed_append (ks : List Nat) : ∀ (i : Nat) (S T : Store), killed ks i (S ++ T) = killed ks i S ++ killed ks (i + S.length) T
  | i, [], T => rfl
  | i, x :: S, T => by
    cases x <;> simp only [List.cons_append, killed, List.length_cons, killed_append ks (i + 1) S T] <;> rw [show i + 1 + S.length = i + (S.length + 1) by omega]
@[go_sem] theorem frz_sl (ok : Nat → Bool) (n : Nat) (S : Store) (b g off sz len : Nat) (c : Option Nat) : frz ok (n + 1) S (.sl b g off sz len c) = match boxRd S b g with
    | some cs => if ok b && decide (off + len * sz ≤ cs.length) then .fsl (((cs.drop off).take (len * sz)).map (frz ok n S)) len else .top
    | none => .top := rfl
theorem big_eq : big = 1099511627776 := rfl
attribute [go_sem] List.contains_cons List.contains_nil Bool.or_false Bool.false_or Bool.true_or Bool.or_true Bool.and_true Bool.true_and Bool.and_false Bool.false_and decide_true decide_false List.replicate_one List.replicate_succ List.replicate_zero List.flatten_cons List.flatten_nil
theorem loop_n {P : Program} {G : Globs} {b : CC} {k : K} (n : Nat) {st : St} (h : LpN (CC.wp (SX P G) b) k n st) : CC.wp (SX P G) (.loop b) k st :=
  lp_of_n (body := CC.wp (SX P G) b) (fun k k' st hk h => cc_mono SX.mono b hk h) h
theorem lpN_succ (body : K → St → Prop) (k : K) (n : Nat) (st : St) : LpN body k (n + 1) st = body (k.andThen (LpN body k n)) st := rfl
@[go_sem ↓] theorem onNat_0 (k : IntKind) (f : Nat → Prop) : onNat (.int k 0) f = f 0 := by simp [onNat]
@[go_sem ↓] theorem onNat_1 (k : IntKind) (f : Nat → Prop) : onNat (.int k 1) f = f 1 := by simp [onNat]
attribute [go_sem] Int.reduceNatCast Int.reduceToNat Int.reduceLT Int.reduceLE Int.reduceAdd and_self Nat.not_lt_zero Nat.zero_mul Nat.mul_one Nat.one_mul
attribute [go_sem] onNat_0 onNat_1
@[go_sem] theorem cast0 : ((0 : Nat) : Int) = 0 := rfl
@[go_sem] theorem cast1 : ((1 : Nat) : Int) = 1 := rfl
@[go_sem] theorem cast2 : ((2 : Nat) : Int) = 2 := rfl
@[go_sem] theorem cast3 : ((3 : Nat) : Int) = 3 := rfl
@[go_sem] theorem wrap1 : IntKind.wrap .i64 1 = 1 := by decide
@[go_sem] theorem wrap2 : IntKind.wrap .i64 2 = 2 := by decide
@[go_sem] theorem yes_app (n : Nat) : yes n = true := rfl
@[go_sem] theorem frz_ints (ok : Nat → Bool) (n : Nat) (S : Store) (k : IntKind) (l : List Int) : (l.map (AV.int k)).map (frz ok (n + 1) S) = l.map (AV.int k) := by
  rw [List.map_map]; rfl
@[go_sem] theorem take_map_len {α β : Type} (f : α → β) (l : List α) : (l.map f).take l.length = l.map f := by
  rw [List.take_of_length_le (by simp)]
attribute [go_sem] List.length_map Nat.le_refl
@[go_sem] theorem ev_bslice (G : Globs) (e : Env) (S : Store) (ty sz ln : Nat) (z : List AV) (ps : List (Nat × Opd)) : (COp.bslice ty sz (ln + 1) z ps).ev G e S =
    (fillP ((List.replicate (ln + 1) z).flatten) (ps.map fun p => (p.1 * sz, sz, p.2.ev G e))).map fun cs => (.sl S.length 0 0 sz (ln + 1) (some (ln + 1)), S ++ [.cells cs ty 0 false]) := by
  simp only [COp.ev]
  rw [if_neg (by omega)]
  cases fillP ((List.replicate (ln + 1) z).flatten) (ps.map fun p => (p.1 * sz, sz, p.2.ev G e)) <;> rfl
theorem callK_ret {X : Cx} {f : Nat} {as as' : List AV} {S S' : Store} {v : AV} {n p : AV → Store → Prop} (h0 : as.map (frz (reach S 1000 (refsL as) []).contains 40 S) = as') (hk : killed (reach S 1000 (refsL as) []) 0 S = S')
    (h1 : X.PF f as' (.ret v)) (h2 : v.pure = true) (h : n v S') : callK X f as S n p :=
  ⟨.ret v, h0 ▸ h1, h2, hk ▸ h⟩
@[go_sem] theorem rep_flat (n : Nat) (k : IntKind) (x : Int) : (List.replicate n [AV.int k x]).flatten = (List.replicate n x).map (AV.int k) := by
  rw [List.flatten_replicate_singleton, List.map_replicate]
@[go_sem] theorem take_rep {α β : Type} (f : α → β) (n : Nat) (a : α) : ((List.replicate n a).map f).take n = (List.replicate n a).map f := by
  rw [List.take_of_length_le (by simp)]
@[go_sem] theorem drop_len0 {α : Type} (l : List α) : l.drop 0 = l := rfl
attribute [go_sem] List.length_replicate refsL_int
@[go_sem] theorem take_set_len {α β : Type} (f : α → β) (n j : Nat) (a b : α) : (((List.replicate n a).set j b).map f).take n = ((List.replicate n a).set j b).map f := by
  rw [List.take_of_length_le (by simp)]
@[go_sem] theorem src_sl (S : Store) (sz b g off s len : Nat) (c : Option Nat) : srcOf S sz false (.sl b g off s len c) =
    (boxRd S b g).bind fun cs => if off + len * sz ≤ cs.length then some (len, (cs.drop off).take (len * sz)) else none := by
  simp only [srcOf, slLen, slRd]
  cases boxRd S b g with
  | none => rfl
  | some cs => simp only [Option.bind_some]; split <;> rfl
attribute [go_sem] List.length_set
end Go.AM

set_option linter.unusedSimpArgs false
set_option linter.unusedVariables false
namespace Go.AM

def cellsOf : AV → List AV
  | .fsl c _ => c
  | _ => []
theorem TsCells.atG : ∀ {ts : List Tm} {c : List AV}, TsCells ts c → ∀ {i : Nat}, i < ts.length →
    (∃ e c', c.drop (i * 3) = .bool (ts.getD i default).neg :: c.getD (i * 3 + 1) .top :: e :: c' ∧ IsI .i64 (ts.getD i default).ex e) ∧ IsI .u32 (ts.getD i default).ws (c.getD (i * 3 + 1) .top)
  | [], c, h, i, hi => by simp at hi
  | t :: r, _, ⟨w, e, c', rfl, hw, he, h⟩, i, hi => by
    cases i with
    | zero => exact ⟨⟨e, c', rfl, he⟩, hw⟩
    | succ i =>
      obtain ⟨⟨e', c'', h1, h2⟩, h3⟩ := atG h (i := i) (by simpa using hi)
      have hx : (AV.bool t.neg :: w :: e :: c').getD ((i + 1) * 3 + 1) .top = c'.getD (i * 3 + 1) .top := by
        rw [show (i + 1) * 3 + 1 = (i * 3 + 1) + 3 by omega]; rfl
      refine ⟨⟨e', c'', ?_, by simpa using h2⟩, by rw [hx]; simpa using h3⟩
      rw [hx, show (i + 1) * 3 = i * 3 + 3 by omega]
      simpa using h1
theorem IsTs.atG {ts : List Tm} {s : AV} (h : IsTs ts s) {i : Nat} (hi : i < ts.length) : (∃ e c', iaddrV 3 i s = some (.fptr (.bool (ts.getD i default).neg :: (cellsOf s).getD (i * 3 + 1) .top :: e :: c')) ∧
    IsI .i64 (ts.getD i default).ex e) ∧ IsI .u32 (ts.getD i default).ws ((cellsOf s).getD (i * 3 + 1) .top) := by
  rcases h.cases with ⟨rfl, _⟩ | ⟨c, rfl, hc⟩
  · simp at hi
  · obtain ⟨⟨e, c', h1, h2⟩, h3⟩ := hc.atG hi
    refine ⟨⟨e, c', ?_, h2⟩, h3⟩
    have hl := hc.length
    simp only [iaddrV, cellsOf, h1]
    rw [if_pos ⟨hi, by omega⟩]
theorem tsCells_range {f : Nat → Tm} {g : Nat → List AV} : ∀ {m : Nat}, (∀ i, i < m → TsCells [f i] (g i)) → TsCells ((List.range m).map f) ((List.range m).flatMap g)
  | 0, _ => rfl
  | m + 1, h => by
    rw [List.range_succ, List.map_append, List.flatMap_append]
    refine (tsCells_range fun i hi => h i (by omega)).append ?_
    simpa using h m (Nat.lt_succ_self m)
theorem range_map_getD {α β : Type} [Inhabited α] (f : α → β) (l : List α) : (List.range l.length).map (fun i => f (l.getD i default)) = l.map f := by
  apply List.ext_getElem
  · simp
  · intro i h1 h2
    simp at h1
    simp [h1]

/-- The boxes of numbers are as they were. -/
def Agree (S S' : Store) : Prop := ∀ (b : Nat) (l : List AV), S[b]? = some (Box.cells l 3 0 false) → S'[b]? = some (Box.cells l 3 0 false)
theorem Agree.refl (S : Store) : Agree S S := fun _ _ h => h
theorem Agree.trans {S S' S'' : Store} (h : Agree S S') (h' : Agree S' S'') : Agree S S'' := fun b l hb => h' b l (h b l hb)
theorem Agree.append (S T : Store) : Agree S (S ++ T) := fun b l h => by
  have : b < S.length := by
    rcases Nat.lt_or_ge b S.length with h' | h'
    · exact h'
    · rw [List.getElem?_eq_none h'] at h; cases h
  rw [List.getElem?_append_left this]; exact h
theorem Agree.set {S : Store} {b : Nat} {x y : Box} (h : S[b]? = some y) (hy : ∀ l, y ≠ .cells l 3 0 false) : Agree S (S.set b x) := fun b' l h' => by
  by_cases e : b = b'
  · subst e; rw [h] at h'; injection h' with h'; exact absurd h' (hy l)
  · rw [List.getElem?_set_ne e]; exact h'
theorem Agree.cons {S S' : Store} {x y : Box} (h : Agree S S') (hx : ∀ l, x = .cells l 3 0 false → y = x) : Agree (x :: S) (y :: S') := fun b l hb => by
  cases b with
  | zero => simp at hb; subst hb; simp [hx l rfl]
  | succ b => simp at hb ⊢; exact h b l hb

/-- Cells that read so, as long as the boxes of numbers are as they were. -/
def Fzn (S : Store) (c f : List AV) : Prop := ∀ S', Agree S S' → c.map (frz yes 5 S') = f
theorem Fzn.keep {S S' : Store} {c f : List AV} (h : Fzn S c f) (ha : Agree S S') : Fzn S' c f := fun S'' h' => h S'' (ha.trans h')
theorem Fzn.append {S : Store} {c f c' f' : List AV} (h : Fzn S c f) (h' : Fzn S c' f') : Fzn S (c ++ c') (f ++ f') := fun S' ha => by rw [List.map_append, h S' ha, h' S' ha]
theorem Fzn.nil (S : Store) : Fzn S [] [] := fun _ _ => rfl
theorem Fzn.term {S : Store} {neg : Bool} {l ex : List Int} {w : AV} {k n : Nat} (hw : IsI .u32 l w) (hk : S[k]? = some (.cells (ex.map (.int .i64)) 3 0 false)) (hl : ex.length = n) :
    Fzn S [.bool neg, w, .sl k 0 0 1 n (some n)] [.bool neg, w, .fsl (ex.map (.int .i64)) n] := fun S' ha => by
  have h1 := ha k _ hk
  subst hl
  have e1 : frz yes 5 S' (.sl k 0 0 1 ex.length (some ex.length)) = .fsl (ex.map (.int .i64)) ex.length := by
    show frz yes (4 + 1) S' _ = _
    rw [frz_sl]
    simp only [boxRd, h1, if_true, yes, Bool.true_and, List.length_map, Nat.zero_add, Nat.mul_one, Nat.le_refl, decide_true, List.drop_zero, take_map_len]
    rw [show (4 : Nat) = 3 + 1 from rfl, frz_ints]
  simp only [List.map_cons, List.map_nil, e1, hw.frz yes 3 S']
  rfl

theorem wrl_at : ∀ (vs cs : List AV) (p : List AV), wrl (p ++ cs) p.length vs = p ++ wrl cs 0 vs
  | [], cs, p => rfl
  | v :: vs, [], p => by
    simp only [wrl, List.append_nil, List.set_nil]
    rw [List.set_eq_of_length_le (Nat.le_refl _)]
    have : ∀ (vs : List AV) (n : Nat) (q : List AV), q.length ≤ n → wrl q n vs = q := by
      intro vs
      induction vs with
      | nil => intro n q _; rfl
      | cons v vs ih => intro n q h; simp only [wrl]; rw [List.set_eq_of_length_le h]; exact ih _ _ (by omega)
    rw [this vs _ p (by omega), this vs _ [] (by simp), List.append_nil]
  | v :: vs, c :: cs, p => by
    simp only [wrl, List.set_cons_zero]
    have e : (p ++ c :: cs).set p.length v = (p ++ [v]) ++ cs := by simp
    have e2 : (v :: cs) = [v] ++ cs := rfl
    rw [e, e2, show p.length + 1 = (p ++ [v]).length by simp, wrl_at vs cs (p ++ [v]), show (0 + 1) = [v].length from rfl, wrl_at vs cs [v], List.append_assoc]
theorem wrl_prefix : ∀ (vs cs : List AV), vs.length ≤ cs.length → wrl cs 0 vs = vs ++ cs.drop vs.length
  | [], cs, _ => rfl
  | v :: vs, [], h => by simp at h
  | v :: vs, c :: cs, h => by
    simp only [wrl, List.set_cons_zero]
    have e2 : (v :: cs) = [v] ++ cs := rfl
    rw [e2, show (0 + 1) = [v].length from rfl, wrl_at vs cs [v], wrl_prefix vs cs (by simpa using h)]
    rfl

/-- Exponents with zeros behind. -/
def padL (n : Nat) (l : List Int) : List Int := l ++ List.replicate (n - l.length) 0
theorem padL_len {n : Nat} {l : List Int} (h : l.length ≤ n) : (padL n l).length = n := by simp [padL]; omega
theorem wrl_pad {n : Nat} {l : List Int} (h : l.length ≤ n) : wrl ((List.replicate n (0 : Int)).map (.int .i64)) 0 (l.map (.int .i64)) = (padL n l).map (.int .i64) := by
  rw [wrl_prefix _ _ (by simpa using h)]
  simp [padL]
theorem copy_is {k : IntKind} {l : List Int} {v : AV} (h : IsI k l v) {S : Store} {b g off dl : Nat} {c : Option Nat} (hl : l.length ≤ dl) :
    copyV S 1 false (.sl b g off 1 dl c) v = (boxWr S b g off (l.map (.int k))).map (.int .i64 l.length, ·) := by
  have e : min l.length dl = l.length := Nat.min_eq_left hl
  rcases h.cases with ⟨rfl, rfl | rfl⟩ | rfl
  · simp [copyV, slLen, slRd]
  · simp [copyV, slLen, slRd]
  · simp only [copyV, slLen, e, slRd, Nat.mul_one, List.length_map, Nat.le_refl, if_true, take_map_len, Option.map_some]

@[go_sem] theorem app_sl (S : Store) (ty bytes sz n : Nat) (new : List AV) (b g off ln : Nat) : appV S ty sz bytes n new (.sl b g off sz ln none) = match S[b]? with
    | some (.cells cs ty' gen sk) =>
      if g = gen ∧ off + ln * sz ≤ cs.length ∧ (ln + n) * bytes ≤ big ∧ ln + n ≤ big then
        if n = 0 then some (.sl b g off sz ln none, S) else if ty' = ty then some (.sl b (gen + 1) 0 sz (ln + n) none, S.set b (.cells ((cs.drop off).take (ln * sz) ++ new) ty (gen + 1) true)) else none
      else none
    | _ => none := by
  simp only [appV, if_true]
  cases S[b]? with
  | none => rfl
  | some y => cases y <;> rfl

theorem killed_same (ks : List Nat) : ∀ (S : Store) (i : Nat), (∀ j, j < S.length → ks.contains (i + j) = false) → killed ks i S = S
  | [], i, _ => rfl
  | x :: S, i, h => by
    have h0 := h 0 (by simp)
    have hr := killed_same ks S (i + 1) (fun j hj => by have := h (j + 1) (by simpa using hj); rwa [show i + (j + 1) = i + 1 + j by omega] at this)
    cases x <;> simp only [killed, hr]
    simp only [Nat.add_zero] at h0
    rw [h0]; rfl

/-- A call whose one argument, a slice of one element just made, is frozen for good. -/
theorem callK_last {X : Cx} {f : Nat} {L : Store} {cs : List AV} {ty sz : Nat} {v : AV} {n p : AV → Store → Prop} (hr : refsL cs = []) (hf : ∀ ok S, cs.map (frz ok 39 S) = cs) (hl : cs.length = sz)
    (h1 : X.PF f [.fsl cs 1] (.ret v)) (h2 : v.pure = true) (h : n v (L ++ [.dead (killGen 0)])) : callK X f [.sl L.length 0 0 sz 1 (some 1)] (L ++ [.cells cs ty 0 false]) n p := by
  have hg : (L ++ [Box.cells cs ty 0 false])[L.length]? = some (.cells cs ty 0 false) := by simp
  have hre : reach (L ++ [.cells cs ty 0 false]) 1000 (refsL [.sl L.length 0 0 sz 1 (some 1)]) [] = [L.length] := by
    show reach _ (998 + 1 + 1) [L.length] [] = _
    rw [reach_cons, boxRefs_of hg, hr]
    simp [sel, reach]
  refine callK_ret ?_ ?_ h1 h2 h
  · rw [hre]
    simp only [List.map_cons, List.map_nil]
    rw [show (40 : Nat) = 39 + 1 from rfl, frz_sl]
    simp only [boxRd, hg, if_true]
    simp [hl, hf]
    rw [List.take_of_length_le (by omega)]
  · rw [hre, killed_append, killed_same]
    · simp [killed]
    · intro j hj
      have : ¬ L.length = j := by omega
      simp; omega

end Go.AM
