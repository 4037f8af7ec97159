/- The orders of a region. -/
import Derived.Test.YtbkhmflfhgihhaaGreatDoorA2
import Derived.Test.YtbkhmflfhgihhaaGreatDoorA1
import Derived.Scope
set_option linter.all false

set_option linter.unusedSimpArgs false
set_option linter.unusedVariables false
namespace Go.AM

variable {P : Program} {pu : Nat → Nat} {X : Cx} {G : Globs} {e e' : Env} {S S' : Store} {k : K} {D : List (Nat × List AV)}

/-- A call's answer may be weakened. -/
def Cx.Mono (X : Cx) : Prop := ∀ f args S (R R' : FK), (∀ fe S, R fe S → R' fe S) → X.Fn f args S R → X.Fn f args S R'

def EnvEq (e e' : Env) : Prop := ∀ i, e.get i = e'.get i

theorem EnvEq.opd (h : EnvEq e e') (x : Opd) : x.ev G e = x.ev G e' := by
  cases x with
  | t i => exact h i
  | c v => rfl
  | g n => rfl

theorem maps_congr {l : List Opd} (h : ∀ x ∈ l, x.ev G e = x.ev G e') : l.map (·.ev G e) = l.map (·.ev G e') := List.map_congr_left h

theorem ev_congr {co : COp} (h : ∀ x ∈ co.opds, x.ev G e = x.ev G e') : co.ev G e S = co.ev G e' S := by
  cases co
  case build z ps =>
    have : (ps.map fun p => (p.1, p.2.1, p.2.2.ev G e)) = ps.map fun p => (p.1, p.2.1, p.2.2.ev G e') :=
      List.map_congr_left fun p hp => by rw [h p.2.2 (List.mem_map.2 ⟨p, hp, rfl⟩)]
    simp only [COp.ev, this]
  case bslice ty sz ln z ps =>
    have : (ps.map fun p => (p.1 * sz, sz, p.2.ev G e)) = ps.map fun p => (p.1 * sz, sz, p.2.ev G e') :=
      List.map_congr_left fun p hp => by rw [h p.2 (List.mem_map.2 ⟨p, hp, rfl⟩)]
    simp only [COp.ev, this]
  case mkfn f a b =>
    simp only [COp.ev, maps_congr (l := a) fun x hx => h x (List.mem_append_left _ hx), maps_congr (l := b) fun x hx => h x (List.mem_append_right _ hx)]
  case slS sz x a b c => cases a <;> cases b <;> cases c <;> simp [COp.opds] at h <;> simp [COp.ev, h]
  case slStr x a b => cases a <;> cases b <;> simp [COp.opds] at h <;> simp [COp.ev, h]
  case slP al sz x a b => cases a <;> cases b <;> simp [COp.opds] at h <;> simp [COp.ev, h]
  all_goals first
    | rfl
    | (simp only [COp.opds, List.mem_cons, List.not_mem_nil, or_false, forall_eq_or_imp, forall_eq] at h
       first
         | simp only [COp.ev, h]
         | (obtain ⟨h1, h2⟩ := h; simp only [COp.ev, h1, h2])
         | (obtain ⟨h1, h2, h3⟩ := h; simp only [COp.ev, h1, h2, h3]))

theorem beh_congr {co : COp} (h : ∀ x ∈ co.opds, x.ev X.G e = x.ev X.G e') (nx : AV → Store → List (Nat × List AV) → Prop) (pn : AV → Store → Prop) :
    co.beh X e S D nx pn = co.beh X e' S D nx pn := by
  have hev := ev_congr (S := S) h
  unfold COp.beh
  split
  · rename_i f as; simp only [maps_congr (l := as) fun x hx => h x hx]
  · rename_i f as
    have : (as.map fun x => frz yes 40 S (x.ev X.G e)) = as.map fun x => frz yes 40 S (x.ev X.G e') := List.map_congr_left fun x hx => by rw [h x hx]
    simp only [maps_congr (l := as) fun x hx => h x hx, this]
  · rename_i f as
    simp only [maps_congr (l := as) fun x hx => h x hx]
    have : ∀ ks : List Nat, (as.map fun x => frz ks.contains 40 S (x.ev X.G e)) = as.map fun x => frz ks.contains 40 S (x.ev X.G e') := fun ks => List.map_congr_left fun x hx => by rw [h x hx]
    simp only [this]
  · rename_i x as
    simp only [h x (by simp [COp.opds]), maps_congr (l := as) fun x hx => h x (by simp [COp.opds, hx])]
  · rename_i x; simp only [h x (by simp [COp.opds])]
  · rfl
  · rename_i x as
    simp only [h x (by simp [COp.opds]), maps_congr (l := as) fun x hx => h x (by simp [COp.opds, hx])]
  · rename_i x; simp only [h x (by simp [COp.opds])]
  · rw [hev]

theorem beh_mono (hm : X.Mono) {co : COp} {nx nx' : AV → Store → List (Nat × List AV) → Prop} {pn pn' : AV → Store → Prop} (hn : ∀ v S D, nx v S D → nx' v S D) (hp : ∀ v S, pn v S → pn' v S)
    (h : co.beh X e S D nx pn) : co.beh X e S D nx' pn' := by
  have hR : ∀ (fe : FE) (S' : Store), (match fe, S' with | .ret v, S' => nx v S' D | .panic v, S' => pn v S') → (match fe, S' with | .ret v, S' => nx' v S' D | .panic v, S' => pn' v S') := by
    intro fe S' h; cases fe
    · exact hn _ _ _ h
    · exact hp _ _ h
  have gen : ∀ o : Option (AV × Store), (match o with | some (v, S') => nx v S' D | none => False) → (match o with | some (v, S') => nx' v S' D | none => False) := by
    intro o h; cases o
    · exact h
    · exact hn _ _ _ h
  cases co
  case call f as => exact hm _ _ _ _ _ hR h
  case pcall f as =>
    obtain ⟨fe, h1, h4⟩ := h
    refine ⟨fe, h1, ?_⟩
    cases fe
    · exact hn _ _ _ h4
    · exact hp _ _ h4
  case kcall f as =>
    obtain ⟨fe, h1, h2, h4⟩ := h
    refine ⟨fe, h1, h2, ?_⟩
    cases fe
    · exact hn _ _ _ h4
    · exact hp _ _ h4
  case callV x as =>
    simp only [COp.beh] at *
    cases hx : x.ev X.G e <;> simp only [hx] at h ⊢
    exact hm _ _ _ _ _ hR h
  case pan x =>
    simp only [COp.beh] at *
    cases hx : x.ev X.G e <;> simp only [hx] at h ⊢
    exact hp _ _ h
  case defer x as =>
    simp only [COp.beh] at *
    cases hx : x.ev X.G e <;> simp only [hx] at h ⊢
    exact hn _ _ _ h
  case nxt b x =>
    cases b
    · simp only [COp.beh] at *
      cases hx : nextMap S (x.ev X.G e) <;> simp only [hx] at h ⊢
      exact fun p hp' => hn _ _ _ (h p hp')
    · exact gen _ h
  all_goals first | exact gen _ h | exact hn _ _ _ h | exact h

theorem step_mono (hm : X.Mono) {i : CI} {nx nx' : St → Prop} {st : St} (hn : ∀ st, nx st → nx' st) (h : i.step X k nx st) : i.step X k nx' st := by
  unfold CI.step at *
  split at h
  · exact h
  · exact hn _ h
  · exact beh_mono hm (fun _ _ _ h => hn _ h) (fun _ _ h => h) h

/-- What looks at the slots alone. -/
def Resp (p : St → Prop) : Prop := ∀ e e' S D, EnvEq e e' → p ⟨e, S, D⟩ → p ⟨e', S, D⟩

theorem EnvEq.set (h : EnvEq e e') (d : Option Nat) (v : AV) : EnvEq (e.set d v) (e'.set d v) := by
  cases d with
  | none => exact h
  | some d => intro i; (simp only [Env.set, Env.get]; split; rfl; exact h i)

theorem on_congr {i : CI} (h : ∀ s w, i.guard = some (s, w) → e.get s = e'.get s) : i.on e = i.on e' := by
  unfold CI.on
  split
  · rfl
  · rename_i s w hg; rw [h s w hg]

theorem step_resp (hm : X.Mono) {i : CI} {nx : St → Prop} (hn : Resp nx) : Resp (i.step X k nx) := by
  intro e e' S D he h
  unfold CI.step at *
  simp only [← on_congr (i := i) (e := e) (e' := e') fun s _ _ => he s]
  simp only at h
  split at h
  · exact h
  · exact hn _ _ _ _ (he.set _ _) h
  · rw [← beh_congr (e := e) (e' := e') fun x _ => he.opd x]
    exact beh_mono hm (fun v S D h => hn _ _ _ _ (he.set _ _) h) (fun _ _ h => h) h

theorem opd_set {x : Opd} {d : Nat} {v : AV} (h : x.isSlot d = false) : x.ev G (Env.set e (some d) v) = x.ev G e := by
  cases x with
  | t i =>
    simp only [Opd.isSlot, beq_eq_false_iff_ne, ne_eq] at h
    simp only [Opd.ev, Env.set, Env.get]
    rw [if_neg h]
  | c v => rfl
  | g n => rfl

theorem looks_not {i : CI} {d : Nat} (h : i.looks d = false) : (∀ x ∈ i.op.opds, x.isSlot d = false) ∧ ∀ s w, i.guard = some (s, w) → s ≠ d := by
  unfold CI.looks at h
  rw [Bool.or_eq_false_iff] at h
  refine ⟨fun x hx => ?_, fun s w hg => ?_⟩
  · have := List.any_eq_false.1 h.1 x hx; simpa using this
  · have h2 := h.2; rw [hg] at h2; simpa using h2

theorem set_beh {i : CI} {dst : Option Nat} {v : AV} (h : ∀ d, dst = some d → i.looks d = false) :
    (∀ x ∈ i.op.opds, x.ev G (e.set dst v) = x.ev G e) ∧ i.on (e.set dst v) = i.on e := by
  cases dst with
  | none => exact ⟨fun _ _ => rfl, rfl⟩
  | some d =>
    obtain ⟨h1, h2⟩ := looks_not (h d rfl)
    refine ⟨fun x hx => opd_set (h1 x hx), on_congr fun s w hg => ?_⟩
    simp only [Env.set, Env.get]
    rw [if_neg (h2 s w hg)]

theorem set_comm {x y : Option Nat} {v u : AV} (h : ∀ d, x = some d → y ≠ some d) : EnvEq ((e.set x v).set y u) ((e.set y u).set x v) := by
  intro i
  cases x with
  | none => rfl
  | some d =>
    cases y with
    | none => rfl
    | some c =>
      have hne : c ≠ d := fun hc => h d rfl (by rw [hc])
      simp only [Env.set, Env.get]
      by_cases h1 : i = c
      · subst h1; rw [if_pos rfl, if_neg hne, if_pos rfl]
      · by_cases h2 : i = d
        · subst h2; rw [if_neg h1, if_pos rfl, if_pos rfl]
        · rw [if_neg h1, if_neg h2, if_neg h2, if_neg h1]

theorem apart_spec {x y : CI} (h : x.apart y = true) : (∀ d, x.dst = some d → y.looks d = false) ∧ (∀ d, x.dst = some d → y.dst ≠ some d) ∧ (∀ d, y.dst = some d → x.looks d = false) := by
  unfold CI.apart at h
  rw [Bool.and_eq_true] at h
  refine ⟨fun d hd => ?_, fun d hd => ?_, fun d hd => ?_⟩
  · have := h.1; rw [hd] at this; simp at this; exact this.1
  · have := h.1; rw [hd] at this; simp at this; exact this.2
  · have := h.2; rw [hd] at this; simpa using this

/-- What reads at most. -/
theorem quiet_beh {co : COp} (h : co.rw ≤ 1) {nx : AV → Store → List (Nat × List AV) → Prop} {pn : AV → Store → Prop} :
    co.beh X e S D nx pn = (match co.ev X.G e S with | some (v, S') => nx v S' D | none => False) := by
  cases co <;> first | rfl | (simp [COp.rw] at h)

theorem quiet_ev0 {co : COp} (h : co.rw = 0) (S S' : Store) : co.ev G e S' = (co.ev G e S).map fun p => (p.1, S') := by
  cases co <;> (first | (simp [COp.rw] at h; done) | skip) <;> simp only [COp.ev] <;> (repeat' split) <;>
    (try simp only [Option.map_some, Option.map_none, Option.map_map]) <;> (try rfl)

theorem quiet_ev {co : COp} (h : co.rw ≤ 1) {v : AV} (hev : co.ev G e S = some (v, S')) : S' = S := by
  by_cases h0 : co.rw = 0
  · rw [quiet_ev0 h0 S S] at hev
    obtain ⟨p, _, hp⟩ := Option.map_eq_some_iff.1 hev
    injection hp with _ hp; exact hp.symm
  cases co <;> (first | (simp [COp.rw] at h; done) | (exact absurd rfl h0) | skip) <;> simp only [COp.ev] at hev
  all_goals
    repeat' (first
      | (exact (map_pair hev).2)
      | (injection hev with hev; injection hev with hv hS; exact hS.symm)
      | (cases hev; done)
      | split at hev)

theorem rd_app {b g : Nat} {cs : List AV} {bs : Store} (h : boxRd S b g = some cs) : boxRd (S ++ bs) b g = some cs := by
  unfold boxRd at *
  cases hb : S[b]? with
  | none => rw [hb] at h; cases h
  | some x =>
    have : (S ++ bs)[b]? = some x := by rw [List.getElem?_append_left (List.getElem?_eq_some_iff.1 hb).1]; exact hb
    rw [this]; rw [hb] at h; exact h

theorem at_app {b : Nat} {x : Box} {bs : Store} (h : S[b]? = some x) : (S ++ bs)[b]? = some x := by
  rw [List.getElem?_append_left (List.getElem?_eq_some_iff.1 h).1]; exact h

theorem mrd_app {m : AV} {r : List (AV × AV × Nat) × Nat} {bs : Store} (h : mapRd S m = some r) : mapRd (S ++ bs) m = some r := by
  unfold mapRd at *
  split at h
  · rename_i b g
    split at h
    · rename_i es clock gen hb
      rw [at_app hb]; exact h
    · cases h
  · cases h

theorem slRd_app {n : Nat} {v : AV} {cs : List AV} {bs : Store} (h : slRd S n v = some cs) : slRd (S ++ bs) n v = some cs := by
  unfold slRd at *
  split at h <;> first | exact h | skip
  rename_i b g off sz ln cp
  split at h
  · rename_i cs' hb
    rw [rd_app hb]; exact h
  · cases h

/-- What is read is read again after boxes have come. -/
theorem quiet_app {co : COp} (h : co.rw ≤ 1) {v : AV} {bs : Store} (hev : co.ev G e S = some (v, S)) : co.ev G e (S ++ bs) = some (v, S ++ bs) := by
  by_cases h0 : co.rw = 0
  · rw [quiet_ev0 h0 S, hev]; rfl
  cases co <;> (first | (simp [COp.rw] at h; done) | (exact absurd rfl h0) | skip) <;> simp only [COp.ev] at hev ⊢
  case peq neg x y =>
    split at hev
    · injection hev with hev; injection hev with hv _; rw [hv]
    · injection hev with hev; injection hev with hv _; rw [hv]
    · injection hev with hev; injection hev with hv _; rw [hv]
    · split at hev
      · rename_i hc
        injection hev with hev; injection hev with hv _
        obtain ⟨cs, hcs⟩ := Option.isSome_iff_exists.1 hc.2.2
        rw [if_pos ⟨hc.1, hc.2.1, by rw [rd_app hcs]; rfl⟩, hv]
      · cases hev
    · cases hev
  case p2u x =>
    split at hev
    · injection hev with hev; injection hev with hv _; rw [hv]
    · split at hev
      · rename_i cs hcs
        rw [rd_app hcs]
        split at hev
        · rename_i hlt
          injection hev with hev; injection hev with hv _
          simp only [if_pos hlt, hv]
        · cases hev
      · cases hev
    · cases hev
  case u2p u n x =>
    split at hev
    · injection hev with hev; injection hev with hv _; rw [hv]
    · split at hev
      · rename_i cs ty gen hb
        rw [at_app hb]
        split at hev
        · rename_i hc
          injection hev with hev; injection hev with hv _
          simp only [if_pos hc, hv]
        · cases hev
      · cases hev
    · cases hev
  case b2s x =>
    split at hev
    · rename_i n hn
      split at hev
      · rename_i s hs
        injection hev with hev; injection hev with hv _
        obtain ⟨cs, hcs, hu⟩ := Option.bind_eq_some_iff.1 hs
        rw [slRd_app hcs]
        simp only [Option.bind_some, hu, hv]
      · cases hev
    · cases hev
  case load n agg x =>
    obtain ⟨h1, _⟩ := map_pair hev
    have : loadV (S ++ bs) n agg (x.ev G e) = some v := by
      unfold loadV at *
      split at h1 <;> first | exact h1 | skip
      split at h1
      · rename_i cs hcs; rw [rd_app hcs]; exact h1
      · cases h1
    rw [this]; rfl
  case look kk z ok m k =>
    obtain ⟨h1, _⟩ := map_pair hev
    have : lookV (S ++ bs) kk z ok (m.ev G e) (k.ev G e) = some v := by
      unfold lookV at *
      split at h1
      · rename_i hk
        rw [if_pos hk]
        split at h1
        · rename_i es hes
          have : lookEs (S ++ bs) (m.ev G e) = some es := by
            unfold lookEs at *
            split at hes
            · exact hes
            · obtain ⟨r, hr, hr'⟩ := Option.map_eq_some_iff.1 hes
              rw [mrd_app hr, Option.map_some, hr']
            · cases hes
          rw [this]; exact h1
        · cases h1
      · cases h1
    rw [this]; rfl
  case len kd x =>
    split at hev
    · injection hev with hev; injection hev with hv _; rw [hv]
    · injection hev with hev; injection hev with hv _; rw [hv]
    · split at hev
      · rename_i es cl hm
        rw [mrd_app hm]
        injection hev with hev; injection hev with hv _; simp only [hv]
      · cases hev
    · split at hev
      · injection hev with hev; injection hev with hv _; rw [hv]
      · cases hev
    · cases hev
  case entry x =>
    split at hev
    · split at hev
      · rename_i m g since seen last hb
        rw [at_app hb]
        split at hev
        · rename_i es clock stamp hm hst
          simp only [mrd_app hm, hst]
          split at hev
          · rename_i hc
            rw [if_pos hc]
            split at hev
            · injection hev with hev; injection hev with hv _; simp only [*]
            · cases hev
          · cases hev
        · cases hev
      · cases hev
    · cases hev

end Go.AM

set_option linter.unusedSimpArgs false
set_option linter.unusedVariables false
namespace Go.AM

variable {P : Program} {pu : Nat → Nat} {X : Cx} {G : Globs} {e e' : Env} {S S' : Store} {k : K} {D : List (Nat × List AV)} {ops : Array Oper}

/-- What an operation that reads at most gives. -/
def CI.res (X : Cx) (i : CI) (e : Env) (S : Store) : Option AV :=
  match i.on e with
  | none => none
  | some false => some (.tup [])
  | some true => (i.op.ev X.G e S).map (·.1)

theorem quiet_step {i : CI} (h : i.op.rw ≤ 1) {nx : St → Prop} : i.step X k nx ⟨e, S, D⟩ ↔ ∃ v, i.res X e S = some v ∧ nx ⟨e.set i.dst v, S, D⟩ := by
  unfold CI.step CI.res
  simp only
  cases hon : i.on e with
  | none => simp
  | some b =>
    cases b
    · simp
    · simp only [quiet_beh h]
      cases hev : i.op.ev X.G e S with
      | none => simp
      | some p =>
        obtain ⟨v, S'⟩ := p
        have := quiet_ev h hev
        subst this
        simp

theorem res_set {i : CI} {dst : Option Nat} {u : AV} (h : ∀ d, dst = some d → i.looks d = false) : i.res X (e.set dst u) S = i.res X e S := by
  obtain ⟨h1, h2⟩ := set_beh (G := X.G) (e := e) (v := u) h
  unfold CI.res
  rw [h2, ev_congr (S := S) h1]

theorem res_app {i : CI} (h : i.op.rw ≤ 1) {v : AV} {bs : Store} (hr : i.res X e S = some v) : i.res X e (S ++ bs) = some v := by
  unfold CI.res at *
  split at hr
  · cases hr
  · exact hr
  · obtain ⟨p, hp, hv⟩ := Option.map_eq_some_iff.1 hr
    obtain ⟨v', S'⟩ := p
    have := quiet_ev h hp
    subst this
    rw [quiet_app h hp]
    simpa using hv

theorem res_any {i : CI} (h : i.op.rw = 0) : i.res X e S' = i.res X e S := by
  unfold CI.res
  split <;> try rfl
  rw [quiet_ev0 h S S']
  cases i.op.ev X.G e S <;> rfl

theorem grows_ev {co : COp} (h : co.rw = 2) {v : AV} (hev : co.ev G e S = some (v, S')) : ∃ bs, S' = S ++ bs := by
  cases co <;> (first | (simp [COp.rw] at h; done) | skip) <;> simp only [COp.ev] at hev
  all_goals
    repeat' (first
      | (injection hev with hev; injection hev with hv hS; exact ⟨_, hS.symm⟩)
      | (injection hev with hev; injection hev with hv hS; exact ⟨[], by rw [← hS]; simp⟩)
      | (cases hev; done)
      | split at hev)

/-- What makes boxes at most keeps those that are. -/
theorem beh_keeps {co : COp} (h : co.rw ≠ 3) {nx : AV → Store → List (Nat × List AV) → Prop} {pn : AV → Store → Prop} (hb : co.beh X e S D nx pn) :
    co.beh X e S D (fun v S' D' => (∃ bs, S' = S ++ bs) ∧ nx v S' D') pn := by
  have gen : ∀ o : Option (AV × Store), (∀ v S', o = some (v, S') → ∃ bs, S' = S ++ bs) → (match o with | some (v, S') => nx v S' D | none => False) →
      (match o with | some (v, S') => (∃ bs, S' = S ++ bs) ∧ nx v S' D | none => False) := by
    intro o ho h; cases o
    · exact h
    · exact ⟨ho _ _ rfl, h⟩
  by_cases h1 : co.rw ≤ 1
  · rw [quiet_beh h1] at hb ⊢
    exact gen _ (fun v S' hev => ⟨[], by rw [quiet_ev h1 hev]; simp⟩) hb
  by_cases h2 : co.rw = 2
  · have : ∀ nx : AV → Store → List (Nat × List AV) → Prop, co.beh X e S D nx pn = (match co.ev X.G e S with | some (v, S') => nx v S' D | none => False) := by
      intro nx; cases co <;> first | rfl | (simp [COp.rw] at h2)
    rw [this] at hb ⊢
    exact gen _ (fun v S' hev => grows_ev h2 hev) hb
  cases co <;> (first | (simp [COp.rw] at h; done) | (exact absurd (by decide) h1) | (exact absurd rfl h2) | (exact absurd (show (0:Nat) ≤ 1 by omega) h1) | (exact absurd (show (1:Nat) ≤ 1 by omega) h1) | skip)
  obtain ⟨fe, h1, h4⟩ := hb
  refine ⟨fe, h1, ?_⟩
  cases fe
  · exact ⟨⟨[], by simp⟩, h4⟩
  · exact h4

theorem step_comm (hm : X.Mono) {ci cj : CI} (hi : ci.op.rw ≤ 1) (hsw : swapRW ci.op.rw cj.op.rw = true) (hap : ci.apart cj = true) {nx : St → Prop} (hn : Resp nx) {st : St}
    (h : ci.step X k (cj.step X k nx) st) : cj.step X k (ci.step X k nx) st := by
  obtain ⟨e, S, D⟩ := st
  obtain ⟨h1, h2, h3⟩ := apart_spec hap
  rw [quiet_step hi] at h
  obtain ⟨v, hv, h⟩ := h
  obtain ⟨b1, b2⟩ := set_beh (G := X.G) (e := e) (v := v) h1
  unfold CI.step at h
  simp only [b2] at h
  conv at h => simp only [beh_congr b1]
  have fin : ∀ u S' D', ci.res X e S' = some v → nx ⟨(e.set ci.dst v).set cj.dst u, S', D'⟩ → ci.step X k nx ⟨e.set cj.dst u, S', D'⟩ := by
    intro u S' D' hr hx
    rw [quiet_step hi]
    exact ⟨v, by rw [res_set h3]; exact hr, hn _ _ _ _ (set_comm h2) hx⟩
  unfold CI.step
  simp only
  split at h
  · exact h
  · exact fin _ _ _ hv h
  · by_cases h0 : ci.op.rw = 0
    · exact beh_mono hm (fun u S' D' hx => fin u S' D' (by rw [res_any h0 (S := S)]; exact hv) hx) (fun _ _ h => h) h
    · have h3' : cj.op.rw ≠ 3 := by
        intro h3; simp [swapRW, h3, h0] at hsw
      refine beh_mono hm (fun u S' D' hx => ?_) (fun _ _ h => h) (beh_keeps h3' h)
      obtain ⟨⟨bs, rfl⟩, hx⟩ := hx
      exact fin u _ D' (res_app hi hv) hx

/-- Every order of a region. -/
def aAny (P : Program) (pu : Nat → Nat) (ops : Array Oper) (X : Cx) (k : K) : Nat → Array Bool → St → Prop
  | 0, listed, st => Region.ready .any ops listed = [] ∧ k .normal st
  | n + 1, listed, st => (Region.ready .any ops listed = [] → k .normal st) ∧
    ∀ j ∈ Region.ready .any ops listed, ∃ oj cj, ops[j]? = some oj ∧ cCI P pu ops oj = some cj ∧ cj.step X k (aAny P pu ops X k n (listed.setIfInBounds j true)) st

theorem aAny_resp (hm : X.Mono) (hk : Resp (k .normal)) : ∀ n listed, Resp (aAny P pu ops X k n listed)
  | 0, listed => fun e e' S D he h => ⟨h.1, hk _ _ _ _ he h.2⟩
  | n + 1, listed => fun e e' S D he h => ⟨fun hr => hk _ _ _ _ he (h.1 hr), fun j hj => by
      obtain ⟨oj, cj, h1, h2, h3⟩ := h.2 j hj
      exact ⟨oj, cj, h1, h2, step_resp hm (aAny_resp hm hk n _) _ _ _ _ he h3⟩⟩

/-- What is listed has what it waits for listed. -/
def Closed (ops : Array Oper) (listed : Array Bool) : Prop :=
  ∀ j o, ops[j]? = some o → listed.getD j false = true → ∀ x ∈ o.after, Region.binds .any x = true → listed.getD x.on false = true

theorem Closed.set {listed : Array Bool} {j : Nat} (h : Closed ops listed) (hj : j ∈ Region.ready .any ops listed) : Closed ops (listed.setIfInBounds j true) := by
  intro i o ho hl x hx hb
  by_cases hij : j = i
  · subst hij
    obtain ⟨_, o', ho', hall⟩ := mem_ready.1 hj
    rw [ho] at ho'; injection ho' with ho'; subst ho'
    exact getD_set_true (hall x hx hb)
  · rw [getD_set_ne false hij] at hl
    exact getD_set_true (h i o ho hl x hx hb)

theorem late_spec {listed : Array Bool} {i : Nat} (hc : Closed ops listed) : ∀ n j o, ops[j]? = some o → (∀ x ∈ o.after, Region.binds .any x = true → listed.getD x.on false = true) →
    late ops i n j = true → listed.getD i false = true
  | 0, j, o, _, _, h => by simp [late] at h
  | n + 1, j, o, ho, hall, h => by
    simp only [late, ho] at h
    obtain ⟨x, hx, hb⟩ := Array.any_eq_true'.1 h
    simp only [Bool.and_eq_true, Bool.or_eq_true, beq_iff_eq] at hb
    have hl := hall x hx hb.1
    rcases hb.2 with h1 | h1
    · rw [← h1]; exact hl
    · have hop : ∃ o', ops[x.on]? = some o' := by
        cases ho' : ops[x.on]? with
        | some o' => exact ⟨o', rfl⟩
        | none => cases n <;> simp [late, ho'] at h1
      obtain ⟨o', ho'⟩ := hop
      exact late_spec hc n x.on o' ho' (hc x.on o' ho' hl) h1

def Eager (P : Program) (pu : Nat → Nat) (ops : Array Oper) (listed : Array Bool) (i : Nat) (ci : CI) : Prop :=
  ci.op.rw ≤ 1 ∧ ∀ j oj, ops[j]? = some oj → j ≠ i → listed.getD j true = false → late ops i 4 j = false →
    ∃ cj, cCI P pu ops oj = some cj ∧ ci.apart cj = true ∧ swapRW ci.op.rw cj.op.rw = true

theorem eager_spec {listed : Array Bool} {i : Nat} {ci : CI} (h : eager P pu ops listed i ci = true) : Eager P pu ops listed i ci := by
  unfold eager at h
  rw [Bool.and_eq_true] at h
  refine ⟨of_decide_eq_true h.1, fun j oj hj hne hun hlate => ?_⟩
  have h1 := List.all_eq_true.1 h.2 j (List.mem_range.2 (Array.getElem?_eq_some_iff.1 hj).1)
  simp only [hj, hlate, hun, Bool.or_eq_true, beq_iff_eq, hne, Bool.false_eq_true, or_false, false_or] at h1
  split at h1
  · rename_i cj hcj
    rw [Bool.and_eq_true] at h1
    exact ⟨cj, hcj, h1.1, h1.2⟩
  · cases h1

theorem Eager.set {listed : Array Bool} {i j : Nat} {ci : CI} (h : Eager P pu ops listed i ci) : Eager P pu ops (listed.setIfInBounds j true) i ci :=
  ⟨h.1, fun m om hm hne hun hl => h.2 m om hm hne (by
    by_cases hjm : j = m
    · subst hjm
      rcases Nat.lt_or_ge j listed.size with h' | h'
      · simp [h'] at hun
      · simp [Array.getElem?_eq_none h'] at hun
    · rw [getD_set_ne true hjm] at hun; exact hun) hl⟩

theorem aAny_first (hm : X.Mono) (hk : Resp (k .normal)) {i : Nat} {oi : Oper} {ci : CI} (hoi : ops[i]? = some oi) (hci : cCI P pu ops oi = some ci) :
    ∀ fuel listed st, Closed ops listed → Eager P pu ops listed i ci → i ∈ Region.ready .any ops listed →
      ci.step X k (aAny P pu ops X k fuel (listed.setIfInBounds i true)) st → aAny P pu ops X k (fuel + 1) listed st := by
  intro fuel
  induction fuel with
  | zero =>
    rintro listed ⟨e, S, D⟩ hc he hr h
    refine ⟨fun h0 => (by rw [h0] at hr; cases hr), fun j hj => ?_⟩
    by_cases hji : j = i
    · subst hji; exact ⟨oi, ci, hoi, hci, h⟩
    · rw [quiet_step he.1] at h
      obtain ⟨v, _, h0, _⟩ := h
      have := ready_mono hj hji
      rw [h0] at this
      cases this
  | succ fuel ih =>
    rintro listed ⟨e, S, D⟩ hc he hr h
    refine ⟨fun h0 => (by rw [h0] at hr; cases hr), fun j hj => ?_⟩
    by_cases hji : j = i
    · subst hji; exact ⟨oi, ci, hoi, hci, h⟩
    · obtain ⟨hjun, oj, hoj, hall⟩ := mem_ready.1 hj
      have hiun := (mem_ready.1 hr).1
      have hlate : late ops i 4 j = false := by
        cases hl : late ops i 4 j with
        | false => rfl
        | true =>
          have h1 := late_spec hc 4 j oj hoj hall hl
          rcases Nat.lt_or_ge i listed.size with h' | h'
          · simp [h'] at hiun h1; rw [hiun] at h1; cases h1
          · simp [Array.getElem?_eq_none h'] at h1
      obtain ⟨cj, hcj, hap, hsw⟩ := he.2 j oj hoj hji hjun hlate
      refine ⟨oj, cj, hoj, hcj, ?_⟩
      have h1 : ci.step X k (cj.step X k (aAny P pu ops X k fuel ((listed.setIfInBounds i true).setIfInBounds j true))) ⟨e, S, D⟩ := by
        rw [quiet_step he.1] at h ⊢
        obtain ⟨v, hv, h⟩ := h
        refine ⟨v, hv, ?_⟩
        obtain ⟨oj', cj', e1, e2, e3⟩ := h.2 j (ready_mono hj hji)
        rw [hoj] at e1; injection e1 with e1; subst e1
        rw [hcj] at e2; injection e2 with e2; subst e2
        exact e3
      have h2 := step_comm hm he.1 hsw hap (aAny_resp hm hk _ _) h1
      rw [Array.setIfInBounds_comm _ _ (Ne.symm hji)] at h2
      exact step_mono hm (fun st' h3 => ih _ st' (hc.set hj) he.set (ready_mono hr (Ne.symm hji)) h3) h2

theorem findEager_spec {listed : Array Bool} {j : Nat} {cj : CI} : ∀ {l : List Nat}, findEager P pu ops listed l = some (j, cj) →
    j ∈ l ∧ ∃ oj, ops[j]? = some oj ∧ cCI P pu ops oj = some cj ∧ eager P pu ops listed j cj = true
  | [], h => by simp [findEager] at h
  | i :: r, h => by
    simp only [findEager] at h
    split at h
    · rename_i oi hoi
      split at h
      · rename_i ci hci
        split at h
        · rename_i he
          injection h with h; injection h with h1 h2; subst h1; subst h2
          exact ⟨List.mem_cons_self, oi, hoi, hci, he⟩
        · obtain ⟨h1, h2⟩ := findEager_spec h; exact ⟨List.mem_cons_of_mem _ h1, h2⟩
      · obtain ⟨h1, h2⟩ := findEager_spec h; exact ⟨List.mem_cons_of_mem _ h1, h2⟩
    · obtain ⟨h1, h2⟩ := findEager_spec h; exact ⟨List.mem_cons_of_mem _ h1, h2⟩

theorem alts_spec {one : Nat → Option RT} {st : St} : ∀ (r : List Nat) (acc : Option RT) (t : RT),
    r.foldl (fun acc j => match acc, one j with | some a, some b => some (.alt a b) | _, _ => none) acc = some t → t.wp X k st →
    (∃ a, acc = some a ∧ a.wp X k st) ∧ ∀ j ∈ r, ∃ b, one j = some b ∧ b.wp X k st
  | [], acc, t, h, hw => ⟨⟨t, h, hw⟩, by simp⟩
  | j :: r, acc, t, h, hw => by
    simp only [List.foldl_cons] at h
    obtain ⟨⟨a, ha, haw⟩, hr⟩ := alts_spec r _ t h hw
    split at ha
    · rename_i a' b' hb'
      injection ha with ha; subst ha
      exact ⟨⟨a', rfl, haw.1⟩, fun i hi => by
        rcases List.mem_cons.1 hi with rfl | hi
        · exact ⟨b', hb', haw.2⟩
        · exact hr i hi⟩
    · cases ha

theorem gr_sound (hm : X.Mono) (hk : Resp (k .normal)) : ∀ n listed t st, gr P pu ops n listed = some t → Closed ops listed → t.wp X k st → aAny P pu ops X k n listed st
  | 0, listed, t, st, h, hc, hw => by
    simp only [gr] at h
    split at h
    · rename_i hr
      injection h with h; subst h
      exact ⟨hr, hw⟩
    · cases h
  | n + 1, listed, t, st, h, hc, hw => by
    simp only [gr] at h
    split at h
    · rename_i hr
      injection h with h; subst h
      exact ⟨fun _ => hw, by rw [hr]; simp⟩
    · rename_i i r hr
      split at h
      · rename_i j cj hf
        obtain ⟨t', ht', rfl⟩ := Option.map_eq_some_iff.1 h
        obtain ⟨hj, oj, hoj, hcj, he⟩ := findEager_spec hf
        rw [← hr] at hj
        exact aAny_first hm hk hoj hcj n listed st hc (eager_spec he) hj (step_mono hm (fun st' h' => gr_sound hm hk n _ t' st' ht' (hc.set hj) h') hw)
      · refine ⟨fun h0 => (by rw [h0] at hr; cases hr), fun j hj => ?_⟩
        obtain ⟨⟨a, ha, haw⟩, hrest⟩ := alts_spec _ _ _ h hw
        have hone : ∃ b, (match ops[j]? with
            | some oj => (match cCI P pu ops oj, gr P pu ops n (listed.setIfInBounds j true) with
              | some cj, some t => some (RT.op cj t)
              | _, _ => none)
            | none => none) = some b ∧ b.wp X k st := by
          have hj' := hj
          rw [hr] at hj'
          rcases List.mem_cons.1 hj' with rfl | hj'
          · exact ⟨a, ha, haw⟩
          · exact hrest j hj'
        obtain ⟨b, hb, hbw⟩ := hone
        split at hb
        · rename_i oj hoj
          split at hb
          · rename_i cj t' hcj ht'
            injection hb with hb; subst hb
            exact ⟨oj, cj, hoj, hcj, step_mono hm (fun st' h' => gr_sound hm hk n _ t' st' ht' (hc.set hj) h') hbw⟩
          · cases hb
        · cases hb

end Go.AM

set_option linter.unusedSimpArgs false
set_option linter.unusedVariables false
namespace Go.AM

variable {P : Program} {G : Globs} {D : List (Nat × List AV)}
variable {β β' β0 : Beta} {F F' F0 : Fz} {w w' w0 : World} {S S' : Store} {nt : Nat}

theorem pureL_map {f : AV → AV} (h : ∀ v, (f v).pure = true) : ∀ l : List AV, pureL (l.map f) = true
  | [] => rfl
  | v :: r => by simp only [List.map_cons, pureL, h v, pureL_map h r, Bool.and_self]

theorem frz_pure (ok : Nat → Bool) : ∀ n S v, (frz ok n S v).pure = true
  | 0, S, v => by
    unfold frz; split
    · assumption
    · rfl
  | n + 1, S, v => by
    have hl := pureL_map (frz_pure ok n S)
    cases v <;> simp only [frz, AV.pure] <;> (try split) <;> (try split) <;> (try simp only [AV.pure, hl, frz_pure ok n S, Bool.and_self]) <;> (try (first | exact hl _ | rfl))

theorem RepL.map {β' : Beta} {F' : Fz} {w' : World} {f : AV → AV} (h : ∀ v x, Rep β F w v x → Rep β' F' w' (f v) x) : ∀ (l : List AV) (xs : List Value), RepL β F w l xs → RepL β' F' w' (l.map f) xs
  | [], _, hx => hx
  | v :: r, _, ⟨x, xs, e, h1, h2⟩ => ⟨x, xs, e, h v x h1, RepL.map h r xs h2⟩

theorem RepAt.map {β' : Beta} {F' : Fz} {f : AV → AV} (h : ∀ v x, Rep β F w v x → Rep β' F' w (f v) x) : ∀ (l : List AV) (blk off : Nat), RepAt β F w l blk off → RepAt β' F' w (l.map f) blk off
  | [], _, _, _ => trivial
  | v :: r, blk, off, ⟨⟨x, h1, h2, h3⟩, hr⟩ => ⟨⟨x, h1, h2, h v x h3⟩, RepAt.map h r blk (off + 1) hr⟩

/-- The blocks that are frozen, and those of the boxes. -/
def Fz.all (F : Fz) (β : Beta) : Fz := fun k => F k ∨ ∃ i ∈ β, i.blk = k

theorem frz_rep {ok : Nat → Bool} (hs : StoreRel β F w S) (hF : ∀ k, F k → F' k) (hok : ∀ b cs ty g sk i, S[b]? = some (.cells cs ty g sk) → β[b]? = some i → ok b = true → F' i.blk) : ∀ n v x, Rep β F w v x → Rep [] F' w (frz ok n S v) x
  | 0, v, x, h => by
    unfold frz; split
    · rename_i hp
      exact Rep.keep (β := []) ⟨hF, fun _ _ _ => rfl, fun b i hi => by simp at hi⟩ v x (Rep.pure [] v x hp h)
    · trivial
  | n + 1, v, x, h => by
    have ih := frz_rep hs hF hok n
    cases v with
    | top => trivial
    | int k m => exact h
    | bool b => exact h
    | str s => exact h
    | np => exact h
    | ptr b g off =>
      simp only [frz]
      split
      · rename_i cs hcs
        split
        · rename_i hc
          rw [Bool.and_eq_true] at hc
          obtain ⟨ty, sk, i, h1, h2, h3, h4, rfl⟩ := ptr_row hs h hcs
          exact ⟨i.blk, i.base + off, rfl, hok b _ _ _ _ i h1 h2 hc.1, RepAt.map ih _ _ _ (RepAt.drop off h4.2.2.2.2)⟩
        · trivial
      · trivial
    | fptr cells =>
      obtain ⟨blk, off, h1, h2, h3⟩ := h
      exact ⟨blk, off, h1, hF _ h2, RepAt.map ih _ _ _ h3⟩
    | nsl => exact h
    | esl => exact h
    | sl b g off sz len cap =>
      simp only [frz]
      split
      · rename_i cs hcs
        split
        · rename_i hc
          rw [Bool.and_eq_true] at hc
          unfold boxRd at hcs
          split at hcs
          · rename_i cs' ty gen sk hb
            split at hcs
            · rename_i hg
              subst hg
              injection hcs with hcs; subst hcs
              obtain ⟨i, a, c, h1, h2, h3, h4, _, h6⟩ := h
              obtain ⟨hgen, hbox⟩ := hs.box b _ i hb h1
              obtain ⟨ha, _⟩ := h6 hgen
              refine ⟨some a, c, h3, h4, .inr ⟨i.blk, i.base + off, by rw [ha], hok b _ _ _ _ i hb h1 hc.1, ?_⟩⟩
              exact RepAt.map ih _ _ _ (RepAt.take _ (RepAt.drop off hbox.2.2.2.2))
            · cases hcs
          · cases hcs
        · trivial
      · trivial
    | fsl cells len =>
      obtain ⟨a, c, h1, h2, h3⟩ := h
      refine ⟨a, c, h1, h2, ?_⟩
      rcases h3 with rfl | ⟨blk, off, e1, e2, e3⟩
      · exact .inl rfl
      · exact .inr ⟨blk, off, e1, hF _ e2, RepAt.map ih _ _ _ e3⟩
    | nmap => exact h
    | map b g => trivial
    | fn f a b =>
      obtain ⟨p, q, h1, h2, h3⟩ := h
      exact ⟨p, q, h1, RepL.map ih _ _ h2, RepL.map ih _ _ h3⟩
    | nfn => exact h
    | iface t y =>
      obtain ⟨z, h1, h2⟩ := h
      exact ⟨z, h1, ih _ _ h2⟩
    | nif => exact h
    | agg cs =>
      obtain ⟨z, h1, h2, h3⟩ := h
      exact ⟨z, h1, RepL.map ih _ _ h2, h3⟩
    | tup cs =>
      obtain ⟨z, h1, h2⟩ := h
      exact ⟨z, h1, RepL.map ih _ _ h2⟩


mutual
theorem flat_rep {β' : Beta} {F' : Fz} {w' : World} : ∀ (v : AV) (x : Value), v.flat = true → Rep β F w v x → Rep β' F' w' v x
  | .top, _, _, _ => trivial
  | .int _ _, _, _, h => h
  | .bool _, _, _, h => h
  | .str _, _, _, h => h
  | .np, _, _, h => h
  | .ptr .., _, hf, _ => by simp [AV.flat] at hf
  | .fptr _, _, hf, _ => by simp [AV.flat] at hf
  | .nsl, _, _, h => h
  | .esl, _, _, h => h
  | .sl .., _, hf, _ => by simp [AV.flat] at hf
  | .fsl cells len, _, hf, ⟨a, c, h1, h2, _⟩ => ⟨a, c, h1, h2, .inl (by simpa [AV.flat] using hf)⟩
  | .nmap, _, _, h => h
  | .map .., _, hf, _ => by simp [AV.flat] at hf
  | .fn f a b, _, hf, ⟨p, q, h1, h2, h3⟩ => by
    simp only [AV.flat, Bool.and_eq_true] at hf
    exact ⟨p, q, h1, flatL_rep a _ hf.1 h2, flatL_rep b _ hf.2 h3⟩
  | .nfn, _, _, h => h
  | .iface t v, _, hf, ⟨y, h1, h2⟩ => ⟨y, h1, flat_rep v y (by simpa [AV.flat] using hf) h2⟩
  | .nif, _, _, h => h
  | .agg cs, _, hf, ⟨a, h1, h2, h3⟩ => ⟨a, h1, flatL_rep cs _ (by simpa [AV.flat] using hf) h2, h3⟩
  | .tup cs, _, hf, ⟨a, h1, h2⟩ => ⟨a, h1, flatL_rep cs _ (by simpa [AV.flat] using hf) h2⟩
theorem flatL_rep {β' : Beta} {F' : Fz} {w' : World} : ∀ (l : List AV) (xs : List Value), flatL l = true → RepL β F w l xs → RepL β' F' w' l xs
  | [], _, _, h => h
  | v :: r, _, hf, ⟨x, xs, e, h1, h2⟩ => by
    simp only [flatL, Bool.and_eq_true] at hf
    exact ⟨x, xs, e, flat_rep v x hf.1 h1, flatL_rep r xs hf.2 h2⟩
end

theorem killGen_lt (g : Nat) : g < killGen g := by unfold killGen; split <;> omega

theorem killed_len (ks : List Nat) : ∀ (i : Nat) (S : Store), (killed ks i S).length = S.length
  | _, [] => rfl
  | i, x :: r => by cases x <;> simp [killed, killed_len ks (i + 1) r]

theorem killed_get (ks : List Nat) : ∀ (S : Store) (i b : Nat) (y : Box), (killed ks i S)[b]? = some y → ∃ x, S[b]? = some x ∧ (y = x ∧ (ks.contains (i + b) = false ∨ ∀ cs ty g sk, x ≠ .cells cs ty g sk) ∨
    (ks.contains (i + b) = true ∧ ∃ cs ty g sk, x = .cells cs ty g sk ∧ y = .dead (killGen g)))
  | [], i, b, y, h => by simp [killed] at h
  | x :: r, i, 0, y, h => by
    cases x <;> simp only [killed, List.getElem?_cons_zero, Option.some.injEq] at h
    case cells cs ty g sk =>
      refine ⟨_, rfl, ?_⟩
      by_cases hc : ks.contains i = true
      · rw [if_pos hc] at h; exact .inr ⟨by simpa using hc, _, _, _, _, rfl, h.symm⟩
      · rw [if_neg hc] at h; exact .inl ⟨h.symm, .inl (by simpa using hc)⟩
    all_goals exact ⟨_, rfl, .inl ⟨h.symm, .inr (by simp)⟩⟩
  | x :: r, i, b + 1, y, h => by
    have h' : (killed ks (i + 1) r)[b]? = some y := by cases x <;> simpa [killed] using h
    obtain ⟨z, h1, h2⟩ := killed_get ks r (i + 1) b y h'
    rw [show i + 1 + b = i + (b + 1) by omega] at h2
    exact ⟨z, by simpa using h1, h2⟩

/-- The generations after boxes have been frozen. -/
def killB (ks : List Nat) (S : Store) (β : Beta) : Beta := β.mapIdx fun b i => match S[b]? with
  | some (.cells ..) => if ks.contains b then { i with gen := killGen i.gen } else i
  | _ => i

def killF (ks : List Nat) (S : Store) (β : Beta) (F : Fz) : Fz := fun k => F k ∨ ∃ b i cs ty g sk, ks.contains b = true ∧ S[b]? = some (.cells cs ty g sk) ∧ β[b]? = some i ∧ i.blk = k

theorem killB_get {ks : List Nat} {b : Nat} {i' : BI} (h : (killB ks S β)[b]? = some i') : ∃ i, β[b]? = some i ∧ i'.blk = i.blk ∧
    ((i' = i ∧ (ks.contains b = false ∨ ∀ cs ty g sk, S[b]? ≠ some (.cells cs ty g sk))) ∨ (ks.contains b = true ∧ (∃ cs ty g sk, S[b]? = some (.cells cs ty g sk)) ∧ i'.gen = killGen i.gen)) := by
  unfold killB at h
  rw [List.getElem?_mapIdx] at h
  obtain ⟨i, hi, rfl⟩ := Option.map_eq_some_iff.1 h
  refine ⟨i, hi, ?_⟩
  split
  · rename_i cs ty g sk hb
    split
    · rename_i hc; exact ⟨rfl, .inr ⟨hc, ⟨_, _, _, _, hb⟩, rfl⟩⟩
    · rename_i hc; exact ⟨rfl, .inl ⟨rfl, .inl (by simpa using hc)⟩⟩
  · rename_i hb; exact ⟨rfl, .inl ⟨rfl, .inr fun cs ty g sk he => hb cs ty g sk he⟩⟩

/-- Boxes may be frozen for good. -/
theorem kill_ok (hs : StoreRel β F w S) (ks : List Nat) : StoreRel (killB ks S β) (killF ks S β F) w (killed ks 0 S) ∧ Ext β F w (killB ks S β) (killF ks S β F) w := by
  have hE : Ext β F w (killB ks S β) (killF ks S β F) w := by
    refine ⟨Nat.le_refl _, rfl, rfl, rfl, fun _ _ _ => rfl, fun i' hi' => ?_, fun k hk => .inl hk, fun k hk => ?_, fun b i hi => ?_⟩
    · obtain ⟨b, hb⟩ := List.getElem?_of_mem hi'
      obtain ⟨i, h1, h2, _⟩ := killB_get hb
      exact .inl ⟨i, List.mem_of_getElem? h1, h2.symm⟩
    · rcases hk with hk | ⟨b, i, _, _, _, _, _, _, h3, h4⟩
      · exact .inl hk
      · exact .inr (.inl ⟨i, List.mem_of_getElem? h3, h4⟩)
    · have hlt : b < (killB ks S β).length := by
        have := (List.getElem?_eq_some_iff.1 hi).1
        simpa [killB] using this
      obtain ⟨i2, h1, h2, h3⟩ := killB_get (List.getElem?_eq_getElem hlt)
      rw [hi] at h1; injection h1 with h1; subst h1
      refine ⟨_, List.getElem?_eq_getElem hlt, ?_⟩
      rcases h3 with ⟨h3, _⟩ | ⟨_, _, h3⟩
      · rw [h3]; exact ⟨Nat.le_refl _, fun _ => rfl⟩
      · have := killGen_lt i.gen; exact ⟨by omega, fun he => by omega⟩
  have hk := hE.keeps hs
  refine ⟨⟨by rw [killed_len]; simp [killB, hs.len], ?_, ?_, ?_, ?_, ?_⟩, hE⟩
  · intro b y i' hy hi'
    obtain ⟨x, hx, hcase⟩ := killed_get ks S 0 b y hy
    rw [Nat.zero_add] at hcase
    obtain ⟨i, hi, hblk, hi2⟩ := killB_get hi'
    obtain ⟨h1, h2⟩ := hs.box b x i hx hi
    rcases hcase with ⟨rfl, hn⟩ | ⟨hc, cs, ty, g, sk, rfl, rfl⟩
    · have : i' = i := by
        rcases hi2 with ⟨h, _⟩ | ⟨hc, ⟨cs, ty, g, sk, hb⟩, _⟩
        · exact h
        · rw [hx] at hb; injection hb with hb
          rcases hn with hn | hn
          · rw [hn] at hc; cases hc
          · exact absurd hb (hn _ _ _ _)
      subst this
      exact ⟨h1, h2.keep hk rfl⟩
    · rcases hi2 with ⟨_, hn | hn⟩ | ⟨_, _, hg⟩
      · rw [hn] at hc; cases hc
      · exact absurd hx (hn _ _ _ _)
      · refine ⟨?_, trivial⟩
        have h1 : g = i.gen := h1
        show killGen g = i'.gen
        rw [hg, h1]
  · intro b i' hi'
    obtain ⟨i, hi, hblk, _⟩ := killB_get hi'
    rw [hblk]; exact hs.lt b i hi
  · intro k hk
    rcases hk with hk | ⟨b, i, _, _, _, _, _, _, h3, h4⟩
    · exact hs.fl k hk
    · rw [← h4]; exact hs.lt b i h3
  · intro b y i' hy hl hi' hF
    obtain ⟨x, hx, hcase⟩ := killed_get ks S 0 b y hy
    rw [Nat.zero_add] at hcase
    obtain ⟨i, hi, hblk, _⟩ := killB_get hi'
    rcases hcase with ⟨rfl, hn⟩ | ⟨hc, cs, ty, g, sk, rfl, rfl⟩
    · rw [hblk] at hF
      rcases hF with hF | ⟨c, j, cs, ty, g, sk, hc, hb, hj, he⟩
      · exact hs.nF b y i hx hl hi hF
      · have := hs.inj c b _ y j i hb hx rfl hl hj hi he
        subst this
        rw [hx] at hb; injection hb with hb
        rcases hn with hn | hn
        · rw [hn] at hc; cases hc
        · exact absurd hb (hn _ _ _ _)
    · cases hl
  · intro b b' y y' i i' hy hy' hl hl' hi hi' he
    obtain ⟨x, hx, hcase⟩ := killed_get ks S 0 b y hy
    obtain ⟨x', hx', hcase'⟩ := killed_get ks S 0 b' y' hy'
    obtain ⟨j, hj, hblk, _⟩ := killB_get hi
    obtain ⟨j', hj', hblk', _⟩ := killB_get hi'
    rcases hcase with ⟨rfl, _⟩ | ⟨_, cs, ty, g, sk, rfl, rfl⟩
    · rcases hcase' with ⟨rfl, _⟩ | ⟨_, cs, ty, g, sk, rfl, rfl⟩
      · exact hs.inj b b' y y' j j' hx hx' hl hl' hj hj' (by rw [← hblk, ← hblk', he])
      · cases hl'
    · cases hl

/-- What is read of a box, once it is frozen for good. -/
theorem frz_kill (hs : StoreRel β F w S) (ks : List Nat) (n : Nat) {v : AV} {x : Value} (h : Rep β F w v x) : Rep [] (killF ks S β F) w (frz ks.contains n S v) x := by
  refine frz_rep hs (fun k hk => .inl hk) (fun b cs ty g sk i hy hi hc => .inr ⟨b, i, cs, ty, g, sk, hc, hy, hi, rfl⟩) n v x h

end Go.AM

set_option linter.unusedSimpArgs false
set_option linter.unusedVariables false
namespace Go.AM

variable {P : Program} {pu : Nat → Nat} {G : Globs} {k : K} {D : List (Nat × List AV)} {ops : Array Oper}
variable {β β' β0 : Beta} {F F' F0 : Fz} {w w' w0 : World} {S S' : Store} {nt : Nat}

/-- How a call ends, as the machine sees it. -/
def FERel (β0 : Beta) (F0 : Fz) (w0 : World) (R : FK) : Ending → World → Prop
  | .returned v, w' => ∃ β F av S, R (.ret av) S ∧ Rep β F w' av v ∧ StoreRel β F w' S ∧ Ext β0 F0 w0 β F w'
  | .panicked ch, w' => ∃ β F av S v, ch = [{ v := v, recovered := false }] ∧ R (.panic av) S ∧ Rep β F w' av v ∧ StoreRel β F w' S ∧ Ext β0 F0 w0 β F w'
  | .outgrown, _ => False

/-- A function's call, from a store. -/
def WpF (P : Program) (G : Globs) (f : Nat) (args : List AV) (S : Store) (R : FK) : Prop :=
  callable P f = true ∧ ∀ β F w (vals : Array Value), StoreRel β F w S → GlobOK G F w → RepL β F w args vals.toList → Calls P f vals w (FERel β F w R)

def PRel (F0 : Fz) (w0 : World) (fe : FE) : Ending → World → Prop
  | .returned v, w' => ∃ F, Ext [] F0 w0 [] F w' ∧ (∀ k, F k → k < w'.heap.size) ∧ ∃ av, fe = .ret av ∧ Rep [] F w' av v
  | .panicked ch, w' => ∃ F, Ext [] F0 w0 [] F w' ∧ (∀ k, F k → k < w'.heap.size) ∧ ∃ av v, fe = .panic av ∧ ch = [{ v := v, recovered := false }] ∧ Rep [] F w' av v
  | .outgrown, _ => False

/-- A call that leaves the store alone. -/
def SPF (P : Program) (G : Globs) (f : Nat) (args : List AV) (fe : FE) : Prop :=
  callable P f = true ∧ ∀ F w (vals : Array Value), (∀ k, F k → k < w.heap.size) → GlobOK G F w → RepL [] F w args vals.toList → Calls P f vals w (PRel F w fe)

def SX (P : Program) (G : Globs) : Cx := ⟨G, WpF P G, SPF P G⟩

theorem FERel.mono {R R' : FK} (h : ∀ fe S, R fe S → R' fe S) {e : Ending} (he : FERel β0 F0 w0 R e w') : FERel β0 F0 w0 R' e w' := by
  cases e with
  | returned v => obtain ⟨β, F, av, S, h1, h2⟩ := he; exact ⟨β, F, av, S, h _ _ h1, h2⟩
  | panicked ch => obtain ⟨β, F, av, S, v, h0, h1, h2⟩ := he; exact ⟨β, F, av, S, v, h0, h _ _ h1, h2⟩
  | outgrown => exact he

theorem calls_mono {f : Nat} {vals : Array Value} {R R' : Ending → World → Prop} (h : Calls P f vals w R) (hr : ∀ e w', R e w' → R' e w') : Calls P f vals w R' :=
  fun cs => let ⟨e, w', fr, r, rest⟩ := h cs; ⟨e, w', fr, hr _ _ r, rest⟩

theorem WpF.mono {f : Nat} {args : List AV} {R R' : FK} (h : ∀ fe S, R fe S → R' fe S) (hw : WpF P G f args S R) : WpF P G f args S R' :=
  ⟨hw.1, fun β F w vals h1 h2 h3 => calls_mono (hw.2 β F w vals h1 h2 h3) fun e w' he => he.mono h⟩

theorem SX.mono : (SX P G).Mono := fun _ _ _ _ _ h hw => WpF.mono h hw

/-- Deferred calls. -/
def DefRel (β : Beta) (F : Fz) (w : World) : List (Nat × List AV) → List Deferred → Prop
  | [], ds => ds = []
  | x :: xs, ds => ∃ d r cap, ds = d :: r ∧ d.target = .fn (.func x.1) cap ∧ RepL β F w x.2 (d.args ++ cap).toList ∧ DefRel β F w xs r

theorem DefRel.keep (h : Keeps β F w β' F' w') : ∀ {D : List (Nat × List AV)} {ds : List Deferred}, DefRel β F w D ds → DefRel β' F' w' D ds
  | [], _, hd => hd
  | x :: xs, _, ⟨d, r, cap, h1, h2, h3, h4⟩ => ⟨d, r, cap, h1, h2, RepL.keep h _ _ h3, h4.keep h⟩

theorem GlobOK.keep (h : Ext β F w β' F' w') (hs : StoreRel β F w S) (hG : GlobOK G F w) : GlobOK G F' w' := by
  have hk := h.keeps hs
  have hk0 : Keeps [] F w [] F' w' := ⟨hk.fz, hk.heap, fun b i hi => by simp at hi⟩
  intro n cells hn
  obtain ⟨h1, h2, h3⟩ := hG n cells hn
  exact ⟨h.fz n h1, h2, RepAt.keep hk0 _ _ _ h1 h3⟩

theorem EnvRel.keep (h : Keeps β F w β' F' w') {e : Env} {ρ : Nat → Value} (he : EnvRel β F w e ρ) : EnvRel β' F' w' e ρ := fun i => Rep.keep h _ _ (he i)

/-- The machine's state stands for the activation. -/
structure SRel (G : Globs) (nt : Nat) (β : Beta) (F : Fz) (st : St) (a : Act) (w : World) : Prop where
  env : EnvRel β F w st.env (fun i => a.tmps.getD i undef)
  store : StoreRel β F w st.S
  defs : DefRel β F w st.D a.defers
  glob : GlobOK G F w
  size : nt ≤ a.tmps.size

theorem put_size (a : Act) (d : Option Tmp) (v : Value) : (a.put d v).tmps.size = a.tmps.size := by
  cases d <;> simp [Act.put]

theorem put_defers (a : Act) (d : Option Tmp) (v : Value) : (a.put d v).defers = a.defers := by cases d <;> rfl

theorem EnvRel.put {e : Env} {a : Act} {d : Option Tmp} {v : AV} {x : Value} (he : EnvRel β F w e (fun i => a.tmps.getD i undef)) (hx : Rep β F w v x) (hd : ∀ t, d = some t → t < a.tmps.size) :
    EnvRel β F w (e.set d v) (fun i => (a.put d x).tmps.getD i undef) := by
  cases d with
  | none => exact he
  | some t =>
    intro i
    have ht := hd t rfl
    simp only [Env.set, Env.get, Act.put]
    by_cases h : i = t
    · subst h
      rw [if_pos rfl]
      simp [ht]; exact hx
    · rw [if_neg h]
      have := he i
      simp only [Array.getD_eq_getD_getElem?] at this ⊢
      rw [Array.getElem?_setIfInBounds_ne (Ne.symm h)]
      exact this

theorem SRel.put {st : St} {a : Act} {d : Option Tmp} {v : AV} {x : Value} (hR : SRel G nt β F st a w) (hE : Ext β F w β' F' w') (hS : StoreRel β' F' w' S') (hx : Rep β' F' w' v x)
    (hd : ∀ t, d = some t → t < nt) : SRel G nt β' F' ⟨st.env.set d v, S', st.D⟩ (a.put d x) w' where
  env := (hR.env.keep (hE.keeps hR.store)).put hx fun t ht => Nat.lt_of_lt_of_le (hd t ht) hR.size
  store := hS
  defs := by rw [put_defers]; exact hR.defs.keep (hE.keeps hR.store)
  glob := hR.glob.keep hE hR.store
  size := by rw [put_size]; exact hR.size

theorem SRel.drew {st : St} {a : Act} (hR : SRel G nt β F st a w) : SRel G nt β F st a w.drew where
  env := hR.env.keep (Keeps.same (w := w) (w' := w.drew) rfl)
  store := hR.store.drew
  defs := hR.defs.keep (Keeps.same (w := w) (w' := w.drew) rfl)
  glob := hR.glob.keep (Ext.drew β F w) hR.store
  size := hR.size

theorem SRel.opd {st : St} {a : Act} (hR : SRel G nt β F st a w) : OpdRel G β F w st.env a.eval := fun x cx h => opd_rep hR.glob hR.env h

def ExRel (β : Beta) (F : Fz) (w : World) : Ex → Exit → Prop
  | .normal, e => e = .normal
  | .exit i, e => e = .exit i
  | .ret, e => e = .ret
  | .panic v, e => ∃ x, e = .panic [{ v := x, recovered := false }] ∧ Rep β F w v x

/-- What code comes to. -/
def QK (G : Globs) (β0 : Beta) (F0 : Fz) (w0 : World) (nt : Nat) (k : K) : Exit → Act → World → Prop :=
  fun e a w => ∃ ex st β F, k ex st ∧ Ext β0 F0 w0 β F w ∧ SRel G nt β F st a w ∧ ExRel β F w ex e

theorem guard_run {oj : Oper} {cj : CI} (hc : cCI P pu ops oj = some cj) {e : Env} {a : Act} (he : EnvRel β F w e (fun i => a.tmps.getD i undef)) {b : Bool} (hb : cj.on e = some b) :
    Region.wanted oj (yielded ops a.tmps) = b := by
  unfold cCI at hc
  split at hc
  · rename_i hg
    injection hc with hc; subst hc
    simp only [CI.on, Option.some.injEq] at hb
    simp [Region.wanted, hg, hb]
  · rename_i j want hg
    split at hc
    · rename_i s hs
      injection hc with hc; subst hc
      have hr := he s
      simp only [CI.on] at hb
      have hy : yielded ops a.tmps j = match a.tmps[s]? with | some (.bool b) => some b | _ => none := by
        simp only [yielded, hs, Option.bind_some]; rfl
      simp only [Region.wanted, hg, hy]
      split at hb
      · rename_i t ht
        rw [ht] at hr
        have hr : a.tmps.getD s undef = .bool t := bool_rep hr
        injection hb with hb; subst hb
        rw [Array.getD_eq_getD_getElem?] at hr
        cases hq : a.tmps[s]? with
        | none => rw [hq] at hr; cases hr
        | some x =>
          rw [hq] at hr
          have : x = .bool t := hr
          subst this
          cases t <;> cases want <;> rfl
      · rename_i ht
        rw [ht] at hr
        obtain ⟨z, hz, hz'⟩ := hr
        injection hb with hb; subst hb
        have hz : a.tmps.getD s undef = .tuple z := hz
        rw [Array.getD_eq_getD_getElem?] at hz
        cases hq : a.tmps[s]? with
        | none => rfl
        | some x =>
          rw [hq] at hz
          have : x = .tuple z := hz
          subst this
          rfl
      · cases hb
    · cases hc

def COp.kind : COp → Nat
  | .call .. => 1
  | .pcall .. => 2
  | .kcall .. => 8
  | .callV .. => 3
  | .pan _ => 4
  | .defer .. => 5
  | .nxt false _ => 6
  | .recov => 7
  | _ => 0

theorem kind0_beh {X : Cx} {e : Env} {co : COp} (h : co.kind = 0) {nx : AV → Store → List (Nat × List AV) → Prop} {pn : AV → Store → Prop} :
    co.beh X e S D nx pn = (match co.ev X.G e S with | some (v, S') => nx v S' D | none => False) := by
  cases co <;> first | rfl | (simp [COp.kind] at h; done) | skip
  rename_i b x
  cases b <;> first | rfl | (simp [COp.kind] at h)

theorem bin_kind {op : BinOp} {t : Nat} {x y : Operand} {co : COp} (h : cBin P op t x y = some co) : co.kind = 0 := by
  unfold cBin at h
  repeat' (first
    | (cases h; done)
    | (injection h with h; subst h; rfl)
    | split at h)

theorem conv_kind {s d : Nat} {x : Operand} {co : COp} (h : cConv P s d x = some co) : co.kind = 0 := by
  unfold cConv at h
  repeat' (first
    | (cases h; done)
    | (injection h with h; subst h; rfl)
    | split at h)

theorem call_kind {c : Call} {co : COp} (h : cCall P pu c = some co) : co.kind = 0 ∨ co.kind = 7 ∨
    (∃ f as, c.callee = .value (.func f) ∧ cOpds c.args.toList = some as ∧ callable P f = true ∧ (co = .pcall f as ∨ co = .call f as ∨ co = .kcall f as)) ∨
    (∃ t as, c.callee = .value (.tmp t) ∧ cOpds c.args.toList = some as ∧ co = .callV (.t t) as) := by
  unfold cCall at h
  split at h
  · rename_i f as hc has
    split at h
    · cases h
    · rename_i fn hf
      split at h
      · rename_i hb
        split at h
        · rename_i hn
          injection h with h
          refine .inr (.inr (.inl ⟨f, as, hc, has, by simp [callable, hf, hb]; simpa using hn, ?_⟩))
          split at h
          · exact .inr (.inl h.symm)
          · exact .inl h.symm
          · exact .inr (.inr h.symm)
        · cases h
      · split at h
        · cases h
        · repeat' (first
            | (cases h; done)
            | (injection h with h; subst h; exact .inl rfl)
            | split at h)
  · rename_i t as hc has
    injection h with h
    exact .inr (.inr (.inr ⟨t, as, hc, has, h.symm⟩))
  all_goals
    repeat' (first
      | (cases h; done)
      | (injection h with h; subst h; exact .inl rfl)
      | (injection h with h; subst h; exact .inr (.inl rfl))
      | (obtain ⟨_, _, rfl⟩ := Option.map_eq_some_iff.1 h; exact .inl rfl)
      | split at h)

theorem cOp_inv {o : Oper} {co : COp} (h : cOp P pu o = some co) : co.kind = 0 ∨ (∃ c, o.op = .call c ∧ cCall P pu c = some co) ∨ (∃ x c, o.op = .panic x ∧ cOpd x = some c ∧ co = .pan c) ∨
    (∃ c t as, o.op = .defer c ∧ c.callee = .value (.tmp t) ∧ cOpds c.args.toList = some as ∧ co = .defer (.t t) as) ∨ (∃ x c, o.op = .next x false ∧ cOpd x = some c ∧ co = .nxt false c) := by
  unfold cOp at h
  split at h
  case h_6 => exact .inl (conv_kind h)
  case h_4 => exact .inl (bin_kind h)
  all_goals
    first
    | (rename_i c ho; exact .inr (.inl ⟨c, ho, h⟩))
    | skip
  all_goals
    first
    | (rename_i x ho; obtain ⟨c, hc, rfl⟩ := Option.map_eq_some_iff.1 h; exact .inr (.inr (.inl ⟨x, c, ho, hc, rfl⟩)))
    | (rename_i x s ho; obtain ⟨c, hc, rfl⟩ := Option.map_eq_some_iff.1 h; cases s; exact .inr (.inr (.inr (.inr ⟨x, c, ho, hc, rfl⟩))); exact .inl rfl)
    | skip
  all_goals
    first
    | (rename_i c ho
       split at h
       · rename_i t as h1 h2
         injection h with h
         exact .inr (.inr (.inr (.inl ⟨c, t, as, ho, h1, h2, h.symm⟩)))
       · cases h)
    | skip
  all_goals
    repeat' (first
      | (cases h; done)
      | (injection h with h; subst h; exact .inl rfl)
      | (obtain ⟨_, _, rfl⟩ := Option.map_eq_some_iff.1 h; exact .inl rfl)
      | split at h)

end Go.AM

set_option linter.unusedSimpArgs false
set_option linter.unusedVariables false
namespace Go.AM

variable {P : Program} {pu : Nat → Nat} {G : Globs} {k : K} {D : List (Nat × List AV)} {ops : Array Oper}
variable {β β' β0 : Beta} {F F' F0 : Fz} {w w' w0 : World} {S S' : Store} {nt : Nat}

theorem callFunc_run {f : Nat} {args : Array Value} (h : callable P f = true) : (callFunc f args).run P w = .ok (.enter f args) w := by
  unfold callable at h
  split at h
  · rename_i fn hf
    rw [Bool.and_eq_true] at h
    have hn : (fn.name == "runtime.NumGoroutine") = false := by simpa using h.2
    have hb : fn.body.isNone = false := by
      cases hx : fn.body with
      | none => rw [hx] at h; simp at h
      | some _ => rfl
    simp only [callFunc, Sem.run_bind, run_program, Result.andThen_ok, hf, hn, hb, Bool.false_eq_true, if_false, Sem.run_pure]
  · cases h

theorem enter_func {ρ : Operand → Value} {o : Oper} {c : Call} {f : Nat} {fst caps : Array Value} {x : Operand} (ho : o.op = .call c) (hc : c.callee = .value x) (hx : ρ x = .func (.func f) fst caps) (h : callable P f = true) :
    (execOp ρ o).run P w = .ok (.enter f (fst ++ c.args.map ρ ++ caps)) w := by
  simp only [execOp, ho, resolve, hc, hx, Deferred.ofValue, Sem.run_bind, Sem.run_pure, Result.andThen_ok, invoke]
  exact callFunc_run h

/-- A call that leaves the store alone, beside a store. -/
theorem beside (hs : StoreRel β F w S) (hE : Ext [] F w [] F' w') (hl : ∀ k, F' k → k < w'.heap.size) : StoreRel β F' w' S ∧ Ext β F w β F' w' := by
  have hfr : ∀ k, k < w.heap.size → w'.heap[k]? = w.heap[k]? := fun k hk => hE.frame k hk (.inr (by simp))
  have hk : Keeps β F w β F' w' := ⟨hE.fz, fun k _ hk => hfr k hk, fun b i h => ⟨i, h, Nat.le_refl _, fun _ => rfl⟩⟩
  refine ⟨⟨hs.len, fun b x i hx hi => ⟨(hs.box b x i hx hi).1, (hs.box b x i hx hi).2.keep hk (hfr _ (hs.lt b i hi))⟩, fun b i hi => Nat.lt_of_lt_of_le (hs.lt b i hi) hE.size, hl, fun b x i hx hlv hi hF => ?_, hs.inj⟩,
    ⟨hE.size, hE.tape, hE.os, hE.out, fun k hk _ => hfr k hk, fun i h => .inl ⟨i, h, rfl⟩, hE.fz, fun k hF => ?_, fun b i h => ⟨i, h, Nat.le_refl _, fun _ => rfl⟩⟩⟩
  · rcases hE.fz' _ hF with h | ⟨i, hi, _⟩ | h
    · exact hs.nF b x i hx hlv hi h
    · simp at hi
    · have := hs.lt b i hi; omega
  · rcases hE.fz' _ hF with h | ⟨i, hi, _⟩ | h
    · exact .inl h
    · simp at hi
    · exact .inr (.inr h)

/-- A call that leaves the store alone and answers with nothing of its own. -/
theorem beside' (hs : StoreRel β F w S) (hE : Ext [] (F.all β) w [] F' w') : StoreRel β F w' S ∧ Ext β F w β F w' := by
  have hfr : ∀ k, k < w.heap.size → w'.heap[k]? = w.heap[k]? := fun k hk => hE.frame k hk (.inr (by simp))
  have hk : Keeps β F w β F w' := ⟨fun _ h => h, fun k _ hk => hfr k hk, fun b i h => ⟨i, h, Nat.le_refl _, fun _ => rfl⟩⟩
  exact ⟨⟨hs.len, fun b x i hx hi => ⟨(hs.box b x i hx hi).1, (hs.box b x i hx hi).2.keep hk (hfr _ (hs.lt b i hi))⟩, fun b i hi => Nat.lt_of_lt_of_le (hs.lt b i hi) hE.size,
    fun k hk => Nat.lt_of_lt_of_le (hs.fl k hk) hE.size, hs.nF, hs.inj⟩,
    ⟨hE.size, hE.tape, hE.os, hE.out, fun k hk _ => hfr k hk, fun i h => .inl ⟨i, h, rfl⟩, fun _ h => h, fun k hF => .inl hF, fun b i h => ⟨i, h, Nat.le_refl _, fun _ => rfl⟩⟩⟩

theorem pure_args {β' : Beta} {l : List AV} {vs : List Value} (hp : pureL l = true) (h : RepL β F w l vs) : RepL β' F w l vs := RepL.pure β' l vs hp h

theorem step_sound {j : Nat} {oj : Oper} {cj : CI} (hj : ops[j]? = some oj) (hcj : cCI P pu ops oj = some cj) (hb : ∀ d, oj.dst = some d → d < nt) {nx : St → Prop} {st : St} {a : Act}
    (h : cj.step (SX P G) k nx st) (hE : Ext β0 F0 w0 β F w) (hR : SRel G nt β F st a w) {Kc : Act → World → Prop}
    (hn : ∀ st' β' F' a' w', nx st' → Ext β0 F0 w0 β' F' w' → SRel G nt β' F' st' a' w' → Kc a' w') : wpOp P ops (QK G β0 F0 w0 nt k) j Kc a w := by
  have hdst : cj.dst = oj.dst ∧ cj.op = (cOp P pu oj).getD .bad := by
    unfold cCI at hcj
    split at hcj
    · injection hcj with hcj; subst hcj; exact ⟨rfl, rfl⟩
    · split at hcj
      · injection hcj with hcj; subst hcj; exact ⟨rfl, rfl⟩
      · cases hcj
  unfold wpOp
  simp only [hj]
  unfold CI.step at h
  split at h
  · exact h.elim
  · rename_i hon
    rw [guard_run hcj hR.env hon]
    simp only [Bool.false_eq_true, if_false]
    have hp := hR.put (d := oj.dst) (v := .tup []) (x := undef) (Ext.refl β F w) hR.store ⟨#[], rfl, rfl⟩ hb
    rw [hdst.1] at h
    exact hn _ _ _ _ _ h hE hp
  · rename_i hon
    rw [guard_run hcj hR.env hon]
    simp only [if_true]
    refine .inl ?_
    -- what a next state is
    have key : ∀ {β' : Beta} {F' : Fz} {w' : World} {S' : Store} {v : AV} {x : Value}, nx ⟨st.env.set oj.dst v, S', st.D⟩ → Rep β' F' w' v x → StoreRel β' F' w' S' → Ext β F w β' F' w' → Kc (a.put oj.dst x) w' :=
      fun hx hr hs he => hn _ _ _ _ _ hx (hE.trans he) (hR.put he hs hr hb)
    have kpan : ∀ {β' : Beta} {F' : Fz} {w' : World} {S' : Store} {v : AV} {x : Value}, k (.panic v) ⟨[], S', st.D⟩ → Rep β' F' w' v x → StoreRel β' F' w' S' → Ext β F w β' F' w' →
        QK G β0 F0 w0 nt k (.panic [{ v := x, recovered := false }]) a w' :=
      fun hx hr hs he => ⟨_, _, _, _, hx, hE.trans he, ⟨fun i => trivial, hs, hR.defs.keep (he.keeps hR.store), hR.glob.keep he hR.store, hR.size⟩, _, rfl, hr⟩
    rw [hdst.1, hdst.2] at h
    cases hco : cOp P pu oj with
    | none => rw [hco] at h; exact h.elim
    | some co =>
      rw [hco] at h
      simp only [Option.getD_some] at h
      -- a call
      have callIt : ∀ (f : Nat) (avs : List AV) (vals : Array Value), (execOp a.eval oj).run P w = .ok (.enter f vals) w → RepL β F w avs vals.toList →
          WpF P G f avs st.S (fun
            | .ret v, S' => nx ⟨st.env.set oj.dst v, S', st.D⟩
            | .panic v, S' => k (.panic v) ⟨[], S', st.D⟩) → oj.wp P a w Kc (QK G β0 F0 w0 nt k) := by
        intro f avs vals hrun hrep hw
        unfold Oper.wp
        rw [hrun, Oper.upon_enter]
        refine calls_mono (hw.2 β F w vals hR.store hR.glob hrep) fun e w' he => ?_
        cases e with
        | returned v =>
          obtain ⟨β', F', av, S', h1, h2, h3, h4⟩ := he
          exact key h1 h2 h3 h4
        | panicked ch =>
          obtain ⟨β', F', av, S', v, rfl, h1, h2, h3, h4⟩ := he
          exact kpan h1 h2 h3 h4
        | outgrown => exact he.elim
      have plain : co.kind = 0 → oj.wp P a w Kc (QK G β0 F0 w0 nt k) := by
        intro h0
        rw [kind0_beh h0] at h
        cases hev : co.ev G st.env st.S with
        | none => rw [show co.ev (SX P G).G st.env st.S = none from hev] at h; exact h.elim
        | some p =>
          obtain ⟨v, S'⟩ := p
          rw [show co.ev (SX P G).G st.env st.S = some (v, S') from hev] at h
          obtain ⟨x, w', β', F', hrun, g1, g2, g3⟩ := op_sound (P := P) (pu := pu) hR.opd hR.store hco hev
          unfold Oper.wp
          rcases hrun with hrun | ⟨rfl, hrun⟩
          · rw [hrun, Oper.upon_value]; exact key h g1 g2 g3
          · rw [hrun, Oper.upon_skip]; exact key h g1 g2 g3
      rcases cOp_inv hco with h0 | ⟨c, ho, hcc⟩ | ⟨x, c, ho, hx, rfl⟩ | ⟨c, t, as, ho, hc, has, rfl⟩ | ⟨x, c, ho, hx, rfl⟩
      · exact plain h0
      · rcases call_kind hcc with h0 | h7 | ⟨f, as, hc, has, hcal, hcas⟩ | ⟨t, as, hc, has, rfl⟩
        · exact plain h0
        · cases co <;> (first | (simp [COp.kind] at h7; done) | skip)
          · rename_i b x; cases b <;> simp [COp.kind] at h7
          · exact h.elim
        · have hrun := enter_func (P := P) (w := w) (ρ := a.eval) ho hc (fst := #[]) (caps := #[]) rfl hcal
          have hrep := opds_arr hR.opd has
          simp only [Array.empty_append, Array.append_empty] at hrun
          rcases hcas with rfl | rfl | rfl
          · obtain ⟨fe, hpf, hm⟩ := h
            unfold Oper.wp
            rw [hrun, Oper.upon_enter]
            rcases hpf with ⟨hp, hpf, hfp⟩ | ⟨hpf, hfl⟩
            · refine calls_mono (hpf.2 F w _ hR.store.fl hR.glob (pure_args hp hrep)) fun e w' he => ?_
              cases e with
              | returned v =>
                obtain ⟨F', h1, h2, av, rfl, h3⟩ := he
                obtain ⟨b1, b2⟩ := beside hR.store h1 h2
                exact key hm (Rep.pure β av v (by simpa [FE.pure] using hfp) h3) b1 b2
              | panicked ch =>
                obtain ⟨F', h1, h2, av, v, rfl, rfl, h3⟩ := he
                obtain ⟨b1, b2⟩ := beside hR.store h1 h2
                exact kpan hm (Rep.pure β av v (by simpa [FE.pure] using hfp) h3) b1 b2
              | outgrown => exact he.elim
            · have hGa : GlobOK G (F.all β) w := fun n cells hn => by
                obtain ⟨g1, g2, g3⟩ := hR.glob n cells hn
                exact ⟨.inl g1, g2, RepAt.keep (F := F) ⟨fun k hk => .inl hk, fun _ _ _ => rfl, fun b i hi => by simp at hi⟩ _ _ _ g1 g3⟩
              have hfz : RepL [] (F.all β) w (as.map fun x => frz yes 40 st.S (x.ev G st.env)) (c.args.map a.eval).toList := by
                have := RepL.map (fun v x => frz_rep (F' := F.all β) (ok := yes) hR.store (fun k hk => .inl hk) (fun b cs ty g sk i hx hi _ => .inr ⟨i, List.mem_of_getElem? hi, rfl⟩) 40 v x) _ _ hrep
                simpa [List.map_map, Function.comp_def] using this
              refine calls_mono (hpf.2 (F.all β) w _ (fun k hk => by
                rcases hk with hk | ⟨i, hi, rfl⟩
                · exact hR.store.fl k hk
                · obtain ⟨b, hb⟩ := List.getElem?_of_mem hi
                  exact hR.store.lt b i hb) hGa hfz) fun e w' he => ?_
              cases e with
              | returned v =>
                obtain ⟨F', h1, h2, av, rfl, h3⟩ := he
                obtain ⟨b1, b2⟩ := beside' hR.store h1
                exact key hm (flat_rep av v (by simpa [FE.flat] using hfl) h3) b1 b2
              | panicked ch =>
                obtain ⟨F', h1, h2, av, v, rfl, rfl, h3⟩ := he
                obtain ⟨b1, b2⟩ := beside' hR.store h1
                exact kpan hm (flat_rep av v (by simpa [FE.flat] using hfl) h3) b1 b2
              | outgrown => exact he.elim
          · exact callIt f _ _ hrun hrep h
          · obtain ⟨fe, hpf, hfp, hm⟩ := h
            unfold Oper.wp
            rw [hrun, Oper.upon_enter]
            obtain ⟨k1, k2⟩ := kill_ok hR.store (reach st.S 1000 (refsL (as.map fun x => x.ev G st.env)) [])
            have hfz : RepL [] (killF (reach st.S 1000 (refsL (as.map fun x => x.ev G st.env)) []) st.S β F) w (as.map fun x => frz (reach st.S 1000 (refsL (as.map fun x => x.ev G st.env)) []).contains 40 st.S (x.ev G st.env)) (c.args.map a.eval).toList := by
              have := RepL.map (fun v x => frz_kill hR.store (reach st.S 1000 (refsL (as.map fun x => x.ev G st.env)) []) 40) _ _ hrep
              simpa [List.map_map, Function.comp_def] using this
            refine calls_mono (hpf.2 _ w _ k1.fl (hR.glob.keep k2 hR.store) hfz) fun e w' he => ?_
            cases e with
            | returned v =>
              obtain ⟨F', h1, h2, av, rfl, h3⟩ := he
              obtain ⟨b1, b2⟩ := beside k1 h1 h2
              exact key hm (Rep.pure _ av v (by simpa [FE.pure] using hfp) h3) b1 (k2.trans b2)
            | panicked ch =>
              obtain ⟨F', h1, h2, av, v, rfl, rfl, h3⟩ := he
              obtain ⟨b1, b2⟩ := beside k1 h1 h2
              exact kpan hm (Rep.pure _ av v (by simpa [FE.pure] using hfp) h3) b1 (k2.trans b2)
            | outgrown => exact he.elim
        · simp only [COp.beh] at h
          have hf := hR.opd (.tmp t) (.t t) rfl
          split at h
          · rename_i f first caps e1
            rw [show (Opd.t t).ev G st.env = .fn f first caps from e1] at hf
            obtain ⟨p, q, hv, hp, hq⟩ := hf
            have hrun := enter_func (P := P) (w := w) (ρ := a.eval) ho hc hv h.1
            refine callIt f _ _ hrun ?_ h
            have hrep := opds_arr hR.opd has
            rw [Array.toList_append, Array.toList_append]
            exact RepL.append (RepL.append hp hrep) hq
          · exact h.elim
      · -- panic
        simp only [COp.beh] at h
        have hv := hR.opd x c hx
        split at h
        · rename_i t v e1
          rw [show c.ev G st.env = .iface t v from e1] at hv
          obtain ⟨y, hy, hr⟩ := hv
          unfold Oper.wp
          have : (execOp a.eval oj).run P w = .halt (.panic (.iface t y)) w := by
            simp only [execOp, ho, hy]
            rfl
          rw [this, Oper.upon_panic]
          exact kpan h ⟨y, rfl, hr⟩ hR.store (Ext.refl _ _ _)
        · exact h.elim
      · -- defer
        simp only [COp.beh] at h
        have hf := hR.opd (.tmp t) (.t t) rfl
        split at h
        · rename_i f first caps e1
          rw [show (Opd.t t).ev G st.env = .fn f first caps from e1] at hf
          obtain ⟨p, q, hv, hp, hq⟩ := hf
          unfold Oper.wp
          have : (execOp a.eval oj).run P w = .ok (.defer { target := .fn (.func f) q, args := p ++ c.args.map a.eval }) w := by
            simp only [execOp, ho, resolve, hc, hv, Deferred.ofValue]
            rfl
          rw [this, Oper.upon_defer]
          refine hn _ β F _ w h hE ⟨?_, hR.store, ?_, hR.glob, by rw [put_size]; exact hR.size⟩
          · exact EnvRel.put (a := { a with defers := { target := .fn (.func f) q, args := p ++ c.args.map a.eval } :: a.defers }) hR.env ⟨#[], rfl, rfl⟩ fun t ht => Nat.lt_of_lt_of_le (hb t ht) hR.size
          · rw [put_defers]
            refine ⟨_, _, q, rfl, rfl, ?_, hR.defs⟩
            have hrep := opds_arr hR.opd has
            rw [Array.toList_append, Array.toList_append]
            exact RepL.append (RepL.append hp hrep) hq
        · exact h.elim
      · -- next
        simp only [COp.beh] at h
        split at h
        · rename_i l hl
          obtain ⟨p, hp, x', w', β', F', hrun, g1, g2, g3⟩ := nextMap_ok (P := P) (ty := oj.type) hR.store (hR.opd x c hx) hl
          unfold Oper.wp
          have : (execOp a.eval oj).run P w = .ok (.value x') w' := by simp only [execOp, ho, Sem.run_bind, hrun, Result.andThen_ok, Sem.run_pure]
          rw [this, Oper.upon_value]
          exact key (h p hp) g1 g2 g3
        · exact h.elim

/-- The operations of a region, in each order. -/
theorem any_sound (hb : ∀ (j : Nat) (o : Oper) (d : Nat), ops[j]? = some o → o.dst = some d → d < nt) : ∀ n listed (st : St) (a : Act) β F w, aAny P pu ops (SX P G) k n listed st → Ext β0 F0 w0 β F w → SRel G nt β F st a w →
    wpAny P .any ops (QK G β0 F0 w0 nt k) n listed a w
  | 0, listed, st, a, β, F, w, h, hE, hR => ⟨h.1, _, st, β, F, h.2, hE, hR, rfl⟩
  | n + 1, listed, st, a, β, F, w, h, hE, hR => ⟨fun hr => ⟨_, st, β, F, h.1 hr, hE, hR, rfl⟩, fun j hj => by
      obtain ⟨oj, cj, h1, h2, h3⟩ := h.2 j hj
      exact step_sound h1 h2 (fun d hd => hb j oj d h1 hd) h3 hE hR fun st' β' F' a' w' hx he hr => any_sound hb n _ st' a' β' F' w' hx he hr⟩

theorem line_sound (hb : ∀ (j : Nat) (o : Oper) (d : Nat), ops[j]? = some o → o.dst = some d → d < nt) : ∀ (l : List Oper) (m : Nat) (t : RT) (st : St) (a : Act) β F w, cOps P pu ops l = some t → (∀ i, ops[m + i]? = l[i]?) → t.wp (SX P G) k st →
    Ext β0 F0 w0 β F w → SRel G nt β F st a w → wpOps P ops (QK G β0 F0 w0 nt k) (List.range' m l.length) a w
  | [], m, t, st, a, β, F, w, ht, _, h, hE, hR => by
    simp [cOps] at ht; subst ht
    exact ⟨_, st, β, F, h, hE, hR, rfl⟩
  | o :: r, m, t, st, a, β, F, w, ht, hl, h, hE, hR => by
    simp only [cOps] at ht
    split at ht
    · rename_i c t' hc ht'
      injection ht with ht; subst ht
      have ho : ops[m]? = some o := by have := hl 0; simpa using this
      rw [List.length_cons, List.range'_succ, wpOps_cons]
      exact step_sound ho hc (fun d hd => hb m o d ho hd) h hE hR fun st' β' F' a' w' hx he hr =>
        line_sound hb r (m + 1) t' st' a' β' F' w' ht' (fun i => by have := hl (i + 1); simpa [Nat.add_assoc, Nat.add_comm 1 i] using this) hx he hr
    · cases ht

theorem reg_sound {t : RT} {id : Nat} {draw : Bool} {st : St} {a : Act} (hm : P.follows .mixedOrders = true) (ht : cReg P pu nt ops draw = some t) (hk : Resp (k .normal)) (h : t.wp (SX P G) k st)
    (hE : Ext β0 F0 w0 β F w) (hR : SRel G nt β F st a w) : (Code.region id ops draw).wp P (QK G β0 F0 w0 nt k) a w := by
  unfold cReg at ht
  split at ht
  · cases ht
  · rename_i hbnd
    have hb : ∀ (j : Nat) (o : Oper) (d : Nat), ops[j]? = some o → o.dst = some d → d < nt := by
      intro j o d hj hd
      simp only [Bool.not_eq_true, Bool.not_eq_false'] at hbnd
      have := Array.all_eq_true_iff_forall_mem.1 hbnd o (Array.mem_of_getElem? hj)
      rw [hd] at this
      simpa using this
    split at ht
    · rename_i hd
      subst hd
      refine wp_region_any hm ?_
      refine any_sound (pu := pu) hb ops.size _ st a β F w.drew ?_ (hE.trans (Ext.drew β F w)) hR.drew
      refine gr_sound SX.mono hk ops.size _ t st ht ?_ h
      intro j o hj hl
      rcases Nat.lt_or_ge j ops.size with h' | h'
      · simp [h'] at hl
      · simp [Array.getElem?_eq_none h'] at hj
    · rename_i hd
      have : draw = false := by simpa using hd
      subst this
      refine wp_region ?_
      have := line_sound (k := k) (β0 := β0) (F0 := F0) (w0 := w0) hb ops.toList 0 t st a β F w ht (fun i => by simp) h hE hR
      rw [List.range_eq_range']
      simpa using this

/-- A loop, with more said of its state. -/
theorem wp_loop_of {σ : Type} {c : Code} {Q : Exit → Act → World → Prop} (I : σ → Act → World → Prop) (m : σ → Nat)
    (round : ∀ s a w, I s a w → c.wp P (Exit.then (fun a' w' => ∃ s', I s' a' w' ∧ m s' < m s) Q) a w) {s : σ} {a : Act} {w : World} (h0 : I s a w) : (Code.loop c).wp P Q a w := by
  intro b k cs
  have key : ∀ n s a w, m s = n → I s a w → ∃ e a' w', Q e a' w' ∧ Arrives P (lone (b.at a (.code c :: .inLoop c :: k)) cs w) b k cs e a' w' := by
    intro n
    induction n using Nat.strongRecOn with
    | _ n ih =>
      intro s a w hn hI
      obtain ⟨e, a1, w1, hq, harr⟩ := round s a w hI b (.inLoop c :: k) cs
      cases e with
      | normal =>
        obtain ⟨s', hI', hlt⟩ := hq
        obtain ⟨e2, a2, w2, hq2, harr2⟩ := ih (m s') (hn ▸ hlt) s' a1 w1 rfl hI'
        exact ⟨e2, a2, w2, hq2, .of_steps (Steps.trans harr (.one step_inLoop)) harr2⟩
      | exit id => exact ⟨_, a1, w1, hq, .pass (x := .inLoop c) rfl (fun _ _ => .inl (by simp)) harr⟩
      | goto l => exact ⟨_, a1, w1, hq, .pass (x := .inLoop c) rfl (fun _ _ => .inl (by simp)) harr⟩
      | ret => exact ⟨_, a1, w1, hq, .pass (x := .inLoop c) rfl (fun _ _ => .inl (by simp)) harr⟩
      | panic ch => exact ⟨_, a1, w1, hq, .pass (x := .inLoop c) rfl (fun _ _ => .inl (by simp)) harr⟩
      | outgrown => exact ⟨_, a1, w1, hq, .pass (x := .inLoop c) rfl (fun _ _ => .inl (by simp)) harr⟩
  obtain ⟨e, a', w', hq, harr⟩ := key _ s a w rfl h0
  exact ⟨e, a', w', hq, .of_steps (.one step_loop) harr⟩

theorem prune_congr {e e' : Env} (h : EnvEq e e') : ∀ l : List Nat, e.prune l = e'.prune l
  | [] => rfl
  | i :: r => by simp only [Env.prune, h i, prune_congr h r]

theorem EnvRel.prune {e : Env} {ρ : Nat → Value} (h : EnvRel β F w e ρ) : ∀ l : List Nat, EnvRel β F w (e.prune l) ρ
  | [] => fun i => trivial
  | j :: r => fun i => by
    simp only [Env.prune, Env.get]
    split
    · rename_i hij; subst hij; exact h i
    · exact EnvRel.prune h r i

/-- Code. -/
theorem code_sound (hm : P.follows .mixedOrders = true) {kt : Nat → List Nat × Bool} : ∀ (c : Code) (cc : CC) (k : K) (st : St) (a : Act) β F w, cCode P pu nt kt c = some cc → cc.wp (SX P G) k st →
    Ext β0 F0 w0 β F w → SRel G nt β F st a w → c.wp P (QK G β0 F0 w0 nt k) a w := by
  intro c
  induction c with
  | skip =>
    intro cc k st a β F w hc h hE hR
    simp only [cCode, Option.some.injEq] at hc; subst hc
    exact wp_skip ⟨_, st, β, F, h, hE, hR, rfl⟩
  | region id ops draw =>
    intro cc k st a β F w hc h hE hR
    simp only [cCode] at hc
    obtain ⟨t, ht, rfl⟩ := Option.map_eq_some_iff.1 hc
    refine wp_mono (reg_sound hm ht ?_ h hE hR) ?_
    · intro e e' S D he hx
      simp only [K.pruned] at hx ⊢
      rw [← prune_congr he]; exact hx
    · rintro e a' w' ⟨ex, st', β', F', hx, hE', hR', hex⟩
      cases ex with
      | normal =>
        simp only [K.pruned] at hx
        split at hx
        · obtain ⟨k1, k2⟩ := kill_ok hR'.store ((List.range st'.S.length).filter fun b => !(reach st'.S 1000 (refsL ((st'.env.prune (kt id).1).map (·.2)) ++ refsL (st'.D.map fun d => .tup d.2)) []).contains b)
          have hk := k2.keeps hR'.store
          exact ⟨_, _, _, _, hx, hE'.trans k2, ⟨(hR'.env.prune _).keep hk, k1, hR'.defs.keep hk, hR'.glob.keep k2 hR'.store, hR'.size⟩, hex⟩
        · exact ⟨_, _, β', F', hx, hE', ⟨hR'.env.prune _, hR'.store, hR'.defs, hR'.glob, hR'.size⟩, hex⟩
      | exit id => exact ⟨_, _, β', F', hx, hE', hR', hex⟩
      | ret => exact ⟨_, _, β', F', hx, hE', hR', hex⟩
      | panic v => exact ⟨_, _, β', F', hx, hE', hR', hex⟩
  | seq x y ihx ihy =>
    intro cc k st a β F w hc h hE hR
    simp only [cCode] at hc
    split at hc
    · rename_i cx cy hx hy
      injection hc with hc; subst hc
      refine wp_seq (wp_mono (ihx cx _ st a β F w hx h hE hR) ?_)
      rintro e a' w' ⟨ex, st', β', F', hx', hE', hR', hex⟩
      cases ex with
      | normal => subst hex; exact ihy cy k st' a' β' F' w' hy hx' hE' hR'
      | exit id => subst hex; exact ⟨_, st', β', F', hx', hE', hR', rfl⟩
      | ret => subst hex; exact ⟨_, st', β', F', hx', hE', hR', rfl⟩
      | panic v => obtain ⟨y', rfl, hv⟩ := hex; exact ⟨_, st', β', F', hx', hE', hR', y', rfl, hv⟩
    · cases hc
  | cond x c1 c2 ih1 ih2 =>
    intro cc k st a β F w hc h hE hR
    simp only [cCode] at hc
    split at hc
    · rename_i cx d1 d2 hx h1 h2
      injection hc with hc; subst hc
      obtain ⟨t, ht, hw1, hw2⟩ := h
      have hv := hR.opd x cx hx
      rw [show cx.ev G st.env = .bool t from ht] at hv
      exact wp_cond_split (bool_rep hv) (fun h' => ih1 d1 k st a β F w h1 (hw1 h') hE hR) (fun h' => ih2 d2 k st a β F w h2 (hw2 h') hE hR)
    · cases hc
  | block id c ih =>
    intro cc k st a β F w hc h hE hR
    simp only [cCode] at hc
    obtain ⟨d, hd, rfl⟩ := Option.map_eq_some_iff.1 hc
    refine wp_block (wp_mono (ih d _ st a β F w hd h hE hR) ?_)
    rintro e a' w' ⟨ex, st', β', F', hx', hE', hR', hex⟩
    cases ex with
    | normal => subst hex; exact ⟨_, st', β', F', hx', hE', hR', rfl⟩
    | exit j =>
      subst hex
      simp only [K.inBlock] at hx'
      simp only [Exit.inBlock]
      split at hx'
      · rename_i hj; rw [if_pos hj]; exact ⟨_, st', β', F', hx', hE', hR', rfl⟩
      · rename_i hj; rw [if_neg hj]; exact ⟨_, st', β', F', hx', hE', hR', rfl⟩
    | ret => subst hex; exact ⟨_, st', β', F', hx', hE', hR', rfl⟩
    | panic v => obtain ⟨y', rfl, hv⟩ := hex; exact ⟨_, st', β', F', hx', hE', hR', y', rfl, hv⟩
  | loop c ih =>
    intro cc k st a β F w hc h hE hR
    simp only [cCode] at hc
    obtain ⟨d, hd, rfl⟩ := Option.map_eq_some_iff.1 hc
    obtain ⟨I, m, h0, hround⟩ := h
    refine wp_loop_of (σ := St) (fun s a' w' => I s ∧ ∃ β' F', Ext β0 F0 w0 β' F' w' ∧ SRel G nt β' F' s a' w') m ?_ ⟨h0, β, F, hE, hR⟩
    rintro s a' w' ⟨hI, β', F', hE', hR'⟩
    refine wp_mono (ih d _ s a' β' F' w' hd (hround s hI) hE' hR') ?_
    rintro e a2 w2 ⟨ex, st', β2, F2, hx', hE2, hR2, hex⟩
    cases ex with
    | normal => subst hex; exact ⟨st', ⟨hx'.1, β2, F2, hE2, hR2⟩, hx'.2⟩
    | exit id => subst hex; exact ⟨_, st', β2, F2, hx', hE2, hR2, rfl⟩
    | ret => subst hex; exact ⟨_, st', β2, F2, hx', hE2, hR2, rfl⟩
    | panic v => obtain ⟨y', rfl, hv⟩ := hex; exact ⟨_, st', β2, F2, hx', hE2, hR2, y', rfl, hv⟩
  | exit id =>
    intro cc k st a β F w hc h hE hR
    simp only [cCode, Option.some.injEq] at hc; subst hc
    exact wp_exit ⟨_, st, β, F, h, hE, hR, rfl⟩
  | ret =>
    intro cc k st a β F w hc h hE hR
    simp only [cCode, Option.some.injEq] at hc; subst hc
    exact wp_ret ⟨_, st, β, F, h, hE, hR, rfl⟩
  | scope c ih =>
    intro cc k st a β F w hc h hE hR
    simp only [cCode] at hc
    obtain ⟨d, hd, rfl⟩ := Option.map_eq_some_iff.1 hc
    refine wp_scope_straight (wp_mono (ih d k st a β F w hd h hE hR) ?_)
    rintro e a' w' ⟨ex, st', β', F', hx', hE', hR', hex⟩
    cases ex with
    | normal => subst hex; exact ⟨_, st', β', F', hx', hE', hR', rfl⟩
    | exit j => subst hex; exact ⟨_, st', β', F', hx', hE', hR', rfl⟩
    | ret => subst hex; exact ⟨_, st', β', F', hx', hE', hR', rfl⟩
    | panic v => obtain ⟨y', rfl, hv⟩ := hex; exact ⟨_, st', β', F', hx', hE', hR', y', rfl, hv⟩
  | label l =>
    intro cc k st a β F w hc h hE hR
    simp only [cCode, Option.some.injEq] at hc; subst hc
    exact wp_label ⟨_, st, β, F, h, hE, hR, rfl⟩
  | _ =>
    intro cc k st a β F w hc h hE hR
    simp only [cCode, Option.some.injEq] at hc
    subst hc
    exact h.elim

end Go.AM

set_option linter.unusedSimpArgs false
set_option linter.unusedVariables false
namespace Go.AM

variable {P : Program} {pu : Nat → Nat} {G : Globs} {k : K} {D : List (Nat × List AV)} {ops : Array Oper}
variable {β β' β0 : Beta} {F F' F0 : Fz} {w w' w0 : World} {S S' : Store} {nt : Nat}

theorem ofArgs_rel : ∀ (l : List AV) (vs : List Value) (n : Nat), RepL β F w l vs → ∀ i, Rep β F w ((Env.ofArgs n l).get i) (if n ≤ i then vs.getD (i - n) undef else undef)
  | [], _, _, _, i => trivial
  | v :: r, _, n, ⟨x, xs, rfl, h1, h2⟩, i => by
    simp only [Env.ofArgs, Env.get]
    by_cases h : i = n
    · subst h; rw [if_pos rfl, if_pos (Nat.le_refl _), Nat.sub_self]; exact h1
    · rw [if_neg h]
      have := ofArgs_rel r xs (n + 1) h2 i
      by_cases h3 : n + 1 ≤ i
      · rw [if_pos h3] at this
        rw [if_pos (by omega), show i - n = (i - (n + 1)) + 1 by omega]
        simpa using this
      · rw [if_neg h3] at this
        have hget : ∀ (l : List AV) (m i : Nat), i < m → (Env.ofArgs m l).get i = .top := by
          intro l
          induction l with
          | nil => intro m i _; rfl
          | cons y l ih =>
            intro m i hm
            simp only [Env.ofArgs, Env.get]
            rw [if_neg (by omega)]; exact ih _ _ (by omega)
        rw [hget r (n + 1) i (by omega)]
        trivial

/-- What is done with a function's ends. -/
def retK (res : List RV) (R : FK) : K
  | .normal, st | .ret, st => st.D = [] ∧ ∃ vs, retVs st.S st.env res = some vs ∧ R (.ret (retOf vs)) st.S
  | .panic v, st => st.D = [] ∧ R (.panic v) st.S
  | .exit _, _ => False

/-- The function's code is so. -/
def Is (P : Program) (pu : Nat → Nat) (f : Nat) (cf : CFn) : Prop := ∃ kt fn, P.funcs[f]? = some fn ∧ cFn P pu kt fn = some cf

theorem results_list {st : St} {a : Act} (hR : SRel G nt β F st a w) (q : ResultVar → Sem Value) (q1 : ∀ t, q (.tmp t) = pure (a.tmps.getD t undef)) (q2 : ∀ x t, q (.cell x t) = do loadVar t (← asAddr (a.tmps.getD x undef))) :
    ∀ (l : List ResultVar) (res : List RV) (vs : List AV), cRes P l = some res → retVs st.S st.env res = some vs →
    ∃ xs, (l.mapM q).run P w = .ok xs w ∧ RepL β F w vs xs
  | [], res, vs, h, hv => by
    simp [cRes] at h; subst h; simp [retVs] at hv; subst hv
    exact ⟨[], rfl, rfl⟩
  | .tmp t :: r, res, vs, h, hv => by
    simp only [cRes] at h
    obtain ⟨r', hr', rfl⟩ := Option.map_eq_some_iff.1 h
    simp only [retVs] at hv
    obtain ⟨vs', hvs', rfl⟩ := Option.map_eq_some_iff.1 hv
    obtain ⟨xs, h1, h2⟩ := results_list hR q q1 q2 r r' vs' hr' hvs'
    refine ⟨a.tmps.getD t undef :: xs, ?_, _, _, rfl, hR.env t, h2⟩
    simp only [List.mapM_cons, q1, Sem.run_bind, Sem.run_pure, Result.andThen_ok, h1]
  | .cell x t :: r, res, vs, h, hv => by
    simp only [cRes] at h
    split at h
    · rename_i n g l hn hg hl
      injection h with h; subst h
      simp only [retVs] at hv
      split at hv
      · rename_i v vs' hv' hvs'
        injection hv with hv; subst hv
        obtain ⟨xs, h1, h2⟩ := results_list hR q q1 q2 r l vs' hl hvs'
        obtain ⟨y, hy, hr⟩ := load_run (P := P) hR.store hn hg (hR.env x) hv'
        refine ⟨y :: xs, ?_, _, _, rfl, hr, h2⟩
        have hp : ∃ p, a.tmps.getD x undef = .pointer (some p) := by
          have hr := hR.env x
          generalize st.env.get x = q at hv' hr
          cases q <;> simp only [loadV] at hv' <;> (try (cases hv'; done))
          · obtain ⟨_, p, _, _, h3, _⟩ := hr; exact ⟨p, h3⟩
          · obtain ⟨_, _, h3, _⟩ := hr; exact ⟨_, h3⟩
        obtain ⟨p, hp⟩ := hp
        have hy' : (loadVar t p).run P w = .ok y w := by
          have h' := hy
          simp only [] at h'
          rw [hp] at h'
          simpa [Instr.loadAt, sureAddr_run] using h'
        have hq : (q (.cell x t)).run P w = .ok y w := by
          rw [q2, hp]
          simpa [asAddr] using hy'
        simp only [List.mapM_cons, Sem.run_bind, hq, Result.andThen_ok, h1, Sem.run_pure]
      · cases hv
    · cases h

theorem results_run {st : St} {a : Act} {fn : Func} {res : List RV} {vs : List AV} (hR : SRel G nt β F st a w) (h : cRes P fn.results.toList = some res) (hv : retVs st.S st.env res = some vs) :
    ∃ x, (results fn a.tmps).run P w = .ok x w ∧ Rep β F w (retOf vs) x := by
  obtain ⟨xs, h1, h2⟩ := results_list hR (fun
    | .tmp t => pure (a.tmps.getD t undef)
    | .cell x t => do loadVar t (← asAddr (a.tmps.getD x undef))) (fun _ => rfl) (fun _ _ => rfl) _ _ _ h hv
  have hl : xs.length = vs.length := RepL.length h2
  refine ⟨if h : xs.toArray.size = 1 then xs.toArray[0] else .tuple xs.toArray, ?_, ?_⟩
  · show ((fn.results.mapM (m := Sem) fun
      | .tmp t => pure (a.tmps.getD t undef)
      | .cell x t => do loadVar t (← asAddr (a.tmps.getD x undef))) >>= fun vs => pure (if h : vs.size = 1 then vs[0] else .tuple vs)).run P w = _
    rw [Array.mapM_eq_mapM_toList]
    simp only [Sem.run_bind, Sem.run_map]
    rw [h1]
    rfl
  · match vs, xs, h2 with
    | [v], _, ⟨x, _, rfl, hx, rfl⟩ => simpa [retOf] using hx
    | [], _, rfl => exact ⟨#[], rfl, rfl⟩
    | v :: u :: vs, _, ⟨x, _, rfl, hx, y, r, rfl, hy, hr⟩ =>
      simp only [List.size_toArray, List.length_cons]
      rw [dif_neg (by omega)]
      exact ⟨_, rfl, x, _, rfl, hx, y, r, rfl, hy, hr⟩

theorem fn_sound (hm : P.follows .mixedOrders = true) {f : Nat} {cf : CFn} (hf : Is P pu f cf) {args : List AV} {R : FK} (h : cf.body.wp (SX P G) (retK cf.res R) ⟨Env.ofArgs 0 args, S, []⟩) :
    WpF P G f args S R := by
  obtain ⟨kt, fn, hfn, hc⟩ := hf
  unfold cFn at hc
  split at hc
  · cases hc
  · rename_i hname
    split at hc
    · rename_i c res hb hres
      obtain ⟨b, hb', rfl⟩ := Option.map_eq_some_iff.1 hc
      refine ⟨by simp [callable, hfn, hb]; simpa using hname, fun β F w vals hS hG hA => calls_of_wp hfn hb ?_⟩
      have hR : SRel G fn.ntmps β F ⟨Env.ofArgs 0 args, S, []⟩ { tmps := vals ++ Array.replicate (fn.ntmps - vals.size) undef, defers := [] } w := by
        refine ⟨fun i => ?_, hS, rfl, hG, by simp; omega⟩
        have := ofArgs_rel args vals.toList 0 hA i
        rw [if_pos (Nat.zero_le _), Nat.sub_zero] at this
        have e : (vals ++ Array.replicate (fn.ntmps - vals.size) undef).getD i undef = vals.toList.getD i undef := by
          rw [Array.getD_eq_getD_getElem?, List.getD_eq_getElem?_getD, Array.getElem?_append]
          split
          · simp
          · rename_i hlt
            rw [Array.getElem?_replicate]
            have : vals.toList[i]? = none := by simp; omega
            rw [this]
            split <;> rfl
        simp only [e]
        exact this
      refine wp_mono (code_sound hm c b _ _ _ β F w hb' h (Ext.refl β F w) hR) ?_
      rintro e a' w' ⟨ex, st, β', F', hx, hE, hR', hex⟩
      have fin : (st.D = [] ∧ ∃ vs, retVs st.S st.env res = some vs ∧ R (.ret (retOf vs)) st.S) → a'.defers = [] ∧ ∃ v, (results fn a'.tmps).run P w' = .ok v w' ∧ FERel β F w R (.returned v) w' := by
        rintro ⟨hD, vs, hvs, hr⟩
        have hd := hR'.defs
        rw [hD] at hd
        obtain ⟨x, hx1, hx2⟩ := results_run hR' hres hvs
        exact ⟨hd, x, hx1, β', F', _, _, hr, hx2, hR'.store, hE⟩
      cases ex with
      | normal => subst hex; exact fin hx
      | ret => subst hex; exact fin hx
      | exit id => exact hx.elim
      | panic v =>
        obtain ⟨y, rfl, hy⟩ := hex
        have hd := hR'.defs
        rw [hx.1] at hd
        exact ⟨hd, β', F', v, st.S, y, rfl, hx.2, hy, hR'.store, hE⟩
    · cases hc

theorem FE.frz_pure (n : Nat) (S : Store) (fe : FE) : (fe.frz n S).pure = true := by cases fe <;> exact AM.frz_pure _ _ _ _

/-- From a call on no store at all to a call that leaves the store alone. -/
theorem pf_of_wp {f : Nat} {args : List AV} {fe : FE} {n : Nat} (h : WpF P G f args [] fun e S => e.frz n S = fe) : SPF P G f args fe := by
  refine ⟨h.1, fun F w vals hl hG hA => calls_mono (h.2 [] F w vals ⟨rfl, fun b x i hx => by simp at hx, fun b i hi => by simp at hi, hl, fun b x i hx => by simp at hx, fun b b' x x' i i' hx => by simp at hx⟩ hG hA) ?_⟩
  have fin : ∀ {β' F'} {w' : World} {S' : Store}, StoreRel β' F' w' S' → Ext [] F w β' F' w' → Ext [] F w [] (F'.all β') w' ∧ ∀ k, F'.all β' k → k < w'.heap.size := by
    intro β' F' w' S' hS hE
    refine ⟨⟨hE.size, hE.tape, hE.os, hE.out, hE.frame, fun i hi => by simp at hi, fun k hk => .inl (hE.fz k hk), fun k hk => ?_, fun b i hi => by simp at hi⟩, fun k hk => ?_⟩
    · rcases hk with hk | ⟨i, hi, rfl⟩
      · exact hE.fz' k hk
      · rcases hE.blks i hi with ⟨j, hj, _⟩ | hge
        · simp at hj
        · exact .inr (.inr hge)
    · rcases hk with hk | ⟨i, hi, rfl⟩
      · exact hS.fl k hk
      · obtain ⟨b, hb⟩ := List.getElem?_of_mem hi
        exact hS.lt b i hb
  intro e w' he
  cases e with
  | returned v =>
    obtain ⟨β', F', av, S', h1, h2, h3, h4⟩ := he
    obtain ⟨g1, g2⟩ := fin h3 h4
    exact ⟨_, g1, g2, _, h1.symm, frz_rep h3 (fun k hk => .inl hk) (fun b cs ty g sk i hx hi _ => .inr ⟨i, List.mem_of_getElem? hi, rfl⟩) n av v h2⟩
  | panicked ch =>
    obtain ⟨β', F', av, S', v, h0, h1, h2, h3, h4⟩ := he
    obtain ⟨g1, g2⟩ := fin h3 h4
    exact ⟨_, g1, g2, _, v, h1.symm, h0, frz_rep h3 (fun k hk => .inl hk) (fun b cs ty g sk i hx hi _ => .inr ⟨i, List.mem_of_getElem? hi, rfl⟩) n av v h2⟩
  | outgrown => exact he.elim

/-- How the abstract program is used: a function on no store. -/
theorem pf_sound (hm : P.follows .mixedOrders = true) {f : Nat} {cf : CFn} (hf : Is P pu f cf) {args : List AV} {fe : FE} (n : Nat)
    (h : cf.body.wp (SX P G) (retK cf.res fun e S => e.frz n S = fe) ⟨Env.ofArgs 0 args, [], []⟩) : SPF P G f args fe := pf_of_wp (fn_sound hm hf h)

end Go.AM

namespace Go.AM

mutual
def eqA : AV → AV → Bool
  | .top, .top => true
  | .int k m, .int j n => decide (k = j) && m == n
  | .bool a, .bool b => a == b
  | .str a, .str b => a == b
  | .np, .np => true
  | .ptr b g o, .ptr b' g' o' => b == b' && g == g' && o == o'
  | .fptr a, .fptr b => eqL a b
  | .nsl, .nsl => true
  | .esl, .esl => true
  | .sl b g o s l c, .sl b' g' o' s' l' c' => b == b' && g == g' && o == o' && s == s' && l == l' && c == c'
  | .fsl a n, .fsl b m => n == m && eqL a b
  | .nmap, .nmap => true
  | .map b g, .map b' g' => b == b' && g == g'
  | .fn f a b, .fn f' a' b' => f == f' && eqL a a' && eqL b b'
  | .nfn, .nfn => true
  | .iface t v, .iface t' v' => t == t' && eqA v v'
  | .nif, .nif => true
  | .agg a, .agg b => eqL a b
  | .tup a, .tup b => eqL a b
  | _, _ => false
def eqL : List AV → List AV → Bool
  | [], [] => true
  | a :: r, b :: s => eqA a b && eqL r s
  | _, _ => false
end

def eqE : Env → Env → Bool
  | [], [] => true
  | (i, a) :: r, (j, b) :: s => i == j && eqA a b && eqE r s
  | _, _ => false

def eqEs : List (AV × AV × Nat) → List (AV × AV × Nat) → Bool
  | [], [] => true
  | (a, b, i) :: r, (c, d, j) :: s => i == j && eqA a c && eqA b d && eqEs r s
  | _, _ => false

def eqB : Box → Box → Bool
  | .cells a t g s, .cells b t' g' s' => t == t' && g == g' && s == s' && eqL a b
  | .map a t g, .map b t' g' => t == t' && g == g' && eqEs a b
  | .miter m s e l, .miter m' s' e' l' => m == m' && s == s' && e == e' && l == l'
  | .siter s p, .siter s' p' => p == p' && s == s'
  | .dead g, .dead g' => g == g'
  | _, _ => false

def eqS : Store → Store → Bool
  | [], [] => true
  | a :: r, b :: s => eqB a b && eqS r s
  | _, _ => false

def eqX : Ex → Ex → Bool
  | .normal, .normal => true
  | .exit i, .exit j => i == j
  | .ret, .ret => true
  | .panic v, .panic u => eqA v u
  | _, _ => false

def eqD : List (Nat × List AV) → List (Nat × List AV) → Bool
  | [], [] => true
  | (f, a) :: r, (g, b) :: s => f == g && eqL a b && eqD r s
  | _, _ => false

def eqP (p q : Ex × St) : Bool := eqX p.1 q.1 && eqE p.2.env q.2.env && eqS p.2.S q.2.S && eqD p.2.D q.2.D

abbrev Outs := Option (List (Ex × St))

def collect {α β : Type} (f : α → Option (List β)) : List α → Option (List β)
  | [] => some []
  | a :: r => match f a with
    | none => none
    | some l => match collect f r with
      | none => none
      | some m => some (l ++ m)

def dedup : List (Ex × St) → List (Ex × St)
  | [] => []
  | p :: r => if r.any (eqP p) then dedup r else p :: dedup r

/-- How an operation ends. -/
inductive OE where
  | val (v : AV) (S : Store) (D : List (Nat × List AV))
  | pan (v : AV) (S : Store)

/-- What runs a call, and a call that leaves the store alone. -/
structure Rn where
  G : Globs
  call : Nat → List AV → Store → Option (List (FE × Store))
  pc : Nat → List AV → Option FE

def feOE (D : List (Nat × List AV)) (p : FE × Store) : OE := match p.1 with
  | .ret v => .val v p.2 D
  | .panic v => .pan v p.2

def COp.outs (R : Rn) (e : Env) (S : Store) (D : List (Nat × List AV)) : COp → Option (List OE)
  | .call f args => (R.call f (args.map (·.ev R.G e)) S).map (·.map (feOE D))
  | .pcall f args => if pureL (args.map (·.ev R.G e)) then match R.pc f (args.map (·.ev R.G e)) with
      | some fe => if fe.pure then some [feOE D (fe, S)] else none
      | none => none
    else match R.pc f (args.map fun x => frz yes 40 S (x.ev R.G e)) with
      | some fe => if fe.flat then some [feOE D (fe, S)] else none
      | none => none
  | .kcall f args => match R.pc f (args.map fun x => frz (reach S 1000 (refsL (args.map (·.ev R.G e))) []).contains 40 S (x.ev R.G e)) with
      | some fe => if fe.pure then some [feOE D (fe, killed (reach S 1000 (refsL (args.map (·.ev R.G e))) []) 0 S)] else none
      | none => none
  | .callV x args => match x.ev R.G e with
    | .fn f first caps => (R.call f (first ++ args.map (·.ev R.G e) ++ caps) S).map (·.map (feOE D))
    | _ => none
  | .pan x => match x.ev R.G e with
    | .iface t v => some [.pan (.iface t v) S]
    | _ => none
  | .recov => none
  | .defer x args => match x.ev R.G e with
    | .fn f first caps => some [.val (.tup []) S ((f, first ++ args.map (·.ev R.G e) ++ caps) :: D)]
    | _ => none
  | .nxt false x => (nextMap S (x.ev R.G e)).map (·.map fun p => .val p.1 p.2 D)
  | o => match o.ev R.G e S with
    | some (v, S') => some [.val v S' D]
    | none => none

def RT.run (R : Rn) : RT → St → Outs
  | .done, st => some [(.normal, st)]
  | .alt a b, st => match a.run R st with
    | none => none
    | some l => match b.run R st with
      | none => none
      | some m => some (l ++ m)
  | .op i r, st => match i.on st.env with
    | none => none
    | some false => r.run R ⟨st.env.set i.dst (.tup []), st.S, st.D⟩
    | some true => match i.op.outs R st.env st.S st.D with
      | none => none
      | some l => collect (fun
        | .val v S' D' => r.run R ⟨st.env.set i.dst v, S', D'⟩
        | .pan v S' => some [(.panic v, ⟨[], S', st.D⟩)]) l

def prn (keep : List Nat) (gc : Bool) (p : Ex × St) : Ex × St := match p.1 with
  | .normal => (.normal, ⟨p.2.env.prune keep, if gc then gcS (p.2.env.prune keep) p.2.D p.2.S else p.2.S, p.2.D⟩)
  | x => (x, p.2)

def iter (body : St → Outs) : Nat → St → Outs
  | 0, _ => none
  | n + 1, st => match body st with
    | none => none
    | some l => collect (fun p => match p.1 with
      | .normal => iter body n p.2
      | x => some [(x, p.2)]) l

def CC.run (R : Rn) (lf : Nat) : CC → St → Outs
  | .skip, st => some [(.normal, st)]
  | .reg t keep gc, st => (t.run R st).map fun l => dedup (l.map (prn keep gc))
  | .seq a b, st => match a.run R lf st with
    | none => none
    | some l => collect (fun p => match p.1 with
      | .normal => b.run R lf p.2
      | x => some [(x, p.2)]) l
  | .cond x a b, st => match x.ev R.G st.env with
    | .bool true => a.run R lf st
    | .bool false => b.run R lf st
    | _ => none
  | .block id b, st => (b.run R lf st).map (·.map fun p => match p.1 with
    | .exit j => if j = id then (.normal, p.2) else p
    | _ => p)
  | .loop b, st => iter (b.run R lf) lf st
  | .exit id, st => some [(.exit id, st)]
  | .ret, st => some [(.ret, st)]
  | .scope b, st => b.run R lf st
  | .label _, st => some [(.normal, st)]
  | .stop, _ => none

end Go.AM
namespace Go.AM

structure Tb where
  G : Globs
  fn : Nat → Option CFn
  pf : Nat → List AV → Option FE
  tr : Nat → Option (Nat × Nat)

def endOf (res : List RV) (p : Ex × St) : Option (List (FE × Store)) :=
  match p.1 with
  | .normal | .ret => match p.2.D, retVs p.2.S p.2.env res with
    | [], some vs => some [(.ret (retOf vs), p.2.S)]
    | _, _ => none
  | .panic v => match p.2.D with
    | [] => some [(.panic v, p.2.S)]
    | _ => none
  | .exit _ => none

def eqFE : FE → FE → Bool
  | .ret a, .ret b => eqA a b
  | .panic a, .panic b => eqA a b
  | _, _ => false

def oneFE (n : Nat) : List (FE × Store) → Option FE
  | [] => none
  | p :: r => let fe := p.1.frz n p.2
    if r.all (fun q => eqFE (q.1.frz n q.2) fe) then some fe else none

/-- A call that recovers: what it calls, and its own cell. -/
def tryEnd (b thrown : Nat) (p : FE × Store) : Option (List (FE × Store)) :=
  match p.1 with
  | .ret _ => (boxWr p.2 b 0 0 [.int .i64 0]).map fun S => [(.ret (.int .i64 0), S)]
  | .panic (.iface t (.int k n)) => if t = thrown then (boxWr p.2 b 0 0 [.int k n]).map fun S => [(.ret (.int k n), S)] else none
  | .panic _ => none

mutual
def Tb.call (T : Tb) : Nat → Nat → List AV → Store → Option (List (FE × Store))
  | 0, _, _, _ => none
  | n + 1, f, args, S => match T.tr f with
    | some (cty, thrown) => match args with
      | [.fn g first caps] => match Tb.call T n g (first ++ caps) (S ++ [.cells [.int .i64 0] cty 0 false]) with
        | none => none
        | some l => collect (tryEnd S.length thrown) l
      | _ => none
    | none => match T.fn f with
      | none => none
      | some cf => match cf.body.run ⟨T.G, Tb.call T n, Tb.pc T n⟩ 100000 ⟨Env.ofArgs 0 args, S, []⟩ with
        | none => none
        | some l => collect (endOf cf.res) l
def Tb.pc (T : Tb) : Nat → Nat → List AV → Option FE
  | 0, _, _ => none
  | n + 1, f, args => match T.pf f args with
    | some fe => some fe
    | none => match Tb.call T n f args [] with
      | none => none
      | some l => oneFE 40 l
end

end Go.AM

set_option linter.unusedSimpArgs false
set_option linter.unusedVariables false
namespace Go.AM

mutual
theorem eqA_sound : ∀ (a b : AV), eqA a b = true → a = b
  | .fptr a, b, h => by cases b <;> simp only [eqA, Bool.false_eq_true] at h; rw [eqL_sound _ _ h]
  | .fsl a n, b, h => by
    cases b <;> simp only [eqA, Bool.false_eq_true, Bool.and_eq_true, beq_iff_eq] at h
    rw [h.1, eqL_sound _ _ h.2]
  | .fn f a c, b, h => by
    cases b <;> simp only [eqA, Bool.false_eq_true, Bool.and_eq_true, beq_iff_eq] at h
    rw [h.1.1, eqL_sound _ _ h.1.2, eqL_sound _ _ h.2]
  | .iface t v, b, h => by
    cases b <;> simp only [eqA, Bool.false_eq_true, Bool.and_eq_true, beq_iff_eq] at h
    rw [h.1, eqA_sound _ _ h.2]
  | .agg a, b, h => by cases b <;> simp only [eqA, Bool.false_eq_true] at h; rw [eqL_sound _ _ h]
  | .tup a, b, h => by cases b <;> simp only [eqA, Bool.false_eq_true] at h; rw [eqL_sound _ _ h]
  | .top, b, h => by cases b <;> simp_all [eqA]
  | .int k m, b, h => by cases b <;> simp_all [eqA]
  | .bool _, b, h => by cases b <;> simp_all [eqA]
  | .str _, b, h => by cases b <;> simp_all [eqA]
  | .np, b, h => by cases b <;> simp_all [eqA]
  | .ptr .., b, h => by cases b <;> simp_all [eqA]
  | .nsl, b, h => by cases b <;> simp_all [eqA]
  | .esl, b, h => by cases b <;> simp_all [eqA]
  | .sl .., b, h => by cases b <;> simp_all [eqA]
  | .nmap, b, h => by cases b <;> simp_all [eqA]
  | .map .., b, h => by cases b <;> simp_all [eqA]
  | .nfn, b, h => by cases b <;> simp_all [eqA]
  | .nif, b, h => by cases b <;> simp_all [eqA]
theorem eqL_sound : ∀ (a b : List AV), eqL a b = true → a = b
  | [], b, h => by cases b <;> simp_all [eqL]
  | a :: r, b, h => by
    cases b with
    | nil => simp [eqL] at h
    | cons b s =>
      simp only [eqL, Bool.and_eq_true] at h
      rw [eqA_sound _ _ h.1, eqL_sound _ _ h.2]
end

theorem eqE_sound : ∀ (a b : Env), eqE a b = true → a = b
  | [], b, h => by cases b <;> simp_all [eqE]
  | (i, a) :: r, b, h => by
    cases b with
    | nil => simp [eqE] at h
    | cons q s =>
      obtain ⟨j, b⟩ := q
      simp only [eqE, Bool.and_eq_true, beq_iff_eq] at h
      rw [h.1.1, eqA_sound _ _ h.1.2, eqE_sound _ _ h.2]

theorem eqEs_sound : ∀ (a b : List (AV × AV × Nat)), eqEs a b = true → a = b
  | [], b, h => by cases b <;> simp_all [eqEs]
  | (a, c, i) :: r, b, h => by
    cases b with
    | nil => simp [eqEs] at h
    | cons q s =>
      obtain ⟨b, d, j⟩ := q
      simp only [eqEs, Bool.and_eq_true, beq_iff_eq] at h
      rw [h.1.1.1, eqA_sound _ _ h.1.1.2, eqA_sound _ _ h.1.2, eqEs_sound _ _ h.2]

theorem eqB_sound : ∀ (a b : Box), eqB a b = true → a = b := by
  intro a b h
  cases a <;> cases b <;> simp only [eqB, Bool.false_eq_true, Bool.and_eq_true, beq_iff_eq] at h
  · rw [h.1.1.1, h.1.1.2, h.1.2, eqL_sound _ _ h.2]
  · rw [h.1.1, h.1.2, eqEs_sound _ _ h.2]
  · rw [h.1.1.1, h.1.1.2, h.1.2, h.2]
  · rw [h.1, h.2]
  · rw [h]

theorem eqS_sound : ∀ (a b : Store), eqS a b = true → a = b
  | [], b, h => by cases b <;> simp_all [eqS]
  | a :: r, b, h => by
    cases b with
    | nil => simp [eqS] at h
    | cons q s =>
      simp only [eqS, Bool.and_eq_true] at h
      rw [eqB_sound _ _ h.1, eqS_sound _ _ h.2]

theorem eqX_sound : ∀ (a b : Ex), eqX a b = true → a = b := by
  intro a b h
  cases a <;> cases b <;> simp only [eqX, Bool.false_eq_true, beq_iff_eq] at h
  · rfl
  · rw [h]
  · rfl
  · rw [eqA_sound _ _ h]

theorem eqD_sound : ∀ (a b : List (Nat × List AV)), eqD a b = true → a = b
  | [], b, h => by cases b <;> simp_all [eqD]
  | (i, a) :: r, b, h => by
    cases b with
    | nil => simp [eqD] at h
    | cons q s =>
      obtain ⟨j, b⟩ := q
      simp only [eqD, Bool.and_eq_true, beq_iff_eq] at h
      rw [h.1.1, eqL_sound _ _ h.1.2, eqD_sound _ _ h.2]

theorem eqP_sound (p q : Ex × St) (h : eqP p q = true) : p = q := by
  obtain ⟨x, e, S, D⟩ := p
  obtain ⟨y, e', S', D'⟩ := q
  simp only [eqP, Bool.and_eq_true] at h
  rw [eqX_sound _ _ h.1.1.1, eqE_sound _ _ h.1.1.2, eqS_sound _ _ h.1.2, eqD_sound _ _ h.2]

theorem eqFE_sound (a b : FE) (h : eqFE a b = true) : a = b := by
  cases a <;> cases b <;> simp only [eqFE, Bool.false_eq_true] at h
  · rw [eqA_sound _ _ h]
  · rw [eqA_sound _ _ h]

theorem dedup_mem : ∀ (l : List (Ex × St)) (p : Ex × St), p ∈ l → p ∈ dedup l
  | [], p, h => by simp at h
  | a :: l, p, h => by
    simp only [dedup]
    rcases List.mem_cons.1 h with rfl | h
    · split
      · rename_i hc
        obtain ⟨q, hq, he⟩ := List.any_eq_true.1 hc
        have := eqP_sound _ _ he
        subst this
        exact dedup_mem l p hq
      · exact List.mem_cons_self
    · split
      · exact dedup_mem l p h
      · exact List.mem_cons_of_mem _ (dedup_mem l p h)

end Go.AM

set_option linter.unusedSimpArgs false
set_option linter.unusedVariables false
namespace Go.AM

variable {P : Program} {pu : Nat → Nat}

theorem collect_mem {α β : Type} {f : α → Option (List β)} : ∀ {l : List α} {m : List β}, collect f l = some m → ∀ a ∈ l, ∃ r, f a = some r ∧ ∀ x ∈ r, x ∈ m
  | [], m, h, a, ha => by simp at ha
  | b :: l, m, h, a, ha => by
    simp only [collect] at h
    split at h
    · cases h
    · rename_i r hr
      split at h
      · cases h
      · rename_i m' hm'
        injection h with h; subst h
        rcases List.mem_cons.1 ha with rfl | ha
        · exact ⟨r, hr, fun x hx => List.mem_append_left _ hx⟩
        · obtain ⟨r', h1, h2⟩ := collect_mem hm' a ha
          exact ⟨r', h1, fun x hx => List.mem_append_right _ (h2 x hx)⟩

structure RnOK (P : Program) (R : Rn) : Prop where
  call : ∀ f args S l, R.call f args S = some l → WpF P R.G f args S fun fe S' => (fe, S') ∈ l
  pc : ∀ f args fe, R.pc f args = some fe → SPF P R.G f args fe

theorem outs_sound {R : Rn} (hR : RnOK P R) {e : Env} {S : Store} {D : List (Nat × List AV)} {o : COp} {l : List OE} (h : o.outs R e S D = some l) {nx : AV → Store → List (Nat × List AV) → Prop} {pn : AV → Store → Prop}
    (hn : ∀ x ∈ l, match x with | .val v S' D' => nx v S' D' | .pan v S' => pn v S') : o.beh (SX P R.G) e S D nx pn := by
  have plain : (match o.ev R.G e S with | some (v, S') => some [OE.val v S' D] | none => none) = some l → (match o.ev R.G e S with | some (v, S') => nx v S' D | none => False) := by
    intro h
    cases hev : o.ev R.G e S with
    | none => rw [hev] at h; cases h
    | some p =>
      rw [hev] at h
      injection h with h; subst h
      exact hn (.val p.1 p.2 D) (by simp)
  have calls : ∀ f args, (R.call f args S).map (·.map (feOE D)) = some l → WpF P R.G f args S (fun
      | .ret v, S' => nx v S' D
      | .panic v, S' => pn v S') := by
    intro f args h
    obtain ⟨m, hm, rfl⟩ := Option.map_eq_some_iff.1 h
    refine WpF.mono (fun fe S' hmem => ?_) (hR.call f args S m hm)
    have := hn (feOE D (fe, S')) (List.mem_map.2 ⟨(fe, S'), hmem, rfl⟩)
    cases fe <;> exact this
  cases o
  case call f args => exact calls f _ h
  case callV x args =>
    simp only [COp.outs] at h
    simp only [COp.beh]
    split at h
    · rename_i f first caps hx
      simp only [show (SX P R.G).G = R.G from rfl, hx]
      exact calls f _ h
    · cases h
  case pcall f args =>
    simp only [COp.outs] at h
    simp only [COp.beh]
    split at h
    · rename_i hp
      split at h
      · rename_i fe hfe
        split at h
        · rename_i hpu
          injection h with h; subst h
          refine ⟨fe, .inl ⟨hp, hR.pc _ _ _ hfe, hpu⟩, ?_⟩
          have := hn (feOE D (fe, S)) (by simp)
          cases fe <;> exact this
        · cases h
      · cases h
    · split at h
      · rename_i fe hfe
        split at h
        · rename_i hfl
          injection h with h; subst h
          refine ⟨fe, .inr ⟨hR.pc _ _ _ hfe, hfl⟩, ?_⟩
          have := hn (feOE D (fe, S)) (by simp)
          cases fe <;> exact this
        · cases h
      · cases h
  case kcall f args =>
    simp only [COp.outs] at h
    simp only [COp.beh]
    split at h
    · rename_i fe hfe
      split at h
      · rename_i hpu
        injection h with h; subst h
        refine ⟨fe, hR.pc _ _ _ hfe, hpu, ?_⟩
        have := hn (feOE D (fe, killed (reach S 1000 (refsL (args.map (·.ev R.G e))) []) 0 S)) (by simp)
        cases fe <;> exact this
      · cases h
    · cases h
  case pan x =>
    simp only [COp.outs] at h
    simp only [COp.beh]
    split at h
    · rename_i t v hx
      injection h with h; subst h
      simp only [show (SX P R.G).G = R.G from rfl, hx]
      exact hn (.pan (.iface t v) S) (by simp)
    · cases h
  case defer x args =>
    simp only [COp.outs] at h
    simp only [COp.beh]
    split at h
    · rename_i f first caps hx
      injection h with h; subst h
      simp only [show (SX P R.G).G = R.G from rfl, hx]
      exact hn (.val (.tup []) S ((f, first ++ args.map (·.ev R.G e) ++ caps) :: D)) (by simp)
    · cases h
  case recov => simp [COp.outs] at h
  case nxt b x =>
    cases b
    · simp only [COp.outs] at h
      simp only [COp.beh]
      obtain ⟨m, hm, rfl⟩ := Option.map_eq_some_iff.1 h
      simp only [show (SX P R.G).G = R.G from rfl, hm]
      exact fun p hp => hn (.val p.1 p.2 D) (List.mem_map.2 ⟨p, hp, rfl⟩)
    · exact plain h
  all_goals exact plain h

theorem rt_run {R : Rn} (hR : RnOK P R) : ∀ (t : RT) (st : St) (l : List (Ex × St)), t.run R st = some l → ∀ k : K, (∀ p ∈ l, k p.1 p.2) → t.wp (SX P R.G) k st
  | .done, st, l, h, k, hk => by
    simp only [RT.run, Option.some.injEq] at h; subst h
    exact hk (.normal, st) (by simp)
  | .alt a b, st, l, h, k, hk => by
    simp only [RT.run] at h
    split at h
    · cases h
    · rename_i l1 h1
      split at h
      · cases h
      · rename_i l2 h2
        injection h with h; subst h
        exact ⟨rt_run hR a st l1 h1 k fun p hp => hk p (List.mem_append_left _ hp), rt_run hR b st l2 h2 k fun p hp => hk p (List.mem_append_right _ hp)⟩
  | .op i r, st, l, h, k, hk => by
    simp only [RT.run] at h
    show i.step (SX P R.G) k (r.wp (SX P R.G) k) st
    unfold CI.step
    split at h
    · cases h
    · rename_i hon
      simp only [hon]
      exact rt_run hR r _ l h k hk
    · rename_i hon
      simp only [hon]
      split at h
      · cases h
      · rename_i os hos
        refine outs_sound hR hos fun x hx => ?_
        obtain ⟨m, hm, hsub⟩ := collect_mem h x hx
        cases x with
        | val v S' D' => exact rt_run hR r _ m hm k fun p hp => hk p (hsub p hp)
        | pan v S' =>
          simp only [Option.some.injEq] at hm; subst hm
          exact hk (.panic v, ⟨[], S', st.D⟩) (hsub _ (by simp))

/-- A loop of at most so many rounds. -/
def LpN (body : K → St → Prop) (k : K) : Nat → St → Prop
  | 0, _ => False
  | n + 1, st => body (k.andThen (LpN body k n)) st

theorem least {p : Nat → Prop} : ∀ n, p n → ∃ m, p m ∧ m ≤ n ∧ ∀ j, p j → m ≤ j := by
  intro n
  induction n using Nat.strongRecOn with
  | _ n ih =>
    intro h
    by_cases hx : ∃ j, j < n ∧ p j
    · obtain ⟨j, hj, hp⟩ := hx
      obtain ⟨m, h1, h2, h3⟩ := ih j hj hp
      exact ⟨m, h1, by omega, h3⟩
    · exact ⟨n, h, Nat.le_refl _, fun j hj => by
        rcases Nat.lt_or_ge j n with h' | h'
        · exact absurd ⟨j, h', hj⟩ hx
        · exact h'⟩

theorem lp_of_n {body : K → St → Prop} (hm : ∀ k k' st, (∀ e st, k e st → k' e st) → body k st → body k' st) {k : K} {n : Nat} {st : St} (h : LpN body k n st) : Lp body k st := by
  classical
  let m : St → Nat := fun s => if hs : ∃ n, LpN body k n s then (Classical.choose (least (p := fun n => LpN body k n s) _ (Classical.choose_spec hs))) else 0
  have hmm : ∀ s n, LpN body k n s → LpN body k (m s) s ∧ m s ≤ n := by
    intro s n hn
    have hs : ∃ n, LpN body k n s := ⟨n, hn⟩
    have hspec := Classical.choose_spec (least (p := fun n => LpN body k n s) _ (Classical.choose_spec hs))
    have he : m s = Classical.choose (least (p := fun n => LpN body k n s) _ (Classical.choose_spec hs)) := by simp only [m]; rw [dif_pos hs]
    rw [he]
    exact ⟨hspec.1, hspec.2.2 n hn⟩
  refine ⟨fun s => ∃ n, LpN body k n s, m, ⟨n, h⟩, fun s hs => ?_⟩
  obtain ⟨n, hn⟩ := hs
  obtain ⟨h1, h2⟩ := hmm s n hn
  cases hms : m s with
  | zero => rw [hms] at h1; exact h1.elim
  | succ j =>
    rw [hms] at h1
    refine hm _ _ s (fun e st' he => ?_) h1
    cases e with
    | normal => exact ⟨⟨j, he⟩, by have := (hmm st' j he).2; omega⟩
    | exit id => exact he
    | ret => exact he
    | panic v => exact he

theorem step_mono2 {X : Cx} (hm : X.Mono) {k k' : K} (hk : ∀ e st, k e st → k' e st) {i : CI} {nx nx' : St → Prop} {st : St} (hn : ∀ st, nx st → nx' st) (h : i.step X k nx st) : i.step X k' nx' st := by
  unfold CI.step at *
  split at h
  · exact h
  · exact hn _ h
  · exact beh_mono hm (fun _ _ _ h => hn _ h) (fun _ _ h => hk _ _ h) h

theorem rt_mono {X : Cx} (hm : X.Mono) : ∀ (t : RT) {k k' : K} (hk : ∀ e st, k e st → k' e st) {st : St}, t.wp X k st → t.wp X k' st
  | .done, k, k', hk, st, h => hk _ _ h
  | .alt a b, k, k', hk, st, h => ⟨rt_mono hm a hk h.1, rt_mono hm b hk h.2⟩
  | .op i r, k, k', hk, st, h => step_mono2 hm hk (fun st h => rt_mono hm r hk h) h

theorem andThen_mono {k k' : K} {n n' : St → Prop} (hk : ∀ e st, k e st → k' e st) (hn : ∀ st, n st → n' st) : ∀ e st, k.andThen n e st → k'.andThen n' e st := by
  intro e st h
  cases e
  · exact hn _ h
  all_goals exact hk _ _ h

theorem cc_mono {X : Cx} (hm : X.Mono) : ∀ (c : CC) {k k' : K} (hk : ∀ e st, k e st → k' e st) {st : St}, c.wp X k st → c.wp X k' st
  | .skip, k, k', hk, st, h => hk _ _ h
  | .reg t keep gc, k, k', hk, st, h => rt_mono hm t (fun e st h => by cases e <;> exact hk _ _ h) h
  | .seq a b, k, k', hk, st, h => cc_mono hm a (andThen_mono hk fun st h => cc_mono hm b hk h) h
  | .cond x a b, k, k', hk, st, ⟨t, h1, h2, h3⟩ => ⟨t, h1, fun h => cc_mono hm a hk (h2 h), fun h => cc_mono hm b hk (h3 h)⟩
  | .block id b, k, k', hk, st, h => cc_mono hm b (fun e st h => by
      cases e
      case exit j => simp only [K.inBlock] at *; split <;> simp_all
      all_goals exact hk _ _ h) h
  | .loop b, k, k', hk, st, ⟨I, m, h0, hr⟩ => ⟨I, m, h0, fun s hs => cc_mono hm b (andThen_mono hk fun _ h => h) (hr s hs)⟩
  | .exit id, k, k', hk, st, h => hk _ _ h
  | .ret, k, k', hk, st, h => hk _ _ h
  | .scope b, k, k', hk, st, h => cc_mono hm b hk h
  | .label _, k, k', hk, st, h => hk _ _ h
  | .stop, k, k', hk, st, h => h

theorem iter_sound {X : Cx} {body : CC} {f : St → Outs} (hf : ∀ st l, f st = some l → ∀ k : K, (∀ p ∈ l, k p.1 p.2) → body.wp X k st) :
    ∀ n st l, iter f n st = some l → ∀ k : K, (∀ p ∈ l, k p.1 p.2) → LpN (body.wp X) k n st
  | 0, st, l, h, k, hk => by simp [iter] at h
  | n + 1, st, l, h, k, hk => by
    simp only [iter] at h
    split at h
    · cases h
    · rename_i l1 h1
      refine hf st l1 h1 _ fun p hp => ?_
      obtain ⟨m, hm, hsub⟩ := collect_mem h p hp
      obtain ⟨x, st'⟩ := p
      cases x with
      | normal => exact iter_sound hf n st' m hm k fun q hq => hk q (hsub q hq)
      | _ =>
        simp only [Option.some.injEq] at hm; subst hm
        exact hk _ (hsub _ List.mem_cons_self)

theorem cc_run {R : Rn} (hR : RnOK P R) (lf : Nat) : ∀ (c : CC) (st : St) (l : List (Ex × St)), c.run R lf st = some l → ∀ k : K, (∀ p ∈ l, k p.1 p.2) → c.wp (SX P R.G) k st
  | .skip, st, l, h, k, hk => by
    simp only [CC.run, Option.some.injEq] at h; subst h; exact hk (.normal, st) List.mem_cons_self
  | .reg t keep gc, st, l, h, k, hk => by
    simp only [CC.run] at h
    obtain ⟨l1, h1, rfl⟩ := Option.map_eq_some_iff.1 h
    refine rt_run hR t st l1 h1 _ fun p hp => ?_
    have := hk _ (dedup_mem _ _ (List.mem_map.2 ⟨p, hp, rfl⟩))
    obtain ⟨x, st'⟩ := p
    cases x <;> exact this
  | .seq a b, st, l, h, k, hk => by
    simp only [CC.run] at h
    split at h
    · cases h
    · rename_i l1 h1
      refine cc_run hR lf a st l1 h1 _ fun p hp => ?_
      obtain ⟨m, hm, hsub⟩ := collect_mem h p hp
      obtain ⟨x, st'⟩ := p
      cases x with
      | normal => exact cc_run hR lf b st' m hm k fun q hq => hk q (hsub q hq)
      | _ =>
        simp only [Option.some.injEq] at hm; subst hm
        exact hk _ (hsub _ List.mem_cons_self)
  | .cond x a b, st, l, h, k, hk => by
    simp only [CC.run] at h
    split at h
    · rename_i hx; exact ⟨true, hx, fun _ => cc_run hR lf a st l h k hk, fun h' => absurd h' (by decide)⟩
    · rename_i hx; exact ⟨false, hx, fun h' => absurd h' (by decide), fun _ => cc_run hR lf b st l h k hk⟩
    · cases h
  | .block id b, st, l, h, k, hk => by
    simp only [CC.run] at h
    obtain ⟨l1, h1, rfl⟩ := Option.map_eq_some_iff.1 h
    refine cc_run hR lf b st l1 h1 _ fun p hp => ?_
    have := hk _ (List.mem_map.2 ⟨p, hp, rfl⟩)
    obtain ⟨x, st'⟩ := p
    cases x with
    | exit j => simp only [K.inBlock] at *; split <;> simp_all
    | _ => exact this
  | .loop b, st, l, h, k, hk => lp_of_n (body := b.wp (SX P R.G)) (fun k k' st hk h => cc_mono SX.mono b hk h) (iter_sound (fun st l h k hk => cc_run hR lf b st l h k hk) lf st l h k hk)
  | .exit id, st, l, h, k, hk => by
    simp only [CC.run, Option.some.injEq] at h; subst h; exact hk (.exit id, st) List.mem_cons_self
  | .ret, st, l, h, k, hk => by
    simp only [CC.run, Option.some.injEq] at h; subst h; exact hk (.ret, st) List.mem_cons_self
  | .scope b, st, l, h, k, hk => cc_run hR lf b st l h k hk
  | .label _, st, l, h, k, hk => by
    simp only [CC.run, Option.some.injEq] at h; subst h; exact hk (.normal, st) List.mem_cons_self
  | .stop, st, l, h, k, hk => by simp [CC.run] at h

end Go.AM

set_option linter.unusedSimpArgs false
set_option linter.unusedVariables false
namespace Go.AM

variable {P : Program} {pu : Nat → Nat}

/-- What is done with the ends of what a recovering call calls. -/
def tryR (b thrown : Nat) (R : FK) : FK := fun fe S =>
  match tryEnd b thrown (fe, S) with
  | some l => ∀ p ∈ l, R p.1 p.2
  | none => False

/-- A function that calls what it is given, and recovers. -/
def TryOK (P : Program) (G : Globs) (f cty thrown : Nat) : Prop :=
  ∀ g first caps S R, WpF P G g (first ++ caps) (S ++ [.cells [.int .i64 0] cty 0 false]) (tryR S.length thrown R) → WpF P G f [.fn g first caps] S R

structure TbOK (P : Program) (pu : Nat → Nat) (T : Tb) : Prop where
  orders : P.follows .mixedOrders = true
  fn : ∀ f cf, T.fn f = some cf → Is P pu f cf
  pf : ∀ f args fe, T.pf f args = some fe → SPF P T.G f args fe
  tr : ∀ f cty th, T.tr f = some (cty, th) → TryOK P T.G f cty th

theorem oneFE_spec {n : Nat} {l : List (FE × Store)} {fe : FE} (h : oneFE n l = some fe) : ∀ p ∈ l, p.1.frz n p.2 = fe := by
  cases l with
  | nil => simp [oneFE] at h
  | cons p r =>
    simp only [oneFE] at h
    split at h
    · rename_i ha
      injection h with h; subst h
      intro q hq
      rcases List.mem_cons.1 hq with rfl | hq
      · rfl
      · exact eqFE_sound _ _ (List.all_eq_true.1 ha q hq)
    · cases h

theorem tb_sound {T : Tb} (hT : TbOK P pu T) : ∀ n, (∀ f args S l, T.call n f args S = some l → WpF P T.G f args S fun fe S' => (fe, S') ∈ l) ∧ (∀ f args fe, T.pc n f args = some fe → SPF P T.G f args fe)
  | 0 => ⟨fun f args S l h => by simp [Tb.call] at h, fun f args fe h => by simp [Tb.pc] at h⟩
  | n + 1 => by
    obtain ⟨ih1, ih2⟩ := tb_sound hT n
    refine ⟨fun f args S l h => ?_, fun f args fe h => ?_⟩
    · simp only [Tb.call] at h
      split at h
      · rename_i cty th htr
        split at h
        · rename_i g first caps
          split at h
          · cases h
          · rename_i l1 h1
            refine hT.tr f cty th htr g first caps S _ (WpF.mono (fun fe S' hmem => ?_) (ih1 _ _ _ _ h1))
            obtain ⟨m, hm, hsub⟩ := collect_mem h _ hmem
            simp only [tryR, hm]
            exact fun p hp => hsub p hp
        · cases h
      · split at h
        · cases h
        · rename_i cf hcf
          split at h
          · cases h
          · rename_i l1 h1
            refine fn_sound hT.orders (hT.fn f cf hcf) (cc_run (R := ⟨T.G, T.call n, T.pc n⟩) ⟨ih1, ih2⟩ _ _ _ l1 h1 _ fun p hp => ?_)
            obtain ⟨m, hm, hsub⟩ := collect_mem h p hp
            obtain ⟨x, st⟩ := p
            have fin : (match st.D, retVs st.S st.env cf.res with | [], some vs => some [(FE.ret (retOf vs), st.S)] | _, _ => none) = some m → st.D = [] ∧ ∃ vs, retVs st.S st.env cf.res = some vs ∧ (FE.ret (retOf vs), st.S) ∈ l := by
              intro hm
              split at hm
              · rename_i vs hD hvs
                injection hm with hm; subst hm
                exact ⟨hD, vs, hvs, hsub _ List.mem_cons_self⟩
              · cases hm
            cases x with
            | normal => exact fin hm
            | ret => exact fin hm
            | panic v =>
              simp only [endOf] at hm
              split at hm
              · rename_i hD
                injection hm with hm; subst hm
                exact ⟨hD, hsub _ List.mem_cons_self⟩
              · cases hm
            | exit id => simp [endOf] at hm
    · simp only [Tb.pc] at h
      split at h
      · rename_i fe' hfe
        injection h with h; subst h
        exact hT.pf f args _ hfe
      · split at h
        · cases h
        · rename_i l hl
          exact pf_of_wp (WpF.mono (fun e S' hmem => oneFE_spec h _ hmem) (ih1 f args [] l hl))

end Go.AM
