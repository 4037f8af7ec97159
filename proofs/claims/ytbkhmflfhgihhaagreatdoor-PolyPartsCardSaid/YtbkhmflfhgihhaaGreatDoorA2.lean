/- copy, lengths, strings and bytes, pointers. -/
import Derived.Test.YtbkhmflfhgihhaaGreatDoorA1
import Derived.Lib.UnsafeStr
import Derived.Laws.Externs
import Derived.Lib.Bytealg
set_option linter.all false

set_option linter.unusedSimpArgs false
set_option linter.unusedVariables false
namespace Go.AM

variable {P : Program} {β : Beta} {F : Fz} {w : World} {S : Store} {G : Globs} {e : Env} {ρ : Operand → Value}

theorem copy_ok (hs : StoreRel β F w S) {T dt el sz : Nat} {ats : Array TypeId} (q0 : ats[0]? = some dt) {isStr : Bool} {dv sv v : AV} {dx sx : Value} {S' : Store} (hdt : P.underlying dt = some (.slice el)) (hn : tSize P el = some sz) (h1 : isStr = true → sz = 1)
    (hd : Rep β F w dv dx) (hsv : Rep β F w sv sx) (h : copyV S sz isStr dv sv = some (v, S')) : VOK P β F w (Builtin.copy_ ats T #[dx, sx]) v S' := by
  unfold copyV at h
  split at h
  · cases h
  · rename_i dl hdl
    obtain ⟨da, dc, rfl, _⟩ := slLen_rep hdl hd
    -- what is copied
    have hsrc : ∀ n cs, (match isStr, sv with
        | true, .str t => some (min t.length dl, u8s (t.take (min t.length dl)))
        | false, v => match slLen v with
          | some n => (slRd S (min n dl * sz) v).map (min n dl, ·)
          | none => none
        | _, _ => none) = some (n, cs) → ∃ m ys, (Builtin.lenOf sx).run P w = .ok m w ∧ n = Nat.min m dl ∧ (Builtin.firstCells sz n sx).run P w = .ok ys.toArray w ∧ RepL β F w cs ys ∧ (∀ y ∈ ys, y.oneCell' = true) := by
      intro n cs hh
      cases isStr with
      | true =>
        cases sv <;> simp at hh
        obtain ⟨rfl, rfl⟩ := hh
        obtain ⟨t, rfl, rfl⟩ := hsv
        have : sz = 1 := h1 rfl
        subst this
        have hm : min t.size dl ≤ t.size := Nat.min_le_left _ _
        obtain ⟨g1, g2⟩ := u8s_rep (β := β) (F := F) (w := w) (t.extract 0 (min t.size dl))
        have he : (t.extract 0 (min t.size dl)).data.toList = t.data.toList.take (min t.size dl) := by
          simp [ByteArray.data_extract, List.extract_eq_take_drop]
        refine ⟨t.size, _, by simp [Builtin.lenOf], by simp, ?_, ?_, g2⟩
        · simp only [Builtin.firstCells, Sem.run_pure]
          congr 1
          apply Array.ext'
          simp
        · rw [he] at g1; simpa [he] using g1
      | false =>
        have h' : (match slLen sv with | some n => (slRd S (min n dl * sz) sv).map (min n dl, ·) | none => none) = some (n, cs) := by
          cases sv <;> exact hh
        split at h'
        · rename_i m hm
          simp only [Option.map_eq_some_iff, Prod.mk.injEq] at h'
          obtain ⟨l, hl, rfl, rfl⟩ := h'
          obtain ⟨a, l', c, ys, rfl, g1, g2, g3, g4⟩ := slRd_run (P := P) hs hsv hl
          obtain ⟨a', c', he, _⟩ := slLen_rep hm hsv
          injection he with _ he _; subst he
          refine ⟨l', ys, by simp [Builtin.lenOf], rfl, ?_, g1, g2⟩
          cases a with
          | none => simp only at g4; subst g4; simp [Builtin.firstCells]
          | some a => simpa [Builtin.firstCells] using g4
        · cases h'
    simp only at h
    split at h
    · cases h
    · rename_i n cs hm
      obtain ⟨m, ys, s1, rfl, s2, s3, s4⟩ := hsrc n cs hm
      have hrun : ∀ r, (match da with | some a => ((storeCells a ys).run P w) | none => .ok () w) = r →
          (Builtin.copy_ ats T #[.slice da dl dc, sx]).run P w = r.andThen fun _ w' => .ok (goInt (Nat.min m dl)) w' := by
        intro r hr
        simp only [Builtin.copy_, q0, List.getElem?_toArray, List.getElem?_cons_zero, List.getElem?_cons_succ, Sem.run_bind, run_underlying hdt, Result.andThen_ok, s1, run_sizeOf hn, s2]
        subst hr
        cases da with
        | none => simp
        | some a => simp only [Sem.run_bind, Sem.run_pure]
      have hcast : goInt (Nat.min m dl) = .int .i64 ((min m dl : Nat) : Int) := rfl
      cases dv <;> simp only [slLen] at hdl <;> (try (cases hdl; done)) <;> simp only at h <;> (try (cases h; done))
      case nsl =>
        injection h with h; injection h with hv hS; subst hv; subst hS
        injection hdl with hdl; subst hdl
        cases hd
        exact VOK.here hs (by rw [hrun _ rfl]; rfl) (by simp [Rep, hcast, goInt])
      case esl =>
        injection h with h; injection h with hv hS; subst hv; subst hS
        injection hdl with hdl; subst hdl
        have hcs : ys = [] := by
          have hl := RepL.length s3
          cases isStr with
          | true =>
            cases sv <;> simp at hm
            obtain ⟨_, rfl⟩ := hm; simpa [u8s] using hl
          | false =>
            have hm' : (match slLen sv with | some n => (slRd S (min n 0 * sz) sv).map (min n 0, ·) | none => none) = some (Nat.min m 0, cs) := by
              cases sv <;> exact hm
            split at hm'
            · simp only [Option.map_eq_some_iff, Prod.mk.injEq] at hm'
              obtain ⟨l, hl', _, rfl⟩ := hm'
              obtain ⟨_, _, _, _, _, _, _, g3, _⟩ := slRd_run (P := P) hs hsv hl'
              simp at g3; subst g3; simpa using hl
            · cases hm'
        subst hcs
        refine VOK.here hs (x := .int .i64 0) ?_ rfl
        rw [hrun (.ok () w) (by cases da <;> simp [storeCells])]
        simp [goInt]
      case sl b g off s' ln cp =>
        simp only [Option.map_eq_some_iff, Prod.mk.injEq] at h
        obtain ⟨S'', hw, rfl, rfl⟩ := h
        obtain ⟨cs0, ty, sk, hb, hle, _⟩ := wr_len (cs := []) hw
        obtain ⟨i, a, c, e1, e2, he, e3, e4, e5⟩ := hd
        injection he with he1 he2 he3; subst he1
        have hgen := (hs.box b _ i hb e1).1
        have ha := (e5 hgen).1; subst ha
        obtain ⟨w', g1, g2, g3⟩ := write_ok (P := P) hs hw e1 hgen.symm s3 s4
        exact ⟨_, w', β, F, by rw [hrun _ rfl]; simp only [g1]; rfl, rfl, g2, g3⟩

theorem bytes_for : ∀ (ys : List Value) (cs : List AV) (s : List UInt8) (acc : ByteArray), unU8 cs = some s → RepL β F w cs ys →
    (forIn ys acc (fun c (r : ByteArray) => (match c with
      | .int .u8 n => pure (ForInStep.yield (r.push (UInt8.ofNat n.toNat)))
      | _ => do
        (stuck "bytesToString: byte expected" : Sem PUnit)
        pure (ForInStep.yield r) : Sem (ForInStep ByteArray)))).run P w = .ok ⟨acc.data ++ s.toArray⟩ w
  | ys, [], s, acc, h, hr => by
    simp [unU8] at h; subst h
    rw [show ys = [] from hr]
    simp
  | ys, c :: cs, s, acc, h, hr => by
    obtain ⟨y, r, rfl, hy, hr⟩ := hr
    obtain ⟨n, rfl⟩ : ∃ n, c = .int .u8 n := by
      cases c <;> first | (simp [unU8] at h; done) | (rename_i k n; cases k <;> first | (simp [unU8] at h; done) | exact ⟨n, rfl⟩)
    simp only [unU8] at h
    simp only [Option.map_eq_some_iff] at h
    obtain ⟨s', hs', rfl⟩ := h
    have hyy := int_rep hy; subst hyy
    simp only [List.forIn_cons, Sem.run_bind, Sem.run_pure, Result.andThen_ok]
    rw [bytes_for r cs s' _ hs' hr]
    congr 1
    simp [ByteArray.push]

theorem b2s_run (hs : StoreRel β F w S) {v : AV} {x : Value} {n : Nat} {s : List UInt8} (hx : Rep β F w v x) (hn : slLen v = some n) (h : (slRd S n v).bind unU8 = some s) :
    ∃ t, (Conv.bytesToString x).run P w = .ok (.string t) w ∧ t.data.toList = s := by
  simp only [Option.bind_eq_some_iff] at h
  obtain ⟨cs, hcs, hu⟩ := h
  obtain ⟨a, l, c, ys, rfl, g1, g2, g3, g4⟩ := slRd_run (P := P) hs hx hcs
  obtain ⟨a', c', he, _⟩ := slLen_rep hn hx
  injection he with _ he _; subst he
  cases a with
  | none =>
    simp only at g4; subst g4
    have : cs = [] := by have := RepL.length g1; simpa using this.symm
    subst this; simp [unU8] at hu; subst hu
    exact ⟨.empty, by simp [Conv.bytesToString], rfl⟩
  | some a =>
    simp only at g4
    have hf := bytes_for (P := P) ys cs s .empty hu g1
    refine ⟨⟨ByteArray.empty.data ++ s.toArray⟩, ?_, by simp⟩
    simp only [Conv.bytesToString, Sem.run_bind, g4, Result.andThen_ok]
    rw [← Array.forIn_toList]
    exact congrArg (fun r : Result ByteArray => r.andThen fun a w' => Result.ok (Value.string a) w') hf

theorem s2b_ok (hs : StoreRel β F w S) {el : Nat} {t : ByteArray} : VOK P β F w (Conv.stringToBytes el t) (.sl S.length 0 0 1 t.data.toList.length none) (S ++ [.cells (u8s t.data.toList) el 0 true]) := by
  obtain ⟨cap, hcap, hq⟩ : ∃ cap, t.size ≤ cap ∧ (choose (.appendCap t.size 0 el)).run P w = .ok cap w.drew := by
    refine ⟨(Question.appendCap t.size 0 el).cut (w.tape w.drawn (.appendCap t.size 0 el)), ?_, ?_⟩
    · show t.size ≤ t.size + _; omega
    · rw [run_choose]; rfl
  obtain ⟨g1, g2⟩ := u8s_rep (β := β) (F := F) (w := w.drew) t
  let a : Array Value := (t.data.map fun b => Value.int .u8 b.toNat) ++ Array.replicate (cap - t.size) (.int .u8 0)
  have hasz : a.size = cap := by simp [a]; omega
  have hal : a.toList = (t.data.toList.map fun b => Value.int .u8 b.toNat) ++ List.replicate (cap - t.size) (.int .u8 0) := by simp [a]
  have hfr : (w.drew.alloc (.cells a el)).freeze ⟨w.heap.size, cap, none⟩ 1 = w.drew.alloc (.cells a el (cap, cap + 1)) := by
    have : ∀ (h : Array Obj) (o o' : Obj) (f : Obj → Obj), f o = o' → (h.push o).modify h.size f = h.push o' := by
      intro h o o' f hf
      apply Array.ext
      · simp
      · intro i h1 h2
        simp only [Array.getElem_modify]
        split
        · rename_i hi; subst hi; simp [hf]
        · rename_i hi
          have : i < h.size := by simp at h1; omega
          rw [Array.getElem_push_lt this, Array.getElem_push_lt this]
    simp only [World.freeze, World.alloc]
    simp only [show ¬ (1 = 0) by omega, if_false]
    congr 1
    exact this _ _ _ _ (by simp)
  have hg : (w.drew.alloc (.cells a el (cap, cap + 1))).heap[w.heap.size]? = some (.cells a el (cap, cap + 1)) := by
    have := heap_alloc (w := w.drew) (.cells a el (cap, cap + 1)) w.heap.size
    rw [this]; exact if_pos rfl
  have hE := Ext.push (β := β) (F := F) (w := w.drew) (.cells a el (cap, cap + 1)) ⟨w.heap.size, 0, cap, 0⟩ rfl
  have hlen : (u8s t.data.toList).length = t.size := by simp [u8s]
  have hS := StoreRel.push (StoreRel.drew hs) (.cells a el (cap, cap + 1)) (.cells (u8s t.data.toList) el 0 true) ⟨w.heap.size, 0, cap, 0⟩ rfl rfl (by
    refine ⟨by simp only [World.shape?, hg, hasz], fun o ho => ?_, by simp only [hlen]; omega, by simp, ?_⟩
    · simp only at ho
      simp only [World.frozen?, hg]; simp; omega
    · refine RepAt.of_list (RepL.keep (hE.keeps (StoreRel.drew hs)) _ _ g1) g2 fun k v hk => ?_
      have hk' : a.toList[k]? = some v := by rw [hal, List.getElem?_append_left (List.getElem?_eq_some_iff.1 hk).1]; exact hk
      have : a[k]? = some v := by rw [← Array.getElem?_toList]; exact hk'
      simp only [World.cell?, hg]; simp [this])
  refine ⟨.slice (some ⟨w.heap.size, 0, none⟩) t.size cap, _, _, F, ?_, ?_, hS, (Ext.drew β F w).trans hE⟩
  · have hsh : (w.drew.alloc (.cells a el)).shape? w.heap.size = some (el, cap) := by
      have := heap_alloc (w := w.drew) (.cells a el) w.heap.size
      rw [show (if w.heap.size = w.drew.heap.size then some (Obj.cells a el) else w.drew.heap[w.heap.size]?) = some (Obj.cells a el) from if_pos rfl] at this
      simp only [World.shape?, this, hasz]
    simp only [Conv.stringToBytes, Sem.run_bind, hq, Result.andThen_ok, newRow, run_newObj, Sem.run_pure, markStringish, run_shape, World.alloc_eq]
    show ((match (w.drew.alloc (.cells a el)).shape? w.heap.size with | some (_, n) => freeze ⟨w.heap.size, n, none⟩ 1 | _ => pure () : Sem Unit).run P (w.drew.alloc (.cells a el))).andThen _ = _
    rw [hsh]
    simp only [run_freeze, Result.andThen_ok, hfr]
    rfl
  · have hsz : t.data.toList.length = t.size := by simp
    rw [hsz]
    exact ⟨⟨w.heap.size, 0, cap, 0⟩, ⟨w.heap.size, 0, none⟩, cap, by rw [hs.len]; simp, Nat.le_refl _, rfl, hcap, by simp, fun _ => ⟨rfl, fun _ => Nat.le_of_eq (by show 0 + 0 + cap * 1 = cap; omega)⟩⟩

theorem ptr_eq_run (hs : StoreRel β F w S) {t el n b g o o' : Nat} {x y : Value} {u z : Operand} {cs : List AV} (ht : P.underlying t = some (.pointer el)) (hn : tSize P el = some (n + 1))
    (hx : Rep β F w (.ptr b g o) x) (hy : Rep β F w (.ptr b g o') y) (hb : boxRd S b g = some cs) :
    ((do eqGuard .eql t u z x y; binOp .eql t x y) : Sem Value).run P w = .ok (.bool (o == o')) w ∧
    ((do eqGuard .neq t u z x y; binOp .neq t x y) : Sem Value).run P w = .ok (.bool (!(o == o'))) w := by
  obtain ⟨_, _, i, _, hi, hgen, _, rfl⟩ := ptr_row hs hx hb
  obtain ⟨_, _, j, _, hj, _, _, rfl⟩ := ptr_row hs hy hb
  rw [hi] at hj; injection hj with hj; subst hj
  have he : (Op.equal t (.pointer (some ⟨i.blk, i.base + o, none⟩)) (.pointer (some ⟨i.blk, i.base + o', none⟩))).run P w = .ok (o == o') w := by
    unfold Op.equal Op.maxDepth
    rw [Op.equalIn]
    simp only [Sem.run_bind, run_underlying ht, Result.andThen_ok, run_sizeOf hn, sameAddr]
    simp
    rw [Bool.eq_iff_iff, beq_iff_eq, beq_iff_eq]
    constructor
    · intro h; injection h with _ h _; omega
    · intro h; rw [h]
  have h1 : ∀ op, (eqGuard op t u z (.pointer (some ⟨i.blk, i.base + o, none⟩)) (.pointer (some ⟨i.blk, i.base + o', none⟩))).run P w = .ok () w := fun op => eqGuard_pass trivial
  have h2 := binOp_eq (P := P) (w := w) (t := t) rfl he
  exact ⟨by simp [h1, h2.1], by simp [h1, h2.2]⟩

theorem ptr_nil_run {t el : Nat} {x y : Value} {u z : Operand} {a b : AV} {r : Bool} (ht : P.underlying t = some (.pointer el)) (hx : Rep β F w a x) (hy : Rep β F w b y)
    (h : (a = .np ∧ b = .np ∧ r = true) ∨ (a = .np ∧ (∃ p q s, b = .ptr p q s) ∧ r = false) ∨ ((∃ p q s, a = .ptr p q s) ∧ b = .np ∧ r = false)) :
    ((do eqGuard .eql t u z x y; binOp .eql t x y) : Sem Value).run P w = .ok (.bool r) w ∧
    ((do eqGuard .neq t u z x y; binOp .neq t x y) : Sem Value).run P w = .ok (.bool (!r)) w := by
  have fin : ∀ p q : Option Addr, eqStep (.pointer el) (.pointer p) (.pointer q) = some r → x = .pointer p → y = .pointer q →
    ((do eqGuard .eql t u z x y; binOp .eql t x y) : Sem Value).run P w = .ok (.bool r) w ∧
    ((do eqGuard .neq t u z x y; binOp .neq t x y) : Sem Value).run P w = .ok (.bool (!r)) w := by
    intro p q he hx hy
    subst hx; subst hy
    have h1 : ∀ op, (eqGuard op t u z (.pointer p) (.pointer q)).run P w = .ok () w := fun op => eqGuard_pass trivial
    have h2 := binOp_eq (P := P) (w := w) (t := t) (x := .pointer p) rfl (equal_step ht he)
    exact ⟨by simp [h1, h2.1], by simp [h1, h2.2]⟩
  rcases h with ⟨rfl, rfl, rfl⟩ | ⟨rfl, ⟨_, _, _, rfl⟩, rfl⟩ | ⟨⟨_, _, _, rfl⟩, rfl, rfl⟩
  · exact fin none none rfl hx hy
  · obtain ⟨_, a, _, _, hy, _⟩ := hy; exact fin none (some a) rfl hx hy
  · obtain ⟨_, a, _, _, hx, _⟩ := hx; exact fin (some a) none rfl hx hy

end Go.AM

set_option linter.unusedSimpArgs false
set_option linter.unusedVariables false
namespace Go.AM

variable {P : Program} {β : Beta} {F : Fz} {w : World} {S : Store} {G : Globs} {e : Env} {ρ : Operand → Value}

theorem shape_of (hs : StoreRel β F w S) {b g : Nat} {cs : List AV} {ty : Nat} {sk : Bool} {i : BI} (hb : S[b]? = some (.cells cs ty g sk)) (hi : β[b]? = some i) :
    i.gen = g ∧ w.shape? i.blk = some (ty, i.size) ∧ BoxRel β F w i (.cells cs ty g sk) := by
  obtain ⟨h1, h2⟩ := hs.box b _ i hb hi
  exact ⟨h1.symm, h2.1, h2⟩

theorem viewAt_none {blk n ty : Nat} (h : w.shape? blk = some (ty, n)) : (viewAt blk).run P w = .ok none w := by
  simp [viewAt, h]

theorem p2u_run (hs : StoreRel β F w S) {s d el n b g off : Nat} {x : Value} {cs : List AV} (hs1 : P.underlying s = some (.pointer el)) (hd : P.underlying d = some .unsafePointer) (hn : tSize P el = some (n + 1))
    (hx : Rep β F w (.ptr b g off) x) (hb : boxRd S b g = some cs) (hlt : off < cs.length) : (Conv.unsafePointer s d x).run P w = .ok x w := by
  obtain ⟨ty, sk, i, h1, hi, hgen, h4, rfl⟩ := ptr_row hs hx hb
  have hsh := h4.1
  have hle := h4.2.2.1
  simp only [Conv.unsafePointer, Sem.run_bind, run_underlying hs1, run_underlying hd, Result.andThen_ok]
  have h5 : (Conv.seenAt ⟨i.blk, i.base + off, none⟩).run P w = .ok ⟨i.blk, i.base + off, none⟩ w := by
    simp [Conv.seenAt, viewAt_none hsh]
  have h6 : (cellsIn i.blk).run P w = .ok (some i.size) w := by simp [cellsIn, hsh]
  simp only [h5, Sem.run_bind, Result.andThen_ok, h6, run_sizeOf hn]
  have : ¬ (i.base + off ≥ i.size) := by omega
  simp [this]

theorem p2u_nil {s d el : Nat} (hs1 : P.underlying s = some (.pointer el)) (hd : P.underlying d = some .unsafePointer) : (Conv.unsafePointer s d (.pointer none)).run P w = .ok (.pointer none) w := by
  simp [Conv.unsafePointer, run_underlying hs1, run_underlying hd]

theorem u2p_nil {s d el : Nat} (hs1 : P.underlying s = some .unsafePointer) (hd : P.underlying d = some (.pointer el)) : (Conv.unsafePointer s d (.pointer none)).run P w = .ok (.pointer none) w := by
  simp [Conv.unsafePointer, run_underlying hs1, run_underlying hd]

theorem lies_here {e u n count off depth : Nat} (hu : e = u) (h0 : P.cellsOf e ≠ 0) (hoff : off % P.cellsOf e = 0) (hle : off / P.cellsOf e + n ≤ count) (hd : P.depth = depth + 1) :
    liesAt P P.depth e count off u n = true := by
  subst hu
  rw [hd]
  simp only [liesAt]
  have : rowAt P (fun x => sameLayout P P.depth x e) P.depth e count off n = true := by
    rw [hd]
    simp only [rowAt, h0, if_false]
    have hsl : sameLayout P (depth + 1) e e = true := by simp [sameLayout]
    simp [hoff, hle, hsl]
  rw [hd] at this ⊢
  simp [this]

theorem depth_succ : ∃ d, P.depth = d + 1 := ⟨2 * (P.types.size + Made.depth) + 1, by simp [Program.depth]⟩

theorem cells_size {t n : Nat} (h : tSize P t = some n) : P.cellsOf t = n := by
  unfold tSize at h
  simp [Program.cellsOf, h]

theorem u2p_run (hs : StoreRel β F w S) {s d u n b g : Nat} {x : Value} {cs : List AV} (hs1 : P.underlying s = some .unsafePointer) (hd : P.underlying d = some (.pointer u)) (hn : tSize P u = some (n + 1))
    (hx : Rep β F w (.ptr b g 0) x) (hb : S[b]? = some (.cells cs u g false)) (hlen : n + 1 ≤ cs.length) : (Conv.unsafePointer s d x).run P w = .ok x w := by
  obtain ⟨ty, sk, i, h1, hi, hgen, h4, rfl⟩ := ptr_row hs hx (show boxRd S b g = some cs by simp [boxRd, hb])
  rw [hb] at h1; injection h1 with h1; injection h1 with _ h1 _ h2; subst h1; subst h2
  have hsh := h4.1
  obtain ⟨hbase, hsize⟩ := h4.2.2.2.1 rfl
  obtain ⟨dd, hdd⟩ := depth_succ (P := P)
  have hc := cells_size hn
  have h5 : (Conv.seenAt ⟨i.blk, i.base + 0, none⟩).run P w = .ok ⟨i.blk, i.base + 0, none⟩ w := by
    simp [Conv.seenAt, viewAt_none hsh]
  have h6 : (variablesAt ⟨i.blk, i.base + 0, none⟩ u 1).run P w = .ok true w := by
    simp only [variablesAt, Sem.run_bind, run_program, Result.andThen_ok, run_shape, hsh, Sem.run_pure, hbase]
    rw [lies_here (e := u) (u := u) rfl (by rw [hc]; omega) (by simp) (by rw [hc]; simp; exact Nat.div_pos (by omega) (by omega)) hdd]
  simp only [Conv.unsafePointer, Sem.run_bind, run_underlying hs1, run_underlying hd, Result.andThen_ok, h5, h6, run_sizeOf hn]
  simp

theorem loadBytes_run (b : Nat) : ∀ (n o : Nat) (cs : List AV) (s : List UInt8) (acc : ByteArray) (vs : List Value), unU8 cs = some s → RepL β F w cs vs → vs.length = n →
    (∀ k v, vs[k]? = some v → w.cell? ⟨b, o + k, none⟩ = some v) →
    (loadBytes ⟨b, o, none⟩ acc n).run P w = .ok ⟨acc.data ++ s.toArray⟩ w
  | 0, o, cs, s, acc, vs, hu, hr, hl, hc => by
    have : vs = [] := List.length_eq_zero_iff.1 hl
    subst this
    have : cs = [] := by have := RepL.length hr; simpa using this.symm
    subst this; simp [unU8] at hu; subst hu
    simp [loadBytes]
  | n + 1, o, [], s, acc, vs, hu, hr, hl, hc => by rw [show vs = [] from hr] at hl; simp at hl
  | n + 1, o, c :: cs, s, acc, vs, hu, hr, hl, hc => by
    obtain ⟨y, r, rfl, hy, hr⟩ := hr
    obtain ⟨m, rfl⟩ : ∃ n, c = .int .u8 n := by
      cases c <;> first | (simp [unU8] at hu; done) | (rename_i k n; cases k <;> first | (simp [unU8] at hu; done) | exact ⟨n, rfl⟩)
    simp only [unU8, Option.map_eq_some_iff] at hu
    obtain ⟨s', hs', rfl⟩ := hu
    have hyy := int_rep hy; subst hyy
    have h0 := hc 0 _ rfl
    simp only [Nat.add_zero] at h0
    simp only [loadBytes, Sem.run_bind, run_load, h0, Result.andThen_ok, addr_add]
    rw [loadBytes_run b n (o + 1) cs s' _ r hs' hr (by simpa using hl) (fun k v hk => by rw [show o + 1 + k = o + (k + 1) by omega]; exact hc (k + 1) v (by simpa using hk))]
    congr 1
    simp [ByteArray.push]

theorem freeze_wrote (a : Addr) (n : Nat) : (w.freeze a n).heap.size = w.heap.size ∧ (∀ k, k ≠ a.block → (w.freeze a n).heap[k]? = w.heap[k]?) ∧ (w.freeze a n).tape = w.tape ∧ (w.freeze a n).os = w.os ∧ (w.freeze a n).output = w.output := by
  unfold World.freeze
  split
  · exact ⟨rfl, fun _ _ => rfl, rfl, rfl, rfl⟩
  · refine ⟨by simp, fun k hk => ?_, rfl, rfl, rfl⟩
    simp [Array.getElem?_modify, Ne.symm hk]

theorem ustr_ok (hs : StoreRel β F w S) {T pt el b g off n : Nat} {ats : Array TypeId} (q0 : ats[0]? = some pt) {x y : Value} {nv : AV} {cs : List AV} {sk : Bool} {s : List UInt8} (hpt : P.underlying pt = some (.pointer el)) (hn : tSize P el = some 1)
    (hx : Rep β F w (.ptr b g off) x) (hy : Rep β F w nv y) (hnv : natOf nv = some (n + 1)) (hbig : n + 1 ≤ 9223372036854775807) (hb : S[b]? = some (.cells cs el g sk)) (hle : off + (n + 1) ≤ cs.length)
    (hu : unU8 ((cs.drop off).take (n + 1)) = some s) : VOK P β F w (Builtin.unsafeString_ ats T #[x, y]) (.str s) (S.set b (.dead (g + 1))) := by
  obtain ⟨k, m, rfl, rfl, h0, hm⟩ := natOf_rep hnv hy
  obtain ⟨ty, sk', i, h1, hi, hgen, h4, rfl⟩ := ptr_row hs hx (show boxRd S b g = some cs by simp [boxRd, hb])
  rw [hb] at h1; injection h1 with h1; injection h1 with _ h1 _ h2; subst h1; subst h2
  have hsh := h4.1
  have hsz := h4.2.2.1
  obtain ⟨dd, hdd⟩ := depth_succ (P := P)
  have hc := cells_size hn
  have hv : (variablesAt ⟨i.blk, i.base + off, none⟩ el m.toNat).run P w = .ok true w := by
    simp only [variablesAt, Sem.run_bind, run_program, Result.andThen_ok, run_shape, hsh, Sem.run_pure]
    rw [lies_here (e := el) (u := el) rfl (by rw [hc]; omega) (by rw [hc]; omega) (by rw [hc]; simp; omega) hdd]
  obtain ⟨vs, g1, g2, g3⟩ := RepAt.list (RepAt.take (n + 1) (RepAt.drop off h4.2.2.2.2))
  have hvl : vs.length = m.toNat := by rw [RepL.length g1, ← hm]; simp; omega
  have hlb := loadBytes_run (P := P) i.blk m.toNat (i.base + off) _ s .empty vs hu g1 hvl g3
  have hbl : b < β.length := (List.getElem?_eq_some_iff.1 hi).1
  obtain ⟨f1, f2, f3, f4, f5⟩ := freeze_wrote (w := w) ⟨i.blk, i.base + off, none⟩ m.toNat
  obtain ⟨r1, r2⟩ := StoreRel.upd hs (x' := .dead (g + 1)) (i' := { i with gen := g + 1 }) (w' := w.freeze ⟨i.blk, i.base + off, none⟩ m.toNat) hb hi (by rw [f1]; exact Nat.le_refl _) f3 f4 f5 (fun k _ hk => f2 k hk) rfl
    (by simp; omega) (fun he => by simp at he; omega) rfl (.inl rfl) trivial
  refine ⟨.string ⟨ByteArray.empty.data ++ s.toArray⟩, _, _, F, ?_, ⟨_, rfl, by simp⟩, r1, r2⟩
  have hneg : ¬ (m < 0) := by omega
  have hmax : IntKind.i64.max = 9223372036854775807 := by decide
  have hnb : ¬ (m > IntKind.i64.max) := by rw [hmax]; omega
  have hn0 : ¬ (m = 0) := by omega
  have hel : (elemOf pt).run P w = .ok el w := by simp [elemOf, run_underlying hpt]
  rw [@id (Builtin.unsafeString_ ats T #[.pointer (some ⟨i.blk, i.base + off, none⟩), .int k m] = asInt (.int k m) >>= _) rfl]
  simp only [q0, asInt, Sem.run_bind, asIntOf_int, Result.andThen_ok, Sem.run_pure, if_neg hneg, if_neg hnb, if_neg hn0, hel, hv, if_true, hlb, run_freeze]

theorem ustr0_run {T pt el : Nat} {ats : Array TypeId} (q0 : ats[0]? = some pt) {x y : Value} {nv : AV} (hpt : P.underlying pt = some (.pointer el)) (hx : ∃ a, x = .pointer a) (hy : Rep β F w nv y) (hnv : natOf nv = some 0) :
    (Builtin.unsafeString_ ats T #[x, y]).run P w = .ok (.string .empty) w := by
  obtain ⟨k, m, rfl, rfl, h0, hm⟩ := natOf_rep hnv hy
  obtain ⟨a, rfl⟩ := hx
  have hm0 : m = 0 := by omega
  subst hm0
  have hnb : ¬ ((0 : Int) > IntKind.i64.max) := by decide
  rw [@id (Builtin.unsafeString_ ats T #[.pointer a, .int k 0] = asInt (.int k 0) >>= _) rfl]
  cases a <;> simp [q0, asInt, asIntOf_int, hnb]

theorem usd_run (hs : StoreRel β F w S) {T : Nat} {ats : Array TypeId} {v r : AV} {x : Value} (hx : Rep β F w v x) (h : (match v with | .nsl => some AV.np | .sl b g off _ len _ => (if 0 < len then some (.ptr b g off) else none) | _ => none) = some r) :
    ∃ y, (Builtin.unsafeSliceData_ ats T #[x]).run P w = .ok y w ∧ Rep β F w r y := by
  cases v <;> simp only at h <;> (try (cases h; done))
  case nsl => injection h with h; subst h; cases hx; exact ⟨.pointer none, rfl, rfl⟩
  case sl b g off sz len cp =>
    split at h
    · rename_i hl
      injection h with h; subst h
      obtain ⟨i, a, c, h1, h2, rfl, h3, h4, h5⟩ := hx
      have hc : ¬ (c = 0) := by omega
      exact ⟨.pointer (some a), Lib.run_unsafeSliceData_row _ _ _ _ _ _ hc, i, a, h1, h2, rfl, fun hg => (h5 hg).1⟩
    · cases h

theorem digits_one : ∀ (n t : Nat) (acc : Array Value), (∀ y ∈ acc.toList, y.oneCell' = true) →
    (∀ y ∈ (Extern.BytealgMakeNoZero.digits n t acc).toList, y.oneCell' = true) ∧ (Extern.BytealgMakeNoZero.digits n t acc).size = acc.size + n
  | 0, t, acc, h => ⟨h, rfl⟩
  | n + 1, t, acc, h => by
    obtain ⟨h1, h2⟩ := digits_one n (t / 256) (acc.push (.int .u8 (Int.ofNat (t % 256)))) (fun y hy => by
      simp at hy; rcases hy with hy | hy
      · exact h y (by simpa using hy)
      · rw [hy]; rfl)
    exact ⟨h1, by simp only [Extern.BytealgMakeNoZero.digits, h2]; simp; omega⟩

theorem top_rep : ∀ (l : List Value), RepL β F w (List.replicate l.length .top) l
  | [] => rfl
  | v :: l => ⟨v, l, rfl, trivial, top_rep l⟩

theorem noz_ok (hs : StoreRel β F w S) {rt el n : Nat} {ps : Array TypeId} {x : Value} {nv : AV} (hrt : P.underlying rt = some (.slice el)) {rs : Array TypeId} (hrs : rs[0]? = some rt) (hx : Rep β F w nv x)
    (hk : ∃ m, nv = .int .i64 m) (hn : natOf nv = some n) (hb : n ≤ big) : VOK P β F w (Extern.BytealgMakeNoZero.makeNoZero ps rs #[x]) (.sl S.length 0 0 1 n none) (S ++ [.cells (List.replicate n .top) el 0 true]) := by
  obtain ⟨m, rfl⟩ := hk
  obtain ⟨k', m', he, rfl, h0, hm⟩ := natOf_rep hn hx
  injection he with he1 he2; subst he1; subst he2
  unfold big at hb
  obtain ⟨cap, hcap, hq⟩ : ∃ cap, m.toNat ≤ cap ∧ (choose (.appendCap m.toNat 0 el)).run P w = .ok cap w.drew := by
    refine ⟨(Question.appendCap m.toNat 0 el).cut (w.tape w.drawn (.appendCap m.toNat 0 el)), ?_, ?_⟩
    · show m.toNat ≤ m.toNat + _; omega
    · rw [run_choose]; rfl
  obtain ⟨bytes, hq2⟩ : ∃ b, (choose (.extern "internal/bytealg.MakeNoZero.bytes" 0)).run P w.drew = .ok b w.drew.drew := by
    refine ⟨_, by rw [run_choose]; rfl⟩
  obtain ⟨d1, d2⟩ := digits_one cap bytes #[] (by simp)
  simp only [List.size_toArray, List.length_nil, Nat.zero_add] at d2
  have hS2 := StoreRel.drew (StoreRel.drew hs)
  obtain ⟨r1, r2, r3⟩ := newRow_ok (P := P) hS2 (ty := el) (cs := List.replicate n .top) (a := Extern.BytealgMakeNoZero.digits cap bytes #[]) true
    (by
      have hl : ((Extern.BytealgMakeNoZero.digits cap bytes #[]).toList.take n).length = n := by simp [d2]; omega
      have := top_rep (β := β) (F := F) (w := w.drew.drew) ((Extern.BytealgMakeNoZero.digits cap bytes #[]).toList.take n)
      rw [hl] at this; simpa using this) d1 (by simp [d2]; omega) (by simp)
  refine ⟨.slice (some ⟨w.heap.size, 0, none⟩) n cap, _, _, F, ?_, sl_new hS2 _ (by omega) (by simp) (fun _ => by omega), r2, ((Ext.drew β F w).trans (Ext.drew β F w.drew)).trans r3⟩
  have hcond : ¬ ((decide (m < 0) || decide (m > 2 ^ 48)) = true) := by
    have h48 : (2 : Int) ^ 48 = 281474976710656 := by decide
    rw [h48]; simp; omega
  rw [@id (Extern.BytealgMakeNoZero.makeNoZero ps rs #[.int .i64 m] = (match rs[0]? with | some t => _ | _ => _)) rfl]
  simp only [hrs, Sem.run_bind, run_underlying hrt, Result.andThen_ok]
  rw [if_neg hcond]
  simp only [Sem.run_bind, hq, Result.andThen_ok, run_askRoom, hq2, r1, Sem.run_pure]
  rw [hm]; rfl

end Go.AM

set_option linter.unusedSimpArgs false
set_option linter.unusedVariables false
namespace Go.AM

variable {P : Program} {β : Beta} {F : Fz} {w : World} {S : Store} {G : Globs} {e : Env} {ρ : Operand → Value}

theorem ba_beq (a b : ByteArray) : (a == b) = (a.data.toList == b.data.toList) := by
  show (a.data == b.data) = _
  rw [Bool.eq_iff_iff]
  simp only [beq_iff_eq]
  constructor
  · intro h; rw [h]
  · intro h; exact Array.ext' h

theorem tKK_cases {kt : Nat} {kk : KK} (h : tKK P kt = some kk) :
    (kk = .int ∧ ∃ k, P.underlying kt = some (.int k)) ∨ (kk = .str ∧ P.underlying kt = some .string) ∨
    ∃ n e, kk = .ints n ∧ P.underlying kt = some (.array n e) ∧ P.underlying e = some (.int .i64) ∧ tSize P e = some 1 := by
  unfold tKK at h
  split at h
  · injection h with h; subst h; rename_i k hk; exact .inl ⟨rfl, k, hk⟩
  · injection h with h; subst h; rename_i hk; exact .inr (.inl ⟨rfl, hk⟩)
  · rename_i n e he
    split at h
    · injection h with h; subst h; rename_i h1 h2; exact .inr (.inr ⟨n, e, rfl, he, h1, h2⟩)
    · cases h
  · cases h

theorem i64_part {e : Nat} {cs : List AV} {a : Array Value} {i : Nat} (h1 : P.underlying e = some (.int .i64)) (h2 : tSize P e = some 1) (hr : RepL β F w cs a.toList) (ho : ∀ y ∈ a.toList, y.oneCell' = true)
    (hi : cs.all i64s = true) (hlt : i < cs.length) : ∃ m, cs[i]? = some (.int .i64 m) ∧ (part e a (i * 1)).run P w = .ok (.int .i64 m) w := by
  have hg : cs[i]? = some cs[i] := List.getElem?_eq_getElem hlt
  have hm := List.all_eq_true.1 hi _ (List.getElem_mem hlt)
  generalize cs[i] = c at hg hm
  cases c <;> simp [i64s] at hm
  rename_i k m
  cases k <;> simp [i64s] at hm
  have hagg : tAgg P e = some false := by simp [tAgg, h1]
  obtain ⟨y, hy, hv⟩ := part_run (off := i * 1) h2 hagg (by simp [cut]; exact hg) hr ho
  exact ⟨m, hg, by rw [hy, int_rep hv]⟩

theorem range_list {σ : Type} (n : Nat) (s : σ) (g : Nat → σ → Sem (ForInStep σ)) : forIn [0:n] s g = forIn (List.range' 0 n) s g := by
  simp only [Std.Legacy.Range.forIn_eq_forIn_range', Std.Legacy.Range.size]
  congr 1
  simp

/-- A loop in which nothing happens. -/
theorem forIn_all (g : Nat → PUnit → Sem (ForInStep PUnit)) (n : Nat) (h : ∀ i u, i < n → (g i u).run P w = .ok (.yield ()) w) : (forIn [0:n] PUnit.unit g).run P w = .ok () w := by
  rw [range_list]
  have key : ∀ l : List Nat, (∀ i ∈ l, i < n) → (forIn l PUnit.unit g).run P w = .ok () w := by
    intro l
    induction l with
    | nil => intro _; rfl
    | cons i l ih =>
      intro hl
      simp only [List.forIn_cons, Sem.run_bind, h i () (hl i (by simp)), Result.andThen_ok]
      exact ih fun j hj => hl j (by simp [hj])
  exact key _ (by intro i hi; simp at hi; omega)

/-- A loop that stops where a test fails. -/
theorem forIn_test {σ : Type} (g : Nat → σ → Sem (ForInStep σ)) (s0 s1 : σ) (r : Nat → Bool) (n : Nat) (h : ∀ i, i < n → (g i s0).run P w = .ok (if r i then .yield s0 else .done s1) w) :
    (forIn [0:n] s0 g).run P w = .ok (if (List.range n).all r then s0 else s1) w := by
  rw [range_list, ← List.range_eq_range']
  have key : ∀ l : List Nat, (∀ i ∈ l, i < n) → (forIn l s0 g).run P w = .ok (if l.all r then s0 else s1) w := by
    intro l
    induction l with
    | nil => intro _; rfl
    | cons i l ih =>
      intro hl
      simp only [List.forIn_cons, Sem.run_bind, h i (hl i (by simp)), Result.andThen_ok, List.all_cons]
      by_cases hri : r i = true
      · simpa [hri] using ih fun j hj => hl j (by simp [hj])
      · simp [hri]
  exact key _ (by intro i hi; simpa using hi)

theorem checkKey_run {kt : Nat} {kk : KK} {v : AV} {x : Value} {em : Bool} (h : tKK P kt = some kk) (hv : keyOK kk v = true) (hx : Rep β F w v x) : (Instr.checkKey em 10000 kt x).run P w = .ok () w := by
  rw [show (10000 : Nat) = 9999 + 1 from rfl, Instr.checkKey]
  rcases tKK_cases h with ⟨rfl, k, hk⟩ | ⟨rfl, hk⟩ | ⟨n, el, rfl, hk, h1, h2⟩
  · simp [run_underlying hk]
  · simp [run_underlying hk]
  · cases v <;> simp [keyOK] at hv
    rename_i cs
    obtain ⟨a, rfl, hr, ho⟩ := hx
    simp only [Sem.run_bind, run_underlying hk, Result.andThen_ok]
    rw [forIn_all (P := P) (w := w) _ n fun i u hi => ?_]
    · rfl
    · obtain ⟨m, _, hm⟩ := i64_part (P := P) h1 h2 hr ho (by simpa using hv.2) (i := i) (by omega)
      simp only [Sem.run_bind, run_sizeOf h2, Result.andThen_ok, hm]
      rw [show (9999 : Nat) = 9998 + 1 from rfl, Instr.checkKey]
      simp [run_underlying h1]

theorem eqInts_spec : ∀ (cs ds : List AV) (r : Bool), eqInts cs ds = some r → cs.length = ds.length ∧ cs.all i64s = true ∧ ds.all i64s = true ∧
    r = (List.range cs.length).all fun i => match cs[i]?, ds[i]? with | some (.int _ m), some (.int _ n) => m == n | _, _ => false
  | [], [], r, h => by simp [eqInts] at h; subst h; simp
  | [], d :: ds, r, h => by simp [eqInts] at h
  | c :: cs, [], r, h => by cases c <;> first | (simp [eqInts] at h; done) | (rename_i k _; cases k <;> simp [eqInts] at h)
  | c :: cs, d :: ds, r, h => by
    obtain ⟨m, rfl⟩ : ∃ m, c = .int .i64 m := by
      cases c <;> first | (simp [eqInts] at h; done) | (rename_i k n; cases k <;> first | (simp [eqInts] at h; done) | exact ⟨n, rfl⟩)
    obtain ⟨n, rfl⟩ : ∃ n, d = .int .i64 n := by
      cases d <;> first | (simp [eqInts] at h; done) | (rename_i k n; cases k <;> first | (simp [eqInts] at h; done) | exact ⟨n, rfl⟩)
    simp only [eqInts] at h
    split at h
    · rename_i t ht
      injection h with h; subst h
      obtain ⟨h1, h2, h3, h4⟩ := eqInts_spec cs ds t ht
      refine ⟨by simp [h1], by simp [i64s, h2], by simp [i64s, h3], ?_⟩
      rw [h4, List.length_cons, List.range_succ_eq_map, List.all_cons, List.all_map]
      rfl
    · cases h

theorem equal_key {kt : Nat} {kk : KK} {a b : AV} {x y : Value} {r : Bool} (h : tKK P kt = some kk) (hk : keyEq kk a b = some r) (hok : keyOK kk a = true) (hx : Rep β F w a x) (hy : Rep β F w b y) :
    (Op.equal kt x y).run P w = .ok r w := by
  unfold Op.equal Op.maxDepth
  rw [Op.equalIn]
  rcases tKK_cases h with ⟨rfl, k, hk'⟩ | ⟨rfl, hk'⟩ | ⟨n, el, rfl, hk', h1, h2⟩
  · cases a <;> cases b <;> simp [keyEq] at hk
    rename_i k1 m k2 n
    obtain ⟨rfl, rfl⟩ := hk
    cases hx; cases hy
    simp [run_underlying hk']
  · cases a <;> cases b <;> simp [keyEq] at hk
    obtain ⟨t, rfl, rfl⟩ := hx; obtain ⟨u, rfl, rfl⟩ := hy
    subst hk
    simp only [Sem.run_bind, run_underlying hk', Result.andThen_ok, Sem.run_pure]
    rw [ba_beq]
  · cases a <;> cases b <;> simp [keyEq] at hk
    rename_i cs ds
    simp only [keyOK, Bool.and_eq_true, beq_iff_eq] at hok
    obtain ⟨e1, e2, e3, e4⟩ := eqInts_spec cs ds r hk
    obtain ⟨A, rfl, hr, ho⟩ := hx
    obtain ⟨B, rfl, hr', ho'⟩ := hy
    simp only [Sem.run_bind, run_underlying hk', Result.andThen_ok, run_sizeOf h2]
    rw [forIn_test (P := P) (w := w) _ _ ⟨some false, ()⟩ (fun i => match cs[i]?, ds[i]? with | some (.int _ m), some (.int _ n) => m == n | _, _ => false) n fun i hi => ?_]
    · simp only [Result.andThen_ok]
      rw [← hok.1, ← e4]
      cases r <;> rfl
    · obtain ⟨m, hm1, hm⟩ := i64_part (P := P) (w := w) h1 h2 hr ho e2 (i := i) (by omega)
      obtain ⟨m', hm1', hm'⟩ := i64_part (P := P) (w := w) h1 h2 hr' ho' e3 (i := i) (by omega)
      simp only [Sem.run_bind, hm, hm', Result.andThen_ok]
      rw [show (9999 : Nat) = 9998 + 1 from rfl, Op.equalIn]
      simp only [Sem.run_bind, run_underlying h1, Result.andThen_ok, if_true, Sem.run_pure, hm1, hm1']
      cases hmm : (m == m') <;> simp

end Go.AM

set_option linter.unusedSimpArgs false
set_option linter.unusedVariables false
namespace Go.AM

variable {P : Program} {β : Beta} {F : Fz} {w : World} {S : Store} {G : Globs} {e : Env} {ρ : Operand → Value}

def FoundRel (β : Beta) (F : Fz) (w : World) : Option (Nat × AV) → Option (Nat × Value) → Prop
  | none, none => True
  | some a, some b => a.1 = b.1 ∧ Rep β F w a.2 b.2
  | _, _ => False

theorem asking_run {kt : Nat} {kk : KK} {k : AV} {K : Value} (h : tKK P kt = some kk) (hok : keyOK kk k = true) (hk : Rep β F w k K) :
    ∀ (es : List (AV × AV × Nat)) (ents : List MapEntry) (i : Nat) (r : Option (Nat × AV)), RepEs β F w es ents → keyFind kk k es i = some r →
      ∃ r', (Instr.findAsking kt K ents i).run P w = .ok r' w ∧ FoundRel β F w r r'
  | [], ents, i, r, hr, hf => by
    rw [show ents = [] from hr]; simp [keyFind] at hf; subst hf
    exact ⟨none, rfl, trivial⟩
  | (k', v, born) :: es, ents, i, r, hr, hf => by
    obtain ⟨en, rest, rfl, h1, h2, h3, hr⟩ := hr
    simp only [keyFind] at hf
    split at hf
    · rename_i he
      injection hf with hf; subst hf
      exact ⟨some (i, en.val), by simp [Instr.findAsking, equal_key h he hok hk h1], rfl, h2⟩
    · rename_i he
      obtain ⟨r', hr', hrel⟩ := asking_run h hok hk es rest (i + 1) r hr hf
      exact ⟨r', by simp [Instr.findAsking, equal_key h he hok hk h1, hr'], hrel⟩
    · cases hf

theorem now_run {d : TypeDesc} {kk : KK} {k : AV} {K : Value} (hd : (kk = .int ∧ ∃ j, d = .int j) ∨ (kk = .str ∧ d = .string)) (hk : Rep β F w k K) :
    ∀ (es : List (AV × AV × Nat)) (ents : List MapEntry) (i : Nat) (r : Option (Nat × AV)), RepEs β F w es ents → keyFind kk k es i = some r →
      ∃ r', Instr.findNow d K ents i = some r' ∧ FoundRel β F w r r'
  | [], ents, i, r, hr, hf => by
    rw [show ents = [] from hr]; simp [keyFind] at hf; subst hf
    exact ⟨none, rfl, trivial⟩
  | (k', v, born) :: es, ents, i, r, hr, hf => by
    obtain ⟨en, rest, rfl, h1, h2, h3, hr⟩ := hr
    have hsame : ∀ b, keyEq kk k k' = some b → Instr.sameNow d K en.key = some b := by
      intro b hb
      rcases hd with ⟨rfl, j, rfl⟩ | ⟨rfl, rfl⟩
      · cases k <;> cases k' <;> simp [keyEq] at hb
        obtain ⟨rfl, rfl⟩ := hb
        have e1 := int_rep hk; have e2 := int_rep h1
        rw [e1, e2]; simp [Instr.sameNow]
      · cases k <;> cases k' <;> simp [keyEq] at hb
        subst hb
        obtain ⟨t, e1, rfl⟩ := hk; obtain ⟨u, e2, rfl⟩ := h1
        rw [e1, show en.key = .string u from e2]; simp only [Instr.sameNow]; rw [ba_beq]
    simp only [keyFind] at hf
    split at hf
    · rename_i he
      injection hf with hf; subst hf
      exact ⟨some (i, en.val), by simp [Instr.findNow, hsame _ he], rfl, h2⟩
    · rename_i he
      obtain ⟨r', hr', hrel⟩ := now_run hd hk es rest (i + 1) r hr hf
      exact ⟨r', by simp [Instr.findNow, hsame _ he, hr'], hrel⟩
    · cases hf

theorem findKey_run {kt : Nat} {kk : KK} {k : AV} {K : Value} {es : List (AV × AV × Nat)} {ents : List MapEntry} {r : Option (Nat × AV)} (h : tKK P kt = some kk) (hok : keyOK kk k = true) (hk : Rep β F w k K)
    (hr : RepEs β F w es ents) (hf : keyFind kk k es 0 = some r) : ∃ r', (Instr.findKey kt K ents).run P w = .ok r' w ∧ FoundRel β F w r r' := by
  unfold Instr.findKey
  rcases tKK_cases h with ⟨rfl, j, hj⟩ | ⟨rfl, hj⟩ | ⟨n, el, rfl, hj, h1, h2⟩
  · obtain ⟨r', g1, g2⟩ := now_run (d := .int j) (.inl ⟨rfl, j, rfl⟩) hk es ents 0 r hr hf
    exact ⟨r', by simp [run_underlying hj, g1], g2⟩
  · obtain ⟨r', g1, g2⟩ := now_run (d := .string) (.inr ⟨rfl, rfl⟩) hk es ents 0 r hr hf
    exact ⟨r', by simp [run_underlying hj, g1], g2⟩
  · obtain ⟨r', g1, g2⟩ := asking_run h hok hk es ents 0 r hr hf
    refine ⟨r', ?_, g2⟩
    simp only [Sem.run_bind, run_underlying hj, Result.andThen_ok]
    cases ents with
    | nil =>
      have : es = [] := by cases es with | nil => rfl | cons x xs => obtain ⟨_, _, he, _⟩ := hr; cases he
      subst this; simp [keyFind] at hf; subst hf
      simp [Instr.findNow]
      cases r' with
      | none => rfl
      | some _ => exact g2.elim
    | cons en rest =>
      have : Instr.findNow (.array n el) K (en :: rest) 0 = none := by simp [Instr.findNow, Instr.sameNow]
      rw [this]; exact g1

/-- A map's entries. -/
theorem map_row (hs : StoreRel β F w S) {b g : Nat} {x : Value} {es : List (AV × AV × Nat)} {clock : Nat} (hx : Rep β F w (.map b g) x) (h : mapRd S (.map b g) = some (es, clock)) :
    ∃ i ents, S[b]? = some (.map es clock g) ∧ β[b]? = some i ∧ i.gen = g ∧ x = .map (some i.blk) ∧ w.heap[i.blk]? = some (.map ents clock) ∧ RepEs β F w es ents.toList ∧ (∀ x ∈ es, x.2.2 < clock) ∧ (es.map (·.2.2)).Nodup := by
  simp only [mapRd] at h
  split at h
  · rename_i es' clock' gen hb
    split at h
    · rename_i hg; subst hg
      injection h with h; injection h with h1 h2; subst h1; subst h2
      obtain ⟨i, r, hi, hle, rfl, hcur⟩ := hx
      obtain ⟨e1, ents, e2, e3, e4, e5⟩ := hs.box b _ i hb hi
      have e1 : g = i.gen := e1
      exact ⟨i, ents, hb, hi, e1.symm, by rw [hcur e1], e2, e3, e4, e5⟩
    · cases h
  · cases h

theorem getObj_run {r : Nat} {o : Obj} (h : w.heap[r]? = some o) (hn : ∀ a b c, o ≠ .cells a b c) : (getObj r).run P w = .ok o w := by
  simp only [getObj, Sem.run, h]

theorem setObj_run {r : Nat} {o o' : Obj} (h : w.heap[r]? = some o) (hn : ∀ a b c, o ≠ .cells a b c) : (setObj r o').run P w = .ok () { w with heap := w.heap.setIfInBounds r o' } := by
  simp only [setObj, Sem.run, h]

theorem look_run (hs : StoreRel β F w S) {t kt el : Nat} {kk : KK} {zero m k r : AV} {M K : Value} {ok : Bool} (ht : P.underlying t = some (.map kt el)) (hkk : tKK P kt = some kk) (hz : tZero P el = some zero)
    (hM : Rep β F w m M) (hK : Rep β F w k K) (h : lookV S kk zero ok m k = some r) : ∃ y, (Instr.lookup t M K ok).run P w = .ok y w ∧ Rep β F w r y := by
  obtain ⟨zv, hzv, hzr, _⟩ := zero_run (β := β) (F := F) (w := w) hz
  unfold lookV at h
  by_cases hok : keyOK kk k = true
  · rw [if_pos hok] at h
    have hck : ∀ em, (Instr.checkKey em 10000 kt K).run P w = .ok () w := fun em => checkKey_run hkk hok hK
    split at h
    · rename_i es hes
      have key : ∀ fr, keyFind kk k es 0 = some fr → ∃ r', (Instr.lookup t M K ok).run P w = (match r' with
          | some (_, v) => Result.ok (if ok then .tuple #[v, .bool true] else v) w
          | none => .ok (if ok then .tuple #[zv, .bool false] else zv) w) ∧ FoundRel β F w fr r' := by
        intro fr hfr
        cases m <;> simp [lookEs] at hes
        · subst hes; cases hM
          obtain ⟨r', g1, g2⟩ := findKey_run (P := P) (es := []) (ents := []) hkk hok hK rfl hfr
          refine ⟨r', ?_, g2⟩
          simp only [Instr.lookup, Sem.run_bind, run_underlying ht, Result.andThen_ok, Sem.run_pure, hck, g1]
          cases r' with
          | none => simp [hzv]
          | some p => obtain ⟨_, v⟩ := p; simp
        · rename_i b g
          obtain ⟨clock, hmr⟩ := hes
          obtain ⟨i, ents, h1, h2, h3, rfl, h5, h6, _⟩ := map_row hs hM hmr
          have hg := getObj_run (P := P) h5 (by simp)
          obtain ⟨r', g1, g2⟩ := findKey_run (P := P) hkk hok hK h6 hfr
          refine ⟨r', ?_, g2⟩
          simp only [Instr.lookup, Sem.run_bind, run_underlying ht, Result.andThen_ok, Sem.run_pure, hg, hck, g1]
          cases r' with
          | none => simp [hzv]
          | some p => obtain ⟨_, v⟩ := p; simp
      split at h
      · rename_i p hf
        injection h with h; subst h
        obtain ⟨r', g1, g2⟩ := key _ hf
        cases r' with
        | none => exact g2.elim
        | some p' =>
          obtain ⟨j', v'⟩ := p'
          refine ⟨_, g1, ?_⟩
          cases ok
          · exact g2.2
          · exact ⟨_, rfl, _, _, rfl, g2.2, _, _, rfl, rfl, rfl⟩
      · rename_i hf
        injection h with h; subst h
        obtain ⟨r', g1, g2⟩ := key _ hf
        cases r' with
        | some p => exact g2.elim
        | none =>
          refine ⟨_, g1, ?_⟩
          cases ok
          · exact hzr
          · exact ⟨_, rfl, _, _, rfl, hzr, _, _, rfl, rfl, rfl⟩
      · cases h
    · cases h
  · rw [if_neg hok] at h; cases h

/-- The entries of a map are others. -/
theorem setMap_ok (hs : StoreRel β F w S) {b g : Nat} {es es' : List (AV × AV × Nat)} {ents ents' : Array MapEntry} {clock clock' : Nat} {i : BI} (hb : S[b]? = some (.map es clock g)) (hi : β[b]? = some i)
    (hw : w.heap[i.blk]? = some (.map ents clock)) (hr : RepEs β F w es' ents'.toList) (hc : ∀ x ∈ es', x.2.2 < clock') (hn : (es'.map (·.2.2)).Nodup) :
    (setObj i.blk (.map ents' clock')).run P w = .ok () { w with heap := w.heap.setIfInBounds i.blk (.map ents' clock') } ∧
    StoreRel β F { w with heap := w.heap.setIfInBounds i.blk (.map ents' clock') } (S.set b (.map es' clock' g)) ∧ Ext β F w β F { w with heap := w.heap.setIfInBounds i.blk (.map ents' clock') } := by
  obtain ⟨h0, _⟩ := hs.box b _ i hb hi
  have h0 : g = i.gen := h0
  have hlt := hs.lt b i hi
  have hother : ∀ k, k ≠ i.blk → (w.heap.setIfInBounds i.blk (.map ents' clock'))[k]? = w.heap[k]? := fun k hk => Array.getElem?_setIfInBounds_ne (Ne.symm hk)
  have hself : (w.heap.setIfInBounds i.blk (.map ents' clock'))[i.blk]? = some (.map ents' clock') := Array.getElem?_setIfInBounds_self_of_lt hlt
  have hupd := StoreRel.upd hs (x' := .map es' clock' g) (i' := i) (w' := { w with heap := w.heap.setIfInBounds i.blk (.map ents' clock') }) hb hi (by simp) rfl rfl rfl (fun k _ hk => hother k hk) rfl (Nat.le_refl _) (fun _ => rfl) h0 (.inl rfl)
  rw [set_same hi] at hupd
  have hk : Keeps β F w β F { w with heap := w.heap.setIfInBounds i.blk (.map ents' clock') } := ⟨fun _ h => h, fun k hk _ => hother k (fun he => hs.nF b _ i hb rfl hi (he ▸ hk)), fun _ i h => ⟨i, h, Nat.le_refl _, fun _ => rfl⟩⟩
  obtain ⟨r1, r2⟩ := hupd ⟨ents', hself, RepEs.keep hk _ _ hr, hc, hn⟩
  exact ⟨setObj_run hw (by simp), r1, r2⟩

theorem RepEs.length : ∀ {es : List (AV × AV × Nat)} {ents : List MapEntry}, RepEs β F w es ents → ents.length = es.length
  | [], _, h => by rw [show _ = [] from h]; rfl
  | _ :: _, _, h => by obtain ⟨_, _, rfl, _, _, _, h⟩ := h; simp [RepEs.length h]

theorem RepEs.append : ∀ {es es' : List (AV × AV × Nat)} {a b : List MapEntry}, RepEs β F w es a → RepEs β F w es' b → RepEs β F w (es ++ es') (a ++ b)
  | [], _, _, _, h, h' => by rw [show _ = [] from h]; exact h'
  | _ :: _, _, _, _, h, h' => by obtain ⟨e, r, rfl, h1, h2, h3, h⟩ := h; exact ⟨e, _, rfl, h1, h2, h3, RepEs.append h h'⟩

theorem RepEs.get : ∀ {es : List (AV × AV × Nat)} {a : List MapEntry}, RepEs β F w es a → ∀ (i : Nat) (x : AV × AV × Nat), es[i]? = some x → ∃ e, a[i]? = some e ∧ Rep β F w x.1 e.key ∧ Rep β F w x.2.1 e.val ∧ e.born = x.2.2
  | [], _, _, i, x, h => by simp at h
  | y :: ys, _, h, i, x, hx => by
    obtain ⟨e, r, rfl, h1, h2, h3, h⟩ := h
    cases i with
    | zero => simp at hx; subst hx; exact ⟨e, rfl, h1, h2, h3⟩
    | succ i => exact RepEs.get h i x (by simpa using hx)

theorem RepEs.modify : ∀ {es : List (AV × AV × Nat)} {a : List MapEntry} (i : Nat) {k v : AV} {K V : Value}, RepEs β F w es a → Rep β F w k K → Rep β F w v V →
    RepEs β F w (es.modify i fun x => (k, v, x.2.2)) (a.modify i fun e => { e with key := K, val := V })
  | [], _, i, _, _, _, _, h, _, _ => by rw [show _ = [] from h]; simp [RepEs]
  | y :: ys, _, i, _, _, _, _, h, hk, hv => by
    obtain ⟨e, r, rfl, h1, h2, h3, h⟩ := h
    cases i with
    | zero => exact ⟨_, _, rfl, hk, hv, h3, h⟩
    | succ i => exact ⟨e, _, by simp, h1, h2, h3, RepEs.modify i h hk hv⟩

theorem RepEs.erase : ∀ {es : List (AV × AV × Nat)} {a : List MapEntry} (i : Nat), RepEs β F w es a → RepEs β F w (es.eraseIdx i) (a.eraseIdx i)
  | [], _, i, h => by rw [show _ = [] from h]; simp [RepEs]
  | y :: ys, _, i, h => by
    obtain ⟨e, r, rfl, h1, h2, h3, h⟩ := h
    cases i with
    | zero => exact h
    | succ i => exact ⟨e, _, by simp, h1, h2, h3, RepEs.erase i h⟩

theorem keyFind_spec {kk : KK} {k : AV} : ∀ (es : List (AV × AV × Nat)) (i : Nat) (p : Nat × AV), keyFind kk k es i = some (some p) → i ≤ p.1 ∧ ∃ x, es[p.1 - i]? = some x ∧ keyEq kk k x.1 = some true ∧ x.2.1 = p.2
  | [], i, p, h => by simp [keyFind] at h
  | (k', v, b) :: es, i, p, h => by
    simp only [keyFind] at h
    split at h
    · rename_i he; injection h with h; injection h with h; subst h; exact ⟨Nat.le_refl _, (k', v, b), by simp, he, rfl⟩
    · obtain ⟨h1, x, h2, h3⟩ := keyFind_spec es (i + 1) p h
      exact ⟨by omega, x, by rw [show p.1 - i = (p.1 - (i + 1)) + 1 by omega]; exact h2, h3⟩
    · cases h

theorem eqInts_rep : ∀ {cs ds : List AV} {A B : List Value}, eqInts cs ds = some true → RepL β F w cs A → RepL β F w ds B → A.length = B.length ∧ ∀ n, ((A.zip B).all fun p => Instr.sameBits n p.1 p.2) = true
  | [], [], A, B, _, ha, hb => by rw [show A = [] from ha, show B = [] from hb]; simp
  | [], _ :: _, _, _, h, _, _ => by simp [eqInts] at h
  | c :: cs, ds, A, B, h, ha, hb => by
    obtain ⟨a, r, rfl, ha1, ha⟩ := ha
    cases ds with
    | nil => cases c <;> first | (simp [eqInts] at h; done) | (rename_i k _; cases k <;> simp [eqInts] at h)
    | cons d ds =>
      obtain ⟨b, s, rfl, hb1, hb⟩ := hb
      obtain ⟨m, rfl⟩ : ∃ m, c = .int .i64 m := by
        cases c <;> first | (simp [eqInts] at h; done) | (rename_i k n; cases k <;> first | (simp [eqInts] at h; done) | exact ⟨n, rfl⟩)
      obtain ⟨n, rfl⟩ : ∃ n, d = .int .i64 n := by
        cases d <;> first | (simp [eqInts] at h; done) | (rename_i k n; cases k <;> first | (simp [eqInts] at h; done) | exact ⟨n, rfl⟩)
      simp only [eqInts] at h
      split at h
      · rename_i t ht
        injection h with h
        simp only [Bool.and_eq_true, beq_iff_eq] at h
        obtain ⟨rfl, rfl⟩ := h
        obtain ⟨h1, h2⟩ := eqInts_rep ht ha hb
        have e1 := int_rep ha1; have e2 := int_rep hb1
        subst e1; subst e2
        exact ⟨by simp [h1], fun n => by
          simp only [List.zip_cons_cons, List.all_cons, h2 n, Bool.and_true]
          unfold Instr.sameBits; simp⟩
      · cases h

theorem sameBits_run {kk : KK} {a b : AV} {x y : Value} (h : keyEq kk a b = some true) (ha : Rep β F w a x) (hb : Rep β F w b y) : Instr.sameBits 10000 y x = true := by
  rw [show (10000 : Nat) = 9999 + 1 from rfl]
  cases kk
  · cases a <;> cases b <;> simp [keyEq] at h
    obtain ⟨rfl, rfl⟩ := h
    have e1 := int_rep ha; have e2 := int_rep hb; subst e1; subst e2
    unfold Instr.sameBits; simp
  · cases a <;> cases b <;> simp [keyEq] at h
    obtain ⟨t, rfl, rfl⟩ := ha; obtain ⟨u, rfl, hu⟩ := hb
    unfold Instr.sameBits; rw [ba_beq]; simp [h, hu]
  · cases a <;> cases b <;> simp [keyEq] at h
    obtain ⟨A, rfl, ha, _⟩ := ha; obtain ⟨B, rfl, hb, _⟩ := hb
    have hsym : ∀ (cs ds : List AV), eqInts cs ds = some true → eqInts ds cs = some true := by
      intro cs
      induction cs with
      | nil => intro ds h; cases ds <;> simp_all [eqInts]
      | cons c cs ih =>
        intro ds h
        cases ds with
        | nil => cases c <;> first | (simp [eqInts] at h; done) | (rename_i k _; cases k <;> simp [eqInts] at h)
        | cons d ds =>
          obtain ⟨m, rfl⟩ : ∃ m, c = .int .i64 m := by
            cases c <;> first | (simp [eqInts] at h; done) | (rename_i k n; cases k <;> first | (simp [eqInts] at h; done) | exact ⟨n, rfl⟩)
          obtain ⟨n, rfl⟩ : ∃ n, d = .int .i64 n := by
            cases d <;> first | (simp [eqInts] at h; done) | (rename_i k n; cases k <;> first | (simp [eqInts] at h; done) | exact ⟨n, rfl⟩)
          simp only [eqInts] at h ⊢
          split at h
          · rename_i t ht
            injection h with h
            simp only [Bool.and_eq_true, beq_iff_eq] at h
            obtain ⟨rfl, rfl⟩ := h
            rw [ih ds ht]; simp
          · cases h
    obtain ⟨h1, h2⟩ := eqInts_rep (hsym _ _ h) hb ha
    unfold Instr.sameBits
    simp only [Bool.and_eq_true, beq_iff_eq]
    refine ⟨by simpa using h1, ?_⟩
    simpa using h2 9999

theorem mupd_ok (hs : StoreRel β F w S) {t kt el : Nat} {kk : KK} {m k v : AV} {M K V : Value} {S' : Store} (ht : P.underlying t = some (.map kt el)) (hkk : tKK P kt = some kk)
    (hM : Rep β F w m M) (hK : Rep β F w k K) (hV : Rep β F w v V) (h : mupdV S kk m k v = some S') : ∃ w', (Instr.mapUpdate t M K V).run P w = .ok () w' ∧ StoreRel β F w' S' ∧ Ext β F w β F w' := by
  unfold mupdV at h
  by_cases hok : keyOK kk k = true
  · rw [if_pos hok] at h
    have hck : ∀ em, (Instr.checkKey em 10000 kt K).run P w = .ok () w := fun em => checkKey_run hkk hok hK
    split at h
    · rename_i b g
      split at h
      · rename_i es clock hmr
        obtain ⟨i, ents, h1, h2, h3, rfl, h5, h6, h7, h8⟩ := map_row hs hM hmr
        have hg := getObj_run (P := P) h5 (by simp)
        split at h
        · rename_i p hf
          injection h with h; subst h
          obtain ⟨r', g1, g2⟩ := findKey_run hkk hok hK h6 hf
          cases r' with
          | none => exact g2.elim
          | some q =>
            obtain ⟨j, V'⟩ := q
            obtain ⟨e1, e2⟩ := g2
            have e1 : p.1 = j := e1
            subst e1
            obtain ⟨_, x, hx, hxk, hxv⟩ := keyFind_spec es 0 p hf
            simp only [Nat.sub_zero] at hx
            obtain ⟨en, hen, hk1, hv1, hb1⟩ := RepEs.get h6 p.1 x hx
            have hen' : ents[p.1]? = some en := by rw [← Array.getElem?_toList]; exact hen
            have hsb := sameBits_run hxk hK hk1
            have hmod : (es.modify p.1 fun x => (k, v, x.2.2)).map (·.2.2) = es.map (·.2.2) := by
              apply List.ext_getElem?; intro q
              simp only [List.getElem?_map, List.getElem?_modify]
              cases es[q]? with
              | none => simp
              | some y => simp; split <;> rfl
            obtain ⟨r1, r2, r3⟩ := setMap_ok (P := P) hs (es' := es.modify p.1 fun x => (k, v, x.2.2)) (ents' := ents.modify p.1 fun e => { e with key := K, val := V }) (clock' := clock) h1 h2 h5
              (by rw [Array.toList_modify]; exact RepEs.modify p.1 h6 hK hV)
              (by
                intro y hy
                have : y.2.2 ∈ es.map (·.2.2) := by rw [← hmod]; exact List.mem_map.2 ⟨y, hy, rfl⟩
                obtain ⟨z, hz, hzy⟩ := List.mem_map.1 this
                rw [← hzy]; exact h7 z hz) (by rw [hmod]; exact h8)
            refine ⟨_, ?_, r2, r3⟩
            have hks : (Instr.keyThatStays en.key K).run P w = .ok K w := by simp [Instr.keyThatStays, hsb]
            simp only [Instr.mapUpdate, Sem.run_bind, run_underlying ht, Result.andThen_ok, hg, hck, g1, hen', Option.map_some, Option.getD_some, hks]
            exact r1
        · rename_i hf
          injection h with h; subst h
          obtain ⟨r', g1, g2⟩ := findKey_run hkk hok hK h6 hf
          cases r' with
          | some q => exact g2.elim
          | none =>
            obtain ⟨r1, r2, r3⟩ := setMap_ok (P := P) hs (es' := es ++ [(k, v, clock)]) (ents' := ents.push { key := K, val := V, born := clock }) (clock' := clock + 1) h1 h2 h5
              (by rw [Array.toList_push]; exact RepEs.append h6 ⟨_, _, rfl, hK, hV, rfl, rfl⟩)
              (by
                intro y hy
                rcases List.mem_append.1 hy with hy | hy
                · have := h7 y hy; omega
                · simp at hy; subst hy; simp)
              (by
                simp only [List.map_append, List.map_cons, List.map_nil]
                rw [List.nodup_append]
                refine ⟨h8, by simp, ?_⟩
                intro a ha b' hb'
                obtain ⟨z, hz, rfl⟩ := List.mem_map.1 ha
                simp at hb'; subst hb'
                have := h7 z hz; omega)
            refine ⟨_, ?_, r2, r3⟩
            simp only [Instr.mapUpdate, Sem.run_bind, run_underlying ht, Result.andThen_ok, hg, hck, g1]
            exact r1
        · cases h
      · cases h
    · cases h
  · rw [if_neg hok] at h; cases h

theorem del_ok (hs : StoreRel β F w S) {T t kt el : Nat} {ats : Array TypeId} (q0 : ats[0]? = some t) {kk : KK} {m k : AV} {M K : Value} {S' : Store} (ht : P.underlying t = some (.map kt el)) (hkk : tKK P kt = some kk)
    (hM : Rep β F w m M) (hK : Rep β F w k K) (h : delV S kk m k = some S') : ∃ w', (Builtin.delete_ ats T #[M, K]).run P w = .ok (.tuple #[]) w' ∧ StoreRel β F w' S' ∧ Ext β F w β F w' := by
  unfold delV at h
  by_cases hok : keyOK kk k = true
  · rw [if_pos hok] at h
    have hck : ∀ em, (Instr.checkKey em 10000 kt K).run P w = .ok () w := fun em => checkKey_run hkk hok hK
    split at h
    · rename_i b g
      split at h
      · rename_i es clock hmr
        obtain ⟨i, ents, h1, h2, h3, rfl, h5, h6, h7, h8⟩ := map_row hs hM hmr
        have hg := getObj_run (P := P) h5 (by simp)
        split at h
        · rename_i p hf
          injection h with h; subst h
          obtain ⟨r', g1, g2⟩ := findKey_run hkk hok hK h6 hf
          cases r' with
          | none => exact g2.elim
          | some q =>
            obtain ⟨j, V'⟩ := q
            obtain ⟨e1, e2⟩ := g2
            have e1 : p.1 = j := e1
            subst e1
            obtain ⟨r1, r2, r3⟩ := setMap_ok (P := P) hs (es' := es.eraseIdx p.1) (ents' := ents.eraseIdxIfInBounds p.1) (clock' := clock) h1 h2 h5
              (by rw [Array.toList_eraseIdxIfInBounds]; exact RepEs.erase p.1 h6)
              (fun y hy => h7 y (List.mem_of_mem_eraseIdx hy)) (h8.sublist ((List.eraseIdx_sublist es p.1).map _))
            refine ⟨_, ?_, r2, r3⟩
            simp only [Builtin.delete_, q0, List.getElem?_toArray, List.getElem?_cons_zero, List.getElem?_cons_succ, Sem.run_bind, run_underlying ht, Result.andThen_ok, hg, hck, g1, r1, Sem.run_pure]
        · rename_i hf
          injection h with h; subst h
          obtain ⟨r', g1, g2⟩ := findKey_run hkk hok hK h6 hf
          cases r' with
          | some q => exact g2.elim
          | none =>
            obtain ⟨r1, r2, r3⟩ := setMap_ok (P := P) hs (es' := es) (ents' := ents) (clock' := clock) h1 h2 h5 h6 h7 h8
            rw [set_same h1] at r2
            refine ⟨_, ?_, r2, r3⟩
            simp only [Builtin.delete_, q0, List.getElem?_toArray, List.getElem?_cons_zero, List.getElem?_cons_succ, Sem.run_bind, run_underlying ht, Result.andThen_ok, hg, hck, g1, r1, Sem.run_pure]
        · cases h
      · cases h
    · cases h
  · rw [if_neg hok] at h; cases h

end Go.AM

set_option linter.unusedSimpArgs false
set_option linter.unusedVariables false
namespace Go.AM

variable {P : Program} {β : Beta} {F : Fz} {w : World} {S : Store} {G : Globs} {e : Env} {ρ : Operand → Value}

/-- An object that is no row of cells is another. -/
theorem setBox_ok (hs : StoreRel β F w S) {b : Nat} {x x' : Box} {i : BI} {o o' : Obj} (hb : S[b]? = some x) (hi : β[b]? = some i) (hl : x.live = true) (hg : x'.gen = i.gen)
    (hw : w.heap[i.blk]? = some o) (hn : ∀ a b c, o ≠ .cells a b c)
    (hx : Keeps β F w β F { w with heap := w.heap.setIfInBounds i.blk o' } → (w.heap.setIfInBounds i.blk o')[i.blk]? = some o' → BoxRel β F { w with heap := w.heap.setIfInBounds i.blk o' } i x') :
    (setObj i.blk o').run P w = .ok () { w with heap := w.heap.setIfInBounds i.blk o' } ∧
    StoreRel β F { w with heap := w.heap.setIfInBounds i.blk o' } (S.set b x') ∧ Ext β F w β F { w with heap := w.heap.setIfInBounds i.blk o' } := by
  have hlt := hs.lt b i hi
  have hother : ∀ k, k ≠ i.blk → (w.heap.setIfInBounds i.blk o')[k]? = w.heap[k]? := fun k hk => Array.getElem?_setIfInBounds_ne (Ne.symm hk)
  have hself : (w.heap.setIfInBounds i.blk o')[i.blk]? = some o' := Array.getElem?_setIfInBounds_self_of_lt hlt
  have hupd := StoreRel.upd hs (x' := x') (i' := i) (w' := { w with heap := w.heap.setIfInBounds i.blk o' }) hb hi (by simp) rfl rfl rfl (fun k _ hk => hother k hk) hl (Nat.le_refl _) (fun _ => rfl) hg (.inl rfl)
  rw [set_same hi] at hupd
  have hk : Keeps β F w β F { w with heap := w.heap.setIfInBounds i.blk o' } := ⟨fun _ h => h, fun k hk _ => hother k (fun he => hs.nF b _ i hb hl hi (he ▸ hk)), fun _ i h => ⟨i, h, Nat.le_refl _, fun _ => rfl⟩⟩
  obtain ⟨r1, r2⟩ := hupd (hx hk hself)
  exact ⟨setObj_run hw hn, r1, r2⟩

theorem newIt_ok (hs : StoreRel β F w S) {o : Obj} {x : Box} (hg : x.gen = 0) (hx : BoxRel (β ++ [⟨w.heap.size, 0, 0, 0⟩]) F (w.alloc o) ⟨w.heap.size, 0, 0, 0⟩ x) {s : Sem Value}
    (h : s.run P w = .ok (.pointer (some ⟨w.heap.size, 0, none⟩)) (w.alloc o)) : VOK P β F w s (.ptr S.length 0 0) (S ++ [x]) :=
  ⟨_, _, _, F, h, ptr_new hs _, StoreRel.push hs o x ⟨w.heap.size, 0, 0, 0⟩ rfl hg hx, Ext.push o _ rfl⟩

theorem rng_ok (hs : StoreRel β F w S) {t : Nat} {isStr : Bool} {v r : AV} {x : Value} {S' : Store} (ht : if isStr then P.underlying t = some .string else ∃ k e, P.underlying t = some (.map k e))
    (hx : Rep β F w v x) (h : (COp.rng isStr (.c v)).ev G e S = some (r, S')) : VOK P β F w (Instr.range t x) r S' := by
  have hg : ∀ o, (w.alloc o).heap[w.heap.size]? = some o := fun o => by rw [heap_alloc, if_pos rfl]
  cases isStr with
  | true =>
    simp only [if_true] at ht
    cases v <;> simp [COp.ev, Opd.ev] at h
    obtain ⟨rfl, rfl⟩ := h
    obtain ⟨u, rfl, rfl⟩ := hx
    exact newIt_ok hs (o := .stringIter u 0) (x := .siter u.data.toList 0) rfl ⟨u, rfl, hg _, rfl⟩ (by simp [Instr.range, run_underlying ht])
  | false =>
    simp only [Bool.false_eq_true, if_false] at ht
    obtain ⟨k, el, ht⟩ := ht
    cases v <;> simp [COp.ev, Opd.ev] at h
    · obtain ⟨rfl, rfl⟩ := h
      cases hx
      exact newIt_ok hs (o := .mapIter none 0 #[] 0) (x := .miter none 0 [] 0) rfl ⟨none, #[], rfl, hg _, rfl, by simp, rfl⟩ (by simp [Instr.range, run_underlying ht])
    · rename_i b g
      cases hm : mapRd S (.map b g) with
      | none => simp [hm] at h
      | some p =>
        obtain ⟨es, clock⟩ := p
        simp [hm] at h
        obtain ⟨rfl, rfl⟩ := h
        obtain ⟨i, ents, h1, h2, h3, rfl, h5, h6, _⟩ := map_row hs hx hm
        have hbl : b < β.length := (List.getElem?_eq_some_iff.1 h2).1
        exact newIt_ok hs (o := .mapIter (some i.blk) clock #[] clock) (x := .miter (some (b, g)) clock [] clock) rfl ⟨some i.blk, #[], rfl, hg _, rfl, by simp, i, by rw [List.getElem?_append_left hbl]; exact h2, by omega, fun _ => rfl⟩
          (by simp [Instr.range, run_underlying ht, getObj_run (P := P) h5 (by simp)])

theorem it_row (hs : StoreRel β F w S) {b g : Nat} {x : Value} {y : Box} (hx : Rep β F w (.ptr b g 0) x) (hb : S[b]? = some y) (hy : y.gen = 0) :
    ∃ i, β[b]? = some i ∧ i.gen = 0 ∧ BoxRel β F w i y ∧ x = .pointer (some ⟨i.blk, i.base, none⟩) := by
  obtain ⟨i, a, hi, hle, rfl, hc⟩ := hx
  obtain ⟨h1, h2⟩ := hs.box b y i hb hi
  have : i.gen = 0 := by omega
  exact ⟨i, hi, this, h2, by rw [hc (by omega)]; simp⟩

theorem nxtS_ok (hs : StoreRel β F w S) {ty b g pos : Nat} {s : List UInt8} {x : Value} (hx : Rep β F w (.ptr b g 0) x) (hb : S[b]? = some (.siter s pos)) :
    (∀ c, s[pos]? = some c → c.toNat < 128 → VOK P β F w (Instr.next x true ty) (.tup [.bool true, .int .i64 pos, .int .i32 c.toNat]) (S.set b (.siter s (pos + 1)))) ∧
    (s.length ≤ pos → VOK P β F w (Instr.next x true ty) (.tup [.bool false]) S) := by
  obtain ⟨i, hi, hg, ⟨t, h0, hw, ht⟩, rfl⟩ := it_row hs hx hb rfl
  rw [h0]
  have hgo := getObj_run (P := P) hw (by simp)
  constructor
  · intro c hc hlt
    have hlen : pos < t.size := by
      have := (List.getElem?_eq_some_iff.1 hc).1
      rw [← ht] at this; simpa using this
    have hget : t.get! pos = c := by
      have : t.data[pos]? = some c := by rw [← Array.getElem?_toList, ht]; exact hc
      have h2 : t.get! pos = t.data[pos]! := by cases t; rfl
      rw [h2, getElem!_def, this]
    have hdec : Utf8.decode t pos = (c.toNat, 1) := by
      simp only [Utf8.decode, Nat.add_zero, hget]
      rw [if_pos hlt]
    obtain ⟨r1, r2, r3⟩ := setBox_ok (P := P) hs (x' := .siter s (pos + 1)) (o' := .stringIter t (pos + 1)) hb hi rfl hg.symm hw (by simp) (fun _ hself => ⟨t, h0, hself, ht⟩)
    refine ⟨.tuple #[.bool true, goInt pos, .int .i32 c.toNat], _, _, F, ?_, ⟨_, rfl, _, _, rfl, rfl, _, _, rfl, rfl, _, _, rfl, rfl, rfl⟩, r2, r3⟩
    simp only [Instr.next, Sem.run_bind, hgo, Result.andThen_ok, if_pos hlen, hdec, r1, Sem.run_pure]
  · intro hle
    have hn : ¬ (pos < t.size) := by rw [← ht] at hle; simp at hle; omega
    exact VOK.here hs (x := .tuple #[.bool false]) (by simp only [Instr.next, Sem.run_bind, hgo, Result.andThen_ok, if_neg hn, Sem.run_pure]) ⟨_, rfl, _, _, rfl, rfl, rfl⟩

theorem back_head {sn : Array Nat} {seen : List Nat} (h : sn.toList.reverse = seen) : sn.back? = seen.head? := by
  rw [← h, List.head?_reverse, ← Array.getLast?_toList]

theorem find_rep {stamp : Nat} : ∀ {es : List (AV × AV × Nat)} {a : List MapEntry}, RepEs β F w es a → ∀ x, es.find? (fun x => x.2.2 == stamp) = some x →
    ∃ e, a.find? (·.born == stamp) = some e ∧ Rep β F w x.1 e.key ∧ Rep β F w x.2.1 e.val
  | [], _, _, x, h => by simp at h
  | y :: ys, _, h, x, hx => by
    obtain ⟨e, r, rfl, h1, h2, h3, h⟩ := h
    rw [List.find?_cons] at hx
    rw [List.find?_cons, h3]
    cases hb : (y.2.2 == stamp) with
    | true => rw [hb] at hx; injection hx with hx; subst hx; exact ⟨e, rfl, h1, h2⟩
    | false => rw [hb] at hx; exact find_rep h x hx

theorem entry_run (hs : StoreRel β F w S) {v r : AV} {x : Value} (hx : Rep β F w v x) (h : (COp.entry (.c v)).ev G e S = some (r, S)) : ∃ y, (Instr.entry x).run P w = .ok y w ∧ Rep β F w r y := by
  simp only [COp.ev, Opd.ev] at h
  split at h
  · rename_i b g
    split at h
    · rename_i m g' since seen last hb
      split at h
      · rename_i es clock stamp hmr hst
        split at h
        · rename_i hcl
          split at h
          · rename_i k v' born hf
            injection h with h; injection h with h _; subst h
            obtain ⟨i, hi, hg, ⟨mr, sn, h0, hw, hsn, hlt, j, hj, hgj, hcur⟩, rfl⟩ := it_row hs hx hb rfl
            rw [h0]
            obtain ⟨i2, ents, q1, q2, q3, _, q5, q6, _⟩ := map_row (x := .map (some j.blk)) hs ⟨j, _, hj, hgj, rfl, fun _ => rfl⟩ hmr
            rw [hj] at q2; injection q2 with q2; subst q2
            have hmr' := hcur q3.symm
            subst hmr'
            obtain ⟨e', he, hk, hv⟩ := find_rep q6 _ hf
            have hback : sn.back? = some stamp := by rw [back_head hsn]; exact hst
            have hfind : ents.find? (·.born == stamp) = some e' := by rw [← Array.find?_toList]; exact he
            have hne : (clock != last) = false := by simp [hcl]
            refine ⟨.tuple #[e'.key, e'.val], ?_, _, rfl, _, _, rfl, hk, _, _, rfl, hv, rfl⟩
            simp only [Instr.entry, Sem.run_bind, getObj_run (P := P) hw (by simp), Result.andThen_ok, hback, getObj_run (P := P) q5 (by simp), hne, Bool.false_eq_true, if_false, hfind, Sem.run_pure]
          · cases h
        · cases h
      · cases h
    · cases h
  · cases h

theorem filter_rep {seen : List Nat} {sn : Array Nat} (hsn : sn.toList.reverse = seen) : ∀ {es : List (AV × AV × Nat)} {a : List MapEntry}, RepEs β F w es a →
    RepEs β F w (es.filter fun x => !seen.contains x.2.2) (a.filter fun e => !sn.contains e.born)
  | [], _, h => by rw [show _ = [] from h]; simp [RepEs]
  | y :: ys, _, h => by
    obtain ⟨e, r, rfl, h1, h2, h3, h⟩ := h
    have hc : sn.contains e.born = seen.contains y.2.2 := by
      rw [h3, ← hsn, Bool.eq_iff_iff]; simp
    simp only [List.filter_cons, hc]
    split
    · exact ⟨e, _, rfl, h1, h2, h3, filter_rep hsn h⟩
    · exact filter_rep hsn h

theorem nextMap_ok (hs : StoreRel β F w S) {ty : Nat} {v : AV} {x : Value} {l : List (AV × Store)} (hx : Rep β F w v x) (h : nextMap S v = some l) :
    ∃ p ∈ l, VOK P β F w (Instr.next x false ty) p.1 p.2 := by
  unfold nextMap at h
  split at h
  · rename_i b g
    split at h
    · rename_i since seen last hb
      injection h with h; subst h
      obtain ⟨i, hi, hg, ⟨mr, sn, h0, hw, hsn, hlt, hmr⟩, rfl⟩ := it_row hs hx hb rfl
      simp only at hmr; subst hmr
      rw [h0]
      exact ⟨_, List.mem_singleton.2 rfl, VOK.here hs (x := .tuple #[.bool false]) (by simp only [Instr.next, Sem.run_bind, getObj_run (P := P) hw (by simp), Result.andThen_ok, Sem.run_pure]) ⟨_, rfl, _, _, rfl, rfl, rfl⟩⟩
    · rename_i m g' since seen last hb
      split at h
      · rename_i es clock hmr
        split at h
        · rename_i hcl
          obtain ⟨hc1, hc2⟩ := hcl
          subst hc1; have hc3 := hc2.symm; subst hc3
          obtain ⟨i, hi, hg, ⟨mr, sn, h0, hw, hsn, hlt, j, hj, hgj, hcur⟩, rfl⟩ := it_row hs hx hb rfl
          rw [h0]
          obtain ⟨i2, ents, q1, q2, q3, _, q5, q6, q7, q8⟩ := map_row (x := .map (some j.blk)) hs ⟨j, _, hj, hgj, rfl, fun _ => rfl⟩ hmr
          rw [hj] at q2; injection q2 with q2; subst q2
          have hmr' := hcur q3.symm
          subst hmr'
          have hborn : ∀ e ∈ ents, e.born < clock := by
            have : ∀ {es : List (AV × AV × Nat)} {a : List MapEntry}, RepEs β F w es a → (∀ x ∈ es, x.2.2 < clock) → ∀ e ∈ a, e.born < clock := by
              intro es
              induction es with
              | nil => intro a h _; rw [show a = [] from h]; simp
              | cons y ys ih =>
                intro a h hy e he
                obtain ⟨e', r, rfl, _, _, h3, h⟩ := h
                rcases List.mem_cons.1 he with rfl | he
                · rw [h3]; exact hy y (by simp)
                · exact ih h (fun x hx => hy x (by simp [hx])) e he
            intro e he
            exact this q6 q7 e (by simpa using he)
          have hfr := filter_rep hsn q6
          let left := ents.filter fun e => !sn.contains e.born
          have hleft : left.toList = ents.toList.filter fun e => !sn.contains e.born := by simp [left]
          have hold : left.filter (fun e => decide (e.born < clock)) = left := by
            rw [Array.filter_eq_self]
            intro e he; simp
            exact hborn e (Array.mem_of_mem_filter he)
          have hnew : left.filter (fun e => decide (e.born ≥ clock)) = #[] := by
            rw [Array.filter_eq_empty_iff]
            intro e he; simp
            exact hborn e (Array.mem_of_mem_filter he)
          have hchk : (!sn.isEmpty && !ents.isEmpty && ents.all fun e => decide (e.born ≥ clock)) = false := by
            cases hz : ents.isEmpty with
            | true => simp
            | false =>
              simp only [Array.isEmpty_eq_false_iff] at hz
              have hpos : 0 < ents.size := Array.size_pos_iff.2 hz
              have : ents.all (fun e => decide (e.born ≥ clock)) = false := by
                rw [Array.all_eq_false]
                exact ⟨0, hpos, by simpa using hborn _ (Array.getElem_mem hpos)⟩
              simp [this]
          have hrun : ∀ r, ((choose (.mapNext ((if left.isEmpty then #[none] else #[]) ++ (left ++ #[]).map some).size)).run P w) = r →
              (Instr.next (.pointer (some ⟨i.blk, 0, none⟩)) false ty).run P w = r.andThen fun k w' => (match ((if left.isEmpty then #[none] else #[]) ++ (left ++ #[]).map some)[k]? with
                | some (some e) => do
                  setObj i.blk (.mapIter (some j.blk) clock (sn.push e.born) clock)
                  pure (.tuple #[.bool true, e.key, e.val])
                | some none => pure (.tuple #[.bool false])
                | none => stuck "Next: no such candidate" : Sem Value).run P w' := by
            intro r hr
            subst hr
            simp only [Instr.next, Sem.run_bind, getObj_run (P := P) hw (by simp), Result.andThen_ok, getObj_run (P := P) q5 (by simp), hchk, Bool.false_eq_true, if_false]
            simp only [show (ents.filter fun e => !sn.contains e.born) = left from rfl, hold, hnew]
            rfl
          have hi2 : ∀ (e : MapEntry) (x : AV × AV × Nat) (w1 : World), (w1 = w ∨ w1 = w.drew) → Rep β F w x.1 e.key → Rep β F w x.2.1 e.val → e.born = x.2.2 → x.2.2 < clock →
              VOK P β F w (Instr.next (.pointer (some ⟨i.blk, 0, none⟩)) false ty) (.tup [.bool true, x.1, x.2.1]) (S.set b (.miter (some (m, g')) clock (x.2.2 :: seen) clock)) ∨
              ¬ ((Instr.next (.pointer (some ⟨i.blk, 0, none⟩)) false ty).run P w = (do
                  setObj i.blk (.mapIter (some j.blk) clock (sn.push e.born) clock)
                  pure (.tuple #[.bool true, e.key, e.val]) : Sem Value).run P w1) := by
            intro e x w1 hw1 hk hv hb' hlt'
            by_cases hh : (Instr.next (.pointer (some ⟨i.blk, 0, none⟩)) false ty).run P w = (do
                  setObj i.blk (.mapIter (some j.blk) clock (sn.push e.born) clock)
                  pure (.tuple #[.bool true, e.key, e.val]) : Sem Value).run P w1
            · refine .inl ?_
              have hheap : w1.heap = w.heap := by rcases hw1 with rfl | rfl <;> rfl
              have hE1 : Ext β F w β F w1 := by rcases hw1 with rfl | rfl <;> exact Ext.same rfl rfl rfl rfl
              have hS1 : StoreRel β F w1 S := hs.same hheap
              have hw1' : w1.heap[i.blk]? = some (.mapIter (some j.blk) clock sn clock) := by rw [hheap]; exact hw
              obtain ⟨r1, r2, r3⟩ := setBox_ok (P := P) hS1 (x' := .miter (some (m, g')) clock (x.2.2 :: seen) clock) (o' := .mapIter (some j.blk) clock (sn.push e.born) clock) hb hi rfl hg.symm hw1' (by simp)
                (fun _ hself => ⟨some j.blk, sn.push e.born, h0, hself, by simp [hsn, hb'], by
                  intro y hy; simp at hy; rcases hy with rfl | hy
                  · exact hlt'
                  · exact hlt y hy, j, hj, hgj, fun _ => rfl⟩)
              have hkk : Keeps β F w β F { w1 with heap := w1.heap.setIfInBounds i.blk (.mapIter (some j.blk) clock (sn.push e.born) clock) } := (hE1.trans r3).keeps hs
              refine ⟨.tuple #[.bool true, e.key, e.val], _, _, F, ?_, ⟨_, rfl, _, _, rfl, rfl, _, _, rfl, Rep.keep hkk _ _ hk, _, _, rfl, Rep.keep hkk _ _ hv, rfl⟩, r2, hE1.trans r3⟩
              rw [hh]; simp only [Sem.run_bind, r1, Result.andThen_ok, Sem.run_pure]
            · exact .inr hh
          by_cases hemp : left = #[]
          · have hnil : (es.filter fun x => !seen.contains x.2.2) = [] := by
              have := RepEs.length hfr
              rw [← hleft, hemp] at this
              exact List.length_eq_zero_iff.1 this.symm
            rw [hnil] at h
            injection h with h; subst h
            refine ⟨_, List.mem_singleton.2 rfl, VOK.here hs (x := .tuple #[.bool false]) ?_ ⟨_, rfl, _, _, rfl, rfl, rfl⟩⟩
            have hc : ((if left.isEmpty then #[none] else #[]) ++ (left ++ #[]).map some) = #[none] := by rw [hemp]; simp
            rw [hrun (.ok 0 w) (by rw [hc, run_choose]; rfl)]
            rw [hc]; rfl
          · have hpos : 0 < left.size := Array.size_pos_iff.2 hemp
            have hie : left.isEmpty = false := by simpa using hemp
            have hcand : ((if left.isEmpty then #[none] else #[]) ++ (left ++ #[]).map some) = left.map some := by rw [hie]; simp
            obtain ⟨k, w1, hch, hw1, hk⟩ : ∃ k w1, (choose (.mapNext left.size)).run P w = .ok k w1 ∧ (w1 = w ∨ w1 = w.drew) ∧ k < left.size := by
              rw [run_choose]
              split
              · exact ⟨0, w, rfl, .inl rfl, hpos⟩
              · exact ⟨_, w.drew, rfl, .inr rfl, Nat.mod_lt _ hpos⟩
            have hr1 := hrun (.ok k w1) (by rw [hcand]; simpa using hch)
            have hek : left[k]? = some left[k] := Array.getElem?_eq_getElem hk
            generalize left[k] = ek at hek
            rw [hcand] at hr1
            have hmk : (left.map some)[k]? = some (some ek) := by simp [hek]
            simp only [Result.andThen_ok, hmk] at hr1
            have hlk : (ents.toList.filter fun e => !sn.contains e.born)[k]? = some ek := by rw [← hleft, Array.getElem?_toList]; exact hek
            have hlen := RepEs.length hfr
            have hk2 : k < (es.filter fun x => !seen.contains x.2.2).length := by
              rw [← hlen]; exact (List.getElem?_eq_some_iff.1 hlk).1
            have hxk : (es.filter fun x => !seen.contains x.2.2)[k]? = some (es.filter fun x => !seen.contains x.2.2)[k] := List.getElem?_eq_getElem hk2
            generalize hxe : (es.filter fun x => !seen.contains x.2.2)[k] = xk at hxk
            obtain ⟨e', he', hk1, hv1, hb1⟩ := RepEs.get hfr k xk hxk
            rw [hlk] at he'; injection he' with he'; subst he'
            have hmem : xk ∈ es := (List.mem_filter.1 (List.mem_of_getElem? hxk)).1
            have hlx := q7 xk hmem
            rcases hi2 ek xk w1 hw1 hk1 hv1 hb1 hlx with hv | hv
            · split at h
              · rename_i hnil; rw [hnil] at hxk; simp at hxk
              · injection h with h; subst h
                exact ⟨_, List.mem_map.2 ⟨xk, List.mem_of_getElem? hxk, rfl⟩, hv⟩
            · exact absurd hr1 hv
        · cases h
      · cases h
    · cases h
  · cases h

end Go.AM

set_option linter.unusedSimpArgs false
set_option linter.unusedVariables false
namespace Go.AM

variable {P : Program} {pu : Nat → Nat} {β : Beta} {F : Fz} {w : World} {S : Store} {G : Globs} {e : Env} {a : Act}

/-- What an operation comes to. -/
def OpOK (P : Program) (β : Beta) (F : Fz) (w : World) (s : Sem Next) (v : AV) (S' : Store) : Prop :=
  ∃ x w' β' F', (s.run P w = .ok (.value x) w' ∨ (x = undef ∧ s.run P w = .ok .skip w')) ∧ Rep β' F' w' v x ∧ StoreRel β' F' w' S' ∧ Ext β F w β' F' w'

theorem of_v {s : Sem Value} {n : Sem Next} {v : AV} {S' : Store} (h : VOK P β F w s v S') (he : n = (do pure (.value (← s)))) : OpOK P β F w n v S' := by
  obtain ⟨x, w', β', F', h1, h2⟩ := h
  exact ⟨x, w', β', F', .inl (by rw [he]; simp [h1]), h2⟩

theorem of_r (hs : StoreRel β F w S) {s : Sem Value} {n : Sem Next} {v : AV} (h : ∃ y, s.run P w = .ok y w ∧ Rep β F w v y) (he : n = (do pure (.value (← s)))) : OpOK P β F w n v S :=
  of_v (let ⟨_, h1, h2⟩ := h; VOK.here hs h1 h2) he

theorem of_x (hs : StoreRel β F w S) {n : Sem Next} {v : AV} {x : Value} (h : n.run P w = .ok (.value x) w) (hr : Rep β F w v x) : OpOK P β F w n v S :=
  ⟨x, w, β, F, .inl h, hr, hs, Ext.refl _ _ _⟩

theorem of_u {s : Sem Unit} {n : Sem Next} {S' : Store} (h : ∃ w', s.run P w = .ok () w' ∧ StoreRel β F w' S' ∧ Ext β F w β F w') (he : n = (do s; pure .skip)) : OpOK P β F w n (.tup []) S' := by
  obtain ⟨w', h1, h2, h3⟩ := h
  exact ⟨undef, w', β, F, .inr ⟨rfl, by rw [he]; simp [h1]⟩, ⟨#[], rfl, rfl⟩, h2, h3⟩

theorem map_pair {α : Type} {o : Option α} {S S' : Store} {v : α} (h : o.map (·, S) = some (v, S')) : o = some v ∧ S' = S := by
  cases o with
  | none => simp at h
  | some x => simp at h; exact ⟨by rw [h.1], h.2.symm⟩

theorem map_pair' {α : Type} {o : Option Store} {S' : Store} {t v : α} (h : o.map (t, ·) = some (v, S')) : o = some S' ∧ v = t := by
  cases o with
  | none => simp at h
  | some x => simp at h; exact ⟨by rw [h.2], h.1.symm⟩

theorem tSize_some {t n : Nat} (h : tSize P t = some n) : ∃ i, P.info? t = some i ∧ i.size = n := by
  unfold tSize at h
  cases hi : P.info? t with
  | none => simp [hi] at h
  | some i => exact ⟨i, rfl, by simpa [hi] using h⟩

theorem sound_bin (hρ : OpdRel G β F w e a.eval) (hs : StoreRel β F w S) {op : BinOp} {t yt : Nat} {x y : Operand} {co : COp} (hop : cBin P op t x y = some co) {v : AV} {S' : Store}
    (hev : co.ev G e S = some (v, S')) {o : Oper} (ho : o.op = .binOp op t x y yt) : OpOK P β F w (execOp a.eval o) v S' := by
  have hx : execOp a.eval o = (do pure (.value (← (do eqGuard op t x y (a.eval x) (a.eval y); binOp op t (a.eval x) (a.eval y) : Sem Value)))) := by
    simp [execOp, ho]
  unfold cBin at hop
  split at hop
  · rename_i ca cb ha hb
    have hA := hρ x ca ha
    have hB := hρ y cb hb
    have plain : co = .bin op ca cb → OpOK P β F w (execOp a.eval o) v S' := by
      rintro rfl
      simp only [COp.ev] at hev
      obtain ⟨h1, rfl⟩ := map_pair hev
      exact of_r hs (binV_run t x y h1 hA hB) hx
    have hneg : ∀ (b : Bool) (k : Sem Value), (op = .eql ∨ op = .neq) → True := fun _ _ _ => trivial
    split at hop
    · -- eql
      split at hop
      · injection hop with hop; exact plain hop.symm
      · injection hop with hop; exact plain hop.symm
      · rename_i hb'
        injection hop with hop; subst hop
        simp only [COp.ev] at hev
        split at hev
        · rename_i b1 b2 e1 e2
          injection hev with hev; injection hev with hv hS; subst hv; subst hS
          rw [e1] at hA; rw [e2] at hB
          have hX := bool_rep hA; have hY := bool_rep hB
          rw [hX, hY] at hx
          refine of_r hs ⟨.bool (b1 == b2), ?_, rfl⟩ hx
          have := (binOp_eq (P := P) (w := w) (t := t) (x := .bool b1) (y := .bool b2) rfl (equal_step hb' rfl)).1
          simp [eqGuard_pass, this]
        · cases hev
      · split at hop
        · rename_i k hk
          split at hop
          · rename_i hy
            injection hop with hop; subst hop
            simp only [COp.ev, Option.map_eq_some_iff, Prod.mk.injEq] at hev
            obtain ⟨b, hb', rfl, rfl⟩ := hev
            obtain ⟨Y, rfl⟩ : ∃ Y, y = .const Y := by
              unfold isNilVal at hy; split at hy <;> first | exact ⟨_, rfl⟩ | cases hy
            have := nilq_run (P := P) (w := w) (x := x) hk hy hb' hA
            exact of_r hs ⟨_, this.1, rfl⟩ hx
          · split at hop
            · rename_i el hel
              split at hop
              · rename_i n hn
                injection hop with hop; subst hop
                simp only [COp.ev] at hev
                split at hev
                · rename_i e1 e2
                  injection hev with hev; injection hev with hv hS; subst hv; subst hS
                  rw [e1] at hA; rw [e2] at hB
                  exact of_r hs ⟨_, (ptr_nil_run hel hA hB (.inl ⟨rfl, rfl, rfl⟩)).1, rfl⟩ hx
                · rename_i e1 e2
                  injection hev with hev; injection hev with hv hS; subst hv; subst hS
                  rw [e1] at hA; rw [e2] at hB
                  exact of_r hs ⟨_, (ptr_nil_run hel hA hB (.inr (.inl ⟨rfl, ⟨_, _, _, rfl⟩, rfl⟩))).1, rfl⟩ hx
                · rename_i e1 e2
                  injection hev with hev; injection hev with hv hS; subst hv; subst hS
                  rw [e1] at hA; rw [e2] at hB
                  exact of_r hs ⟨_, (ptr_nil_run hel hA hB (.inr (.inr ⟨⟨_, _, _, rfl⟩, rfl, rfl⟩))).1, rfl⟩ hx
                · rename_i b g o1 b' g' o2 e1 e2
                  split at hev
                  · rename_i hc
                    obtain ⟨rfl, rfl, hsome⟩ := hc
                    obtain ⟨cs, hcs⟩ := Option.isSome_iff_exists.1 hsome
                    injection hev with hev; injection hev with hv hS; subst hv; subst hS
                    rw [e1] at hA; rw [e2] at hB
                    exact of_r hs ⟨_, (ptr_eq_run hs hel hn hA hB hcs).1, rfl⟩ hx
                  · cases hev
                · cases hev
              · cases hop
            · cases hop
        · cases hop
    · -- neq
      split at hop
      · injection hop with hop; exact plain hop.symm
      · injection hop with hop; exact plain hop.symm
      · rename_i hb'
        injection hop with hop; subst hop
        simp only [COp.ev] at hev
        split at hev
        · rename_i b1 b2 e1 e2
          injection hev with hev; injection hev with hv hS; subst hv; subst hS
          rw [e1] at hA; rw [e2] at hB
          have hX := bool_rep hA; have hY := bool_rep hB
          rw [hX, hY] at hx
          refine of_r hs ⟨.bool (!(b1 == b2)), ?_, rfl⟩ hx
          have := (binOp_eq (P := P) (w := w) (t := t) (x := .bool b1) (y := .bool b2) rfl (equal_step hb' rfl)).2
          simp [eqGuard_pass, this]
        · cases hev
      · split at hop
        · rename_i k hk
          split at hop
          · rename_i hy
            injection hop with hop; subst hop
            simp only [COp.ev, Option.map_eq_some_iff, Prod.mk.injEq] at hev
            obtain ⟨b, hb', rfl, rfl⟩ := hev
            obtain ⟨Y, rfl⟩ : ∃ Y, y = .const Y := by
              unfold isNilVal at hy; split at hy <;> first | exact ⟨_, rfl⟩ | cases hy
            have := nilq_run (P := P) (w := w) (x := x) hk hy hb' hA
            exact of_r hs ⟨_, this.2, rfl⟩ hx
          · split at hop
            · rename_i el hel
              split at hop
              · rename_i n hn
                injection hop with hop; subst hop
                simp only [COp.ev] at hev
                split at hev
                · rename_i e1 e2
                  injection hev with hev; injection hev with hv hS; subst hv; subst hS
                  rw [e1] at hA; rw [e2] at hB
                  exact of_r hs ⟨_, (ptr_nil_run hel hA hB (.inl ⟨rfl, rfl, rfl⟩)).2, rfl⟩ hx
                · rename_i e1 e2
                  injection hev with hev; injection hev with hv hS; subst hv; subst hS
                  rw [e1] at hA; rw [e2] at hB
                  exact of_r hs ⟨_, (ptr_nil_run hel hA hB (.inr (.inl ⟨rfl, ⟨_, _, _, rfl⟩, rfl⟩))).2, rfl⟩ hx
                · rename_i e1 e2
                  injection hev with hev; injection hev with hv hS; subst hv; subst hS
                  rw [e1] at hA; rw [e2] at hB
                  exact of_r hs ⟨_, (ptr_nil_run hel hA hB (.inr (.inr ⟨⟨_, _, _, rfl⟩, rfl, rfl⟩))).2, rfl⟩ hx
                · rename_i b g o1 b' g' o2 e1 e2
                  split at hev
                  · rename_i hc
                    obtain ⟨rfl, rfl, hsome⟩ := hc
                    obtain ⟨cs, hcs⟩ := Option.isSome_iff_exists.1 hsome
                    injection hev with hev; injection hev with hv hS; subst hv; subst hS
                    rw [e1] at hA; rw [e2] at hB
                    exact of_r hs ⟨_, (ptr_eq_run hs hel hn hA hB hcs).2, rfl⟩ hx
                  · cases hev
                · cases hev
              · cases hop
            · cases hop
        · cases hop
    · injection hop with hop; exact plain hop.symm
  · cases hop

theorem sound_conv (hρ : OpdRel G β F w e a.eval) (hs : StoreRel β F w S) {src dst : Nat} {x : Operand} {co : COp} (hop : cConv P src dst x = some co) {v : AV} {S' : Store}
    (hev : co.ev G e S = some (v, S')) {o : Oper} (ho : o.op = .convert src dst x) : OpOK P β F w (execOp a.eval o) v S' := by
  have hx : execOp a.eval o = (do pure (.value (← convert src dst (a.eval x)))) := by simp [execOp, ho]
  unfold cConv at hop
  split at hop
  · rename_i ca j k ha h1 h2
    injection hop with hop; subst hop
    have hA := hρ x ca ha
    simp only [COp.ev] at hev
    split at hev
    · rename_i e1
      injection hev with hev; injection hev with hv hS; subst hv; subst hS
      rw [e1] at hA
      rw [int_rep hA] at hx
      exact of_r hs ⟨_, by simp [convert, run_underlying h1, run_underlying h2, Conv.intToInt], rfl⟩ hx
    · cases hev
  · rename_i ca ha h1 h2
    injection hop with hop; subst hop
    have hA := hρ x ca ha
    simp only [COp.ev] at hev
    split at hev
    · rename_i e1
      injection hev with hev; injection hev with hv hS; subst hv; subst hS
      rw [e1] at hA
      obtain ⟨t, ht, hts⟩ := hA
      rw [ht] at hx
      exact of_r hs ⟨_, by simp [convert, run_underlying h1, run_underlying h2], t, rfl, hts⟩ hx
    · cases hev
  · rename_i ca el ha h1 h2
    split at hop
    · rename_i hu
      injection hop with hop; subst hop
      have hA := hρ x ca ha
      have hu8 : P.underlying el = some (.int .u8) := by
        have := hu.1; unfold isU8 at this; split at this <;> simp_all
      simp only [COp.ev] at hev
      split at hev
      · rename_i s e1
        injection hev with hev; injection hev with hv hS; subst hv; subst hS
        rw [e1] at hA
        obtain ⟨t, ht, rfl⟩ := hA
        rw [ht] at hx
        obtain ⟨y, w', β', F', g1, g2⟩ := s2b_ok (P := P) (el := el) (t := t) hs
        exact of_v ⟨y, w', β', F', by simp [convert, run_underlying h1, run_underlying h2, run_underlying hu8, g1], g2⟩ hx
      · cases hev
    · cases hop
  · rename_i ca el ha h1 h2
    split at hop
    · rename_i hu
      injection hop with hop; subst hop
      have hA := hρ x ca ha
      have hu8 : P.underlying el = some (.int .u8) := by
        unfold isU8 at hu; split at hu <;> simp_all
      simp only [COp.ev] at hev
      split at hev
      · rename_i n hn
        split at hev
        · rename_i s hsd
          injection hev with hev; injection hev with hv hS; subst hv; subst hS
          obtain ⟨t, g1, g2⟩ := b2s_run (P := P) hs hA hn hsd
          obtain ⟨b, c, hX, _⟩ := slLen_rep hn hA
          rw [hX] at hx g1
          exact of_r hs ⟨_, by simp [convert, run_underlying h1, run_underlying h2, run_underlying hu8, g1], t, rfl, g2⟩ hx
        · cases hev
      · cases hev
    · cases hop
  · rename_i ca t ha h1 h2
    split at hop
    · rename_i n hn
      injection hop with hop; subst hop
      have hA := hρ x ca ha
      simp only [COp.ev] at hev
      have hcv : ∀ p, (convert src dst (.pointer p)).run P w = (Conv.unsafePointer src dst (.pointer p)).run P w := by
        intro p; simp [convert, run_underlying h1, run_underlying h2]
      split at hev
      · rename_i e1
        injection hev with hev; injection hev with hv hS; subst hv; subst hS
        rw [e1] at hA
        rw [show a.eval x = .pointer none from hA] at hx
        exact of_r hs ⟨_, by rw [hcv, p2u_nil h1 h2], rfl⟩ hx
      · rename_i b g off e1
        split at hev
        · rename_i cs hcs
          split at hev
          · rename_i hlt
            injection hev with hev; injection hev with hv hS; subst hv; subst hS
            rw [e1] at hA
            obtain ⟨i, p, _, _, hp, _⟩ := id hA
            have := p2u_run (P := P) hs h1 h2 hn hA hcs hlt
            rw [hp] at this hx hA
            exact of_r hs ⟨_, by rw [hcv, this], hA⟩ hx
          · cases hev
        · cases hev
      · cases hev
    · cases hop
  · rename_i ca u ha h1 h2
    split at hop
    · rename_i n hn
      injection hop with hop; subst hop
      have hA := hρ x ca ha
      simp only [COp.ev] at hev
      have hcv : ∀ p, (convert src dst (.pointer p)).run P w = (Conv.unsafePointer src dst (.pointer p)).run P w := by
        intro p; simp [convert, run_underlying h1, run_underlying h2]
      split at hev
      · rename_i e1
        injection hev with hev; injection hev with hv hS; subst hv; subst hS
        rw [e1] at hA
        rw [show a.eval x = .pointer none from hA] at hx
        exact of_r hs ⟨_, by rw [hcv, u2p_nil h1 h2], rfl⟩ hx
      · rename_i b g e1
        split at hev
        · rename_i cs ty gen hb
          split at hev
          · rename_i hc
            obtain ⟨rfl, rfl, hlen⟩ := hc
            injection hev with hev; injection hev with hv hS; subst hv; subst hS
            rw [e1] at hA
            obtain ⟨i, p, _, _, hp, _⟩ := id hA
            have := u2p_run (P := P) hs h1 h2 hn hA hb hlen
            rw [hp] at this hx hA
            exact of_r hs ⟨_, by rw [hcv, this], hA⟩ hx
          · cases hev
        · cases hev
      · cases hev
    · cases hop
  · cases hop

theorem args1 {as : Array Operand} {x : Opd} (h : cOpds as.toList = some [x]) : ∃ X, as = #[X] ∧ cOpd X = some x := by
  obtain ⟨l⟩ := as
  cases l with
  | nil => simp [cOpds] at h
  | cons y l =>
    simp only [cOpds] at h
    split at h
    · rename_i b bs hb hbs
      injection h with h; injection h with h1 h2; subst h1; subst h2
      cases l with
      | nil => exact ⟨y, rfl, hb⟩
      | cons z l => simp only [cOpds] at hbs; split at hbs <;> cases hbs
    · cases h

theorem args2 {as : Array Operand} {x y : Opd} (h : cOpds as.toList = some [x, y]) : ∃ X Y, as = #[X, Y] ∧ cOpd X = some x ∧ cOpd Y = some y := by
  obtain ⟨l⟩ := as
  cases l with
  | nil => simp [cOpds] at h
  | cons z l =>
    simp only [cOpds] at h
    split at h
    · rename_i b bs hb hbs
      injection h with h; injection h with h1 h2; subst h1; subst h2
      obtain ⟨Y, hY, hy⟩ := args1 (as := l.toArray) (by simpa using hbs)
      have : l = [Y] := by simpa using congrArg Array.toList hY
      subst this
      exact ⟨z, Y, rfl, hb, hy⟩
    · cases h

theorem exec_builtin {ρ : Operand → Value} {o : Oper} {c : Call} {b : Builtin} (ho : o.op = .call c) (hc : c.callee = .builtin b) :
    execOp ρ o = builtin b c.argTypes o.type (c.args.map fun | .const _ => true | _ => false) (c.args.map ρ) := by
  simp only [execOp, ho, resolve, hc]
  rfl

theorem str_ne (s t : String) (h : decide (s = t) = false) : (s == t) = false := by simpa using h

/-- A function without a body, named so. -/
theorem extern_run {ρ : Operand → Value} {o : Oper} {c : Call} {f : Nat} {fn : Func} {name : String} {e : Array Value → Sem Value} (ho : o.op = .call c) (hc : c.callee = .value (.func f)) (hρ : ρ (.func f) = .func (.func f) #[] #[])
    (hf : P.funcs[f]? = some fn) (hb : fn.body.isSome = false) (hn : fn.name = name) (hor : fn.origin = "") (h0 : (name == "runtime.NumGoroutine") = false)
    (h1 : ∀ fn' : Func, fn'.name = name → fn'.origin = "" → Extern.findNext fn' = none) (h2 : ∀ fn' : Func, fn'.name = name → fn'.origin = "" → fn'.params = fn.params → fn'.resultTypes = fn.resultTypes → Extern.find fn' = some e) :
    (execOp ρ o).run P w = ((e (c.args.map ρ)).run P w).andThen fun v w' => .ok (.value v) w' := by
  have hb' : fn.body.isNone = true := by cases hx : fn.body <;> simp_all
  simp only [execOp, ho, resolve, hc, hρ, Deferred.ofValue, Sem.run_bind, Sem.run_pure, Result.andThen_ok]
  simp only [invoke, callFunc, Sem.run_bind, run_program, Result.andThen_ok, hf, hn, h0, Bool.false_eq_true, if_false, hb', if_true, h1 fn hn hor, h2 fn hn hor rfl rfl, run_mark]
  simp

theorem look_none (n : String) (h1 : Extern.allNextRows.lookup n = none) (h2 : Extern.allNextRows.lookup "" = none) (fn : Func) (hn : fn.name = n) (ho : fn.origin = "") : Extern.findNext fn = none := by
  simp [Extern.findNext, hn, ho, h1, h2]

theorem nx_empty : Extern.allNextRows.lookup "" = none := by kernel_rfl
theorem nx_noesc : Extern.allNextRows.lookup "internal/abi.NoEscape" = none := by kernel_rfl
theorem nx_idxb : Extern.allNextRows.lookup "internal/bytealg.IndexByteString" = none := by kernel_rfl
theorem nx_cntb : Extern.allNextRows.lookup "internal/bytealg.CountString" = none := by kernel_rfl
theorem nx_noz : Extern.allNextRows.lookup "internal/bytealg.MakeNoZero" = none := by kernel_rfl
theorem gn_noesc : Extern.allGenericRows.lookup "internal/abi.NoEscape" = none := by kernel_rfl
theorem gn_idxb : Extern.allGenericRows.lookup "internal/bytealg.IndexByteString" = none := by kernel_rfl
theorem gn_cntb : Extern.allGenericRows.lookup "internal/bytealg.CountString" = none := by kernel_rfl
theorem gn_noz : Extern.allGenericRows.lookup "internal/bytealg.MakeNoZero" = none := by kernel_rfl
theorem ty_noesc : Extern.allTypedRows.lookup "internal/abi.NoEscape" = none := by kernel_rfl
theorem ty_idxb : Extern.allTypedRows.lookup "internal/bytealg.IndexByteString" = none := by kernel_rfl
theorem ty_cntb : Extern.allTypedRows.lookup "internal/bytealg.CountString" = none := by kernel_rfl
theorem ty_noz : Extern.allTypedRows.lookup "internal/bytealg.MakeNoZero" = some Extern.BytealgMakeNoZero.makeNoZero := by kernel_rfl
theorem al_noesc : Extern.allRows.lookup "internal/abi.NoEscape" = some Extern.AbiNoEscape.same := by kernel_rfl
theorem al_idxb : Extern.allRows.lookup "internal/bytealg.IndexByteString" = some Extern.BytealgIndexByte.indexByte := by kernel_rfl
theorem al_cntb : Extern.allRows.lookup "internal/bytealg.CountString" = some Extern.BytealgCount.count := by kernel_rfl

theorem find_plain {n : String} {e : Array Value → Sem Value} (h1 : Extern.allGenericRows.lookup n = none) (h2 : Extern.allTypedRows.lookup n = none) (h3 : Extern.allRows.lookup n = some e) (fn : Func) (hn : fn.name = n) :
    Extern.find fn = some e := by
  simp [Extern.find, hn, h1, h2, h3]

end Go.AM

set_option linter.unusedSimpArgs false
set_option linter.unusedVariables false
namespace Go.AM

variable {P : Program} {pu : Nat → Nat} {β : Beta} {F : Fz} {w : World} {S : Store} {G : Globs} {e : Env} {a : Act}

theorem idxB_run {t : ByteArray} {n : Int} : (Extern.BytealgIndexByte.indexByte #[.string t, .int .u8 n]).run P w =
    .ok (.int .i64 (match (List.range t.data.toList.length).find? fun i => t.data.toList[i]? == some (UInt8.ofNat n.toNat) with | some i => (i : Int) | none => -1)) w := by
  rw [run_indexByte_string]
  congr 2
  unfold firstIdx
  have hl : t.data.toList.length = t.size := by simp
  rw [hl]
  have hf : ∀ l : List Nat, (∀ i ∈ l, i < t.size) → (l.find? fun i => t[i]! == n.toNat.toUInt8) = (l.find? fun i => t.data.toList[i]? == some (UInt8.ofNat n.toNat)) := by
    intro l
    induction l with
    | nil => intro _; rfl
    | cons i l ih =>
      intro h
      have hi := h i (by simp)
      have e1 : t[i]! = t.data[i] := by rw [getElem!_pos t i hi]; rfl
      have e2 : t.data.toList[i]? = some t.data[i] := by rw [Array.getElem?_toList]; exact Array.getElem?_eq_getElem hi
      simp only [List.find?_cons, e1, e2]
      have : (t.data[i] == n.toNat.toUInt8) = (some t.data[i] == some (UInt8.ofNat n.toNat)) := by
        rw [Bool.eq_iff_iff]; simp [Nat.toUInt8]
      rw [this, ih fun j hj => h j (by simp [hj])]
  rw [hf _ (by simp)]
  rfl

theorem cntB_run {t : ByteArray} {n : Int} : (Extern.BytealgCount.count #[.string t, .int .u8 n]).run P w = .ok (.int .i64 (t.data.toList.count (UInt8.ofNat n.toNat))) w := by
  rw [Lib.run_countString]; rfl

theorem sound_call (hρ : OpdRel G β F w e a.eval) (hs : StoreRel β F w S) {c : Call} {co : COp} (hop : cCall P pu c = some co) {v : AV} {S' : Store}
    (hev : co.ev G e S = some (v, S')) {o : Oper} (ho : o.op = .call c) : OpOK P β F w (execOp a.eval o) v S' := by
  unfold cCall at hop
  split at hop
  · -- a function by name
    rename_i f as hc has
    split at hop
    · cases hop
    · rename_i fn hf
      split at hop
      · split at hop
        · injection hop with hop; subst hop; split at hev <;> simp [COp.ev] at hev
        · cases hop
      · rename_i hbody
        have hbody' : fn.body.isSome = false := by simpa using hbody
        split at hop
        · cases hop
        · rename_i hor
          have hor' : fn.origin = "" := by simpa using hor
          split at hop
          · -- NoEscape
            rename_i x hname
            injection hop with hop; subst hop
            obtain ⟨X, hX, hcx⟩ := args1 has
            simp only [COp.ev] at hev
            injection hev with hev; injection hev with hv hS; subst hv; subst hS
            have hr := extern_run (P := P) (w := w) (ρ := a.eval) (e := Extern.AbiNoEscape.same) ho hc rfl hf hbody' hname hor' (by rfl) (look_none _ nx_noesc nx_empty) (fun fn' h1 _ _ _ => find_plain gn_noesc ty_noesc al_noesc fn' h1)
            rw [hX] at hr
            rw [show (#[X] : Array Operand).map a.eval = #[a.eval X] by simp] at hr
            exact of_x hs (x := a.eval X) (by rw [hr]; rfl) (hρ X x hcx)
          · -- IndexByteString
            rename_i s b hname
            injection hop with hop; subst hop
            obtain ⟨X, Y, hX, hcx, hcy⟩ := args2 has
            have hA := hρ X s hcx
            have hB := hρ Y b hcy
            have hr := extern_run (P := P) (w := w) (ρ := a.eval) (e := Extern.BytealgIndexByte.indexByte) ho hc rfl hf hbody' hname hor' (by rfl) (look_none _ nx_idxb nx_empty) (fun fn' h1 _ _ _ => find_plain gn_idxb ty_idxb al_idxb fn' h1)
            rw [hX] at hr
            simp only [COp.ev] at hev
            split at hev
            · rename_i l n e1 e2
              rw [e1] at hA; rw [e2] at hB
              obtain ⟨t, ht, rfl⟩ := hA
              rw [show (#[X, Y] : Array Operand).map a.eval = #[.string t, .int .u8 n] by simp [ht, int_rep hB], idxB_run] at hr
              split at hev
              · rename_i i hi
                injection hev with hev; injection hev with hv hS; subst hv; subst hS
                exact of_x hs (x := .int .i64 i) (by rw [hr, hi]; rfl) rfl
              · rename_i hi
                injection hev with hev; injection hev with hv hS; subst hv; subst hS
                exact of_x hs (x := .int .i64 (-1)) (by rw [hr, hi]; rfl) rfl
            · cases hev
          · -- CountString
            rename_i s b hname
            injection hop with hop; subst hop
            obtain ⟨X, Y, hX, hcx, hcy⟩ := args2 has
            have hA := hρ X s hcx
            have hB := hρ Y b hcy
            have hr := extern_run (P := P) (w := w) (ρ := a.eval) (e := Extern.BytealgCount.count) ho hc rfl hf hbody' hname hor' (by rfl) (look_none _ nx_cntb nx_empty) (fun fn' h1 _ _ _ => find_plain gn_cntb ty_cntb al_cntb fn' h1)
            rw [hX] at hr
            simp only [COp.ev] at hev
            split at hev
            · rename_i l n e1 e2
              injection hev with hev; injection hev with hv hS; subst hv; subst hS
              rw [e1] at hA; rw [e2] at hB
              obtain ⟨t, ht, rfl⟩ := hA
              rw [show (#[X, Y] : Array Operand).map a.eval = #[.string t, .int .u8 n] by simp [ht, int_rep hB], cntB_run] at hr
              exact of_x hs (by rw [hr]; rfl) rfl
            · cases hev
          · -- MakeNoZero
            rename_i x hname
            split at hop
            · rename_i t ht
              split at hop
              · rename_i el hel
                injection hop with hop; subst hop
                obtain ⟨X, hX, hcx⟩ := args1 has
                have hA := hρ X x hcx
                have hr := extern_run (P := P) (w := w) (ρ := a.eval) (e := Extern.BytealgMakeNoZero.makeNoZero fn.params fn.resultTypes) ho hc rfl hf hbody' hname hor' (by rfl) (look_none _ nx_noz nx_empty)
                  (fun fn' h1 h2 h3 h4 => by simp [Extern.find, h1, gn_noz, ty_noz, h3, h4])
                rw [hX] at hr
                simp only [COp.ev] at hev
                rw [show (#[X] : Array Operand).map a.eval = #[a.eval X] by simp] at hr
                split at hev
                · rename_i m hm
                  split at hev
                  · rename_i hb
                    injection hev with hev; injection hev with hv hS; subst hv; subst hS
                    obtain ⟨y, w', β', F', g1, g2⟩ := noz_ok (P := P) (ps := fn.params) (n := m.toNat) hs hel ht hA ⟨m, hm⟩ (by rw [hm]; simp [natOf, hb.1]) hb.2
                    exact ⟨y, w', β', F', .inl (by rw [hr]; simp [g1]), g2⟩
                  · cases hev
                · cases hev
              · cases hop
            · cases hop
          · cases hop
  · rename_i t as hc has
    injection hop with hop; subst hop; simp [COp.ev] at hev
  · -- len
    rename_i x hc has
    obtain ⟨X, hX, hcx⟩ := args1 has
    have hA := hρ X x hcx
    have hx : execOp a.eval o = (do pure (.value (← Builtin.len_ c.argTypes o.type #[a.eval X]))) := by rw [exec_builtin ho hc, hX]; simp only [builtin, List.map_toArray, List.map_cons, List.map_nil]
    split at hop
    · rename_i t ht
      split at hop
      · rename_i hu
        injection hop with hop; subst hop
        simp only [COp.ev] at hev
        generalize e1 : x.ev G e = X' at hev
        cases X' <;> simp only at hev <;> (try (cases hev; done))
        case str s =>
          injection hev with hev; injection hev with hv hS; subst hv; subst hS
          rw [e1] at hA
          obtain ⟨u, hu', rfl⟩ := hA
          rw [hu'] at hx
          exact of_r hs ⟨_, by simp only [Builtin.len_, ht, List.getElem?_toArray, List.getElem?_cons_zero, Sem.run_bind, run_underlying hu, Result.andThen_ok, Sem.run_pure]; rfl, by simp [Rep, goInt]⟩ hx
      · rename_i el hu
        injection hop with hop; subst hop
        simp only [COp.ev] at hev
        split at hev
        · rename_i n hn
          injection hev with hev; injection hev with hv hS; subst hv; subst hS
          obtain ⟨b, cc, hX', _⟩ := slLen_rep hn hA
          rw [hX'] at hx
          exact of_r hs ⟨_, by simp only [Builtin.len_, ht, List.getElem?_toArray, List.getElem?_cons_zero, Sem.run_bind, run_underlying hu, Result.andThen_ok, Sem.run_pure]; rfl, by simp [Rep, goInt]⟩ hx
        · cases hev
      · rename_i kt el hu
        injection hop with hop; subst hop
        simp only [COp.ev] at hev
        generalize e1 : x.ev G e = X' at hev
        cases X' <;> simp only at hev <;> (try (cases hev; done))
        case nmap =>
          injection hev with hev; injection hev with hv hS; subst hv; subst hS
          rw [e1] at hA
          rw [show a.eval X = .map none from hA] at hx
          exact of_r hs ⟨_, by simp only [Builtin.len_, ht, List.getElem?_toArray, List.getElem?_cons_zero, Sem.run_bind, run_underlying hu, Result.andThen_ok, Sem.run_pure]; rfl, by simp [Rep, goInt]⟩ hx
        case map b g =>
          split at hev
          · rename_i es clock hm
            injection hev with hev; injection hev with hv hS; subst hv; subst hS
            rw [e1] at hA
            obtain ⟨i, ents, q1, q2, q3, q4, q5, q6, _⟩ := map_row hs hA hm
            rw [q4] at hx
            have hgo := getObj_run (P := P) q5 (by simp)
            have hl := q6.length
            exact of_r hs ⟨_, by simp only [Builtin.len_, ht, List.getElem?_toArray, List.getElem?_cons_zero, Sem.run_bind, run_underlying hu, hgo, Result.andThen_ok, Sem.run_pure]; rfl, by simp only [Array.length_toList] at hl; simp [Rep, goInt, hl]⟩ hx
          · cases hev
      · rename_i n el hu
        injection hop with hop; subst hop
        simp only [COp.ev] at hev
        injection hev with hev; injection hev with hv hS; subst hv; subst hS
        exact of_r hs ⟨_, by simp only [Builtin.len_, ht, List.getElem?_toArray, List.getElem?_cons_zero, Sem.run_bind, run_underlying hu, Result.andThen_ok, Sem.run_pure]; rfl, by simp [Rep, goInt]⟩ hx
      · cases hop
    · cases hop
  · -- cap
    rename_i x hc has
    obtain ⟨X, hX, hcx⟩ := args1 has
    have hA := hρ X x hcx
    have hx : execOp a.eval o = (do pure (.value (← Builtin.cap_ c.argTypes o.type #[a.eval X]))) := by rw [exec_builtin ho hc, hX]; simp only [builtin, List.map_toArray, List.map_cons, List.map_nil]
    split at hop
    · rename_i t ht
      split at hop
      · rename_i el hu
        injection hop with hop; subst hop
        simp only [COp.ev] at hev
        split at hev
        · rename_i e1
          injection hev with hev; injection hev with hv hS; subst hv; subst hS
          rw [e1] at hA
          rw [show a.eval X = .slice none 0 0 from hA] at hx
          exact of_r hs ⟨_, by simp only [Builtin.cap_, ht, List.getElem?_toArray, List.getElem?_cons_zero, Sem.run_bind, run_underlying hu, Result.andThen_ok, Sem.run_pure]; rfl, by simp [Rep, goInt]⟩ hx
        · rename_i b g off sz ln cp e1
          injection hev with hev; injection hev with hv hS; subst hv; subst hS
          rw [e1] at hA
          obtain ⟨i, a', c', _, _, h3, _, h5, _⟩ := hA
          have := h5 _ rfl
          subst this
          rw [h3] at hx
          exact of_r hs ⟨_, by simp only [Builtin.cap_, ht, List.getElem?_toArray, List.getElem?_cons_zero, Sem.run_bind, run_underlying hu, Result.andThen_ok, Sem.run_pure]; rfl, by simp [Rep, goInt]⟩ hx
        · cases hev
      · cases hop
    · cases hop
  · -- append
    rename_i s x hc has
    obtain ⟨X, Y, hX, hcx, hcy⟩ := args2 has
    have hA := hρ X s hcx
    have hB := hρ Y x hcy
    have hx : execOp a.eval o = (do pure (.value (← Builtin.append_ c.argTypes o.type #[a.eval X, a.eval Y]))) := by rw [exec_builtin ho hc, hX]; simp only [builtin, List.map_toArray, List.map_cons, List.map_nil]
    split at hop
    · rename_i t u ht hu
      split at hop
      · rename_i el el' h1 h2
        split at hop
        · rename_i sz b z q1 q2 q3
          split at hop
          · cases hop
          · rename_i hc'
            injection hop with hop; subst hop
            simp only [COp.ev] at hev
            split at hev
            · cases hev
            · rename_i n new hsrc
              exact of_v (app_ok (P := P) hs ht hu h1 ⟨_, h2, by simp⟩ q1 q2 q3 (by omega) (by omega) (by omega) (by simp) hA hB hsrc hev) hx
        · cases hop
      · rename_i el h1 h2
        split at hop
        · rename_i sz b z q1 q2 q3
          split at hop
          · cases hop
          · rename_i hc'
            injection hop with hop; subst hop
            simp only [COp.ev] at hev
            split at hev
            · cases hev
            · rename_i n new hsrc
              exact of_v (app_ok (P := P) hs ht hu h1 ⟨_, h2, by simp⟩ q1 q2 q3 (by omega) (by omega) (by omega) (by intro _; omega) hA hB hsrc hev) hx
        · cases hop
      · cases hop
    · cases hop
  · -- copy
    rename_i s x hc has
    obtain ⟨X, Y, hX, hcx, hcy⟩ := args2 has
    have hA := hρ X s hcx
    have hB := hρ Y x hcy
    have hx : execOp a.eval o = (do pure (.value (← Builtin.copy_ c.argTypes o.type #[a.eval X, a.eval Y]))) := by rw [exec_builtin ho hc, hX]; simp only [builtin, List.map_toArray, List.map_cons, List.map_nil]
    split at hop
    · rename_i t u ht hu
      split at hop
      · rename_i el el' h1 h2
        split at hop
        · rename_i sz q1
          split at hop
          · cases hop
          · injection hop with hop; subst hop
            simp only [COp.ev] at hev
            exact of_v (copy_ok (P := P) hs ht h1 q1 (by simp) hA hB hev) hx
        · cases hop
      · rename_i el h1 h2
        split at hop
        · rename_i sz q1
          split at hop
          · cases hop
          · injection hop with hop; subst hop
            simp only [COp.ev] at hev
            exact of_v (copy_ok (P := P) hs ht h1 q1 (by intro _; omega) hA hB hev) hx
        · cases hop
      · cases hop
    · cases hop
  · -- delete
    rename_i s x hc has
    obtain ⟨X, Y, hX, hcx, hcy⟩ := args2 has
    have hA := hρ X s hcx
    have hB := hρ Y x hcy
    have hx : execOp a.eval o = (do pure (.value (← Builtin.delete_ c.argTypes o.type #[a.eval X, a.eval Y]))) := by rw [exec_builtin ho hc, hX]; simp only [builtin, List.map_toArray, List.map_cons, List.map_nil]
    split at hop
    · rename_i t ht
      split at hop
      · rename_i kt vt h1
        simp only [Option.map_eq_some_iff] at hop
        obtain ⟨kk, hkk, rfl⟩ := hop
        simp only [COp.ev] at hev
        obtain ⟨h2, rfl⟩ := map_pair' hev
        obtain ⟨w', g1, g2, g3⟩ := del_ok (P := P) (T := o.type) hs ht h1 hkk hA hB h2
        exact of_v ⟨_, w', β, F, g1, ⟨#[], rfl, rfl⟩, g2, g3⟩ hx
      · cases hop
    · cases hop
  · -- max
    rename_i s x hc has
    obtain ⟨X, Y, hX, hcx, hcy⟩ := args2 has
    have hA := hρ X s hcx
    have hB := hρ Y x hcy
    have hx : execOp a.eval o = (do pure (.value (← Builtin.max_ c.argTypes o.type #[a.eval X, a.eval Y]))) := by rw [exec_builtin ho hc, hX]; simp only [builtin, List.map_toArray, List.map_cons, List.map_nil]
    injection hop with hop; subst hop
    simp only [COp.ev] at hev
    split at hev
    · rename_i k m k' m' e1 e2
      injection hev with hev; injection hev with hv hS; subst hv; subst hS
      rw [e1] at hA; rw [e2] at hB
      rw [int_rep hA, int_rep hB] at hx
      exact of_r hs ⟨_, by simp only [Builtin.max_, List.foldlM, Builtin.max2, Sem.run_bind, Sem.run_pure, Result.andThen_ok]; rfl, by simp [Rep]⟩ hx
    · cases hev
  · -- min
    rename_i s x hc has
    obtain ⟨X, Y, hX, hcx, hcy⟩ := args2 has
    have hA := hρ X s hcx
    have hB := hρ Y x hcy
    have hx : execOp a.eval o = (do pure (.value (← Builtin.min_ c.argTypes o.type #[a.eval X, a.eval Y]))) := by rw [exec_builtin ho hc, hX]; simp only [builtin, List.map_toArray, List.map_cons, List.map_nil]
    injection hop with hop; subst hop
    simp only [COp.ev] at hev
    split at hev
    · rename_i k m k' m' e1 e2
      injection hev with hev; injection hev with hv hS; subst hv; subst hS
      rw [e1] at hA; rw [e2] at hB
      rw [int_rep hA, int_rep hB] at hx
      exact of_r hs ⟨_, by simp only [Builtin.min_, List.foldlM, Builtin.min2, Sem.run_bind, Sem.run_pure, Result.andThen_ok]; rfl, by simp [Rep]⟩ hx
    · cases hev
  · -- unsafe.SliceData
    rename_i x hc has
    obtain ⟨X, hX, hcx⟩ := args1 has
    have hA := hρ X x hcx
    have hx : execOp a.eval o = (do pure (.value (← Builtin.unsafeSliceData_ c.argTypes o.type #[a.eval X]))) := by rw [exec_builtin ho hc, hX]; simp only [builtin, List.map_toArray, List.map_cons, List.map_nil]
    injection hop with hop; subst hop
    simp only [COp.ev] at hev
    split at hev
    · rename_i e1
      injection hev with hev; injection hev with hv hS; subst hv; subst hS
      rw [e1] at hA
      exact of_r hs (usd_run hs hA rfl) hx
    · rename_i b g off sz ln cp e1
      split at hev
      · rename_i hl
        injection hev with hev; injection hev with hv hS; subst hv; subst hS
        rw [e1] at hA
        exact of_r hs (usd_run hs hA (by simp [hl])) hx
      · cases hev
    · cases hev
  · -- unsafe.String
    rename_i p n hc has
    obtain ⟨X, Y, hX, hcx, hcy⟩ := args2 has
    have hA := hρ X p hcx
    have hB := hρ Y n hcy
    have hx : execOp a.eval o = (do pure (.value (← Builtin.unsafeString_ c.argTypes o.type #[a.eval X, a.eval Y]))) := by rw [exec_builtin ho hc, hX]; simp only [builtin, List.map_toArray, List.map_cons, List.map_nil]
    split at hop
    · rename_i t ht
      split at hop
      · rename_i el h1
        split at hop
        · rename_i q1 q2
          injection hop with hop; subst hop
          simp only [COp.ev] at hev
          split at hev
          · rename_i e1 e2
            injection hev with hev; injection hev with hv hS; subst hv; subst hS
            rw [e1] at hA
            exact of_r hs ⟨_, ustr0_run ht h1 ⟨_, hA⟩ hB e2, ⟨_, rfl, rfl⟩⟩ hx
          · rename_i e1 e2
            injection hev with hev; injection hev with hv hS; subst hv; subst hS
            rw [e1] at hA
            obtain ⟨_, _, _, _, h3, _⟩ := hA
            exact of_r hs ⟨_, ustr0_run ht h1 ⟨_, h3⟩ hB e2, ⟨_, rfl, rfl⟩⟩ hx
          · rename_i b g off m e1 e2
            split at hev
            · rename_i cs ty' gen sk hb
              split at hev
              · rename_i hcc
                obtain ⟨rfl, hle, rfl, hbg⟩ := hcc
                split at hev
                · rename_i s hs'
                  injection hev with hev; injection hev with hv hS; subst hv; subst hS
                  rw [e1] at hA
                  exact of_v (ustr_ok (P := P) hs ht h1 q2 hA hB e2 (by unfold big at hbg; omega) hb hle hs') hx
                · cases hev
              · cases hev
            · cases hev
          · cases hev
        · cases hop
      · cases hop
    · cases hop
  · -- recover
    rename_i hc has
    injection hop with hop; subst hop; simp [COp.ev] at hev
  · cases hop

end Go.AM

set_option linter.unusedSimpArgs false
set_option linter.unusedVariables false
namespace Go.AM

variable {P : Program} {pu : Nat → Nat} {β : Beta} {F : Fz} {w : World} {S : Store} {G : Globs} {e : Env} {a : Act}

theorem opt_rel (hρ : OpdRel G β F w e a.eval) {x : Option Operand} {c : Option Opd} (h : cOpt x = some c) : OptRel β F w (c.map (·.ev G e)) (x.map a.eval) := by
  cases x with
  | none => simp [cOpt] at h; subst h; exact trivial
  | some y =>
    simp only [cOpt, Option.map_eq_some_iff] at h
    obtain ⟨d, hd, rfl⟩ := h
    exact hρ y d hd

theorem opds_rel (hρ : OpdRel G β F w e a.eval) : ∀ {l : List Operand} {c : List Opd}, cOpds l = some c → RepL β F w (c.map (·.ev G e)) (l.map a.eval)
  | [], c, h => by simp [cOpds] at h; subst h; exact rfl
  | x :: xs, c, h => by
    simp only [cOpds] at h
    split at h
    · rename_i b bs hb hbs
      injection h with h; subst h
      exact ⟨_, _, rfl, hρ x b hb, opds_rel hρ hbs⟩
    · cases h

theorem opds_arr (hρ : OpdRel G β F w e a.eval) {l : Array Operand} {c : List Opd} (h : cOpds l.toList = some c) : RepL β F w (c.map (·.ev G e)) (l.map a.eval).toList := by
  rw [Array.toList_map]; exact opds_rel hρ h

theorem newMap_ok (hs : StoreRel β F w S) {s : Sem Value} (h : s.run P w = .ok (.map (some w.heap.size)) (w.alloc (.map #[] 0))) : VOK P β F w s (.map S.length 0) (S ++ [.map [] 0 0]) := by
  have hg : (w.alloc (.map #[] 0)).heap[w.heap.size]? = some (.map #[] 0) := by rw [heap_alloc, if_pos rfl]
  refine ⟨_, _, β ++ [⟨w.heap.size, 0, 0, 0⟩], F, h, ?_, StoreRel.push hs _ (.map [] 0 0) ⟨w.heap.size, 0, 0, 0⟩ rfl rfl ?_, Ext.push _ _ rfl⟩
  · exact ⟨⟨w.heap.size, 0, 0, 0⟩, w.heap.size, by rw [hs.len]; simp, Nat.le_refl _, rfl, fun _ => rfl⟩
  · exact ⟨#[], hg, rfl, by simp, by simp⟩

theorem op_sound (hρ : OpdRel G β F w e a.eval) (hs : StoreRel β F w S) {o : Oper} {co : COp} (hop : cOp P pu o = some co) {v : AV} {S' : Store}
    (hev : co.ev G e S = some (v, S')) : OpOK P β F w (execOp a.eval o) v S' := by
  have mv : ∀ x, execOp a.eval o = (pure (.value (a.eval x)) : Sem Next) → (cOpd x).map COp.mov = some co → OpOK P β F w (execOp a.eval o) v S' := by
    intro x hx h
    simp only [Option.map_eq_some_iff] at h
    obtain ⟨d, hd, rfl⟩ := h
    simp only [COp.ev] at hev
    injection hev with hev; injection hev with hv hS; subst hv; subst hS
    exact of_x hs (x := a.eval x) (by rw [hx]; rfl) (hρ x d hd)
  unfold cOp at hop
  split at hop
  · rename_i x ho
    exact mv x (by simp only [execOp, ho]) hop
  · rename_i x ho
    exact mv x (by simp only [execOp, ho]) hop
  · -- pick
    rename_i c x y ho
    split at hop
    · rename_i cc cx cy hc hx hy
      injection hop with hop; subst hop
      have hC := hρ c cc hc
      simp only [COp.ev] at hev
      split at hev
      · rename_i t e1
        injection hev with hev; injection hev with hv hS; subst hv; subst hS
        rw [e1] at hC
        have hC := bool_rep hC
        refine of_x hs (x := if t then a.eval x else a.eval y) ?_ ?_
        · simp [execOp, ho, hC, asBool]
        · cases t
          · exact hρ y cy hy
          · exact hρ x cx hx
      · cases hev
    · cases hop
  · rename_i op t x y yt ho; exact sound_bin hρ hs hop hev ho
  · -- unOp
    rename_i op t x ho
    simp only [Option.map_eq_some_iff] at hop
    obtain ⟨d, hd, rfl⟩ := hop
    simp only [COp.ev] at hev
    obtain ⟨h1, rfl⟩ := map_pair hev
    exact of_r hs (unV_run h1 (hρ x d hd)) (by simp only [execOp, ho])
  · rename_i s d x ho; exact sound_conv hρ hs hop hev ho
  · -- field
    rename_i t x f ho
    split at hop
    · rename_i fs ht
      split at hop
      · rename_i fl hf
        split at hop
        · rename_i n g d hn hg hd
          injection hop with hop; subst hop
          have hA := hρ x d hd
          simp only [COp.ev] at hev
          split at hev
          · rename_i cs e1
            obtain ⟨h1, rfl⟩ := map_pair hev
            rw [e1] at hA
            exact of_r hs (field_run ht hf hn hg h1 hA) (by simp only [execOp, ho])
          · cases hev
        · cases hop
      · cases hop
    · cases hop
  · -- index
    rename_i t x i ho
    split at hop
    · rename_i n el cx ci ht hx hi
      split at hop
      · rename_i sz g hn hg
        injection hop with hop; subst hop
        have hA := hρ x cx hx
        have hB := hρ i ci hi
        simp only [COp.ev] at hev
        split at hev
        · rename_i cs k e1 e2
          split at hev
          · rename_i hlt
            obtain ⟨h1, rfl⟩ := map_pair hev
            rw [e1] at hA
            exact of_r hs (idxA_run ht hn hg e2 hlt h1 hA hB) (by simp only [execOp, ho])
          · cases hev
        · cases hev
      · cases hop
    · rename_i cx ci ht hx hi
      injection hop with hop; subst hop
      have hA := hρ x cx hx
      have hB := hρ i ci hi
      simp only [COp.ev] at hev
      split at hev
      · rename_i s k e1 e2
        split at hev
        · rename_i c hc
          injection hev with hev; injection hev with hv hS; subst hv; subst hS
          rw [e1] at hA
          exact of_r hs ⟨_, idxS_run ht e2 hc hA hB, rfl⟩ (by simp only [execOp, ho])
        · cases hev
      · cases hev
    · cases hop
  · -- extract
    rename_i x i ho
    simp only [Option.map_eq_some_iff] at hop
    obtain ⟨d, hd, rfl⟩ := hop
    have hA := hρ x d hd
    simp only [COp.ev] at hev
    split at hev
    · rename_i vs e1
      obtain ⟨h1, rfl⟩ := map_pair hev
      rw [e1] at hA
      exact of_r hs (extr_run h1 hA) (by simp only [execOp, ho])
    · cases hev
  · -- build
    rename_i t parts ho
    split at hop
    · rename_i fs z ht hz
      split at hop
      · rename_i hf
        simp only [Option.map_eq_some_iff] at hop
        obtain ⟨qs, hq, rfl⟩ := hop
        simp only [COp.ev, Option.map_eq_some_iff] at hev
        obtain ⟨r, hr, hev⟩ := hev
        injection hev with hv hS; subst hv; subst hS
        exact of_r hs (build_run hρ ht hz hf hq hr) (by simp only [execOp, ho])
      · cases hop
    · rename_i n el z ht hz
      split at hop
      · rename_i sz ps hn hp
        injection hop with hop; subst hop
        simp only [COp.ev, Option.map_eq_some_iff] at hev
        obtain ⟨r, hr, hev⟩ := hev
        injection hev with hv hS; subst hv; subst hS
        exact of_r hs (buildA_run hρ ht hz hn hp hr) (by simp only [execOp, ho])
      · cases hop
    · cases hop
  · -- nilCheck
    rename_i x ho
    simp only [Option.map_eq_some_iff] at hop
    obtain ⟨d, hd, rfl⟩ := hop
    have hA := hρ x d hd
    simp only [COp.ev] at hev
    split at hev
    · rename_i b g off e1
      injection hev with hev; injection hev with hv hS; subst hv; subst hS
      rw [e1] at hA
      obtain ⟨i, p, _, _, hp, _⟩ := id hA
      exact of_x hs (x := a.eval x) (by simp only [execOp, ho, hp, Sem.run_pure]) hA
    · rename_i cells e1
      injection hev with hev; injection hev with hv hS; subst hv; subst hS
      rw [e1] at hA
      obtain ⟨blk, off, hp, _⟩ := id hA
      exact of_x hs (x := a.eval x) (by simp only [execOp, ho, hp, Sem.run_pure]) hA
    · rename_i f fs cs e1
      injection hev with hev; injection hev with hv hS; subst hv; subst hS
      rw [e1] at hA
      obtain ⟨p, q, hp, _⟩ := id hA
      exact of_x hs (x := a.eval x) (by simp only [execOp, ho, hp, Sem.run_pure]) hA
    · cases hev
  · -- makeInterface
    rename_i t x ho
    split at hop
    · cases hop
    · rename_i d ht ht'
      simp only [Option.map_eq_some_iff] at hop
      obtain ⟨c, hc, rfl⟩ := hop
      have hA := hρ x c hc
      simp only [COp.ev] at hev
      injection hev with hev; injection hev with hv hS; subst hv; subst hS
      refine of_r hs (s := Instr.makeInterface t (a.eval x)) ⟨.iface t (a.eval x), ?_, ⟨_, rfl, hA⟩⟩ (by simp only [execOp, ho])
      simp only [Instr.makeInterface, Sem.run_bind, run_underlying ht', Result.andThen_ok]
      rfl
    · cases hop
  · -- makeFunc
    rename_i f first caps ho
    split at hop
    · rename_i c1 c2 h1 h2
      injection hop with hop; subst hop
      simp only [COp.ev] at hev
      injection hev with hev; injection hev with hv hS; subst hv; subst hS
      exact of_r hs (s := Instr.makeFunc (.func f) (first.map a.eval) (caps.map a.eval)) ⟨.func (.func f) (first.map a.eval) (caps.map a.eval), rfl, ⟨_, _, rfl, opds_arr hρ h1, opds_arr hρ h2⟩⟩ (by simp only [execOp, ho])
    · cases hop
  · -- typeAssert
    rename_i x xt t ok ho
    split at hop
    · cases hop
    · rename_i d ht ht'
      split at hop
      · rename_i c z hc hz
        injection hop with hop; subst hop
        have hA := hρ x c hc
        obtain ⟨zv, hzv, hzr, _⟩ := zero_run (β := β) (F := F) (w := w) hz
        simp only [COp.ev] at hev
        split at hev
        · rename_i t' y e1
          rw [e1] at hA
          obtain ⟨Y, hY, hyr⟩ := hA
          split at hev
          · rename_i heq
            subst heq
            injection hev with hev; injection hev with hv hS; subst hv; subst hS
            refine of_r hs (s := Instr.typeAssert (a.eval x) xt t' ok) ⟨if ok then .tuple #[Y, .bool true] else Y, ?_, ?_⟩ (by simp only [execOp, ho])
            · rw [hY]
              cases d <;> simp only [Instr.typeAssert, Sem.run_bind, run_underlying ht', Result.andThen_ok, if_true, Sem.run_pure]
              rename_i ms; exact absurd rfl (ht ms)
            · cases ok
              · exact hyr
              · exact ⟨_, rfl, _, _, rfl, hyr, _, _, rfl, rfl, rfl⟩
          · rename_i hne
            split at hev
            · rename_i hok
              subst hok
              injection hev with hev; injection hev with hv hS; subst hv; subst hS
              refine of_r hs (s := Instr.typeAssert (a.eval x) xt t true) ⟨.tuple #[zv, .bool false], ?_, ⟨_, rfl, _, _, rfl, hzr, _, _, rfl, rfl, rfl⟩⟩ (by simp only [execOp, ho])
              rw [hY]
              cases d <;> simp only [Instr.typeAssert, Sem.run_bind, run_underlying ht', Result.andThen_ok, if_neg hne, if_true, hzv, Sem.run_pure]
              rename_i ms; exact absurd rfl (ht ms)
            · cases hev
        · rename_i e1
          rw [e1] at hA
          split at hev
          · rename_i hok
            subst hok
            injection hev with hev; injection hev with hv hS; subst hv; subst hS
            refine of_r hs (s := Instr.typeAssert (a.eval x) xt t true) ⟨.tuple #[zv, .bool false], ?_, ⟨_, rfl, _, _, rfl, hzr, _, _, rfl, rfl, rfl⟩⟩ (by simp only [execOp, ho])
            rw [show a.eval x = .nilIface from hA]
            cases d <;> simp only [Instr.typeAssert, Sem.run_bind, run_underlying ht', Result.andThen_ok, if_true, hzv, Sem.run_pure]
          · cases hev
        · cases hev
      · cases hop
    · cases hop
  · -- fieldAddr
    rename_i s x f ho
    split at hop
    · rename_i fs ht
      split at hop
      · rename_i fl hf
        split at hop
        · rename_i n c hn hc
          injection hop with hop; subst hop
          simp only [COp.ev] at hev
          obtain ⟨h1, rfl⟩ := map_pair hev
          exact of_r hs (faddr_run ht hf hn (hρ x c hc) h1) (by simp only [execOp, ho])
        · cases hop
      · cases hop
    · cases hop
  · -- indexAddr
    rename_i t x i ho
    split at hop
    · rename_i n el cx ci ht hx hi
      simp only [Option.map_eq_some_iff] at hop
      obtain ⟨sz, hn, rfl⟩ := hop
      simp only [COp.ev] at hev
      split at hev
      · rename_i k e1
        obtain ⟨h1, rfl⟩ := map_pair hev
        exact of_r hs (iaddrA_run ht hn e1 (hρ x cx hx) (hρ i ci hi) h1) (by simp only [execOp, ho])
      · cases hev
    · rename_i el cx ci ht hx hi
      simp only [Option.map_eq_some_iff] at hop
      obtain ⟨sz, hn, rfl⟩ := hop
      simp only [COp.ev] at hev
      split at hev
      · rename_i k e1
        obtain ⟨h1, rfl⟩ := map_pair hev
        exact of_r hs (iaddr_run ht hn e1 (hρ x cx hx) (hρ i ci hi) h1) (by simp only [execOp, ho])
      · cases hev
    · cases hop
  · -- alloc
    rename_i t ho
    simp only [Option.map_eq_some_iff] at hop
    obtain ⟨z, hz, rfl⟩ := hop
    simp only [COp.ev] at hev
    injection hev with hev; injection hev with hv hS; subst hv; subst hS
    exact of_v (alloc_ok hs hz) (by simp only [execOp, ho])
  · -- box
    rename_i t x ho
    simp only [Option.map_eq_some_iff] at hop
    obtain ⟨c, hc, rfl⟩ := hop
    simp only [COp.ev] at hev
    split at hev
    · rename_i hsol
      injection hev with hev; injection hev with hv hS; subst hv; subst hS
      exact of_v (box_ok hs hsol (hρ x c hc)) (by simp only [execOp, ho])
    · cases hev
  · -- buildSlice
    rename_i t n parts ho
    split at hop
    · rename_i el ht
      split at hop
      · rename_i sz z ps hn hz hp
        split at hop
        · rename_i hc
          injection hop with hop; subst hop
          simp only [COp.ev] at hev
          split at hev
          · rename_i h0
            subst h0
            split at hev
            · injection hev with hev; injection hev with hv hS; subst hv; subst hS
              obtain ⟨y, w', β', g1, g2, g3, g4⟩ := bslice0_ok (P := P) (ρ := a.eval) hs ht hn hp rfl
              exact of_v ⟨y, w', β', F, g1, g2, g3, g4⟩ (by simp only [execOp, ho])
            · cases hev
          · rename_i h0
            split at hev
            · rename_i cs hf
              injection hev with hev; injection hev with hv hS; subst hv; subst hS
              exact of_v (bslice_ok hs hρ ht hn hz hc.1 hc.2.2 hc.2.1 h0 hp hf) (by simp only [execOp, ho])
            · cases hev
        · cases hop
      · cases hop
    · cases hop
  · -- makeSlice
    rename_i t l c ho
    split at hop
    · rename_i el ht
      split at hop
      · rename_i sz b z cl cc hn hb hz hl hc
        split at hop
        · rename_i hcond
          injection hop with hop; subst hop
          simp only [COp.ev] at hev
          split at hev
          · rename_i ln cp e1 e2
            split at hev
            · rename_i h3
              injection hev with hev; injection hev with hv hS; subst hv; subst hS
              exact of_v (mslice_ok hs ht hn hb hz hcond.1 hcond.2 e1 e2 (hρ l cl hl) (hρ c cc hc) h3.1 h3.2.1 h3.2.2) (by simp only [execOp, ho])
            · cases hev
          · cases hev
        · cases hop
      · cases hop
    · cases hop
  · -- makeMap
    rename_i t ho
    injection hop with hop; subst hop
    simp only [COp.ev] at hev
    injection hev with hev; injection hev with hv hS; subst hv; subst hS
    exact of_v (newMap_ok (P := P) hs (s := Instr.makeMap t none) (by simp [Instr.makeMap])) (by simp only [execOp, ho, Option.map_none])
  · rename_i t k n ho
    split at hop
    · rename_i ht
      injection hop with hop; subst hop
      simp only [COp.ev] at hev
      injection hev with hev; injection hev with hv hS; subst hv; subst hS
      exact of_v (newMap_ok (P := P) hs (s := Instr.makeMap t (some (.int k n))) (by simp [Instr.makeMap, run_underlying ht, asInt, asIntOf])) (by simp only [execOp, ho, Option.map_some]; rfl)
    · cases hop
  · -- load
    rename_i t x ho
    split at hop
    · rename_i n g c hn hg hc
      injection hop with hop; subst hop
      simp only [COp.ev] at hev
      obtain ⟨h1, rfl⟩ := map_pair hev
      exact of_r hs (load_run hs hn hg (hρ x c hc) h1) (by simp only [execOp, ho])
    · cases hop
  · -- store
    rename_i t x y ho
    split at hop
    · rename_i n c d hn hc hd
      injection hop with hop; subst hop
      have hA := hρ x c hc
      simp only [COp.ev] at hev
      split at hev
      · rename_i b g off e1
        split at hev
        · rename_i hcond
          obtain ⟨h1, rfl⟩ := map_pair' hev
          rw [e1] at hA
          exact of_u (store_run hs hn hA (hρ y d hd) hcond.1 hcond.2 h1) (by simp only [execOp, ho])
        · cases hev
      · cases hev
    · cases hop
  · -- slice
    rename_i t x lo hi mx ho
    split at hop
    · rename_i cx cl ch ht hx hl hh hm
      injection hop with hop; subst hop
      simp only [COp.ev] at hev
      obtain ⟨h1, rfl⟩ := map_pair hev
      have hm' : mx = none := by cases mx with | none => rfl | some y => simp [cOpt] at hm
      exact of_r hs (slStr_run ht (hρ x cx hx) (opt_rel hρ hl) (opt_rel hρ hh) h1) (by simp only [execOp, ho, hm', Option.map_none])
    · rename_i el cx cl ch cm ht hx hl hh hm
      split at hop
      · rename_i sz hn
        split at hop
        · cases hop
        · rename_i hc
          injection hop with hop; subst hop
          simp only [COp.ev] at hev
          obtain ⟨h1, rfl⟩ := map_pair hev
          have hsz : 0 < sz := by omega
          have hmh : (cm.map (·.ev G e)).isSome → (ch.map (·.ev G e)).isSome := by
            intro h
            cases ch with
            | some _ => rfl
            | none =>
              exfalso; apply hc; left
              cases cm with | none => cases h | some _ => exact ⟨rfl, rfl⟩
          exact of_r hs (slS_run ht hn hsz (hρ x cx hx) (opt_rel hρ hl) (opt_rel hρ hh) (opt_rel hρ hm) hmh h1) (by simp only [execOp, ho])
      · cases hop
    · rename_i n el cx cl ch ht hx hl hh hm
      simp only [Option.map_eq_some_iff] at hop
      obtain ⟨sz, hn, rfl⟩ := hop
      simp only [COp.ev] at hev
      obtain ⟨h1, rfl⟩ := map_pair hev
      have hm' : mx = none := by cases mx with | none => rfl | some y => simp [cOpt] at hm
      exact of_r hs (slP_run (.inl ht) hn (hρ x cx hx) (opt_rel hρ hl) (opt_rel hρ hh) h1) (by simp only [execOp, ho, hm', Option.map_none])
    · rename_i arr cx cl ch ht hx hl hh hm
      split at hop
      · rename_i n el ha
        simp only [Option.map_eq_some_iff] at hop
        obtain ⟨sz, hn, rfl⟩ := hop
        simp only [COp.ev] at hev
        obtain ⟨h1, rfl⟩ := map_pair hev
        have hm' : mx = none := by cases mx with | none => rfl | some y => simp [cOpt] at hm
        exact of_r hs (slP_run (.inr ⟨_, ht, ha⟩) hn (hρ x cx hx) (opt_rel hρ hl) (opt_rel hρ hh) h1) (by simp only [execOp, ho, hm', Option.map_none])
      · cases hop
    · cases hop
  · -- lookup
    rename_i t m k ok ho
    split at hop
    · rename_i kt el cm ck ht hm hk
      split at hop
      · rename_i kk z hkk hz
        injection hop with hop; subst hop
        simp only [COp.ev] at hev
        obtain ⟨h1, rfl⟩ := map_pair hev
        exact of_r hs (look_run hs ht hkk hz (hρ m cm hm) (hρ k ck hk) h1) (by simp only [execOp, ho])
      · cases hop
    · cases hop
  · -- mapUpdate
    rename_i t m k x ho
    split at hop
    · rename_i kt el cm ck cx ht hm hk hx
      simp only [Option.map_eq_some_iff] at hop
      obtain ⟨kk, hkk, rfl⟩ := hop
      simp only [COp.ev] at hev
      obtain ⟨h1, rfl⟩ := map_pair' hev
      exact of_u (mupd_ok hs ht hkk (hρ m cm hm) (hρ k ck hk) (hρ x cx hx) h1) (by simp only [execOp, ho])
    · cases hop
  · rename_i t m k x ho
    split at hop
    · rename_i kt el cm ck cx ht hm hk hx
      simp only [Option.map_eq_some_iff] at hop
      obtain ⟨kk, hkk, rfl⟩ := hop
      simp only [COp.ev] at hev
      obtain ⟨h1, rfl⟩ := map_pair' hev
      exact of_u (mupd_ok hs ht hkk (hρ m cm hm) (hρ k ck hk) (hρ x cx hx) h1) (by simp only [execOp, ho])
    · cases hop
  · -- range
    rename_i t x ho
    split at hop
    · rename_i ht
      simp only [Option.map_eq_some_iff] at hop
      obtain ⟨c, hc, rfl⟩ := hop
      exact of_v (rng_ok (isStr := true) (G := G) (e := e) (v := c.ev G e) hs (by simpa using ht) (hρ x c hc) (by simpa [COp.ev, Opd.ev] using hev)) (by simp only [execOp, ho])
    · rename_i kt el ht
      simp only [Option.map_eq_some_iff] at hop
      obtain ⟨c, hc, rfl⟩ := hop
      exact of_v (rng_ok (isStr := false) (G := G) (e := e) (v := c.ev G e) hs (by simpa using ⟨_, _, ht⟩) (hρ x c hc) (by simpa [COp.ev, Opd.ev] using hev)) (by simp only [execOp, ho])
    · cases hop
  · -- next
    rename_i x s ho
    simp only [Option.map_eq_some_iff] at hop
    obtain ⟨c, hc, rfl⟩ := hop
    have hA := hρ x c hc
    simp only [COp.ev] at hev
    split at hev
    · rename_i b g e1
      rw [e1] at hA
      split at hev
      · rename_i st pos hb
        obtain ⟨n1, n2⟩ := nxtS_ok (P := P) (ty := o.type) hs hA hb
        split at hev
        · rename_i ch hch
          split at hev
          · rename_i hlt
            injection hev with hev; injection hev with hv hS; subst hv; subst hS
            exact of_v (n1 ch hch hlt) (by simp only [execOp, ho])
          · cases hev
        · split at hev
          · cases hev
          · rename_i hlt
            injection hev with hev; injection hev with hv hS; subst hv; subst hS
            exact of_v (n2 (by omega)) (by simp only [execOp, ho])
      · cases hev
    · cases hev
  · -- entry
    rename_i x ho
    simp only [Option.map_eq_some_iff] at hop
    obtain ⟨c, hc, rfl⟩ := hop
    have hS : S' = S := by
      simp only [COp.ev] at hev
      repeat (first | (split at hev) | (injection hev with hev; injection hev with hv hS; exact hS.symm) | cases hev)
    subst hS
    exact of_r hs (entry_run (G := G) (e := e) (v := c.ev G e) hs (hρ x c hc) (by simpa [COp.ev, Opd.ev] using hev)) (by simp only [execOp, ho])
  · rename_i c ho; exact sound_call hρ hs hop hev ho
  · -- panic
    rename_i x ho
    simp only [Option.map_eq_some_iff] at hop
    obtain ⟨c, hc, rfl⟩ := hop
    simp [COp.ev] at hev
  · -- defer
    rename_i c ho
    split at hop
    · injection hop with hop; subst hop; simp [COp.ev] at hev
    · cases hop
  · cases hop

end Go.AM
